import PyProof.Rows.All
import Wide.All
import OpenK.AllK
import Wide.FinOn
import HandS.ForMost
import HandS.Flow
import HandS.Style
import HandS.Wide
import HandS.TupAny
import HandS.TupMul
import HandS.IsInst
import HandS.Conv
import HandS.Iter
import KE.GoesEnum
import KE.GoesMore
import HandS.TupLe
import HandS.Dict
import HandS.SortKw
import KE.KMinKey
import HandS.SortInts
import HandS.Conv
import HandS.Zip
import KE.SortData
import KE.SortKeyHeap
import HandS.Exc
import KE.KDictWalk
import KE.KPairComp
import PySem.Challenge.RW_clubsturned_k63_products_and_derivatives
set_option Elab.async false
set_option linter.all false
set_option maxRecDepth 100000
set_option maxHeartbeats 4000000
/-! ## CsSem -/
/-! Plain values, a store of lists, results; what each construct means. No machine here. -/
namespace Cs
open PySem

/-- a value: tuples by value, a list that may change by its number in the store, a list that stays by value -/
inductive D where
  | non | bl (b : Bool) | int (i : Int) | str (x : Str) | tup (xs : List D) | fix (xs : List D) | ref (i : Nat)
  deriving Inhabited

/-- what stands in the store -/
inductive O where
  | lst (xs : List D)
  | dct (kvs : List (D × D))
  deriving Inhabited

/-! ### the store: a binary tree by number -/
inductive Tr where
  | lf
  | nd (v : Option O) (l r : Tr)
  deriving Inhabited
def Tr.get : Tr → Nat → Option O
  | .lf, _ => none
  | .nd v l r, n => if n = 0 then v else if n % 2 = 1 then l.get (n / 2) else r.get (n / 2 - 1)
def Tr.put : Nat → Tr → Nat → O → Tr
  | 0, t, _, _ => t
  | f + 1, .lf, n, o => if n = 0 then .nd (some o) .lf .lf else if n % 2 = 1 then .nd none (Tr.put f .lf (n / 2) o) .lf else .nd none .lf (Tr.put f .lf (n / 2 - 1) o)
  | f + 1, .nd v l r, n, o => if n = 0 then .nd (some o) l r else if n % 2 = 1 then .nd v (Tr.put f l (n / 2) o) r else .nd v l (Tr.put f r (n / 2 - 1) o)
theorem Tr.get_put : ∀ (f : Nat) (t : Tr) (n m : Nat) (o : O), n < f → (Tr.put f t n o).get m = if m = n then some o else t.get m := by
  intro f
  induction f with
  | zero => intro t n m o h; exact absurd h (Nat.not_lt_zero _)
  | succ f ih =>
    intro t n m o h
    cases t with
    | lf =>
      unfold Tr.put
      by_cases h0 : n = 0
      · rw [if_pos h0]
        by_cases hm : m = 0
        · rw [h0, hm]; rfl
        · show (if m = 0 then some o else if m % 2 = 1 then Tr.lf.get (m / 2) else Tr.lf.get (m / 2 - 1)) = if m = n then some o else none
          rw [if_neg hm, if_neg (show ¬ m = n by omega)]
          split <;> rfl
      · rw [if_neg h0]
        by_cases h1 : n % 2 = 1
        · rw [if_pos h1]
          show (if m = 0 then none else if m % 2 = 1 then (Tr.put f .lf (n / 2) o).get (m / 2) else Tr.lf.get (m / 2 - 1)) = _
          rw [ih _ _ _ _ (by omega)]
          show (if m = 0 then none else if m % 2 = 1 then (if m / 2 = n / 2 then some o else none) else none) = if m = n then some o else none
          by_cases hm : m = n
          · rw [if_pos hm, if_neg (by omega), if_pos (by omega), if_pos (by omega)]
          · rw [if_neg hm]
            by_cases hm0 : m = 0
            · rw [if_pos hm0]
            · rw [if_neg hm0]
              by_cases hm1 : m % 2 = 1
              · rw [if_pos hm1, if_neg (by omega)]
              · rw [if_neg hm1]
        · rw [if_neg h1]
          show (if m = 0 then none else if m % 2 = 1 then Tr.lf.get (m / 2) else (Tr.put f .lf (n / 2 - 1) o).get (m / 2 - 1)) = _
          rw [ih _ _ _ _ (by omega)]
          show (if m = 0 then none else if m % 2 = 1 then none else (if m / 2 - 1 = n / 2 - 1 then some o else none)) = if m = n then some o else none
          by_cases hm : m = n
          · rw [if_pos hm, if_neg (by omega), if_neg (by omega), if_pos (by omega)]
          · rw [if_neg hm]
            by_cases hm0 : m = 0
            · rw [if_pos hm0]
            · rw [if_neg hm0]
              by_cases hm1 : m % 2 = 1
              · rw [if_pos hm1]
              · rw [if_neg hm1, if_neg (by omega)]
    | nd v l r =>
      unfold Tr.put
      by_cases h0 : n = 0
      · rw [if_pos h0]
        show (if m = 0 then some o else if m % 2 = 1 then l.get (m / 2) else r.get (m / 2 - 1)) = if m = n then some o else (if m = 0 then v else if m % 2 = 1 then l.get (m / 2) else r.get (m / 2 - 1))
        by_cases hm : m = 0
        · rw [if_pos hm, if_pos (by omega)]
        · rw [if_neg hm, if_neg (show ¬ m = n by omega), if_neg hm]
      · rw [if_neg h0]
        by_cases h1 : n % 2 = 1
        · rw [if_pos h1]
          show (if m = 0 then v else if m % 2 = 1 then (Tr.put f l (n / 2) o).get (m / 2) else r.get (m / 2 - 1)) = if m = n then some o else (if m = 0 then v else if m % 2 = 1 then l.get (m / 2) else r.get (m / 2 - 1))
          rw [ih _ _ _ _ (by omega)]
          by_cases hm : m = n
          · rw [if_pos hm, if_neg (by omega), if_pos (by omega), if_pos (by omega)]
          · rw [if_neg hm]
            by_cases hm0 : m = 0
            · rw [if_pos hm0, if_pos hm0]
            · rw [if_neg hm0, if_neg hm0]
              by_cases hm1 : m % 2 = 1
              · rw [if_pos hm1, if_pos hm1, if_neg (by omega)]
              · rw [if_neg hm1, if_neg hm1]
        · rw [if_neg h1]
          show (if m = 0 then v else if m % 2 = 1 then l.get (m / 2) else (Tr.put f r (n / 2 - 1) o).get (m / 2 - 1)) = if m = n then some o else (if m = 0 then v else if m % 2 = 1 then l.get (m / 2) else r.get (m / 2 - 1))
          rw [ih _ _ _ _ (by omega)]
          by_cases hm : m = n
          · rw [if_pos hm, if_neg (by omega), if_neg (by omega), if_pos (by omega)]
          · rw [if_neg hm]
            by_cases hm0 : m = 0
            · rw [if_pos hm0, if_pos hm0]
            · rw [if_neg hm0, if_neg hm0]
              by_cases hm1 : m % 2 = 1
              · rw [if_pos hm1, if_pos hm1]
              · rw [if_neg hm1, if_neg hm1, if_neg (by omega)]

structure Sto where
  n : Nat
  t : Tr
def Sto.get (s : Sto) (i : Nat) : Option O := s.t.get i
def Sto.set (s : Sto) (i : Nat) (o : O) : Sto := ⟨s.n, Tr.put (i + 1) s.t i o⟩
def Sto.add (s : Sto) (o : O) : Sto := ⟨s.n + 1, Tr.put (s.n + 1) s.t s.n o⟩
def Sto.new : Sto := ⟨0, .lf⟩
theorem Sto.get_set (s : Sto) (i j : Nat) (o : O) : (s.set i o).get j = if j = i then some o else s.get j := Tr.get_put _ _ _ _ _ (Nat.lt_succ_self _)
theorem Sto.get_add (s : Sto) (j : Nat) (o : O) : (s.add o).get j = if j = s.n then some o else s.get j := Tr.get_put _ _ _ _ _ (Nat.lt_succ_self _)
theorem Sto.n_set (s : Sto) (i : Nat) (o : O) : (s.set i o).n = s.n := rfl
theorem Sto.n_add (s : Sto) (o : O) : (s.add o).n = s.n + 1 := rfl
theorem Sto.new_get (i : Nat) : Sto.new.get i = none := rfl

/-! ### results -/
inductive R (α : Type) where
  | ok (a : α) (s : Sto)
  | no
def R.bind {α β : Type} (r : R α) (f : α → Sto → R β) : R β := match r with
  | .ok a s => f a s
  | .no => .no
abbrev Env := List (Option D)
abbrev EvE := Env → Sto → R D
abbrev EvT := Env → Sto → R Bool
abbrev EvA := Env → Sto → R (List D)
/-- an expression: its value, its truth as a test -/
structure Sem where
  v : EvE
  t : EvT
/-- a statement's end -/
inductive RS where
  | nx (e : Env) (s : Sto)
  | rt (d : D) (s : Sto)
  | bk (e : Env) (s : Sto)
  | ct (e : Env) (s : Sto)
  | no
abbrev EvS := Env → Sto → RS
/-- a def -/
abbrev Fn := List D → Sto → R D

/-! ### truth -/
def truth (d : D) (s : Sto) : R Bool := match d with
  | .non => .ok false s
  | .bl b => .ok b s
  | .int i => .ok (i != 0) s
  | .str x => if x.length ≤ sizeLine then .ok (x.length != 0) s else .no
  | .tup xs => .ok (!xs.isEmpty) s
  | .fix xs => .ok (!xs.isEmpty) s
  | .ref i => match s.get i with
    | some (.lst xs) => .ok (!xs.isEmpty) s
    | _ => .no
def mk (v : EvE) : Sem := ⟨v, fun env s => (v env s).bind fun d s => truth d s⟩

/-! ### expressions -/
def xC (d : D) : Sem := mk fun _ s => .ok d s
def xVar (i : Nat) : Sem := mk fun env s => match env[i]? with
  | some (some d) => .ok d s
  | _ => .no
def xBin (f : D → D → Sto → R D) (a b : Sem) : Sem := mk fun env s => (a.v env s).bind fun x s => (b.v env s).bind fun y s => f x y s
def xUn (f : D → Sto → R D) (a : Sem) : Sem := mk fun env s => (a.v env s).bind fun x s => f x s
def xChain (f g : D → D → Sto → R D) (a b c : Sem) : Sem := mk fun env s => (a.v env s).bind fun x s => (b.v env s).bind fun y s => (f x y s).bind fun z s => match z with
  | .bl true => (c.v env s).bind fun w s => g y w s
  | .bl false => .ok (.bl false) s
  | _ => .no
def xNot (a : Sem) : Sem where
  v := fun env s => (a.v env s).bind fun x s => (truth x s).bind fun b s => .ok (.bl (!b)) s
  t := fun env s => (a.t env s).bind fun b s => .ok (!b) s
def xAnd (a b : Sem) : Sem where
  v := fun env s => (a.v env s).bind fun x s => (truth x s).bind fun k s => if k = true then b.v env s else .ok x s
  t := fun env s => (a.t env s).bind fun k s => if k = true then b.t env s else .ok false s
def xOr (a b : Sem) : Sem where
  v := fun env s => (a.v env s).bind fun x s => (truth x s).bind fun k s => if k = true then .ok x s else b.v env s
  t := fun env s => (a.t env s).bind fun k s => if k = true then .ok true s else b.t env s
def xIf (c a b : Sem) : Sem where
  v := fun env s => (c.t env s).bind fun k s => if k = true then a.v env s else b.v env s
  t := fun env s => (c.t env s).bind fun k s => if k = true then a.t env s else b.t env s
def aNil : EvA := fun _ s => .ok [] s
def aCons (a : Sem) (r : EvA) : EvA := fun env s => (a.v env s).bind fun x s => (r env s).bind fun xs s => .ok (x :: xs) s
def xTup (a : EvA) : Sem := mk fun env s => (a env s).bind fun xs s => if xs.length ≤ sizeLine then .ok (.tup xs) s else .no
def newL (xs : List D) (s : Sto) : R D := if xs.length ≤ sizeLine then .ok (.ref s.n) (s.add (.lst xs)) else .no
def xLst (a : EvA) : Sem := mk fun env s => (a env s).bind newL
def xCall (f : Fn) (a : EvA) : Sem := mk fun env s => (a env s).bind f
/-- keyword arguments: np positional values, nk keywords' values; the parameters' ones by their places among all -/
def gPerm {α : Type} (z : α) (np nk : Nat) (p : List Nat) (us ws : List α) : List α := if us.length = np ∧ ws.length = nk then p.map fun i => (us ++ ws).getD i z else []
def xCallK (f : Fn) (np nk : Nat) (p : List Nat) (a k : EvA) : Sem := mk fun env s => (a env s).bind fun us s => (k env s).bind fun ws s => f (gPerm .non np nk p us ws) s
def xBi (f : List D → Sto → R D) (a : EvA) : Sem := mk fun env s => (a env s).bind f
def isL (x : D) (s : Sto) : Bool := match x with
  | .ref i => match s.get i with
    | some (.lst _) => true
    | _ => false
  | _ => false
def xMeth (f : D → List D → Sto → R D) (o : Sem) (a : EvA) : Sem := mk fun env s => (o.v env s).bind fun x s => if isL x s = true then (a env s).bind fun xs s => f x xs s else .no

/-! ### operators -/
def lim4 : Nat := 2 ^ 4000
def addD (x y : D) (s : Sto) : R D := match x, y with
  | .int i, .int j => .ok (.int (i + j)) s
  | .tup xs, .tup ys => if xs.length + ys.length ≤ sizeLine then .ok (.tup (xs ++ ys)) s else .no
  | .str a, .str b => if a.length + b.length ≤ sizeLine then .ok (.str (a ++ b)) s else .no
  | .ref i, .ref j => match s.get i, s.get j with
    | some (.lst xs), some (.lst ys) => if xs.length + ys.length ≤ sizeLine then .ok (.ref s.n) (s.add (.lst (xs ++ ys))) else .no
    | _, _ => .no
  | _, _ => .no
def iaddD (x y : D) (s : Sto) : R D := match x, y with
  | .int i, .int j => .ok (.int (i + j)) s
  | _, _ => .no
def subD (x y : D) (s : Sto) : R D := match x, y with
  | .int i, .int j => .ok (.int (i - j)) s
  | _, _ => .no
def mulOk (i j : Int) : Bool := decide (i.natAbs < 2 ^ 64) || decide (j.natAbs < 2 ^ 64) || (decide (i.natAbs < lim4) && decide (j.natAbs < lim4))
def mulD (x y : D) (s : Sto) : R D := match x, y with
  | .int i, .int j => if mulOk i j = true then .ok (.int (i * j)) s else .no
  | .tup xs, .int k => if xs.length ≤ 1000 ∧ -1000 ≤ k ∧ k ≤ 1000 then .ok (.tup (List.replicate k.toNat xs).flatten) s else .no
  | .ref i, .int k => match s.get i with
    | some (.lst xs) => if -(2 ^ 62) ≤ k ∧ k < 2 ^ 62 ∧ xs.length * k.toNat ≤ sizeLine then .ok (.ref s.n) (s.add (.lst (List.replicate k.toNat xs).flatten)) else .no
    | _ => .no
  | _, _ => .no
def fdivD (x y : D) (s : Sto) : R D := match x, y with
  | .int i, .int j => if 0 < j ∧ j.natAbs < lim4 then .ok (.int (i / j)) s else .no
  | _, _ => .no
def modD (x y : D) (s : Sto) : R D := match x, y with
  | .int i, .int j => if 0 < j then .ok (.int (i % j)) s else .no
  | _, _ => .no
def powD (x y : D) (s : Sto) : R D := match x, y with
  | .int i, .int j => if 0 ≤ j ∧ j ≤ 1000 ∧ i.natAbs < lim4 then .ok (.int (i ^ j.toNat)) s else .no
  | _, _ => .no
def negD (x : D) (s : Sto) : R D := match x with
  | .int i => .ok (.int (-i)) s
  | _ => .no

/-! ### == at any depth -/
def mapO {α β : Type} (f : α → Option β) : List α → Option (List β)
  | [] => some []
  | x :: xs => match f x, mapO f xs with
    | some d, some ds => some (d :: ds)
    | _, _ => none
/-- as the library's plain data (lists of the store looked up; k: the depth) -/
def pyd (s : Sto) : Nat → D → Option PyData
  | 0 => fun d => match d with
    | .non => some .none
    | .bl b => some (.bool b)
    | .int i => some (.int i)
    | .str x => if PyData.strOk x = true then some (.str x) else none
    | _ => none
  | k + 1 => fun d => match d with
    | .non => some .none
    | .bl b => some (.bool b)
    | .int i => some (.int i)
    | .str x => if PyData.strOk x = true then some (.str x) else none
    | .tup xs => (mapO (pyd s k) xs).map .tuple
    | .fix xs => (mapO (pyd s k) xs).map .list
    | .ref i => match s.get i with
      | some (.lst xs) => (mapO (pyd s k) xs).map .list
      | _ => none
def eqD (x y : D) (s : Sto) : R D := match pyd s 12 x, pyd s 12 y with
  | some a, some b => .ok (.bl (PyData.eqv a b)) s
  | _, _ => .no
def neD (x y : D) (s : Sto) : R D := match pyd s 12 x, pyd s 12 y with
  | some a, some b => .ok (.bl (!PyData.eqv a b)) s
  | _, _ => .no
def ltI (f : Int → Int → Bool) (x y : D) (s : Sto) : R D := match x, y with
  | .int i, .int j => .ok (.bl (f i j)) s
  | _, _ => .no
def isNonD (x y : D) (s : Sto) : R D := match x, y with
  | .non, .non => .ok (.bl true) s
  | _, .non => .ok (.bl false) s
  | _, _ => .no
def isnNonD (x y : D) (s : Sto) : R D := match x, y with
  | .non, .non => .ok (.bl false) s
  | _, .non => .ok (.bl true) s
  | _, _ => .no
/-- None, ints, texts, truths: what `in` of a list looks through -/
def flat : D → Bool
  | .non => true
  | .bl _ => true
  | .int _ => true
  | .str _ => true
  | _ => false
def flatEq : D → D → Bool
  | .non, .non => true
  | .bl a, .bl b => a == b
  | .int i, .int j => i == j
  | .bl a, .int j => (if a then 1 else 0) == j
  | .int i, .bl b => i == (if b then 1 else 0)
  | .str a, .str b => a == b
  | _, _ => false
def items (d : D) (s : Sto) : Option (List D) := match d with
  | .tup xs => some xs
  | .fix xs => some xs
  | .ref i => match s.get i with
    | some (.lst xs) => some xs
    | _ => none
  | _ => none
def inD (neg : Bool) (x y : D) (s : Sto) : R D := match items y s with
  | some xs => if flat x && xs.all flat then .ok (.bl ((xs.any fun z => flatEq z x) ^^ neg)) s else .no
  | none => .no

/-! ### places -/
def ixD (x y : D) (s : Sto) : R D := match y with
  | .int i => match items x s with
    | some xs => match L2.atI xs i with
      | some d => .ok d s
      | none => .no
    | none => match x with
      | .str z => if z.length ≤ sizeLine then (match L2.atI z.cps.toList i with
        | some c => .ok (.str ⟨#[c]⟩) s
        | none => .no) else .no
      | _ => .no
  | _ => .no
def cutD (xs : List D) (lo hi : Option Int) : List D := (xs.drop (HT.sIx xs.length 0 lo)).take (HT.sIx xs.length xs.length hi - HT.sIx xs.length 0 lo)
abbrev EvO := Env → Sto → R (Option Int)
def oNo : EvO := fun _ s => .ok none s
def oYes (a : Sem) : EvO := fun env s => (a.v env s).bind fun x s => match x with
  | .int i => .ok (some i) s
  | _ => .no
def slcD (x : D) (lo hi : Option Int) (s : Sto) : R D := match x with
  | .tup xs => .ok (.tup (cutD xs lo hi)) s
  | .ref i => match s.get i with
    | some (.lst xs) => .ok (.ref s.n) (s.add (.lst (cutD xs lo hi)))
    | _ => .no
  | _ => .no
def xSlc (a : Sem) (lo hi : EvO) : Sem := mk fun env s => (a.v env s).bind fun x s => (lo env s).bind fun l s => (hi env s).bind fun h s => slcD x l h s

def revD (x : D) (s : Sto) : R D := match x with
  | .tup xs => .ok (.tup xs.reverse) s
  | .ref i => match s.get i with
    | some (.lst xs) => .ok (.ref s.n) (s.add (.lst xs.reverse))
    | _ => .no
  | _ => .no
/-! ### built-in functions -/
def lenB (xs : List D) (s : Sto) : R D := match xs with
  | [.str z] => if z.length ≤ sizeLine then .ok (.int z.length) s else .no
  | [.ref i] => match s.get i with
    | some (.lst xs) => .ok (.int xs.length) s
    | _ => .no
  | [d] => match items d s with
    | some xs => .ok (.int xs.length) s
    | none => .no
  | _ => .no
def absB (xs : List D) (s : Sto) : R D := match xs with
  | [.int i] => .ok (.int (if i < 0 then -i else i)) s
  | _ => .no
def max2B (xs : List D) (s : Sto) : R D := match xs with
  | [.int i, .int j] => .ok (.int (if j > i then j else i)) s
  | _ => .no
def min2B (xs : List D) (s : Sto) : R D := match xs with
  | [.int i, .int j] => .ok (.int (if j < i then j else i)) s
  | _ => .no
def intB (xs : List D) (s : Sto) : R D := match xs with
  | [.int i] => .ok (.int i) s
  | [.bl b] => .ok (.int (if b then 1 else 0)) s
  | _ => .no
def tupleB (xs : List D) (s : Sto) : R D := match xs with
  | [d] => match items d s with
    | some xs => .ok (.tup xs) s
    | none => .no
  | _ => .no
def listB (xs : List D) (s : Sto) : R D := match xs with
  | [d] => match items d s with
    | some xs => .ok (.ref s.n) (s.add (.lst xs))
    | none => .no
  | _ => .no
def bools : List D → Option (List Bool)
  | [] => some []
  | .bl b :: r => (bools r).map (b :: ·)
  | _ => none
def intsD : List D → Option (List Int)
  | [] => some []
  | .int i :: r => (intsD r).map (i :: ·)
  | _ => none
/-- a list (no tuple) -/
def litems (d : D) (s : Sto) : Option (List D) := match d with
  | .fix xs => some xs
  | .ref i => match s.get i with
    | some (.lst xs) => some xs
    | _ => none
  | _ => none
def allB (xs : List D) (s : Sto) : R D := match xs with
  | [d] => match (litems d s).bind bools with
    | some bs => .ok (.bl (bs.all id)) s
    | none => .no
  | _ => .no
def anyB (xs : List D) (s : Sto) : R D := match xs with
  | [d] => match (litems d s).bind bools with
    | some bs => .ok (.bl (bs.any id)) s
    | none => .no
  | _ => .no
def sumB (xs : List D) (s : Sto) : R D := match xs with
  | [d] => match (litems d s).bind intsD with
    | some ns => .ok (.int ns.sum) s
    | none => .no
  | _ => .no
/-- a dict that was looked at for good -/
def frzD : List (D × D) → Bool
  | (.bl true, _) :: _ => true
  | _ => false
/-- isinstance: by the names of built-in types -/
def tyName (d : D) (s : Sto) : Option String := match d with
  | .non => some "NoneType"
  | .bl _ => some "bool"
  | .int _ => some "int"
  | .str _ => some "str"
  | .tup _ => some "tuple"
  | .fix _ => some "list"
  | .ref i => match s.get i with
    | some (.lst _) => some "list"
    | some (.dct kvs) => if frzD kvs = true then none else some "dict"
    | none => none
inductive Ty where
  | int | bool | str | tuple | list
  deriving DecidableEq
def Ty.name : Ty → String
  | .int => "int"
  | .bool => "bool"
  | .str => "str"
  | .tuple => "tuple"
  | .list => "list"
def isTy (d : D) (s : Sto) (t : Ty) : Option Bool := match d with
  | .non => some false
  | .bl _ => some (t == .int || t == .bool)
  | .int _ => some (t == .int)
  | .str _ => some (t == .str)
  | .tup _ => some (t == .tuple)
  | .fix _ => some (t == .list)
  | .ref i => match s.get i with
    | some (.lst _) => some (t == .list)
    | some (.dct kvs) => if frzD kvs = true then none else some false
    | none => none
def isiD (ts : List Ty) (d : D) (s : Sto) : R D := match mapO (isTy d s) ts with
  | some bs => .ok (.bl (bs.any id)) s
  | none => .no

/-! ### methods of lists -/
def appendM (x : D) (vs : List D) (s : Sto) : R D := match x, vs with
  | .ref i, [y] => match s.get i with
    | some (.lst xs) => if xs.length < sizeLine then .ok .non (s.set i (.lst (xs ++ [y]))) else .no
    | _ => .no
  | _, _ => .no
def extendM (x : D) (vs : List D) (s : Sto) : R D := match x, vs with
  | .ref i, [.ref j] => match s.get i, s.get j with
    | some (.lst xs), some (.lst ys) => if xs.length + ys.length ≤ sizeLine then .ok .non (s.set i (.lst (xs ++ ys))) else .no
    | _, _ => .no
  | _, _ => .no
def popM (x : D) (vs : List D) (s : Sto) : R D := match x, vs with
  | .ref i, [] => match s.get i with
    | some (.lst xs) => match xs[xs.length - 1]? with
      | some y => .ok y (s.set i (.lst xs.dropLast))
      | none => .no
    | _ => .no
  | .ref i, [.int k] => match s.get i with
    | some (.lst xs) => if -(2 ^ 63) ≤ k ∧ k < 2 ^ 63 then (match seqIndex? k xs.length with
      | some j => match xs[j]? with
        | some y => .ok y (s.set i (.lst (xs.eraseIdx j)))
        | none => .no
      | none => .no) else .no
    | _ => .no
  | _, _ => .no
def clearM (x : D) (vs : List D) (s : Sto) : R D := match x, vs with
  | .ref i, [] => match s.get i with
    | some (.lst _) => .ok .non (s.set i (.lst []))
    | _ => .no
  | _, _ => .no
/-- o[i] = v -/
def setD (o i v : D) (s : Sto) : R Unit := match o, i with
  | .ref a, .int k => match s.get a with
    | some (.lst xs) => match L2.ixN xs.length k with
      | some j => .ok () (s.set a (.lst (xs.set j v)))
      | none => .no
    | _ => .no
  | _, _ => .no

/-! ### what is walked -/
inductive Wk where
  /-- a list of the store, as it stands at each turn -/
  | live (i : Nat)
  | its (xs : List D)
  /-- what a reader says of the store at each turn -/
  | rd (r : Sto → Nat → Option (Option D))
/-- the pair at n of two lists of the store -/
def zipAt (s : Sto) (i j n : Nat) : Option (Option D) := match s.get i, s.get j with
  | some (.lst xs), some (.lst ys) => match xs[n]?, ys[n]? with
    | some x, some y => some (some (.tup [x, y]))
    | _, _ => some none
  | _, _ => none
/-- the item at n of a list of the store, with n -/
def enlAt (s : Sto) (i n : Nat) : Option (Option D) := match s.get i with
  | some (.lst xs) => match xs[n]? with
    | some x => some (some (.tup [.int (n : Nat), x]))
    | none => some none
  | _ => none
def Wk.zip (i j : Nat) : Wk := .rd fun s n => zipAt s i j n
def Wk.enl (i : Nat) : Wk := .rd fun s n => enlAt s i n
abbrev EvI := Env → Sto → R Wk
def iSeq (a : Sem) : EvI := fun env s => (a.v env s).bind fun d s => match d with
  | .tup xs => .ok (.its xs) s
  | .fix xs => .ok (.its xs) s
  | .ref i => match s.get i with
    | some (.lst _) => .ok (.live i) s
    | _ => .no
  | _ => .no
def rgD (lo : Int) (n : Nat) : List D := (List.range n).map fun i => .int (lo + (i : Nat))
def bigI (i : Int) : Bool := Nat.blt i.natAbs 4611686018427387904
def iRg1 (a : EvA) : EvI := fun env s => (a env s).bind fun xs s => match xs with
  | [.int j] => if bigI j = true then .ok (.its (rgD 0 j.toNat)) s else .no
  | _ => .no
def iRg2 (a : EvA) : EvI := fun env s => (a env s).bind fun xs s => match xs with
  | [.int i, .int j] => if bigI i = true ∧ bigI j = true then .ok (.its (rgD i (j - i).toNat)) s else .no
  | _ => .no

/-! ### targets -/
abbrev EvG := D → Env → Sto → R Env
def gVar (i : Nat) : EvG := fun d env s => .ok (env.set i (some d)) s
def gsNil (ds : List D) (env : Env) (s : Sto) : R Env := match ds with
  | [] => .ok env s
  | _ => .no
def gsCons (g : EvG) (r : List D → Env → Sto → R Env) (ds : List D) (env : Env) (s : Sto) : R Env := match ds with
  | d :: ds => (g d env s).bind fun env s => r ds env s
  | [] => .no
def gTup (n : Nat) (r : List D → Env → Sto → R Env) : EvG := fun d env s => match d with
  | .tup xs => if xs.length = n then r xs env s else .no
  | _ => .no
def gSub (o i : Sem) : EvG := fun d env s => (o.v env s).bind fun x s => (i.v env s).bind fun y s => (setD x y d s).bind fun _ s => .ok env s

/-! ### comprehensions -/
def wipeE (env : Env) : List Nat → Env
  | [] => env
  | v :: vs => (wipeE env vs).set v none
/-- one turn: nothing, or a new item -/
abbrev Turn := D → Sto → R (Option D)
def conO (o : Option D) (ys : List D) : List D := match o with
  | some y => y :: ys
  | none => ys
def goIts (f : Turn) : List D → Sto → R (List D)
  | [], s => .ok [] s
  | x :: xs, s => (f x s).bind fun o s => (goIts f xs s).bind fun ys s => .ok (conO o ys) s
def goLive (f : Turn) (i : Nat) : Nat → Nat → Sto → R (List D)
  | 0, _, _ => .no
  | k + 1, j, s => match s.get i with
    | some (.lst xs) => match xs[j]? with
      | some x => (f x s).bind fun o s => (goLive f i k (j + 1) s).bind fun ys s => .ok (conO o ys) s
      | none => .ok [] s
    | _ => .no
def goRd (f : Turn) (r : Sto → Nat → Option (Option D)) : Nat → Nat → Sto → R (List D)
  | 0, _, _ => .no
  | k + 1, n, s => match r s n with
    | some (some x) => (f x s).bind fun o s => (goRd f r k (n + 1) s).bind fun ys s => .ok (conO o ys) s
    | some none => .ok [] s
    | none => .no
def goWk (f : Turn) (w : Wk) (s : Sto) : R (List D) := match w with
  | .its xs => goIts f xs s
  | .live i => goLive f i 1000000 0 s
  | .rd r => goRd f r 1000000 0 s
def turnC (g : EvG) (c : Option Sem) (e : Sem) (env : Env) : Turn := fun x s => (g x env s).bind fun env s => match c with
  | none => (e.v env s).bind fun y s => .ok (some y) s
  | some c => (c.t env s).bind fun b s => if b = true then (e.v env s).bind fun y s => .ok (some y) s else .ok none s
def xComp (own : List Nat) (g : EvG) (it : EvI) (c : Option Sem) (e : Sem) : Sem := mk fun env s => (it env s).bind fun w s => (goWk (turnC g c e (wipeE env own)) w s).bind newL

/-! ### statements -/
def RS.then (r : RS) (f : Env → Sto → RS) : RS := match r with
  | .nx e s => f e s
  | r => r
def sNil : EvS := fun env s => .nx env s
def sCons (a b : EvS) : EvS := fun env s => (a env s).then b
def R.st {α : Type} (r : R α) (f : α → Sto → RS) : RS := match r with
  | .ok a s => f a s
  | .no => .no
def sExpr (a : Sem) : EvS := fun env s => (a.v env s).st fun _ s => .nx env s
def sAsg (g : EvG) (a : Sem) : EvS := fun env s => (a.v env s).st fun d s => (g d env s).st fun env s => .nx env s
def sPar (i j : Nat) (a : EvA) : EvS := fun env s => (a env s).st fun xs s => match xs with
  | [x, y] => .nx ((env.set i (some x)).set j (some y)) s
  | _ => .no
def sAug (i : Nat) (f : D → D → Sto → R D) (a : Sem) : EvS := fun env s => match env[i]? with
  | some (some x) => (a.v env s).st fun y s => (f x y s).st fun z s => .nx (env.set i (some z)) s
  | _ => .no
def sRet (a : Sem) : EvS := fun env s => (a.v env s).st fun d s => .rt d s
def sRetN : EvS := fun _ s => .rt .non s
def sIf (c : Sem) (a b : EvS) : EvS := fun env s => (c.t env s).st fun k s => if k = true then a env s else b env s
def sPass : EvS := fun env s => .nx env s
def sBrk : EvS := fun env s => .bk env s
def sCt : EvS := fun env s => .ct env s
def sNo : EvS := fun _ _ => .no
/-- a loop's turn is over -/
def RS.turn (r : RS) (f : Env → Sto → RS) : RS := match r with
  | .nx e s => f e s
  | .ct e s => f e s
  | .bk e s => .nx e s
  | r => r
def whl (c : Sem) (b : EvS) : Nat → EvS
  | 0 => fun _ _ => .no
  | k + 1 => fun env s => (c.t env s).st fun v s => if v = true then (b env s).turn (whl c b k) else .nx env s
def sWhl (c : Sem) (b : EvS) : EvS := whl c b 1000000
def forIts (b : D → Env → Sto → RS) : List D → Env → Sto → RS
  | [], env, s => .nx env s
  | x :: xs, env, s => (b x env s).turn (forIts b xs)
def forLive (b : D → Env → Sto → RS) (i : Nat) : Nat → Nat → Env → Sto → RS
  | 0, _, _, _ => .no
  | k + 1, j, env, s => match s.get i with
    | some (.lst xs) => match xs[j]? with
      | some x => (b x env s).turn (forLive b i k (j + 1))
      | none => .nx env s
    | _ => .no
def forRd (b : D → Env → Sto → RS) (r : Sto → Nat → Option (Option D)) : Nat → Nat → Env → Sto → RS
  | 0, _, _, _ => .no
  | k + 1, n, env, s => match r s n with
    | some (some x) => (b x env s).turn (forRd b r k (n + 1))
    | some none => .nx env s
    | none => .no
def bodyF (g : EvG) (b : EvS) (d : D) (env : Env) (s : Sto) : RS := (g d env s).st fun env s => b env s
def sFor (g : EvG) (it : EvI) (b : EvS) : EvS := fun env s => (it env s).st fun w s => match w with
  | .its xs => forIts (bodyF g b) xs env s
  | .live i => forLive (bodyF g b) i 1000000 0 env s
  | .rd r => forRd (bodyF g b) r 1000000 0 env s
/-- a def of np parameters and n names, its body -/
def fnB (np n : Nat) (b : EvS) : Fn := fun ds s => if ds.length = np then (match b (ds.map some ++ List.replicate (n - ds.length) none) s with
  | .rt d s => .ok d s
  | .nx _ s => .ok .non s
  | _ => .no) else .no
def fnNo : Fn := fun _ _ => .no
end Cs

/-! ## CsSem2 -/
/-! More of the plain meaning. -/
namespace Cs
open PySem
def sPar3 (i j l : Nat) (a : EvA) : EvS := fun env s => (a env s).st fun xs s => match xs with
  | [x, y, z] => .nx (((env.set i (some x)).set j (some y)).set l (some z)) s
  | _ => .no
/-- i, i - 1, ..: n of them -/
def rgdD (i : Int) (n : Nat) : List D := (List.range n).map fun k => .int (i - (k : Nat))
/-- range(i, j, -1) -/
def iRg3 (a : EvA) : EvI := fun env s => (a env s).bind fun xs s => match xs with
  | [.int i, .int j, .int c] => if c = -1 ∧ bigI i = true ∧ bigI j = true then .ok (.its (rgdD i (i - j).toNat)) s else .no
  | _ => .no
def enumD (xs : List D) : List D := xs.zipIdx.map fun p => .tup [.int (p.2 : Nat), p.1]
/-- enumerate(a tuple) -/
def iEnum (a : EvA) : EvI := fun env s => (a env s).bind fun ds s => match ds with
  | [.tup xs] => .ok (.its (enumD xs)) s
  | _ => .no
/-- l.index(x), ints only -/
def indexM (x : D) (xs : List D) (s : Sto) : R D := match x with
  | .ref k => match s.get k with
    | some (.lst ys) => match intsD ys with
      | some ns => match xs with
        | [.int i] => match ns.findIdx? (· == i) with
          | some j => .ok (.int (j : Nat)) s
          | none => .no
        | _ => .no
      | none => .no
    | _ => .no
  | _ => .no
/-- x is True, x is False -/
def isBlD (x y : D) (s : Sto) : R D := match x, y with
  | .bl a, .bl b => .ok (.bl (decide (a = b))) s
  | _, _ => .no
def isnBlD (x y : D) (s : Sto) : R D := match x, y with
  | .bl a, .bl b => .ok (.bl (!decide (a = b))) s
  | _, _ => .no
/-! ### min(list, key=f, default=d) -/
def lexD : List Int → List Int → Bool
  | [], [] => false
  | [], _ :: _ => true
  | _ :: _, [] => false
  | x :: xs, y :: ys => if x = y then lexD xs ys else decide (x < y)
/-- a key below another: whole numbers, or a pair of a whole number and a tuple of them -/
def keyLt (x y : D) : Option Bool := match x, y with
  | .int a, .int b => some (decide (a < b))
  | .tup [.int a, .tup xs], .tup [.int b, .tup ys] => match intsD xs, intsD ys with
    | some ns, some ms => some (if a = b then lexD ns ms else decide (a < b))
    | _, _ => none
  | _, _ => none
def minGo (f : Fn) (i : Nat) : Nat → Nat → D → D → Sto → R D
  | 0, _, _, _, _ => .no
  | k + 1, j, b, kb, s => match s.get i with
    | some (.lst xs) => match xs[j]? with
      | some x => (f [x] s).bind fun kx s => match keyLt kx kb with
        | some true => minGo f i k (j + 1) x kx s
        | some false => minGo f i k (j + 1) b kb s
        | none => .no
      | none => .ok b s
    | _ => .no
def minK (f : Fn) (d : D) (x : D) (s : Sto) : R D := match x with
  | .ref i => match s.get i with
    | some (.lst []) => .ok d s
    | some (.lst (x :: _)) => (f [x] s).bind fun kx s => minGo f i 1000000 1 x kx s
    | _ => .no
  | _ => .no
def xMinK (f : Fn) (e d : Sem) : Sem := mk fun env s => (e.v env s).bind fun x s => (d.v env s).bind fun y s => minK f y x s
/-- {} -/
def xDict0 : Sem := mk fun _ s => .ok (.ref s.n) (s.add (.dct []))
/-- a key below another one -/
def ltK (x y : D) (s : Sto) : R D := match keyLt x y with
  | some b => .ok (.bl b) s
  | none => .no
end Cs

/-! ## CsSem3 -/
/-! More of the plain meaning: sorting. -/
namespace Cs
open PySem PySem.W
/-- a key as plain data: a whole number, or a pair of one and a tuple of them -/
def kpd : D → Option PyData
  | .int n => some (.int n)
  | .tup [.int a, .tup xs] => (intsD xs).map fun ns => .tuple [.int a, .tuple (ns.map .int)]
  | _ => none
def isTupD : PyData → Bool
  | .tuple (_ :: _) => true
  | _ => false
def isAtm : PyData → Bool
  | .int _ => true
  | _ => false
/-- keys that can be compared -/
def okKeys (ds : List PyData) : Bool := (ds.all fun d => ds.all fun e => alike d e) && (ds.all isTupD || ds.all isAtm)
/-- the keys of items -/
def keysGo (f : Fn) : List D → Sto → R (List PyData)
  | [], s => .ok [] s
  | x :: xs, s => (f [x] s).bind fun k s => match kpd k with
    | some d => (keysGo f xs s).bind fun ds s => .ok (d :: ds) s
    | none => .no
/-- items by their keys, upwards, stably -/
def sortBy (ds : List PyData) (xs : List D) : List D := ((xs.zip ds).mergeSort (dataLe false fun p => p.2)).map (·.1)
def sortK (f : Fn) (x : D) (s : Sto) : R D := match x with
  | .ref i => match s.get i with
    | some (.lst xs) => (keysGo f xs s).bind fun ds s => if okKeys ds = true then newL (sortBy ds xs) s else .no
    | _ => .no
  | _ => .no
/-- sorted(list, key=f) -/
def xSortK (f : Fn) (e : Sem) : Sem := mk fun env s => (e.v env s).bind fun x s => sortK f x s
/-- sorted(a list of whole numbers) -/
def sortedB (xs : List D) (s : Sto) : R D := match xs with
  | [.ref i] => match s.get i with
    | some (.lst ys) => match intsD ys with
      | some ns => newL ((ns.mergeSort (fun a b => decide (a ≤ b))).map .int) s
      | none => .no
    | _ => .no
  | _ => .no
/-- a range taken whole -/
def rgW (x y : D) (s : Sto) (k : List D → Sto → R D) : R D := match x, y with
  | .int i, .int j => if bigI i = true ∧ bigI j = true ∧ (j - i).toNat ≤ 16777216 then k (rgD i (j - i).toNat) s else .no
  | _, _ => .no
/-- list(range(..)), tuple(range(..)) -/
def xLstR1 (a : Sem) : Sem := mk fun env s => (a.v env s).bind fun x s => rgW (.int 0) x s newL
def xLstR2 (a b : Sem) : Sem := mk fun env s => (a.v env s).bind fun x s => (b.v env s).bind fun y s => rgW x y s newL
def xTupR1 (a : Sem) : Sem := mk fun env s => (a.v env s).bind fun x s => rgW (.int 0) x s fun xs s => .ok (.tup xs) s
def xTupR2 (a b : Sem) : Sem := mk fun env s => (a.v env s).bind fun x s => (b.v env s).bind fun y s => rgW x y s fun xs s => .ok (.tup xs) s
/-- zip of two lists of the store -/
def zipW (xs : List D) (s : Sto) : R Wk := match xs with
  | [.ref i, .ref j] => match s.get i, s.get j with
    | some (.lst _), some (.lst _) => .ok (Wk.zip i j) s
    | _, _ => .no
  | _ => .no
def iZip2 (a : EvA) : EvI := fun env s => (a env s).bind zipW
/-- enumerate of a tuple, of a list -/
def enW2 (xs : List D) (s : Sto) : R Wk := match xs with
  | [.tup xs] => .ok (.its (enumD xs)) s
  | [.ref i] => match s.get i with
    | some (.lst _) => .ok (Wk.enl i) s
    | _ => .no
  | _ => .no
def iEnum2 (a : EvA) : EvI := fun env s => (a env s).bind enW2
/-- l.extend(a list or a tuple) -/
def extendM2 (x : D) (vs : List D) (s : Sto) : R D := match x, vs with
  | .ref i, [.ref j] => match s.get i, s.get j with
    | some (.lst xs), some (.lst ys) => if xs.length + ys.length ≤ sizeLine then .ok .non (s.set i (.lst (xs ++ ys))) else .no
    | _, _ => .no
  | .ref i, [.tup ys] => match s.get i with
    | some (.lst xs) => if xs.length + ys.length ≤ sizeLine then .ok .non (s.set i (.lst (xs ++ ys))) else .no
    | _ => .no
  | _, _ => .no
end Cs

/-! ## CsSem4 -/
/-! More of the plain meaning: chains of three, sorted of any data, len(set(..)), comprehensions of two clauses. -/
namespace Cs
open PySem PySem.W
/-- a op b op' c op'' d -/
def xChain3 (f g h : D → D → Sto → R D) (a b c e : Sem) : Sem := mk fun env s => (a.v env s).bind fun x s => (b.v env s).bind fun y s => (f x y s).bind fun z s => match z with
  | .bl true => (c.v env s).bind fun w s => (g y w s).bind fun z2 s => match z2 with
    | .bl true => (e.v env s).bind fun u s => h w u s
    | .bl false => .ok (.bl false) s
    | _ => .no
  | .bl false => .ok (.bl false) s
  | _ => .no
/-- sorted(a list or a tuple of things that can be compared) -/
def sortedG (xs : List D) (s : Sto) : R D := match xs with
  | [d] => match items d s with
    | some ys => match mapO (pyd s 12) ys with
      | some ds => if okKeys ds = true then newL (sortBy ds ys) s else .no
      | none => .no
    | none => .no
  | _ => .no
def sortedA (xs : List D) (s : Sto) : R D := match sortedB xs s with
  | .ok d s => .ok d s
  | .no => sortedG xs s
/-- how many different ones -/
def many (ns : List Int) : Nat := (PyProof.Rows.firstMet (fun i => ns.getD i 0) ns.length).length
def lenSetD (x : D) (s : Sto) : R D := match x with
  | .ref i => match s.get i with
    | some (.lst xs) => match intsD xs with
      | some ns => if ns.length ≤ 4000 then .ok (.int (many ns : Nat)) s else .no
      | none => .no
    | _ => .no
  | _ => .no
/-- len(set(a list of whole numbers)) -/
def xLenSet (a : Sem) : Sem := mk fun env s => (a.v env s).bind lenSetD
/-- x in a list or a tuple of any data -/
def inG (neg : Bool) (x y : D) (s : Sto) : R D := match pyd s 12 x, pyd s 12 y with
  | some d, some (.tuple ds) => .ok (.bl ((ds.any fun z => PyData.eqv z d) ^^ neg)) s
  | some d, some (.list ds) => .ok (.bl ((ds.any fun z => PyData.eqv z d) ^^ neg)) s
  | _, _ => .no
def inA (neg : Bool) (x y : D) (s : Sto) : R D := match inD neg x y s with
  | .ok d s => .ok d s
  | .no => inG neg x y s
/-! ### comprehensions of two clauses -/
abbrev TurnL := D → Sto → R (List D)
def goItsL (f : TurnL) : List D → Sto → R (List D)
  | [], s => .ok [] s
  | x :: xs, s => (f x s).bind fun zs s => (goItsL f xs s).bind fun ys s => .ok (zs ++ ys) s
def goLiveL (f : TurnL) (i : Nat) : Nat → Nat → Sto → R (List D)
  | 0, _, _ => .no
  | k + 1, j, s => match s.get i with
    | some (.lst xs) => match xs[j]? with
      | some x => (f x s).bind fun zs s => (goLiveL f i k (j + 1) s).bind fun ys s => .ok (zs ++ ys) s
      | none => .ok [] s
    | _ => .no
def goRdL (f : TurnL) (r : Sto → Nat → Option (Option D)) : Nat → Nat → Sto → R (List D)
  | 0, _, _ => .no
  | k + 1, n, s => match r s n with
    | some (some x) => (f x s).bind fun zs s => (goRdL f r k (n + 1) s).bind fun ys s => .ok (zs ++ ys) s
    | some none => .ok [] s
    | none => .no
def goWkL (f : TurnL) (w : Wk) (s : Sto) : R (List D) := match w with
  | .its xs => goItsL f xs s
  | .live i => goLiveL f i 1000000 0 s
  | .rd r => goRdL f r 1000000 0 s
def turnL (g : EvG) (it1 : EvI) (g1 : EvG) (e : Sem) (vs1 : List Nat) (env : Env) : TurnL := fun x s => (g x env s).bind fun env s => (it1 env s).bind fun w s => goWk (turnC g1 none e (wipeE env vs1)) w s
def xComp2 (own vs1 : List Nat) (g : EvG) (it : EvI) (g1 : EvG) (it1 : EvI) (e : Sem) : Sem := mk fun env s => (it env s).bind fun w s => (goWkL (turnL g it1 g1 e vs1 (wipeE env own)) w s).bind newL
end Cs

/-! ## CsSem5 -/
/-! More of the plain meaning: dicts whose keys are tuples of whole numbers. -/
namespace Cs
open PySem PySem.W
/-- {} that is to have such keys -/
def xDictT : Sem := mk fun _ s => .ok (.ref s.n) (s.add (.dct [(.bl false, .non)]))
def tkey (d : D) : Option (List Int) := match d with
  | .tup xs => intsD xs
  | _ => none
def dfind (ns : List Int) (kvs : List (D × D)) : Option D := (kvs.find? fun kv => decide (tkey kv.1 = some ns)).map (·.2)
def dput (ns : List Int) (v : D) (kvs : List (D × D)) : List (D × D) :=
  if (kvs.any fun kv => decide (tkey kv.1 = some ns)) = true then kvs.map (fun kv => if tkey kv.1 = some ns then (kv.1, v) else kv) else kvs ++ [(.tup (ns.map .int), v)]
/-- the entries of a dict, at the number i -/
def dOf (s : Sto) (i : Nat) : Option (Bool × D × List (D × D)) := match s.get i with
  | some (.dct ((.bl z, m) :: kvs)) => some (z, m, kvs)
  | _ => none
def ixT (x y : D) (s : Sto) : R D := match x with
  | .ref i => match dOf s i, tkey y with
    | some (_, _, kvs), some ns => match dfind ns kvs with
      | some v => .ok v s
      | none => .no
    | _, _ => .no
  | _ => .no
def ixA (x y : D) (s : Sto) : R D := match ixD x y s with
  | .ok d s => .ok d s
  | .no => ixT x y s
/-- d.get(k, z) -/
def get2 (x y z : D) (s : Sto) : R D := match x with
  | .ref i => match dOf s i, tkey y with
    | some (_, _, kvs), some ns => .ok ((dfind ns kvs).getD z) s
    | _, _ => .no
  | _ => .no
def isT (x : D) (s : Sto) : Bool := match x with
  | .ref i => (dOf s i).isSome
  | _ => false
def xGet2 (o k z : Sem) : Sem := mk fun env s => (o.v env s).bind fun x s => if isT x s = true then (k.v env s).bind fun y s => (z.v env s).bind fun w s => get2 x y w s else .no
def setT (o i v : D) (s : Sto) : R Unit := match o with
  | .ref a => match dOf s a, tkey i with
    | some (false, m, kvs), some ns => if kvs.length < sizeLine then .ok () (s.set a (.dct ((.bl false, m) :: dput ns v kvs))) else .no
    | _, _ => .no
  | _ => .no
def setA (o i v : D) (s : Sto) : R Unit := match setD o i v s with
  | .ok u s => .ok u s
  | .no => setT o i v s
def gSubA (o i : Sem) : EvG := fun d env s => (o.v env s).bind fun x s => (i.v env s).bind fun y s => (setA x y d s).bind fun _ s => .ok env s
/-- list(a dict): its keys -/
def listT (xs : List D) (s : Sto) : R D := match xs with
  | [.ref i] => match dOf s i with
    | some (_, _, kvs) => if kvs.length ≤ sizeLine then .ok (.ref s.n) (s.add (.lst (kvs.map (·.1)))) else .no
    | none => .no
  | _ => .no
def listA (xs : List D) (s : Sto) : R D := match listB xs s with
  | .ok d s => .ok d s
  | .no => listT xs s
/-- d.items(), looked at one by one: the dict stays as it is for good -/
def iItems (a : Sem) : EvI := fun env s => (a.v env s).bind fun x s => match x with
  | .ref i => match dOf s i with
    | some (false, m, kvs) => .ok (.its (kvs.map fun kv => .tup [kv.1, kv.2])) (s.set i (.dct ((.bl true, m) :: kvs)))
    | _ => .no
  | _ => .no
end Cs

/-! ## CsSim -/
namespace Cs
open PySem PySem.Spec PyProof.Rows L2

/-! ### what a value of the machine stands for -/
/-- a list that stays: locked, or of the written part -/
def SqF (K : PySem.W.Frag) (H : Hp) (a : Addr) (xs : List V) : Prop :=
  (∃ o, H a = some (.frz o (.lst xs))) ∨
    ∃ (o : Obj) (its : Array Value) (n : Nat), K.lookup a = some o ∧ o.cls = .type "list" ∧ o.dict = none ∧ o.data = .seq its n ∧ its.size ≤ sizeLine ∧ Vals xs its.toList
theorem SqF.sq {K : PySem.W.Frag} {H : Hp} {a : Addr} {xs : List V} (h : SqF K H a xs) : SqL K H a xs := by
  rcases h with h | h
  · exact .inl (.inr h)
  · exact .inr h
/-- a tracked tuple -/
def SqH (K : PySem.W.Frag) (H : Hp) (a : Addr) (xs : List V) : Prop := H a = some (.tup xs)
theorem SqH.t {K : PySem.W.Frag} {H : Hp} {a : Addr} {xs : List V} (h : SqH K H a xs) : SqT K H a xs := .inl (.inl h)
mutual
inductive Rep (K : PySem.W.Frag) (H : Hp) (μ : List Addr) : V → D → Prop
  | non : Rep K H μ .non .non
  | bl (b : Bool) : Rep K H μ (.bl b) (.bl b)
  | int (i : Int) : Rep K H μ (.int i) (.int i)
  | str (x : Str) : Rep K H μ (.str x) (.str x)
  | tup {a : Addr} {xs : List V} {ds : List D} : SqH K H a xs → Reps K H μ xs ds → Rep K H μ (.ref a) (.tup ds)
  | fix {a : Addr} {xs : List V} {ds : List D} : SqF K H a xs → Reps K H μ xs ds → Rep K H μ (.ref a) (.fix ds)
  | ref {i : Nat} {a : Addr} : μ[i]? = some a → Rep K H μ (.ref a) (.ref i)
inductive Reps (K : PySem.W.Frag) (H : Hp) (μ : List Addr) : List V → List D → Prop
  | nil : Reps K H μ [] []
  | cons {v : V} {vs : List V} {d : D} {ds : List D} : Rep K H μ v d → Reps K H μ vs ds → Reps K H μ (v :: vs) (d :: ds)
end
/-- entries: keys tuples of whole numbers -/
def KvR (K : PySem.W.Frag) (H : Hp) (μ : List Addr) : List (List Key × V) → List (D × D) → Prop :=
  Paired fun p q => (∃ ns : List Int, p.1 = ns.map Sum.inl ∧ q.1 = .tup (ns.map .int)) ∧ Rep K H μ p.2 q.2
/-- a dict: without a mark an empty one; marked by False one with tuples as keys; by True the same, looked at for good -/
def RepT (K : PySem.W.Frag) (H : Hp) (μ : List Addr) (a : Addr) : List (D × D) → Prop
  | [] => H a = some (.dK [])
  | (.bl false, _) :: kvs => ∃ vs, H a = some (.dT vs) ∧ KvR K H μ vs kvs
  | (.bl true, _) :: kvs => ∃ o vs, H a = some (.frz o (.dT vs)) ∧ KvR K H μ vs kvs
  | _ => False
def RepO (K : PySem.W.Frag) (H : Hp) (μ : List Addr) (a : Addr) : O → Prop
  | .lst ds => ∃ xs, H a = some (.lst xs) ∧ Reps K H μ xs ds
  | .dct kvs => RepT K H μ a kvs
structure Sim (K : PySem.W.Frag) (μ : List Addr) (H : Hp) (s : Sto) : Prop where
  nx : μ.length = s.n
  nd : μ.Nodup
  ob : ∀ (i : Nat) (a : Addr), μ[i]? = some a → ∃ o, s.get i = some o ∧ RepO K H μ a o
  up : ∀ i, s.n ≤ i → s.get i = none
/-- later: only the listed objects changed, new ones were new -/
structure Ext (μ : List Addr) (H : Hp) (μ' : List Addr) (H' : Hp) : Prop where
  pre : ∀ (i : Nat) (a : Addr), μ[i]? = some a → μ'[i]? = some a
  keep : ∀ a o, H a = some o → a ∉ μ → H' a = some o
  fresh : ∀ a, a ∈ μ' → a ∉ μ → H a = none
  fz : ∀ a o vs, H a = some (.frz o (.dT vs)) → H' a = some (.frz o (.dT vs))
def EnvR (K : PySem.W.Frag) (H : Hp) (μ : List Addr) (σ : L2.St) (env : Env) : Prop :=
  σ.length = env.length ∧ ∀ (i : Nat) (d : D), env[i]? = some (some d) → ∃ v, σ[i]? = some (some v) ∧ Rep K H μ v d

section
variable {K : PySem.W.Frag} {μ μ' μ'' : List Addr} {H H' H'' : Hp} {s s' : Sto} {σ : L2.St} {env : Env}
theorem Ext.refl : Ext μ H μ H := ⟨fun _ _ h => h, fun _ _ h _ => h, fun _ h n => absurd h n, fun _ _ _ h => h⟩
theorem Ext.sub (e : Ext μ H μ' H') {a : Addr} (h : a ∈ μ) : a ∈ μ' := by
  obtain ⟨i, hi⟩ := List.getElem?_of_mem h
  exact List.mem_of_getElem? (e.pre i a hi)
theorem Ext.trans (e : Ext μ H μ' H') (f : Ext μ' H' μ'' H'') : Ext μ H μ'' H'' where
  fz := fun a o vs h => f.fz a o vs (e.fz a o vs h)
  pre := fun i a h => f.pre i a (e.pre i a h)
  keep := fun a o h n => by
    refine f.keep a o (e.keep a o h n) fun z => ?_
    have := e.fresh a z n
    rw [h] at this; cases this
  fresh := fun a h n => by
    by_cases z : a ∈ μ'
    · exact e.fresh a z n
    · have q := f.fresh a h z
      cases q' : H a with
      | none => rfl
      | some o =>
        have := e.keep a o q' n
        rw [q] at this; cases this
theorem Ext.same (h : Same H H') : Ext μ H μ H' := ⟨fun _ _ h => h, fun a o q _ => h a o q, fun _ h n => absurd h n, fun a o vs q => h a _ q⟩
inductive Mu where
  | l (xs : List V)
  | k (kvs : List (Key × V))
  | t (vs : List (List Key × V))
  | z (o : Obj) (vs : List (List Key × V))
def muO : Mu → HO
  | .l xs => .lst xs
  | .k kvs => .dK kvs
  | .t vs => .dT vs
  | .z o vs => .frz o (.dT vs)
def sqO : HO → Bool
  | .lst _ => true
  | .tup _ => true
  | _ => false
theorem RepT.mu {K : PySem.W.Frag} {H : Hp} {μ : List Addr} {a : Addr} {kvs : List (D × D)} (q : RepT K H μ a kvs) : ∃ z, H a = some (muO z) := by
  unfold RepT at q
  split at q
  · exact ⟨.k [], q⟩
  · obtain ⟨vs, e, _⟩ := q; exact ⟨.t vs, e⟩
  · obtain ⟨o, vs, e, _⟩ := q; exact ⟨.z o vs, e⟩
  · exact q.elim
theorem RepT.move {K : PySem.W.Frag} {H H' : Hp} {μ μ' : List Addr} {a : Addr} {kvs : List (D × D)} (q : RepT K H μ a kvs) (ha : ∀ o, H a = some o → H' a = some o) (kr : ∀ d v, Rep K H μ v d → Rep K H' μ' v d) : RepT K H' μ' a kvs := by
  have kv : ∀ {vs : List (List Key × V)} {kvs : List (D × D)}, KvR K H μ vs kvs → KvR K H' μ' vs kvs := fun h => Paired.mapP h fun _ _ z => ⟨z.1, kr _ _ z.2⟩
  unfold RepT at q ⊢
  split at q
  · exact ha _ q
  · obtain ⟨vs, e, r⟩ := q; exact ⟨vs, ha _ e, kv r⟩
  · obtain ⟨o, vs, e, r⟩ := q; exact ⟨o, vs, ha _ e, kv r⟩
  · exact q.elim
theorem Sim.mem (S : Sim K μ H s) {a : Addr} (h : a ∈ μ) : ∃ z, H a = some (muO z) := by
  obtain ⟨i, hi, e⟩ := List.getElem_of_mem h
  obtain ⟨o, _, q⟩ := S.ob i a (by rw [List.getElem?_eq_getElem hi, e])
  cases o with
  | lst ds => obtain ⟨xs, hx, _⟩ := q; exact ⟨.l xs, hx⟩
  | dct kvs => exact q.mu
theorem Sim.nomem (S : Sim K μ H s) {a : Addr} (h : ∀ z, H a ≠ some (muO z)) : a ∉ μ := fun z => by
  obtain ⟨xs, e⟩ := S.mem z
  exact h xs e
theorem Sim.nosq (S : Sim K μ H s) {a : Addr} {o : Obj} {u : HO} (h : H a = some (.frz o u)) (hq : sqO u = true) : a ∉ μ := S.nomem fun ys z => by
  rw [h] at z
  cases ys <;> cases z
  exact absurd hq (by simp [sqO])
theorem Sim.at (S : Sim K μ H s) {i : Nat} {o : O} (h : s.get i = some o) : ∃ a, μ[i]? = some a ∧ RepO K H μ a o := by
  by_cases hi : i < μ.length
  · obtain ⟨o', e, r⟩ := S.ob i μ[i] (List.getElem?_eq_getElem hi)
    rw [h] at e; cases e
    exact ⟨μ[i], List.getElem?_eq_getElem hi, r⟩
  · rw [S.up i (by rw [← S.nx]; omega)] at h; cases h
theorem sqT_keep (k : ∀ a xs, H a = some (.tup xs) → H' a = some (.tup xs)) (kf : ∀ a o u, H a = some (.frz o u) → sqO u = true → H' a = some (.frz o u)) {a : Addr} {xs : List V} (h : SqT K H a xs) : SqT K H' a xs := by
  rcases h with (h | ⟨o, h⟩) | h
  · exact .inl (.inl (k _ _ h))
  · exact .inl (.inr ⟨o, kf _ _ _ h rfl⟩)
  · exact .inr h
theorem sqF_keep (kf : ∀ a o u, H a = some (.frz o u) → sqO u = true → H' a = some (.frz o u)) {a : Addr} {xs : List V} (h : SqF K H a xs) : SqF K H' a xs := by
  rcases h with ⟨o, h⟩ | h
  · exact .inl ⟨o, kf _ _ _ h rfl⟩
  · exact .inr h
mutual
theorem Rep.keep (k : ∀ a xs, H a = some (.tup xs) → H' a = some (.tup xs)) (kf : ∀ a o u, H a = some (.frz o u) → sqO u = true → H' a = some (.frz o u)) (km : ∀ (i : Nat) (a : Addr), μ[i]? = some a → μ'[i]? = some a) :
    ∀ (d : D) (v : V), Rep K H μ v d → Rep K H' μ' v d
  | .non, _, h => by cases h; exact .non
  | .bl b, _, h => by cases h; exact .bl b
  | .int i, _, h => by cases h; exact .int i
  | .str x, _, h => by cases h; exact .str x
  | .tup ds, _, h => by
    cases h with
    | tup q r => exact .tup (k _ _ q) (Reps.keep k kf km ds _ r)
  | .fix ds, _, h => by
    cases h with
    | fix q r => exact .fix (sqF_keep kf q) (Reps.keep k kf km ds _ r)
  | .ref i, _, h => by
    cases h with
    | ref q => exact .ref (km _ _ q)
theorem Reps.keep (k : ∀ a xs, H a = some (.tup xs) → H' a = some (.tup xs)) (kf : ∀ a o u, H a = some (.frz o u) → sqO u = true → H' a = some (.frz o u)) (km : ∀ (i : Nat) (a : Addr), μ[i]? = some a → μ'[i]? = some a) :
    ∀ (ds : List D) (vs : List V), Reps K H μ vs ds → Reps K H' μ' vs ds
  | [], _, h => by cases h; exact .nil
  | d :: ds, _, h => by
    cases h with
    | cons r q => exact .cons (Rep.keep k kf km d _ r) (Reps.keep k kf km ds _ q)
end
theorem Rep.mono (S : Sim K μ H s) (e : Ext μ H μ' H') {v : V} {d : D} (r : Rep K H μ v d) : Rep K H' μ' v d :=
  Rep.keep (fun a xs h => e.keep a _ h (S.nomem fun ys z => by rw [h] at z; cases ys <;> cases z)) (fun a o u h hq => e.keep a _ h (S.nosq h hq)) e.pre d v r
theorem Reps.mono (S : Sim K μ H s) (e : Ext μ H μ' H') {v : List V} {d : List D} (r : Reps K H μ v d) : Reps K H' μ' v d :=
  Reps.keep (fun a xs h => e.keep a _ h (S.nomem fun ys z => by rw [h] at z; cases ys <;> cases z)) (fun a o u h hq => e.keep a _ h (S.nosq h hq)) e.pre d v r
theorem EnvR.mono (S : Sim K μ H s) (e : Ext μ H μ' H') (r : EnvR K H μ σ env) : EnvR K H' μ' σ env :=
  ⟨r.1, fun i d h => let ⟨v, h1, h2⟩ := r.2 i d h; ⟨v, h1, h2.mono S e⟩⟩
theorem Reps.length : ∀ {ds : List D} {vs : List V}, Reps K H μ vs ds → vs.length = ds.length
  | [], _, h => by cases h; rfl
  | d :: ds, _, h => by
    cases h with
    | cons r q => rw [List.length_cons, List.length_cons, q.length]
theorem Reps.get : ∀ {ds : List D} {vs : List V} {i : Nat} {d : D}, Reps K H μ vs ds → ds[i]? = some d → ∃ v, vs[i]? = some v ∧ Rep K H μ v d
  | [], _, _, _, _, h => by simp at h
  | d :: ds, _, 0, _, r, h => by
    cases r with
    | cons r q => simp at h; subst h; exact ⟨_, rfl, r⟩
  | d :: ds, _, i + 1, e, r, h => by
    cases r with
    | cons r q =>
      obtain ⟨v, h1, h2⟩ := Reps.get (i := i) q (by simpa using h)
      exact ⟨v, by simpa using h1, h2⟩
theorem Reps.none_of {ds : List D} {vs : List V} {i : Nat} (r : Reps K H μ vs ds) (h : ds[i]? = none) : vs[i]? = none := by
  rw [List.getElem?_eq_none_iff] at h ⊢
  rw [r.length]; exact h
theorem Reps.append : ∀ {ds es : List D} {vs ws : List V}, Reps K H μ vs ds → Reps K H μ ws es → Reps K H μ (vs ++ ws) (ds ++ es)
  | [], _, _, _, h, q => by cases h; exact q
  | d :: ds, _, _, _, h, q => by
    cases h with
    | cons r t => exact .cons r (t.append q)
theorem Reps.take : ∀ {ds : List D} {vs : List V} (n : Nat), Reps K H μ vs ds → Reps K H μ (vs.take n) (ds.take n)
  | _, _, 0, _ => .nil
  | [], _, n + 1, h => by cases h; exact .nil
  | d :: ds, _, n + 1, h => by
    cases h with
    | cons r t => exact .cons r (t.take n)
theorem Reps.drop : ∀ {ds : List D} {vs : List V} (n : Nat), Reps K H μ vs ds → Reps K H μ (vs.drop n) (ds.drop n)
  | _, _, 0, h => h
  | [], _, n + 1, h => by cases h; exact .nil
  | d :: ds, _, n + 1, h => by
    cases h with
    | cons r t => exact t.drop n
theorem Reps.set {v : V} {d : D} (r : Rep K H μ v d) : ∀ {ds : List D} {vs : List V} (i : Nat), Reps K H μ vs ds → Reps K H μ (vs.set i v) (ds.set i d)
  | [], _, _, h => by cases h; exact .nil
  | _ :: _, _, 0, h => by
    cases h with
    | cons _ t => exact .cons r t
  | _ :: _, _, i + 1, h => by
    cases h with
    | cons q t => exact .cons q (Reps.set r i t)
theorem Reps.dropLast {ds : List D} {vs : List V} (h : Reps K H μ vs ds) : Reps K H μ vs.dropLast ds.dropLast := by
  rw [List.dropLast_eq_take, List.dropLast_eq_take, h.length]
  exact h.take _
theorem Reps.eraseIdx : ∀ {ds : List D} {vs : List V} (i : Nat), Reps K H μ vs ds → Reps K H μ (vs.eraseIdx i) (ds.eraseIdx i)
  | [], _, _, h => by cases h; exact .nil
  | _ :: _, _, 0, h => by
    cases h with
    | cons _ t => exact t
  | _ :: _, _, i + 1, h => by
    cases h with
    | cons q t => exact .cons q (t.eraseIdx i)
theorem Reps.rep {ds : List D} {vs : List V} (h : Reps K H μ vs ds) : ∀ k : Nat, Reps K H μ (List.replicate k vs).flatten (List.replicate k ds).flatten
  | 0 => .nil
  | k + 1 => by
    rw [List.replicate_succ, List.replicate_succ, List.flatten_cons, List.flatten_cons]
    exact h.append (h.rep k)
theorem Reps.isEmpty {ds : List D} {vs : List V} (h : Reps K H μ vs ds) : vs.isEmpty = ds.isEmpty := by
  cases h <;> rfl
theorem Reps.cut {ds : List D} {vs : List V} (h : Reps K H μ vs ds) (lo hi : Option Int) : Reps K H μ (cutV vs lo hi) (cutD ds lo hi) := by
  unfold cutV cutD
  rw [h.length]
  exact (h.drop _).take _
/-- a new tuple -/
theorem rep_tup {p : Addr} {xs : List V} {ds : List D} (S : Sim K μ H s) (hp : H p = none) (r : Reps K H μ xs ds) : Ext μ H μ (upd H p (.tup xs)) ∧ Sim K μ (upd H p (.tup xs)) s ∧ Rep K (upd H p (.tup xs)) μ (.ref p) (.tup ds) := by
  have sm : Same H (upd H p (.tup xs)) := fun b x e => by
    rw [upd_ne (ne_of_none e hp)]; exact e
  have ex : Ext μ H μ (upd H p (.tup xs)) := .same sm
  refine ⟨ex, ⟨S.nx, S.nd, fun i a h => ?_, S.up⟩, .tup upd_same (r.mono S ex)⟩
  obtain ⟨o, e, q⟩ := S.ob i a h
  refine ⟨o, e, ?_⟩
  cases o with
  | lst ds => obtain ⟨ys, e1, r1⟩ := q; exact ⟨ys, sm _ _ e1, r1.mono S ex⟩
  | dct kvs => exact q.move (fun o h => sm _ _ h) fun d v r => r.mono S ex
theorem Sim.same (S : Sim K μ H s) (sm : Same H H') : Sim K μ H' s := by
  have ex : Ext μ H μ H' := .same sm
  refine ⟨S.nx, S.nd, fun i a h => ?_, S.up⟩
  obtain ⟨o, e, q⟩ := S.ob i a h
  refine ⟨o, e, ?_⟩
  cases o with
  | lst ds => obtain ⟨ys, e1, r1⟩ := q; exact ⟨ys, sm _ _ e1, r1.mono S ex⟩
  | dct kvs => exact q.move (fun o h => sm _ _ h) fun d v r => r.mono S ex
/-- a new list -/
theorem rep_lst {p : Addr} {xs : List V} {ds : List D} (S : Sim K μ H s) (hp : H p = none) (r : Reps K H μ xs ds) :
    Ext μ H (μ ++ [p]) (upd H p (.lst xs)) ∧ Sim K (μ ++ [p]) (upd H p (.lst xs)) (s.add (.lst ds)) ∧ Rep K (upd H p (.lst xs)) (μ ++ [p]) (.ref p) (.ref s.n) := by
  have sm : Same H (upd H p (.lst xs)) := fun b x e => by
    rw [upd_ne (ne_of_none e hp)]; exact e
  have np : p ∉ μ := S.nomem fun ys z => by rw [hp] at z; cases z
  have pre : ∀ (i : Nat) (a : Addr), μ[i]? = some a → (μ ++ [p])[i]? = some a := fun i a h => by
    rw [List.getElem?_append_left]
    · exact h
    · exact (List.getElem?_eq_some_iff.mp h).1
  have ex : Ext μ H (μ ++ [p]) (upd H p (.lst xs)) := ⟨pre, fun a o h _ => sm a o h, fun a h n => by
    rcases List.mem_append.mp h with h | h
    · exact absurd h n
    · rw [List.mem_singleton.mp h]; exact hp, fun a o vs h => sm a _ h⟩
  refine ⟨ex, ⟨?_, ?_, fun i a h => ?_, fun i hi => ?_⟩, .ref ?_⟩
  · rw [List.length_append, S.nx]; rfl
  · rw [List.nodup_append]
    exact ⟨S.nd, by simp, fun a ha b hb e => np (by rw [List.mem_singleton.mp hb] at e; rw [← e]; exact ha)⟩
  · rw [Sto.get_add]
    by_cases hi : i = s.n
    · rw [if_pos hi]
      rw [hi, ← S.nx, List.getElem?_append_right (Nat.le_refl _), Nat.sub_self] at h
      have e : p = a := by simpa using h
      subst e
      exact ⟨_, rfl, xs, upd_same, r.mono S ex⟩
    · rw [if_neg hi]
      have hl : i < μ.length := by
        have := (List.getElem?_eq_some_iff.mp h).1
        rw [List.length_append, S.nx] at this
        have e1 : ([p] : List Addr).length = 1 := rfl
        rw [S.nx]; omega
      rw [List.getElem?_append_left hl] at h
      obtain ⟨o, e, q⟩ := S.ob i a h
      refine ⟨o, e, ?_⟩
      cases o with
      | lst ds => obtain ⟨ys, e1, r1⟩ := q; exact ⟨ys, sm _ _ e1, r1.mono S ex⟩
      | dct kvs => exact q.move (fun o h => sm _ _ h) fun d v r => r.mono S ex
  · rw [Sto.get_add, if_neg (by rw [Sto.n_add] at hi; omega)]
    exact S.up i (by rw [Sto.n_add] at hi; omega)
  · rw [← S.nx, List.getElem?_append_right (Nat.le_refl _), Nat.sub_self]; rfl
/-- a list changed -/
theorem rep_set {i : Nat} {a : Addr} {xs : List V} {ds : List D} {o : O} (S : Sim K μ H s) (ha : μ[i]? = some a) (hl : ∃ zs, H a = some (.lst zs)) (r : Reps K H μ xs ds) :
    Ext μ H μ (upd H a (.lst xs)) ∧ Sim K μ (upd H a (.lst xs)) (s.set i (.lst ds)) := by
  have ex : Ext μ H μ (upd H a (.lst xs)) := ⟨fun _ _ h => h, fun b o h n => by
    rw [upd_ne (fun z => n (by rw [z]; exact List.mem_of_getElem? ha))]; exact h, fun _ h n => absurd h n, fun b o vs h => by
    obtain ⟨zs, hl⟩ := hl
    rw [upd_ne (fun z => by rw [z, hl] at h; cases h)]; exact h⟩
  refine ⟨ex, S.nx, S.nd, fun j b h => ?_, fun j hj => ?_⟩
  · rw [Sto.get_set]
    by_cases hj : j = i
    · rw [if_pos hj]
      rw [hj, ha] at h
      have e : a = b := Option.some.inj h
      subst e
      exact ⟨_, rfl, xs, upd_same, r.mono S ex⟩
    · rw [if_neg hj]
      obtain ⟨o, e, q⟩ := S.ob j b h
      refine ⟨o, e, ?_⟩
      have nb : b ≠ a := fun z => by
        subst z
        exact hj ((List.getElem?_inj (List.getElem?_eq_some_iff.mp h).1 S.nd).mp (h.trans ha.symm))
      cases o with
      | lst ds => obtain ⟨ys, e1, r1⟩ := q; exact ⟨ys, by rw [upd_ne nb]; exact e1, r1.mono S ex⟩
      | dct kvs => exact q.move (fun o h => by rw [upd_ne nb]; exact h) fun d v r => r.mono S ex
  · rw [Sto.get_set, if_neg ?_]
    · exact S.up j hj
    · have := (List.getElem?_eq_some_iff.mp ha).1
      rw [S.nx] at this
      rw [Sto.n_set] at hj
      omega
end
end Cs

/-! ## CsSim2 -/
namespace Cs
open PySem PySem.Spec PyProof.Rows L2

/-! ### judgements -/
structure Gb where
  P : Program
  w : World
  K : PySem.W.Frag
  mg : Str → Option Value
  base : Heap
structure Cc where
  N : List Str
  sc : Scope
  fn : Str → Bool
  lv : Nat
structure Cc.Ok (g : Gb) (c : Cc) (X : Cx) : Prop where
  prog : X.prog = g.P
  w : X.w = g.w
  K : X.K = g.K
  mg : X.mg = g.mg
  base : X.base = g.base
  N : X.N = c.N
  sc : X.env.scope = c.sc
  nd : c.N.Nodup
  fn : ∀ x, c.fn x = true → X.fn x = true
  calm : X.calm = true
  xe : X.xe = fun _ _ => False
  room : Room c.lv X.A
def RdE (K : PySem.W.Frag) (m : EvE) : TE := fun σ H Q => ∃ μ s env d s', Sim K μ H s ∧ EnvR K H μ σ env ∧ m env s = .ok d s' ∧
  ∀ v H' μ', Ext μ H μ' H' → Sim K μ' H' s' → Rep K H' μ' v d → Q v H'
def RdT (K : PySem.W.Frag) (m : EvT) : TT := fun σ H Q => ∃ μ s env b s', Sim K μ H s ∧ EnvR K H μ σ env ∧ m env s = .ok b s' ∧
  ∀ H' μ', Ext μ H μ' H' → Sim K μ' H' s' → Q b H'
def RdA (K : PySem.W.Frag) (m : EvA) : TA := fun σ H Q => ∃ μ s env ds s', Sim K μ H s ∧ EnvR K H μ σ env ∧ m env s = .ok ds s' ∧
  ∀ vs H' μ', Ext μ H μ' H' → Sim K μ' H' s' → Reps K H' μ' vs ds → Q vs H'
def RdO (K : PySem.W.Frag) (m : EvO) : TO := fun σ H Q => ∃ μ s env d s', Sim K μ H s ∧ EnvR K H μ σ env ∧ m env s = .ok d s' ∧
  ∀ H' μ', Ext μ H μ' H' → Sim K μ' H' s' → Q d H'
/-- two values in, one out -/
def R2D (K : PySem.W.Frag) (f : D → D → Sto → R D) : R2 := fun x y H Q => ∃ μ s dx dy d s', Sim K μ H s ∧ Rep K H μ x dx ∧ Rep K H μ y dy ∧ f dx dy s = .ok d s' ∧
  ∀ v H' μ', Ext μ H μ' H' → Sim K μ' H' s' → Rep K H' μ' v d → Q v H'
def R1D (K : PySem.W.Frag) (f : D → Sto → R D) : V → Hp → VK → Prop := fun x H Q => ∃ μ s dx d s', Sim K μ H s ∧ Rep K H μ x dx ∧ f dx s = .ok d s' ∧
  ∀ v H' μ', Ext μ H μ' H' → Sim K μ' H' s' → Rep K H' μ' v d → Q v H'
def RnD (K : PySem.W.Frag) (f : List D → Sto → R D) : List V → Hp → VK → Prop := fun xs H Q => ∃ μ s ds d s', Sim K μ H s ∧ Reps K H μ xs ds ∧ f ds s = .ok d s' ∧
  ∀ v H' μ', Ext μ H μ' H' → Sim K μ' H' s' → Rep K H' μ' v d → Q v H'
def RmD (K : PySem.W.Frag) (f : D → List D → Sto → R D) : V → List V → Hp → VK → Prop := fun x xs H Q => ∃ μ s dx ds d s', Sim K μ H s ∧ Rep K H μ x dx ∧ Reps K H μ xs ds ∧ f dx ds s = .ok d s' ∧
  ∀ v H' μ', Ext μ H μ' H' → Sim K μ' H' s' → Rep K H' μ' v d → Q v H'

variable (g : Gb) (c : Cc)
def JE (m : Sem) (e : Expr) : Prop := ∀ X : Cx, c.Ok g X → PE X e (RdE g.K m.v) ∧ PT X e (RdT g.K m.t)
def JA (m : EvA) (es : List Expr) : Prop := ∀ X : Cx, c.Ok g X → PA X es (RdA g.K m)
def JO (m : EvO) (e : Option Expr) : Prop := ∀ X : Cx, c.Ok g X → PO X e (RdO g.K m)
variable {g c}

theorem bind_ok {α β : Type} {r : R α} {f : α → Sto → R β} {b : β} {s' : Sto} (h : r.bind f = .ok b s') : ∃ a s, r = .ok a s ∧ f a s = .ok b s' := by
  cases r with
  | ok a s => exact ⟨a, s, rfl, h⟩
  | no => cases h

theorem PE.imp {X : Cx} {e : Expr} {t t' : TE} (h : PE X e t) (f : ∀ σ H Q, t' σ H Q → t σ H Q) : PE X e t' := ⟨fun pins s σ H Q I q => h.run pins s σ H Q I (f σ H Q q)⟩
theorem PT.imp {X : Cx} {e : Expr} {t t' : TT} (h : PT X e t) (f : ∀ σ H Q, t' σ H Q → t σ H Q) : PT X e t' := ⟨fun pins s σ H Q I q => h.run pins s σ H Q I (f σ H Q q)⟩
theorem PW.imp {X : Cx} {e : Expr} {t t' : TT} (h : PW X e t) (f : ∀ σ H Q, t' σ H Q → t σ H Q) : PW X e t' := ⟨fun wh pins s σ H Q I q => h.run wh pins s σ H Q I (f σ H Q q)⟩
theorem PA.imp {X : Cx} {e : List Expr} {t t' : TA} (h : PA X e t) (f : ∀ σ H Q, t' σ H Q → t σ H Q) : PA X e t' := ⟨fun p pins s σ H Q I q => h.run p pins s σ H Q I (f σ H Q q)⟩
theorem PO.imp {X : Cx} {e : Option Expr} {t t' : TO} (h : PO X e t) (f : ∀ σ H Q, t' σ H Q → t σ H Q) : PO X e t' := ⟨fun pins s σ H Q I q => h.run pins s σ H Q I (f σ H Q q)⟩
theorem OpR.imp {X : Cx} {f : Value → Value → PySem.Sem Value} {r r' : R2} (h : OpR X f r) (i : ∀ x y H Q, r' x y H Q → r x y H Q) : OpR X f r' := fun pins s σ H x y v u Q I rx ry q => h pins s σ H x y v u Q I rx ry (i x y H Q q)
theorem UnR.imp {X : Cx} {f : Value → PySem.Sem Value} {r r' : V → Hp → VK → Prop} (h : UnR X f r) (i : ∀ x H Q, r' x H Q → r x H Q) : UnR X f r' := fun pins s σ H x v Q I rx q => h pins s σ H x v Q I rx (i x H Q q)
theorem CallR.imp {X : Cx} {f : Value} {r r' : List V → Hp → VK → Prop} (h : CallR X f r) (i : ∀ x H Q, r' x H Q → r x H Q) : CallR X f r' := fun pins s σ H x v Q I rx q => h pins s σ H x v Q I rx (i x H Q q)

section
variable {K : PySem.W.Frag} {μ : List Addr} {H : Hp} {s s' : Sto} {v : V} {d : D}
theorem truth_tru {b : Bool} (S : Sim K μ H s) (r : Rep K H μ v d) (h : truth d s = .ok b s') : s' = s ∧ TruV K v H b := by
  cases r with
  | non => cases h; exact ⟨rfl, rfl⟩
  | bl b => cases h; exact ⟨rfl, rfl⟩
  | int i => cases h; exact ⟨rfl, rfl⟩
  | str x =>
    unfold truth at h
    dsimp only at h
    split at h
    · rename_i hl
      cases h
      refine ⟨rfl, hl, ?_⟩
      by_cases z : x.length = 0
      · rw [z]; rfl
      · have z' : ¬ ((x.length : Int) = 0) := by omega
        show (!(x.length == 0)) = !((x.length : Int) == 0)
        rw [beq_eq_false_iff_ne.mpr z, beq_eq_false_iff_ne.mpr z']
    · cases h
  | tup q r => cases h; exact ⟨rfl, .inr (.inl ⟨_, q.t, by rw [r.isEmpty]⟩)⟩
  | fix q r => cases h; exact ⟨rfl, .inl ⟨_, q.sq, by rw [r.isEmpty]⟩⟩
  | @ref i a q =>
    obtain ⟨o, e, ro⟩ := S.ob i a q
    unfold truth at h
    dsimp only at h
    rw [e] at h
    cases o with
    | lst ds =>
      cases h
      obtain ⟨xs, e1, r1⟩ := ro
      exact ⟨rfl, .inl ⟨xs, .of e1, by rw [r1.isEmpty]⟩⟩
    | dct kvs => cases h
end

section
variable {X : Cx} {e a b : Expr} {pos : Pos}
/-- an expression's test is its value's truth -/
theorem pt_mk {K : PySem.W.Frag} (hK : X.K = K) {v : EvE} (h : PE X e (RdE K v)) (he : ∀ whole, isTrue e X.env whole = (do let v ← whole; standAt e.pos; holding [v] (truthy v))) : PT X e (RdT K (mk v).t) := by
  refine PT.imp (pt_truth h he) fun σ H Q q => ?_
  obtain ⟨μ, s, env, b, s', S, E, hv, q⟩ := q
  obtain ⟨d, s1, h1, h2⟩ := bind_ok hv
  refine ⟨μ, s, env, d, s1, S, E, h1, fun v H' μ' ex S' r => ?_⟩
  obtain ⟨rfl, t⟩ := truth_tru S' r h2
  exact ⟨b, by rw [hK]; exact t, q H' μ' ex S'⟩
/-- .. of a comparison -/
theorem pt_mkB {K : PySem.W.Frag} {v : EvE} (hb : ∀ env s d s', v env s = .ok d s' → ∃ b, d = .bl b) (h : PT X e (fun σ H Q => RdE K v σ H fun x H' => ∃ k, x = .bl k ∧ Q k H')) : PT X e (RdT K (mk v).t) := by
  refine PT.imp h fun σ H Q q => ?_
  obtain ⟨μ, s, env, b, s', S, E, hv, q⟩ := q
  obtain ⟨d, s1, h1, h2⟩ := bind_ok hv
  obtain ⟨k, rfl⟩ := hb _ _ _ _ h1
  obtain ⟨rfl, rfl⟩ : k = b ∧ s1 = s' := by
    have e2 : R.ok k s1 = .ok b s' := h2
    injection e2 with e3 e4
    exact ⟨e3, e4⟩
  refine ⟨μ, s, env, .bl k, s1, S, E, h1, fun v H' μ' ex S' r => ?_⟩
  cases r
  exact ⟨k, rfl, q H' μ' ex S'⟩
end

section
variable {m ma mb mc : Sem} {e a b d : Expr} {pos : Pos}
theorem je_mk {v : EvE} (h : ∀ X : Cx, c.Ok g X → PE X e (RdE g.K v)) (he : ∀ env whole, isTrue e env whole = (do let v ← whole; standAt e.pos; holding [v] (truthy v))) : JE g c (mk v) e := fun X ok =>
  ⟨h X ok, pt_mk ok.K (h X ok) (he X.env)⟩
theorem rdE_const {K : PySem.W.Frag} {v : V} {d : D} (r : ∀ H μ, Rep K H μ v d) {σ : L2.St} {H : Hp} {Q : VK} (h : RdE K (fun _ s => .ok d s) σ H Q) : Q v H := by
  obtain ⟨μ, s, env, d', s', S, E, hv, q⟩ := h
  cases hv
  exact q v H μ .refl S (r H μ)
theorem je_int {i j pos} : JE g c (xC (.int i)) (.Constant (.int i) j pos) := je_mk (fun X ok => PE.imp pe_int fun σ H Q h => rdE_const (fun _ _ => .int i) h) (by intro _ _; rfl)
theorem je_bl {i j pos} : JE g c (xC (.bl i)) (.Constant (.bool i) j pos) := je_mk (fun X ok => PE.imp pe_bl fun σ H Q h => rdE_const (fun _ _ => .bl i) h) (by intro _ _; rfl)
theorem je_str {i j pos} : JE g c (xC (.str i)) (.Constant (.str i) j pos) := je_mk (fun X ok => PE.imp pe_str fun σ H Q h => rdE_const (fun _ _ => .str i) h) (by intro _ _; rfl)
theorem je_non {j pos} : JE g c (xC .non) (.Constant .none j pos) := je_mk (fun X ok => PE.imp pe_non fun σ H Q h => rdE_const (fun _ _ => .non) h) (by intro _ _; rfl)
/-- a module's constant: an int, a text -/
theorem je_glob {x : Str} {v : V} {u : Value} {k : D} (hs : c.sc.names.lookup x = some .globalImplicit) (hm : g.mg x = some u) (r : RelV v u) (rk : ∀ H μ, Rep g.K H μ v k) (hd : (x == ("__debug__" : Str)) = false := by decide) : JE g c (xC k) (.Name x pos) :=
  je_mk (fun X ok => PE.imp (pe_glob (by show X.env.scope.names.lookup x = _; rw [ok.sc]; exact hs) (by rw [ok.mg]; exact hm) r hd) fun σ H Q h => rdE_const rk h) (by intro _ _; rfl)
/-- a name of the def -/
def Cc.vis (c : Cc) (x : Str) : Prop := c.sc.names.lookup x = some .local ∨ c.sc.names.lookup x = some .cell ∨ c.sc.names.lookup x = some .free
theorem je_var {x : Str} (i : Nat) (hN : c.N[i]? = some x := by rfl) (hv : c.vis x := by first | exact Or.inl rfl | exact Or.inr (Or.inl rfl) | exact Or.inr (Or.inr rfl)) (hd : (x == ("__debug__" : Str)) = false := by decide)
    (hcd : (x == ("__classdict__" : Str)) = false := by decide) : JE g c (xVar i) (.Name x pos) := by
  refine je_mk (fun X ok => PE.imp (pe_var (i := i) (by rw [ok.N]; exact hN) (by unfold Vis; rw [ok.sc]; exact hv) hd hcd) fun σ H Q h => ?_) (by intro _ _; rfl)
  obtain ⟨μ, s, env, d', s', S, E, hv, q⟩ := h
  dsimp only at hv
  split at hv
  · rename_i d'' he
    cases hv
    obtain ⟨v, h1, h2⟩ := E.2 i _ he
    exact ⟨v, h1, q v H μ .refl S h2⟩
  · cases hv
/-- two in a row -/
theorem rd_two {K : PySem.W.Frag} {ma mb : EvE} {f : D → D → Sto → R D} {σ : L2.St} {H : Hp} {Q : VK} (h : RdE K (fun env s => (ma env s).bind fun x s => (mb env s).bind fun y s => f x y s) σ H Q) :
    tOp (R2D K f) (RdE K ma) (RdE K mb) σ H Q := by
  obtain ⟨μ, s, env, d, s', S, E, hv, q⟩ := h
  obtain ⟨d1, s1, h1, hv⟩ := bind_ok hv
  obtain ⟨d2, s2, h2, hv⟩ := bind_ok hv
  refine ⟨μ, s, env, d1, s1, S, E, h1, fun v1 H1 μ1 x1 S1 r1 => ?_⟩
  refine ⟨μ1, s1, env, d2, s2, S1, E.mono S x1, h2, fun v2 H2 μ2 x2 S2 r2 => ?_⟩
  exact ⟨μ2, s2, d1, d2, d, s', S2, r1.mono S1 x2, r2, hv, fun v H' μ' x3 S3 r3 => q v H' μ' (x1.trans (x2.trans x3)) S3 r3⟩
theorem je_bin {op : Operator} {f : D → D → Sto → R D} (ho : ∀ X : Cx, c.Ok g X → OpR X (binaryOp op) (R2D g.K f)) (ha : JE g c ma a) (hb : JE g c mb b) : JE g c (xBin f ma mb) (.BinOp a op b pos) :=
  je_mk (fun X ok => PE.imp (pe_op (ho X ok) (ha X ok).1 (hb X ok).1) fun σ H Q h => rd_two h) (by intro _ _; rfl)
theorem je_un {op : UnaryOp} {f : D → Sto → R D} (ho : ∀ X : Cx, c.Ok g X → UnR X (unaryOp op) (R1D g.K f)) (ha : JE g c ma a) (he : ∀ env whole, isTrue (.UnaryOp op a pos) env whole = (do let v ← whole; standAt pos; holding [v] (truthy v)) := by intro _ _; rfl) : JE g c (xUn f ma) (.UnaryOp op a pos) := by
  refine je_mk (fun X ok => PE.imp (pe_un (ho X ok) (ha X ok).1) fun σ H Q h => ?_) he
  obtain ⟨μ, s, env, d, s', S, E, hv, q⟩ := h
  obtain ⟨d1, s1, h1, hv⟩ := bind_ok hv
  exact ⟨μ, s, env, d1, s1, S, E, h1, fun v1 H1 μ1 x1 S1 r1 => ⟨μ1, s1, d1, d, s', S1, r1, hv, fun v H' μ' x3 S3 r3 => q v H' μ' (x1.trans x3) S3 r3⟩⟩
theorem je_cmp {op : CmpOp} {f : D → D → Sto → R D} (ho : ∀ X : Cx, c.Ok g X → OpR X (compareOp op) (R2D g.K f)) (hf : ∀ x y s d s', f x y s = .ok d s' → ∃ b, d = .bl b) (ha : JE g c ma a) (hb : JE g c mb b) (hm : behindInMarks op b = false := by first | exact nomark _ | rfl) :
    JE g c (xBin f ma mb) (.Compare a [op] [b] pos) := fun X ok =>
  ⟨PE.imp (pe_cmpR (ho X ok) (ha X ok).1 (hb X ok).1 hm) fun σ H Q h => rd_two h,
   pt_mkB (fun env s d s' h => by
      obtain ⟨d1, s1, _, h⟩ := bind_ok h
      obtain ⟨d2, s2, _, h⟩ := bind_ok h
      exact hf _ _ _ _ _ h) (PT.imp (pt_cmpR (ho X ok) (ha X ok).1 (hb X ok).1 hm) fun σ H Q h => rd_two h)⟩
theorem rd_chain {K : PySem.W.Frag} {ma mb mc : EvE} {f f' : D → D → Sto → R D} (hf : ∀ x y s d s', f x y s = .ok d s' → ∃ b, d = .bl b) {σ : L2.St} {H : Hp} {Q : VK}
    (h : RdE K (fun env s => (ma env s).bind fun x s => (mb env s).bind fun y s => (f x y s).bind fun z s => match z with
      | .bl true => (mc env s).bind fun w s => f' y w s
      | .bl false => .ok (.bl false) s
      | _ => .no) σ H Q) : tChain (R2D K f) (R2D K f') (RdE K ma) (RdE K mb) (RdE K mc) σ H Q := by
  obtain ⟨μ, s, env, d, s', S, E, hv, q⟩ := h
  obtain ⟨d1, s1, h1, hv⟩ := bind_ok hv
  obtain ⟨d2, s2, h2, hv⟩ := bind_ok hv
  obtain ⟨d3, s3, h3, hv⟩ := bind_ok hv
  refine ⟨μ, s, env, d1, s1, S, E, h1, fun v1 H1 μ1 x1 S1 r1 => ?_⟩
  refine ⟨μ1, s1, env, d2, s2, S1, E.mono S x1, h2, fun v2 H2 μ2 x2 S2 r2 => ?_⟩
  refine ⟨μ2, s2, d1, d2, d3, s3, S2, r1.mono S1 x2, r2, h3, fun v3 H3 μ3 x3 S3 r3 => ?_⟩
  obtain ⟨k, rfl⟩ := hf _ _ _ _ _ h3
  cases r3
  refine ⟨k, rfl, ?_⟩
  cases k with
  | true =>
    obtain ⟨d4, s4, h4, hv⟩ := bind_ok hv
    refine iteT ⟨μ3, s3, env, d4, s4, S3, (E.mono S x1).mono S1 (x2.trans x3), h4, fun v4 H4 μ4 x4 S4 r4 => ?_⟩
    exact ⟨μ4, s4, d2, d4, d, s', S4, r2.mono S2 (x3.trans x4), r4, hv, fun v H' μ' x5 S5 r5 => q v H' μ' (x1.trans (x2.trans (x3.trans (x4.trans x5)))) S5 r5⟩
  | false =>
    cases hv
    exact iteF (q _ H3 μ3 (x1.trans (x2.trans x3)) S3 (.bl false))
theorem je_chain {op op' : CmpOp} {f f' : D → D → Sto → R D} (ho : ∀ X : Cx, c.Ok g X → OpR X (compareOp op) (R2D g.K f)) (ho' : ∀ X : Cx, c.Ok g X → OpR X (compareOp op') (R2D g.K f'))
    (hf : ∀ x y s d s', f x y s = .ok d s' → ∃ b, d = .bl b) (hf' : ∀ x y s d s', f' x y s = .ok d s' → ∃ b, d = .bl b) (ha : JE g c ma a) (hb : JE g c mb b) (hc : JE g c mc d)
    (hm : lastMarks [op, op'] [b, d] = false := by with_unfolding_all rfl) : JE g c (xChain f f' ma mb mc) (.Compare a [op, op'] [b, d] pos) := fun X ok =>
  ⟨PE.imp (pe_chain (ho X ok) (ho' X ok) (ha X ok).1 (hb X ok).1 (hc X ok).1 hm) fun σ H Q h => rd_chain hf h,
   pt_mkB (fun env s d s' h => by
      obtain ⟨d1, s1, _, h⟩ := bind_ok h
      obtain ⟨d2, s2, _, h⟩ := bind_ok h
      obtain ⟨d3, s3, h3, h⟩ := bind_ok h
      obtain ⟨k, rfl⟩ := hf _ _ _ _ _ h3
      cases k with
      | true =>
        obtain ⟨d4, s4, _, h⟩ := bind_ok h
        exact hf' _ _ _ _ _ h
      | false => cases h; exact ⟨_, rfl⟩) (PT.imp (pt_chain (ho X ok) (ho' X ok) (ha X ok).1 (hb X ok).1 (hc X ok).1 hm) fun σ H Q h => rd_chain hf h)⟩
/-! ### and, or, not, if -/
theorem rdT_not {K : PySem.W.Frag} {ma : EvT} {σ : L2.St} {H : Hp} {Q : Bool → Hp → Prop} (h : RdT K (fun env s => (ma env s).bind fun b s => .ok (!b) s) σ H Q) : tNot (RdT K ma) σ H Q := by
  obtain ⟨μ, s, env, d, s', S, E, hv, q⟩ := h
  obtain ⟨d1, s1, h1, hv⟩ := bind_ok hv
  cases hv
  exact ⟨μ, s, env, d1, s', S, E, h1, fun H1 μ1 x1 S1 => q H1 μ1 x1 S1⟩
theorem je_not (ha : JE g c ma a) : JE g c (xNot ma) (.UnaryOp .Not a pos) := fun X ok => by
  refine ⟨PE.imp (pe_notT (ha X ok).1) fun σ H Q h => ?_, PT.imp (pt_not (ha X ok).2) fun σ H Q h => rdT_not h⟩
  obtain ⟨μ, s, env, d, s', S, E, hv, q⟩ := h
  obtain ⟨d1, s1, h1, hv⟩ := bind_ok hv
  obtain ⟨k, s2, h2, hv⟩ := bind_ok hv
  cases hv
  refine ⟨μ, s, env, d1, s1, S, E, h1, fun v H1 μ1 x1 S1 r1 => ?_⟩
  obtain ⟨rfl, t⟩ := truth_tru S1 r1 h2
  exact ⟨k, by rw [ok.K]; exact t, q _ H1 μ1 x1 S1 (.bl _)⟩
/-- a chain of and | or: all its parts -/
def JW (g : Gb) (c : Cc) (op : BoolOp) (m : Sem) (es : List Expr) : Prop := ∀ (pos : Pos) (X : Cx), c.Ok g X → PE X (.BoolOp op es pos) (RdE g.K m.v) ∧ PW X (.BoolOp op es pos) (RdT g.K m.t)
theorem je_bool {op : BoolOp} {es : List Expr} (h : JW g c op m es) : JE g c m (.BoolOp op es pos) := fun X ok => ⟨(h pos X ok).1, (h pos X ok).2.pt⟩
theorem jw_and1 (ha : JE g c ma a) : JW g c .And ma [a] := fun pos X ok => ⟨pe_one (ha X ok).1, pw_and1 (ha X ok).2⟩
theorem jw_or1 (ha : JE g c ma a) : JW g c .Or ma [a] := fun pos X ok => ⟨pe_one (ha X ok).1, pw_or1 (ha X ok).2⟩
theorem jw_and {es : List Expr} (ha : JE g c ma a) (hb : JW g c .And mb (b :: es)) : JW g c .And (xAnd ma mb) (a :: b :: es) := fun pos X ok => by
  refine ⟨PE.imp (pe_andT (ha X ok).1 (hb pos X ok).1) fun σ H Q h => ?_, PW.imp (pw_and (ha X ok).2 (hb pos X ok).2) fun σ H Q h => ?_⟩
  · obtain ⟨μ, s, env, d, s', S, E, hv, q⟩ := h
    obtain ⟨d1, s1, h1, hv⟩ := bind_ok hv
    obtain ⟨k, s2, h2, hv⟩ := bind_ok hv
    refine ⟨μ, s, env, d1, s1, S, E, h1, fun v H1 μ1 x1 S1 r1 => ?_⟩
    obtain ⟨rfl, t⟩ := truth_tru S1 r1 h2
    refine ⟨k, by rw [ok.K]; exact t, ?_⟩
    cases k with
    | true => exact iteT ⟨μ1, s2, env, d, s', S1, E.mono S x1, hv, fun v H2 μ2 x2 S2 r2 => q v H2 μ2 (x1.trans x2) S2 r2⟩
    | false => cases hv; exact iteF (q v H1 μ1 x1 S1 r1)
  · obtain ⟨μ, s, env, d, s', S, E, hv, q⟩ := h
    obtain ⟨k, s1, h1, hv⟩ := bind_ok hv
    refine ⟨μ, s, env, k, s1, S, E, h1, fun H1 μ1 x1 S1 => ?_⟩
    cases k with
    | true => exact iteT ⟨μ1, s1, env, d, s', S1, E.mono S x1, hv, fun H2 μ2 x2 S2 => q H2 μ2 (x1.trans x2) S2⟩
    | false => cases hv; exact iteF (q H1 μ1 x1 S1)
theorem jw_or {es : List Expr} (ha : JE g c ma a) (hb : JW g c .Or mb (b :: es)) : JW g c .Or (xOr ma mb) (a :: b :: es) := fun pos X ok => by
  refine ⟨PE.imp (pe_orT (ha X ok).1 (hb pos X ok).1) fun σ H Q h => ?_, PW.imp (pw_or (ha X ok).2 (hb pos X ok).2) fun σ H Q h => ?_⟩
  · obtain ⟨μ, s, env, d, s', S, E, hv, q⟩ := h
    obtain ⟨d1, s1, h1, hv⟩ := bind_ok hv
    obtain ⟨k, s2, h2, hv⟩ := bind_ok hv
    refine ⟨μ, s, env, d1, s1, S, E, h1, fun v H1 μ1 x1 S1 r1 => ?_⟩
    obtain ⟨rfl, t⟩ := truth_tru S1 r1 h2
    refine ⟨k, by rw [ok.K]; exact t, ?_⟩
    cases k with
    | false => exact iteF ⟨μ1, s2, env, d, s', S1, E.mono S x1, hv, fun v H2 μ2 x2 S2 r2 => q v H2 μ2 (x1.trans x2) S2 r2⟩
    | true => cases hv; exact iteT (q v H1 μ1 x1 S1 r1)
  · obtain ⟨μ, s, env, d, s', S, E, hv, q⟩ := h
    obtain ⟨k, s1, h1, hv⟩ := bind_ok hv
    refine ⟨μ, s, env, k, s1, S, E, h1, fun H1 μ1 x1 S1 => ?_⟩
    cases k with
    | false => exact iteF ⟨μ1, s1, env, d, s', S1, E.mono S x1, hv, fun H2 μ2 x2 S2 => q H2 μ2 (x1.trans x2) S2⟩
    | true => cases hv; exact iteT (q H1 μ1 x1 S1)
theorem je_if (hc : JE g c mc d) (ha : JE g c ma a) (hb : JE g c mb b) : JE g c (xIf mc ma mb) (.IfExp d a b pos) := fun X ok => by
  refine ⟨PE.imp (pe_ifExp (hc X ok).2 (ha X ok).1 (hb X ok).1) fun σ H Q h => ?_, ⟨fun pins s σ H Q I h => ?_⟩⟩
  · obtain ⟨μ, s, env, d, s', S, E, hv, q⟩ := h
    obtain ⟨k, s1, h1, hv⟩ := bind_ok hv
    refine ⟨μ, s, env, k, s1, S, E, h1, fun H1 μ1 x1 S1 => ?_⟩
    cases k with
    | true => exact iteT ⟨μ1, s1, env, d, s', S1, E.mono S x1, hv, fun v H2 μ2 x2 S2 r2 => q v H2 μ2 (x1.trans x2) S2 r2⟩
    | false => exact iteF ⟨μ1, s1, env, d, s', S1, E.mono S x1, hv, fun v H2 μ2 x2 S2 r2 => q v H2 μ2 (x1.trans x2) S2 r2⟩
  · obtain ⟨μ, s0, env, b, s', S, E, hv, q⟩ := h
    obtain ⟨k, s1, h1, hv⟩ := bind_ok hv
    refine isTrue_IfExp (thn ((hc X ok).2.run pins s σ H (fun b H1 => (if b = true then RdT g.K ma.t σ H1 Q else RdT g.K mb.t σ H1 Q)) I ⟨μ, s0, env, k, s1, S, E, h1, fun H1 μ1 x1 S1 => ?_⟩) fun b s2 h2 => ?_)
    · cases k with
      | true => exact iteT ⟨μ1, s1, env, b, s', S1, E.mono S x1, hv, fun H2 μ2 x2 S2 => q H2 μ2 (x1.trans x2) S2⟩
      | false => exact iteF ⟨μ1, s1, env, b, s', S1, E.mono S x1, hv, fun H2 μ2 x2 S2 => q H2 μ2 (x1.trans x2) S2⟩
    · obtain ⟨H1, I1, q1⟩ := h2
      cases b with
      | true => exact (ha X ok).2.run pins s2 σ H1 Q I1 q1
      | false => exact (hb X ok).2.run pins s2 σ H1 Q I1 q1
/-! ### argument lists, displays, calls -/
theorem ja_nil : JA g c aNil [] := fun X ok => PA.imp pa_nil fun σ H Q h => by
  obtain ⟨μ, s, env, d, s', S, E, hv, q⟩ := h
  cases hv
  exact q [] H μ .refl S .nil
/-- no star -/
def noStar : Expr → Bool
  | .Starred _ _ => false
  | _ => true
theorem star_cons {e : Expr} {es : List Expr} (h : noStar e = true) (env : PySem.Env) : starEach (e :: es) env = (false, eval e env) :: starEach es env := by
  cases e <;> first | rfl | (cases h)
theorem ja_cons {r : EvA} {es : List Expr} (ha : JE g c ma a) (hr : JA g c r es) (hs : noStar a = true := by rfl) : JA g c (aCons ma r) (a :: es) := fun X ok =>
  PA.imp (pa_cons (ha X ok).1 (hr X ok) (star_cons hs _)) fun σ H Q h => by
    obtain ⟨μ, s, env, d, s', S, E, hv, q⟩ := h
    obtain ⟨d1, s1, h1, hv⟩ := bind_ok hv
    obtain ⟨d2, s2, h2, hv⟩ := bind_ok hv
    cases hv
    refine ⟨μ, s, env, d1, s1, S, E, h1, fun v1 H1 μ1 x1 S1 r1 => ?_⟩
    refine ⟨μ1, s1, env, d2, s', S1, E.mono S x1, h2, fun v2 H2 μ2 x2 S2 r2 => ?_⟩
    exact q _ H2 μ2 (x1.trans x2) S2 (.cons (r1.mono S1 x2) r2)
theorem je_tup {r : EvA} {es : List Expr} {k : Nat} (h : JA g c r es) : JE g c (xTup r) (.Tuple es k pos) :=
  je_mk (fun X ok => PE.imp (pe_tup (h X ok)) fun σ H Q h => by
    obtain ⟨μ, s, env, d, s', S, E, hv, q⟩ := h
    obtain ⟨ds, s1, h1, hv⟩ := bind_ok hv
    refine ⟨μ, s, env, ds, s1, S, E, h1, fun vs H1 μ1 x1 S1 r1 => ?_⟩
    split at hv
    · rename_i hl
      cases hv
      refine ⟨by rw [r1.length]; exact hl, fun p hp => ?_⟩
      obtain ⟨x2, S2, r2⟩ := rep_tup S1 hp r1
      exact q _ _ μ1 (x1.trans x2) S2 r2
    · cases hv) (by intro _ _; rfl)
theorem newL_ok {K : PySem.W.Frag} {μ : List Addr} {H : Hp} {s s' : Sto} {ds : List D} {d : D} {vs : List V} (S : Sim K μ H s) (r : Reps K H μ vs ds) (h : newL ds s = .ok d s') {p : Addr} (hp : H p = none) :
    vs.length ≤ sizeLine ∧ Ext μ H (μ ++ [p]) (upd H p (.lst vs)) ∧ Sim K (μ ++ [p]) (upd H p (.lst vs)) s' ∧ Rep K (upd H p (.lst vs)) (μ ++ [p]) (.ref p) d := by
  unfold newL at h
  split at h
  · rename_i hl
    cases h
    exact ⟨by rw [r.length]; exact hl, rep_lst S hp r⟩
  · cases h
theorem je_lst {r : EvA} {es : List Expr} (h : JA g c r es) : JE g c (xLst r) (.List es pos) :=
  je_mk (fun X ok => PE.imp (pe_lst (h X ok)) fun σ H Q h => by
    obtain ⟨μ, s, env, d, s', S, E, hv, q⟩ := h
    obtain ⟨ds, s1, h1, hv⟩ := bind_ok hv
    refine ⟨μ, s, env, ds, s1, S, E, h1, fun vs H1 μ1 x1 S1 r1 => ?_⟩
    have z : vs.length ≤ sizeLine := by
      rw [r1.length]
      unfold newL at hv
      split at hv
      · assumption
      · cases hv
    refine ⟨z, fun p hp => ?_⟩
    obtain ⟨_, x2, S2, r2⟩ := newL_ok S1 r1 hv hp
    exact q _ _ _ (x1.trans x2) S2 r2) (by intro _ _; rfl)
/-- what a def of n parameters promises -/
def spD (K : PySem.W.Frag) (n : Nat) (m : Fn) : Sp := fun vs H Q _ => vs.length = n ∧ RnD K m vs H Q
/-- a def that stands under the name x: its meaning m -/
structure FnS (g : Gb) (lv : Nat) (x : Str) (ps : List Str) (m : Fn) : Prop where
  len : ∀ ds s d s', m ds s = .ok d s' → ds.length = ps.length
  ex : ∃ f fd, g.mg x = some (.ref f) ∧ PySem.W.keepIn g.K (.ref f) = true ∧ Binds g.K fd ps [] ∧ FnOk g.P g.w g.K g.mg g.base CX0 lv f fd ps (spD g.K ps.length m)
theorem star_any {es : List Expr} (h : es.all noStar = true) (pos : Pos) (env : PySem.Env) : (backTo pos (starEach es env)).any (·.1) = false := by
  induction es with
  | nil => rfl
  | cons e es ih =>
    rw [List.all_cons, Bool.and_eq_true] at h
    rw [star_cons h.1]
    show (false || (backTo pos (starEach es env)).any (·.1)) = false
    rw [ih h.2]; rfl
theorem je_call {lv : Nat} {x : Str} {ps : List Str} {f : Fn} {r : EvA} {p : Pos} {es : List Expr} (F : FnS g lv x ps f) (hl : lv ≤ c.lv) (hs : c.sc.names.lookup x = some .globalImplicit) (ha : JA g c r (a :: es)) (hst : (a :: es).all noStar = true := by rfl)
    (hdb : (x == ("__debug__" : Str)) = false := by decide) : JE g c (xCall f r) (.Call (.Name x p) (a :: es) [] pos) := by
  obtain ⟨fa, fd, hm, hk, hb, hF⟩ := F.ex
  have h2 := hst
  rw [List.all_cons, Bool.and_eq_true] at h2
  refine je_mk (fun X ok => ?_) (by intro _ _; rfl)
  have hF' : FnOk X.prog X.w X.K X.mg X.base CX0 lv fa fd ps (spD g.K ps.length f) := by
    rw [ok.prog, ok.w, ok.K, ok.mg, ok.base]; exact hF
  refine PE.imp (pe_call hF' (ok.room.mono hl) (by show X.env.scope.names.lookup x = _; rw [ok.sc]; exact hs) (by rw [ok.mg]; exact hm) (by rw [ok.K]; exact hk) (by rw [ok.K]; exact hb) .nil pass0 (ha X ok) hdb (star_cons h2.1 _) (star_any h2.2 _ _)) fun σ H Q h => ?_
  obtain ⟨μ, s, env, d, s', S, E, hv, q⟩ := h
  obtain ⟨ds, s1, h1, hv⟩ := bind_ok hv
  refine ⟨μ, s, env, ds, s1, S, E, h1, fun vs H1 μ1 x1 S1 r1 => ?_⟩
  show spD g.K ps.length f (vs ++ []) H1 Q E0
  rw [List.append_nil]
  exact ⟨by rw [r1.length]; exact F.len _ _ _ _ hv, μ1, s1, ds, d, s', S1, r1, hv, fun v H2 μ2 x2 S2 r2 => q v H2 μ2 (x1.trans x2) S2 r2⟩
/-- a built-in function, a built-in type -/
theorem je_bi {id : String} {x : Str} {f : List D → Sto → R D} {r : EvA} {p : Pos} {es : List Expr} (hf : ∀ X : Cx, c.Ok g X → CallR X (.builtin id) (RnD g.K f)) (hs : c.sc.names.lookup x = some .globalImplicit) (hm : g.mg x = none) (hv : bootBuiltins x = some (.builtin id))
    (ha : JA g c r (a :: es)) (hst : (a :: es).all noStar = true := by rfl) (hn : x ≠ "__name__" := by decide) (hdb : (x == ("__debug__" : Str)) = false := by decide) : JE g c (xBi f r) (.Call (.Name x p) (a :: es) [] pos) := by
  have h2 := hst
  rw [List.all_cons, Bool.and_eq_true] at h2
  refine je_mk (fun X ok => PE.imp (pe_callB (hf X ok) (by show X.env.scope.names.lookup x = _; rw [ok.sc]; exact hs) (by rw [ok.mg]; exact hm) hv (ha X ok) hn hdb (star_cons h2.1 _) (star_any h2.2 _ _)) fun σ H Q h => ?_) (by intro _ _; rfl)
  obtain ⟨μ, s, env, d, s', S, E, hv, q⟩ := h
  obtain ⟨ds, s1, h1, hv⟩ := bind_ok hv
  refine ⟨μ, s, env, ds, s1, S, E, h1, fun vs H1 μ1 x1 S1 r1 => ?_⟩
  exact ⟨μ1, s1, ds, d, s', S1, r1, hv, fun v H2 μ2 x2 S2 r2 => q v H2 μ2 (x1.trans x2) S2 r2⟩
theorem je_ty {T : String} {x : Str} {f : List D → Sto → R D} {r : EvA} {p : Pos} {es : List Expr} (hf : ∀ X : Cx, c.Ok g X → CallR X (.type T) (RnD g.K f)) (hs : c.sc.names.lookup x = some .globalImplicit) (hm : g.mg x = none) (hv : bootBuiltins x = some (.type T))
    (ha : JA g c r (a :: es)) (hst : (a :: es).all noStar = true := by rfl) (hn : x ≠ "__name__" := by decide) (hdb : (x == ("__debug__" : Str)) = false := by decide) : JE g c (xBi f r) (.Call (.Name x p) (a :: es) [] pos) := by
  have h2 := hst
  rw [List.all_cons, Bool.and_eq_true] at h2
  refine je_mk (fun X ok => PE.imp (pe_callTy (hf X ok) (by show X.env.scope.names.lookup x = _; rw [ok.sc]; exact hs) (by rw [ok.mg]; exact hm) hv (ha X ok) hn hdb (star_cons h2.1 _) (star_any h2.2 _ _)) fun σ H Q h => ?_) (by intro _ _; rfl)
  obtain ⟨μ, s, env, d, s', S, E, hv, q⟩ := h
  obtain ⟨ds, s1, h1, hv⟩ := bind_ok hv
  refine ⟨μ, s, env, ds, s1, S, E, h1, fun vs H1 μ1 x1 S1 r1 => ?_⟩
  exact ⟨μ1, s1, ds, d, s', S1, r1, hv, fun v H2 μ2 x2 S2 r2 => q v H2 μ2 (x1.trans x2) S2 r2⟩
end
end Cs

/-! ## CsSim3 -/
namespace Cs
open PySem PySem.Spec PyProof.Rows L2
/-! ### operators -/
section
variable {K : PySem.W.Frag} {μ : List Addr} {H : Hp} {s s' : Sto} {g : Gb} {c : Cc} {X : Cx}
theorem Rep.lst_at (S : Sim K μ H s) {a : Addr} {i : Nat} {xs : List D} (h : Rep K H μ (.ref a) (.ref i)) (e : s.get i = some (.lst xs)) : μ[i]? = some a ∧ ∃ vs, H a = some (.lst vs) ∧ Reps K H μ vs xs := by
  cases h with
  | ref q =>
    refine ⟨q, ?_⟩
    obtain ⟨o, e1, r⟩ := S.ob i a q
    rw [e] at e1; cases e1
    exact r
theorem op_addD (hK : X.K = K) : OpR X (binaryOp .Add) (R2D K addD) := by
  subst hK
  refine OpR.imp (op_add.or (op_catA.or (op_add_str.or op_cat))) fun x y H Q h => ?_
  obtain ⟨μ, s, dx, dy, d, s', S, rx, ry, h, q⟩ := h
  unfold addD at h
  split at h
  · cases h; cases rx; cases ry
    exact .inl ⟨_, _, rfl, rfl, q _ H μ .refl S (.int _)⟩
  · split at h
    · rename_i hz
      cases h
      cases rx with
      | tup tx px =>
      cases ry with
      | tup ty py =>
      refine .inr (.inl ⟨_, _, _, _, rfl, rfl, tx.t, ty.t, by rw [px.length, py.length]; exact hz, fun e => ?_, fun e1 e2 => ?_, fun _ _ p hp => ?_⟩)
      · subst e
        cases px
        exact q _ H μ .refl S (.tup ty py)
      · subst e2
        cases py
        rw [List.append_nil] at q
        exact q _ H μ .refl S (.tup tx px)
      · obtain ⟨x2, S2, r2⟩ := rep_tup S hp (px.append py)
        exact q _ _ μ x2 S2 r2
    · cases h
  · split at h
    · cases h; cases rx; cases ry
      exact .inr (.inr (.inl ⟨_, _, rfl, rfl, by assumption, q _ H μ .refl S (.str _)⟩))
    · cases h
  · split at h
    · rename_i ex ey
      split at h
      · rename_i hz
        cases h
        cases rx with
        | ref rx =>
        cases ry with
        | ref ry =>
        obtain ⟨_, vx, hx, px⟩ := Rep.lst_at S (.ref rx) ex
        obtain ⟨_, vy, hy, py⟩ := Rep.lst_at S (.ref ry) ey
        refine .inr (.inr (.inr ⟨_, _, vx, vy, rfl, rfl, hx, hy, by rw [px.length, py.length]; exact hz, fun p hp => ?_⟩))
        obtain ⟨x2, S2, r2⟩ := rep_lst S hp (px.append py)
        exact q _ _ _ x2 S2 r2
      · cases h
    · cases h
  · cases h
theorem op_subD (hK : X.K = K) : OpR X (binaryOp .Sub) (R2D K subD) := by
  subst hK
  refine OpR.imp op_sub fun x y H Q h => ?_
  obtain ⟨μ, s, dx, dy, d, s', S, rx, ry, h, q⟩ := h
  unfold subD at h
  split at h
  · cases h; cases rx; cases ry
    exact ⟨_, _, rfl, rfl, q _ H μ .refl S (.int _)⟩
  · cases h
theorem iop_addD (hK : X.K = K) : OpR X (inplaceOp .Add) (R2D K iaddD) := by
  subst hK
  refine OpR.imp iop_add fun x y H Q h => ?_
  obtain ⟨μ, s, dx, dy, d, s', S, rx, ry, h, q⟩ := h
  unfold iaddD at h
  split at h
  · cases h; cases rx; cases ry
    exact ⟨_, _, rfl, rfl, q _ H μ .refl S (.int _)⟩
  · cases h
theorem iop_subD (hK : X.K = K) : OpR X (inplaceOp .Sub) (R2D K subD) := by
  subst hK
  refine OpR.imp iop_sub fun x y H Q h => ?_
  obtain ⟨μ, s, dx, dy, d, s', S, rx, ry, h, q⟩ := h
  unfold subD at h
  split at h
  · cases h; cases rx; cases ry
    exact ⟨_, _, rfl, rfl, q _ H μ .refl S (.int _)⟩
  · cases h
theorem log2_4000 {i : Int} (h : i.natAbs < lim4) : i.natAbs.log2 < 4000 := PySem.Flt.log2_lt_of (by decide) h
theorem mulOk_ok {i j : Int} (h : mulOk i j = true) : CMul i j ∨ CMulW i j := by
  unfold mulOk at h
  simp only [Bool.or_eq_true, Bool.and_eq_true, decide_eq_true_eq] at h
  rcases h with (h | h) | ⟨h1, h2⟩
  · exact .inl (.inl (by omega))
  · exact .inl (.inr (by omega))
  · refine .inr ?_
    have a := log2_4000 h1
    have b := log2_4000 h2
    show _ + _ < 1000000
    omega
/-- t * k where nothing is repeated -/
theorem tuple_mul_same (l : Addr) (items : Array Value) (n : Nat) (dd : Option Addr) (sl : Array (Option Value)) (x : Int) (u : Tok) (c0 : (decide (x < -(2 ^ 63)) || decide (x ≥ 2 ^ 63)) = false) (c1 : (items.isEmpty || x == 1) = true) :
    Meets (Builtin.«tuple.__mul__» ⟨[.ref l, .int x u], []⟩) (fun _ R s => s.heap.get? l = some { cls := .type "tuple", dict := dd, data := .seq items n, slots := sl } ∧ R (.ok (.ret (Value.ref l))) s) :=
  .of_wp fun prog w A R s h => by
    obtain ⟨hp, g, d, tk, os⟩ := s
    obtain ⟨hl, h⟩ := h
    have f1 := AutoSeq1.idx_int
    wp_walk using wpAny_loadPart' hl
    repeat (first
      | (refine wpAny_ite_false (decide_eq_false (by rw [c0]; exact Bool.false_ne_true)) ?_; wp_walk using wpAny_loadPart' hl)
      | (refine wpAny_ite_true (decide_eq_true c1) ?_; wp_walk using wpAny_loadPart' hl))
    exact ⟨_, rfl, h⟩
theorem tuple_mul_none (l : Addr) (items : Array Value) (n : Nat) (dd : Option Addr) (sl : Array (Option Value)) (x : Int) (u : Tok) (c0 : (decide (x < -(2 ^ 63)) || decide (x ≥ 2 ^ 63)) = false) (c1 : (items.isEmpty || x == 1) = false) (c2 : (decide (x ≤ 0) || items.isEmpty) = true) :
    Meets (Builtin.«tuple.__mul__» ⟨[.ref l, .int x u], []⟩) (fun _ R s => s.heap.get? l = some { cls := .type "tuple", dict := dd, data := .seq items n, slots := sl } ∧
      R (.ok (.ret (Value.ref s.heap.objs.size))) { s with heap := s.heap.push { cls := Value.type "tuple", data := Data.seq #[] }, toks := s.toks }) :=
  .of_wp fun prog w A R s h => by
    obtain ⟨hp, g, d, tk, os⟩ := s
    obtain ⟨hl, h⟩ := h
    have f1 := AutoSeq1.idx_int
    wp_walk using wpAny_loadPart' hl
    repeat (first
      | (refine wpAny_ite_false (decide_eq_false (by rw [c0]; exact Bool.false_ne_true)) ?_; wp_walk using wpAny_loadPart' hl)
      | (refine wpAny_ite_false (decide_eq_false (by rw [c1]; exact Bool.false_ne_true)) ?_; wp_walk using wpAny_loadPart' hl)
      | (refine wpAny_ite_true (decide_eq_true c2) ?_; wp_walk using wpAny_loadPart' hl))
    exact ⟨_, rfl, h⟩
def rRepN (K : PySem.W.Frag) : R2 := fun x y H Q => ∃ l k xs, x = .ref l ∧ y = .int k ∧ SqT K H l xs ∧ -1000 ≤ k ∧ k ≤ 1000 ∧ ((xs = [] ∨ k = 1) ∧ Q (.ref l) H ∨ (xs ≠ [] ∧ k ≤ 0) ∧ ∀ p, H p = none → Q (.ref p) (upd H p (.tup [])))
theorem op_repN : OpR X (binaryOp .Mult) (rRepN X.K) := by
  intro pins s σ H x y v u Q I rx ry h
  obtain ⟨l, k, xs, rfl, rfl, hT, h1, h2, q⟩ := h
  cases rx
  obtain ⟨t, rfl⟩ := ry
  obtain ⟨its, r, ⟨⟨cls, dd, data, sl⟩, ho, hc, n, hd⟩, hs⟩ := I.tuple hT
  simp only at hc hd
  subst hc hd
  have hle : its.length = xs.length := r.length.symm
  have c0 : (decide (k < -(2 ^ 63)) || decide (k ≥ 2 ^ 63)) = false := by
    rw [decide_eq_false (by omega), decide_eq_false (by omega)] <;> rfl
  have emp : its.toArray.isEmpty = xs.isEmpty := by cases r <;> simp
  rcases q with ⟨hq, q⟩ | ⟨⟨hq, hk⟩, q⟩
  · have c1 : (its.toArray.isEmpty || k == 1) = true := by
      rw [emp]
      rcases hq with rfl | rfl
      · rfl
      · simp
    exact wpAny_binaryOp_repeat_ref (T := "tuple") (U := "int") (by decide) ⟨_, ho, rfl⟩ (fun s' => typeIs_int s' k t) noFill_tuple_mul F.fills_int_mul F.slot_int_rmul repeat_tuple F.slot_int_index.lookup
      (call_meets F.slot_int_rmul (typeIs_int s k t) F.entry_int_rmul (F.args_int_rmul_2 _ _) (int_rmul_tuple k t l its.toArray n dd sl)
        ⟨ho, rfl, ⟨_, ho, rfl⟩, call_meets F.slot_tuple_mul ⟨_, ho, rfl⟩ F.entry_tuple_mul (F.args_tuple_mul_2 _ _) (tuple_mul_same l its.toArray n dd sl k t c0 c1) ⟨ho, ⟨.ref l, H, I, rfl, q⟩⟩⟩)
  · have c1 : (its.toArray.isEmpty || k == 1) = false := by
      rw [emp]
      cases xs with
      | nil => exact absurd rfl hq
      | cons a b =>
        show (false || k == 1) = false
        rw [Bool.false_or]
        exact beq_eq_false_iff_ne.mpr (by omega)
    have c2 : (decide (k ≤ 0) || its.toArray.isEmpty) = true := by rw [decide_eq_true hk]; rfl
    refine wpAny_binaryOp_repeat_ref (T := "tuple") (U := "int") (by decide) ⟨_, ho, rfl⟩ (fun s' => typeIs_int s' k t) noFill_tuple_mul F.fills_int_mul F.slot_int_rmul repeat_tuple F.slot_int_index.lookup
      (call_meets F.slot_int_rmul (typeIs_int s k t) F.entry_int_rmul (F.args_int_rmul_2 _ _) (int_rmul_tuple k t l its.toArray n dd sl)
        ⟨ho, rfl, ⟨_, ho, rfl⟩, call_meets F.slot_tuple_mul ⟨_, ho, rfl⟩ F.entry_tuple_mul (F.args_tuple_mul_2 _ _) (tuple_mul_none l its.toArray n dd sl k t c0 c1 c2) ⟨ho, ?_⟩⟩)
    refine ⟨.ref s.heap.objs.size, _, I.laid (t' := s.toks) (o := .tup []) (fun b ob q => Heap.get?_push_of_some _ q) (Nat.le_refl _) ?_, rfl, q _ (I.hok.fresh (Nat.le_refl _))⟩
    exact ⟨Nat.zero_le _, [], .nil, IsTup.new s.heap ([] : List Value).toArray⟩
theorem flat_one {α : Type} (xs : List α) : (List.replicate (1 : Int).toNat xs).flatten = xs := by
  show (List.replicate 1 xs).flatten = xs
  simp
theorem op_mulD (hK : X.K = K) : OpR X (binaryOp .Mult) (R2D K mulD) := by
  subst hK
  refine OpR.imp (op_mul.or (op_mulW.or (op_repT.or (op_repN.or op_rep)))) fun x y H Q h => ?_
  obtain ⟨μ, s, dx, dy, d, s', S, rx, ry, h, q⟩ := h
  unfold mulD at h
  split at h
  · split at h
    · rename_i hm
      cases h; cases rx; cases ry
      rcases mulOk_ok hm with e | e
      · exact .inl ⟨_, _, rfl, rfl, e, q _ H μ .refl S (.int _)⟩
      · exact .inr (.inl ⟨_, _, rfl, rfl, e, q _ H μ .refl S (.int _)⟩)
    · cases h
  · split at h
    · rename_i xs k hz
      cases h
      cases ry
      cases rx with
      | @tup a vs _ tx px =>
      obtain ⟨z1, z2, z3⟩ := hz
      by_cases h1 : vs = [] ∨ k = 1
      · refine .inr (.inr (.inr (.inl ⟨a, k, vs, rfl, rfl, tx.t, z2, z3, .inl ⟨h1, ?_⟩⟩)))
        have e : (List.replicate k.toNat xs).flatten = xs := by
          rcases h1 with rfl | rfl
          · cases px
            simp
          · exact flat_one xs
        rw [e] at q
        exact q _ H μ .refl S (.tup tx px)
      · by_cases h2 : k ≤ 0
        · refine .inr (.inr (.inr (.inl ⟨a, k, vs, rfl, rfl, tx.t, z2, z3, .inr ⟨⟨fun e => h1 (.inl e), h2⟩, fun p hp => ?_⟩⟩)))
          have e : (List.replicate k.toNat xs).flatten = [] := by
            rw [show k.toNat = 0 by omega]; rfl
          rw [e] at q
          obtain ⟨x2, S2, r2⟩ := rep_tup (xs := []) (ds := []) S hp .nil
          exact q _ _ μ x2 S2 r2
        · refine .inr (.inr (.inl ⟨a, k, vs, rfl, rfl, tx.t, fun e => h1 (.inl e), by have : ¬ k = 1 := fun e => h1 (.inr e); omega, z3, by rw [px.length]; exact z1, fun p hp => ?_⟩))
          obtain ⟨x2, S2, r2⟩ := rep_tup S hp (px.rep k.toNat)
          exact q _ _ μ x2 S2 r2
    · cases h
  · split at h
    · rename_i ex
      split at h
      · rename_i hz
        cases h
        cases ry
        cases rx with
        | ref rx =>
        obtain ⟨_, vx, hx, px⟩ := Rep.lst_at S (.ref rx) ex
        refine .inr (.inr (.inr (.inr ⟨_, _, vx, rfl, rfl, hx, by omega, by omega, by rw [px.length]; exact hz.2.2, fun p hp => ?_⟩)))
        obtain ⟨x2, S2, r2⟩ := rep_lst S hp (px.rep _)
        exact q _ _ _ x2 S2 r2
      · cases h
    · cases h
  · cases h
theorem op_fdivD (hK : X.K = K) : OpR X (binaryOp .FloorDiv) (R2D K fdivD) := by
  subst hK
  refine OpR.imp op_fdivW fun x y H Q h => ?_
  obtain ⟨μ, s, dx, dy, d, s', S, rx, ry, h, q⟩ := h
  unfold fdivD at h
  split at h
  · split at h
    · rename_i hz
      cases h; cases rx; cases ry
      exact ⟨_, _, rfl, rfl, ⟨hz.1, Nat.lt_trans (log2_4000 hz.2) (by decide)⟩, q _ H μ .refl S (.int _)⟩
    · cases h
  · cases h
theorem op_modD (hK : X.K = K) : OpR X (binaryOp .Mod) (R2D K modD) := by
  subst hK
  refine OpR.imp op_mod fun x y H Q h => ?_
  obtain ⟨μ, s, dx, dy, d, s', S, rx, ry, h, q⟩ := h
  unfold modD at h
  split at h
  · split at h
    · cases h; cases rx; cases ry
      exact ⟨_, _, rfl, rfl, by assumption, q _ H μ .refl S (.int _)⟩
    · cases h
  · cases h
theorem op_powD (hK : X.K = K) : OpR X (binaryOp .Pow) (R2D K powD) := by
  subst hK
  refine OpR.imp (opI (C := fun i j => 0 ≤ j ∧ j ≤ 1000 ∧ i.natAbs < lim4) (g := fun i j => i ^ j.toNat) fun i j t u Q E s hc q => pow_int hc.1 ?_ q) fun x y H Q h => ?_
  · obtain ⟨h0, h1, h2⟩ := hc
    have b := (intBits_le_iff (m := 4000) (x := i)).mpr h2
    have a1 : (Builtin.Int.intBits i : Int) * j ≤ 4000 * j := Int.mul_le_mul_of_nonneg_right (by omega) h0
    omega
  · obtain ⟨μ, s, dx, dy, d, s', S, rx, ry, h, q⟩ := h
    unfold powD at h
    split at h
    · split at h
      · cases h; cases rx; cases ry
        exact ⟨_, _, rfl, rfl, by assumption, q _ H μ .refl S (.int _)⟩
      · cases h
    · cases h
theorem op_negD (hK : X.K = K) : UnR X (unaryOp .USub) (R1D K negD) := by
  subst hK
  refine UnR.imp un_neg fun x H Q h => ?_
  obtain ⟨μ, s, dx, d, s', S, rx, h, q⟩ := h
  unfold negD at h
  split at h
  · cases h; cases rx
    exact ⟨_, rfl, q _ H μ .refl S (.int _)⟩
  · cases h
theorem op_ltI {op : CmpOp} {f : Int → Int → Bool} (hK : X.K = K) (ho : OpR X (compareOp op) (rI0 fun i j => .bl (f i j))) : OpR X (compareOp op) (R2D K (ltI f)) := by
  subst hK
  refine OpR.imp ho fun x y H Q h => ?_
  obtain ⟨μ, s, dx, dy, d, s', S, rx, ry, h, q⟩ := h
  unfold ltI at h
  split at h
  · cases h; cases rx; cases ry
    exact ⟨_, _, rfl, rfl, q _ H μ .refl S (.bl _)⟩
  · cases h
theorem ltI_bl {f : Int → Int → Bool} : ∀ x y s d s', ltI f x y s = .ok d s' → ∃ b, d = .bl b := by
  intro x y s d s' h
  unfold ltI at h
  split at h
  · cases h; exact ⟨_, rfl⟩
  · cases h
theorem op_isNonD (hK : X.K = K) : OpR X (compareOp .Is) (R2D K isNonD) := by
  subst hK
  refine OpR.imp op_isN fun x y H Q h => ?_
  obtain ⟨μ, s, dx, dy, d, s', S, rx, ry, h, q⟩ := h
  unfold isNonD at h
  split at h
  · cases h; cases rx; cases ry
    exact ⟨rfl, q _ H μ .refl S (.bl _)⟩
  · rename_i hn
    cases h; cases ry
    refine ⟨rfl, ?_⟩
    have e : decide (x = V.non) = false := decide_eq_false fun e => by
      subst e; cases rx; exact hn rfl
    rw [e]
    exact q _ H μ .refl S (.bl _)
  · cases h
theorem op_isnNonD (hK : X.K = K) : OpR X (compareOp .IsNot) (R2D K isnNonD) := by
  subst hK
  refine OpR.imp op_notN fun x y H Q h => ?_
  obtain ⟨μ, s, dx, dy, d, s', S, rx, ry, h, q⟩ := h
  unfold isnNonD at h
  split at h
  · cases h; cases rx; cases ry
    exact ⟨rfl, q _ H μ .refl S (.bl _)⟩
  · rename_i hn
    cases h; cases ry
    refine ⟨rfl, ?_⟩
    have e : decide (x = V.non) = false := decide_eq_false fun e => by
      subst e; cases rx; exact hn rfl
    rw [e]
    exact q _ H μ .refl S (.bl _)
  · cases h
theorem isNonD_bl : ∀ x y s d s', isNonD x y s = .ok d s' → ∃ b, d = .bl b := by
  intro x y s d s' h
  unfold isNonD at h
  split at h <;> first | (cases h; exact ⟨_, rfl⟩) | cases h
theorem isnNonD_bl : ∀ x y s d s', isnNonD x y s = .ok d s' → ∃ b, d = .bl b := by
  intro x y s d s' h
  unfold isnNonD at h
  split at h <;> first | (cases h; exact ⟨_, rfl⟩) | cases h
/-! ### == -/
theorem mapO_some {α β : Type} {f : α → Option β} : ∀ {xs : List α} {ys : List β}, mapO f xs = some ys → Paired (fun x y => f x = some y) xs ys
  | [], _, h => by cases h; exact .nil
  | x :: xs, ys, h => by
    unfold mapO at h
    split at h
    · rename_i d ds h1 h2
      cases h
      exact .cons h1 (mapO_some h2)
    · cases h
theorem rep_dp (S : Sim K μ H s) : ∀ (k : Nat) (d : D) (v : V) (p : PyData), Rep K H μ v d → pyd s k d = some p → Dp K H v p := by
  intro k
  induction k with
  | zero =>
    intro d v p r h
    cases r with
    | non => cases h; exact .non
    | bl b => cases h; exact .bl b
    | int i => cases h; exact .int i
    | str x =>
      have h : (if PyData.strOk x = true then some (PyData.str x) else none) = some p := h
      split at h
      · cases h; exact .str x
      · cases h
    | tup _ _ => cases h
    | fix _ _ => cases h
    | ref _ => cases h
  | succ k ih =>
    have all : ∀ (ds : List D) (vs : List V) (ps : List PyData), Reps K H μ vs ds → mapO (pyd s k) ds = some ps → DpAll K H vs ps := by
      intro ds
      induction ds with
      | nil => intro vs ps r h; cases r; cases h; exact .nil
      | cons d ds ih2 =>
        intro vs ps r h
        cases r with
        | cons r1 r2 =>
        unfold mapO at h
        split at h
        · rename_i p ps h1 h2
          cases h
          exact .cons (ih _ _ _ r1 h1) (ih2 _ _ r2 h2)
        · cases h
    intro d v p r h
    cases r with
    | non => cases h; exact .non
    | bl b => cases h; exact .bl b
    | int i => cases h; exact .int i
    | str x =>
      have h : (if PyData.strOk x = true then some (PyData.str x) else none) = some p := h
      split at h
      · cases h; exact .str x
      · cases h
    | tup q r =>
      obtain ⟨ps, h1, rfl⟩ := Option.map_eq_some_iff.mp h
      exact .tup q.t (all _ _ _ r h1)
    | fix q r =>
      obtain ⟨ps, h1, rfl⟩ := Option.map_eq_some_iff.mp h
      exact .lst q.sq (all _ _ _ r h1)
    | @ref i a q =>
      obtain ⟨o, e, ro⟩ := S.ob i a q
      unfold pyd at h
      dsimp only at h
      rw [e] at h
      cases o with
      | lst ds =>
        obtain ⟨xs, e1, r1⟩ := ro
        obtain ⟨ps, h1, rfl⟩ := Option.map_eq_some_iff.mp h
        exact .lst (.of e1) (all _ _ _ r1 h1)
      | dct kvs => cases h
theorem pyd_fit : ∀ (k : Nat) (s : Sto) (d : D) (p : PyData), pyd s k d = some p → p.canLay0 = true ∧ p.depth ≤ k := by
  intro k
  induction k with
  | zero =>
    intro s d p h
    cases d with
    | non => cases h; exact ⟨rfl, Nat.le_refl _⟩
    | bl b => cases h; exact ⟨rfl, Nat.le_refl _⟩
    | int i => cases h; exact ⟨rfl, Nat.le_refl _⟩
    | str x =>
      have h : (if PyData.strOk x = true then some (PyData.str x) else none) = some p := h
      split at h
      · rename_i hx
        cases h; exact ⟨by unfold PyData.canLay0; exact hx, by unfold PyData.depth; exact Nat.le_refl _⟩
      · cases h
    | tup _ => cases h
    | fix _ => cases h
    | ref _ => cases h
  | succ k ih =>
    have all : ∀ (s : Sto) (ds : List D) (ps : List PyData), mapO (pyd s k) ds = some ps → PyData.canLayAll0 ps = true ∧ PyData.depthAll ps ≤ k := by
      intro s ds
      induction ds with
      | nil => intro ps h; cases h; exact ⟨by unfold PyData.canLayAll0; rfl, by unfold PyData.depthAll; exact Nat.zero_le _⟩
      | cons d ds ih2 =>
        intro ps h
        unfold mapO at h
        split at h
        · rename_i p ps h1 h2
          cases h
          obtain ⟨a1, a2⟩ := ih s _ _ h1
          obtain ⟨b1, b2⟩ := ih2 _ h2
          exact ⟨by unfold PyData.canLayAll0; rw [a1, b1]; rfl, by unfold PyData.depthAll; exact Nat.max_le.mpr ⟨a2, b2⟩⟩
        · cases h
    have tl : ∀ (s : Sto) (ds : List D) (p : PyData), (mapO (pyd s k) ds).map PyData.tuple = some p → p.canLay0 = true ∧ p.depth ≤ k + 1 := fun s ds p h => by
      obtain ⟨ps, h1, rfl⟩ := Option.map_eq_some_iff.mp h
      obtain ⟨a1, a2⟩ := all s _ _ h1
      exact ⟨by unfold PyData.canLay0; exact a1, by unfold PyData.depth; omega⟩
    have ll : ∀ (s : Sto) (ds : List D) (p : PyData), (mapO (pyd s k) ds).map PyData.list = some p → p.canLay0 = true ∧ p.depth ≤ k + 1 := fun s ds p h => by
      obtain ⟨ps, h1, rfl⟩ := Option.map_eq_some_iff.mp h
      obtain ⟨a1, a2⟩ := all s _ _ h1
      exact ⟨by unfold PyData.canLay0; exact a1, by unfold PyData.depth; omega⟩
    intro s d p h
    cases d with
    | non => cases h; exact ⟨rfl, Nat.zero_le _⟩
    | bl b => cases h; exact ⟨rfl, Nat.zero_le _⟩
    | int i => cases h; exact ⟨rfl, Nat.zero_le _⟩
    | str x =>
      have h : (if PyData.strOk x = true then some (PyData.str x) else none) = some p := h
      split at h
      · rename_i hx
        cases h; exact ⟨by unfold PyData.canLay0; exact hx, by unfold PyData.depth; exact Nat.zero_le _⟩
      · cases h
    | tup ds => exact tl s ds p h
    | fix ds => exact ll s ds p h
    | ref i =>
      unfold pyd at h
      dsimp only at h
      split at h
      · exact ll s _ p h
      · cases h
theorem pyd_shaped {d : D} {p : PyData} (h : pyd s 12 d = some p) : SeqAt.shaped p = true := by
  obtain ⟨a, b⟩ := pyd_fit 12 s d p h
  unfold SeqAt.shaped
  rw [a, decide_eq_true (show p.depth ≤ 64 by omega)]; rfl
theorem op_eqDD (hK : X.K = K) (hu : X.A.units + 64 < cLine) : OpR X (compareOp .Eq) (R2D K eqD) := by
  subst hK
  refine OpR.imp (op_eqD hu) fun x y H Q h => ?_
  obtain ⟨μ, s, dx, dy, d, s', S, rx, ry, h, q⟩ := h
  unfold eqD at h
  split at h
  · rename_i a b h1 h2
    cases h
    exact ⟨a, b, rep_dp S 12 _ _ _ rx h1, rep_dp S 12 _ _ _ ry h2, pyd_shaped h1, pyd_shaped h2, q _ H μ .refl S (.bl _)⟩
  · cases h
theorem op_neDD (hK : X.K = K) (hu : X.A.units + 64 < cLine) : OpR X (compareOp .NotEq) (R2D K neD) := by
  subst hK
  refine OpR.imp (op_neD hu) fun x y H Q h => ?_
  obtain ⟨μ, s, dx, dy, d, s', S, rx, ry, h, q⟩ := h
  unfold neD at h
  split at h
  · rename_i a b h1 h2
    cases h
    exact ⟨a, b, rep_dp S 12 _ _ _ rx h1, rep_dp S 12 _ _ _ ry h2, pyd_shaped h1, pyd_shaped h2, q _ H μ .refl S (.bl _)⟩
  · cases h
theorem eqD_bl : ∀ x y s d s', eqD x y s = .ok d s' → ∃ b, d = .bl b := by
  intro x y s d s' h
  unfold eqD at h
  split at h <;> first | (cases h; exact ⟨_, rfl⟩) | cases h
theorem neD_bl : ∀ x y s d s', neD x y s = .ok d s' → ∃ b, d = .bl b := by
  intro x y s d s' h
  unfold neD at h
  split at h <;> first | (cases h; exact ⟨_, rfl⟩) | cases h
/-! ### what stands in a list or a tuple -/
theorem items_rep (S : Sim K μ H s) {v : V} {d : D} {xs : List D} (r : Rep K H μ v d) (h : items d s = some xs) : ∃ a vs, v = .ref a ∧ (SqL K H a vs ∨ SqT K H a vs) ∧ Reps K H μ vs xs := by
  cases r with
  | non => cases h
  | bl b => cases h
  | int i => cases h
  | str x => cases h
  | tup q r => cases h; exact ⟨_, _, rfl, .inr q.t, r⟩
  | fix q r => cases h; exact ⟨_, _, rfl, .inl q.sq, r⟩
  | @ref i a q =>
    obtain ⟨o, e, ro⟩ := S.ob i a q
    unfold items at h
    dsimp only at h
    rw [e] at h
    cases o with
    | lst ds => cases h; obtain ⟨vs, e1, r1⟩ := ro; exact ⟨a, vs, rfl, .inl (.of e1), r1⟩
    | dct kvs => cases h
theorem items_rep2 (S : Sim K μ H s) {v : V} {d : D} {xs : List D} (r : Rep K H μ v d) (h : items d s = some xs) : ∃ a vs, v = .ref a ∧ (SqL K H a vs ∨ SqH K H a vs) ∧ Reps K H μ vs xs := by
  cases r with
  | tup q r => cases h; exact ⟨_, _, rfl, .inr q, r⟩
  | fix q r => cases h; exact ⟨_, _, rfl, .inl q.sq, r⟩
  | @ref i a q =>
    obtain ⟨o, e, ro⟩ := S.ob i a q
    unfold items at h
    dsimp only at h
    rw [e] at h
    cases o with
    | lst ds => cases h; obtain ⟨vs, e1, r1⟩ := ro; exact ⟨a, vs, rfl, .inl (.of e1), r1⟩
    | dct kvs => cases h
  | _ => cases h
theorem litems_rep (S : Sim K μ H s) {v : V} {d : D} {xs : List D} (r : Rep K H μ v d) (h : litems d s = some xs) : ∃ a vs, v = .ref a ∧ SqL K H a vs ∧ Reps K H μ vs xs := by
  cases r with
  | non => cases h
  | bl b => cases h
  | int i => cases h
  | str x => cases h
  | tup q r => cases h
  | fix q r => cases h; exact ⟨_, _, rfl, q.sq, r⟩
  | @ref i a q =>
    obtain ⟨o, e, ro⟩ := S.ob i a q
    unfold litems at h
    dsimp only at h
    rw [e] at h
    cases o with
    | lst ds => cases h; obtain ⟨vs, e1, r1⟩ := ro; exact ⟨a, vs, rfl, .of e1, r1⟩
    | dct kvs => cases h
theorem flat_rep {v : V} {d : D} (r : Rep K H μ v d) (h : flat d = true) : flatV v = true := by
  cases r <;> first | rfl | cases h
theorem flats_rep : ∀ {ds : List D} {vs : List V}, Reps K H μ vs ds → ds.all flat = true → vs.all flatV = true
  | [], _, h, _ => by cases h; rfl
  | d :: ds, _, h, f => by
    cases h with
    | cons r q =>
      rw [List.all_cons, Bool.and_eq_true] at f ⊢
      exact ⟨flat_rep r f.1, flats_rep q f.2⟩
theorem flatEq_rep {v w : V} {d e : D} (r : Rep K H μ v d) (q : Rep K H μ w e) (h : flat d = true) (h2 : flat e = true) : eqV v w = flatEq d e := by
  cases r <;> cases q <;> first | rfl | cases h | cases h2
theorem anyEq_rep {w : V} {e : D} (q : Rep K H μ w e) (h2 : flat e = true) : ∀ {ds : List D} {vs : List V}, Reps K H μ vs ds → ds.all flat = true → (vs.any fun z => eqV z w) = ds.any fun z => flatEq z e
  | [], _, h, _ => by cases h; rfl
  | d :: ds, _, h, f => by
    cases h with
    | cons r t =>
      rw [List.all_cons, Bool.and_eq_true] at f
      rw [List.any_cons, List.any_cons, flatEq_rep r q f.1 h2, anyEq_rep q h2 t f.2]
theorem op_inDD (neg : Bool) (hK : X.K = K) : OpR X (compareOp (if neg then .NotIn else .In)) (R2D K (inD neg)) := by
  subst hK
  refine OpR.imp (r := rIn X.K neg) (by cases neg; exact op_in_seq; exact op_notIn_seq) fun x y H Q h => ?_
  obtain ⟨μ, s, dx, dy, d, s', S, rx, ry, h, q⟩ := h
  unfold inD at h
  split at h
  · rename_i xs hx
    split at h
    · rename_i hf
      rw [Bool.and_eq_true] at hf
      cases h
      obtain ⟨a, vs, rfl, sq, r⟩ := items_rep S ry hx
      refine ⟨a, vs, rfl, sq, flat_rep rx hf.1, flats_rep r hf.2, ?_⟩
      have e : (if neg = true then !inV x vs else inV x vs) = ((xs.any fun z => flatEq z dx) ^^ neg) := by
        unfold inV
        rw [anyEq_rep rx hf.1 r hf.2]
        cases neg <;> simp
      rw [e]
      exact q _ H μ .refl S (.bl _)
    · cases h
  · cases h
theorem op_inD (hK : X.K = K) : OpR X (compareOp .In) (R2D K (inD false)) := op_inDD false hK
theorem op_notInD (hK : X.K = K) : OpR X (compareOp .NotIn) (R2D K (inD true)) := op_inDD true hK
theorem inD_bl {neg : Bool} : ∀ x y s d s', inD neg x y s = .ok d s' → ∃ b, d = .bl b := by
  intro x y s d s' h
  unfold inD at h
  split at h
  · split at h
    · cases h; exact ⟨_, rfl⟩
    · cases h
  · cases h
end
end Cs

/-! ## CsSim4 -/
namespace Cs
open PySem PySem.Spec PyProof.Rows L2
/-! ### t[::-1] of a tuple -/
section
variable {prog : Program} {w : World} {A : Around} {E : Value → Shared → Prop} {s : Shared}
theorem places_back (n : Nat) : Builtin.Slice.slicePlaces ((n : Int) - 1) (-1) (-1) = n := by
  unfold Builtin.Slice.slicePlaces
  by_cases h : n = 0
  · subst h; rfl
  · rw [if_neg (by decide), if_pos (by omega)]
    have e : ((n : Int) - 1 - -1 - 1) / (- -1) + 1 = (n : Int) := by
      rw [show (- -1 : Int) = 1 by decide, Int.ediv_one]
      omega
    rw [e]
    exact Int.toNat_natCast n
theorem sliceApplied_back {sl : Addr} {vl vu vk : Value} {n : Nat} {Q : Int × Int × Nat → Shared → Prop} (hs : s.heap.IsSliceOf sl vl vu vk) (pl : IsPart vl none) (pu : IsPart vu none) (pk : IsPart vk (some (-1)))
    (h : Q ((n : Int) - 1, -1, n) s) : wpAny (model prog w) A (Builtin.Slice.sliceApplied (.ref sl) (pure (n : Int))) Q E s := by
  obtain ⟨os, hos, hcs, hds⟩ := id hs
  unfold Builtin.Slice.sliceApplied Builtin.Slice.sliceFields
  refine wpAny_bind (wpAny_bind (wpAny_field hos hds (x := vl) rfl (wpAny_bind (wpAny_field hos hds (x := vu) rfl (wpAny_bind (wpAny_field hos hds (x := vk) rfl (wpAny_pure ?_)))))))
  refine wpAny_bind (HT.slicePart_ pk ?_)
  show wpAny _ _ (if ((-1 : Int) == 0) = true then _ else _) _ _ s
  rw [if_neg (by decide)]
  refine wpAny_bind (HT.slicePart_ pl (wpAny_bind (HT.slicePart_ pu (wpAny_bind (wpAny_pure ?_)))))
  show wpAny _ _ (match Builtin.Slice.sliceAdjust none none (-1) (n : Int) with | (lo, hi) => pure (lo, (-1 : Int), Builtin.Slice.slicePlaces lo hi (-1))) _ _ s
  have e : Builtin.Slice.sliceAdjust none none (-1) (n : Int) = ((n : Int) - 1, -1) := by
    unfold Builtin.Slice.sliceAdjust
    simp
  rw [e]
  show wpAny _ _ (pure (((n : Int) - 1), (-1 : Int), Builtin.Slice.slicePlaces ((n : Int) - 1) (-1) (-1))) _ _ s
  rw [places_back]
  exact wpAny_pure h
theorem filterMap_cg {α β : Type} {f g : α → Option β} : ∀ l : List α, (∀ x ∈ l, f x = g x) → l.filterMap f = l.filterMap g
  | [], _ => rfl
  | x :: l, h => by
    rw [List.filterMap_cons, List.filterMap_cons, h x List.mem_cons_self, filterMap_cg l fun y hy => h y (List.mem_cons_of_mem _ hy)]
theorem pick_back (xs : Array Value) : ((List.range xs.size).filterMap fun (k : Nat) => xs[(((xs.size : Nat) : Int) - 1 + (k : Int) * (-1)).toNat]?).toArray = xs.toList.reverse.toArray := by
  have e : (List.range xs.size).filterMap (fun (k : Nat) => xs[(((xs.size : Nat) : Int) - 1 + (k : Int) * (-1)).toNat]?) = ((List.range xs.size).map fun k => xs.size - 1 - k).filterMap (xs[·]?) := by
    rw [List.filterMap_map]
    refine filterMap_cg _ fun k hk => ?_
    have := List.mem_range.mp hk
    have e : (((xs.size : Nat) : Int) - 1 + (k : Int) * (-1)).toNat = xs.size - 1 - k := by omega
    show xs[(((xs.size : Nat) : Int) - 1 + (k : Int) * (-1)).toNat]? = xs[xs.size - 1 - k]?
    rw [e]
  rw [e, PySem.W.krv_range, List.filterMap_reverse, PySem.W.krv_all]
theorem getItem_tuple_back {t sl : Addr} {items : Array Value} {vl vu vk : Value} {Q : Value → Shared → Prop} (ht : IsTup s.heap t items) (hs : s.heap.IsSliceOf sl vl vu vk) (pl : IsPart vl none) (pu : IsPart vu none) (pk : IsPart vk (some (-1)))
    (h : Q (.ref s.heap.objs.size) { s with heap := s.heap.push { cls := .type "tuple", data := .seq items.toList.reverse.toArray } })
    (hsz : items.size ≤ sizeLine) : wpAny (model prog w) A (getItem (.ref t) (.ref sl)) Q E s := by
  have htake : sizeOk (.seq items.toList.reverse.toArray) := by
    show items.toList.reverse.toArray.size ≤ sizeLine
    rw [List.size_toArray, List.length_reverse, Array.length_toList]
    exact hsz
  obtain ⟨os, hos, hcs, hds⟩ := id hs
  have hTs : s.TypeIs (.ref sl) "slice" := ⟨os, hos, hcs⟩
  unfold getItem
  try with_reducible refine wpAny_holding ?_
  first | refine wpAny_bind (wpAny_pure ?_) | skip
  refine wpAny_bind (wpAny_sequenceKey ht.typeIs (by decide) ?_)
  refine wpAny_bind (wpAny_callSpecial?_slot (name := Str.ofString "__getitem__") ht.typeIs PyProof.Rows.slot_tuple_getitem
    (wpAny_call_entry PyProof.Rows.slot_tuple_getitem ht.typeIs entry_tuple_getitem ?_ (args_tuple_getitem _ _)))
  show wpAny _ _ (Builtin.Tuple.tupleItemsOf (.ref t) >>= _) _ _ s
  refine wpAny_bind (tupleItemsOf_ ht ?_)
  refine wpAny_bind (wpAny_typeOf hTs ?_)
  rw [if_pos (by decide)]
  refine wpAny_bind (sliceApplied_back (n := items.size) hs pl pu pk ?_)
  have hno : ¬ ((((items.size : Nat) : Int) - 1 == 0 && (-1 : Int) == 1 && items.size == items.size) = true) := by
    intro q
    rw [Bool.and_eq_true, Bool.and_eq_true] at q
    exact absurd q.1.2 (by decide)
  show wpAny _ _ (if (((items.size : Nat) : Int) - 1 == 0 && (-1 : Int) == 1 && items.size == items.size) = true then _ else _) _ _ s
  rw [if_neg hno, pick_back]
  first
    | exact wpAny_bind (m := Builtin.Tuple.tupleExact _) (wpAny_newObj_type (wpAny_pure ⟨_, rfl, wpAny_pure h⟩) htake)
    | exact wpAny_bind (m := Builtin.Tuple.tupleExact _) (wpAny_newObj_type (wpAny_bind (wpAny_pure (wpAny_pure ⟨_, rfl, wpAny_pure h⟩))) htake)
    | exact wpAny_bind (wpAny_bind (m := Builtin.Tuple.tupleExact _) (wpAny_newObj_type (wpAny_pure (wpAny_pure ⟨_, rfl, wpAny_pure h⟩)) htake))
    | exact wpAny_bind (wpAny_bind (m := Builtin.Tuple.tupleExact _) (wpAny_newObj_type (wpAny_pure ⟨_, rfl, wpAny_pure h⟩) htake))
end
section
variable {X : Cx}
def tRevA (K : PySem.W.Frag) (te : TE) : TE := fun σ H Q => te σ H fun x H1 => ∃ a xs, x = .ref a ∧
  ((SqL K H1 a xs ∧ ∀ p, H1 p = none → Q (.ref p) (upd H1 p (.lst xs.reverse))) ∨ (SqT K H1 a xs ∧ ∀ p, H1 p = none → Q (.ref p) (upd H1 p (.tup xs.reverse))))
theorem pe_revA {e : Expr} {te : TE} {k : Nat} {p1 p2 p3 pos : Pos} (he : PE X e te) : PE X (.Subscript e (.Slice none none (some (.UnaryOp .USub (.Constant (.int 1) k p1) p2)) p3) pos) (tRevA X.K te) := by
  refine ⟨fun pins s σ H Q I h => ?_⟩
  refine Subscript_ (thn (he.run pins s σ H _ I h) fun v s1 ⟨x, H1, I1, r1, q1⟩ => ?_)
  obtain ⟨a, xs, ex, hx⟩ := q1
  subst ex
  cases r1
  have hst : PO X (some (.UnaryOp .USub (.Constant (.int 1) k p1) p2)) (tPart (tUn (rU fun i => .int (-i)) (tC (.int 1)))) := po_some (pe_un un_neg pe_int)
  refine wpAny_Slice (thn (po_none.run pins s1 σ H1 (fun o H2 => o = none ∧ H2 = H1) I1 ⟨rfl, rfl⟩) fun vl s2 ⟨l, H2, I2, pl, el, e2⟩ => ?_)
  subst el e2
  refine thn (po_none.run pins s2 σ H2 (fun o H3 => o = none ∧ H3 = H2) I2 ⟨rfl, rfl⟩) fun vu s3 ⟨u, H3, I3, pu, eu, e3⟩ => ?_
  subst eu e3
  refine thn (hst.run pins s3 σ H3 (fun o H4 => o = some (-1) ∧ H4 = H3) I3 ⟨1, rfl, -1, rfl, rfl, rfl⟩) fun vs s4 ⟨o, H4, I4, ps, eo, e4⟩ => ?_
  subst eo e4
  have I5 : Inv X pins σ H4 { s4 with heap := s4.heap.push { cls := .type "slice", data := .fields #[vl, vu, vs] } } := I4.kept (t' := s4.toks) fun b ob q => Heap.get?_push_of_some _ q
  rcases hx with ⟨hx, q⟩ | ⟨hx, q⟩
  · obtain ⟨its, r, ht, hz⟩ := I5.list hx
    have hlen := r.length
    show wpAny (model X.prog X.w) X.A (subscriptTail e (.Slice none none (some (.UnaryOp .USub (.Constant (.int 1) k p1) p2)) p3) (.ref a) (.ref s4.heap.objs.size)) (EP X pins σ Q) X.xe { s4 with heap := s4.heap.push { cls := .type "slice", data := .fields #[vl, vu, vs] } }
    refine tail_any (ops := [.ref a, .ref s4.heap.objs.size]) ht.isList.typeIs (PySem.slot_list_getitem.lookup) ?_ (by with_unfolding_all rfl)
    refine wpAny_getItem_list_slice ht.isList (Heap.IsSliceOf.new _ vl vu vs) pl pu ps (by decide) ?_ (by rw [List.size_toArray]; omega)
    rw [PySem.W.krv_pick]
    refine ⟨.ref _, _, I5.laid (t' := s4.toks) (o := .lst xs.reverse) (fun b ob q => Heap.get?_push_of_some _ q) (Nat.le_refl _) ?_, rfl, q _ (I5.hok.fresh (Nat.le_refl _))⟩
    exact ⟨by rw [List.length_reverse]; exact hz, _, 0, r.reverse, Heap.get?_push_size _ rfl⟩
  · obtain ⟨its, r, ht, hz⟩ := I5.tuple hx
    have hlen := r.length
    show wpAny (model X.prog X.w) X.A (subscriptTail e (.Slice none none (some (.UnaryOp .USub (.Constant (.int 1) k p1) p2)) p3) (.ref a) (.ref s4.heap.objs.size)) (EP X pins σ Q) X.xe { s4 with heap := s4.heap.push { cls := .type "slice", data := .fields #[vl, vu, vs] } }
    refine tail_any (ops := [.ref a, .ref s4.heap.objs.size]) ht.typeIs PyProof.Rows.slot_tuple_getitem.lookup ?_ (by with_unfolding_all rfl)
    refine getItem_tuple_back ht (Heap.IsSliceOf.new _ vl vu vs) pl pu ps ?_ (by rw [List.size_toArray]; omega)
    refine ⟨.ref _, _, I5.laid (t' := s4.toks) (o := .tup xs.reverse) (fun b ob q => Heap.get?_push_of_some _ q) (Nat.le_refl _) ?_, rfl, q _ (I5.hok.fresh (Nat.le_refl _))⟩
    exact ⟨by rw [List.length_reverse]; exact hz, its.reverse, r.reverse, IsTup.new _ _⟩
end
/-! ### places, slices -/
section
variable {K : PySem.W.Frag} {μ : List Addr} {H : Hp} {s s' : Sto} {g : Gb} {c : Cc} {X : Cx} {m ma mb mc : Sem} {e a b d : Expr} {pos : Pos}
theorem Reps.reverse {ds : List D} {vs : List V} (h : Reps K H μ vs ds) : Reps K H μ vs.reverse ds.reverse := by
  induction ds generalizing vs with
  | nil => cases h; exact .nil
  | cons d ds ih =>
    cases h with
    | cons r q =>
      rw [List.reverse_cons, List.reverse_cons]
      exact (ih q).append (.cons r .nil)
theorem je_rev {e : Expr} {k : Nat} {p1 p2 p3 : Pos} (he : JE g c m e) : JE g c (xUn revD m) (.Subscript e (.Slice none none (some (.UnaryOp .USub (.Constant (.int 1) k p1) p2)) p3) pos) := by
  refine je_mk (fun X ok => PE.imp (pe_revA (he X ok).1) fun σ H Q h => ?_) (by intro _ _; rfl)
  rw [ok.K]
  obtain ⟨μ, s, env, d, s', S, E, hv, q⟩ := h
  obtain ⟨d1, s1, h1, hv⟩ := bind_ok hv
  refine ⟨μ, s, env, d1, s1, S, E, h1, fun v1 H1 μ1 x1 S1 r1 => ?_⟩
  unfold revD at hv
  split at hv
  · cases hv
    cases r1 with
    | @tup a vs _ tx px =>
    refine ⟨a, vs, rfl, .inr ⟨tx.t, fun p hp => ?_⟩⟩
    obtain ⟨x2, S2, r2⟩ := rep_tup S1 hp px.reverse
    exact q _ _ μ1 (x1.trans x2) S2 r2
  · split at hv
    · rename_i ex
      cases hv
      cases r1 with
      | ref rx =>
      obtain ⟨_, vx, hx, px⟩ := Rep.lst_at S1 (.ref rx) ex
      refine ⟨_, vx, rfl, .inl ⟨.of hx, fun p hp => ?_⟩⟩
      obtain ⟨x2, S2, r2⟩ := rep_lst S1 hp px.reverse
      exact q _ _ _ (x1.trans x2) S2 r2
    · cases hv
  · cases hv
theorem atI_rep {ds : List D} {vs : List V} {i : Int} {d : D} (r : Reps K H μ vs ds) (h : atI ds i = some d) : ∃ v, atI vs i = some v ∧ Rep K H μ v d := by
  unfold atI at h ⊢
  rw [r.length]
  obtain ⟨j, h1, h2⟩ := Option.bind_eq_some_iff.mp h
  obtain ⟨v, e, q⟩ := r.get h2
  exact ⟨v, by rw [h1]; exact e, q⟩
def plainIx : Expr → Bool
  | .Slice _ _ _ _ => false
  | _ => true
theorem je_ix (ha : JE g c ma a) (hb : JE g c mb b) (hs : PlainIx b := by exact fun _ _ => rfl) : JE g c (xBin ixD ma mb) (.Subscript a b pos) := by
  refine je_mk (fun X ok => PE.imp (pe_ix ix_seq (ha X ok).1 (hb X ok).1 hs) fun σ H Q h => ?_) (by intro _ _; rfl)
  obtain ⟨μ0, s0, env0, d1, s1, S0, E0, h1, qa⟩ := rd_two h
  refine ⟨μ0, s0, env0, d1, s1, S0, E0, h1, fun v1 H1 μ1 x1 S1 r1 => ?_⟩
  obtain ⟨μa, sa, env, d2, s2, Sa, E, h2, qb⟩ := qa v1 H1 μ1 x1 S1 r1
  refine ⟨μa, sa, env, d2, s2, Sa, E, h2, fun v2 H2 μ2 x2 S2 r2 => ?_⟩
  obtain ⟨μ, s, dx, dy, d, s', S, rx, ry, h, q⟩ := qb v2 H2 μ2 x2 S2 r2
  rw [ok.K]
  unfold ixD at h
  split at h
  · cases ry
    split at h
    · rename_i xs hx
      split at h
      · rename_i d hd
        cases h
        obtain ⟨p, vs, rfl, sq, r⟩ := items_rep S rx hx
        obtain ⟨v, hv, rv⟩ := atI_rep r hd
        rcases sq with sq | sq
        · exact .inl ⟨p, vs, _, v, rfl, rfl, sq, hv, q _ _ _ .refl S rv⟩
        · exact .inr (.inl ⟨p, vs, _, v, rfl, rfl, sq, hv, q _ _ _ .refl S rv⟩)
      · cases h
    · split at h
      · split at h
        · rename_i hz
          split at h
          · rename_i c hc
            cases h
            cases rx
            exact .inr (.inr ⟨_, _, c, rfl, rfl, hz, hc, q _ _ _ .refl S (.str _)⟩)
          · cases h
        · cases h
      · cases h
  · cases h
theorem jo_no : JO g c oNo none := fun X ok => PO.imp po_none fun σ H Q h => by
  obtain ⟨μ, s, env, d, s', S, E, hv, q⟩ := h
  cases hv
  exact q H μ .refl S
theorem jo_yes (ha : JE g c ma a) : JO g c (oYes ma) (some a) := fun X ok => PO.imp (po_some (ha X ok).1) fun σ H Q h => by
  obtain ⟨μ, s, env, d, s', S, E, hv, q⟩ := h
  obtain ⟨d1, s1, h1, hv⟩ := bind_ok hv
  refine ⟨μ, s, env, d1, s1, S, E, h1, fun v1 H1 μ1 x1 S1 r1 => ?_⟩
  split at hv
  · cases hv
    cases r1
    exact ⟨_, rfl, q H1 μ1 x1 S1⟩
  · cases hv
theorem sIx_le' (n d : Nat) (hd : d ≤ n) (o : Option Int) : HT.sIx n d o ≤ n := HT.sIx_le n d hd o
theorem je_slc {lo hi : Option Expr} {ml mh : EvO} {p2 : Pos} (ha : JE g c ma a) (hl : JO g c ml lo) (hh : JO g c mh hi) : JE g c (xSlc ma ml mh) (.Subscript a (.Slice lo hi none p2) pos) := by
  refine je_mk (fun X ok => PE.imp (pe_slice (sl_tupA.or sl_list) (ha X ok).1 (hl X ok) (hh X ok)) fun σ H Q h => ?_) (by intro _ _; rfl)
  rw [ok.K]
  obtain ⟨μ, s, env, d, s', S, E, hv, q⟩ := h
  obtain ⟨d1, s1, h1, hv⟩ := bind_ok hv
  obtain ⟨l, s2, h2, hv⟩ := bind_ok hv
  obtain ⟨u, s3, h3, hv⟩ := bind_ok hv
  refine ⟨μ, s, env, d1, s1, S, E, h1, fun v1 H1 μ1 x1 S1 r1 => ?_⟩
  refine ⟨μ1, s1, env, l, s2, S1, E.mono S x1, h2, fun H2 μ2 x2 S2 => ?_⟩
  refine ⟨μ2, s2, env, u, s3, S2, (E.mono S x1).mono S1 x2, h3, fun H3 μ3 x3 S3 => ?_⟩
  have r3 := r1.mono S1 (x2.trans x3)
  unfold slcD at hv
  split at hv
  · cases hv
    cases r3 with
    | @tup a vs _ tx px =>
    have xx := x1.trans (x2.trans x3)
    refine .inl ⟨a, vs, rfl, tx.t, fun hw => ?_, fun hw p hp => ?_⟩
    · refine q _ _ μ3 xx S3 (.tup tx ?_)
      have pc := px.cut l u
      have e : cutV vs l u = vs := by
        unfold cutV
        rw [hw.1, hw.2]
        simp
      rw [e] at pc
      exact pc
    · obtain ⟨x4, S4, r4⟩ := rep_tup S3 hp (px.cut l u)
      exact q _ _ μ3 (xx.trans x4) S4 r4
  · split at hv
    · rename_i ex
      cases hv
      cases r3 with
      | ref rx =>
      obtain ⟨_, vx, hx, px⟩ := Rep.lst_at S3 (.ref rx) ex
      refine .inr ⟨_, vx, rfl, .of hx, fun p hp => ?_⟩
      obtain ⟨x4, S4, r4⟩ := rep_lst S3 hp (px.cut l u)
      exact q _ _ _ ((x1.trans (x2.trans x3)).trans x4) S4 r4
    · cases hv
  · cases hv
/-! ### built-in functions -/
theorem cr_absD (hK : X.K = K) : CallR X (.builtin "abs") (RnD K absB) := by
  subst hK
  refine CallR.imp call_abs fun xs H Q h => ?_
  obtain ⟨μ, s, ds, d, s', S, r, h, q⟩ := h
  unfold absB at h
  split at h
  · cases h
    cases r with
    | cons r1 r2 =>
    cases r2; cases r1
    exact ⟨_, rfl, q _ H μ .refl S (.int _)⟩
  · cases h
theorem cr_max2D (hK : X.K = K) (hc : X.calm = true) : CallR X (.builtin "max") (RnD K max2B) := by
  subst hK
  refine CallR.imp (call_max2 hc) fun xs H Q h => ?_
  obtain ⟨μ, s, ds, d, s', S, r, h, q⟩ := h
  unfold max2B at h
  split at h
  · cases h
    cases r with
    | cons r1 r2 =>
    cases r2 with
    | cons r2 r3 =>
    cases r3; cases r1; cases r2
    exact ⟨_, _, rfl, q _ H μ .refl S (.int _)⟩
  · cases h
theorem cr_min2D (hK : X.K = K) (hc : X.calm = true) : CallR X (.builtin "min") (RnD K min2B) := by
  subst hK
  refine CallR.imp (call_min2 hc) fun xs H Q h => ?_
  obtain ⟨μ, s, ds, d, s', S, r, h, q⟩ := h
  unfold min2B at h
  split at h
  · cases h
    cases r with
    | cons r1 r2 =>
    cases r2 with
    | cons r2 r3 =>
    cases r3; cases r1; cases r2
    exact ⟨_, _, rfl, q _ H μ .refl S (.int _)⟩
  · cases h
theorem cr_intD (hK : X.K = K) : CallR X (.type "int") (RnD K intB) := by
  subst hK
  refine CallR.imp call_int1 fun xs H Q h => ?_
  obtain ⟨μ, s, ds, d, s', S, r, h, q⟩ := h
  unfold intB at h
  split at h
  · cases h
    cases r with
    | cons r1 r2 =>
    cases r2; cases r1
    exact .inl ⟨_, rfl, q _ H μ .refl S (.int _)⟩
  · cases h
    cases r with
    | cons r1 r2 =>
    cases r2; cases r1
    exact .inr ⟨_, rfl, q _ H μ .refl S (.int _)⟩
  · cases h
theorem cr_lenD (hK : X.K = K) : CallR X (.builtin "len") (RnD K lenB) := by
  subst hK
  refine CallR.imp call_len fun xs H Q h => ?_
  obtain ⟨μ, s, ds, d, s', S, r, h, q⟩ := h
  have sq : ∀ (x : D) (ys : List D) (v : V), Rep X.K H μ v x → items x s = some ys → ∃ n, LenV X.K v H n ∧ n = ys.length := fun x ys v rv hx => by
    obtain ⟨a, vs, rfl, q, r⟩ := items_rep S rv hx
    refine ⟨ys.length, ?_, rfl⟩
    rcases q with q | q
    · exact .inl ⟨vs, q, r.length.symm⟩
    · exact .inr ⟨vs, q, r.length.symm⟩
  unfold lenB at h
  split at h
  · split at h
    · rename_i hz
      cases h
      cases r with
      | cons r1 r2 =>
      cases r2; cases r1
      exact ⟨_, _, rfl, ⟨hz, rfl⟩, q _ H μ .refl S (.int _)⟩
    · cases h
  · split at h
    · rename_i ys ex
      cases h
      cases r with
      | cons r1 r2 =>
      cases r2
      obtain ⟨n, a, b⟩ := sq _ ys _ r1 (by unfold items; dsimp only; rw [ex])
      subst b
      exact ⟨_, _, rfl, a, q _ H μ .refl S (.int _)⟩
    · cases h
  · split at h
    · rename_i ys hx
      cases h
      cases r with
      | cons r1 r2 =>
      cases r2
      obtain ⟨n, a, b⟩ := sq _ ys _ r1 hx
      subst b
      exact ⟨_, _, rfl, a, q _ H μ .refl S (.int _)⟩
    · cases h
  · cases h
theorem cr_tupleD (hK : X.K = K) : CallR X (.type "tuple") (RnD K tupleB) := by
  subst hK
  refine CallR.imp call_tuple_of fun xs H Q h => ?_
  obtain ⟨μ, s, ds, d, s', S, r, h, q⟩ := h
  unfold tupleB at h
  split at h
  · split at h
    · rename_i ys hx
      cases h
      cases r with
      | cons r1 r2 =>
      cases r2
      obtain ⟨a, vs, rfl, sq, rr⟩ := items_rep2 S r1 hx
      refine ⟨a, vs, rfl, ?_⟩
      rcases sq with sq | sq
      · refine .inl ⟨sq, fun p hp => ?_⟩
        obtain ⟨x2, S2, r2⟩ := rep_tup S hp rr
        exact q _ _ μ x2 S2 r2
      · exact .inr ⟨sq.t, q _ H μ .refl S (.tup sq rr)⟩
    · cases h
  · cases h
theorem cr_listD (hK : X.K = K) : CallR X (.type "list") (RnD K listB) := by
  subst hK
  refine CallR.imp call_list_of fun xs H Q h => ?_
  obtain ⟨μ, s, ds, d, s', S, r, h, q⟩ := h
  unfold listB at h
  split at h
  · split at h
    · rename_i ys hx
      cases h
      cases r with
      | cons r1 r2 =>
      cases r2
      obtain ⟨a, vs, rfl, sq, rr⟩ := items_rep S r1 hx
      refine ⟨a, vs, rfl, sq, fun p hp => ?_⟩
      obtain ⟨x2, S2, r2⟩ := rep_lst S hp rr
      exact q _ _ _ x2 S2 r2
    · cases h
  · cases h
theorem bools_rep : ∀ {ds : List D} {vs : List V} {bs : List Bool}, Reps K H μ vs ds → bools ds = some bs → vs = bs.map V.bl
  | [], _, _, r, h => by cases r; cases h; rfl
  | .bl b :: ds, _, bs, r, h => by
    obtain ⟨cs, h1, rfl⟩ := Option.map_eq_some_iff.mp (show (bools ds).map (b :: ·) = some bs from h)
    cases r with
    | cons r1 r2 =>
      cases r1
      rw [bools_rep r2 h1]; rfl
  | .non :: _, _, _, _, h => by cases h
  | .int _ :: _, _, _, _, h => by cases h
  | .str _ :: _, _, _, _, h => by cases h
  | .tup _ :: _, _, _, _, h => by cases h
  | .fix _ :: _, _, _, _, h => by cases h
  | .ref _ :: _, _, _, _, h => by cases h
theorem ints_rep : ∀ {ds : List D} {vs : List V} {bs : List Int}, Reps K H μ vs ds → intsD ds = some bs → vs = bs.map V.int
  | [], _, _, r, h => by cases r; cases h; rfl
  | .int b :: ds, _, bs, r, h => by
    obtain ⟨cs, h1, rfl⟩ := Option.map_eq_some_iff.mp (show (intsD ds).map (b :: ·) = some bs from h)
    cases r with
    | cons r1 r2 =>
      cases r1
      rw [ints_rep r2 h1]; rfl
  | .non :: _, _, _, _, h => by cases h
  | .bl _ :: _, _, _, _, h => by cases h
  | .str _ :: _, _, _, _, h => by cases h
  | .tup _ :: _, _, _, _, h => by cases h
  | .fix _ :: _, _, _, _, h => by cases h
  | .ref _ :: _, _, _, _, h => by cases h
theorem cr_allD (hK : X.K = K) (hc : X.calm = true) : CallR X (.builtin "all") (RnD K allB) := by
  subst hK
  refine CallR.imp (cr_all hc) fun xs H Q h => ?_
  obtain ⟨μ, s, ds, d, s', S, r, h, q⟩ := h
  unfold allB at h
  split at h
  · split at h
    · rename_i bs hx
      cases h
      cases r with
      | cons r1 r2 =>
      cases r2
      obtain ⟨ys, h1, h2⟩ := Option.bind_eq_some_iff.mp hx
      obtain ⟨a, vs, rfl, sq, rr⟩ := litems_rep S r1 h1
      exact ⟨a, bs, rfl, by rw [← bools_rep rr h2]; exact sq, q _ H μ .refl S (.bl _)⟩
    · cases h
  · cases h
theorem cr_anyD (hK : X.K = K) (hc : X.calm = true) : CallR X (.builtin "any") (RnD K anyB) := by
  subst hK
  refine CallR.imp (cr_any hc) fun xs H Q h => ?_
  obtain ⟨μ, s, ds, d, s', S, r, h, q⟩ := h
  unfold anyB at h
  split at h
  · split at h
    · rename_i bs hx
      cases h
      cases r with
      | cons r1 r2 =>
      cases r2
      obtain ⟨ys, h1, h2⟩ := Option.bind_eq_some_iff.mp hx
      obtain ⟨a, vs, rfl, sq, rr⟩ := litems_rep S r1 h1
      exact ⟨a, bs, rfl, by rw [← bools_rep rr h2]; exact sq, q _ H μ .refl S (.bl _)⟩
    · cases h
  · cases h
theorem cr_sumD (hK : X.K = K) (hc : X.calm = true) : CallR X (.builtin "sum") (RnD K sumB) := by
  subst hK
  refine CallR.imp (cr_sum hc) fun xs H Q h => ?_
  obtain ⟨μ, s, ds, d, s', S, r, h, q⟩ := h
  unfold sumB at h
  split at h
  · split at h
    · rename_i bs hx
      cases h
      cases r with
      | cons r1 r2 =>
      cases r2
      obtain ⟨ys, h1, h2⟩ := Option.bind_eq_some_iff.mp hx
      obtain ⟨a, vs, rfl, sq, rr⟩ := litems_rep S r1 h1
      exact ⟨a, bs, rfl, by rw [← ints_rep rr h2]; exact sq, q _ H μ .refl S (.int _)⟩
    · cases h
  · cases h
/-! ### isinstance -/
theorem ty_of (S : Sim K μ H s) {v : V} {d : D} {n : String} (r : Rep K H μ v d) (h : tyName d s = some n) : TyX K H v (.type n) := by
  cases r with
  | non => cases h; exact .base .non
  | bl b => cases h; exact .base (.bl b)
  | int i => cases h; exact .base (.int i)
  | str x => cases h; exact .base (.str x)
  | tup q r =>
    cases h
    exact .base (.tup q)
  | fix q r =>
    cases h
    rcases q with ⟨o, q⟩ | ⟨o, its, n, e, hc, _⟩
    · exact .base (.frz q)
    · exact .kList e hc
  | @ref i a q =>
    obtain ⟨o, e, ro⟩ := S.ob i a q
    unfold tyName at h
    dsimp only at h
    rw [e] at h
    cases o with
    | lst ds => cases h; obtain ⟨vs, e1, r1⟩ := ro; exact .base (.lst e1)
    | dct kvs =>
      have ro : RepT K H μ a kvs := ro
      dsimp only at h
      unfold RepT at ro
      split at ro
      all_goals first | (exact ro.elim) | skip
      · cases h; exact .base (.dK ro)
      · obtain ⟨vs, e1, _⟩ := ro; cases h; exact .base (.dT e1)
      · cases h
theorem isTy_kit {d : D} {t : Ty} {b : Bool} (h : isTy d s t = some b) : ∃ n, tyName d s = some n ∧ PySem.W.kitOne K (.type n) (.type t.name) = some b := by
  have key : ∀ n : String, kitB n t.name = some b → PySem.W.kitOne K (.type n) (.type t.name) = some b := fun n h => kit_ty h
  cases d with
  | non => refine ⟨_, rfl, key _ ?_⟩; cases h; cases t <;> decide +kernel
  | bl _ => refine ⟨_, rfl, key _ ?_⟩; cases h; cases t <;> decide +kernel
  | int _ => refine ⟨_, rfl, key _ ?_⟩; cases h; cases t <;> decide +kernel
  | str _ => refine ⟨_, rfl, key _ ?_⟩; cases h; cases t <;> decide +kernel
  | tup _ => refine ⟨_, rfl, key _ ?_⟩; cases h; cases t <;> decide +kernel
  | fix _ => refine ⟨_, rfl, key _ ?_⟩; cases h; cases t <;> decide +kernel
  | ref i =>
    unfold isTy at h
    unfold tyName
    dsimp only at h ⊢
    cases e : s.get i with
    | none => rw [e] at h; cases h
    | some o =>
      rw [e] at h
      cases o with
      | lst ds => refine ⟨_, rfl, key _ ?_⟩; cases h; cases t <;> decide +kernel
      | dct kvs =>
        dsimp only at h ⊢
        split at h
        · cases h
        · rename_i hz
          rw [if_neg hz]
          refine ⟨_, rfl, key _ ?_⟩; cases h; cases t <;> decide +kernel
/-- isinstance(e, T) -/
theorem je_isi {t : Ty} {e : Expr} {p p2 : Pos} {x : Str} (hx : x = Str.ofString t.name) (hs : c.sc.names.lookup ("isinstance" : Str) = some .globalImplicit) (hm : g.mg ("isinstance" : Str) = none) (hs2 : c.sc.names.lookup x = some .globalImplicit) (hm2 : g.mg x = none)
    (he : JE g c m e) (hst : noStar e = true := by rfl) : JE g c (xUn (isiD [t]) m) (.Call (.Name "isinstance" p) [e, .Name x p2] [] pos) := by
  have hb : bootBuiltins x = some (.type t.name) := by subst hx; cases t <;> decide +kernel
  have hn : x ≠ "__name__" := by subst hx; cases t <;> decide +kernel
  have hd : (x == ("__debug__" : Str)) = false := by subst hx; cases t <;> decide +kernel
  refine je_mk (fun X ok => ?_) (by intro _ _; rfl)
  have pt : PE X (.Name x p2) (tC (.ty t.name)) := pe_bltn (by show X.env.scope.names.lookup x = _; rw [ok.sc]; exact hs2) (by rw [ok.mg]; exact hm2) hb rfl hn hd
  refine PE.imp (pe_callB call_isi (by show X.env.scope.names.lookup _ = _; rw [ok.sc]; exact hs) (by rw [ok.mg]; exact hm) (by decide +kernel) (pa_cons (he X ok).1 (pa_cons pt pa_nil) (star_cons hst _)) (by decide) (by decide) (star_cons hst _)) fun σ H Q h => ?_
  obtain ⟨μ, s, env, d, s', S, E, hv, q⟩ := h
  obtain ⟨d1, s1, h1, hv⟩ := bind_ok hv
  refine ⟨μ, s, env, d1, s1, S, E, h1, fun v1 H1 μ1 x1 S1 r1 => ?_⟩
  unfold isiD at hv
  split at hv
  · rename_i bs hbs
    cases hv
    obtain ⟨b, hb2⟩ : ∃ b, isTy d1 s' t = some b ∧ bs = [b] := by
      unfold mapO at hbs
      split at hbs
      · rename_i b ds e1 e2
        cases hbs
        cases e2
        exact ⟨b, e1, rfl⟩
      · cases hbs
    obtain ⟨hb2, rfl⟩ := hb2
    obtain ⟨n, hn2, hk⟩ := isTy_kit (K := X.K) hb2
    refine ⟨v1, .ty t.name, .type n, .type t.name, b, rfl, .ty _, ?_, hk, ?_⟩
    · rw [ok.K]; exact ty_of S1 r1 hn2
    · have e3 : ([b].any id) = b := by cases b <;> rfl
      rw [e3] at q
      exact q _ H1 μ1 x1 S1 (.bl b)
  · cases hv
theorem kitAny_two {K : PySem.W.Frag} {t c1 c2 : Value} {b1 b2 : Bool} (h1 : PySem.W.kitOne K t c1 = some b1) (h2 : PySem.W.kitOne K t c2 = some b2) : PySem.W.kitAny K t [c1, c2] = some ([b1, b2].any id) :=
  kitAny_cons h1 (fun e => kitAny_cons h2 (fun e2 => by subst e e2; exact kitAny_nil) fun e2 => by subst e e2; rfl) fun e => by subst e; rfl
/-- isinstance(e, (T, U)) -/
theorem je_isi2 {t u : Ty} {e : Expr} {p p2 p3 p4 : Pos} {k : Nat} {x y : Str} (hx : x = Str.ofString t.name) (hy : y = Str.ofString u.name) (hs : c.sc.names.lookup ("isinstance" : Str) = some .globalImplicit) (hm : g.mg ("isinstance" : Str) = none) (hs2 : c.sc.names.lookup x = some .globalImplicit) (hm2 : g.mg x = none)
    (hs3 : c.sc.names.lookup y = some .globalImplicit) (hm3 : g.mg y = none) (he : JE g c m e) (hst : noStar e = true := by rfl) : JE g c (xUn (isiD [t, u]) m) (.Call (.Name "isinstance" p) [e, .Tuple [.Name x p2, .Name y p3] k p4] [] pos) := by
  have hb : bootBuiltins x = some (.type t.name) := by subst hx; cases t <;> decide +kernel
  have hn : x ≠ "__name__" := by subst hx; cases t <;> decide +kernel
  have hd : (x == ("__debug__" : Str)) = false := by subst hx; cases t <;> decide +kernel
  have hb' : bootBuiltins y = some (.type u.name) := by subst hy; cases u <;> decide +kernel
  have hn' : y ≠ "__name__" := by subst hy; cases u <;> decide +kernel
  have hd' : (y == ("__debug__" : Str)) = false := by subst hy; cases u <;> decide +kernel
  refine je_mk (fun X ok => ?_) (by intro _ _; rfl)
  have pt : PE X (.Name x p2) (tC (.ty t.name)) := pe_bltn (by show X.env.scope.names.lookup x = _; rw [ok.sc]; exact hs2) (by rw [ok.mg]; exact hm2) hb rfl hn hd
  have pu : PE X (.Name y p3) (tC (.ty u.name)) := pe_bltn (by show X.env.scope.names.lookup y = _; rw [ok.sc]; exact hs3) (by rw [ok.mg]; exact hm3) hb' rfl hn' hd'
  refine PE.imp (pe_callB call_isiT (by show X.env.scope.names.lookup _ = _; rw [ok.sc]; exact hs) (by rw [ok.mg]; exact hm) (by decide +kernel) (pa_cons (he X ok).1 (pa_cons (pe_tup (pa_cons pt (pa_cons pu pa_nil))) pa_nil) (star_cons hst _)) (by decide) (by decide) (star_cons hst _)) fun σ H Q h => ?_
  obtain ⟨μ, s, env, d, s', S, E, hv, q⟩ := h
  obtain ⟨d1, s1, h1, hv⟩ := bind_ok hv
  refine ⟨μ, s, env, d1, s1, S, E, h1, fun v1 H1 μ1 x1 S1 r1 => ?_⟩
  unfold isiD at hv
  split at hv
  · rename_i bs hbs
    cases hv
    refine ⟨by show 2 ≤ sizeLine; decide, fun tp htp => ?_⟩
    obtain ⟨b1, b2, hb1, hb2, rfl⟩ : ∃ b1 b2, isTy d1 s' t = some b1 ∧ isTy d1 s' u = some b2 ∧ bs = [b1, b2] := by
      unfold mapO at hbs
      split at hbs
      · rename_i b ds e1 e2
        cases hbs
        unfold mapO at e2
        split at e2
        · rename_i b' ds' e3 e4
          cases e2; cases e4
          exact ⟨b, b', e1, e3, rfl⟩
        · cases e2
      · cases hbs
    obtain ⟨n, hn2, hk⟩ := isTy_kit (K := X.K) hb1
    obtain ⟨n', hn3, hk'⟩ := isTy_kit (K := X.K) hb2
    rw [hn2] at hn3; cases hn3
    have sm : Same H1 (upd H1 tp (.tup [V.ty t.name, V.ty u.name])) := fun b x e => by
      rw [upd_ne (ne_of_none e htp)]; exact e
    have S2 := S1.same sm
    have r2 := r1.mono S1 (.same sm)
    refine ⟨v1, tp, _, .type n, [.type t.name, .type u.name], [b1, b2].any id, rfl, upd_same, .cons (.ty _) (.cons (.ty _) .nil), ?_, kitAny_two hk hk', ?_⟩
    · rw [ok.K]; exact ty_of S2 r2 hn2
    · exact q _ _ μ1 (x1.trans (.same sm)) S2 (.bl _)
  · cases hv
/-! ### methods of lists -/
theorem isL_ty (S : Sim K μ H s) {v : V} {d : D} (r : Rep K H μ v d) (h : isL d s = true) : tyV K "list" v H := by
  unfold isL at h
  split at h
  · split at h
    · rename_i ex
      cases r with
      | ref q =>
      obtain ⟨_, vs, hx, _⟩ := Rep.lst_at S (.ref q) ex
      exact .inl ⟨rfl, vs, .of hx⟩
    · cases h
  · cases h
theorem je_bm {id : String} {name : Str} {f : D → List D → Sto → R D} {ra : EvA} {o : Expr} {es : List Expr} {apos : Pos} (slot : Slot "list" name id) (hty : typeOf (.builtin id) = pure (.type "method_descriptor")) (hf : ∀ X : Cx, c.Ok g X → MtR X id (RmD g.K f))
    (ho : JE g c m o) (ha : JA g c ra (a :: es)) (hst : (a :: es).all noStar = true := by rfl)
    (hbase : ∀ env, attributeBase o name env (eval o env) = eval o env := by intro _; rfl)
    (hfew : ∀ env, ((backTo pos (starEach (a :: es) env)).all (fun x => !x.1) && (backToKw pos (keywordEach [] env)).all (fun x => x.1.isSome)
      && decide ((a :: es).length + ([] : List Keyword).length + (if ([] : List Keyword).isEmpty then 0 else 1) < 30)) = true := by intro _; rfl)
    (hline : (apos.endLine == pos.line) = true := by rfl) : JE g c (xMeth f m ra) (.Call (.Attribute o name apos) (a :: es) [] pos) := by
  have h2 := hst
  rw [List.all_cons, Bool.and_eq_true] at h2
  refine je_mk (fun X ok => PE.imp (pe_bm PySem.F.plainAttrs_list slot hty (hf X ok) (ho X ok).1 (ha X ok) (hbase _) (hfew _) hline (star_cons h2.1 _) (star_any h2.2 _ _)) fun σ H Q h => ?_) (by intro _ _; rfl)
  obtain ⟨μ, s, env, d, s', S, E, hv, q⟩ := h
  obtain ⟨d1, s1, h1, hv⟩ := bind_ok hv
  refine ⟨μ, s, env, d1, s1, S, E, h1, fun v1 H1 μ1 x1 S1 r1 => ?_⟩
  split at hv
  · rename_i hl
    obtain ⟨ds, s2, h2', hv⟩ := bind_ok hv
    refine ⟨by rw [ok.K]; exact isL_ty S1 r1 hl, μ1, s1, env, ds, s2, S1, E.mono S x1, h2', fun vs H2 μ2 x2 S2 r2 => ?_⟩
    exact ⟨μ2, s2, d1, ds, d, s', S2, r1.mono S1 x2, r2, hv, fun v H' μ' x3 S3 r3 => q v H' μ' (x1.trans (x2.trans x3)) S3 r3⟩
  · cases hv
theorem je_bm0 {id : String} {name : Str} {f : D → List D → Sto → R D} {o : Expr} {apos : Pos} (slot : Slot "list" name id) (hty : typeOf (.builtin id) = pure (.type "method_descriptor")) (hf : ∀ X : Cx, c.Ok g X → MtR X id (RmD g.K f))
    (ho : JE g c m o) (hbase : ∀ env, attributeBase o name env (eval o env) = eval o env := by intro _; rfl)
    (hline : (apos.endLine == pos.line) = true := by rfl) : JE g c (xMeth f m aNil) (.Call (.Attribute o name apos) [] [] pos) := by
  refine je_mk (fun X ok => PE.imp (pe_bm0 PySem.F.plainAttrs_list slot hty (hf X ok) (ho X ok).1 (hbase _) hline) fun σ H Q h => ?_) (by intro _ _; rfl)
  obtain ⟨μ, s, env, d, s', S, E, hv, q⟩ := h
  obtain ⟨d1, s1, h1, hv⟩ := bind_ok hv
  refine ⟨μ, s, env, d1, s1, S, E, h1, fun v1 H1 μ1 x1 S1 r1 => ?_⟩
  split at hv
  · rename_i hl
    have hv : f d1 [] s1 = .ok d s' := hv
    exact ⟨by rw [ok.K]; exact isL_ty S1 r1 hl, μ1, s1, d1, [], d, s', S1, r1, .nil, hv, fun v H' μ' x3 S3 r3 => q v H' μ' (x1.trans x3) S3 r3⟩
  · cases hv
theorem MtR.imp {id : String} {r r' : V → List V → Hp → VK → Prop} (h : MtR X id r) (i : ∀ x xs H Q, r' x xs H Q → r x xs H Q) : MtR X id r' := fun pins s σ H x xs v us Q I rx rs q => h pins s σ H x xs v us Q I rx rs (i x xs H Q q)
theorem mt_appendD (hK : X.K = K) : MtR X "list.append" (RmD K appendM) := by
  subst hK
  refine MtR.imp mt_append fun x xs H Q h => ?_
  obtain ⟨μ, s, dx, ds, d, s', S, rx, rs, h, q⟩ := h
  unfold appendM at h
  split at h
  · split at h
    · rename_i ex
      split at h
      · rename_i hz
        cases h
        cases rx with
        | ref rx =>
        cases rs with
        | cons r1 r2 =>
        cases r2
        obtain ⟨hm, vx, hx, px⟩ := Rep.lst_at S (.ref rx) ex
        obtain ⟨x2, S2⟩ := rep_set (o := .lst []) S hm ⟨_, hx⟩ (px.append (.cons r1 .nil))
        exact ⟨_, vx, _, rfl, rfl, hx, by rw [px.length]; exact hz, q _ _ μ x2 S2 .non⟩
      · cases h
    · cases h
  · cases h
theorem mt_extendD (hK : X.K = K) : MtR X "list.extend" (RmD K extendM) := by
  subst hK
  refine MtR.imp mt_extend fun x xs H Q h => ?_
  obtain ⟨μ, s, dx, ds, d, s', S, rx, rs, h, q⟩ := h
  unfold extendM at h
  split at h
  · split at h
    · rename_i ex ey
      split at h
      · rename_i hz
        cases h
        cases rx with
        | ref rx =>
        cases rs with
        | cons r1 r2 =>
        cases r2
        cases r1 with
        | ref ry =>
        obtain ⟨hm, vx, hx, px⟩ := Rep.lst_at S (.ref rx) ex
        obtain ⟨_, vy, hy, py⟩ := Rep.lst_at S (.ref ry) ey
        obtain ⟨x2, S2⟩ := rep_set (o := .lst []) S hm ⟨_, hx⟩ (px.append py)
        exact ⟨_, _, vx, vy, rfl, rfl, hx, hy, by rw [px.length, py.length]; exact hz, q _ _ μ x2 S2 .non⟩
      · cases h
    · cases h
  · cases h
theorem mt_popD (hK : X.K = K) : MtR X "list.pop" (RmD K popM) := by
  subst hK
  refine MtR.imp (MtR.or mt_pop mt_popAt) fun x xs H Q h => ?_
  obtain ⟨μ, s, dx, ds, d, s', S, rx, rs, h, q⟩ := h
  unfold popM at h
  split at h
  · split at h
    · rename_i ex
      split at h
      · rename_i y hy
        cases h
        cases rx with
        | ref rx =>
        cases rs
        obtain ⟨hm, vx, hx, px⟩ := Rep.lst_at S (.ref rx) ex
        obtain ⟨v, hv, rv⟩ := px.get hy
        obtain ⟨x2, S2⟩ := rep_set (o := .lst []) S hm ⟨_, hx⟩ px.dropLast
        exact .inl ⟨_, vx, v, rfl, rfl, hx, by rw [px.length]; exact hv, q _ _ μ x2 S2 (rv.mono S x2)⟩
      · cases h
    · cases h
  · split at h
    · rename_i ex
      split at h
      · rename_i hz
        split at h
        · rename_i j hj
          split at h
          · rename_i y hy
            cases h
            cases rx with
            | ref rx =>
            cases rs with
            | cons r1 r2 =>
            cases r2
            cases r1
            obtain ⟨hm, vx, hx, px⟩ := Rep.lst_at S (.ref rx) ex
            obtain ⟨v, hv, rv⟩ := px.get hy
            obtain ⟨x2, S2⟩ := rep_set (o := .lst []) S hm ⟨_, hx⟩ (px.eraseIdx j)
            exact .inr ⟨_, vx, _, j, v, rfl, rfl, hx, hz.1, hz.2, by rw [px.length]; exact hj, hv, q _ _ μ x2 S2 (rv.mono S x2)⟩
          · cases h
        · cases h
      · cases h
    · cases h
  · cases h
theorem mt_clearD (hK : X.K = K) : MtR X "list.clear" (RmD K clearM) := by
  subst hK
  refine MtR.imp mt_clear fun x xs H Q h => ?_
  obtain ⟨μ, s, dx, ds, d, s', S, rx, rs, h, q⟩ := h
  unfold clearM at h
  split at h
  · split at h
    · rename_i ex
      cases h
      cases rx with
      | ref rx =>
      cases rs
      obtain ⟨hm, vx, hx, px⟩ := Rep.lst_at S (.ref rx) ex
      obtain ⟨x2, S2⟩ := rep_set (o := .lst []) S hm ⟨_, hx⟩ (xs := []) (ds := []) .nil
      exact ⟨_, vx, rfl, rfl, hx, q _ _ μ x2 S2 .non⟩
    · cases h
  · cases h
end
end Cs

/-! ## CsSim5 -/
namespace Cs
open PySem PySem.Spec PyProof.Rows L2
section
variable {K : PySem.W.Frag} {μ μ' : List Addr} {H H' : Hp} {s s' : Sto} {g : Gb} {c : Cc} {X : Cx} {m ma mb mc : Sem} {e a b d : Expr} {pos : Pos}
/-! ### keyword calls -/
def JK (g : Gb) (c : Cc) (m : EvA) (kws : List Keyword) : Prop := ∀ X : Cx, c.Ok g X → PK X kws (RdA g.K m)
theorem PK.imp {X : Cx} {e : List Keyword} {t t' : TA} (h : PK X e t) (f : ∀ σ H Q, t' σ H Q → t σ H Q) : PK X e t' := ⟨fun p pins s σ H Q I q => h.run p pins s σ H Q I (f σ H Q q)⟩
theorem jk_nil : JK g c aNil [] := fun X ok => PK.imp pk_nil fun σ H Q h => by
  obtain ⟨μ, s, env, d, s', S, E, hv, q⟩ := h
  cases hv
  exact q [] H μ .refl S .nil
theorem jk_cons {r : EvA} {nm : Option Str} {kpos : Pos} {kws : List Keyword} (ha : JE g c ma a) (hr : JK g c r kws) : JK g c (aCons ma r) (⟨nm, a, kpos⟩ :: kws) := fun X ok =>
  PK.imp (pk_cons (ha X ok).1 (hr X ok)) fun σ H Q h => by
    obtain ⟨μ, s, env, d, s', S, E, hv, q⟩ := h
    obtain ⟨d1, s1, h1, hv⟩ := bind_ok hv
    obtain ⟨d2, s2, h2, hv⟩ := bind_ok hv
    cases hv
    refine ⟨μ, s, env, d1, s1, S, E, h1, fun v1 H1 μ1 x1 S1 r1 => ?_⟩
    refine ⟨μ1, s1, env, d2, s', S1, E.mono S x1, h2, fun v2 H2 μ2 x2 S2 r2 => ?_⟩
    exact q _ H2 μ2 (x1.trans x2) S2 (.cons (r1.mono S1 x2) r2)
theorem Reps.getD : ∀ {ds : List D} {vs : List V} (i : Nat), Reps K H μ vs ds → Rep K H μ (vs.getD i .non) (ds.getD i .non)
  | [], _, _, h => by cases h; exact .non
  | d :: ds, _, 0, h => by
    cases h with
    | cons r _ => exact r
  | d :: ds, _, i + 1, h => by
    cases h with
    | cons _ q => exact q.getD i
theorem Reps.perm {np nk : Nat} {p : List Nat} {us ws : List D} {vs zs : List V} (r : Reps K H μ vs us) (q : Reps K H μ zs ws) : Reps K H μ (gPerm .non np nk p vs zs) (gPerm .non np nk p us ws) := by
  unfold gPerm
  rw [r.length, q.length]
  split
  · induction p with
    | nil => exact .nil
    | cons i p ih => exact .cons ((r.append q).getD i) ih
  · exact .nil
theorem Vals.getD' : ∀ {vs : List V} {us : List Value} (i : Nat), Vals vs us → RelV (vs.getD i .non) (us.getD i .none)
  | _, _, _, .nil => rfl
  | _, _, 0, .cons r _ => r
  | _, _, i + 1, .cons _ q => Cs.Vals.getD' i q
theorem Vals.perm {np nk : Nat} {p : List Nat} {us ws : List Value} {vs zs : List V} (r : Vals vs us) (q : Vals zs ws) : Vals (gPerm .non np nk p vs zs) (gPerm .none np nk p us ws) := by
  unfold gPerm
  rw [r.length, q.length]
  split
  · induction p with
    | nil => exact .nil
    | cons i p ih => exact .cons (Cs.Vals.getD' i (L2.Vals.append r q)) ih
  · exact .nil
/-- how a def takes keywords -/
def FnK (g : Gb) (lv : Nat) (x : Str) (ps ks : List Str) (np : Nat) (p : List Nat) (m : Fn) : Prop :=
  (∀ ds s d s', m ds s = .ok d s' → ds.length = ps.length) ∧
  ∃ f fd, g.mg x = some (.ref f) ∧ PySem.W.keepIn g.K (.ref f) = true ∧ KBinds g.K fd ps ks (gPerm .none np ks.length p) (gPerm .non np ks.length p) ∧ FnOk g.P g.w g.K g.mg g.base CX0 lv f fd ps (spD g.K ps.length m)
theorem je_callk {lv np : Nat} {x : Str} {ps ks : List Str} {pm : List Nat} {f : Fn} {ra rk : EvA} {p : Pos} {es : List Expr} {kws : List Keyword} (F : FnK g lv x ps ks np pm f) (hl : lv ≤ c.lv) (hs : c.sc.names.lookup x = some .globalImplicit)
    (ha : JA g c ra (a :: es)) (hk : JK g c rk kws) (hst : (a :: es).all noStar = true := by rfl)
    (hall : ∀ env, (backToKw pos (keywordEach kws env)).all (·.1.isSome) = true := by intro _; rfl) (hks : ∀ env, (backToKw pos (keywordEach kws env)).filterMap (·.1) = ks := by intro _; rfl)
    (hpl : ∀ env, ((backTo pos (starEach (a :: es) env)).any (·.1) || (backToKw pos (keywordEach kws env)).any (·.1.isNone)) = false := by intro _; rfl)
    (hdb : (x == ("__debug__" : Str)) = false := by decide) : JE g c (xCallK f np ks.length pm ra rk) (.Call (.Name x p) (a :: es) kws pos) := by
  obtain ⟨hlen, fa, fd, hm, hkk, hb, hF⟩ := F
  have h2 := hst
  rw [List.all_cons, Bool.and_eq_true] at h2
  refine je_mk (fun X ok => ?_) (by intro _ _; rfl)
  have hF' : FnOk X.prog X.w X.K X.mg X.base CX0 lv fa fd ps (spD g.K ps.length f) := by
    rw [ok.prog, ok.w, ok.K, ok.mg, ok.base]; exact hF
  refine PE.imp (pe_callK hF' (ok.room.mono hl) (by show X.env.scope.names.lookup x = _; rw [ok.sc]; exact hs) (by rw [ok.mg]; exact hm) (by rw [ok.K]; exact hkk) (by rw [ok.K]; exact hb) pass0 (ha X ok) (hk X ok) (hall _) (hks _) hdb (star_cons h2.1 _) (hpl _)) fun σ H Q h => ?_
  obtain ⟨μ, s, env, d, s', S, E, hv, q⟩ := h
  obtain ⟨us, s1, h1, hv⟩ := bind_ok hv
  obtain ⟨ws, s2, h2', hv⟩ := bind_ok hv
  refine ⟨μ, s, env, us, s1, S, E, h1, fun vs H1 μ1 x1 S1 r1 => ?_⟩
  refine ⟨μ1, s1, env, ws, s2, S1, E.mono S x1, h2', fun zs H2 μ2 x2 S2 r2 => ?_⟩
  have rp := (r1.mono S1 x2).perm (np := np) (nk := ks.length) (p := pm) r2
  exact ⟨by rw [rp.length]; exact hlen _ _ _ _ hv, μ2, s2, _, d, s', S2, rp, hv, fun v H' μ' x3 S3 r3 => q v H' μ' (x1.trans (x2.trans x3)) S3 r3⟩
theorem pe_callK0 {CX : CXT} {k : Nat} {f : Addr} {fd : FuncData} {ps ks : List Str} {sp : Sp} {E : XK} {x : Str} {p pos : Pos} {kws : List Keyword} {tk : TA} {gg : List Value → List Value → List Value} {gV : List V → List V → List V}
    (F : FnOk X.prog X.w X.K X.mg X.base CX k f fd ps sp) (hr : Room k X.A) (hg : Gl X x) (hm : X.mg x = some (.ref f)) (hk : PySem.W.keepIn X.K (.ref f) = true) (hb : KBinds X.K fd ps ks gg gV) (hx : Passes CX X E)
    (hkw : PK X kws tk) (hall : (backToKw pos (keywordEach kws X.env)).all (·.1.isSome) = true) (hks : (backToKw pos (keywordEach kws X.env)).filterMap (·.1) = ks)
    (hdb : (x == ("__debug__" : Str)) = false)
    (hpl : ((backTo pos (starEach [] X.env)).any (·.1) || (backToKw pos (keywordEach kws X.env)).any (·.1.isNone)) = false) :
    PE X (.Call (.Name x p) [] kws pos) (fun σ H Q => tk σ H fun zs H2 => sp (gV [] zs) H2 Q E) := by
  refine ⟨fun pins s σ H Q I h => ?_⟩
  refine wpAny_Call_Name_kw (ld_glob I hg hm ?_ hdb)
  refine PySem.W.callWith_KW0 (h₀ := X.base) I.ok.mod.kin hk hall ?_ hpl
  refine thn (hkw.run pos pins s σ H _ I h) fun ws s2 ⟨zs, H2, I2, rz, q2⟩ => ⟨I2.kIn, ?_⟩
  rw [hks]
  exact run_fnk (us := []) (vs := []) F hr hb hx I2 .nil rz q2
theorem je_callk0 {lv : Nat} {x : Str} {ps ks : List Str} {pm : List Nat} {f : Fn} {rk : EvA} {p : Pos} {kws : List Keyword} (F : FnK g lv x ps ks 0 pm f) (hl : lv ≤ c.lv) (hs : c.sc.names.lookup x = some .globalImplicit)
    (hk : JK g c rk kws) (hall : ∀ env, (backToKw pos (keywordEach kws env)).all (·.1.isSome) = true := by intro _; rfl) (hks : ∀ env, (backToKw pos (keywordEach kws env)).filterMap (·.1) = ks := by intro _; rfl)
    (hpl : ∀ env, ((backTo pos (starEach [] env)).any (·.1) || (backToKw pos (keywordEach kws env)).any (·.1.isNone)) = false := by intro _; rfl)
    (hdb : (x == ("__debug__" : Str)) = false := by decide) : JE g c (xCallK f 0 ks.length pm aNil rk) (.Call (.Name x p) [] kws pos) := by
  obtain ⟨hlen, fa, fd, hm, hkk, hb, hF⟩ := F
  refine je_mk (fun X ok => ?_) (by intro _ _; rfl)
  have hF' : FnOk X.prog X.w X.K X.mg X.base CX0 lv fa fd ps (spD g.K ps.length f) := by
    rw [ok.prog, ok.w, ok.K, ok.mg, ok.base]; exact hF
  refine PE.imp (pe_callK0 hF' (ok.room.mono hl) (by show X.env.scope.names.lookup x = _; rw [ok.sc]; exact hs) (by rw [ok.mg]; exact hm) (by rw [ok.K]; exact hkk) (by rw [ok.K]; exact hb) pass0 (hk X ok) (hall _) (hks _) hdb (hpl _)) fun σ H Q h => ?_
  obtain ⟨μ, s, env, d, s', S, E, hv, q⟩ := h
  have hv : (rk env s).bind (fun ws s => f (gPerm .non 0 ks.length pm [] ws) s) = .ok d s' := hv
  obtain ⟨ws, s2, h2', hv⟩ := bind_ok hv
  refine ⟨μ, s, env, ws, s2, S, E, h2', fun zs H2 μ2 x2 S2 r2 => ?_⟩
  have rp := Reps.perm (np := 0) (nk := ks.length) (p := pm) (us := []) (vs := []) .nil r2
  exact ⟨by rw [rp.length]; exact hlen _ _ _ _ hv, μ2, s2, _, d, s', S2, rp, hv, fun v H' μ' x3 S3 r3 => q v H' μ' (x2.trans x3) S3 r3⟩
/-! ### targets -/
def RdG (K : PySem.W.Frag) (vs : List Nat) (m : EvG) : TG := fun v σ H Q => ∃ μ s env d env' s', Sim K μ H s ∧ EnvR K H μ σ env ∧ Rep K H μ v d ∧ m d env s = .ok env' s' ∧
  ∀ σ' H' μ', Ext μ H μ' H' → Sim K μ' H' s' → EnvR K H' μ' σ' env' → (∀ ws : List Nat, (∀ i ∈ vs, i ∈ ws) → wipe σ' ws = wipe σ ws) → Q σ' H'
def RdGs (K : PySem.W.Frag) (vs : List Nat) (m : List D → Env → Sto → R Env) : TGs := fun xs σ H Q => ∃ μ s env ds env' s', Sim K μ H s ∧ EnvR K H μ σ env ∧ Reps K H μ xs ds ∧ m ds env s = .ok env' s' ∧
  ∀ σ' H' μ', Ext μ H μ' H' → Sim K μ' H' s' → EnvR K H' μ' σ' env' → (∀ ws : List Nat, (∀ i ∈ vs, i ∈ ws) → wipe σ' ws = wipe σ ws) → Q σ' H'
def JG (g : Gb) (c : Cc) (vs : List Nat) (m : EvG) (t : Expr) : Prop := ∀ X : Cx, c.Ok g X → PG X t (RdG g.K vs m)
def JGs (g : Gb) (c : Cc) (vs : List Nat) (m : List D → Env → Sto → R Env) (ts : List Expr) : Prop := ∀ X : Cx, c.Ok g X → PGs X ts (RdGs g.K vs m)
theorem PG.imp {X : Cx} {e : Expr} {t t' : TG} (h : PG X e t) (f : ∀ v σ H Q, t' v σ H Q → t v σ H Q) : PG X e t' := ⟨fun pins s σ H v u Q I r q => h.run pins s σ H v u Q I r (f v σ H Q q)⟩
theorem PGs.imp {X : Cx} {e : List Expr} {t t' : TGs} (h : PGs X e t) (f : ∀ v σ H Q, t' v σ H Q → t v σ H Q) : PGs X e t' := ⟨fun pins s σ H v u Q I r q => h.run pins s σ H v u Q I r (f v σ H Q q)⟩
theorem EnvR.set {σ : L2.St} {env : Env} {v : V} {d : D} (E : EnvR K H μ σ env) (r : Rep K H μ v d) (i : Nat) : EnvR K H μ (σ.set i (some v)) (env.set i (some d)) := by
  refine ⟨by rw [List.length_set, List.length_set]; exact E.1, fun j d' h => ?_⟩
  by_cases hj : i = j
  · subst hj
    have hl : i < env.length := by
      have := (List.getElem?_eq_some_iff.mp h).1
      rwa [List.length_set] at this
    rw [List.getElem?_set_self hl] at h
    cases h
    exact ⟨v, List.getElem?_set_self (by rw [E.1]; exact hl), r⟩
  · rw [List.getElem?_set_ne hj] at h
    obtain ⟨v', h1, h2⟩ := E.2 j d' h
    exact ⟨v', by rw [List.getElem?_set_ne hj]; exact h1, h2⟩
theorem wipe_set {σ : L2.St} {i : Nat} {v : Option V} : ∀ {ws : List Nat}, i ∈ ws → wipe (σ.set i v) ws = wipe σ ws
  | [], h => by cases h
  | w :: ws, h => by
    unfold wipe
    by_cases hw : i ∈ ws
    · rw [wipe_set hw]
    · have e : i = w := by
        rcases List.mem_cons.mp h with h | h
        · exact h
        · exact absurd h hw
      subst e
      have out : ∀ (ws : List Nat), i ∉ ws → wipe (σ.set i v) ws = (wipe σ ws).set i v := by
        intro ws
        induction ws with
        | nil => intro _; rfl
        | cons w ws ih =>
          intro hn
          unfold wipe
          rw [ih fun z => hn (List.mem_cons_of_mem _ z), List.set_comm _ _ (fun z => hn (by rw [z]; exact List.mem_cons_self))]
      rw [out ws hw, List.set_set]
theorem jg_var {x : Str} (i : Nat) (hN : c.N[i]? = some x := by rfl) (hx : c.sc.names.lookup x = some .local ∨ c.sc.names.lookup x = some .cell := by first | exact Or.inl rfl | exact Or.inr rfl)
    (hf : c.fn x = true ∨ c.sc.names.lookup x = some .local := by first | exact .inl rfl | exact .inr rfl) : JG g c [i] (gVar i) (.Name x pos) := fun X ok =>
  PG.imp (pg_name (i := i) (by rw [ok.N]; exact ok.nd) (by rw [ok.N]; exact hN) (by unfold L2.Loc; rw [ok.sc]; exact hx) (by rw [ok.sc]; exact hf.imp (ok.fn x) id)) fun v σ H Q h => by
    obtain ⟨μ, s, env, d, env', s', S, E, r, hv, q⟩ := h
    cases hv
    exact q _ H μ .refl S (E.set r i) fun ws hw => wipe_set (hw i (by simp))
theorem jgs_nil : JGs g c [] gsNil [] := fun X ok => PGs.imp pgs_nil fun v σ H Q h => by
  obtain ⟨μ, s, env, ds, env', s', S, E, r, hv, q⟩ := h
  unfold gsNil at hv
  split at hv
  · cases hv
    cases r
    exact ⟨rfl, q σ H μ .refl S E fun _ _ => rfl⟩
  · cases hv
theorem assign_cons {e : Expr} {es : List Expr} (h : noStar e = true) (env : PySem.Env) : (assignEach (e :: es) env).map (·.2) = assign e env :: (assignEach es env).map (·.2) := by
  cases e <;> first | rfl | (cases h)
theorem assign_len {es : List Expr} (h : es.all noStar = true) (env : PySem.Env) : (assignEach es env).length = es.length ∧ (assignEach es env).findIdx? (·.1) = none := by
  induction es with
  | nil => exact ⟨rfl, rfl⟩
  | cons e es ih =>
    rw [List.all_cons, Bool.and_eq_true] at h
    obtain ⟨h1, h2⟩ := ih h.2
    have e1 : assignEach (e :: es) env = (false, assign e env) :: assignEach es env := by
      have := h.1
      cases e <;> first | rfl | (cases this)
    rw [e1]
    exact ⟨by rw [List.length_cons, List.length_cons, h1], by rw [List.findIdx?_cons, h2]; rfl⟩
theorem jgs_cons {t : Expr} {ts : List Expr} {vs ws : List Nat} {mg : EvG} {mr : List D → Env → Sto → R Env} (h1 : JG g c vs mg t) (h2 : JGs g c ws mr ts) (hs : noStar t = true := by rfl) : JGs g c (vs ++ ws) (gsCons mg mr) (t :: ts) := fun X ok =>
  PGs.imp (pgs_cons (h1 X ok) (h2 X ok) (assign_cons hs _)) fun v σ H Q h => by
    obtain ⟨μ, s, env, ds, env', s', S, E, r, hv, q⟩ := h
    unfold gsCons at hv
    split at hv
    · rename_i d ds
      obtain ⟨env1, s1, hv1, hv2⟩ := bind_ok hv
      cases r with
      | cons r rr =>
      refine ⟨_, _, rfl, μ, s, env, d, env1, s1, S, E, r, hv1, fun σ1 H1 μ1 x1 S1 E1 w1 => ?_⟩
      exact ⟨μ1, s1, env1, ds, env', s', S1, E1, rr.mono S x1, hv2, fun σ2 H2 μ2 x2 S2 E2 w2 => q σ2 H2 μ2 (x1.trans x2) S2 E2 fun us hu => (w2 us fun i hi => hu i (List.mem_append_right _ hi)).trans (w1 us fun i hi => hu i (List.mem_append_left _ hi))⟩
    · cases hv
theorem jg_tup {ts : List Expr} {vs : List Nat} {mr : List D → Env → Sto → R Env} {k n : Nat} (h : JGs g c vs mr ts) (hn : ts.length = n := by rfl) (hst : ts.all noStar = true := by rfl) : JG g c vs (gTup n mr) (.Tuple ts k pos) := fun X ok =>
  PG.imp (pg_tup ok.calm (h X ok) ((assign_len hst _).1.trans hn) (assign_len hst _).2) fun v σ H Q h => by
    rw [ok.K]
    obtain ⟨μ, s, env, d, env', s', S, E, r, hv, q⟩ := h
    unfold gTup at hv
    split at hv
    · split at hv
      · rename_i hl
        cases r with
        | tup tx px =>
        exact ⟨_, _, rfl, tx.t, by rw [px.length]; exact hl, μ, s, env, _, env', s', S, E, px, hv, q⟩
      · cases hv
    · cases hv
/-- o[i] = v of a list -/
theorem jg_sub {o i : Expr} {mo mi : Sem} (ho : JE g c mo o) (hi : JE g c mi i)
    (ha : ∀ env v, assign (.Subscript o i pos) env v = (do
      let ov ← holding [v] (eval o env)
      let iv ← holding [v, ov] (eval i env)
      standAt pos
      holding [v, ov, iv] (setItem ov iv v)
      release [v, ov, iv] []) := by intro _ _; rfl) : JG g c [] (gSub mo mi) (.Subscript o i pos) := fun X ok =>
  PG.imp (pg_sub (ho X ok).1 (hi X ok).1 set_list (ha _)) fun v σ H Q h => by
    obtain ⟨μ, s, env, d, env', s', S, E, r, hv, q⟩ := h
    obtain ⟨d1, s1, h1, hv⟩ := bind_ok hv
    obtain ⟨d2, s2, h2, hv⟩ := bind_ok hv
    obtain ⟨_, s3, h3, hv⟩ := bind_ok hv
    cases hv
    refine ⟨μ, s, env, d1, s1, S, E, h1, fun v1 H1 μ1 x1 S1 r1 => ?_⟩
    refine ⟨μ1, s1, env, d2, s2, S1, E.mono S x1, h2, fun v2 H2 μ2 x2 S2 r2 => ?_⟩
    have x12 := x1.trans x2
    have r1' := r1.mono S1 x2
    have rv := r.mono S x12
    have E2 := E.mono S x12
    unfold setD at h3
    split at h3
    · split at h3
      · rename_i ex
        split at h3
        · rename_i j hj
          cases h3
          cases r2
          cases r1' with
          | ref rx =>
          obtain ⟨hm, vx, hx, px⟩ := Rep.lst_at S2 (.ref rx) ex
          obtain ⟨x3, S3⟩ := rep_set (o := .lst []) S2 hm ⟨_, hx⟩ (px.set rv j)
          exact ⟨_, vx, _, j, rfl, rfl, hx, by rw [px.length]; exact hj, q σ _ μ2 (x12.trans x3) S3 (E2.mono S2 x3) fun _ _ => rfl⟩
        · cases h3
      · cases h3
    · cases h3
end
end Cs

/-! ## CsSim6 -/
namespace Cs
open PySem PySem.Spec PyProof.Rows L2
section
variable {K : PySem.W.Frag} {μ μ' : List Addr} {H H' : Hp} {s s' : Sto} {g : Gb} {c : Cc} {X : Cx} {m ma mb mc : Sem} {e a b d : Expr} {pos : Pos}
/-! ### what is walked -/
def wkAt (w : Wk) (s : Sto) (j : Nat) : Option (Option D) := match w with
  | .its xs => some xs[j]?
  | .live i => match s.get i with
    | some (.lst xs) => some xs[j]?
    | _ => none
  | .rd r => r s j
/-- later, as far as values are concerned -/
structure ExtL (μ : List Addr) (H : Hp) (μ' : List Addr) (H' : Hp) : Prop where
  pre : ∀ (i : Nat) (a : Addr), μ[i]? = some a → μ'[i]? = some a
  kt : ∀ a xs, H a = some (.tup xs) → H' a = some (.tup xs)
  kf : ∀ a o u, H a = some (.frz o u) → sqO u = true → H' a = some (.frz o u)
  fz : ∀ a o vs, H a = some (.frz o (.dT vs)) → H' a = some (.frz o (.dT vs))
theorem Ext.toL {K : PySem.W.Frag} {μ μ' : List Addr} {H H' : Hp} {s : Sto} (e : Ext μ H μ' H') (S : Sim K μ H s) : ExtL μ H μ' H' :=
  ⟨e.pre, fun a xs h => e.keep a _ h (S.nomem fun ys z => by rw [h] at z; cases ys <;> cases z), fun a o u h hq => e.keep a _ h (S.nosq h hq), e.fz⟩
def WkOk (K : PySem.W.Frag) (J : It) (w : Wk) (μ : List Addr) (H : Hp) : Prop := ∀ μ' H' s', ExtL μ H μ' H' → Sim K μ' H' s' → ∀ j,
  (∀ d, wkAt w s' j = some (some d) → J.go j H' ∧ ∀ x H'', J.yld j H' x H'' → Same H' H'' ∧ Rep K H'' μ' x d) ∧ (wkAt w s' j = some none → J.stop j H')
def RdI (K : PySem.W.Frag) (m : EvI) : TI := fun σ H R => ∃ μ s env w s', Sim K μ H s ∧ EnvR K H μ σ env ∧ m env s = .ok w s' ∧
  ∀ J H' μ', Ext μ H μ' H' → Sim K μ' H' s' → WkOk K J w μ' H' → R J H'
def JI (g : Gb) (c : Cc) (m : EvI) (e : Expr) : Prop := ∀ X : Cx, c.Ok g X → ∀ tg, PI X tg e (RdI g.K m)
/-- for one target -/
def JIt (g : Gb) (c : Cc) (tg : Expr) (m : EvI) (e : Expr) : Prop := ∀ X : Cx, c.Ok g X → PI X tg e (RdI g.K m)
theorem JI.t {g : Gb} {c : Cc} {tg : Expr} {m : EvI} {e : Expr} (h : JI g c m e) : JIt g c tg m e := fun X ok => h X ok tg
theorem PI.imp {X : Cx} {tg e : Expr} {t t' : TI} (h : PI X tg e t) (f : ∀ σ H R, t' σ H R → t σ H R) : PI X tg e t' := ⟨fun pins s σ H R I q => h.run pins s σ H R I (f σ H R q)⟩
/-- a list or a tuple -/
theorem pi_seqA {tg l : Expr} {tl : TE} (hl : PE X l tl) : PI X tg l (fun σ H R => tl σ H fun x H1 => ∃ a, x = .ref a ∧ (((∃ xs, SqL X.K H1 a xs) ∧ R (Itl X.K a) H1) ∨ ((∃ xs, SqT X.K H1 a xs) ∧ R (Itt X.K a) H1))) := by
  refine ⟨fun pins s σ H R I h => ?_⟩
  refine thn (hl.run pins s σ H _ I h) fun v s1 ⟨x, H1, I1, r1, q1⟩ => ?_
  obtain ⟨a, e, q1⟩ := q1
  subst e
  cases r1
  rcases q1 with ⟨⟨xs, hq⟩, q⟩ | ⟨⟨xs, hq⟩, q⟩
  · obtain ⟨its, rv, p, hz⟩ := I1.list hq
    refine wpAny_pyIter_list p.isList ?_
    refine ⟨s1.heap.objs.size, [s1.heap.objs.size], _, _, H1, rfl, I1.kept (t' := s1.toks) fun b o e => Heap.get?_push_of_some _ e, turn_list a _, ⟨_, Heap.get?_push_size _ rfl, rfl, rfl⟩, fun b hb => ?_, q⟩
    have e : b = s1.heap.objs.size := by simpa using hb
    subst e
    exact I1.fpOk (Nat.le_refl _) (I1.hok.fresh (Nat.le_refl _))
  · obtain ⟨its, rv, p, hz⟩ := I1.tuple hq
    refine wpAny_pyIter_tuple (show s1.heap.IsTuple a its.toArray from p) ?_
    refine ⟨s1.heap.objs.size, [s1.heap.objs.size], _, _, H1, rfl, I1.kept (t' := s1.toks) fun b o e => Heap.get?_push_of_some _ e, turn_tuple a _, ⟨_, Heap.get?_push_size _ rfl, rfl, rfl⟩, fun b hb => ?_, q⟩
    have e : b = s1.heap.objs.size := by simpa using hb
    subst e
    exact I1.fpOk (Nat.le_refl _) (I1.hok.fresh (Nat.le_refl _))
theorem wk_tup {a : Addr} {xs : List V} {ds : List D} (S : Sim K μ H s) (tx : SqH K H a xs) (r : Reps K H μ xs ds) : WkOk K (Itt K a) (.its ds) μ H := fun μ' H' s' ex S' j => by
  have rep := Rep.keep ex.kt ex.kf ex.pre _ _ (.tup tx r)
  cases rep with
  | @tup _ ys _ ty ry =>
  refine ⟨fun d hd => ?_, fun hd => ?_⟩
  · have hd : ds[j]? = some d := Option.some.inj hd
    obtain ⟨v, hv, rv⟩ := ry.get hd
    refine ⟨⟨ys, v, ty.t, hv⟩, fun x H'' hy => ?_⟩
    obtain ⟨rfl, hy⟩ := hy
    have e : v = x := Option.some.inj (hv.symm.trans (hy ys ty.t))
    subst e
    exact ⟨.refl _, rv⟩
  · have hd : ds[j]? = none := Option.some.inj hd
    exact ⟨ys, ty.t, by rw [ry.length]; exact List.getElem?_eq_none_iff.mp hd⟩
theorem wk_fix {a : Addr} {xs : List V} {ds : List D} (S : Sim K μ H s) (tx : SqF K H a xs) (r : Reps K H μ xs ds) : WkOk K (Itl K a) (.its ds) μ H := fun μ' H' s' ex S' j => by
  have rep := Rep.keep ex.kt ex.kf ex.pre _ _ (.fix tx r)
  cases rep with
  | @fix _ ys _ ty ry =>
  refine ⟨fun d hd => ?_, fun hd => ?_⟩
  · have hd : ds[j]? = some d := Option.some.inj hd
    obtain ⟨v, hv, rv⟩ := ry.get hd
    refine ⟨⟨ys, v, ty.sq, hv⟩, fun x H'' hy => ?_⟩
    obtain ⟨rfl, hy⟩ := hy
    have e : v = x := Option.some.inj (hv.symm.trans (hy ys ty.sq))
    subst e
    exact ⟨.refl _, rv⟩
  · have hd : ds[j]? = none := Option.some.inj hd
    exact ⟨ys, ty.sq, by rw [ry.length]; exact List.getElem?_eq_none_iff.mp hd⟩
theorem wk_live {a : Addr} {i : Nat} (hm : μ[i]? = some a) : WkOk K (Itl K a) (.live i) μ H := fun μ' H' s' ex S' j => by
  have hm' := ex.pre i a hm
  obtain ⟨o, e, ro⟩ := S'.ob i a hm'
  cases o with
  | dct kvs =>
    have ew : wkAt (.live i) s' j = none := by unfold wkAt; dsimp only; rw [e]
    rw [ew]
    exact ⟨fun d hd => (nomatch hd), fun hd => (nomatch hd)⟩
  | lst ds =>
  obtain ⟨ys, ey, ry⟩ := ro
  refine ⟨fun d hd => ?_, fun hd => ?_⟩
  · have hd : ds[j]? = some d := by
      unfold wkAt at hd
      dsimp only at hd
      rw [e] at hd
      exact Option.some.inj hd
    obtain ⟨v, hv, rv⟩ := ry.get hd
    refine ⟨⟨ys, v, .of ey, hv⟩, fun x H'' hy => ?_⟩
    obtain ⟨rfl, hy⟩ := hy
    have e : v = x := Option.some.inj (hv.symm.trans (hy ys (.of ey)))
    subst e
    exact ⟨.refl _, rv⟩
  · have hd : ds[j]? = none := by
      unfold wkAt at hd
      dsimp only at hd
      rw [e] at hd
      exact Option.some.inj hd
    exact ⟨ys, .of ey, by rw [ry.length]; exact List.getElem?_eq_none_iff.mp hd⟩
theorem ji_seq (he : JE g c m e) : JI g c (iSeq m) e := fun X ok tg => PI.imp (pi_seqA (he X ok).1) fun σ H R h => by
  rw [ok.K]
  obtain ⟨μ, s, env, w, s', S, E, hv, q⟩ := h
  obtain ⟨d1, s1, h1, hv⟩ := bind_ok hv
  refine ⟨μ, s, env, d1, s1, S, E, h1, fun v1 H1 μ1 x1 S1 r1 => ?_⟩
  split at hv
  · cases hv
    cases r1 with
    | tup tx px => exact ⟨_, rfl, .inr ⟨⟨_, tx.t⟩, q _ H1 μ1 x1 S1 (wk_tup S1 tx px)⟩⟩
  · cases hv
    cases r1 with
    | fix tx px => exact ⟨_, rfl, .inl ⟨⟨_, tx.sq⟩, q _ H1 μ1 x1 S1 (wk_fix S1 tx px)⟩⟩
  · split at hv
    · rename_i ex
      cases hv
      cases r1 with
      | ref rx =>
      obtain ⟨hm, vx, hx, px⟩ := Rep.lst_at S1 (.ref rx) ex
      exact ⟨_, rfl, .inl ⟨⟨_, .of hx⟩, q _ H1 μ1 x1 S1 (wk_live hm)⟩⟩
    · cases hv
  · cases hv
theorem rgD_get {lo : Int} {n j : Nat} : (rgD lo n)[j]? = if j < n then some (.int (lo + (j : Nat))) else none := by
  unfold rgD
  rw [List.getElem?_map]
  by_cases h : j < n
  · rw [if_pos h, List.getElem?_range h]; rfl
  · rw [if_neg h, List.getElem?_eq_none (by simpa using h)]; rfl
theorem wk_rg {lo : Int} {n : Nat} : WkOk K (Itr lo n) (.its (rgD lo n)) μ H := fun μ' H' s' ex S' j => by
  refine ⟨fun d hd => ?_, fun hd => ?_⟩
  · have hd : (rgD lo n)[j]? = some d := Option.some.inj hd
    rw [rgD_get] at hd
    split at hd
    · rename_i hj
      cases hd
      refine ⟨hj, fun x H'' hy => ?_⟩
      obtain ⟨rfl, rfl⟩ := hy
      exact ⟨.refl _, .int _⟩
    · cases hd
  · have hd : (rgD lo n)[j]? = none := Option.some.inj hd
    rw [rgD_get] at hd
    split at hd
    · cases hd
    · rename_i hj
      exact Nat.le_of_not_lt hj
theorem bigI_ok {i : Int} (h : bigI i = true) : -(2 ^ 62) ≤ i ∧ i < 2 ^ 62 := by
  have := Nat.blt_eq.mp h
  omega
theorem ji_rg1 {p : Pos} {ra : EvA} (hs : c.sc.names.lookup ("range" : Str) = some .globalImplicit) (hm : g.mg ("range" : Str) = none) (ha : JA g c ra [a]) (hst : noStar a = true := by rfl) : JI g c (iRg1 ra) (.Call (.Name "range" p) [a] [] pos) := fun X ok tg =>
  PI.imp (pi_range1 (by show X.env.scope.names.lookup _ = _; rw [ok.sc]; exact hs) (by rw [ok.mg]; exact hm) (ha X ok) (star_cons hst _)) fun σ H R h => by
    obtain ⟨μ, s, env, w, s', S, E, hv, q⟩ := h
    obtain ⟨ds, s1, h1, hv⟩ := bind_ok hv
    refine ⟨μ, s, env, ds, s1, S, E, h1, fun vs H1 μ1 x1 S1 r1 => ?_⟩
    split at hv
    · split at hv
      · rename_i hb
        cases hv
        cases r1 with
        | cons r r2 =>
        cases r2; cases r
        exact ⟨_, rfl, (bigI_ok hb).1, (bigI_ok hb).2, q _ H1 μ1 x1 S1 wk_rg⟩
      · cases hv
    · cases hv
theorem ji_rg2 {p : Pos} {ra : EvA} (hs : c.sc.names.lookup ("range" : Str) = some .globalImplicit) (hm : g.mg ("range" : Str) = none) (ha : JA g c ra [a, b]) (hst : noStar a = true := by rfl) (hst2 : noStar b = true := by rfl) : JI g c (iRg2 ra) (.Call (.Name "range" p) [a, b] [] pos) := fun X ok tg =>
  PI.imp (pi_range2 (by show X.env.scope.names.lookup _ = _; rw [ok.sc]; exact hs) (by rw [ok.mg]; exact hm) (ha X ok) (by rw [star_cons hst, star_cons hst2]; rfl) (star_cons hst2 _)) fun σ H R h => by
    obtain ⟨μ, s, env, w, s', S, E, hv, q⟩ := h
    obtain ⟨ds, s1, h1, hv⟩ := bind_ok hv
    refine ⟨μ, s, env, ds, s1, S, E, h1, fun vs H1 μ1 x1 S1 r1 => ?_⟩
    split at hv
    · split at hv
      · rename_i hb
        cases hv
        cases r1 with
        | cons r r2 =>
        cases r2 with
        | cons r2 r3 =>
        cases r3; cases r; cases r2
        exact ⟨_, _, rfl, ⟨(bigI_ok hb.1).1, (bigI_ok hb.1).2, (bigI_ok hb.2).1, (bigI_ok hb.2).2⟩, q _ H1 μ1 x1 S1 wk_rg⟩
      · cases hv
    · cases hv
/-! ### list comprehensions -/
/-- a list that stands beside the store -/
theorem Sim.beside {p : Addr} {xs ys : List V} (S : Sim K μ H s) (hp : H p = some (.lst xs)) (np : p ∉ μ) : Sim K μ (upd H p (.lst ys)) s ∧ ∀ v d, Rep K H μ v d → Rep K (upd H p (.lst ys)) μ v d := by
  have k1 : ∀ a xs', H a = some (.tup xs') → (upd H p (.lst ys)) a = some (.tup xs') := fun a xs' h => by
    rw [upd_ne (fun e => by rw [e, hp] at h; cases h)]; exact h
  have k2 : ∀ a o u, H a = some (.frz o u) → sqO u = true → (upd H p (.lst ys)) a = some (.frz o u) := fun a o u h _ => by
    rw [upd_ne (fun e => by rw [e, hp] at h; cases h)]; exact h
  refine ⟨⟨S.nx, S.nd, fun i a h => ?_, S.up⟩, fun v d r => Rep.keep k1 k2 (fun _ _ h => h) d v r⟩
  obtain ⟨o, e, q⟩ := S.ob i a h
  refine ⟨o, e, ?_⟩
  cases o with
  | lst ds =>
    obtain ⟨zs, e1, r1⟩ := q
    exact ⟨zs, by rw [upd_ne (fun e => np (by rw [← e]; exact List.mem_of_getElem? h))]; exact e1, Reps.keep k1 k2 (fun _ _ h => h) ds zs r1⟩
  | dct kvs => exact q.move (fun o h' => by rw [upd_ne (fun e => np (by rw [← e]; exact List.mem_of_getElem? h))]; exact h') fun d v r => Rep.keep k1 k2 (fun _ _ h => h) d v r
/-- it is taken into the store -/
theorem Sim.adopt {p : Addr} {xs : List V} {ds : List D} (S : Sim K μ H s) (hp : H p = some (.lst xs)) (np : p ∉ μ) (r : Reps K H μ xs ds) :
    Sim K (μ ++ [p]) H (s.add (.lst ds)) ∧ Rep K H (μ ++ [p]) (.ref p) (.ref s.n) ∧ ∀ (i : Nat) (a : Addr), μ[i]? = some a → (μ ++ [p])[i]? = some a := by
  have pre : ∀ (i : Nat) (a : Addr), μ[i]? = some a → (μ ++ [p])[i]? = some a := fun i a h => by
    rw [List.getElem?_append_left]
    · exact h
    · exact (List.getElem?_eq_some_iff.mp h).1
  have km : ∀ {v : List V} {d : List D}, Reps K H μ v d → Reps K H (μ ++ [p]) v d := fun {v d} r => Reps.keep (fun _ _ h => h) (fun _ _ _ h _ => h) pre d v r
  refine ⟨⟨?_, ?_, fun i a h => ?_, fun i hi => ?_⟩, .ref ?_, pre⟩
  · rw [List.length_append, S.nx]; rfl
  · rw [List.nodup_append]
    exact ⟨S.nd, by simp, fun a ha b hb e => np (by rw [List.mem_singleton.mp hb] at e; rw [← e]; exact ha)⟩
  · rw [Sto.get_add]
    by_cases hi : i = s.n
    · rw [if_pos hi]
      rw [hi, ← S.nx, List.getElem?_append_right (Nat.le_refl _), Nat.sub_self] at h
      have e : p = a := by simpa using h
      subst e
      exact ⟨_, rfl, xs, hp, km r⟩
    · rw [if_neg hi]
      have hl : i < μ.length := by
        have := (List.getElem?_eq_some_iff.mp h).1
        rw [List.length_append, S.nx] at this
        have e1 : ([p] : List Addr).length = 1 := rfl
        rw [S.nx]; omega
      rw [List.getElem?_append_left hl] at h
      obtain ⟨o, e, q⟩ := S.ob i a h
      refine ⟨o, e, ?_⟩
      cases o with
      | lst ds => obtain ⟨ys, e1, r1⟩ := q; exact ⟨ys, e1, km r1⟩
      | dct kvs => exact q.move (fun _ h => h) fun d v r => Rep.keep (fun _ _ h => h) (fun _ _ _ h _ => h) pre d v r
  · rw [Sto.get_add, if_neg (by rw [Sto.n_add] at hi; omega)]
    exact S.up i (by rw [Sto.n_add] at hi; omega)
  · rw [← S.nx, List.getElem?_append_right (Nat.le_refl _), Nat.sub_self]; rfl
/-- a clause's test -/
def JT (g : Gb) (c : Cc) (o : Option Sem) (ifs : List Expr) : Prop := match o with
  | none => ifs = []
  | some m => ∃ e, ifs = [e] ∧ JE g c m e
theorem jt_no : JT g c none [] := rfl
theorem jt_one (h : JE g c m e) : JT g c (some m) [e] := ⟨e, rfl, h⟩
def RdC (K : PySem.W.Frag) (o : Option Sem) : TT := match o with
  | none => tYes
  | some m => RdT K m.t
theorem jt_pts {o : Option Sem} {ifs : List Expr} (h : JT g c o ifs) (ok : c.Ok g X) : PTs X ifs (RdC g.K o) := by
  cases o with
  | none => cases h; exact pts_nil
  | some m =>
    obtain ⟨e, rfl, h⟩ := h
    exact pts_one (h X ok).2
theorem wipe_env {σ : L2.St} {env : Env} (E : EnvR K H μ σ env) : ∀ vs : List Nat, EnvR K H μ (wipe σ vs) (wipeE env vs)
  | [] => E
  | v :: vs => by
    have ih := wipe_env E vs
    unfold wipe wipeE
    refine ⟨by rw [List.length_set, List.length_set]; exact ih.1, fun j d h => ?_⟩
    by_cases hj : v = j
    · subst hj
      have hl : v < (wipeE env vs).length := by
        have := (List.getElem?_eq_some_iff.mp h).1
        rwa [List.length_set] at this
      rw [List.getElem?_set_self hl] at h
      cases h
    · rw [List.getElem?_set_ne hj] at h
      obtain ⟨v', h1, h2⟩ := ih.2 j d h
      exact ⟨v', by rw [List.getElem?_set_ne hj]; exact h1, h2⟩
/-- the turns that are left -/
def goFrom (f : Turn) (w : Wk) (k j : Nat) (s : Sto) : R (List D) := match w with
  | .its xs => goIts f (xs.drop j) s
  | .live i => goLive f i k j s
  | .rd r => goRd f r k j s
theorem goFrom_step {f : Turn} {w : Wk} {k j : Nat} {s s' : Sto} {ys : List D} (h : goFrom f w k j s = .ok ys s') :
    (wkAt w s j = some none ∧ ys = [] ∧ s' = s) ∨ ∃ x o s1 zs k', wkAt w s j = some (some x) ∧ f x s = .ok o s1 ∧ goFrom f w k' (j + 1) s1 = .ok zs s' ∧ ys = conO o zs ∧ (match w with | .its xs => xs.length - (j + 1) < xs.length - j | .live _ => k' < k | .rd _ => k' < k) := by
  cases w with
  | its xs =>
    have h : goIts f (xs.drop j) s = .ok ys s' := h
    by_cases hj : j < xs.length
    · rw [List.drop_eq_getElem_cons hj] at h
      obtain ⟨o, s1, h1, h2⟩ := bind_ok h
      obtain ⟨zs, s2, h3, h4⟩ := bind_ok h2
      cases h4
      exact .inr ⟨xs[j], o, s1, zs, k, by show some xs[j]? = _; rw [List.getElem?_eq_getElem hj], h1, h3, rfl, by show xs.length - (j + 1) < xs.length - j; omega⟩
    · rw [List.drop_eq_nil_of_le (by omega)] at h
      cases h
      exact .inl ⟨by show some xs[j]? = _; rw [List.getElem?_eq_none (by omega)], rfl, rfl⟩
  | live i =>
    have h : goLive f i k j s = .ok ys s' := h
    cases k with
    | zero => cases h
    | succ k =>
      unfold goLive at h
      split at h
      · rename_i xs ex
        split at h
        · rename_i x hx
          obtain ⟨o, s1, h1, h2⟩ := bind_ok h
          obtain ⟨zs, s2, h3, h4⟩ := bind_ok h2
          cases h4
          exact .inr ⟨x, o, s1, zs, k, by unfold wkAt; dsimp only; rw [ex]; show some xs[j]? = _; rw [hx], h1, h3, rfl, Nat.lt_succ_self _⟩
        · rename_i hx
          cases h
          exact .inl ⟨by unfold wkAt; dsimp only; rw [ex]; show some xs[j]? = _; rw [hx], rfl, rfl⟩
      · cases h
  | rd r =>
    have h : goRd f r k j s = .ok ys s' := h
    cases k with
    | zero => cases h
    | succ k =>
      unfold goRd at h
      split at h
      · rename_i x hx
        obtain ⟨o, s1, h1, h2⟩ := bind_ok h
        obtain ⟨zs, s2, h3, h4⟩ := bind_ok h2
        cases h4
        exact .inr ⟨x, o, s1, zs, k, hx, h1, h3, rfl, Nat.lt_succ_self _⟩
      · rename_i hx
        cases h
        exact .inl ⟨hx, rfl, rfl⟩
      · cases h
def wkMes (w : Wk) (k j : Nat) : Nat := match w with
  | .its xs => xs.length - j
  | .live _ => k
  | .rd _ => k
/-- the inner context of a comprehension -/
def Cc.blk (c : Cc) (scope : Scope) : Cc := ⟨c.N, relS scope c.sc, fun x => scope.names.lookup x == some .cell, c.lv⟩
theorem blk_ok {scope : Scope} (ok : c.Ok g X) (s : Shared) (H : Hp) (C : Addr) (cl : List (Str × Addr)) (fp : List Addr) : (c.blk scope).Ok g (X.blk s H scope (compEnvC scope cl C X.env) fp) where
  prog := ok.prog
  w := ok.w
  K := ok.K
  mg := ok.mg
  base := ok.base
  N := ok.N
  sc := by
    show relS scope X.env.scope = relS scope c.sc
    rw [ok.sc]
  nd := ok.nd
  fn := fun _ h => h
  calm := ok.calm
  xe := rfl
  room := ok.room
def noSet : Expr → Bool
  | .Set _ _ _ => false
  | _ => true
theorem noSet_ok {e : Expr} (h : noSet e = true) (env : PySem.Env) (x : Value) : foldedSetIterable e env x = pure x := by
  cases e <;> first | rfl | (cases h)
theorem rd_comp {own vs : List Nat} {mg : EvG} {it : EvI} {o : Option Sem} {σ : L2.St} {H : Hp} {Q : VK} (hvs : ∀ i ∈ vs, i ∈ own)
    (h : RdE K (fun env s => (it env s).bind fun w s => (goWk (turnC mg o m (wipeE env own)) w s).bind newL) σ H Q) : tLc (RdI K it) (RdG K vs mg) (RdC K o) (RdE K m.v) own σ H Q := by
  obtain ⟨μ, s, env, d, s', S, E, hv, q⟩ := h
  obtain ⟨w, s1, h1, hv⟩ := bind_ok hv
  obtain ⟨ys, s2, h2, hv⟩ := bind_ok hv
  refine ⟨μ, s, env, w, s1, S, E, h1, fun J H1 μ1 x1 S1 wk D hD => ?_⟩
  have h2 : goFrom (turnC mg o m (wipeE env own)) w 1000000 0 s1 = .ok ys s2 := by
    cases w <;> exact h2
  have hz : ys.length ≤ sizeLine := by
    unfold newL at hv
    split at hv
    · assumption
    · cases hv
  have nD : ∀ {μ' : List Addr} {H' : Hp}, Ext μ1 H1 μ' H' → D ∉ μ1 := fun _ => S1.nomem fun zs z => by rw [hD] at z; cases zs <;> cases z
  refine ⟨fun i mm H => ∃ μ' s' acc vacc k rest, Ext μ1 H1 μ' H ∧ Sim K μ' H s' ∧ D ∉ μ' ∧ H D = some (.lst vacc) ∧ Reps K H μ' vacc acc ∧ goFrom (turnC mg o m (wipeE env own)) w k i s' = .ok rest s2 ∧ acc ++ rest = ys ∧ mm = wkMes w k i, ⟨wkMes w 1000000 0, ?_⟩, ?_⟩
  · have sm : Same H1 (upd H1 D (.lst [])) := fun b x e => by
      rw [upd_ne (ne_of_none e hD)]; exact e
    exact ⟨μ1, s1, [], [], 1000000, ys, .same sm, S1.same sm, nD .refl, upd_same, .nil, h2, rfl, rfl⟩
  · rintro i mm H2 ⟨μ2, s3, acc, vacc, k, rest, x2, S2, nD2, hD2, ra, hg, hy, rfl⟩
    rcases goFrom_step hg with ⟨ha, rfl, rfl⟩ | ⟨x, oo, s4, zs, k', ha, hf, hg2, rfl, hk⟩
    · refine .inl ⟨(wk μ2 H2 s2 (x2.toL S1) S2 i).2 ha, ?_⟩
      rw [List.append_nil] at hy
      subst hy
      obtain ⟨S3, r3, pre⟩ := S2.adopt hD2 nD2 ra
      unfold newL at hv
      rw [if_pos hz] at hv
      cases hv
      refine q _ H2 (μ2 ++ [D]) (x1.trans ⟨fun i a h => pre i a (x2.pre i a h), x2.keep, fun a ha hn => ?_, x2.fz⟩) S3 r3
      rcases List.mem_append.mp ha with ha | ha
      · exact x2.fresh a ha hn
      · rw [List.mem_singleton.mp ha]; exact hD
    · obtain ⟨go, yld⟩ := (wk μ2 H2 s3 (x2.toL S1) S2 i).1 x ha
      refine .inr ⟨go, fun H' => ∃ m', m' < wkMes w k i ∧ ∃ μ' s' acc vacc k rest, Ext μ1 H1 μ' H' ∧ Sim K μ' H' s' ∧ D ∉ μ' ∧ H' D = some (.lst vacc) ∧ Reps K H' μ' vacc acc ∧ goFrom (turnC mg o m (wipeE env own)) w k (i + 1) s' = .ok rest s2 ∧ acc ++ rest = ys ∧ m' = wkMes w k (i + 1), fun H' h => h, fun v H3 hyl => ?_⟩
      obtain ⟨sm, rv⟩ := yld v H3 hyl
      have hlt : wkMes w k' (i + 1) < wkMes w k i := by
        cases w <;> exact hk
      have S3 := S2.same sm
      have x3 := x2.trans (.same sm)
      have E3 : EnvR K H3 μ2 σ env := ((E.mono S x1).mono S1 x3)
      -- what is later than H3 keeps D
      have keepD : ∀ {μ' : List Addr} {H' : Hp}, Ext μ2 H3 μ' H' → D ∉ μ' ∧ H' D = some (.lst vacc) := fun ex => by
        have h3 := sm D _ hD2
        exact ⟨fun z => (by have := ex.fresh D z nD2; rw [h3] at this; cases this), ex.keep D _ h3 nD2⟩
      unfold turnC at hf
      obtain ⟨env4, s5, hg4, hf⟩ := bind_ok hf
      refine ⟨μ2, s3, wipeE env own, x, env4, s5, S3, wipe_env E3 own, rv, hg4, fun σ4 H4 μ4 x4 S4 E4 hw4 => ⟨?_, ?_⟩⟩
      · have e := hw4 own hvs
        rw [e]
        have idem : ∀ (τ : L2.St), wipe (wipe τ own) own = wipe τ own := by
          intro τ
          have out : ∀ (us ws : List Nat), (∀ i ∈ us, i ∈ ws) → wipe (wipe τ us) ws = wipe τ ws := by
            intro us
            induction us with
            | nil => intro ws _; rfl
            | cons u us ih =>
              intro ws hu
              show wipe ((wipe τ us).set u none) ws = _
              rw [wipe_set (hu u List.mem_cons_self)]
              exact ih ws fun i hi => hu i (List.mem_cons_of_mem _ hi)
          exact out own own fun _ h => h
        exact idem σ
      · -- the test, then the element
        have fin1 : ∀ {H5 : Hp} {μ5 : List Addr} {s6 : Sto}, Ext μ2 H3 μ5 H5 → Sim K μ5 H5 s6 → EnvR K H5 μ5 σ4 env4 → ((m.v env4 s6).bind fun y s => .ok (some y) s) = .ok oo s4 →
            RdE K m.v σ4 H5 fun y H6 => ∃ acc, H6 D = some (.lst acc) ∧ acc.length < sizeLine ∧ ∃ m', m' < wkMes w k i ∧ ∃ μ' s' acc' vacc k rest, Ext μ1 H1 μ' (upd H6 D (.lst (acc ++ [y]))) ∧ Sim K μ' (upd H6 D (.lst (acc ++ [y]))) s' ∧ D ∉ μ' ∧ (upd H6 D (.lst (acc ++ [y]))) D = some (.lst vacc) ∧ Reps K (upd H6 D (.lst (acc ++ [y]))) μ' vacc acc' ∧ goFrom (turnC mg o m (wipeE env own)) w k (i + 1) s' = .ok rest s2 ∧ acc' ++ rest = ys ∧ m' = wkMes w k (i + 1) := by
          intro H5 μ5 s6 x5 S5 E5 hm
          obtain ⟨y, s7, hm1, hm2⟩ := bind_ok hm
          cases hm2
          refine ⟨μ5, s6, env4, y, s4, S5, E5, hm1, fun vy H6 μ6 x6 S6 r6 => ?_⟩
          have x26 := x5.trans x6
          obtain ⟨nD6, hD6⟩ := keepD x26
          have ra6 : Reps K H6 μ6 vacc acc := (ra.mono S2 (.same sm)).mono S3 x26
          obtain ⟨S7, keepR⟩ := S6.beside (ys := vacc ++ [vy]) hD6 nD6
          refine ⟨vacc, hD6, ?_, wkMes w k' (i + 1), hlt, μ6, s4, acc ++ [y], vacc ++ [vy], k', zs, ?_, S7, nD6, upd_same, ?_, hg2, ?_, rfl⟩
          · have : (acc ++ conO (some y) zs).length ≤ sizeLine := by rw [hy]; exact hz
            rw [List.length_append] at this
            have e2 : (conO (some y) zs).length = zs.length + 1 := rfl
            rw [ra.length]; omega
          · have x16 := x3.trans x26
            exact ⟨x16.pre, fun a o' ha hn => by rw [upd_ne (ne_of_none ha hD)]; exact x16.keep a o' ha hn, x16.fresh, fun a o' vs' ha => by rw [upd_ne (ne_of_none ha hD)]; exact x16.fz a o' vs' ha⟩
          · have : ∀ {ds : List Cs.D} {vs : List V}, Reps K H6 μ6 vs ds → Reps K (upd H6 D (.lst (vacc ++ [vy]))) μ6 vs ds := by
              intro ds
              induction ds with
              | nil => intro vs h; cases h; exact .nil
              | cons d ds ih =>
                intro vs h
                cases h with
                | cons r q => exact .cons (keepR _ _ r) (ih q)
            exact this (ra6.append (.cons r6 .nil))
          · rw [← hy, List.append_assoc]; rfl
        cases o with
        | none => exact fin1 x4 S4 E4 hf
        | some mt =>
          obtain ⟨b, s6, hb1, hb2⟩ := bind_ok hf
          refine ⟨μ4, s5, env4, b, s6, S4, E4, hb1, fun H5 μ5 x5 S5 => ?_⟩
          cases b with
          | true => exact iteT (fin1 (x4.trans x5) S5 (E4.mono S4 x5) hb2)
          | false =>
            cases hb2
            have x25 := x4.trans x5
            obtain ⟨nD5, hD5⟩ := keepD x25
            refine iteF ⟨wkMes w k' (i + 1), hlt, μ5, s4, acc, vacc, k', zs, x3.trans x25, S5, nD5, hD5, (ra.mono S2 (.same sm)).mono S3 x25, hg2, ?_, rfl⟩
            rw [← hy]; rfl
theorem je_comp {elt tg iter : Expr} {ifs : List Expr} {scope : Scope} {vs : List Nat} {mg : EvG} {it : EvI} {o : Option Sem} (own : List (Str × Nat)) (hb : blkC c.N c.sc scope own = true) (hi : JIt g c tg it iter) (hg : JG g (c.blk scope) vs mg tg) (hvs : ∀ i ∈ vs, i ∈ own.map (·.2))
    (ht : JT g (c.blk scope) o ifs) (he : JE g (c.blk scope) m elt) (hs : noSet iter = true := by rfl) : JE g c (xComp (own.map (·.2)) mg it o m) (.ListComp elt [⟨tg, iter, ifs, 0⟩] scope pos) :=
  je_mk (fun X ok => PE.imp (pe_lc (own := own) ok.calm (by rw [ok.N]; exact ok.nd) (hi X ok) (blkOk_by (by rw [ok.N, ok.sc]; exact hb)) (fun s H C cl fp => hg _ (blk_ok ok s H C cl fp)) (fun s H C cl fp => jt_pts ht (blk_ok ok s H C cl fp)) (fun s H C cl fp => (he _ (blk_ok ok s H C cl fp)).1) (noSet_ok hs _))
    fun σ H Q h => rd_comp hvs h) (by intro _ _; rfl)
end
end Cs

/-! ## CsSim7 -/
namespace Cs
open PySem PySem.Spec PyProof.Rows L2
section
variable {K : PySem.W.Frag} {μ μ' : List Addr} {H H' : Hp} {s s' : Sto} {g : Gb} {c : Cc} {X : Cx} {m ma mb mc : Sem} {e a b d : Expr} {pos : Pos}
/-! ### statements -/
def RsOk (K : PySem.W.Frag) (μ : List Addr) (H : Hp) (r : RS) (En : Ends) : Prop := match r with
  | .nx env s => ∀ σ H' μ', Ext μ H μ' H' → Sim K μ' H' s → EnvR K H' μ' σ env → En.nx σ H'
  | .rt d s => ∀ v H' μ', Ext μ H μ' H' → Sim K μ' H' s → Rep K H' μ' v d → En.rt v H'
  | .bk env s => ∀ σ H' μ', Ext μ H μ' H' → Sim K μ' H' s → EnvR K H' μ' σ env → En.bk σ H'
  | .ct env s => ∀ σ H' μ', Ext μ H μ' H' → Sim K μ' H' s → EnvR K H' μ' σ env → En.ct σ H'
  | .no => False
theorem RsOk.mono {r : RS} {En : Ends} (h : RsOk K μ H r En) (x : Ext μ H μ' H') : RsOk K μ' H' r En := by
  cases r with
  | nx env s => exact fun σ H2 μ2 x2 => h σ H2 μ2 (x.trans x2)
  | rt d s => exact fun v H2 μ2 x2 => h v H2 μ2 (x.trans x2)
  | bk env s => exact fun σ H2 μ2 x2 => h σ H2 μ2 (x.trans x2)
  | ct env s => exact fun σ H2 μ2 x2 => h σ H2 μ2 (x.trans x2)
  | no => exact h
def RdS (K : PySem.W.Frag) (m : EvS) : TS := fun En σ H => ∃ μ s env, Sim K μ H s ∧ EnvR K H μ σ env ∧ RsOk K μ H (m env s) En
def JS (g : Gb) (c : Cc) (m : EvS) (st : Stmt) : Prop := ∀ X : Cx, c.Ok g X → PS X st (RdS g.K m)
def JSs (g : Gb) (c : Cc) (m : EvS) (sts : List Stmt) : Prop := ∀ X : Cx, c.Ok g X → PSs X sts (RdS g.K m)
theorem PS.imp {X : Cx} {e : Stmt} {t t' : TS} (h : PS X e t) (f : ∀ D σ H, t' D σ H → t D σ H) : PS X e t' := ⟨fun pins s σ H D I q => h.run pins s σ H D I (f D σ H q)⟩
theorem PSs.imp {X : Cx} {e : List Stmt} {t t' : TS} (h : PSs X e t) (f : ∀ D σ H, t' D σ H → t D σ H) : PSs X e t' := ⟨fun pins s σ H D I q => h.run pins s σ H D I (f D σ H q)⟩
theorem js_nil : JSs g c sNil [] := fun X ok => PSs.imp pss_nil fun En σ H h => by
  obtain ⟨μ, s, env, S, E, q⟩ := h
  exact q σ H μ .refl S E
theorem js_cons {st : Stmt} {sts : List Stmt} {p q : EvS} (h1 : JS g c p st) (h2 : JSs g c q sts) : JSs g c (sCons p q) (st :: sts) := fun X ok => PSs.imp (pss_cons (h1 X ok) (h2 X ok)) fun En σ H h => by
  obtain ⟨μ, s, env, S, E, r⟩ := h
  refine ⟨μ, s, env, S, E, ?_⟩
  unfold sCons at r
  generalize p env s = z at r ⊢
  cases z with
  | nx env1 s1 => exact fun σ1 H1 μ1 x1 S1 E1 => ⟨μ1, s1, env1, S1, E1, RsOk.mono r x1⟩
  | rt d s => exact r
  | bk env s => exact r
  | ct env s => exact r
  | no => exact r
theorem st_ok {α : Type} {r : R α} {f : α → Sto → RS} {En : Ends} (h : RsOk K μ H (r.st f) En) : ∃ a s, r = .ok a s ∧ RsOk K μ H (f a s) En := by
  cases r with
  | ok a s => exact ⟨a, s, rfl, h⟩
  | no => exact h.elim
theorem js_pass : JS g c sPass (.Pass pos) := fun X ok => PS.imp ps_pass fun En σ H h => by
  obtain ⟨μ, s, env, S, E, q⟩ := h
  exact q σ H μ .refl S E
theorem js_brk : JS g c sBrk (.Break pos) := fun X ok => PS.imp ps_break fun En σ H h => by
  obtain ⟨μ, s, env, S, E, q⟩ := h
  exact q σ H μ .refl S E
theorem js_ct : JS g c sCt (.Continue pos) := fun X ok => PS.imp ps_continue fun En σ H h => by
  obtain ⟨μ, s, env, S, E, q⟩ := h
  exact q σ H μ .refl S E
/-- a statement that is never met (a raise) -/
theorem js_no {st : Stmt} : JS g c sNo st := fun X ok => PS.imp ps_never fun En σ H h => by
  obtain ⟨μ, s, env, S, E, q⟩ := h
  exact q
theorem js_ret (he : JE g c m e) : JS g c (sRet m) (.Return (some e) pos) := fun X ok => PS.imp (ps_ret (he X ok).1) fun En σ H h => by
  obtain ⟨μ, s, env, S, E, q⟩ := h
  obtain ⟨d, s1, h1, q⟩ := st_ok q
  exact ⟨μ, s, env, d, s1, S, E, h1, fun v H1 μ1 x1 S1 r1 => q v H1 μ1 x1 S1 r1⟩
theorem js_retN : JS g c sRetN (.Return none pos) := fun X ok => PS.imp ps_retN fun En σ H h => by
  obtain ⟨μ, s, env, S, E, q⟩ := h
  exact q .non H μ .refl S .non
theorem js_expr (he : JE g c m e) (hs : ∀ env, swapsWith e none pos.line env = pure false := by intro _; rfl) : JS g c (sExpr m) (.Expr e pos) := fun X ok => PS.imp (ps_expr (he X ok).1 (hs _)) fun En σ H h => by
  obtain ⟨μ, s, env, S, E, q⟩ := h
  obtain ⟨d, s1, h1, q⟩ := st_ok q
  exact ⟨μ, s, env, d, s1, S, E, h1, fun v H1 μ1 x1 S1 r1 => q σ H1 μ1 x1 S1 (E.mono S x1)⟩
theorem js_if {p q : List Stmt} {mp mq : EvS} (hc : JE g c mc d) (h1 : JSs g c mp p) (h2 : JSs g c mq q) : JS g c (sIf mc mp mq) (.If d p q pos) := fun X ok => PS.imp (ps_if (hc X ok).2 (h1 X ok) (h2 X ok)) fun En σ H h => by
  obtain ⟨μ, s, env, S, E, r⟩ := h
  obtain ⟨k, s1, h1, r⟩ := st_ok r
  refine ⟨μ, s, env, k, s1, S, E, h1, fun H1 μ1 x1 S1 => ?_⟩
  cases k with
  | true => exact iteT ⟨μ1, s1, env, S1, E.mono S x1, r.mono x1⟩
  | false => exact iteF ⟨μ1, s1, env, S1, E.mono S x1, r.mono x1⟩
theorem rd_asg {vs : List Nat} {mg : EvG} {En : Ends} {σ : L2.St} {H : Hp} (h : RdS K (sAsg mg m) En σ H) : tAsg (RdE K m.v) (RdG K vs mg) En σ H := by
  obtain ⟨μ, s, env, S, E, q⟩ := h
  obtain ⟨d, s1, h1, q⟩ := st_ok q
  obtain ⟨env2, s2, h2, q⟩ := st_ok q
  refine ⟨μ, s, env, d, s1, S, E, h1, fun v H1 μ1 x1 S1 r1 => ?_⟩
  exact ⟨μ1, s1, env, d, env2, s2, S1, E.mono S x1, r1, h2, fun σ2 H2 μ2 x2 S2 E2 _ => q σ2 H2 μ2 (x1.trans x2) S2 E2⟩
/-- target = value, where the machine does not swap -/
theorem js_asg {vs : List Nat} {mg : EvG} {tg : Expr} (he : JE g c m e) (hg : JG g c vs mg tg) (hst : noStar tg = true := by rfl)
    (hs : ∀ env : PySem.Env, env.scope = c.sc → swapsWithSole [tg] e pos.line env = pure false := by intro _ _; rfl) (hw : ∀ env : PySem.Env, env.scope = c.sc → swappedStores [tg] e env = pure none := by intro _ _; rfl) : JS g c (sAsg mg m) (.Assign [tg] e pos) := fun X ok =>
  PS.imp (ps_asg (he X ok).1 (hg X ok) (hs _ ok.sc) (hw _ ok.sc) (by rw [assign_cons hst]; rfl)) fun En σ H h => rd_asg h
/-- x, y = e, f -/
theorem js_par {ra : EvA} {i j : Nat} {x y : Str} {px py pt : Pos} {kt k2 pt2} (hi : c.N[i]? = some x) (hj : c.N[j]? = some y) (hij : i ≠ j) (hx : c.sc.names.lookup x = some .local) (hy : c.sc.names.lookup y = some .local) (ha : JA g c ra [a, b])
    (hw : ∀ env : PySem.Env, env.scope = c.sc → swappedStores [.Tuple [.Name x px, .Name y py] kt pt] (.Tuple [a, b] k2 pt2) env = pure (some [x, y]))
    (hs : ∀ env : PySem.Env, env.scope = c.sc → swapsWithSole [.Tuple [.Name x px, .Name y py] kt pt] (.Tuple [a, b] k2 pt2) pos.line env = pure false := by intro _ _; rfl) : JS g c (sPar i j ra) (.Assign [.Tuple [.Name x px, .Name y py] kt pt] (.Tuple [a, b] k2 pt2) pos) := fun X ok =>
  PS.imp (ps_par ok.calm (by rw [ok.N]; exact ok.nd) (by rw [ok.N]; exact hi) (by rw [ok.N]; exact hj) hij (by rw [ok.sc]; exact hx) (by rw [ok.sc]; exact hy) (ha X ok) (hw _ ok.sc) (hs _ ok.sc)) fun En σ H h => by
    obtain ⟨μ, s, env, S, E, q⟩ := h
    obtain ⟨ds, s1, h1, q⟩ := st_ok q
    refine ⟨μ, s, env, ds, s1, S, E, h1, fun vs H1 μ1 x1 S1 r1 => ?_⟩
    split at q
    · cases r1 with
      | cons r r2 =>
      cases r2 with
      | cons r2 r3 =>
      cases r3
      exact ⟨_, _, rfl, q _ H1 μ1 x1 S1 (((E.mono S x1).set r i).set r2 j)⟩
    · exact q.elim
/-- x op= e -/
theorem js_aug {op : Operator} {f : D → D → Sto → R D} {x : Str} {p : Pos} (i : Nat) (hf : ∀ X : Cx, c.Ok g X → OpR X (inplaceOp op) (R2D g.K f)) (he : JE g c m e) (hN : c.N[i]? = some x := by rfl)
    (hx : c.sc.names.lookup x = some .local ∨ c.sc.names.lookup x = some .cell := by first | exact Or.inl rfl | exact Or.inr rfl) (hfn : c.fn x = true ∨ c.sc.names.lookup x = some .local := by first | exact .inl rfl | exact .inr rfl) : JS g c (sAug i f m) (.AugAssign (.Name x p) op e pos) := fun X ok =>
  PS.imp (ps_aug (i := i) (by rw [ok.N]; exact ok.nd) (by rw [ok.N]; exact hN) (by unfold L2.Loc; rw [ok.sc]; exact hx) (he X ok).1 (hf X ok) (by rw [ok.sc]; exact hfn.imp (ok.fn x) id)) fun En σ H h => by
    obtain ⟨μ, s, env, S, E, q⟩ := h
    unfold sAug at q
    split at q
    · rename_i dx hx
      obtain ⟨dy, s1, h1, q⟩ := st_ok q
      obtain ⟨dz, s2, h2, q⟩ := st_ok q
      obtain ⟨vx, hv, rx⟩ := E.2 i _ hx
      refine ⟨vx, hv, μ, s, env, dy, s1, S, E, h1, fun vy H1 μ1 x1 S1 ry => ?_⟩
      exact ⟨μ1, s1, dx, dy, dz, s2, S1, rx.mono S x1, ry, h2, fun vz H2 μ2 x2 S2 rz => q _ H2 μ2 (x1.trans x2) S2 ((((E.mono S x1)).mono S1 x2).set rz i)⟩
    · exact q.elim
/-- y = [..] on one line, y a local -/
theorem js_setLc {elt tg iter : Expr} {ifs : List Expr} {scope : Scope} {vs : List Nat} {mg : EvG} {it : EvI} {o : Option Sem} {y : Str} {py spos : Pos} (i : Nat) (own : List (Str × Nat)) (hb : blkC c.N c.sc scope own = true) (hi : JIt g c tg it iter) (hg : JG g (c.blk scope) vs mg tg) (hvs : ∀ i ∈ vs, i ∈ own.map (·.2))
    (ht : JT g (c.blk scope) o ifs) (he : JE g (c.blk scope) m elt) (hy : c.N[i]? = some y) (hyl : c.sc.names.lookup y = some .local) (hk : c.sc.kind = .function) (hl : (py.line == pos.line) = true) (hl2 : spos.line = spos.line := by rfl)
    (hn : (scope.names.any fun (n, k) => n == y && (k == .local || k == .cell)) = false) (hs : noSet iter = true := by rfl) : JS g c (sAsg (gVar i) (xComp (own.map (·.2)) mg it o m)) (.Assign [.Name y py] (.ListComp elt [⟨tg, iter, ifs, 0⟩] scope pos) spos) := fun X ok =>
  PS.imp (ps_setLc (i := i) (own := own) ok.calm (by rw [ok.N]; exact ok.nd) (by rw [ok.N]; exact hy) (by rw [ok.sc]; exact hyl) (sw_true (by rw [ok.sc]; exact hk) (by rw [ok.sc]; exact hyl) hl hn) (hi X ok) (blkOk_by (by rw [ok.N, ok.sc]; exact hb))
    (fun s H C cl fp => hg _ (blk_ok ok s H C cl fp)) (fun s H C cl fp => jt_pts ht (blk_ok ok s H C cl fp)) (fun s H C cl fp => (he _ (blk_ok ok s H C cl fp)).1) (noSet_ok hs _)) fun En σ H h => by
    obtain ⟨μ, s, env, S, E, q⟩ := h
    obtain ⟨d, s1, h1, q⟩ := st_ok q
    obtain ⟨env2, s2, h2, q⟩ := st_ok q
    cases h2
    exact rd_comp hvs ⟨μ, s, env, d, _, S, E, h1, fun v H1 μ1 x1 S1 r1 => q _ H1 μ1 x1 S1 ((E.mono S x1).set r1 i)⟩
/-! ### loops -/
theorem js_while {p : List Stmt} {mp : EvS} (hc : JE g c mc d) (hb : JSs g c mp p) : JS g c (sWhl mc mp) (.While d p [] pos) := fun X ok =>
  PS.imp (ps_while (by rw [ok.xe]; exact PassesOwn.never) (hc X ok).2 (hb X ok)) fun En σ H h => by
    obtain ⟨μ, s, env, S, E, q⟩ := h
    refine ⟨fun k σ H => ∃ μ s env, Sim g.K μ H s ∧ EnvR g.K H μ σ env ∧ RsOk g.K μ H (whl mc mp k env s) En, ⟨1000000, μ, s, env, S, E, q⟩, ?_⟩
    rintro k σ1 H1 ⟨μ1, s1, env1, S1, E1, q1⟩
    cases k with
    | zero => exact q1.elim
    | succ k =>
    obtain ⟨v, s2, h2, q2⟩ := st_ok q1
    refine ⟨μ1, s1, env1, v, s2, S1, E1, h2, fun H2 μ2 x2 S2 => ?_⟩
    cases v with
    | false => exact iteF (q2 σ1 H2 μ2 x2 S2 (E1.mono S1 x2))
    | true =>
      have q2 : RsOk g.K μ1 H1 ((mp env1 s2).turn (whl mc mp k)) En := q2
      refine iteT ⟨fun σ' H' => ∃ μ s env, Sim g.K μ H' s ∧ EnvR g.K H' μ σ' env ∧ RsOk g.K μ H' (whl mc mp k env s) En, fun σ' H' h => ⟨k, Nat.lt_succ_self _, h⟩, μ2, s2, env1, S2, E1.mono S1 x2, ?_⟩
      generalize mp env1 s2 = z at q2 ⊢
      cases z with
      | nx env3 s3 => exact fun σ3 H3 μ3 x3 S3 E3 => ⟨μ3, s3, env3, S3, E3, RsOk.mono q2 (x2.trans x3)⟩
      | ct env3 s3 => exact fun σ3 H3 μ3 x3 S3 E3 => ⟨μ3, s3, env3, S3, E3, RsOk.mono q2 (x2.trans x3)⟩
      | bk env3 s3 => exact fun σ3 H3 μ3 x3 S3 E3 => q2 σ3 H3 μ3 (x2.trans x3) S3 E3
      | rt d3 s3 => exact fun σ3 H3 μ3 x3 S3 E3 => q2 σ3 H3 μ3 (x2.trans x3) S3 E3
      | no => exact q2
def forFrom (b : D → Env → Sto → RS) (w : Wk) (k j : Nat) (env : Env) (s : Sto) : RS := match w with
  | .its xs => forIts b (xs.drop j) env s
  | .live i => forLive b i k j env s
  | .rd r => forRd b r k j env s
theorem forFrom_step {b : D → Env → Sto → RS} {w : Wk} {k j : Nat} {env : Env} {s : Sto} : forFrom b w k j env s = .no ∨ (wkAt w s j = some none ∧ forFrom b w k j env s = .nx env s) ∨
    ∃ x k', wkAt w s j = some (some x) ∧ forFrom b w k j env s = (b x env s).turn (forFrom b w k' (j + 1)) ∧ wkMes w k' (j + 1) < wkMes w k j := by
  cases w with
  | its xs =>
    by_cases hj : j < xs.length
    · refine .inr (.inr ⟨xs[j], k, by show some xs[j]? = _; rw [List.getElem?_eq_getElem hj], ?_, by show xs.length - (j + 1) < xs.length - j; omega⟩)
      show forIts b (xs.drop j) env s = _
      rw [List.drop_eq_getElem_cons hj]
      rfl
    · refine .inr (.inl ⟨by show some xs[j]? = _; rw [List.getElem?_eq_none (by omega)], ?_⟩)
      show forIts b (xs.drop j) env s = _
      rw [List.drop_eq_nil_of_le (by omega)]
      rfl
  | live i =>
    cases k with
    | zero => exact .inl rfl
    | succ k =>
      show forLive b i (k + 1) j env s = .no ∨ _
      cases e : s.get i with
      | none => refine .inl ?_; unfold forLive; rw [e]
      | some o =>
        cases o with
        | dct kvs => refine .inl ?_; unfold forLive; rw [e]
        | lst xs =>
          cases hx : xs[j]? with
          | none =>
            refine .inr (.inl ⟨by unfold wkAt; dsimp only; rw [e]; show some xs[j]? = _; rw [hx], ?_⟩)
            show forLive b i (k + 1) j env s = _
            unfold forLive
            rw [e]
            dsimp only
            rw [hx]
          | some x =>
            refine .inr (.inr ⟨x, k, by unfold wkAt; dsimp only; rw [e]; show some xs[j]? = _; rw [hx], ?_, Nat.lt_succ_self _⟩)
            show forLive b i (k + 1) j env s = (b x env s).turn (forLive b i k (j + 1))
            conv => lhs; unfold forLive
            rw [e]
            dsimp only
            rw [hx]
  | rd r =>
    cases k with
    | zero => exact .inl rfl
    | succ k =>
      show forRd b r (k + 1) j env s = .no ∨ _
      cases e : r s j with
      | none => refine .inl ?_; unfold forRd; rw [e]
      | some o =>
        cases o with
        | none => exact .inr (.inl ⟨e, by show forRd b r (k + 1) j env s = _; unfold forRd; rw [e]⟩)
        | some x => exact .inr (.inr ⟨x, k, e, by show forRd b r (k + 1) j env s = (b x env s).turn (forRd b r k (j + 1)); conv => lhs; unfold forRd
                                                  rw [e], Nat.lt_succ_self _⟩)
theorem js_for {tg iter : Expr} {p : List Stmt} {mp : EvS} {vs : List Nat} {mg : EvG} {it : EvI} (hi : JIt g c tg it iter) (hg : JG g c vs mg tg) (hb : JSs g c mp p) (hs : noSet iter = true := by rfl) : JS g c (sFor mg it mp) (.For tg iter p [] pos) := fun X ok =>
  PS.imp (ps_for (by rw [ok.xe]; exact PassesOwn.never) ok.calm (hi X ok) (hg X ok) (hb X ok) (noSet_ok hs _)) fun En σ H h => by
    obtain ⟨μ, s, env, S, E, q⟩ := h
    obtain ⟨w, s1, h1, q⟩ := st_ok q
    refine ⟨μ, s, env, w, s1, S, E, h1, fun J H1 μ1 x1 S1 wk => ?_⟩
    have q : RsOk g.K μ H (forFrom (bodyF mg mp) w 1000000 0 env s1) En := by
      cases w <;> exact q
    refine ⟨fun i k σ H => ∃ μ' s' env' k', Ext μ1 H1 μ' H ∧ Sim g.K μ' H s' ∧ EnvR g.K H μ' σ env' ∧ RsOk g.K μ' H (forFrom (bodyF mg mp) w k' i env' s') En ∧ k = wkMes w k' i, ⟨wkMes w 1000000 0, μ1, s1, env, 1000000, .refl, S1, E.mono S x1, q.mono x1, rfl⟩, ?_⟩
    rintro i k σ2 H2 ⟨μ2, s2, env2, k2, x2, S2, E2, q2, rfl⟩
    rcases forFrom_step (b := bodyF mg mp) (w := w) (k := k2) (j := i) (env := env2) (s := s2) with e | ⟨hw, e⟩ | ⟨x, k', hw, e, hk⟩
    · rw [e] at q2; exact q2.elim
    · rw [e] at q2
      exact .inl ⟨(wk μ2 H2 s2 (x2.toL S1) S2 i).2 hw, q2 σ2 H2 μ2 .refl S2 E2⟩
    · rw [e] at q2
      obtain ⟨go, yld⟩ := (wk μ2 H2 s2 (x2.toL S1) S2 i).1 x hw
      refine .inr ⟨go, fun σ' H' => ∃ m', m' < wkMes w k2 i ∧ ∃ μ' s' env' k', Ext μ1 H1 μ' H' ∧ Sim g.K μ' H' s' ∧ EnvR g.K H' μ' σ' env' ∧ RsOk g.K μ' H' (forFrom (bodyF mg mp) w k' (i + 1) env' s') En ∧ m' = wkMes w k' (i + 1), fun σ' H' h => h, fun v H3 hy => ?_⟩
      obtain ⟨sm, rv⟩ := yld v H3 hy
      have S3 := S2.same sm
      have x23 : Ext μ2 H2 μ2 H3 := .same sm
      have E3 := E2.mono S2 x23
      unfold bodyF at q2
      cases hg4 : mg x env2 s2 with
      | no => rw [hg4] at q2; exact q2.elim
      | ok env4 s4 =>
        rw [hg4] at q2
        have q2 : RsOk g.K μ2 H2 ((mp env4 s4).turn (forFrom (bodyF mg mp) w k' (i + 1))) En := q2
        refine ⟨μ2, s2, env2, x, env4, s4, S3, E3, rv, hg4, fun σ4 H4 μ4 x4 S4 E4 _ => ⟨μ4, s4, env4, S4, E4, ?_⟩⟩
        have x24 := x23.trans x4
        generalize mp env4 s4 = z at q2 ⊢
        cases z with
        | nx env5 s5 => exact fun σ5 H5 μ5 x5 S5 E5 => ⟨_, hk, μ5, s5, env5, k', x2.trans (x24.trans x5), S5, E5, RsOk.mono q2 (x24.trans x5), rfl⟩
        | ct env5 s5 => exact fun σ5 H5 μ5 x5 S5 E5 => ⟨_, hk, μ5, s5, env5, k', x2.trans (x24.trans x5), S5, E5, RsOk.mono q2 (x24.trans x5), rfl⟩
        | bk env5 s5 => exact fun σ5 H5 μ5 x5 S5 E5 => q2 σ5 H5 μ5 (x24.trans x5) S5 E5
        | rt d5 s5 => exact fun σ5 H5 μ5 x5 S5 E5 => q2 σ5 H5 μ5 (x24.trans x5) S5 E5
        | no => exact q2
/-! ### defs -/
theorem fnB_len {np n : Nat} {b : EvS} {ds : List D} {d : D} (h : fnB np n b ds s = .ok d s') : ds.length = np := by
  unfold fnB at h
  split at h
  · assumption
  · cases h
theorem start_env {N : List Str} {vs : List V} {ds : List D} (r : Reps K H μ vs ds) : EnvR K H μ (L2.start N vs) (ds.map some ++ List.replicate (N.length - ds.length) none) := by
  unfold L2.start
  rw [r.length]
  refine ⟨by simp [r.length], fun j d h => ?_⟩
  by_cases hj : j < ds.length
  · rw [List.getElem?_append_left (by simpa using hj), List.getElem?_map] at h
    obtain ⟨d', h1, h2⟩ := Option.map_eq_some_iff.mp h
    cases h2
    obtain ⟨v, hv, rv⟩ := r.get h1
    refine ⟨v, ?_, rv⟩
    rw [List.getElem?_append_left (by rw [List.length_map, r.length]; exact hj), List.getElem?_map, hv]; rfl
  · rw [List.getElem?_append_right (by simpa using hj), List.getElem?_replicate] at h
    split at h <;> cases h
/-- a def of the text -/
theorem fn_ok {x qual : Str} {st : Stmt} {f : Addr} {fd : FuncData} {N ps : List Str} {lv : Nat} {b : EvS} (F : Fun g.K x qual st f fd) (S : FnScope N ps (defScope st)) (hb : JSs g ⟨N, defScope st, fun _ => true, lv⟩ b (defBody st)) :
    FnOk g.P g.w g.K g.mg g.base CX0 (lv + 1) f fd ps (spD g.K ps.length (fnB ps.length N.length b)) := by
  refine F.ok S (fun vs H Q E h => h.1) fun cdv A outer s H vs Q E hr h => ?_
  obtain ⟨hl, μ, st', ds, d, s', Sm, r, hv, q⟩ := h
  refine ⟨_, hb _ ⟨rfl, rfl, rfl, rfl, rfl, rfl, rfl, S.nd, fun _ h => h, rfl, rfl, hr⟩, μ, st', _, Sm, start_env r, ?_⟩
  unfold fnB at hv
  have hl2 : ds.length = ps.length := by rw [← r.length]; exact hl
  rw [if_pos hl2] at hv
  generalize b (ds.map some ++ List.replicate (N.length - ds.length) none) st' = z at hv ⊢
  cases z with
  | rt d1 s1 => cases hv; exact fun v H1 μ1 x1 S1 r1 => q v H1 μ1 x1 S1 r1
  | nx env1 s1 => cases hv; exact fun σ1 H1 μ1 x1 S1 _ => q .non H1 μ1 x1 S1 .non
  | bk _ _ => cases hv
  | ct _ _ => cases hv
  | no => cases hv
theorem fnS_of {x : Str} {ps : List Str} {lv np n : Nat} {b : EvS} {f : Addr} {fd : FuncData} (hn : np = ps.length) (hm : g.mg x = some (.ref f)) (hk : PySem.W.keepIn g.K (.ref f) = true) (hb : Binds g.K fd ps []) (h : FnOk g.P g.w g.K g.mg g.base CX0 lv f fd ps (spD g.K ps.length (fnB np n b))) : FnS g lv x ps (fnB np n b) :=
  ⟨fun ds s d s' q => by rw [← hn]; exact fnB_len q, f, fd, hm, hk, hb, h⟩
theorem fnK_of {x : Str} {ps ks : List Str} {lv np n nq : Nat} {p : List Nat} {b : EvS} {f : Addr} {fd : FuncData} (hn : np = ps.length) (hm : g.mg x = some (.ref f)) (hk : PySem.W.keepIn g.K (.ref f) = true)
    (hb : ∀ (s : Shared) (us ws : List Value), us.length = nq → ws.length = ks.length → BindsTo s fd ⟨us, ks.zip ws⟩ (ps.zip (gPerm .none nq ks.length p us ws))) (h0 : 0 < ps.length)
    (h : FnOk g.P g.w g.K g.mg g.base CX0 lv f fd ps (spD g.K ps.length (fnB np n b))) : FnK g lv x ps ks nq p (fnB np n b) :=
  ⟨fun ds s d s' q => by rw [← hn]; exact fnB_len q, f, fd, hm, hk, ⟨fun s us ws _ hl => by
    have : us.length = nq ∧ ws.length = ks.length := by
      unfold gPerm at hl
      split at hl
      · assumption
      · rw [List.length_nil] at hl; omega
    exact hb s us ws this.1 this.2, fun r q => Cs.Vals.perm r q⟩, h⟩
/-- no turn left -/
theorem fnNo_ok {x qual : Str} {st : Stmt} {f : Addr} {fd : FuncData} {ps : List Str} (F : Fun g.K x qual st f fd) : FnOk g.P g.w g.K g.mg g.base CX0 0 f fd ps (spD g.K ps.length fnNo) :=
  ⟨fun vs H Q E h => h.1, fun A outer s H args us vs Q E hr he hb hv h => by
    obtain ⟨hl, μ, st', ds, d, s', Sm, r, hv, q⟩ := h
    cases hv⟩
theorem fnNoS {x : Str} {ps : List Str} {f : Addr} {fd : FuncData} (hm : g.mg x = some (.ref f)) (hk : PySem.W.keepIn g.K (.ref f) = true) (hb : Binds g.K fd ps []) (h : FnOk g.P g.w g.K g.mg g.base CX0 0 f fd ps (spD g.K ps.length fnNo)) : FnS g 0 x ps fnNo :=
  ⟨fun ds s d s' q => (by cases q), f, fd, hm, hk, hb, h⟩
theorem FnS.mono {x : Str} {ps : List Str} {lv lv' : Nat} {f : Fn} (h : FnS g lv x ps f) (hl : lv ≤ lv') : FnS g lv' x ps f :=
  ⟨h.len, let ⟨a, b, h1, h2, h3, h4⟩ := h.ex; ⟨a, b, h1, h2, h3, h4.mono hl⟩⟩
/-! ### the law -/
theorem law_sp {f : Fn} {n : Nat} (hf : ∀ ns : List Int, ns.length ≤ n → ∃ s', f [.fix (ns.map .int)] Sto.new = .ok (.bl true) s') (K : PySem.W.Frag) (H : Hp) (a : Addr) (ns : List Int) (hn : ns.length ≤ n) (ho : Only H) (h : SqL K H a (ns.map V.int)) :
    spD K 1 f [.ref a] H (fun v _ => v = .bl true) fun _ _ _ => False := by
  obtain ⟨s', e⟩ := hf ns hn
  have intz : ∀ l : List Int, Reps K H [] (l.map V.int) (l.map D.int) := by
    intro l
    induction l with
    | nil => exact .nil
    | cons i l ih => exact .cons (.int i) ih
  have sf : SqF K H a (ns.map V.int) := by
    rcases h with (h | ⟨o, h⟩) | h
    · rcases ho a with z | ⟨o, xs, z⟩ <;> rw [h] at z <;> cases z
    · exact .inl ⟨o, h⟩
    · exact .inr h
  refine ⟨rfl, [], Sto.new, [.fix (ns.map .int)], .bl true, s', ⟨rfl, List.nodup_nil, fun i a h => by simp at h, fun i _ => Sto.new_get i⟩, .cons (.fix sf (intz ns)) .nil, e, fun v H' μ' x S r => ?_⟩
  cases r
  rfl
end
end Cs

/-! ## CsEnum -/
/-! enumerate of a tuple. -/
namespace Cs
open PySem PySem.Spec PyProof.Rows L2
theorem newT_enum (l : Addr) (items : Array Value) (n : Nat) (dct : Option Addr) (sl : Array (Option Value)) :
    Meets (Builtin.«enumerate.__new__» ⟨[.type "enumerate", .ref l], []⟩) (fun _ R s => s.heap.get? l = some { cls := .type "tuple", dict := dct, data := .seq items n, slots := sl } ∧
      R (.ok (.ret (.ref (s.heap.push { cls := .type "tuple_iterator", data := .fields #[.ref l, .int 0 0] }).objs.size)))
        { s with heap := (s.heap.push { cls := .type "tuple_iterator", data := .fields #[.ref l, .int 0 0] }).push { cls := .type "enumerate", data := .fields #[.none, .bool false, .ref s.heap.objs.size, rawInt 0, .none, .none] } }) :=
  .of_wp fun prog w A R s h => by
    obtain ⟨hp, g, d, tk, os⟩ := s; obtain ⟨hl, h⟩ := h
    have hsub := sub_enumerate
    have hL : Heap.IsTuple (Shared.heap ⟨hp, g, d, tk, os⟩) l items := ⟨_, hl, rfl, n, rfl⟩
    wp_walk using AutoSeq1.wpAny_loadPart' hl
    refine wpAny_stack_any fun st => wpAny_pure ?_
    split
    · rename_i c _ _ _ _ _
      cases (c == Value.type "enumerate")
      · wp_walk using AutoSeq1.wpAny_loadPart' hl, wpAny_pyIter_tuple hL
        exact ⟨_, rfl, h⟩
      · wp_walk using AutoSeq1.wpAny_loadPart' hl, wpAny_pyIter_tuple hL
        exact ⟨_, rfl, h⟩
    · wp_walk using AutoSeq1.wpAny_loadPart' hl, wpAny_pyIter_tuple hL
      exact ⟨_, rfl, h⟩
theorem call_enumT {prog : Program} {w : World} {A : Around} {E : Value → Shared → Prop} {s : Shared} {l : Addr} {items : Array Value} {Q : Value → Shared → Prop} (hL : s.heap.IsTuple l items)
    (h : ∀ h', IsEnum h' (s.heap.objs.size + 1) s.heap.objs.size 0 .none → h'.IsTupleIter s.heap.objs.size l 0 → h'.objs.size = s.heap.objs.size + 2 →
      (∀ b o, s.heap.get? b = some o → h'.get? b = some o) → Q (.ref (s.heap.objs.size + 1)) { s with heap := h' }) :
    wpAny (model prog w) A (call (.type "enumerate") [.ref l]) Q E s := by
  obtain ⟨⟨c, dct, dt, sl⟩, hl, hc, n, hd⟩ := hL
  replace hc : c = .type "tuple" := hc
  replace hd : dt = .seq items n := hd
  subst hc hd
  refine callType_new F.called_enumerate (by decide) (F.typeCall_enumerate_1 _) (F.newCall_enumerate_1 _) (fun obj => F.args_object_init_2 obj _) F.entry_enumerate_new
    (newT_enum l items n dct sl) ⟨hl, ?_⟩
  have hz : (s.heap.push { cls := .type "tuple_iterator", data := .fields #[.ref l, .int 0 0] }).objs.size = s.heap.objs.size + 1 := Heap.size_push ..
  show _ ∧ _
  rw [hz]
  have he : IsEnum ((s.heap.push { cls := .type "tuple_iterator", data := .fields #[.ref l, .int 0 0] }).push
      { cls := .type "enumerate", data := .fields #[.none, .bool false, .ref s.heap.objs.size, rawInt 0, .none, .none] }) (s.heap.objs.size + 1) s.heap.objs.size 0 .none := by
    have := Heap.get?_push_size (s.heap.push { cls := .type "tuple_iterator", data := .fields #[.ref l, .int 0 0] })
      (o := { cls := .type "enumerate", data := .fields #[.none, .bool false, .ref s.heap.objs.size, rawInt 0, .none, .none] }) rfl
    rw [hz] at this; exact this
  refine ⟨⟨_, he, rfl⟩, h _ he ⟨_, Heap.get?_push_of_some _ (Heap.get?_push_size _ rfl), rfl, rfl⟩ (by rw [Heap.size_push, hz]) fun b o x => Heap.get?_push_of_some _ (Heap.get?_push_of_some _ x)⟩
/-- the tuple at a, each item in a new pair -/
def IteT (K : PySem.W.Frag) (a : Addr) : It :=
  ⟨fun i H => ∃ (xs : List V) (x : V), SqT K H a xs ∧ xs[i]? = some x, fun i H v H' => ∃ T x, v = .ref T ∧ H T = none ∧ H' = upd H T (.tup [.int (i : Nat), x]) ∧ ∀ xs, SqT K H a xs → xs[i]? = some x, fun i H => ∃ xs : List V, SqT K H a xs ∧ xs.length ≤ i⟩
theorem turn_enumT {P : Program} {w : World} {K : PySem.W.Frag} {elts : List Expr} {kk : Nat} {tpos : Pos} (a e it : Addr) (hai : a ≠ it) :
    L2.Turn P w K (.Tuple elts kk tpos) (IteT K a) [e, it] e (fun i h => (∃ old, IsEnum h e it ((i : Nat) : Int) old) ∧ h.IsTupleIter it a i ∧ e ≠ it) where
  mem := by simp
  obj := fun i h st b hb => by
    obtain ⟨⟨old, he⟩, ⟨o, ho, hc, hd⟩, _⟩ := st
    have e' : b = e ∨ b = it := by simpa using hb
    rcases e' with z | z
    · rw [z]; exact ⟨_, he, fun v q => nomatch q⟩
    · rw [z]; exact ⟨o, ho, fun v q => by rw [hd] at q; cases q⟩
  keep := fun i h h' st k => let ⟨⟨old, he⟩, hi, hne⟩ := st; ⟨⟨old, k e (by simp) _ he⟩, hi.at fun o q => k it (by simp) o q, hne⟩
  item := by
    intro X hP hw hK hc i pins s σ H E I hf st hg
    subst hP hw hK
    obtain ⟨⟨old, he⟩, hit, hne⟩ := st
    obtain ⟨xs, x, hq, hx⟩ := hg
    obtain ⟨its, rv, p, hz⟩ := I.tuple hq
    obtain ⟨u, hu, ru⟩ := rv.get hx
    have hel : e < s.heap.objs.size := Heap.lt_size he
    have hil : it < s.heap.objs.size := by obtain ⟨_, q, _⟩ := hit; exact Heap.lt_size q
    have pT : s.heap.IsTuple a its.toArray := p
    -- the inner iterator's own turn, the tuple as it stands
    by_cases hea : e = a
    · exfalso
      obtain ⟨o, ho, hoc, _⟩ := id pT
      rw [← hea, he] at ho
      cases ho
      exact absurd (Value.type.inj hoc) (by decide)
    have D : Draws X.prog X.w X.A.in1 it [it, a] its.toArray.size (fun i v => its.toArray[i]? = some v) (fun i h => h.IsTupleIter it a i ∧ h.IsTuple a its.toArray) := Draws.tuple (A := X.A.in1) (I.ok.hd hc) it a hai its.toArray
    refine wpAny_pyNext_enum_itemD D he ⟨hit, pT⟩ (by have := (List.getElem?_eq_some_iff.mp hu).1; simpa using this) hne (by simpa using ⟨hne, hea⟩) fun u' h' tk hP ho hit' hT hsz hk => ?_
    have hu' : its.toArray[i]? = some u' := hP
    have hu2 : u' = u := by
      have : its.toArray[i]? = some u := by simpa using hu
      rw [this] at hu'; exact (Option.some.inj hu').symm
    subst hu2
    refine ⟨_, rfl, wpAny_letOwnedTupleGo_enum (s := { s with heap := h', toks := tk + 1 }) ho fun h'' he' sb => ?_⟩
    have hT2 : h''.get? s.heap.objs.size = some { cls := .type "tuple", data := .seq #[.int i tk, u'] } := (sb.2 _ (Nat.ne_of_gt hel)).trans hT
    have new : ObjOk X.prog X.w (upd H s.heap.objs.size (.tup [.int (i : Nat), x])) h'' s.heap.objs.size (.tup [.int (i : Nat), x]) :=
      ⟨by show 2 ≤ sizeLine; decide, [.int i tk, u'], .cons ⟨_, rfl⟩ (.cons ru .nil), ⟨_, hT2, rfl, _, rfl⟩⟩
    have I1 : Inv X pins σ (upd H s.heap.objs.size (.tup [.int (i : Nat), x])) { s with heap := h'', toks := tk + 1 } :=
      I.turnedNew (ch := [e, it]) (fun b ob hb q => (sb.2 b (fun z => hb (by simp [z]))).trans (hk b ob (fun z => hb (by simp [z])) (fun z => hb (by simp [z])) q)) hf (Nat.le_refl _) new
    refine ⟨.ref s.heap.objs.size, _, I1, rfl, ⟨_, x, rfl, I.hok.fresh (Nat.le_refl _), rfl, fun ys hy => by rw [I.tuple_inj hy hq]; exact hx⟩, ⟨⟨u', ?_⟩, hit'.1.at fun o q => (sb.2 it (Ne.symm hne)).trans q, hne⟩, fun b hb => ?_⟩
    · have e1 : ((i + 1 : Nat) : Int) = (i : Int) + 1 := by omega
      rw [e1]; exact he'
    · have hb' : b < s.heap.objs.size := by
        have e' : b = e ∨ b = it := by simpa using hb
        rcases e' with z | z
        · rw [z]; exact hel
        · rw [z]; exact hil
      rw [upd_ne (Nat.ne_of_lt hb')]
      exact (hf b hb).1
  done := by
    intro X hP hw hK hc i pins s σ H E I hf st hg
    subst hP hw hK
    obtain ⟨⟨old, he⟩, hit, hne⟩ := st
    obtain ⟨xs, hq, hx⟩ := hg
    obtain ⟨its, rv, p, hz⟩ := I.tuple hq
    obtain ⟨f0, f1, f2, f3, f4, f5⟩ := hf it (by simp)
    have hl := rv.length
    have pT : s.heap.IsTuple a its.toArray := p
    have hT : s.TypeIs (.ref e) "enumerate" := ⟨_, he, rfl⟩
    unfold pyNext
    refine wpAny_bind (wpAny_attempt (wpAny_callSpecial?_slot (name := Str.ofString "__next__") hT F.slot_enumerate_next
      (wpAny_call_entry F.slot_enumerate_next hT F.entry_enumerate_next ?_ (F.args_enumerate_next_1 _))))
    show wpAny _ _ (field (.ref e) 2 >>= _) _ _ _
    refine wpAny_bind (wpAny_field he rfl (x := .ref it) rfl ?_)
    refine wpAny_bind (wpAny_nextOf_tuple_end (I.ok.hd hc) hit pT (by simp; omega) fun h' x he' hx' => ?_)
    obtain ⟨o, ho, hc'⟩ := hx'
    refine wpAny_bind (wpAny_isInstance (T := "StopIteration") (b := true) ⟨o, ho, hc'⟩ isSubtype_stop ?_)
    exact wpAny_pure ⟨rfl, I.turned (t' := s.toks) (fun b o hb q => he' b o hb q) f0 f1 f3 f4 f5⟩
  self := fun A i s Q E st h => let ⟨⟨_, he⟩, _⟩ := st; wpAny_pyIter_enum he h
end Cs

/-! ## CsSim8 -/
namespace Cs
open PySem PySem.Spec PyProof.Rows L2
section
variable {K : PySem.W.Frag} {μ μ' : List Addr} {H H' : Hp} {s s' : Sto} {g : Gb} {c : Cc} {X : Cx} {m ma mb mc : Sem} {e a b d : Expr} {pos : Pos}
/-! ### x, y, z = .. -/
theorem js_par3 {ra : EvA} {i j l : Nat} {x y z : Str} {a b d : Expr} {px py pz pt : Pos} {kt k2 pt2} (hi : c.N[i]? = some x) (hj : c.N[j]? = some y) (hl : c.N[l]? = some z) (hij : i ≠ j) (hil : i ≠ l) (hjl : j ≠ l)
    (hx : c.sc.names.lookup x = some .local) (hy : c.sc.names.lookup y = some .local) (hz : c.sc.names.lookup z = some .local) (ha : JA g c ra [a, b, d])
    (hw : ∀ env : PySem.Env, env.scope = c.sc → swappedStores [.Tuple [.Name x px, .Name y py, .Name z pz] kt pt] (.Tuple [a, b, d] k2 pt2) env = pure (some [x, y, z]))
    (hs : ∀ env : PySem.Env, env.scope = c.sc → swapsWithSole [.Tuple [.Name x px, .Name y py, .Name z pz] kt pt] (.Tuple [a, b, d] k2 pt2) pos.line env = pure false := by intro _ _; rfl) :
    JS g c (sPar3 i j l ra) (.Assign [.Tuple [.Name x px, .Name y py, .Name z pz] kt pt] (.Tuple [a, b, d] k2 pt2) pos) := fun X ok =>
  PS.imp (ps_par3 ok.calm (by rw [ok.N]; exact ok.nd) (by rw [ok.N]; exact hi) (by rw [ok.N]; exact hj) (by rw [ok.N]; exact hl) hij hil hjl (by rw [ok.sc]; exact hx) (by rw [ok.sc]; exact hy) (by rw [ok.sc]; exact hz) (ha X ok) (hw _ ok.sc) (hs _ ok.sc)) fun En σ H h => by
    obtain ⟨μ, s, env, S, E, q⟩ := h
    obtain ⟨ds, s1, h1, q⟩ := st_ok q
    refine ⟨μ, s, env, ds, s1, S, E, h1, fun vs H1 μ1 x1 S1 r1 => ?_⟩
    split at q
    · cases r1 with
      | cons r r2 =>
      cases r2 with
      | cons r2 r3 =>
      cases r3 with
      | cons r3 r4 =>
      cases r4
      exact ⟨_, _, _, rfl, q _ H1 μ1 x1 S1 ((((E.mono S x1).set r i).set r2 j).set r3 l)⟩
    · exact q.elim
/-! ### range(i, j, -1) -/
theorem rgdD_get {i : Int} {n j : Nat} : (rgdD i n)[j]? = if j < n then some (.int (i - (j : Nat))) else none := by
  unfold rgdD
  rw [List.getElem?_map]
  by_cases h : j < n
  · rw [if_pos h, List.getElem?_range h]; rfl
  · rw [if_neg h, List.getElem?_eq_none (by simpa using h)]; rfl
theorem wk_rgd {i : Int} {n : Nat} : WkOk K (Itc i (-1) n) (.its (rgdD i n)) μ H := fun μ' H' s' ex S' j => by
  refine ⟨fun d hd => ?_, fun hd => ?_⟩
  · have hd : (rgdD i n)[j]? = some d := Option.some.inj hd
    rw [rgdD_get] at hd
    split at hd
    · rename_i hj
      cases hd
      refine ⟨hj, fun x H'' hy => ?_⟩
      obtain ⟨rfl, rfl⟩ := hy
      have e : i + (j : Int) * -1 = i - (j : Nat) := by omega
      rw [e]
      exact ⟨.refl _, .int _⟩
    · cases hd
  · have hd : (rgdD i n)[j]? = none := Option.some.inj hd
    rw [rgdD_get] at hd
    split at hd
    · cases hd
    · rename_i hj
      exact Nat.le_of_not_lt hj
theorem ji_rg3 {p : Pos} {ra : EvA} (hs : c.sc.names.lookup ("range" : Str) = some .globalImplicit) (hm : g.mg ("range" : Str) = none) (ha : JA g c ra [a, b, d]) (hst : noStar a = true := by rfl) (hst2 : noStar b = true := by rfl) (hst3 : noStar d = true := by rfl) : JI g c (iRg3 ra) (.Call (.Name "range" p) [a, b, d] [] pos) := fun X ok tg =>
  PI.imp (pi_range3 (by show X.env.scope.names.lookup _ = _; rw [ok.sc]; exact hs) (by rw [ok.mg]; exact hm) (ha X ok) (star_cons hst _) (by rw [star_cons hst2, star_cons hst3]; rfl)) fun σ H R h => by
    obtain ⟨μ, s, env, w, s', S, E, hv, q⟩ := h
    obtain ⟨ds, s1, h1, hv⟩ := bind_ok hv
    refine ⟨μ, s, env, ds, s1, S, E, h1, fun vs H1 μ1 x1 S1 r1 => ?_⟩
    split at hv
    · split at hv
      · rename_i hb
        cases hv
        cases r1 with
        | cons r r2 =>
        cases r2 with
        | cons r2 r3 =>
        cases r3 with
        | cons r3 r4 =>
        cases r4; cases r; cases r2; cases r3
        obtain ⟨rfl, hb1, hb2⟩ := hb
        exact ⟨_, _, _, _, rfl, RgC.neg (bigI_ok hb1).1 (bigI_ok hb1).2 (bigI_ok hb2).1 (bigI_ok hb2).2, q _ H1 μ1 x1 S1 wk_rgd⟩
      · cases hv
    · cases hv
/-! ### enumerate -/
theorem pi_enumT {X : Cx} {e : Expr} {ta : TA} {p pos tpos : Pos} {elts : List Expr} {kk : Nat} (hg : Gl X "enumerate") (hm : X.mg "enumerate" = none) (ha : PA X [e] ta) (hs : starEach [e] X.env = [(false, eval e X.env)] := by rfl) :
    PI X (.Tuple elts kk tpos) (.Call (.Name "enumerate" p) [e] [] pos) (fun σ H R => ta σ H fun vs H1 => ∃ a xs, vs = [.ref a] ∧ SqT X.K H1 a xs ∧ R (IteT X.K a) H1) := by
  refine ⟨fun pins s σ H R I h => ?_⟩
  refine Call_ (ld_blt I hg hm boot_enumerate (PyProof.Rows.callWith_type1 (thn (ha.run pos pins s σ H _ I h) fun us s1 ⟨vs, H1, I1, r1, q1⟩ => ?_) hs rfl))
  obtain ⟨a, xs, ex, hq, q⟩ := q1
  subst ex
  cases r1 with
  | cons r rr =>
    cases rr
    cases r
    obtain ⟨its, rv, p', hz⟩ := I1.tuple hq
    have pT : s1.heap.IsTuple a its.toArray := p'
    have hal : a < s1.heap.objs.size := by obtain ⟨_, q, _⟩ := id pT; exact Heap.lt_size q
    refine call_enumT pT fun h' he hit hsz hk => wpAny_pyIter_enum he ?_
    have I2 : Inv X pins σ H1 { s1 with heap := h' } := I1.kept (t' := s1.toks) hk
    refine ⟨s1.heap.objs.size + 1, [s1.heap.objs.size + 1, s1.heap.objs.size], _, _, H1, rfl, I2, turn_enumT a (s1.heap.objs.size + 1) s1.heap.objs.size (Nat.ne_of_lt hal), ⟨⟨.none, he⟩, hit, Nat.succ_ne_self _⟩, fun b hb => ?_, q⟩
    have e' : b = s1.heap.objs.size + 1 ∨ b = s1.heap.objs.size := by simpa using hb
    have hle : s1.heap.objs.size ≤ b := by
      rcases e' with z | z
      · rw [z]; exact Nat.le_add_right _ _
      · rw [z]; exact Nat.le_refl _
    exact I1.fpOk hle (I1.hok.fresh hle)
theorem enumD_get {ds : List D} {j : Nat} : (enumD ds)[j]? = (ds[j]?).map fun x => .tup [.int (j : Nat), x] := by
  unfold enumD
  rw [List.getElem?_map, List.getElem?_zipIdx]
  cases ds[j]? <;> simp
theorem wk_enumT {a : Addr} {xs : List V} {ds : List D} (S : Sim K μ H s) (tx : SqT K H a xs) (r : Reps K H μ xs ds) : WkOk K (IteT K a) (.its (enumD ds)) μ H := fun μ' H' s' ex S' j => by
  have tx' : SqT K H' a xs := sqT_keep ex.kt ex.kf tx
  have r' := Reps.keep ex.kt ex.kf ex.pre _ _ r
  refine ⟨fun d hd => ?_, fun hd => ?_⟩
  · have hd : (enumD ds)[j]? = some d := Option.some.inj hd
    rw [enumD_get] at hd
    obtain ⟨y, hy, rfl⟩ := Option.map_eq_some_iff.mp hd
    obtain ⟨v, hv, rv⟩ := r'.get hy
    refine ⟨⟨xs, v, tx', hv⟩, fun x H'' hyl => ?_⟩
    obtain ⟨T, z, rfl, hT, rfl, hz⟩ := hyl
    have ez : z = v := by have := hz xs tx'; rw [hv] at this; exact (Option.some.inj this).symm
    subst ez
    obtain ⟨_, _, rp⟩ := rep_tup S' hT (Reps.cons (.int _) (Reps.cons rv .nil))
    exact ⟨fun b o hb => by rw [upd_ne (fun q => by rw [q, hT] at hb; cases hb)]; exact hb, rp⟩
  · have hd : (enumD ds)[j]? = none := Option.some.inj hd
    rw [enumD_get] at hd
    have : ds[j]? = none := by
      cases h : ds[j]? with
      | none => rfl
      | some y => rw [h] at hd; cases hd
    exact ⟨xs, tx', List.getElem?_eq_none_iff.mp (r'.none_of this)⟩
theorem ji_enum {p tpos : Pos} {ra : EvA} {elts : List Expr} {kk : Nat} (hs : c.sc.names.lookup ("enumerate" : Str) = some .globalImplicit) (hm : g.mg ("enumerate" : Str) = none) (ha : JA g c ra [a]) (hst : noStar a = true := by rfl) : JIt g c (.Tuple elts kk tpos) (iEnum ra) (.Call (.Name "enumerate" p) [a] [] pos) := fun X ok =>
  PI.imp (pi_enumT (by show X.env.scope.names.lookup _ = _; rw [ok.sc]; exact hs) (by rw [ok.mg]; exact hm) (ha X ok) (star_cons hst _)) fun σ H R h => by
    obtain ⟨μ, s, env, w, s', S, E, hv, q⟩ := h
    obtain ⟨ds, s1, h1, hv⟩ := bind_ok hv
    refine ⟨μ, s, env, ds, s1, S, E, h1, fun vs H1 μ1 x1 S1 r1 => ?_⟩
    split at hv
    · cases hv
      cases r1 with
      | cons r r2 =>
      cases r2
      cases r with
      | tup tx rx =>
        exact ⟨_, _, rfl, by rw [ok.K]; exact tx.t, by rw [ok.K]; exact q _ H1 μ1 x1 S1 (wk_enumT S1 tx.t rx)⟩
    · cases hv
/-! ### l.index(x) -/
theorem mt_indexI (hK : X.K = K) : MtR X "list.index" (RmD K indexM) := by
  subst hK
  refine MtR.imp mt_index fun x xs H Q h => ?_
  obtain ⟨μ, s, dx, ds, d, s', S, rx, rs, h, q⟩ := h
  unfold indexM at h
  split at h
  · split at h
    · rename_i ex
      split at h
      · rename_i ns hns
        split at h
        · rename_i i
          split at h
          · rename_i j hj
            cases h
            cases rx with
            | ref rx =>
            cases rs with
            | cons r1 r2 =>
            cases r2
            cases r1
            obtain ⟨hm, vx, hx, px⟩ := Rep.lst_at S (.ref rx) ex
            have ev := ints_rep px hns
            subst ev
            obtain ⟨hj1, hj2, hj3⟩ := List.findIdx?_eq_some_iff_getElem.mp hj
            refine ⟨_, _, _, j, V.int ns[j], rfl, rfl, .of hx, rfl, ?_, ?_, ?_, ?_, q _ _ μ .refl S (.int _)⟩
            · rw [List.all_map]; exact List.all_eq_true.mpr fun _ _ => rfl
            · rw [List.getElem?_map, List.getElem?_eq_getElem hj1]; rfl
            · simpa [eqV] using hj2
            · intro m z hm' hz
              rw [List.getElem?_map, List.getElem?_eq_getElem (by omega)] at hz
              cases hz
              simpa [eqV] using hj3 m hm'
          · cases h
        · cases h
      · cases h
    · cases h
  · cases h
/-! ### x is True -/
theorem op_isBlD (hK : X.K = K) : OpR X (compareOp .Is) (R2D K isBlD) := by
  subst hK
  refine OpR.imp op_is_bl fun x y H Q h => ?_
  obtain ⟨μ, s, dx, dy, d, s', S, rx, ry, h, q⟩ := h
  unfold isBlD at h
  split at h
  · cases h; cases rx; cases ry
    exact ⟨_, _, rfl, rfl, q _ H μ .refl S (.bl _)⟩
  · cases h
theorem op_isnBlD (hK : X.K = K) : OpR X (compareOp .IsNot) (R2D K isnBlD) := by
  subst hK
  refine OpR.imp op_isnot_bl fun x y H Q h => ?_
  obtain ⟨μ, s, dx, dy, d, s', S, rx, ry, h, q⟩ := h
  unfold isnBlD at h
  split at h
  · cases h; cases rx; cases ry
    exact ⟨_, _, rfl, rfl, q _ H μ .refl S (.bl _)⟩
  · cases h
theorem isBlD_bl : ∀ x y s d s', isBlD x y s = .ok d s' → ∃ b, d = .bl b := by
  intro x y s d s' h
  unfold isBlD at h
  split at h
  · cases h; exact ⟨_, rfl⟩
  · cases h
theorem isnBlD_bl : ∀ x y s d s', isnBlD x y s = .ok d s' → ∃ b, d = .bl b := by
  intro x y s d s' h
  unfold isnBlD at h
  split at h
  · cases h; exact ⟨_, rfl⟩
  · cases h
end
end Cs

/-! ## CsMin -/
/-! min(list, key=a def, default=..). -/
namespace Cs
open PySem PySem.Spec PyProof.Rows L2
section
variable {X : Cx}
/-- a def run from inside a built-in -/
theorem run_fn1 {k : Nat} {f : Addr} {fd : FuncData} {ps : List Str} {sp : Sp} {pins : List (Addr × Obj)} {σ : L2.St} {H : Hp} {s : Shared} {Q : VK} {us : List Value} {vs : List V} (F : FnOk X.prog X.w X.K X.mg X.base CX0 k f fd ps sp) (hr : Room k X.A.in1) (hb : Binds X.K fd ps [])
    (I : Inv X pins σ H s) (r : Vals vs us) (h : sp vs H Q E0) : wpAny (model X.prog X.w) X.A.in1 (call (.ref f) us) (EP X pins σ Q) (fun _ _ => False) s := by
  have hl : us.length = ps.length := by rw [← r.length]; exact F.len _ _ _ _ h
  have hl' : (us ++ []).length = ps.length := by rw [List.append_nil]; exact hl
  have hbb := hb s us I.kIn hl'
  rw [List.append_nil] at hbb
  refine wpAny_call (codeAny_mono (F.run X.A.in1 X.stack s H ⟨us, []⟩ us vs Q E0 hr I.env0.in1 hbb r h) fun r s' hq => ?_)
  cases r with
  | error e => exact hq
  | ok fl =>
    cases fl with
    | ret u => exact I.after hq
    | next => exact False.elim hq
    | brk => exact False.elim hq
    | cont => exact False.elim hq
/-- the key's order at H -/
def LtA (X : Cx) (A : Around) (H : Hp) (x y : V) (b : Bool) : Prop := ∀ (pins : List (Addr × Obj)) (σ : L2.St) (s : Shared) (u v : Value), Inv X pins σ H s → RelV x u → RelV y v → Ob.RcOp .Lt A s u v b
def LtAt (X : Cx) (H : Hp) (x y : V) (b : Bool) : Prop := LtA X X.A.in1 H x y b
/-- one turn and all that come: n turns left at the most; b is the best item so far, kb its key -/
def MinStep (X : Cx) (l q : Addr) (Q : VK) : Nat → Nat → Hp → V → V → Prop
  | 0, _, _, _, _ => False
  | n + 1, j, H, b, kb => (∃ xs, SqL X.K H l xs ∧ xs.length ≤ j ∧ Q b H) ∨
    ∃ xs x, SqL X.K H l xs ∧ xs[j]? = some x ∧ ∀ (pins : List (Addr × Obj)) (σ : L2.St) (s : Shared) (u : Value), Inv X pins σ H s → RelV x u →
      wpAny (model X.prog X.w) X.A.in1 (call (.ref q) [u]) (fun w s' => ∃ (kx : V) (H' : Hp) (bb : Bool), Inv X pins σ H' s' ∧ RelV kx w ∧ LtAt X H' kx kb bb ∧
        (if bb = true then MinStep X l q Q n (j + 1) H' x kx else MinStep X l q Q n (j + 1) H' b kb)) (fun _ _ => False) s
theorem fpOk_after {pins pl : List (Addr × Obj)} {σ : L2.St} {H H' : Hp} {s' : Shared} {a : Addr} {o : Obj} (f : FpOk X pins H a) (I : Inv X (pins ++ pl) σ H' s') (hp : (a, o) ∈ pl) : FpOk X pins H' a ∧ s'.heap.get? a = some o := by
  obtain ⟨f0, f1, f2, f3, f4, f5⟩ := f
  obtain ⟨p0, p1, _⟩ := I.pin (a, o) (List.mem_append_right _ (List.mem_append_right _ hp))
  exact ⟨⟨p1, f1, f2, f3, f4, f5⟩, p0⟩
theorem min_loop {l q I S : Addr} {kw : List (Str × Value)} {Q : VK} (hc : X.calm = true) (hlI : l ≠ I) (hlS : l ≠ S) (hSI : S ≠ I) : ∀ (n j : Nat) (pins : List (Addr × Obj)) (σ : L2.St) (H : Hp) (s : Shared) (b kb : V) (vb vkb : Value) (c : Nat),
    MinStep X l q Q n j H b kb → Inv X pins σ H s → FpOk X pins H I → FpOk X pins H S → s.heap.IsListIter I l j → s.heap.get? S = some (seqObj "list" #[vb, vkb] c) → RelV b vb → RelV kb vkb →
    codeAny (model X.prog X.w) X.A (.builtin "min.loop" ⟨[.ref I, .ref q, .ref S], kw⟩) (fun r s' => match r with | .ok (.ret v) => EP X pins σ Q v s' | .ok _ => False | .error e => X.xe e s') s := by
  have hname : (toString "min" ++ toString ".loop" : String) = "min.loop" := by decide
  intro n
  induction n with
  | zero => intro j pins σ H s b kb vb vkb c h; exact h.elim
  | succ n ih =>
    intro j pins σ H s b kb vb vkb c h Iv fI fS hit hS rb rkb
    have nI := fI
    obtain ⟨i0, i1, i2, i3, i4, i5⟩ := fI
    obtain ⟨t0, t1, t2, t3, t4, t5⟩ := fS
    refine codeAny_builtin PySem.F.entry_min_loop ?_
    rw [Around.under_plainId PySem.F.plain_min_loop _]
    show wpAny _ X.A.in1 (seqItems? (.ref S) >>= _) _ _ _
    refine wpAny_bind (wpAny_seqItems hS rfl ?_)
    show wpAny _ X.A.in1 (tryCatch (pyNext (.ref I)) _ >>= _) _ _ _
    rcases h with ⟨xs, hq, hx, hQ⟩ | ⟨xs, x, hq, hx, turn⟩
    · -- the end
      obtain ⟨its, rv, p, hz⟩ := Iv.list hq
      have hl := rv.length
      refine wpAny_bind (wpAny_tryCatch (wpAny_pyNext_list_end (Iv.ok.hd hc) hit p.isList (by simp; omega) fun h' eb => ?_))
      have I1 : Inv X pins σ H { s with heap := h' } := Iv.turned (t' := s.toks) (fun b o hb e => eb b o hb e) i0 i1 i3 i4 i5
      have hS' : h'.get? S = some (seqObj "list" #[vb, vkb] c) := eb S _ hSI hS
      show wpAny _ X.A.in1 (updateSeq S (fun _ => #[]) >>= _) _ _ _
      refine wpAny_bind ?_
      refine wpAny_updateSeq hS' rfl (wpAny_bind (wpAny_letGo (wpAny_pure ?_)))
      have I2 : Inv X pins σ H { s with heap := h'.update S (Obj.mapSeq fun _ => (#[] : Array Value)) } := I1.turned (t' := s.toks) (fun b o hb e => (Heap.SameBut.update h' S _).2 b hb ▸ e) t0 t1 t3 t4 t5
      exact ⟨b, H, I2, rb, hQ⟩
    · -- one more item
      obtain ⟨its, rv, p, hz⟩ := Iv.list hq
      obtain ⟨u, hu, ru⟩ := rv.get hx
      refine wpAny_bind (wpAny_tryCatch (wpAny_pyNext_list_item hit p.isList (x := u) (by simpa using hu) fun h' hit' sb => ?_))
      have I1 : Inv X pins σ H { s with heap := h' } := Iv.turned (t' := s.toks) (fun b o hb e => (sb.2 b hb).trans e) i0 i1 i3 i4 i5
      have hS' : h'.get? S = some (seqObj "list" #[vb, vkb] c) := (sb.2 S hSI).trans hS
      obtain ⟨oI, hoI, hcI, hdI⟩ := id hit'
      have hpS : (S, seqObj "list" #[vb, vkb] c) ∈ pinsAt [S, I] h' := mem_pinsAt (by simp) hS'
      have hpI : (I, oI) ∈ pinsAt [S, I] h' := mem_pinsAt (by simp) hoI
      have IP : Inv X (pins ++ pinsAt [S, I] h') σ H { s with heap := h' } := I1.pinned (fp := [S, I]) (fun b hb => by
        have e : b = S ∨ b = I := by simpa using hb
        rcases e with rfl | rfl
        · exact ⟨t0, t1, t2, t3, t4, t5⟩
        · exact ⟨i0, i1, i2, i3, i4, i5⟩) (fun b hb => by
        have e : b = S ∨ b = I := by simpa using hb
        rcases e with rfl | rfl
        · exact ⟨_, hS', fun v z => nomatch z⟩
        · exact ⟨oI, hoI, fun v z => by rw [hdI] at z; cases z⟩)
      show wpAny _ X.A.in1 (tryCatch (holding [u] (call (.ref q) [u])) _ >>= _) _ _ _
      refine wpAny_bind (wpAny_tryCatch (wpAny_holding (wpAny_mono (turn _ σ _ u IP ru) (fun w s2 he => ?_) fun _ _ hF => hF.elim)))
      obtain ⟨kx, H', bb, I3, rk, lt, nxt⟩ := he
      obtain ⟨fS', gS⟩ := fpOk_after (a := S) ⟨t0, t1, t2, t3, t4, t5⟩ I3 hpS
      obtain ⟨fI', gI⟩ := fpOk_after (a := I) ⟨i0, i1, i2, i3, i4, i5⟩ I3 hpI
      have I4 := I3.unpinned
      have hit2 : s2.heap.IsListIter I l (j + 1) := ⟨oI, gI, hcI, hdI⟩
      show wpAny _ X.A.in1 (tryCatch (holding [u, w] (richCompare .Lt w vkb >>= _)) _ >>= _) _ _ _
      refine wpAny_bind (wpAny_tryCatch (wpAny_holding (wpAny_bind (lt pins σ s2 w vkb I4 rk rkb _ _ _ _ ?_))))
      refine wpAny_bind (wpAny_holding (wpAny_truthy_bool ?_))
      refine wpAny_bind (wpAny_letGo (wpAny_pure ?_))
      cases bb with
      | true =>
        simp only [if_true] at nxt ⊢
        refine wpAny_bind ?_
        refine wpAny_updateSeq gS rfl (wpAny_bind (wpAny_letGo ?_))
        rw [hname]
        obtain ⟨t0', t1', t2', t3', t4', t5'⟩ := id fS'
        have sb2 := Heap.SameBut.update s2.heap S (Obj.mapSeq fun _ => #[u, w])
        have I5 : Inv X pins σ H' { s2 with heap := s2.heap.update S (Obj.mapSeq fun _ => #[u, w]) } := I4.turned (t' := s2.toks) (fun b o hb e => (sb2.2 b hb).trans e) t0' t1' t3' t4' t5'
        refine wpAny_pure ⟨plainId_quiet PySem.F.plain_min_loop _, ih (j + 1) pins σ H' _ x kx u w _ nxt I5 fI' fS' (hit2.at fun o e => (sb2.2 I (Ne.symm hSI)).trans e) (get?_update_seq gS fun _ => #[u, w]) ru rk⟩
      | false =>
        simp only [Bool.false_eq_true, if_false] at nxt ⊢
        refine wpAny_bind (wpAny_letGo ?_)
        rw [hname]
        exact wpAny_pure ⟨plainId_quiet PySem.F.plain_min_loop _, ih (j + 1) pins σ H' _ b kb vb vkb c nxt I4 fI' fS' hit2 gS rb rkb⟩
def MinStart (X : Cx) (l q : Addr) (Q : VK) (n : Nat) (H : Hp) (dv : V) : Prop := (SqL X.K H l [] ∧ Q dv H) ∨
    ∃ xs x, SqL X.K H l xs ∧ xs[0]? = some x ∧ ∀ (pins : List (Addr × Obj)) (σ : L2.St) (s : Shared) (u : Value), Inv X pins σ H s → RelV x u →
      wpAny (model X.prog X.w) X.A.in1 (call (.ref q) [u]) (fun w s' => ∃ (kx : V) (H' : Hp), Inv X pins σ H' s' ∧ RelV kx w ∧ MinStep X l q Q n 1 H' x kx) (fun _ _ => False) s
theorem args_min (a v u : Value) : argsOk "min" ⟨[a], [(Str.ofString "key", v), (Str.ofString "default", u)]⟩ := by unfold argsOk; kernel_rfl
theorem min_run {l q : Addr} {Q : VK} {n : Nat} {pins : List (Addr × Obj)} {σ : L2.St} {H : Hp} {s : Shared} {dv : V} {ud : Value} (hc : X.calm = true) (h : MinStart X l q Q n H dv) (Iv : Inv X pins σ H s) (rd : RelV dv ud) :
    wpAny (model X.prog X.w) X.A (call (.builtin "min") [.ref l] [(Str.ofString "key", .ref q), (Str.ofString "default", ud)]) (EP X pins σ Q) X.xe s := by
  have hname : (toString "min" ++ toString ".loop" : String) = "min.loop" := by decide
  have hsq : ∃ xs, SqL X.K H l xs := by
    rcases h with ⟨h, _⟩ | ⟨xs, x, h, _⟩
    · exact ⟨_, h⟩
    · exact ⟨_, h⟩
  obtain ⟨xs0, hq0⟩ := hsq
  obtain ⟨its, rv, p, hz⟩ := Iv.list hq0
  have hll : l < s.heap.objs.size := by obtain ⟨_, q, _⟩ := id p.isList; exact Heap.lt_size q
  refine kmk_tree PySem.F.kind_min PySem.F.plain_min PySem.F.entry_min (args_min _ _ _) ?_
  show wpAny _ X.A.in1 (Builtin.Builtins.bindParams "min" ["key", "default"] 0 ⟨[], [(Str.ofString "key", .ref q), (Str.ofString "default", ud)]⟩ >>= _) _ _ s
  refine wpAny_bind (wpAny_of_eq (show Builtin.Builtins.bindParams "min" ["key", "default"] 0 ⟨[], [(Str.ofString "key", .ref q), (Str.ofString "default", ud)]⟩ = pure [some (.ref q), some ud] from rfl) ?_)
  refine wpAny_bind (wpAny_pure ?_)
  refine wpAny_bind (wpAny_pyIter_list p.isList ?_)
  refine wpAny_bind (wpAny_newList ?_ (Nat.zero_le _))
  rw [hname]
  have hS : (s.heap.push { cls := .type "list_iterator", data := .fields #[.ref l, .int 0 0] }).objs.size = s.heap.objs.size + 1 := size_push' ..
  refine wpAny_pure ⟨plainId_quiet PySem.F.plain_min_loop _, ?_⟩
  have gI : ((s.heap.push { cls := .type "list_iterator", data := .fields #[.ref l, .int 0 0] }).push (seqObj "list" #[] 0)).get? s.heap.objs.size = some { cls := .type "list_iterator", data := .fields #[.ref l, .int 0 0] } :=
    Heap.get?_push_of_some _ (Heap.get?_push_size _ rfl)
  have gS : ((s.heap.push { cls := .type "list_iterator", data := .fields #[.ref l, .int 0 0] }).push (seqObj "list" #[] 0)).get? (s.heap.objs.size + 1) = some (seqObj "list" #[] 0) := by
    rw [← hS]; exact Heap.get?_push_size _ rfl
  have I1 : Inv X pins σ H { s with heap := (s.heap.push { cls := .type "list_iterator", data := .fields #[.ref l, .int 0 0] }).push (seqObj "list" #[] 0) } := Iv.kept (t' := s.toks) fun b o e => Heap.get?_push_of_some _ (Heap.get?_push_of_some _ e)
  have fI : FpOk X pins H s.heap.objs.size := Iv.fpOk (Nat.le_refl _) (Iv.hok.fresh (Nat.le_refl _))
  have fS : FpOk X pins H (s.heap.objs.size + 1) := Iv.fpOk (Nat.le_succ _) (Iv.hok.fresh (Nat.le_succ _))
  rw [hS]
  have hSI : s.heap.objs.size + 1 ≠ s.heap.objs.size := Nat.succ_ne_self _
  have hlI : l ≠ s.heap.objs.size := Nat.ne_of_lt hll
  have hlS : l ≠ s.heap.objs.size + 1 := Nat.ne_of_lt (Nat.lt_succ_of_lt hll)
  have hit : ((s.heap.push { cls := .type "list_iterator", data := .fields #[.ref l, .int 0 0] }).push (seqObj "list" #[] 0)).IsListIter s.heap.objs.size l 0 := ⟨_, gI, rfl, rfl⟩
  generalize (s.heap.push { cls := .type "list_iterator", data := .fields #[.ref l, .int 0 0] }).push (seqObj "list" #[] 0) = h0 at gI gS I1 hit ⊢
  generalize s.heap.objs.size = I at *
  clear p rv hq0 its xs0 hz
  obtain ⟨i0, i1, i2, i3, i4, i5⟩ := id fI
  obtain ⟨t0, t1, t2, t3, t4, t5⟩ := id fS
  refine codeAny_builtin PySem.F.entry_min_loop ?_
  rw [Around.under_plainId PySem.F.plain_min_loop _]
  show wpAny _ X.A.in1 (seqItems? (.ref (I + 1)) >>= _) _ _ _
  refine wpAny_bind (wpAny_seqItems gS rfl ?_)
  show wpAny _ X.A.in1 (tryCatch (pyNext (.ref I)) _ >>= _) _ _ _
  rcases h with ⟨hq, hQ⟩ | ⟨xs, x, hq, hx, turn⟩
  · obtain ⟨its, rv, p, hz⟩ := I1.list hq
    have hl := rv.length
    refine wpAny_bind (wpAny_tryCatch (wpAny_pyNext_list_end (Iv.ok.hd hc) hit p.isList (by simp at hl; simp [hl]) fun h' eb => ?_))
    have I2 : Inv X pins σ H { s with heap := h' } := I1.turned (t' := s.toks) (fun b o hb e => eb b o hb e) i0 i1 i3 i4 i5
    refine wpAny_bind (wpAny_rule (wpAny_pure ?_))
    exact ⟨dv, H, I2, rd, hQ⟩
  · obtain ⟨its, rv, p, hz⟩ := I1.list hq
    obtain ⟨u, hu, ru⟩ := rv.get hx
    refine wpAny_bind (wpAny_tryCatch (wpAny_pyNext_list_item hit p.isList (x := u) (by simpa using hu) fun h' hit' sb => ?_))
    have I2 : Inv X pins σ H { s with heap := h' } := I1.turned (t' := s.toks) (fun b o hb e => (sb.2 b hb).trans e) i0 i1 i3 i4 i5
    have hS' : h'.get? (I + 1) = some (seqObj "list" #[] 0) := (sb.2 _ hSI).trans gS
    obtain ⟨oI, hoI, hcI, hdI⟩ := id hit'
    have hpS : (I + 1, seqObj "list" #[] 0) ∈ pinsAt [I + 1, I] h' := mem_pinsAt (by simp) hS'
    have hpI : (I, oI) ∈ pinsAt [I + 1, I] h' := mem_pinsAt (by simp) hoI
    have IP : Inv X (pins ++ pinsAt [I + 1, I] h') σ H { s with heap := h' } := I2.pinned (fp := [I + 1, I]) (fun b hb => by
      have e : b = I + 1 ∨ b = I := by simpa using hb
      rcases e with rfl | rfl
      · exact fS
      · exact fI) (fun b hb => by
      have e : b = I + 1 ∨ b = I := by simpa using hb
      rcases e with rfl | rfl
      · exact ⟨_, hS', fun v z => nomatch z⟩
      · exact ⟨oI, hoI, fun v z => by rw [hdI] at z; cases z⟩)
    show wpAny _ X.A.in1 (tryCatch (holding [u] (call (.ref q) [u])) _ >>= _) _ _ _
    refine wpAny_bind (wpAny_tryCatch (wpAny_holding (wpAny_mono (turn _ σ _ u IP ru) (fun w s2 he => ?_) fun _ _ hF => hF.elim)))
    obtain ⟨kx, H', I3, rk, nxt⟩ := he
    obtain ⟨fS', gS'⟩ := fpOk_after (a := I + 1) fS I3 hpS
    obtain ⟨fI', gI'⟩ := fpOk_after (a := I) fI I3 hpI
    have I4 := I3.unpinned
    have hit2 : s2.heap.IsListIter I l 1 := ⟨oI, gI', hcI, hdI⟩
    have sb2 := Heap.SameBut.update s2.heap (I + 1) (Obj.mapSeq fun _ => #[u, w])
    obtain ⟨t0', t1', t2', t3', t4', t5'⟩ := id fS'
    have I5 : Inv X pins σ H' { s2 with heap := s2.heap.update (I + 1) (Obj.mapSeq fun _ => #[u, w]) } := I4.turned (t' := s2.toks) (fun b o hb e => (sb2.2 b hb).trans e) t0' t1' t3' t4' t5'
    show wpAny _ X.A.in1 (updateSeq (I + 1) (fun _ => #[u, w]) >>= _) _ _ _
    refine wpAny_bind ?_
    refine wpAny_updateSeq gS' rfl ?_
    rw [hname]
    exact wpAny_pure ⟨plainId_quiet PySem.F.plain_min_loop _, min_loop hc hlI hlS hSI n 1 pins σ H' _ x kx u w _ nxt I5 fI' fS' (hit2.at fun o e => (sb2.2 I (Ne.symm hSI)).trans e) (get?_update_seq gS' fun _ => #[u, w]) ru rk⟩
end
end Cs

/-! ## CsSim9 -/
namespace Cs
open PySem PySem.Spec PyProof.Rows L2
section
variable {K : PySem.W.Frag} {μ μ' : List Addr} {H H' : Hp} {s s' : Sto} {g : Gb} {c : Cc} {X : Cx} {m ma mb mc : Sem} {e a b d : Expr} {pos : Pos}
theorem lexD_eq : ∀ ns ms : List Int, lexD ns ms = HT.lexLt ns ms
  | [], [] => rfl
  | [], _ :: _ => rfl
  | _ :: _, [] => rfl
  | x :: xs, y :: ys => by
    show (if x = y then lexD xs ys else decide (x < y)) = if x = y then HT.lexLt xs ys else decide (x < y)
    rw [lexD_eq xs ys]
theorem lex_self : ∀ ns : List Int, HT.lexLt ns ns = false
  | [] => rfl
  | x :: xs => by
    show (if x = x then HT.lexLt xs xs else decide (x < x)) = false
    rw [if_pos rfl, lex_self xs]
theorem Vals.two {x y : V} {us : List Value} (r : Vals [x, y] us) : ∃ u v, us = [u, v] ∧ RelV x u ∧ RelV y v := by
  cases r with
  | cons p q =>
    cases q with
    | cons p' q' =>
      cases q'
      exact ⟨_, _, rfl, p, p'⟩
theorem Reps.two {vs : List V} {d e : D} (r : Reps K H μ vs [d, e]) : ∃ x y, vs = [x, y] ∧ Rep K H μ x d ∧ Rep K H μ y e := by
  cases r with
  | cons p q =>
    cases q with
    | cons p' q' =>
      cases q'
      exact ⟨_, _, rfl, p, p'⟩
theorem ints_pyd (s : Sto) (k : Nat) : ∀ {xs : List D} {ns : List Int}, intsD xs = some ns → mapO (pyd s k) xs = some (ns.map PyData.int) := by
  intro xs
  induction xs with
  | nil => intro ns h; cases h; rfl
  | cons x xs ih =>
    intro ns h
    cases x with
    | int i =>
      obtain ⟨cs, h1, rfl⟩ := Option.map_eq_some_iff.mp (show (intsD xs).map (i :: ·) = some ns from h)
      have e : pyd s k (.int i) = some (.int i) := by cases k <;> rfl
      simp only [mapO, e, ih h1, List.map_cons]
    | _ => cases h
theorem eqv_ints' : ∀ (w v : List Int), PyData.eqvAll (w.map .int) (v.map .int) = decide (w = v)
  | [], [] => by simp [PyData.eqvAll]
  | [], y :: v => by simp [PyData.eqvAll]
  | x :: w, [] => by simp [PyData.eqvAll]
  | x :: w, y :: v => by
    have ih := eqv_ints' w v
    simp only [List.map_cons, PyData.eqvAll, PyData.eqv, ih]
    by_cases h : x = y
    · subst h; simp
    · simp [h]
theorem lt_of_repA {A : Around} {x y : V} {dx dy : D} {b : Bool} (hK : X.K = K) (S : Sim K μ H s) (rx : Rep K H μ x dx) (ry : Rep K H μ y dy) (h : keyLt dx dy = some b) (hr : A.units + 64 < cLine) : LtA X A H x y b := by
  subst hK
  unfold keyLt at h
  split at h
  · cases h; cases rx; cases ry
    intro pins σ st u v I ru rv
    obtain ⟨t, rfl⟩ := ru
    obtain ⟨t', rfl⟩ := rv
    exact Ob.RcOp.lt_int _ _ _ _
  · rename_i a xs b' ys
    split at h
    · rename_i ns ms h1 h2
      cases h
      cases rx with
      | tup tx px =>
      cases ry with
      | tup ty py =>
      obtain ⟨x1, x2, rfl, q1, q2⟩ := Reps.two px
      obtain ⟨y1, y2, rfl, w1, w2⟩ := Reps.two py
      have pq : pyd s 12 (.tup xs) = some (.tuple (ns.map .int)) := by show (mapO (pyd s 11) xs).map PyData.tuple = _; rw [ints_pyd s 11 h1]; rfl
      have pw : pyd s 12 (.tup ys) = some (.tuple (ms.map .int)) := by show (mapO (pyd s 11) ys).map PyData.tuple = _; rw [ints_pyd s 11 h2]; rfl
      obtain ⟨l1, b1⟩ := pyd_fit 12 s _ _ pq
      obtain ⟨l2, b2⟩ := pyd_fit 12 s _ _ pw
      have dq : Dp X.K H x2 (.tuple (ns.map .int)) := rep_dp S 12 _ _ _ q2 (by show (mapO (pyd s 11) xs).map PyData.tuple = _; rw [ints_pyd s 11 h1]; rfl)
      have dw : Dp X.K H y2 (.tuple (ms.map .int)) := rep_dp S 12 _ _ _ w2 (by show (mapO (pyd s 11) ys).map PyData.tuple = _; rw [ints_pyd s 11 h2]; rfl)
      cases q1; cases w1
      cases q2 with
      | tup tx2 px2 =>
      cases w2 with
      | tup ty2 py2 =>
      have ex := ints_rep px2 h1
      have ey := ints_rep py2 h2
      subst ex; subst ey
      intro pins σ st u v I ru rv
      cases ru; cases rv
      obtain ⟨its, r1, p1, _⟩ := I.tuple tx.t
      obtain ⟨its2, r2, p2, _⟩ := I.tuple ty.t
      obtain ⟨u1, u2, rfl, ra, rb⟩ := Vals.two r1
      obtain ⟨v1, v2, rfl, rc, rd⟩ := Vals.two r2
      obtain ⟨as, rs1⟩ := Dp.reads I _ _ _ dq rb
      obtain ⟨bs, rs2⟩ := Dp.reads I _ _ _ dw rd
      obtain ⟨t, rfl⟩ := ra
      obtain ⟨t', rfl⟩ := rc
      cases rb; cases rd
      obtain ⟨jts, r3, p3, _⟩ := I.tuple tx2.t
      obtain ⟨jts2, r4, p4, _⟩ := I.tuple ty2.t
      have hu1 : A.units < cLine := by omega
      have hu2 := hr
      have e3 : IntsAre jts ns := Vals.ints r3
      have e4 : IntsAre jts2 ms := Vals.ints r4
      have R := Ob.RcOp.tuples_lt (A := A) (s := st) (items := #[.int a t, .ref _]) (items2 := #[.int b' t', .ref _]) (e := fun j => if j = 0 then (a == b') else PyData.eqv (.tuple (ns.map .int)) (.tuple (ms.map .int))) (r := fun j => if j = 0 then decide (a < b') else HT.lexLt ns ms) p1 p2 hu1 (fun j q1 q2 => by
        rcases j with _ | _ | j
        · exact SeqAt.EqAt.int_int _ _ _ _
        · exact SeqAt.eqAt_reads _ _ _ _ _ _ _ _ rs1 rs2 l1 l2 (by show A.units + 1 + _ < cLine; omega)
        · exact absurd q1 (by simp)) (fun j q1 q2 _ => by
        rcases j with _ | _ | j
        · exact Ob.RcOp.lt_int _ _ _ _
        · intro prog w E Q hq
          exact HT.lt_tupInts (A := A.in1) p3 p4 e3 e4 (by show A.units + 1 < cLine; omega) hq
        · exact absurd q1 (by simp))
      have ez : Ob.lexAt (fun j => if j = 0 then (a == b') else PyData.eqv (.tuple (ns.map .int)) (.tuple (ms.map .int))) (fun j => if j = 0 then decide (a < b') else HT.lexLt ns ms) (decide (2 < 2)) 0 (min 2 2) = (if a = b' then lexD ns ms else decide (a < b')) := by
        show (if (a == b') = true then (if PyData.eqv (.tuple (ns.map .int)) (.tuple (ms.map .int)) = true then decide (2 < 2) else HT.lexLt ns ms) else decide (a < b')) = _
        rw [show PyData.eqv (.tuple (ns.map PyData.int)) (.tuple (ms.map PyData.int)) = PyData.eqvAll (ns.map .int) (ms.map .int) by simp [PyData.eqv], eqv_ints', lexD_eq]
        by_cases q : a = b'
        · subst q
          rw [if_pos (by simp), if_pos rfl]
          by_cases z : ns = ms
          · subst z
            rw [if_pos (by simp), lex_self]; rfl
          · rw [if_neg (by simpa using z)]
        · rw [if_neg (by simpa using q), if_neg q]
      rw [← ez]
      exact R
    · cases h
  · cases h
theorem lt_of_rep {k : Nat} {x y : V} {dx dy : D} {b : Bool} (hK : X.K = K) (S : Sim K μ H s) (rx : Rep K H μ x dx) (ry : Rep K H μ y dy) (h : keyLt dx dy = some b) (hr : Room k X.A.in1) : LtAt X H x y b := lt_of_repA hK S rx ry h hr.units
/-! ### key < key -/
theorem op_ltK (hK : X.K = K) (hu : X.A.units + 64 < cLine) : OpR X (compareOp .Lt) (R2D K ltK) := by
  intro pins st σ H x y v u Q I rx ry h
  obtain ⟨μ, s, dx, dy, d, s', S, qx, qy, h, q⟩ := h
  unfold ltK at h
  split at h
  · rename_i b hb
    cases h
    exact (lt_of_repA hK S qx qy hb hu) pins σ st v u I rx ry X.prog X.w X.xe (EP X pins σ Q) ⟨.bl b, H, I, rfl, q _ H μ .refl S (.bl _)⟩
  · cases h
theorem ltK_bl : ∀ x y s d s', ltK x y s = .ok d s' → ∃ b, d = .bl b := by
  intro x y s d s' h
  unfold ltK at h
  split at h
  · cases h; exact ⟨_, rfl⟩
  · cases h
/-! ### from the plain meaning to the machine's turns -/
theorem minStep_of {lv : Nat} {fa : Addr} {fd : FuncData} {ps : List Str} {f : Fn} {i : Nat} {l : Addr} {Q : VK} {d : D} (hK : X.K = K) (F : FnOk X.prog X.w X.K X.mg X.base CX0 lv fa fd ps (spD K ps.length f)) (hps : ps.length = 1) (hr : Room lv X.A.in1) (hb : Binds X.K fd ps []) :
    ∀ (n j : Nat) (μ : List Addr) (H : Hp) (s s' : Sto) (b kb : V) (db dkb : D), Sim K μ H s → Rep K H μ b db → Rep K H μ kb dkb → μ[i]? = some l → minGo f i n j db dkb s = .ok d s' →
      (∀ v H' μ', Ext μ H μ' H' → Sim K μ' H' s' → Rep K H' μ' v d → Q v H') → MinStep X l fa Q n j H b kb := by
  subst hK
  intro n
  induction n with
  | zero => intro j μ H s s' b kb db dkb S rb rk hi h; cases h
  | succ n ih =>
    intro j μ H s s' b kb db dkb S rb rk hi h hQ
    unfold minGo at h
    split at h
    · rename_i xs ex
      obtain ⟨hm, vx, hx, px⟩ := Rep.lst_at S (.ref hi) ex
      split at h
      · rename_i x hxj
        obtain ⟨v, hv, rv⟩ := px.get hxj
        obtain ⟨dk, s1, h1, h⟩ := bind_ok h
        refine .inr ⟨vx, v, .of hx, hv, fun pins σ st u Iv ru => ?_⟩
        refine wpAny_mono (run_fn1 (Q := fun kx H' => ∃ bb : Bool, LtAt X H' kx kb bb ∧ (if bb = true then MinStep X l fa Q n (j + 1) H' v kx else MinStep X l fa Q n (j + 1) H' b kb)) F hr hb Iv (.cons ru .nil) ⟨by rw [hps]; rfl, μ, s, [x], dk, s1, S, .cons rv .nil, h1, fun kx H1 μ1 x1 S1 rkx => ?_⟩) (fun w s2 he => ?_) fun _ _ hF => hF
        · have hi1 := x1.pre i l hi
          split at h
          · rename_i hlt
            exact ⟨true, lt_of_rep rfl S1 rkx (rk.mono S x1) hlt hr, by rw [if_pos rfl]; exact ih (j + 1) μ1 H1 s1 s' v kx x dk S1 (rv.mono S x1) rkx hi1 h fun v H' μ' x2 => hQ v H' μ' (x1.trans x2)⟩
          · rename_i hlt
            exact ⟨false, lt_of_rep rfl S1 rkx (rk.mono S x1) hlt hr, by rw [if_neg (by decide)]; exact ih (j + 1) μ1 H1 s1 s' b kb db dkb S1 (rb.mono S x1) (rk.mono S x1) hi1 h fun v H' μ' x2 => hQ v H' μ' (x1.trans x2)⟩
          · cases h
        · obtain ⟨kx, H1, I1, rkx, bb, lt, nx⟩ := he
          exact ⟨kx, H1, bb, I1, rkx, lt, nx⟩
      · rename_i hxj
        cases h
        exact .inl ⟨vx, .of hx, List.getElem?_eq_none_iff.mp (px.none_of hxj), hQ b H μ .refl S rb⟩
    · cases h
theorem je_min {lv : Nat} {x : Str} {ps : List Str} {f : Fn} {me md : Sem} {e d : Expr} {p p2 kp kp2 : Pos} (F : FnS g lv x ps f) (hl : lv + 1 ≤ c.lv) (hps : ps.length = 1) (hx : c.sc.names.lookup x = some .globalImplicit) (hs : c.sc.names.lookup ("min" : Str) = some .globalImplicit) (hm : g.mg ("min" : Str) = none)
    (he : JE g c me e) (hd : JE g c md d) (hst : noStar e = true := by rfl) (hdb : (x == ("__debug__" : Str)) = false := by decide)
    (hks : ∀ X : Cx, (backToKw pos (keywordEach [⟨some "key", .Name x p2, kp⟩, ⟨some "default", d, kp2⟩] X.env)).filterMap (·.1) = [Str.ofString "key", Str.ofString "default"] := by intro _; rfl)
    (hall : ∀ X : Cx, (backToKw pos (keywordEach [⟨some "key", .Name x p2, kp⟩, ⟨some "default", d, kp2⟩] X.env)).all (·.1.isSome) = true := by intro _; rfl)
    (hnone : ∀ X : Cx, (backToKw pos (keywordEach [⟨some "key", .Name x p2, kp⟩, ⟨some "default", d, kp2⟩] X.env)).any (·.1.isNone) = false := by intro _; rfl) :
    JE g c (xMinK f me md) (.Call (.Name "min" p) [e] [⟨some "key", .Name x p2, kp⟩, ⟨some "default", d, kp2⟩] pos) := by
  obtain ⟨fa, fd, hmf, hk, hb, hF⟩ := F.ex
  refine je_mk (fun X ok => ?_) (by intro _ _; rfl)
  have hF' : FnOk X.prog X.w X.K X.mg X.base CX0 lv fa fd ps (spD g.K ps.length f) := by
    rw [ok.prog, ok.w, ok.K, ok.mg, ok.base]; exact hF
  have hr : Room lv X.A.in1 := (ok.room.mono hl).in1
  have cr : CallRK X (.builtin "min") [Str.ofString "key", Str.ofString "default"] (fun vs zs H Q => ∃ l dv n, vs = [.ref l] ∧ zs = [.ref fa, dv] ∧ MinStart X l fa Q n H dv) := by
    intro pins s σ H xs zs us ws Q I rx rz h
    obtain ⟨l, dv, n, rfl, rfl, h⟩ := h
    obtain ⟨u, w, rfl, rf, rd⟩ := Vals.two rz
    cases rx with
    | cons r rr =>
    cases rr
    cases r
    cases rf
    exact min_run ok.calm h I rd
  have ha : JA g c (aCons me aNil) [e] := ja_cons he ja_nil hst
  refine PE.imp (pe_callBK cr (by show X.env.scope.names.lookup _ = _; rw [ok.sc]; exact hs) (by rw [ok.mg]; exact hm) (by decide +kernel) (ha X ok)
    (pk_cons (pe_glob (v := V.ref fa) (by show X.env.scope.names.lookup x = _; rw [ok.sc]; exact hx) (by rw [ok.mg]; exact hmf) rfl hdb) (pk_cons (hd X ok).1 pk_nil)) (by decide) (by decide) (by rw [star_cons hst]; rfl) (by rw [star_cons hst]; rfl) (hall X) (hnone X) (hks X)) fun σ H Q h => ?_
  obtain ⟨μ, s, env, dd, s', S, E, hv0, q⟩ := h
  obtain ⟨dx, s1, h1, hv1⟩ := bind_ok hv0
  obtain ⟨dy, s2, h2, hv2⟩ := bind_ok hv1
  have hbX : Binds X.K fd ps [] := by rw [ok.K]; exact hb
  refine ⟨μ, s, env, [dx], s1, S, E, by show (me.v env s).bind _ = _; rw [h1]; rfl, fun vs H1 μ1 x1 S1 r1 => ?_⟩
  refine ⟨μ1, s1, env, dy, s2, S1, E.mono S x1, h2, fun vy H2 μ2 x2 S2 r2 => ?_⟩
  clear hv0 hv1
  cases r1 with
  | cons r rr =>
  cases rr
  cases dx with
  | ref i =>
    have hv2 : (match s2.get i with
      | some (.lst []) => R.ok dy s2
      | some (.lst (x :: _)) => (f [x] s2).bind fun kx s => minGo f i 1000000 1 x kx s
      | _ => R.no) = .ok dd s' := hv2
    cases r with
    | @ref _ l hi =>
    have hi2 := x2.pre i l hi
    cases ho : s2.get i with
    | none => rw [ho] at hv2; cases hv2
    | some o =>
      rw [ho] at hv2
      cases o with
      | dct _ => cases hv2
      | lst xs =>
        obtain ⟨hm', vx, hx', px⟩ := Rep.lst_at S2 (.ref hi2) ho
        cases xs with
        | nil =>
          cases hv2
          cases px
          exact ⟨l, vy, 0, rfl, rfl, .inl ⟨.of hx', q vy H2 μ2 (x1.trans x2) S2 r2⟩⟩
        | cons x0 xs0 =>
          cases px with
          | @cons v vs' _ _ rv rest =>
          obtain ⟨dk, s3, h3, hv3⟩ := bind_ok hv2
          refine ⟨l, vy, 1000000, rfl, rfl, .inr ⟨_, v, .of hx', rfl, fun pins σ st u Iv ru => ?_⟩⟩
          refine wpAny_mono (run_fn1 (Q := fun kx H' => MinStep X l fa Q 1000000 1 H' v kx) hF' hr hbX Iv (.cons ru .nil) ⟨by rw [hps]; rfl, μ2, s2, [x0], dk, s3, S2, .cons rv .nil, h3, fun kx H3 μ3 x3 S3 rkx => ?_⟩) (fun w st2 he => he) fun _ _ hF => hF
          exact minStep_of ok.K hF' hps hr hbX 1000000 1 μ3 H3 s3 s' v kx x0 dk S3 (rv.mono S2 x3) rkx (x3.pre i l hi2) hv3 fun v H' μ' x4 => q v H' μ' (((x1.trans x2).trans x3).trans x4)
  | _ => cases hv2
/-! ### {} -/
theorem rep_dct {p : Addr} (S : Sim K μ H s) (hp : H p = none) :
    Ext μ H (μ ++ [p]) (upd H p (.dK [])) ∧ Sim K (μ ++ [p]) (upd H p (.dK [])) (s.add (.dct [])) ∧ Rep K (upd H p (.dK [])) (μ ++ [p]) (.ref p) (.ref s.n) := by
  have sm : Same H (upd H p (.dK [])) := fun b x e => by
    rw [upd_ne (ne_of_none e hp)]; exact e
  have np : p ∉ μ := S.nomem fun ys z => by rw [hp] at z; cases z
  have pre : ∀ (i : Nat) (a : Addr), μ[i]? = some a → (μ ++ [p])[i]? = some a := fun i a h => by
    rw [List.getElem?_append_left]
    · exact h
    · exact (List.getElem?_eq_some_iff.mp h).1
  have ex : Ext μ H (μ ++ [p]) (upd H p (.dK [])) := ⟨pre, fun a o h _ => sm a o h, fun a h n => by
    rcases List.mem_append.mp h with h | h
    · exact absurd h n
    · rw [List.mem_singleton.mp h]; exact hp, fun a o vs h => sm a _ h⟩
  refine ⟨ex, ⟨?_, ?_, fun i a h => ?_, fun i hi => ?_⟩, .ref ?_⟩
  · rw [List.length_append, S.nx]; rfl
  · rw [List.nodup_append]
    exact ⟨S.nd, by simp, fun a ha b hb e => np (by rw [List.mem_singleton.mp hb] at e; rw [← e]; exact ha)⟩
  · rw [Sto.get_add]
    by_cases hi : i = s.n
    · rw [if_pos hi]
      rw [hi, ← S.nx, List.getElem?_append_right (Nat.le_refl _), Nat.sub_self] at h
      have e : p = a := by simpa using h
      subst e
      exact ⟨_, rfl, upd_same⟩
    · rw [if_neg hi]
      have hl : i < μ.length := by
        have := (List.getElem?_eq_some_iff.mp h).1
        rw [List.length_append, S.nx] at this
        have e1 : ([p] : List Addr).length = 1 := rfl
        rw [S.nx]; omega
      rw [List.getElem?_append_left hl] at h
      obtain ⟨o, e, q⟩ := S.ob i a h
      refine ⟨o, e, ?_⟩
      cases o with
      | lst ds => obtain ⟨ys, e1, r1⟩ := q; exact ⟨ys, sm _ _ e1, r1.mono S ex⟩
      | dct kvs => exact q.move (fun o h => sm _ _ h) fun d v r => r.mono S ex
  · rw [Sto.get_add, if_neg (by rw [Sto.n_add] at hi; omega)]
    exact S.up i (by rw [Sto.n_add] at hi; omega)
  · rw [← S.nx, List.getElem?_append_right (Nat.le_refl _), Nat.sub_self]; rfl
theorem je_dict0 : JE g c xDict0 (.Dict [] [] pos) := je_mk (fun X ok => PE.imp pe_dnewK fun σ H Q h => by
  obtain ⟨μ, s, env, d, s', S, E, hv, q⟩ := h
  cases hv
  intro p hp
  obtain ⟨x1, S1, r1⟩ := rep_dct S hp
  exact q _ _ _ x1 S1 r1) (by intro _ _; rfl)
end
end Cs

/-! ## CsSort -/
/-! sorted(list, key=a def). -/
namespace Cs
open PySem PySem.Spec PyProof.Rows L2 PySem.W
section
variable {X : Cx}
/-- a def run from inside a built-in that a built-in called -/
theorem run_fn2 {k : Nat} {f : Addr} {fd : FuncData} {ps : List Str} {sp : Sp} {pins : List (Addr × Obj)} {σ : L2.St} {H : Hp} {s : Shared} {Q : VK} {us : List Value} {vs : List V} (F : FnOk X.prog X.w X.K X.mg X.base CX0 k f fd ps sp) (hr : Room k X.A.in1.in1) (hb : Binds X.K fd ps [])
    (I : Inv X pins σ H s) (r : Vals vs us) (h : sp vs H Q E0) : wpAny (model X.prog X.w) X.A.in1.in1 (call (.ref f) us) (EP X pins σ Q) (fun _ _ => False) s := by
  have hl : us.length = ps.length := by rw [← r.length]; exact F.len _ _ _ _ h
  have hl' : (us ++ []).length = ps.length := by rw [List.append_nil]; exact hl
  have hbb := hb s us I.kIn hl'
  rw [List.append_nil] at hbb
  refine wpAny_call (codeAny_mono (F.run X.A.in1.in1 X.stack s H ⟨us, []⟩ us vs Q E0 hr I.env0.in1.in1 hbb r h) fun r s' hq => ?_)
  cases r with
  | error e => exact hq
  | ok fl =>
    cases fl with
    | ret u => exact I.after hq
    | next => exact False.elim hq
    | brk => exact False.elim hq
    | cont => exact False.elim hq
/-- two records of ours have changed, one of them is tracked from now on -/
theorem Inv.track {pins : List (Addr × Obj)} {σ : L2.St} {H : Hp} {s : Shared} {h' : Heap} {a b : Addr} {o : HO} {t' : Nat} (I : Inv X pins σ H s) (fa : FpOk X pins H a) (fb : FpOk X pins H b)
    (k : ∀ c u, c ≠ a → c ≠ b → s.heap.get? c = some u → h'.get? c = some u) (new : ObjOk X.prog X.w (upd H a o) h' a o) : Inv X pins σ (upd H a o) { s with heap := h', toks := t' } := by
  obtain ⟨a0, a1, a2, a3, a4, a5⟩ := fa
  obtain ⟨b0, b1, b2, b3, b4, b5⟩ := fb
  have nc : ∀ c : Addr, c ∉ [a, b] → c ≠ a ∧ c ≠ b := fun c h => ⟨fun e => h (by simp [e]), fun e => h (by simp [e])⟩
  refine I.step (g' := s.gens) (d' := s.drawn) (ch := [a, b]) (fun c hc => ?_) (fun c u _ _ hc e _ => k c u (nc c hc).1 (nc c hc).2 e) (fun c u _ _ hc e _ => ⟨u.slots, k c u (nc c hc).1 (nc c hc).2 e⟩) (fun c u hc _ n => by rw [upd_ne (nc c hc).1]; exact n)
    (fun c u hc e => ⟨u, k c u (nc c hc).1 (nc c hc).2 e⟩) (fun c xs q => by rw [upd_ne (ne_of_none q a0)]; exact q) (fun c u xs q => by rw [upd_ne (ne_of_none q a0)]; exact q) (fun c ps e => ⟨#[], by rw [upd_ne (ne_of_none e a0), e]; simp⟩) (fun m hm => ?_) (fun c u e => ?_) I.bare
  · have e : c = a ∨ c = b := by simpa using hc
    rcases e with rfl | rfl
    · exact ⟨a3, a1, a4, a5⟩
    · exact ⟨b3, b1, b4, b5⟩
  · obtain ⟨u, es, ep, hu, r⟩ := hm
    exact ⟨u, es, ep, k _ u (Ne.symm a1) (Ne.symm b1) hu, r⟩
  · by_cases hc : c = a
    · subst hc
      rw [upd_same] at e
      cases e
      exact new
    · rw [upd_ne hc] at e
      have nb : ∀ d w, H d = some w → d ≠ a ∧ d ≠ b := fun d w z => ⟨ne_of_none z a0, ne_of_none z b0⟩
      refine (I.hok c u e).stay (fun d v hd q => ?_) (fun d q => by rw [upd_ne (ne_of_none q a0)]; exact q) fun d xs q => by rw [upd_ne (ne_of_none q a0)]; exact q
      rcases hd with z | z
      · rw [z] at q ⊢; exact k c v (nb c u e).1 (nb c u e).2 q
      · exact k d v (nb d _ z).1 (nb d _ z).2 q
end
section
variable {X : Cx} {K : PySem.W.Frag} {μ : List Addr} {H : Hp}
theorem kpd_pyd (s : Sto) {d : D} {p : PyData} (h : kpd d = some p) : pyd s 12 d = some p ∧ p.depth ≤ 2 := by
  unfold kpd at h
  split at h
  · cases h; exact ⟨rfl, Nat.zero_le _⟩
  · rename_i a xs
    obtain ⟨ns, h1, rfl⟩ := Option.map_eq_some_iff.mp h
    refine ⟨?_, ?_⟩
    · show (mapO (pyd s 11) [.int a, .tup xs]).map PyData.tuple = _
      have e1 : pyd s 11 (.tup xs) = some (.tuple (ns.map .int)) := by show (mapO (pyd s 10) xs).map PyData.tuple = _; rw [ints_pyd s 10 h1]; rfl
      have e2 : pyd s 11 (.int a) = some (.int a) := rfl
      simp only [mapO, e1, e2]
      rfl
    · have e : ∀ l : List Int, PyData.depthAll (l.map .int) = 0 := by
        intro l
        induction l with
        | nil => rfl
        | cons x l ih => show max 0 (PyData.depthAll (l.map .int)) = 0; rw [ih]; rfl
      show max 0 (max (PyData.depthAll (ns.map .int) + 1) 0) + 1 ≤ 2
      rw [e]
      decide
  · cases h
theorem okKeys_all {ds : List PyData} (h : okKeys ds = true) : AllAlike ds ∧ Sortable ds := by
  unfold okKeys at h
  rw [Bool.and_eq_true, Bool.or_eq_true] at h
  obtain ⟨h1, h2⟩ := h
  refine ⟨fun d hd e he => List.all_eq_true.mp (List.all_eq_true.mp h1 d hd) e he, ?_⟩
  rcases h2 with h2 | h2
  · left
    intro d hd
    have q := List.all_eq_true.mp h2 d hd
    unfold isTupD at q
    split at q
    · rename_i x r; exact ⟨x, r, rfl⟩
    · cases q
  · right
    intro d hd
    have q := List.all_eq_true.mp h2 d hd
    unfold isAtm at q
    split at q
    · exact ⟨(fun z => nomatch z), (fun xs z => nomatch z)⟩
    · cases q
theorem keysGo_len {f : Fn} : ∀ {xs : List D} {s s' : Sto} {ds : List PyData}, keysGo f xs s = .ok ds s' → ds.length = xs.length
  | [], s, s', ds, h => by cases h; rfl
  | x :: xs, s, s', ds, h => by
    obtain ⟨k, s1, h1, h⟩ := bind_ok h
    split at h
    · obtain ⟨es, s2, h2, h⟩ := bind_ok h
      cases h
      rw [List.length_cons, List.length_cons, keysGo_len h2]
    · cases h
/-- the key dk at H, told as p -/
def KeyR (K : PySem.W.Frag) (H : Hp) (μ : List Addr) (v : Value) (p : PyData) : Prop := ∃ (kx : V) (dk : D), RelV kx v ∧ Rep K H μ kx dk ∧ kpd dk = some p
theorem KeyR.mono {s : Sto} {μ' : List Addr} {H' : Hp} (S : Sim K μ H s) (x : Ext μ H μ' H') {v : Value} {p : PyData} (h : KeyR K H μ v p) : KeyR K H' μ' v p :=
  let ⟨kx, dk, r, q, e⟩ := h; ⟨kx, dk, r, q.mono S x, e⟩
theorem each_map' {α β : Type} {R R' : α → β → Prop} (f : ∀ a b, R a b → R' a b) : ∀ {as : List α} {bs : List β}, EachIs R as bs → EachIs R' as bs
  | _, _, .nil => .nil
  | _, _, .cons h t => .cons (f _ _ h) (each_map' f t)
theorem each_one {α β : Type} {R : α → β → Prop} {x : α} {y : β} (hxy : R x y) : ∀ {as : List α} {bs : List β}, EachIs R as bs → EachIs R (as ++ [x]) (bs ++ [y])
  | _, _, .nil => .cons hxy .nil
  | _, _, .cons h t => .cons h (each_one hxy t)
theorem each_right {α β : Type} {R : α → β → Prop} : ∀ {as : List α} {bs : List β}, EachIs R as bs → ∀ b ∈ bs, ∃ a, R a b
  | _, _, .nil, b, hb => by simp at hb
  | _, _, .cons h t, b, hb => by
    rcases List.mem_cons.mp hb with rfl | hb
    · exact ⟨_, h⟩
    · exact each_right t b hb
/-- an item: what it is, with its key -/
def ItR (K : PySem.W.Frag) (H : Hp) (μ : List Addr) (v : Value) (p : D × PyData) : Prop := ∃ x : V, RelV x v ∧ Rep K H μ x p.1
theorem items_each : ∀ {vx : List V} {vs : List Value} {xs : List D} {ds : List PyData}, Vals vx vs → Reps K H μ vx xs → ds.length = xs.length → EachIs (ItR K H μ) vs (xs.zip ds)
  | _, _, _, ds, .nil, .nil, _ => by rw [List.zip_nil_left]; exact .nil
  | _, _, _, [], .cons r rs, .cons p ps, h => by simp at h
  | _, _, _, d :: ds, .cons r rs, .cons p ps, h => by
    rw [List.zip_cons_cons]
    exact .cons ⟨_, r, p⟩ (items_each rs ps (by simpa using h))
theorem each_items : ∀ {vs : List Value} {bs : List (D × PyData)}, EachIs (ItR K H μ) vs bs → ∃ vx : List V, Vals vx vs ∧ Reps K H μ vx (bs.map (·.1))
  | _, _, .nil => ⟨[], .nil, .nil⟩
  | _, _, .cons h t => by
    obtain ⟨x, r, p⟩ := h
    obtain ⟨vx, rs, ps⟩ := each_items t
    exact ⟨x :: vx, .cons r rs, .cons p ps⟩
theorem zip_snd : ∀ {xs : List D} {ds : List PyData}, ds.length = xs.length → (xs.zip ds).map (fun p => p.2) = ds
  | [], [], _ => rfl
  | x :: xs, d :: ds, h => by
    rw [List.zip_cons_cons, List.map_cons, zip_snd (by simpa using h)]
theorem sort_run {l fa : Addr} {lv : Nat} {fd : FuncData} {ps : List Str} {f : Fn} (hK : X.K = K) (F : FnOk X.prog X.w X.K X.mg X.base CX0 lv fa fd ps (spD K ps.length f)) (hps : ps.length = 1) (hr : Room lv X.A.in1.in1) (hb : Binds X.K fd ps [])
    {pins : List (Addr × Obj)} {σ : L2.St} {s : Shared} (Iv : Inv X pins σ H s) {vx : List V} (hl : SqL X.K H l vx) {st st' : Sto} (S : Sim K μ H st) {xs : List D} (px : Reps K H μ vx xs) {kz : List PyData} (hk : keysGo f xs st = .ok kz st') (hok : okKeys kz = true) {Q : VK}
    (q : ∀ ys p H' μ', Ext μ H μ' H' → Sim K μ' H' st' → Reps K H' μ' ys (sortBy kz xs) → H' p = none → Q (.ref p) (upd H' p (.lst ys))) :
    wpAny (model X.prog X.w) X.A (call (.builtin "sorted") [.ref l] [(Str.ofString "key", .ref fa)]) (EP X pins σ Q) X.xe s := by
  subst hK
  obtain ⟨vs, rv, p, hz⟩ := Iv.list hl
  have hlen : vs.length = vx.length := rv.length.symm
  have hxl : vx.length = xs.length := px.length
  have hkl := keysGo_len hk
  have hL : vs.length ≤ sizeLine := by omega
  refine sorted_of_sort p.isList hL (ksk_s1 _ _) (fun _ => ksk_l1 _ _) fun E' => ?_
  rw [ksk_t1]
  have fA : FpOk X pins H (s.heap.objs.size + 1) := Iv.fpOk (Nat.le_succ _) (Iv.hok.fresh (Nat.le_succ _))
  have I1 : Inv X pins σ H { s with heap := sortingHeap (copyHeap s.heap vs) (s.heap.objs.size + 1) vs } := Iv.kept (t' := s.toks) fun b o e => sorting_copy_old e
  have hoA := copyHeap_at s.heap vs
  obtain ⟨e1, ho1⟩ : ∃ e1, ((copyHeap s.heap vs).update (s.heap.objs.size + 1) (Obj.mapSeq fun _ => (#[] : Array Value))).get? (s.heap.objs.size + 1) = some (seqObj "list" #[] e1) := ⟨_, get?_update_seq hoA fun _ => #[]⟩
  have hcs1 : s.heap.objs.size + 1 < (copyHeap s.heap vs).objs.size := Heap.lt_size hoA
  have hcs : s.heap.objs.size ≤ (copyHeap s.heap vs).objs.size := Nat.le_of_lt (Nat.lt_of_succ_lt hcs1)
  generalize hAdef : s.heap.objs.size + 1 = A at *
  generalize copyHeap s.heap vs = h0 at *
  unfold ksk_tree
  refine wpAny_bind (listItems_at hoA rfl ?_)
  refine wpAny_bind (listUpdate_at hoA rfl ?_ (by rw [List.size_toArray]; exact hL) (Nat.zero_le _))
  refine wpAny_bind (seqEpoch_at ho1 rfl ?_)
  refine wpAny_bind (wpAny_newTuple ?_ (by show vs.length ≤ _; exact hL))
  refine wpAny_bind (wpAny_newList ?_ (Nat.zero_le _))
  refine wpAny_holding ?_
  have hkS : ((h0.update A (Obj.mapSeq fun _ => (#[] : Array Value))).push (seqObj "tuple" vs.toArray 0)).objs.size = h0.objs.size + 1 := by rw [size_push', Heap.size_update]
  have hoA3 : (((h0.update A (Obj.mapSeq fun _ => (#[] : Array Value))).push (seqObj "tuple" vs.toArray 0)).push (seqObj "list" #[] 0)).get? A = some (seqObj "list" #[] e1) := Heap.get?_push_of_some _ (Heap.get?_push_of_some _ ho1)
  have hoS3 : (((h0.update A (Obj.mapSeq fun _ => (#[] : Array Value))).push (seqObj "tuple" vs.toArray 0)).push (seqObj "list" #[] 0)).get? (h0.objs.size + 1) = some (seqObj "list" #[] 0) := by rw [← hkS]; exact Heap.get?_push_size _ rfl
  show wpAny _ X.A.in1.in1 (ksk_rest A (.ref fa) false vs.toArray e1 (.ref ((h0.update A (Obj.mapSeq fun _ => (#[] : Array Value))).push (seqObj "tuple" vs.toArray 0)).objs.size)) _ E' { s with heap := ((h0.update A (Obj.mapSeq fun _ => (#[] : Array Value))).push (seqObj "tuple" vs.toArray 0)).push (seqObj "list" #[] 0) }
  rw [hkS]
  have fS : FpOk X pins H (h0.objs.size + 1) := Iv.fpOk (by omega) (Iv.hok.fresh (by omega))
  have I3 : Inv X pins σ H { s with heap := ((h0.update A (Obj.mapSeq fun _ => (#[] : Array Value))).push (seqObj "tuple" vs.toArray 0)).push (seqObj "list" #[] 0) } := I1
  have hSA : h0.objs.size + 1 ≠ A := by omega
  generalize ((h0.update A (Obj.mapSeq fun _ => (#[] : Array Value))).push (seqObj "tuple" vs.toArray 0)).push (seqObj "list" #[] 0) = h3 at *
  generalize h0.objs.size + 1 = B at *
  clear hoA ho1 hkS hcs hcs1 hAdef I1 p
  unfold ksk_rest
  refine wpAny_bind (wpAny_rule ?_)
  rw [List.forIn_toArray]
  refine wpAny_bind (ksk_fold (fun i s' => ∃ (H' : Hp) (μ' : List Addr) (sj : Sto) (kA : Array Value) (e : Nat) (don rest : List PyData), Inv X pins σ H' s' ∧ FpOk X pins H' A ∧ FpOk X pins H' B ∧ s'.heap.get? B = some (seqObj "list" kA e) ∧ s'.heap.get? A = some (seqObj "list" #[] e1) ∧
      Ext μ H μ' H' ∧ Sim X.K μ' H' sj ∧ EachIs (KeyR X.K H' μ') kA.toList don ∧ don.length = i ∧ kz = don ++ rest ∧ keysGo f (xs.drop i) sj = .ok rest st') vs 0 _
    ⟨H, μ, st, #[], 0, [], kz, I3, fA, fS, hoS3, hoA3, .refl, S, .nil, rfl, rfl, hk⟩ ?step ?done)
  case step =>
    rintro j u s' hu ⟨H', μ', sj, kA, e, don, rest, I, fa', fb', nB, nA, ex, Sj, hkA, hdl, hkz, hgo⟩
    simp only [Nat.zero_add] at *
    have hj : j < vs.length := (List.getElem?_eq_some_iff.mp hu).1
    have hjx : j < xs.length := by omega
    obtain ⟨x, hx, hrx⟩ := px.get (List.getElem?_eq_getElem hjx)
    have hru : RelV x u := by
      obtain ⟨u', hu', r'⟩ := rv.get hx
      rw [hu] at hu'; cases hu'
      exact r'
    rw [List.drop_eq_getElem_cons hjx] at hgo
    obtain ⟨dk, s1, h1, hgo⟩ := bind_ok hgo
    split at hgo
    · rename_i pk hpk
      obtain ⟨rest', s2, h2, hgo⟩ := bind_ok hgo
      cases hgo
      have hpB : (B, seqObj "list" kA e) ∈ pinsAt [B, A] s'.heap := mem_pinsAt (by simp) nB
      have hpA : (A, seqObj "list" #[] e1) ∈ pinsAt [B, A] s'.heap := mem_pinsAt (by simp) nA
      have IP : Inv X (pins ++ pinsAt [B, A] s'.heap) σ H' s' := I.pinned (fp := [B, A]) (fun b hb => by
        have e : b = B ∨ b = A := by simpa using hb
        rcases e with rfl | rfl
        · exact fb'
        · exact fa') (fun b hb => by
        have e : b = B ∨ b = A := by simpa using hb
        rcases e with rfl | rfl
        · exact ⟨_, nB, fun v z => nomatch z⟩
        · exact ⟨_, nA, fun v z => nomatch z⟩)
      refine wpAny_bind (wpAny_attempt (wpAny_mono (run_fn2 (Q := fun kx H2 => ∃ μ2, Ext μ' H' μ2 H2 ∧ Sim X.K μ2 H2 s1 ∧ Rep X.K H2 μ2 kx dk) F hr hb IP (.cons hru .nil) ⟨by rw [hps]; rfl, μ', sj, [xs[j]], dk, s1, Sj, .cons (hrx.mono S ex) .nil, h1, fun kx H2 μ2 x2 S2 r2 => ⟨μ2, x2, S2, r2⟩⟩) (fun w s2' he => ?_) fun _ _ hF => hF.elim))
      obtain ⟨kx, H2, I4, rk, μ2, x2, S2, r2⟩ := he
      obtain ⟨fB2, gB⟩ := fpOk_after (a := B) fb' I4 hpB
      obtain ⟨fA2, gA⟩ := fpOk_after (a := A) fa' I4 hpA
      have I5 := I4.unpinned
      have hkl2 : kA.size = j := by
        have := hkA.length
        rw [Array.length_toList] at this
        omega
      have sB := Heap.SameBut.update s2'.heap B (Obj.mapSeq (·.push w))
      obtain ⟨c2, hc2⟩ : ∃ c2, (s2'.heap.update B (Obj.mapSeq (·.push w))).get? B = some (seqObj "list" (kA.push w) c2) := ⟨_, get?_update_seq gB (·.push w)⟩
      have hs1 : kA.size ≤ sizeLine := by omega
      refine wpAny_bind (listUpdate_at gB rfl ?_ hs1 (Nat.le_trans (Nat.le_of_eq (Array.size_push ..)) (Nat.succ_le_succ hs1)))
      obtain ⟨b0, b1, b2, b3, b4, b5⟩ := id fB2
      have I6 : Inv X pins σ H2 { s2' with heap := s2'.heap.update B (Obj.mapSeq (·.push w)) } := I5.turned (t' := s2'.toks) (fun b o hb e => (sB.2 b hb).trans e) b0 b1 b3 b4 b5
      refine wpAny_pure ⟨rfl, H2, μ2, s1, kA.push w, c2, don ++ [pk], rest', I6, fA2, fB2, hc2, (sB.2 A (Ne.symm hSA)).trans gA, ex.trans x2, S2, ?_, by rw [List.length_append, hdl]; rfl, by rw [hkz, List.append_assoc]; rfl, h2⟩
      rw [Array.toList_push]
      exact each_one (R := KeyR X.K H2 μ2) ⟨kx, dk, rk, r2, hpk⟩ (each_map' (fun v d h => KeyR.mono Sj x2 h) hkA)
    · cases hgo
  case done =>
    rintro s' ⟨H', μ', sj, kA, e, don, rest, I, fa', fb', nB, nA, ex, Sj, hkA, hdl, hkz, hgo⟩
    rw [Nat.zero_add] at *
    rw [List.drop_eq_nil_of_le (by omega)] at hgo
    cases hgo
    rw [List.append_nil] at hkz
    subst hkz
    obtain ⟨hal, hsk⟩ := okKeys_all hok
    have hk' : EachIs (fun v d => ∃ as, Reads s'.heap v d as) kA.toList kz := each_map' (fun v d h => by
      obtain ⟨kx, dk, r, rp, e⟩ := h
      exact Dp.reads I _ _ _ (rep_dp Sj 12 _ _ _ rp (kpd_pyd st' e).1) r) hkA
    have hdep : ∀ d, d ∈ kz → d.depth ≤ 2 := by
      intro d hd
      obtain ⟨v, kx, dk, r, rp, e⟩ := each_right hkA d hd
      exact (kpd_pyd st' e).2
    have hu := hr.units
    have hsz : kA.size = vs.length := by
      have := hkA.length
      rw [Array.length_toList] at this
      omega
    refine wpAny_bind (listItems_at nB rfl ?_)
    obtain ⟨G, g1, g2⟩ := restrict s'.heap fun b => decide (b ≠ B)
    have gB : G.get? B = none := g2 B (decide_eq_false fun z => z rfl)
    have kp : KeepsBut A G s'.heap := fun b o hb e => by
      by_cases hbB : b = B
      · rw [hbB, gB] at e; cases e
      · rw [← g1 b (decide_eq_true hbB)]; exact e
    have Srt := SortsAt.data (prog := X.prog) (w := X.w) (A := X.A.in1.in1) (s := s') hk' hal hsk (fun d hd => by have := hdep d hd; omega)
    refine keyH_end (κ := dataKind s'.heap kz) (h₁ := G) (b := false) kp gB nB nA hSA Srt hsz hL fun h' tk c kp' hA' => ⟨rfl, ?_⟩
    have hE : EachIs (ItR X.K H' μ') vs (xs.zip kz) := items_each rv (px.mono S ex) (by omega)
    have hOut : EachIs (ItR X.K H' μ') (sortVals (dataKind s'.heap kz) false kA.toList vs) ((xs.zip kz).mergeSort (dataLe false fun p => p.2)) := by
      have ez := zip_snd (xs := xs) (ds := kz) (by omega)
      refine keyedOut_each (rev := false) (fun p : D × PyData => p.2) (vs := vs) ?_ hE
      rw [ez]
      exact ⟨s'.heap, kA.toList, hal, rfl, hk'⟩
    obtain ⟨ys, ry, py⟩ := each_items hOut
    have hyl : ys.length ≤ sizeLine := by
      have h1 := py.length
      rw [List.length_map, List.length_mergeSort, List.length_zip] at h1
      omega
    have I7 : Inv X pins σ (upd H' A (.lst ys)) { s' with heap := h', toks := tk } := Inv.track I fa' fb' (fun d u hd hdB e => kp' d u hd (by rw [g1 d (decide_eq_true hdB)]; exact e)) ⟨hyl, _, c, ry, hA'⟩
    exact ⟨.ref A, _, I7, rfl, q ys A H' μ' ex Sj py fa'.1⟩
end
end Cs

/-! ## CsSim10 -/
/-! sorted, list(range(..)), zip. -/
namespace Cs
open PySem PySem.Spec PyProof.Rows L2
section
variable {K : PySem.W.Frag} {μ μ' : List Addr} {H H' : Hp} {s s' : Sto} {g : Gb} {c : Cc} {X : Cx} {m ma mb mc : Sem} {e a b d : Expr} {pos : Pos}
/-! ### sorted(list, key=f) -/
theorem je_sortK {lv : Nat} {x : Str} {ps : List Str} {f : Fn} {me : Sem} {e : Expr} {p p2 kp : Pos} (F : FnS g lv x ps f) (hl : lv + 2 ≤ c.lv) (hps : ps.length = 1) (hx : c.sc.names.lookup x = some .globalImplicit) (hs : c.sc.names.lookup ("sorted" : Str) = some .globalImplicit) (hm : g.mg ("sorted" : Str) = none)
    (he : JE g c me e) (hst : noStar e = true := by rfl) (hdb : (x == ("__debug__" : Str)) = false := by decide)
    (hks : ∀ X : Cx, (backToKw pos (keywordEach [⟨some "key", .Name x p2, kp⟩] X.env)).filterMap (·.1) = [Str.ofString "key"] := by intro _; rfl)
    (hall : ∀ X : Cx, (backToKw pos (keywordEach [⟨some "key", .Name x p2, kp⟩] X.env)).all (·.1.isSome) = true := by intro _; rfl)
    (hnone : ∀ X : Cx, (backToKw pos (keywordEach [⟨some "key", .Name x p2, kp⟩] X.env)).any (·.1.isNone) = false := by intro _; rfl) :
    JE g c (xSortK f me) (.Call (.Name "sorted" p) [e] [⟨some "key", .Name x p2, kp⟩] pos) := by
  obtain ⟨fa, fd, hmf, hk, hb, hF⟩ := F.ex
  refine je_mk (fun X ok => ?_) (by intro _ _; rfl)
  have hF' : FnOk X.prog X.w X.K X.mg X.base CX0 lv fa fd ps (spD X.K ps.length f) := by
    rw [ok.prog, ok.w, ok.K, ok.mg, ok.base]; exact hF
  have hr : Room lv X.A.in1.in1 := (ok.room.mono hl).in1.in1
  have hbX : Binds X.K fd ps [] := by rw [ok.K]; exact hb
  have cr : CallRK X (.builtin "sorted") [Str.ofString "key"] (fun vs zs H Q => ∃ (l : Addr) (vx : List V) (μ : List Addr) (st st' : Sto) (xs : List D) (kz : List PyData), vs = [.ref l] ∧ zs = [.ref fa] ∧ SqL X.K H l vx ∧ Sim X.K μ H st ∧ Reps X.K H μ vx xs ∧ keysGo f xs st = .ok kz st' ∧ okKeys kz = true ∧
      ∀ ys p H' μ', Ext μ H μ' H' → Sim X.K μ' H' st' → Reps X.K H' μ' ys (sortBy kz xs) → H' p = none → Q (.ref p) (upd H' p (.lst ys))) := by
    intro pins s σ H xs zs us ws Q I rx rz h
    obtain ⟨l, vx, μ, st, st', ds, kz, rfl, rfl, hl, S, px, hgo, hok, q⟩ := h
    obtain rfl := Vals.ref1 rx
    obtain rfl := Vals.ref1 rz
    exact sort_run rfl hF' hps hr hbX I hl S px hgo hok q
  have ha : JA g c (aCons me aNil) [e] := ja_cons he ja_nil hst
  refine PE.imp (pe_callBK cr (by show X.env.scope.names.lookup _ = _; rw [ok.sc]; exact hs) (by rw [ok.mg]; exact hm) (by decide +kernel) (ha X ok)
    (pk_cons (pe_glob (v := V.ref fa) (by show X.env.scope.names.lookup x = _; rw [ok.sc]; exact hx) (by rw [ok.mg]; exact hmf) rfl hdb) pk_nil) (by decide) (by decide) (by rw [star_cons hst]; rfl) (by rw [star_cons hst]; rfl) (hall X) (hnone X) (hks X)) fun σ H Q h => ?_
  obtain ⟨μ, s, env, dd, s', S, E, hv0, q⟩ := h
  obtain ⟨dx, s1, h1, hv1⟩ := bind_ok hv0
  refine ⟨μ, s, env, [dx], s1, S, E, by show (me.v env s).bind _ = _; rw [h1]; rfl, fun vs H1 μ1 x1 S1 r1 => ?_⟩
  cases r1 with
  | cons r rr =>
  cases rr
  unfold sortK at hv1
  split at hv1
  · split at hv1
    · rename_i ex
      obtain ⟨kz, s2, h2, hv2⟩ := bind_ok hv1
      split at hv2
      · rename_i hok
        cases r with
        | ref hi =>
        obtain ⟨hm', vx, hx', px⟩ := Rep.lst_at S1 (.ref hi) ex
        refine ⟨_, vx, μ1, s1, s2, _, kz, rfl, rfl, .of hx', by rw [ok.K]; exact S1, by rw [ok.K]; exact px, h2, hok, fun ys p H' μ' x2 S2 ry hp => ?_⟩
        obtain ⟨_, x3, S3, r3⟩ := newL_ok S2 ry hv2 hp
        rw [ok.K] at S3 r3
        exact q _ _ _ (x1.trans (x2.trans x3)) S3 r3
      · cases hv2
    · cases hv1
  · cases hv1
/-! ### sorted(a list of whole numbers) -/
theorem sorted_one : ∀ {xs ys : List Int}, xs.Perm ys → xs.Pairwise (· ≤ ·) → ys.Pairwise (· ≤ ·) → xs = ys := by
  intro xs ys p h1 h2
  exact p.eq_of_pairwise (fun a b _ _ => Int.le_antisymm) h1 h2
theorem sorted_ms (ns : List Int) : (ns.mergeSort fun a b => decide (a ≤ b)).Pairwise (· ≤ ·) := by
  have := List.pairwise_mergeSort (le := fun a b : Int => decide (a ≤ b)) (fun a b c h1 h2 => by simp at *; omega) (fun a b => by simp; omega) ns
  exact this.imp fun h => by simpa using h
theorem cr_sortedD (hK : X.K = K) : CallR X (.builtin "sorted") (RnD K sortedB) := by
  subst hK
  refine CallR.imp cr_sortedI fun xs H Q h => ?_
  obtain ⟨μ, s, ds, d, s', S, r, h, q⟩ := h
  unfold sortedB at h
  split at h
  · split at h
    · rename_i ex
      split at h
      · rename_i ns hns
        cases r with
        | cons r rr =>
        cases rr
        cases r with
        | ref hi =>
        obtain ⟨hm', vx, hx', px⟩ := Rep.lst_at S (.ref hi) ex
        have ev := ints_rep px hns
        subst ev
        refine ⟨_, ns, rfl, .of hx', fun ns' p hp hs hH => ?_⟩
        have e : ns' = ns.mergeSort fun a b => decide (a ≤ b) := sorted_one (hp.trans (List.mergeSort_perm ns _).symm) hs (sorted_ms ns)
        have ri : ∀ l : List Int, Reps X.K H μ (l.map V.int) (l.map D.int) := by
          intro l
          induction l with
          | nil => exact .nil
          | cons x l ih => exact .cons (.int x) ih
        obtain ⟨_, x2, S2, r2⟩ := newL_ok S (ri _) h hH
        rw [← e] at x2 S2 r2
        exact q _ _ _ x2 S2 r2
      · cases h
    · cases h
  · cases h
/-! ### list(range(..)), tuple(range(..)) -/
theorem rg_reps {i j : Int} : Reps K H μ (rgV i j) (rgD i (j - i).toNat) := by
  unfold rgV rgD
  generalize List.range (j - i).toNat = l
  induction l with
  | nil => exact .nil
  | cons x l ih => exact .cons (.int _) ih
theorem rg_ok {i j : Int} (h : bigI i = true ∧ bigI j = true ∧ (j - i).toNat ≤ 16777216) : RgOk i j :=
  ⟨(bigI_ok h.1).1, (bigI_ok h.1).2, (bigI_ok h.2.1).1, (bigI_ok h.2.1).2, h.2.2⟩
theorem je_lstR1 {p pr rp : Pos} (hs : c.sc.names.lookup ("list" : Str) = some .globalImplicit) (hm : g.mg ("list" : Str) = none) (hs2 : c.sc.names.lookup ("range" : Str) = some .globalImplicit) (hm2 : g.mg ("range" : Str) = none) (ha : JE g c ma a) (hst : noStar a = true := by rfl) :
    JE g c (xLstR1 ma) (.Call (.Name "list" p) [.Call (.Name "range" pr) [a] [] rp] [] pos) := je_mk (fun X ok => PE.imp
    (pe_listRg ok.calm (by show X.env.scope.names.lookup _ = _; rw [ok.sc]; exact hs) (by rw [ok.mg]; exact hm) (prg_1 (by show X.env.scope.names.lookup _ = _; rw [ok.sc]; exact hs2) (by rw [ok.mg]; exact hm2) (ha X ok).1 (star_cons hst _))) fun σ H Q h => by
      obtain ⟨μ, s, env, d, s', S, E, hv, q⟩ := h
      obtain ⟨x, s1, h1, hv⟩ := bind_ok hv
      refine ⟨μ, s, env, x, s1, S, E, h1, fun v H1 μ1 x1 S1 r1 => ?_⟩
      unfold rgW at hv
      split at hv
      · rename_i i j e1
        cases e1
        split at hv
        · rename_i hc
          cases r1
          refine ⟨_, rfl, rg_ok hc, fun p hp => ?_⟩
          obtain ⟨_, x2, S2, r2⟩ := newL_ok S1 rg_reps hv hp
          exact q _ _ _ (x1.trans x2) S2 r2
        · cases hv
      · cases hv) (by intro _ _; rfl)
theorem je_lstR2 {p pr rp : Pos} (hs : c.sc.names.lookup ("list" : Str) = some .globalImplicit) (hm : g.mg ("list" : Str) = none) (hs2 : c.sc.names.lookup ("range" : Str) = some .globalImplicit) (hm2 : g.mg ("range" : Str) = none) (ha : JE g c ma a) (hb : JE g c mb b) (hst : noStar a = true := by rfl) (hst2 : noStar b = true := by rfl) :
    JE g c (xLstR2 ma mb) (.Call (.Name "list" p) [.Call (.Name "range" pr) [a, b] [] rp] [] pos) := je_mk (fun X ok => PE.imp
    (pe_listRg ok.calm (by show X.env.scope.names.lookup _ = _; rw [ok.sc]; exact hs) (by rw [ok.mg]; exact hm) (prg_2 (by show X.env.scope.names.lookup _ = _; rw [ok.sc]; exact hs2) (by rw [ok.mg]; exact hm2) (ha X ok).1 (hb X ok).1 (star_cons hst _) (star_cons hst2 _) (by rw [star_cons hst2]; rfl))) fun σ H Q h => by
      obtain ⟨μ, s, env, d, s', S, E, hv, q⟩ := h
      obtain ⟨x, s1, h1, hv⟩ := bind_ok hv
      obtain ⟨y, s2, h2, hv⟩ := bind_ok hv
      refine ⟨μ, s, env, x, s1, S, E, h1, fun v H1 μ1 x1 S1 r1 => ?_⟩
      refine ⟨μ1, s1, env, y, s2, S1, E.mono S x1, h2, fun w H2 μ2 x2 S2 r2 => ?_⟩
      unfold rgW at hv
      split at hv
      · split at hv
        · rename_i hc
          cases r1; cases r2
          refine ⟨_, _, rfl, rfl, rg_ok hc, fun p hp => ?_⟩
          obtain ⟨_, x3, S3, r3⟩ := newL_ok S2 rg_reps hv hp
          exact q _ _ _ ((x1.trans x2).trans x3) S3 r3
        · cases hv
      · cases hv) (by intro _ _; rfl)
theorem je_tupR1 {p pr rp : Pos} (hs : c.sc.names.lookup ("tuple" : Str) = some .globalImplicit) (hm : g.mg ("tuple" : Str) = none) (hs2 : c.sc.names.lookup ("range" : Str) = some .globalImplicit) (hm2 : g.mg ("range" : Str) = none) (ha : JE g c ma a) (hst : noStar a = true := by rfl) :
    JE g c (xTupR1 ma) (.Call (.Name "tuple" p) [.Call (.Name "range" pr) [a] [] rp] [] pos) := je_mk (fun X ok => PE.imp
    (pe_tupRg ok.calm (by show X.env.scope.names.lookup _ = _; rw [ok.sc]; exact hs) (by rw [ok.mg]; exact hm) (prg_1 (by show X.env.scope.names.lookup _ = _; rw [ok.sc]; exact hs2) (by rw [ok.mg]; exact hm2) (ha X ok).1 (star_cons hst _))) fun σ H Q h => by
      obtain ⟨μ, s, env, d, s', S, E, hv, q⟩ := h
      obtain ⟨x, s1, h1, hv⟩ := bind_ok hv
      refine ⟨μ, s, env, x, s1, S, E, h1, fun v H1 μ1 x1 S1 r1 => ?_⟩
      unfold rgW at hv
      split at hv
      · rename_i i j e1
        cases e1
        split at hv
        · rename_i hc
          cases r1
          cases hv
          refine ⟨_, rfl, rg_ok hc, fun p hp => ?_⟩
          obtain ⟨x2, S2, r2⟩ := rep_tup S1 hp rg_reps
          exact q _ _ _ (x1.trans x2) S2 r2
        · cases hv
      · cases hv) (by intro _ _; rfl)
theorem je_tupR2 {p pr rp : Pos} (hs : c.sc.names.lookup ("tuple" : Str) = some .globalImplicit) (hm : g.mg ("tuple" : Str) = none) (hs2 : c.sc.names.lookup ("range" : Str) = some .globalImplicit) (hm2 : g.mg ("range" : Str) = none) (ha : JE g c ma a) (hb : JE g c mb b) (hst : noStar a = true := by rfl) (hst2 : noStar b = true := by rfl) :
    JE g c (xTupR2 ma mb) (.Call (.Name "tuple" p) [.Call (.Name "range" pr) [a, b] [] rp] [] pos) := je_mk (fun X ok => PE.imp
    (pe_tupRg ok.calm (by show X.env.scope.names.lookup _ = _; rw [ok.sc]; exact hs) (by rw [ok.mg]; exact hm) (prg_2 (by show X.env.scope.names.lookup _ = _; rw [ok.sc]; exact hs2) (by rw [ok.mg]; exact hm2) (ha X ok).1 (hb X ok).1 (star_cons hst _) (star_cons hst2 _) (by rw [star_cons hst2]; rfl))) fun σ H Q h => by
      obtain ⟨μ, s, env, d, s', S, E, hv, q⟩ := h
      obtain ⟨x, s1, h1, hv⟩ := bind_ok hv
      obtain ⟨y, s2, h2, hv⟩ := bind_ok hv
      refine ⟨μ, s, env, x, s1, S, E, h1, fun v H1 μ1 x1 S1 r1 => ?_⟩
      refine ⟨μ1, s1, env, y, s2, S1, E.mono S x1, h2, fun w H2 μ2 x2 S2 r2 => ?_⟩
      unfold rgW at hv
      split at hv
      · split at hv
        · rename_i hc
          cases r1; cases r2
          cases hv
          refine ⟨_, _, rfl, rfl, rg_ok hc, fun p hp => ?_⟩
          obtain ⟨x3, S3, r3⟩ := rep_tup S2 hp rg_reps
          exact q _ _ _ ((x1.trans x2).trans x3) S3 r3
        · cases hv
      · cases hv) (by intro _ _; rfl)
/-! ### zip -/
theorem wk_zip {a b : Addr} {i j : Nat} (hm : μ[i]? = some a) (hm2 : μ[j]? = some b) : WkOk K (Itz K a b) (Wk.zip i j) μ H := fun μ' H' s' ex S' n => by
  obtain ⟨o, e, ro⟩ := S'.ob i a (ex.pre i a hm)
  obtain ⟨o2, e2, ro2⟩ := S'.ob j b (ex.pre j b hm2)
  have hw : wkAt (Wk.zip i j) s' n = zipAt s' i j n := rfl
  rw [hw]
  unfold zipAt
  rw [e, e2]
  cases o with
  | dct _ => exact ⟨fun d hd => (nomatch hd), fun hd => (nomatch hd)⟩
  | lst ds =>
  cases o2 with
  | dct _ => exact ⟨fun d hd => (nomatch hd), fun hd => (nomatch hd)⟩
  | lst es =>
  obtain ⟨xs, ex1, rx⟩ := ro
  obtain ⟨ys, ey1, ry⟩ := ro2
  dsimp only
  cases h1 : ds[n]? with
  | none =>
    have hn1 : xs.length ≤ n := by rw [rx.length]; exact List.getElem?_eq_none_iff.mp h1
    cases h3 : es[n]? <;> exact ⟨fun d hd => (nomatch hd), fun _ => ⟨xs, ys, .of ex1, .of ey1, .inl hn1⟩⟩
  | some x =>
    cases h2 : es[n]? with
    | none =>
      have hn1 : ys.length ≤ n := by rw [ry.length]; exact List.getElem?_eq_none_iff.mp h2
      exact ⟨fun d hd => (nomatch hd), fun _ => ⟨xs, ys, .of ex1, .of ey1, .inr hn1⟩⟩
    | some y =>
      obtain ⟨v, hv, rv⟩ := rx.get h1
      obtain ⟨w, hw2, rw2⟩ := ry.get h2
      refine ⟨fun d hd => ?_, fun hd => (nomatch hd)⟩
      cases hd
      refine ⟨⟨xs, ys, v, w, .of ex1, .of ey1, hv, hw2⟩, fun z H'' hy => ?_⟩
      obtain ⟨T, z1, z2, rfl, hT, rfl, hz1, hz2⟩ := hy
      have q1 : z1 = v := by have := hz1 xs (.of ex1); rw [hv] at this; exact (Option.some.inj this).symm
      have q2 : z2 = w := by have := hz2 ys (.of ey1); rw [hw2] at this; exact (Option.some.inj this).symm
      subst q1; subst q2
      obtain ⟨_, _, rp⟩ := rep_tup S' hT (Reps.cons rv (Reps.cons rw2 .nil))
      exact ⟨fun b o e => by rw [upd_ne (ne_of_none e hT)]; exact e, rp⟩
theorem ji_zip {p tpos : Pos} {ra : EvA} {elts : List Expr} {kk : Nat} (hs : c.sc.names.lookup ("zip" : Str) = some .globalImplicit) (hm : g.mg ("zip" : Str) = none) (ha : JA g c ra [a, b]) (hst : noStar a = true := by rfl) (hst2 : noStar b = true := by rfl) : JIt g c (.Tuple elts kk tpos) (iZip2 ra) (.Call (.Name "zip" p) [a, b] [] pos) := fun X ok =>
  PI.imp (pi_zip (by show X.env.scope.names.lookup _ = _; rw [ok.sc]; exact hs) (by rw [ok.mg]; exact hm) (ha X ok) (by rw [star_cons hst, star_cons hst2]) (by rw [star_cons hst2]; rfl)) fun σ H R h => by
    obtain ⟨μ, s, env, w, s', S, E, hv, q⟩ := h
    obtain ⟨ds, s1, h1, hv⟩ := bind_ok hv
    refine ⟨μ, s, env, ds, s1, S, E, h1, fun vs H1 μ1 x1 S1 r1 => ?_⟩
    unfold zipW at hv
    split at hv
    · split at hv
      · rename_i e1 e2
        cases hv
        cases r1 with
        | cons r r2 =>
        cases r2 with
        | cons r2 r3 =>
        cases r3
        cases r with
        | ref hi =>
        cases r2 with
        | ref hj =>
        obtain ⟨_, vx, hx', px⟩ := Rep.lst_at S1 (.ref hi) e1
        obtain ⟨_, vy, hy', py⟩ := Rep.lst_at S1 (.ref hj) e2
        exact ⟨_, _, _, _, rfl, .of hx', .of hy', by rw [ok.K]; exact q _ H1 μ1 x1 S1 (wk_zip hi hj)⟩
      · cases hv
    · cases hv
end
end Cs

/-! ## CsSim11 -/
/-! extend by a tuple, enumerate of a list. -/
namespace Cs
open PySem PySem.Spec PyProof.Rows L2
theorem extend_T (l : Addr) (items : Array Value) (n : Nat) (b : Addr) (items2 : Array Value) (n2 : Nat) (dct : Option Addr) (sl : Array (Option Value)) (hs0 : ¬(!items.isEmpty && Builtin.List.listTooLong (items.size + items2.size)) = true) (hs1 : items.size ≤ sizeLine) (hs2 : items.size + items2.size ≤ sizeLine + 1) :
    Meets (Builtin.«list.extend» ⟨[.ref l, .ref b], []⟩) (fun _ R s => s.heap.get? l = some { cls := .type "list", dict := none, data := .seq items n, slots := #[] } ∧
      s.heap.get? b = some { cls := .type "tuple", dict := dct, data := .seq items2 n2, slots := sl } ∧ R (.ok (.ret Value.none)) { s with heap := s.heap.update l (Obj.mapSeq fun x => x ++ items2), toks := s.toks }) :=
  .of_wp fun prog w A R s h => by
    obtain ⟨hp, g, d, tk, os⟩ := s
    obtain ⟨hl, hb, h⟩ := h
    have t1 := AutoSeq1.idx_int
    have t2 := AutoSeq1.sub_tuple_tuple
    have t3 := AutoSeq1.sub_list_list
    have t4 := AutoSeq1.sub_tuple_list
    have t5 := AutoSeq1.sub_list_tuple
    have hz' : (items ++ items2).size ≤ sizeLine + 1 := by
      rw [Array.size_append]; exact hs2
    wp_walk using (wpAny_updateSeq hl rfl (hz := hs1) (_hz' := hz')), AutoSeq1.wpAny_loadPart' hl, AutoSeq1.wpAny_loadPart' hb
    exact ⟨_, rfl, h⟩
section
variable {K : PySem.W.Frag} {μ μ' : List Addr} {H H' : Hp} {s s' : Sto} {g : Gb} {c : Cc} {X : Cx} {m ma mb mc : Sem} {e a b d : Expr} {pos : Pos}
def rExtA (K : PySem.W.Frag) : V → List V → Hp → VK → Prop := fun x vs H Q => rExtend x vs H Q ∨ ∃ l b xs zs, x = .ref l ∧ vs = [.ref b] ∧ H l = some (.lst xs) ∧ SqT K H b zs ∧ xs.length + zs.length ≤ sizeLine ∧ Q .non (upd H l (.lst (xs ++ zs)))
theorem mt_extA : MtM X "list.extend" (rExtA X.K) := by
  intro pins s σ H x vs v us Q I rx rv h
  rcases h with h | ⟨l, b, xs, zs, rfl, rfl, hH, hB, hz, q⟩
  · exact mt_extend pins s σ H x vs v us Q I rx rv h
  cases rx
  obtain ⟨u, rfl, ru⟩ := rv.one
  cases ru
  obtain ⟨z, its, n, r, hl, e⟩ := I.lstM hH
  obtain ⟨its2, r2, p2, _⟩ := I.tuple hB
  have pT : s.heap.IsTuple b its2.toArray := p2
  obtain ⟨⟨c2, dct, dt, sl⟩, hb2, hc2, n2, hd2⟩ := pT
  replace hc2 : c2 = .type "tuple" := hc2
  replace hd2 : dt = .seq its2.toArray n2 := hd2
  subst hc2 hd2
  have l1 := r.length
  have l2 := r2.length
  have hsz : its.toArray.size + its2.toArray.size ≤ sizeLine := by
    simp only [List.size_toArray]; omega
  have hlong : ¬ (!its.toArray.isEmpty && Builtin.List.listTooLong (its.toArray.size + its2.toArray.size)) = true := by
    rw [notLongL hsz]
    simp
  refine call_meets F.slot_list_extend ⟨_, e, rfl⟩ F.entry_list_extend (F.args_list_extend_2 _ _)
    (extend_T l its.toArray n b its2.toArray n2 dct sl hlong (by omega) (by omega)) ⟨e, hb2, ?_⟩
  exact ⟨.non, _, I.lset (its' := its ++ its2) hH e (by simp) (r.append r2) (by rw [List.length_append]; omega), rfl, q⟩
theorem mt_extendD2 (hK : X.K = K) : MtR X "list.extend" (RmD K extendM2) := by
  subst hK
  refine MtR.imp mt_extA fun x xs H Q h => ?_
  obtain ⟨μ, s, dx, ds, d, s', S, rx, rs, h, q⟩ := h
  unfold extendM2 at h
  split at h
  · split at h
    · rename_i ex ey
      split at h
      · rename_i hz
        cases h
        cases rx with
        | ref rx =>
        cases rs with
        | cons r1 r2 =>
        cases r2
        cases r1 with
        | ref ry =>
        obtain ⟨hm, vx, hx, px⟩ := Rep.lst_at S (.ref rx) ex
        obtain ⟨_, vy, hy, py⟩ := Rep.lst_at S (.ref ry) ey
        obtain ⟨x2, S2⟩ := rep_set (o := .lst []) S hm ⟨_, hx⟩ (px.append py)
        exact .inl ⟨_, _, vx, vy, rfl, rfl, hx, hy, by rw [px.length, py.length]; exact hz, q _ _ μ x2 S2 .non⟩
      · cases h
    · cases h
  · split at h
    · rename_i ex
      split at h
      · rename_i hz
        cases h
        cases rx with
        | ref rx =>
        cases rs with
        | cons r1 r2 =>
        cases r2
        cases r1 with
        | tup ty py =>
        obtain ⟨hm, vx, hx, px⟩ := Rep.lst_at S (.ref rx) ex
        obtain ⟨x2, S2⟩ := rep_set (o := .lst []) S hm ⟨_, hx⟩ (px.append py)
        exact .inr ⟨_, _, vx, _, rfl, rfl, hx, ty.t, by rw [px.length, py.length]; exact hz, q _ _ μ x2 S2 .non⟩
      · cases h
    · cases h
  · cases h
/-! ### enumerate of a tuple or a list -/
theorem pi_enumA {X : Cx} {e : Expr} {ta : TA} {p pos tpos : Pos} {elts : List Expr} {kk : Nat} (hg : Gl X "enumerate") (hm : X.mg "enumerate" = none) (ha : PA X [e] ta) (hs : starEach [e] X.env = [(false, eval e X.env)] := by rfl) :
    PI X (.Tuple elts kk tpos) (.Call (.Name "enumerate" p) [e] [] pos) (fun σ H R => ta σ H fun vs H1 => ∃ a xs, vs = [.ref a] ∧ ((SqT X.K H1 a xs ∧ R (IteT X.K a) H1) ∨ (SqL X.K H1 a xs ∧ R (Ite X.K a) H1))) := by
  refine ⟨fun pins s σ H R I h => ?_⟩
  refine Call_ (ld_blt I hg hm boot_enumerate (PyProof.Rows.callWith_type1 (thn (ha.run pos pins s σ H _ I h) fun us s1 ⟨vs, H1, I1, r1, q1⟩ => ?_) hs rfl))
  obtain ⟨a, xs, ex, q1⟩ := q1
  subst ex
  cases r1 with
  | cons r rr =>
    cases rr
    cases r
    have hfp : ∀ b, b ∈ [s1.heap.objs.size + 1, s1.heap.objs.size] → FpOk X pins H1 b := fun b hb => by
      have e' : b = s1.heap.objs.size + 1 ∨ b = s1.heap.objs.size := by simpa using hb
      have hle : s1.heap.objs.size ≤ b := by
        rcases e' with z | z
        · rw [z]; exact Nat.le_add_right _ _
        · rw [z]; exact Nat.le_refl _
      exact I1.fpOk hle (I1.hok.fresh hle)
    rcases q1 with ⟨hq, q⟩ | ⟨hq, q⟩
    · obtain ⟨its, rv, p', hz⟩ := I1.tuple hq
      have pT : s1.heap.IsTuple a its.toArray := p'
      have hal : a < s1.heap.objs.size := by obtain ⟨_, q, _⟩ := id pT; exact Heap.lt_size q
      refine call_enumT pT fun h' he hit hsz hk => wpAny_pyIter_enum he ?_
      exact ⟨s1.heap.objs.size + 1, [s1.heap.objs.size + 1, s1.heap.objs.size], _, _, H1, rfl, I1.kept (t' := s1.toks) hk, turn_enumT a (s1.heap.objs.size + 1) s1.heap.objs.size (Nat.ne_of_lt hal), ⟨⟨.none, he⟩, hit, Nat.succ_ne_self _⟩, hfp, q⟩
    · obtain ⟨its, rv, p', hz⟩ := I1.list hq
      refine call_enumerate_list p'.isList fun h' he hit hsz hk => wpAny_pyIter_enum he ?_
      exact ⟨s1.heap.objs.size + 1, [s1.heap.objs.size + 1, s1.heap.objs.size], _, _, H1, rfl, I1.kept (t' := s1.toks) hk, turn_enum a (s1.heap.objs.size + 1) s1.heap.objs.size, ⟨⟨.none, he⟩, hit, Nat.succ_ne_self _⟩, hfp, q⟩
theorem wk_enl {a : Addr} {i : Nat} (hm : μ[i]? = some a) : WkOk K (Ite K a) (Wk.enl i) μ H := fun μ' H' s' ex S' n => by
  obtain ⟨o, e, ro⟩ := S'.ob i a (ex.pre i a hm)
  have hw : wkAt (Wk.enl i) s' n = enlAt s' i n := rfl
  rw [hw]
  unfold enlAt
  rw [e]
  cases o with
  | dct _ => exact ⟨fun d hd => (nomatch hd), fun hd => (nomatch hd)⟩
  | lst ds =>
  obtain ⟨xs, ex1, rx⟩ := ro
  dsimp only
  cases h1 : ds[n]? with
  | none =>
    have hn1 : xs.length ≤ n := by rw [rx.length]; exact List.getElem?_eq_none_iff.mp h1
    exact ⟨fun d hd => (nomatch hd), fun _ => ⟨xs, .of ex1, hn1⟩⟩
  | some x =>
    obtain ⟨v, hv, rv⟩ := rx.get h1
    refine ⟨fun d hd => ?_, fun hd => (nomatch hd)⟩
    cases hd
    refine ⟨⟨xs, v, .of ex1, hv⟩, fun z H'' hy => ?_⟩
    obtain ⟨T, z1, rfl, hT, rfl, hz1⟩ := hy
    have q1 : z1 = v := by have := hz1 xs (.of ex1); rw [hv] at this; exact (Option.some.inj this).symm
    subst q1
    obtain ⟨_, _, rp⟩ := rep_tup S' hT (Reps.cons (.int _) (Reps.cons rv .nil))
    exact ⟨fun b o e => by rw [upd_ne (ne_of_none e hT)]; exact e, rp⟩
theorem ji_enum2 {p tpos : Pos} {ra : EvA} {elts : List Expr} {kk : Nat} (hs : c.sc.names.lookup ("enumerate" : Str) = some .globalImplicit) (hm : g.mg ("enumerate" : Str) = none) (ha : JA g c ra [a]) (hst : noStar a = true := by rfl) : JIt g c (.Tuple elts kk tpos) (iEnum2 ra) (.Call (.Name "enumerate" p) [a] [] pos) := fun X ok =>
  PI.imp (pi_enumA (by show X.env.scope.names.lookup _ = _; rw [ok.sc]; exact hs) (by rw [ok.mg]; exact hm) (ha X ok) (star_cons hst _)) fun σ H R h => by
    obtain ⟨μ, s, env, w, s', S, E, hv, q⟩ := h
    obtain ⟨ds, s1, h1, hv⟩ := bind_ok hv
    refine ⟨μ, s, env, ds, s1, S, E, h1, fun vs H1 μ1 x1 S1 r1 => ?_⟩
    unfold enW2 at hv
    split at hv
    · cases hv
      cases r1 with
      | cons r r2 =>
      cases r2
      cases r with
      | tup tx rx => exact ⟨_, _, rfl, .inl ⟨by rw [ok.K]; exact tx.t, by rw [ok.K]; exact q _ H1 μ1 x1 S1 (wk_enumT S1 tx.t rx)⟩⟩
    · split at hv
      · rename_i e1
        cases hv
        cases r1 with
        | cons r r2 =>
        cases r2
        cases r with
        | ref hi =>
        obtain ⟨_, vx, hx', px⟩ := Rep.lst_at S1 (.ref hi) e1
        exact ⟨_, vx, rfl, .inr ⟨.of hx', by rw [ok.K]; exact q _ H1 μ1 x1 S1 (wk_enl hi)⟩⟩
      · cases hv
    · cases hv
end
end Cs

/-! ## CsSim12 -/
/-! Chains of three, sorted of any data, len(set(..)). -/
namespace Cs
open PySem PySem.Spec PyProof.Rows L2
section
variable {K : PySem.W.Frag} {μ μ' : List Addr} {H H' : Hp} {s s' : Sto} {g : Gb} {c : Cc} {X : Cx} {m ma mb mc md : Sem} {e a b d f : Expr} {pos : Pos}
/-! ### a op b op c op d -/
def tChain3 (r r' r2 : R2) (ta tb tc td : TE) : TE := fun σ H Q => ta σ H fun x H1 => tb σ H1 fun y H2 => r x y H2 fun z H3 => ∃ k, z = .bl k ∧
  (if k = true then tc σ H3 fun w' H4 => r' y w' H4 fun z H5 => ∃ k, z = .bl k ∧ (if k = true then td σ H5 fun u' H6 => r2 w' u' H6 Q else Q (.bl false) H5) else Q (.bl false) H3)
theorem pe_chain3 {op op' op2 : CmpOp} {r r' r2 : R2} {ta tb tc td : TE} (ho : OpR X (compareOp op) r) (ho' : OpR X (compareOp op') r') (ho2 : OpR X (compareOp op2) r2) (ha : PE X a ta) (hb : PE X b tb) (hc : PE X d tc) (hd : PE X f td)
    (hm : lastMarks [op, op', op2] [b, d, f] = false := by with_unfolding_all rfl) : PE X (.Compare a [op, op', op2] [b, d, f] pos) (tChain3 r r' r2 ta tb tc td) := by
  refine ⟨fun pins s σ H Q I h => ?_⟩
  refine Compare_chain (thn (ha.run pins s σ H _ I h) fun v s1 ⟨x, H1, I1, r1, q1⟩ => chain_link (thn (hb.run pins s1 σ H1 _ I1 q1) fun u s2 ⟨y, H2, I2, r2, q2⟩ =>
    thn (ho pins s2 σ H2 x y v u _ I2 r1 r2 q2) fun d s3 ⟨z, H3, I3, r3, k, e, q3⟩ => ?_)) hm
  subst e
  cases r3
  refine wpAny_truthy_bool ?_
  cases k with
  | false => exact ite_ff ⟨.bl false, H3, I3, rfl, q3⟩
  | true =>
    refine ite_tt (chain_link (thn (hc.run pins s3 σ H3 _ I3 q3) fun w' s4 ⟨z', H4, I4, r4, q4⟩ => thn (ho' pins s4 σ H4 y z' u w' _ I4 r2 r4 q4) fun d5 s5 ⟨z5, H5, I5, r5, k5, e5, q5⟩ => ?_))
    subst e5
    cases r5
    refine wpAny_truthy_bool ?_
    cases k5 with
    | false => exact ite_ff ⟨.bl false, H5, I5, rfl, q5⟩
    | true => exact ite_tt (chain_last (thn (hd.run pins s5 σ H5 _ I5 q5) fun w6 s6 ⟨z6, H6, I6, r6, q6⟩ => ho2 pins s6 σ H6 z' z6 w' w6 Q I6 r4 r6 q6))
theorem pt_chain3 {op op' op2 : CmpOp} {r r' r2 : R2} {ta tb tc td : TE} (ho : OpR X (compareOp op) r) (ho' : OpR X (compareOp op') r') (ho2 : OpR X (compareOp op2) r2) (ha : PE X a ta) (hb : PE X b tb) (hc : PE X d tc) (hd : PE X f td)
    (hm : lastMarks [op, op', op2] [b, d, f] = false := by with_unfolding_all rfl) : PT X (.Compare a [op, op', op2] [b, d, f] pos) (tTest (tChain3 r r' r2 ta tb tc td)) := by
  refine ⟨fun pins s σ H Q I h => ?_⟩
  refine isTrue_chain (thn (ha.run pins s σ H _ I h) fun v s1 ⟨x, H1, I1, r1, q1⟩ => test_link (thn (hb.run pins s1 σ H1 _ I1 q1) fun u s2 ⟨y, H2, I2, r2, q2⟩ =>
    thn (ho pins s2 σ H2 x y v u _ I2 r1 r2 q2) fun d s3 ⟨z, H3, I3, r3, k, e, q3⟩ => ?_)) hm
  subst e
  cases r3
  refine wpAny_truthy_bool ?_
  cases k with
  | false =>
    obtain ⟨k', e', q'⟩ := q3
    cases e'
    exact ite_ff ⟨H3, I3, q'⟩
  | true =>
    refine ite_tt (test_link (thn (hc.run pins s3 σ H3 _ I3 q3) fun w' s4 ⟨z', H4, I4, r4, q4⟩ => thn (ho' pins s4 σ H4 y z' u w' _ I4 r2 r4 q4) fun d5 s5 ⟨z5, H5, I5, r5, k5, e5, q5⟩ => ?_))
    subst e5
    cases r5
    refine wpAny_truthy_bool ?_
    cases k5 with
    | false =>
      obtain ⟨k', e', q'⟩ := q5
      cases e'
      exact ite_ff ⟨H5, I5, q'⟩
    | true =>
      refine ite_tt (test_last (thn (hd.run pins s5 σ H5 _ I5 q5) fun w6 s6 ⟨z6, H6, I6, r6, q6⟩ => thn (ho2 pins s6 σ H6 z' z6 w' w6 _ I6 r4 r6 q6) fun d' s7 ⟨z2, H7, I7, r7, k2, e2, q7⟩ => ?_))
      subst e2
      cases r7
      exact wpAny_truthy_bool ⟨H7, I7, q7⟩
theorem rd_chain3 {K : PySem.W.Frag} {ma mb mc md : EvE} {f f' f2 : D → D → Sto → R D} (hf : ∀ x y s d s', f x y s = .ok d s' → ∃ b, d = .bl b) (hf' : ∀ x y s d s', f' x y s = .ok d s' → ∃ b, d = .bl b) {σ : L2.St} {H : Hp} {Q : VK}
    (h : RdE K (fun env s => (ma env s).bind fun x s => (mb env s).bind fun y s => (f x y s).bind fun z s => match z with
      | .bl true => (mc env s).bind fun w s => (f' y w s).bind fun z2 s => match z2 with
        | .bl true => (md env s).bind fun u s => f2 w u s
        | .bl false => .ok (.bl false) s
        | _ => .no
      | .bl false => .ok (.bl false) s
      | _ => .no) σ H Q) : tChain3 (R2D K f) (R2D K f') (R2D K f2) (RdE K ma) (RdE K mb) (RdE K mc) (RdE K md) σ H Q := by
  obtain ⟨μ, s, env, d, s', S, E, hv, q⟩ := h
  obtain ⟨d1, s1, h1, hv⟩ := bind_ok hv
  obtain ⟨d2, s2, h2, hv⟩ := bind_ok hv
  obtain ⟨d3, s3, h3, hv⟩ := bind_ok hv
  refine ⟨μ, s, env, d1, s1, S, E, h1, fun v1 H1 μ1 x1 S1 r1 => ?_⟩
  refine ⟨μ1, s1, env, d2, s2, S1, E.mono S x1, h2, fun v2 H2 μ2 x2 S2 r2 => ?_⟩
  refine ⟨μ2, s2, d1, d2, d3, s3, S2, r1.mono S1 x2, r2, h3, fun v3 H3 μ3 x3 S3 r3 => ?_⟩
  obtain ⟨k, rfl⟩ := hf _ _ _ _ _ h3
  cases r3
  refine ⟨k, rfl, ?_⟩
  cases k with
  | true =>
    obtain ⟨d4, s4, h4, hv⟩ := bind_ok hv
    obtain ⟨d5, s5, h5, hv⟩ := bind_ok hv
    refine iteT ⟨μ3, s3, env, d4, s4, S3, (E.mono S x1).mono S1 (x2.trans x3), h4, fun v4 H4 μ4 x4 S4 r4 => ?_⟩
    refine ⟨μ4, s4, d2, d4, d5, s5, S4, r2.mono S2 (x3.trans x4), r4, h5, fun v5 H5 μ5 x5 S5 r5 => ?_⟩
    obtain ⟨k, rfl⟩ := hf' _ _ _ _ _ h5
    cases r5
    refine ⟨k, rfl, ?_⟩
    have x15 := x1.trans (x2.trans (x3.trans (x4.trans x5)))
    cases k with
    | true =>
      obtain ⟨d6, s6, h6, hv⟩ := bind_ok hv
      refine iteT ⟨μ5, s5, env, d6, s6, S5, E.mono S x15, h6, fun v6 H6 μ6 x6 S6 r6 => ?_⟩
      exact ⟨μ6, s6, d4, d6, d, s', S6, r4.mono S4 (x5.trans x6), r6, hv, fun v H' μ' x7 S7 r7 => q v H' μ' (x15.trans (x6.trans x7)) S7 r7⟩
    | false =>
      cases hv
      exact iteF (q _ H5 μ5 x15 S5 (.bl false))
  | false =>
    cases hv
    exact iteF (q _ H3 μ3 (x1.trans (x2.trans x3)) S3 (.bl false))
theorem je_chain3 {op op' op2 : CmpOp} {f1 f2 f3 : D → D → Sto → R D} (ho : ∀ X : Cx, c.Ok g X → OpR X (compareOp op) (R2D g.K f1)) (ho' : ∀ X : Cx, c.Ok g X → OpR X (compareOp op') (R2D g.K f2)) (ho2 : ∀ X : Cx, c.Ok g X → OpR X (compareOp op2) (R2D g.K f3))
    (hf : ∀ x y s d s', f1 x y s = .ok d s' → ∃ b, d = .bl b) (hf' : ∀ x y s d s', f2 x y s = .ok d s' → ∃ b, d = .bl b) (hf2 : ∀ x y s d s', f3 x y s = .ok d s' → ∃ b, d = .bl b) (ha : JE g c ma a) (hb : JE g c mb b) (hc : JE g c mc d) (hd : JE g c md f)
    (hm : lastMarks [op, op', op2] [b, d, f] = false := by with_unfolding_all rfl) : JE g c (xChain3 f1 f2 f3 ma mb mc md) (.Compare a [op, op', op2] [b, d, f] pos) := fun X ok =>
  ⟨PE.imp (pe_chain3 (ho X ok) (ho' X ok) (ho2 X ok) (ha X ok).1 (hb X ok).1 (hc X ok).1 (hd X ok).1 hm) fun σ H Q h => rd_chain3 hf hf' h,
   pt_mkB (fun env s d s' h => by
      obtain ⟨d1, s1, _, h⟩ := bind_ok h
      obtain ⟨d2, s2, _, h⟩ := bind_ok h
      obtain ⟨d3, s3, h3, h⟩ := bind_ok h
      obtain ⟨k, rfl⟩ := hf _ _ _ _ _ h3
      cases k with
      | true =>
        obtain ⟨d4, s4, _, h⟩ := bind_ok h
        obtain ⟨d5, s5, h5, h⟩ := bind_ok h
        obtain ⟨k, rfl⟩ := hf' _ _ _ _ _ h5
        cases k with
        | true =>
          obtain ⟨d6, s6, _, h⟩ := bind_ok h
          exact hf2 _ _ _ _ _ h
        | false => cases h; exact ⟨_, rfl⟩
      | false => cases h; exact ⟨_, rfl⟩) (PT.imp (pt_chain3 (ho X ok) (ho' X ok) (ho2 X ok) (ha X ok).1 (hb X ok).1 (hc X ok).1 (hd X ok).1 hm) fun σ H Q h => rd_chain3 hf hf' h)⟩
/-! ### len(set(a list of whole numbers)) -/
theorem pe_lenSetM {ta : TE} {p p2 q : Pos} (hg : Gl X "len") (hm : X.mg "len" = none) (hg2 : Gl X "set") (hm2 : X.mg "set" = none) (ha : PE X a ta) (hc : X.calm = true)
    (na : starEach [a] X.env = (false, eval a X.env) :: starEach [] X.env) : PE X (.Call (.Name "len" p) [.Call (.Name "set" p2) [a] [] q] [] pos) (fun σ H Q => ta σ H fun x H1 => ∃ (l : Addr) (ns : List Int), x = .ref l ∧ SqL X.K H1 l (ns.map V.int) ∧ ns.length ≤ 4000 ∧ Q (.int (many ns : Nat)) H1) := by
  refine ⟨fun pins s σ H Q I h => ?_⟩
  refine Call_ (ld_blt I hg hm (u := .builtin "len") (by decide +kernel) ?_)
  refine PyProof.Rows.callWith_builtin1 (PyProof.Rows.args_cons ?_ rfl) rfl rfl
  refine Call_ (ld_blt I hg2 hm2 (u := .type "set") (by decide +kernel) ?_)
  refine PyProof.Rows.callWith_type1 (PyProof.Rows.args_cons (thn (ha.run pins s σ H _ I h) fun v s1 ⟨x, H1, I1, r1, q1⟩ => PyProof.Rows.args_nil ?_) na) na rfl
  obtain ⟨l, ns, rfl, hq, hl, q1⟩ := q1
  cases r1
  obtain ⟨its, r, pl, hz⟩ := I1.list hq
  have hlen : its.toArray.size = ns.length := by rw [List.size_toArray, ← r.length, List.length_map]
  refine call_set_list (I1.ok.hd hc) pl.isList (by simpa using RZ.intsAre_vals r) (by rw [hlen]; unfold scanBound; omega) fun h' tk hS hk => ?_
  refine PyProof.Rows.args_nil ?_
  rw [hlen] at hS
  obtain ⟨o, es, ep, t, ho, hex, hd, h1, h2, h3, hf, hn⟩ := hS
  have I2 : Inv X pins σ H1 { s1 with heap := h', toks := tk } := I1.kept fun b o e => hk b o (Heap.lt_size e) e
  exact call_len_set ho hex hd hf (by have := PyProof.Rows.firstMet_length_le (fun i => ns.getD i 0) ns.length; rw [hn] <;> omega) ⟨.int (many ns : Nat), H1, I2.tok _, ⟨_, by rw [hn]; rfl⟩, q1⟩
theorem je_lenSet {p p2 q : Pos} (hs : c.sc.names.lookup ("len" : Str) = some .globalImplicit) (hm : g.mg ("len" : Str) = none) (hs2 : c.sc.names.lookup ("set" : Str) = some .globalImplicit) (hm2 : g.mg ("set" : Str) = none) (ha : JE g c ma a) (hst : noStar a = true := by rfl) :
    JE g c (xLenSet ma) (.Call (.Name "len" p) [.Call (.Name "set" p2) [a] [] q] [] pos) := je_mk (fun X ok => PE.imp
    (pe_lenSetM (by show X.env.scope.names.lookup _ = _; rw [ok.sc]; exact hs) (by rw [ok.mg]; exact hm) (by show X.env.scope.names.lookup _ = _; rw [ok.sc]; exact hs2) (by rw [ok.mg]; exact hm2) (ha X ok).1 ok.calm (by rw [star_cons hst])) fun σ H Q h => by
      obtain ⟨μ, s, env, d, s', S, E, hv, q⟩ := h
      obtain ⟨x, s1, h1, hv⟩ := bind_ok hv
      refine ⟨μ, s, env, x, s1, S, E, h1, fun v H1 μ1 x1 S1 r1 => ?_⟩
      unfold lenSetD at hv
      split at hv
      · split at hv
        · rename_i ex
          split at hv
          · rename_i ns hns
            split at hv
            · rename_i hl
              cases hv
              cases r1 with
              | ref hi =>
              obtain ⟨hm', vx, hx', px⟩ := Rep.lst_at S1 (.ref hi) ex
              have ev := ints_rep px hns
              subst ev
              exact ⟨_, ns, rfl, .of hx', hl, q _ _ _ x1 S1 (.int _)⟩
            · cases hv
          · cases hv
        · cases hv
      · cases hv) (by intro _ _; rfl)
/-! ### sorted of any data -/
section
variable {P : Program} {w : World} {A : Around} {E : Value → Shared → Prop} {s : Shared}
theorem collect_tuple {l : Addr} {vs : List Value} {Q : List Value → Shared → Prop} (hl : s.heap.IsTuple l vs.toArray)
    (h : Q vs { s with heap := (s.heap.push (seqObj "list" #[] 0)).update s.heap.objs.size (Obj.mapSeq (· ++ vs.toArray)) }) (hsz : vs.length ≤ sizeLine) :
    wpAny (model P w) A (collect (.ref l)) Q E s := by
  obtain ⟨o, ho, hc, n, hd⟩ := id hl
  unfold collect
  refine wpAny_bind (wpAny_runValue (codeAny_builtin entry_proto_collect' ?_))
  show wpAny _ _ (do again (.builtin "list.__iadd__" ⟨[← newList [], .ref l], []⟩)) _ _ s
  refine wpAny_bind (wpAny_newList (wpAny_pure ⟨Code.quiet_builtin _ (by decide +kernel), codeAny_builtin entry_list_iadd' ?_⟩))
  show wpAny _ _ (Builtin.List.listExtendWith (.ref s.heap.objs.size) (.ref l) (.ref s.heap.objs.size)) _ _ { s with heap := s.heap.push (seqObj "list" #[] 0) }
  unfold Builtin.List.listExtendWith
  have ho' : (s.heap.push (seqObj "list" #[] 0)).get? l = some o := Heap.get?_push_of_some _ ho
  refine wpAny_bind (wpAny_typeOf (T := "tuple") ⟨o, ho', hc⟩ ?_)
  have ht : (Value.type "tuple" == Value.type "tuple") = true := by rfl
  rw [if_pos (by rw [ht]; simp)]
  refine wpAny_bind (listItems_at ho' hd ?_)
  refine wpAny_bind (listItems_at (xs := #[]) (n := 0) (Heap.get?_push_size _ rfl) rfl ?_)
  rw [if_neg (by simp)]
  refine wpAny_bind (listUpdate_at (xs := #[]) (n := 0) (Heap.get?_push_size _ rfl) rfl ?_ (Nat.zero_le _) (by show (#[] ++ vs.toArray).size ≤ sizeLine + 1; simp only [Array.size_append, List.size_toArray, List.length_nil]; omega))
  refine wpAny_pure ?_
  show wpAny (model P w) A (do
      let o ← load s.heap.objs.size
      match o.data with
      | .seq xs _ => pure xs.toList
      | _ => unsupported "internal:collect") Q E { s with heap := (s.heap.push (seqObj "list" #[] 0)).update s.heap.objs.size (Obj.mapSeq (· ++ vs.toArray)) }
  refine wpAny_bind (wpAny_load (get?_update_seq (Heap.get?_push_size _ rfl) _) ?_)
  show wpAny _ _ (pure ((#[] : Array Value) ++ vs.toArray).toList) Q E _
  rw [show ((#[] : Array Value) ++ vs.toArray).toList = vs by simp]
  exact wpAny_pure h
theorem sorted_of_sort_t {l : Addr} {vs : List Value} {Q : Value → Shared → Prop} (hl : s.heap.IsTuple l vs.toArray) (hL : vs.length ≤ sizeLine)
    (body : ∀ E' : Value → Shared → Prop, wpAny (model P w) A.in1.in1 (Builtin.«list.sort» ⟨[.ref (s.heap.objs.size + 1)], []⟩) (fun f s' => f = .done (.ret .none) ∧ Q (.ref (s.heap.objs.size + 1)) s') E' { s with heap := PySem.W.copyHeap s.heap vs }) :
    wpAny (model P w) A (call (.builtin "sorted") [.ref l]) Q E s := by
  refine call_function_entry_kw kind_sorted plain_sorted entry_sorted (args_sorted1 _) ?_
  unfold Builtin.«sorted»
  refine wpAny_bind (m := checkCount "sorted" 1 1 _) (wpAny_pure ?_)
  refine wpAny_bind (collect_tuple hl ?_ hL)
  refine wpAny_bind (wpAny_newList ?_ hL)
  have hsz : ((s.heap.push (seqObj "list" #[] 0)).update s.heap.objs.size (Obj.mapSeq (· ++ vs.toArray))).objs.size = s.heap.objs.size + 1 := by
    rw [Heap.size_update, size_push']
  show wpAny _ _ _ _ _ { s with heap := PySem.W.copyHeap s.heap vs }
  rw [hsz]
  refine wpAny_bind (wpAny_holding (wpAny_call_entry_kw slot_list_sort ⟨_, PySem.W.copyHeap_at s.heap vs, rfl⟩ entry_list_sort ?body (args_list_sort _)))
  case body =>
    show wpAny (model P w) A.in1.in1 (Builtin.«list.sort» ⟨[.ref (s.heap.objs.size + 1)], []⟩) _ _ _
    refine wpAny_mono (body _) (fun f s' hf => ?_) fun _ _ e => e
    obtain ⟨rfl, hq⟩ := hf
    exact ⟨_, rfl, wpAny_pure ⟨_, rfl, hq⟩⟩
theorem sorted_data_t {l : Addr} {vs : List Value} {β : Type} {bs : List β} {R : Value → β → Prop} {enc : β → PyData} {Q : Value → Shared → Prop} (hl : s.heap.IsTuple l vs.toArray) (e : PySem.W.EachIs R vs bs) (er : PySem.W.EachIs (fun v b => ∃ as, Reads s.heap v (enc b) as) vs bs) (hal : PySem.W.AllAlike (bs.map enc)) (hk : PySem.W.Sortable (bs.map enc)) (hL : bs.length ≤ sizeLine)
    (hu : ∀ b, b ∈ bs → A.units + 2 + (enc b).depth < cLine) (h : ∀ out, out.length = bs.length → PySem.W.EachIs R out (bs.mergeSort (PySem.W.dataLe false enc)) → Q (.ref (s.heap.objs.size + 1)) { s with heap := sortedAll s.heap vs (List.toArray out) }) :
    wpAny (model P w) A (call (.builtin "sorted") [.ref l]) Q E s := by
  have er' : PySem.W.EachIs (fun v b => ∃ as, Reads (PySem.W.sortingHeap (PySem.W.copyHeap s.heap vs) (s.heap.objs.size + 1) vs) v (enc b) as) vs bs := er.mono fun _ _ ⟨as, r⟩ => ⟨as, PyProof.Rows.Reads.keeps (fun _ _ => PySem.W.sorting_copy_old) r⟩
  have hLv : vs.length ≤ sizeLine := by rw [e.length]; exact hL
  have S := PySem.W.SortsAt.data (prog := P) (w := w) (A := A.in1.in1) (s := { s with heap := PySem.W.sortingHeap (PySem.W.copyHeap s.heap vs) (s.heap.objs.size + 1) vs }) (PySem.W.each_map (R := fun v d => ∃ as, Reads (PySem.W.sortingHeap (PySem.W.copyHeap s.heap vs) (s.heap.objs.size + 1) vs) v d as) enc er') hal hk (PySem.W.bound_map (A := A.in1.in1) hu)
  exact sorted_of_sort_t hl hLv fun _ => PySem.W.list_sort_vals (s := { s with heap := PySem.W.copyHeap s.heap vs }) (PySem.W.copyHeap_at s.heap vs) S hLv ⟨rfl, h _ (by rw [PySem.W.sortVals_length false rfl]; exact e.length) (PySem.W.sortVals_data false e er' hal)⟩
end
theorem cr_sortedG (hK : X.K = K) (hu : X.A.units + 64 < cLine) : CallR X (.builtin "sorted") (RnD K sortedG) := by
  subst hK
  intro pins sh σ H xs us Q I rv h
  obtain ⟨μ, s, ds, d, s', S, r, h, q⟩ := h
  unfold sortedG at h
  split at h
  · split at h
    · rename_i ys hy
      split at h
      · rename_i kz hkz
        split at h
        · rename_i hok
          cases r with
          | cons r1 r2 =>
          cases r2
          obtain ⟨l, vx, rfl, sq, px⟩ := items_rep S r1 hy
          obtain ⟨u, rfl, ru⟩ := vals1 rv
          obtain rfl : u = Value.ref l := ru
          obtain ⟨hal, hsk⟩ := okKeys_all hok
          have pr := mapO_some hkz
          have hlen : kz.length = ys.length := by
            clear h px hal hsk hok hy hkz
            induction pr with
            | nil => rfl
            | cons _ _ ih => rw [List.length_cons, List.length_cons, ih]
          have ez := zip_snd (xs := ys) (ds := kz) hlen
          have main : ∀ vs : List Value, Vals vx vs → vx.length ≤ sizeLine → (∀ (Q' : Value → Shared → Prop), (∀ out : List Value, out.length = vs.length → PySem.W.EachIs (ItR X.K H μ) out ((ys.zip kz).mergeSort (PySem.W.dataLe false fun p => p.2)) → Q' (.ref (sh.heap.objs.size + 1)) { sh with heap := sortedAll sh.heap vs (List.toArray out) }) →
              wpAny (model X.prog X.w) X.A (call (.builtin "sorted") [.ref l]) Q' X.xe sh) → wpAny (model X.prog X.w) X.A (call (.builtin "sorted") [.ref l]) (EP X pins σ Q) X.xe sh := by
            intro vs rv2 hz run
            refine run _ fun out hol hE => ?_
            obtain ⟨zs, rz, pz⟩ := each_items hE
            obtain ⟨n, hn⟩ := sortedAll_at sh.heap vs out.toArray
            have hfresh : H (sh.heap.objs.size + 1) = none := I.hok.fresh (Nat.le_succ _)
            obtain ⟨hzl, x2, S2, r2⟩ := newL_ok S pz h hfresh
            exact ⟨.ref (sh.heap.objs.size + 1), upd H _ (.lst zs), I.laid (t' := sh.toks) (fun b o e => sortedAll_old e) (Nat.le_succ _) ⟨hzl, out, n, rz, hn⟩, rfl, q _ _ _ x2 S2 r2⟩
          have reads : ∀ vs : List Value, Vals vx vs → PySem.W.EachIs (fun v (b : D × PyData) => ∃ as, Reads sh.heap v b.2 as) vs (ys.zip kz) := by
            intro vs rv2
            clear main hy hok hal hsk ez h hlen hkz sq r1
            induction pr generalizing vx vs with
            | nil => cases px; cases rv2; exact .nil
            | cons hx _ ih =>
              cases px with
              | cons p1 p2 =>
              cases rv2 with
              | cons w1 w2 =>
              rw [List.zip_cons_cons]
              exact .cons (Dp.reads I _ _ _ (rep_dp S 12 _ _ _ p1 hx) w1) (ih _ p2 _ w2)
          have hdep : ∀ b, b ∈ ys.zip kz → X.A.units + 2 + b.2.depth < cLine := by
            intro b hb
            have hb2 : b.2 ∈ (ys.zip kz).map (fun p => p.2) := List.mem_map.mpr ⟨b, hb, rfl⟩
            rw [ez] at hb2
            have : b.2.depth ≤ 12 := by
              clear reads main hok hal hsk ez h hlen hy hkz px sq r1 hb
              generalize b.2 = p at hb2
              induction pr with
              | nil => simp at hb2
              | cons hx _ ih =>
                rcases List.mem_cons.mp hb2 with e | e
                · rw [e]; exact (pyd_fit 12 _ _ _ hx).2
                · exact ih e
            omega
          rcases sq with sq | sq
          · obtain ⟨vs, rv2, pl, hz⟩ := I.list sq
            have hE := items_each (K := X.K) (μ := μ) (H := H) rv2 px hlen
            exact main vs rv2 hz fun Q' hq => PySem.W.sorted_data pl.isList hE (reads vs rv2) (by rw [ez]; exact hal) (by rw [ez]; exact hsk) (by rw [← hE.length, ← rv2.length]; exact hz) hdep fun out ho hO => hq out (by rw [ho, hE.length]) hO
          · obtain ⟨vs, rv2, pl, hz⟩ := I.tuple sq
            have hE := items_each (K := X.K) (μ := μ) (H := H) rv2 px hlen
            exact main vs rv2 hz fun Q' hq => sorted_data_t pl hE (reads vs rv2) (by rw [ez]; exact hal) (by rw [ez]; exact hsk) (by rw [← hE.length, ← rv2.length]; exact hz) hdep fun out ho hO => hq out (by rw [ho, hE.length]) hO
        · cases h
      · cases h
    · cases h
  · cases h
theorem cr_sortedA (hK : X.K = K) (hu : X.A.units + 64 < cLine) : CallR X (.builtin "sorted") (RnD K sortedA) := by
  intro pins sh σ H xs us Q I rv h
  obtain ⟨μ, s, ds, d, s', S, r, h, q⟩ := h
  unfold sortedA at h
  cases e : sortedB ds s with
  | ok d1 s1 =>
    rw [e] at h
    cases h
    exact cr_sortedD hK pins sh σ H xs us Q I rv ⟨μ, s, ds, _, _, S, r, e, q⟩
  | no =>
    rw [e] at h
    exact cr_sortedG hK hu pins sh σ H xs us Q I rv ⟨μ, s, ds, _, _, S, r, h, q⟩
/-! ### in, of any data -/
theorem op_inGG (neg : Bool) (hK : X.K = K) (hu : X.A.units + 64 < cLine) : OpR X (compareOp (if neg then .NotIn else .In)) (R2D K (inG neg)) := by
  subst hK
  intro pins sh σ H x y v u Q I rx ry h
  obtain ⟨μ, s, dx, dy, d, s', S, px, py, h, q⟩ := h
  unfold inG at h
  have room : ∀ {a : PyData} {ds : List PyData}, pyd s 12 dx = some a → X.A.units + 1 + min (PyData.depthAll ds) a.depth < cLine := fun e => by
    have := (pyd_fit 12 s _ _ e).2
    omega
  split at h
  · rename_i a ds h1 h2
    cases h
    obtain ⟨as, r1⟩ := Dp.reads I _ _ _ (rep_dp S 12 _ _ _ px h1) rx
    obtain ⟨bs, r2⟩ := Dp.reads I _ _ _ (rep_dp S 12 _ _ _ py h2) ry
    have c1 := (pyd_fit 12 s _ _ h1).1
    have c2 := (pyd_fit 12 s _ _ h2).1
    have qq := q (.bl ((ds.any fun z => PyData.eqv z a) ^^ neg)) H μ .refl S (.bl _)
    cases neg with
    | true =>
      refine SeqAt.notIn_tuple_reads r2 r1 (by unfold PyData.canLay0 at c2; exact c2) c1 (room h1) ⟨.bl _, H, I, rfl, ?_⟩
      rw [Bool.xor_true] at qq
      exact qq
    | false =>
      refine SeqAt.in_tuple_reads r2 r1 (by unfold PyData.canLay0 at c2; exact c2) c1 (room h1) ⟨.bl _, H, I, rfl, ?_⟩
      rw [Bool.xor_false] at qq
      exact qq
  · rename_i a ds h1 h2
    cases h
    obtain ⟨as, r1⟩ := Dp.reads I _ _ _ (rep_dp S 12 _ _ _ px h1) rx
    obtain ⟨bs, r2⟩ := Dp.reads I _ _ _ (rep_dp S 12 _ _ _ py h2) ry
    have c1 := (pyd_fit 12 s _ _ h1).1
    have c2 := (pyd_fit 12 s _ _ h2).1
    have qq := q (.bl ((ds.any fun z => PyData.eqv z a) ^^ neg)) H μ .refl S (.bl _)
    cases neg with
    | true =>
      refine SeqAt.notIn_list_reads r2 r1 (by unfold PyData.canLay0 at c2; exact c2) c1 (room h1) ⟨.bl _, H, I, rfl, ?_⟩
      rw [Bool.xor_true] at qq
      exact qq
    | false =>
      refine SeqAt.in_list_reads r2 r1 (by unfold PyData.canLay0 at c2; exact c2) c1 (room h1) ⟨.bl _, H, I, rfl, ?_⟩
      rw [Bool.xor_false] at qq
      exact qq
  · cases h
theorem op_inAA (neg : Bool) (hK : X.K = K) (hu : X.A.units + 64 < cLine) : OpR X (compareOp (if neg then .NotIn else .In)) (R2D K (inA neg)) := by
  intro pins sh σ H x y v u Q I rx ry h
  obtain ⟨μ, s, dx, dy, d, s', S, px, py, h, q⟩ := h
  unfold inA at h
  cases e : inD neg dx dy s with
  | ok d1 s1 =>
    rw [e] at h
    cases h
    exact op_inDD neg hK pins sh σ H x y v u Q I rx ry ⟨μ, s, dx, dy, _, _, S, px, py, e, q⟩
  | no =>
    rw [e] at h
    exact op_inGG neg hK hu pins sh σ H x y v u Q I rx ry ⟨μ, s, dx, dy, _, _, S, px, py, h, q⟩
theorem op_inA (hK : X.K = K) (hu : X.A.units + 64 < cLine) : OpR X (compareOp .In) (R2D K (inA false)) := op_inAA false hK hu
theorem op_notInA (hK : X.K = K) (hu : X.A.units + 64 < cLine) : OpR X (compareOp .NotIn) (R2D K (inA true)) := op_inAA true hK hu
theorem inA_bl {neg : Bool} : ∀ x y s d s', inA neg x y s = .ok d s' → ∃ b, d = .bl b := by
  intro x y s d s' h
  unfold inA at h
  split at h
  · rename_i e
    cases h
    exact inD_bl _ _ _ _ _ e
  · unfold inG at h
    split at h
    · cases h; exact ⟨_, rfl⟩
    · cases h; exact ⟨_, rfl⟩
    · cases h
end
end Cs

/-! ## CsSim13 -/
/-! Comprehensions of two clauses. -/
namespace Cs
open PySem PySem.Spec PyProof.Rows L2
section
variable {K : PySem.W.Frag} {μ μ' : List Addr} {H H' : Hp} {s s' : Sto} {g : Gb} {c : Cc} {X : Cx} {m ma mb mc md : Sem} {e a b d f : Expr} {pos : Pos}
def goFromL (f : TurnL) (w : Wk) (k j : Nat) (s : Sto) : R (List D) := match w with
  | .its xs => goItsL f (xs.drop j) s
  | .live i => goLiveL f i k j s
  | .rd r => goRdL f r k j s
theorem goFromL_step {f : TurnL} {w : Wk} {k j : Nat} {s s' : Sto} {ys : List D} (h : goFromL f w k j s = .ok ys s') :
    (wkAt w s j = some none ∧ ys = [] ∧ s' = s) ∨ ∃ x o s1 zs k', wkAt w s j = some (some x) ∧ f x s = .ok o s1 ∧ goFromL f w k' (j + 1) s1 = .ok zs s' ∧ ys = o ++ zs ∧ wkMes w k' (j + 1) < wkMes w k j := by
  cases w with
  | its xs =>
    have h : goItsL f (xs.drop j) s = .ok ys s' := h
    by_cases hj : j < xs.length
    · rw [List.drop_eq_getElem_cons hj] at h
      obtain ⟨o, s1, h1, h2⟩ := bind_ok h
      obtain ⟨zs, s2, h3, h4⟩ := bind_ok h2
      cases h4
      exact .inr ⟨xs[j], o, s1, zs, k, by show some xs[j]? = _; rw [List.getElem?_eq_getElem hj], h1, h3, rfl, by show xs.length - (j + 1) < xs.length - j; omega⟩
    · rw [List.drop_eq_nil_of_le (by omega)] at h
      cases h
      exact .inl ⟨by show some xs[j]? = _; rw [List.getElem?_eq_none (by omega)], rfl, rfl⟩
  | live i =>
    have h : goLiveL f i k j s = .ok ys s' := h
    cases k with
    | zero => cases h
    | succ k =>
      unfold goLiveL at h
      split at h
      · rename_i xs ex
        split at h
        · rename_i x hx
          obtain ⟨o, s1, h1, h2⟩ := bind_ok h
          obtain ⟨zs, s2, h3, h4⟩ := bind_ok h2
          cases h4
          exact .inr ⟨x, o, s1, zs, k, by unfold wkAt; dsimp only; rw [ex]; show some xs[j]? = _; rw [hx], h1, h3, rfl, Nat.lt_succ_self _⟩
        · rename_i hx
          cases h
          exact .inl ⟨by unfold wkAt; dsimp only; rw [ex]; show some xs[j]? = _; rw [hx], rfl, rfl⟩
      · cases h
  | rd r =>
    have h : goRdL f r k j s = .ok ys s' := h
    cases k with
    | zero => cases h
    | succ k =>
      unfold goRdL at h
      split at h
      · rename_i x hx
        obtain ⟨o, s1, h1, h2⟩ := bind_ok h
        obtain ⟨zs, s2, h3, h4⟩ := bind_ok h2
        cases h4
        exact .inr ⟨x, o, s1, zs, k, hx, h1, h3, rfl, Nat.lt_succ_self _⟩
      · rename_i hx
        cases h
        exact .inl ⟨hx, rfl, rfl⟩
      · cases h
theorem wipe_idem (own : List Nat) (τ : L2.St) : wipe (wipe τ own) own = wipe τ own := by
  have out : ∀ (us ws : List Nat), (∀ i ∈ us, i ∈ ws) → wipe (wipe τ us) ws = wipe τ ws := by
    intro us
    induction us with
    | nil => intro ws _; rfl
    | cons u us ih =>
      intro ws hu
      show wipe ((wipe τ us).set u none) ws = _
      rw [wipe_set (hu u List.mem_cons_self)]
      exact ih ws fun i hi => hu i (List.mem_cons_of_mem _ hi)
  exact out own own fun _ h => h
theorem reps_beside {D : Addr} {ys : List V} {μ6 : List Addr} {H6 : Hp} (keepR : ∀ (v : V) (d : Cs.D), Rep K H6 μ6 v d → Rep K (upd H6 D (.lst ys)) μ6 v d) : ∀ {ds : List Cs.D} {vs : List V}, Reps K H6 μ6 vs ds → Reps K (upd H6 D (.lst ys)) μ6 vs ds := by
  intro ds
  induction ds with
  | nil => intro vs h; cases h; exact .nil
  | cons d ds ih =>
    intro vs h
    cases h with
    | cons r q => exact .cons (keepR _ _ r) (ih q)
theorem rd_comp2 {own vs vs1 us1 : List Nat} {mg mg1 : EvG} {it it1 : EvI} {σ : L2.St} {H : Hp} {Q : VK} (hvs : ∀ i ∈ vs, i ∈ own) (hus : ∀ i ∈ us1, i ∈ vs1)
    (h : RdE K (fun env s => (it env s).bind fun w s => (goWkL (turnL mg it1 mg1 m vs1 (wipeE env own)) w s).bind newL) σ H Q) : tLc2 (RdI K it) (RdG K vs mg) tYes (RdI K it1) (RdG K us1 mg1) tYes (RdE K m.v) own vs1 σ H Q := by
  obtain ⟨μ, s, env, d, s', S, E, hv, q⟩ := h
  obtain ⟨w, s1, h1, hv⟩ := bind_ok hv
  obtain ⟨ys, s2, h2, hv⟩ := bind_ok hv
  refine ⟨μ, s, env, w, s1, S, E, h1, fun J H1 μ1 x1 S1 wk D hD => ?_⟩
  have h2 : goFromL (turnL mg it1 mg1 m vs1 (wipeE env own)) w 1000000 0 s1 = .ok ys s2 := by
    cases w <;> exact h2
  have hz : ys.length ≤ sizeLine := by
    unfold newL at hv
    split at hv
    · assumption
    · cases hv
  have nD : ∀ {μ' : List Addr} {H' : Hp}, Ext μ1 H1 μ' H' → D ∉ μ1 := fun _ => S1.nomem fun zs z => by rw [hD] at z; cases zs <;> cases z
  refine ⟨fun i mm H => ∃ μ' s' acc vacc k rest, Ext μ1 H1 μ' H ∧ Sim K μ' H s' ∧ D ∉ μ' ∧ H D = some (.lst vacc) ∧ Reps K H μ' vacc acc ∧ goFromL (turnL mg it1 mg1 m vs1 (wipeE env own)) w k i s' = .ok rest s2 ∧ acc ++ rest = ys ∧ mm = wkMes w k i, ⟨wkMes w 1000000 0, ?_⟩, ?_⟩
  · have sm : Same H1 (upd H1 D (.lst [])) := fun b x e => by
      rw [upd_ne (ne_of_none e hD)]; exact e
    exact ⟨μ1, s1, [], [], 1000000, ys, .same sm, S1.same sm, nD .refl, upd_same, .nil, h2, rfl, rfl⟩
  · rintro i mm H2 ⟨μ2, s3, acc, vacc, k, rest, x2, S2, nD2, hD2, ra, hg, hy, rfl⟩
    rcases goFromL_step hg with ⟨ha, rfl, rfl⟩ | ⟨x, oo, s4, zs, k', ha, hf, hg2, rfl, hlt⟩
    · refine .inl ⟨(wk μ2 H2 s2 (x2.toL S1) S2 i).2 ha, ?_⟩
      rw [List.append_nil] at hy
      subst hy
      obtain ⟨S3, r3, pre⟩ := S2.adopt hD2 nD2 ra
      unfold newL at hv
      rw [if_pos hz] at hv
      cases hv
      refine q _ H2 (μ2 ++ [D]) (x1.trans ⟨fun i a h => pre i a (x2.pre i a h), x2.keep, fun a ha hn => ?_, x2.fz⟩) S3 r3
      rcases List.mem_append.mp ha with ha | ha
      · exact x2.fresh a ha hn
      · rw [List.mem_singleton.mp ha]; exact hD
    · obtain ⟨go, yld⟩ := (wk μ2 H2 s3 (x2.toL S1) S2 i).1 x ha
      refine .inr ⟨go, fun H' => ∃ m', m' < wkMes w k i ∧ ∃ μ' s' acc vacc k rest, Ext μ1 H1 μ' H' ∧ Sim K μ' H' s' ∧ D ∉ μ' ∧ H' D = some (.lst vacc) ∧ Reps K H' μ' vacc acc ∧ goFromL (turnL mg it1 mg1 m vs1 (wipeE env own)) w k (i + 1) s' = .ok rest s2 ∧ acc ++ rest = ys ∧ m' = wkMes w k (i + 1), fun H' h => h, fun v H3 hyl => ?_⟩
      obtain ⟨sm, rv⟩ := yld v H3 hyl
      have S3 := S2.same sm
      have x3 := x2.trans (.same sm)
      have E3 : EnvR K H3 μ2 σ env := ((E.mono S x1).mono S1 x3)
      unfold turnL at hf
      obtain ⟨env4, s5, hg4, hf⟩ := bind_ok hf
      obtain ⟨w1, s6, hi1, hf⟩ := bind_ok hf
      have hf : goFrom (turnC mg1 none m (wipeE env4 vs1)) w1 1000000 0 s6 = .ok oo s4 := by
        cases w1 <;> exact hf
      refine ⟨μ2, s3, wipeE env own, x, env4, s5, S3, wipe_env E3 own, rv, hg4, fun σ4 H4 μ4 x4 S4 E4 hw4 => ⟨?_, ?_⟩⟩
      · rw [hw4 own hvs]
        exact wipe_idem own σ
      · unfold tYes
        dsimp only
        rw [if_pos rfl]
        refine ⟨μ4, s5, env4, w1, s6, S4, E4, hi1, fun J1 H5 μ5 x5 S5 wk1 => ?_⟩
        have x35 : Ext μ2 H3 μ5 H5 := x4.trans x5
        have hD3 := sm D _ hD2
        have nD5 : D ∉ μ5 := fun z => (by have := x35.fresh D z nD2; rw [hD3] at this; cases this)
        have hD5 : H5 D = some (.lst vacc) := x35.keep D _ hD3 nD2
        have ra5 : Reps K H5 μ5 vacc acc := (ra.mono S2 (.same sm)).mono S3 x35
        have E5 : EnvR K H5 μ5 σ4 env4 := E4.mono S4 x5
        have x15 : Ext μ1 H1 μ5 H5 := x3.trans x35
        have nD1 : D ∉ μ1 := nD .refl
        -- the inner walk: what is kept but for D
        refine ⟨fun j kk H => ∃ (μ' : List Addr) (s' : Sto) (acc' : List Cs.D) (vacc' : List V) (k1 : Nat) (rest' : List Cs.D), (∀ (i : Nat) (a : Addr), μ5[i]? = some a → μ'[i]? = some a) ∧ (∀ a o, H5 a = some o → a ∉ μ5 → a ≠ D → H a = some o) ∧ (∀ a o vs, H5 a = some (.frz o (.dT vs)) → H a = some (.frz o (.dT vs))) ∧ (∀ a, a ∈ μ' → a ∉ μ5 → H5 a = none) ∧ Sim K μ' H s' ∧ D ∉ μ' ∧ H D = some (.lst vacc') ∧ Reps K H μ' vacc' acc' ∧ goFrom (turnC mg1 none m (wipeE env4 vs1)) w1 k1 j s' = .ok rest' s4 ∧ acc' ++ rest' = acc ++ oo ∧ kk = wkMes w1 k1 j,
          ⟨wkMes w1 1000000 0, μ5, s6, acc, vacc, 1000000, oo, fun _ _ h => h, fun _ _ h _ _ => h, fun _ _ _ h => h, fun a h hn => absurd h hn, S5, nD5, hD5, ra5, hf, rfl, rfl⟩, ?_⟩
        rintro j kk H6 ⟨μ6, s7, acc6, vacc6, k1, rest6, pre6, keep6, fz6, fresh6, S6, nD6, hD6, ra6, hgo, hacc, rfl⟩
        have nT : ∀ a xs, H5 a = some (.tup xs) → a ∉ μ5 ∧ a ≠ D := fun a xs h => ⟨S5.nomem (fun ys z => by rw [h] at z; cases ys <;> cases z), fun e => by rw [e, hD5] at h; cases h⟩
        have nF : ∀ a o u, H5 a = some (.frz o u) → sqO u = true → a ∉ μ5 ∧ a ≠ D := fun a o u h hq => ⟨S5.nosq h hq, fun e => by rw [e, hD5] at h; cases h⟩
        have exL : ExtL μ5 H5 μ6 H6 := ⟨pre6, fun a xs h => keep6 a _ h (nT a xs h).1 (nT a xs h).2, fun a o u h hq => keep6 a _ h (nF a o u h hq).1 (nF a o u h hq).2, fz6⟩
        rcases goFrom_step hgo with ⟨ha1, rfl, rfl⟩ | ⟨x1', o1, s8, zs1, k1', ha1, hf1, hgo1, rfl, hk1⟩
        · refine .inl ⟨(wk1 μ6 H6 _ exL S6 j).2 ha1, wkMes w k' (i + 1), hlt, μ6, _, acc6, vacc6, k', zs, ⟨fun i a h => pre6 i a (x15.pre i a h), fun a o h hn => ?_, fun a ha hn => ?_, fun a o vs h => fz6 a o vs (x15.fz a o vs h)⟩, S6, nD6, hD6, ra6, hg2, ?_, rfl⟩
          · refine keep6 a o (x15.keep a o h hn) (fun z => ?_) (fun e => by rw [e, hD] at h; cases h)
            rw [x15.fresh a z hn] at h; cases h
          · by_cases h5 : a ∈ μ5
            · exact x15.fresh a h5 hn
            · cases h1 : H1 a with
              | none => rfl
              | some o =>
                have := fresh6 a ha h5
                rw [x15.keep a o h1 hn] at this; cases this
          · rw [List.append_nil] at hacc
            rw [hacc, List.append_assoc]; exact hy
        · obtain ⟨go1, yld1⟩ := (wk1 μ6 H6 s7 exL S6 j).1 x1' ha1
          have hlt1 : wkMes w1 k1' (j + 1) < wkMes w1 k1 j := by
            cases w1 <;> exact hk1
          refine .inr ⟨go1, fun H => ∃ k2, k2 < wkMes w1 k1 j ∧ ∃ (μ' : List Addr) (s' : Sto) (acc' : List Cs.D) (vacc' : List V) (k1 : Nat) (rest' : List Cs.D), (∀ (i : Nat) (a : Addr), μ5[i]? = some a → μ'[i]? = some a) ∧ (∀ a o, H5 a = some o → a ∉ μ5 → a ≠ D → H a = some o) ∧ (∀ a o vs, H5 a = some (.frz o (.dT vs)) → H a = some (.frz o (.dT vs))) ∧ (∀ a, a ∈ μ' → a ∉ μ5 → H5 a = none) ∧ Sim K μ' H s' ∧ D ∉ μ' ∧ H D = some (.lst vacc') ∧ Reps K H μ' vacc' acc' ∧ goFrom (turnC mg1 none m (wipeE env4 vs1)) w1 k1 (j + 1) s' = .ok rest' s4 ∧ acc' ++ rest' = acc ++ oo ∧ k2 = wkMes w1 k1 (j + 1), fun H' h => h, fun v1 H7 hyl1 => ?_⟩
          obtain ⟨sm1, rv1⟩ := yld1 v1 H7 hyl1
          have S7 := S6.same sm1
          have E7 : EnvR K H7 μ6 σ4 env4 := ⟨E5.1, fun i d h => let ⟨v, h1, h2⟩ := E5.2 i d h; ⟨v, h1, Rep.keep (fun a xs h => sm1 a _ (exL.kt a xs h)) (fun a o u h hq => sm1 a _ (exL.kf a o u h hq)) exL.pre _ _ h2⟩⟩
          have hD7 := sm1 D _ hD6
          unfold turnC at hf1
          obtain ⟨env8, s9, hg8, hf1⟩ := bind_ok hf1
          have hf1 : ((m.v env8 s9).bind fun y s => .ok (some y) s) = .ok o1 s8 := hf1
          obtain ⟨y, s10, hm1, hm2⟩ := bind_ok hf1
          cases hm2
          refine ⟨μ6, s7, wipeE env4 vs1, x1', env8, s9, S7, wipe_env E7 vs1, rv1, hg8, fun σ8 H8 μ8 x8 S8 E8 hw8 => ⟨?_, ?_⟩⟩
          · rw [hw8 vs1 hus]
            exact wipe_idem vs1 σ4
          · rw [if_pos rfl]
            refine ⟨μ8, s9, env8, y, s8, S8, E8, hm1, fun vy H9 μ9 x9 S9 r9 => ?_⟩
            have x79 := x8.trans x9
            have nD9 : D ∉ μ9 := fun z => (by have := x79.fresh D z nD6; rw [hD7] at this; cases this)
            have hD9 : H9 D = some (.lst vacc6) := x79.keep D _ hD7 nD6
            have ra9 : Reps K H9 μ9 vacc6 acc6 := (ra6.mono S6 (.same sm1)).mono S7 x79
            obtain ⟨S10, keepR⟩ := S9.beside (ys := vacc6 ++ [vy]) hD9 nD9
            refine ⟨vacc6, hD9, ?_, wkMes w1 k1' (j + 1), hlt1, μ9, s8, acc6 ++ [y], vacc6 ++ [vy], k1', zs1, fun i a h => x79.pre i a (pre6 i a h), fun a o h hn hd => ?_, fun a o vs h => ?fz, fun a ha hn => ?_, S10, nD9, upd_same, reps_beside keepR (ra9.append (.cons r9 .nil)), hgo1, ?_, rfl⟩
            · have e2 : (acc6 ++ conO (some y) zs1).length = (acc ++ oo).length := by rw [hacc]
              have e3 : (acc ++ (oo ++ zs)).length ≤ sizeLine := by rw [hy]; exact hz
              have e4 : (conO (some y) zs1).length = zs1.length + 1 := rfl
              rw [List.length_append, List.length_append] at e2
              rw [List.length_append, List.length_append] at e3
              rw [ra6.length]; omega
            case fz =>
              rw [upd_ne (fun e => by rw [e, hD5] at h; cases h)]
              exact x79.fz a o vs (sm1 a _ (fz6 a o vs h))
            · rw [upd_ne hd]
              refine x79.keep a o (sm1 a o (keep6 a o h hn hd)) fun z => ?_
              rw [fresh6 a z hn] at h; cases h
            · by_cases h6 : a ∈ μ6
              · exact fresh6 a h6 hn
              · cases h5 : H5 a with
                | none => rfl
                | some o =>
                  have h7 := x79.fresh a ha h6
                  rw [sm1 a o (keep6 a o h5 hn fun e => nD9 (by rw [← e]; exact ha))] at h7; cases h7
            · rw [← hacc, List.append_assoc]; rfl
/-- [elt for tg in iter for tg1 in iter1] -/
theorem je_comp2 {elt tg iter tg1 iter1 : Expr} {scope : Scope} {vs us1 : List Nat} {mg mg1 : EvG} {it it1 : EvI} (own : List (Str × Nat)) (vs1 : List Nat) (hb : blkC c.N c.sc scope own = true) (hi : JIt g c tg it iter) (hg : JG g (c.blk scope) vs mg tg) (hvs : ∀ i ∈ vs, i ∈ own.map (·.2))
    (hi1 : JIt g (c.blk scope) tg1 it1 iter1) (hg1 : JG g (c.blk scope) us1 mg1 tg1) (hus : ∀ i ∈ us1, i ∈ vs1) (hv1 : ∀ i ∈ vs1, i ∈ own.map (·.2)) (he : JE g (c.blk scope) m elt) (hs : noSet iter = true := by rfl) (hs1 : noSet iter1 = true := by rfl) : JE g c (xComp2 (own.map (·.2)) vs1 mg it mg1 it1 m) (.ListComp elt [⟨tg, iter, [], 0⟩, ⟨tg1, iter1, [], 0⟩] scope pos) :=
  je_mk (fun X ok => PE.imp (pe_lc2 (own := own) (vs1 := vs1) ok.calm (by rw [ok.N]; exact ok.nd) (hi X ok) (blkOk_by (by rw [ok.N, ok.sc]; exact hb)) hv1 (fun s H C cl fp => hg _ (blk_ok ok s H C cl fp)) (fun s H C cl fp => pts_nil) (fun s H C cl fp => hi1 _ (blk_ok ok s H C cl fp)) (fun s H C cl fp => hg1 _ (blk_ok ok s H C cl fp)) (fun s H C cl fp => pts_nil) (fun s H C cl fp => (he _ (blk_ok ok s H C cl fp)).1) (noSet_ok hs _) (noSet_ok hs1))
    fun σ H Q h => rd_comp2 hvs hus h) (by intro _ _; rfl)
/-- y = [..] on one line, y a local -/
theorem js_setLc2 {elt tg iter tg1 iter1 : Expr} {scope : Scope} {vs us1 : List Nat} {mg mg1 : EvG} {it it1 : EvI} {y : Str} {py spos : Pos} (i : Nat) (own : List (Str × Nat)) (vs1 : List Nat) (hb : blkC c.N c.sc scope own = true) (hi : JIt g c tg it iter) (hg : JG g (c.blk scope) vs mg tg) (hvs : ∀ i ∈ vs, i ∈ own.map (·.2))
    (hi1 : JIt g (c.blk scope) tg1 it1 iter1) (hg1 : JG g (c.blk scope) us1 mg1 tg1) (hus : ∀ i ∈ us1, i ∈ vs1) (hv1 : ∀ i ∈ vs1, i ∈ own.map (·.2)) (he : JE g (c.blk scope) m elt) (hy : c.N[i]? = some y) (hyl : c.sc.names.lookup y = some .local) (hk : c.sc.kind = .function) (hl : (py.line == pos.line) = true) (hl2 : spos.line = spos.line := by rfl)
    (hn : (scope.names.any fun (n, k) => n == y && (k == .local || k == .cell)) = false) (hs : noSet iter = true := by rfl) (hs1 : noSet iter1 = true := by rfl) : JS g c (sAsg (gVar i) (xComp2 (own.map (·.2)) vs1 mg it mg1 it1 m)) (.Assign [.Name y py] (.ListComp elt [⟨tg, iter, [], 0⟩, ⟨tg1, iter1, [], 0⟩] scope pos) spos) := fun X ok =>
  PS.imp (ps_setLc2 (i := i) (own := own) (vs1 := vs1) ok.calm (by rw [ok.N]; exact ok.nd) (by rw [ok.N]; exact hy) (by rw [ok.sc]; exact hyl) (sw_true (by rw [ok.sc]; exact hk) (by rw [ok.sc]; exact hyl) hl hn) (hi X ok) (blkOk_by (by rw [ok.N, ok.sc]; exact hb)) hv1
    (fun s H C cl fp => hg _ (blk_ok ok s H C cl fp)) (fun s H C cl fp => pts_nil) (fun s H C cl fp => hi1 _ (blk_ok ok s H C cl fp)) (fun s H C cl fp => hg1 _ (blk_ok ok s H C cl fp)) (fun s H C cl fp => pts_nil) (fun s H C cl fp => (he _ (blk_ok ok s H C cl fp)).1) (noSet_ok hs _) (noSet_ok hs1)) fun En σ H h => by
    obtain ⟨μ, s, env, S, E, q⟩ := h
    obtain ⟨d, s1, h1, q⟩ := st_ok q
    obtain ⟨env2, s2, h2, q⟩ := st_ok q
    cases h2
    exact rd_comp2 hvs hus ⟨μ, s, env, d, _, S, E, h1, fun v H1 μ1 x1 S1 r1 => q _ H1 μ1 x1 S1 ((E.mono S x1).set r1 i)⟩
end
end Cs

/-! ## CsSim14 -/
/-! Dicts whose keys are tuples of whole numbers. -/
namespace Cs
open PySem PySem.Spec PyProof.Rows L2
section
variable {K : PySem.W.Frag} {μ μ' : List Addr} {H H' : Hp} {s s' : Sto} {g : Gb} {c : Cc} {X : Cx} {m ma mb mc md mo mi : Sem} {e a b d f o i : Expr} {pos : Pos}
/-! ### entries -/
theorem inl_map {ns ms : List Int} : (ns.map Sum.inl : List Key) = ms.map Sum.inl ↔ ns = ms := by
  constructor
  · intro h
    exact List.map_inj_right (fun x y e => by injection e) |>.mp h
  · intro h; rw [h]
theorem tkey_of (ns : List Int) : tkey (.tup (ns.map .int)) = some ns := by
  unfold tkey
  dsimp only
  induction ns with
  | nil => rfl
  | cons x ns ih =>
    rw [List.map_cons]
    unfold intsD
    rw [ih]
    rfl
theorem KvR.find {vs : List (List Key × V)} {kvs : List (D × D)} (r : KvR K H μ vs kvs) (ns : List Int) :
    (valV vs (ns.map Sum.inl) = none ∧ dfind ns kvs = none) ∨ ∃ v d, valV vs (ns.map Sum.inl) = some v ∧ dfind ns kvs = some d ∧ Rep K H μ v d := by
  unfold KvR at r
  induction r with
  | nil => exact .inl ⟨rfl, rfl⟩
  | @cons p q ps qs h t ih =>
    obtain ⟨⟨ms, h1, h2⟩, h3⟩ := h
    by_cases e : ms = ns
    · subst e
      refine .inr ⟨p.2, q.2, valV_pos h1, ?_, h3⟩
      unfold dfind
      rw [List.find?_cons_of_pos (by rw [h2, tkey_of]; simp)]
      rfl
    · have n1 : ¬ p.1 = ns.map Sum.inl := fun z => e (inl_map.mp (h1.symm.trans z))
      have n2 : dfind ns (q :: qs) = dfind ns qs := by
        unfold dfind
        rw [List.find?_cons_of_neg (by rw [h2, tkey_of]; simpa using e)]
      rw [valV_neg n1, n2]
      exact ih
theorem KvR.any {vs : List (List Key × V)} {kvs : List (D × D)} (r : KvR K H μ vs kvs) (ns : List Int) :
    (vs.any fun kv => decide (kv.1 = ns.map Sum.inl)) = kvs.any fun kv => decide (tkey kv.1 = some ns) := by
  unfold KvR at r
  induction r with
  | nil => rfl
  | @cons p q ps qs h t ih =>
    obtain ⟨⟨ms, h1, h2⟩, h3⟩ := h
    rw [List.any_cons, List.any_cons, ih]
    congr 1
    rw [h1, h2, tkey_of]
    exact decide_eq_decide.mpr ⟨fun z => by rw [inl_map.mp z], fun z => by rw [Option.some.inj z]⟩
theorem KvR.put {vs : List (List Key × V)} {kvs : List (D × D)} (r : KvR K H μ vs kvs) (ns : List Int) {v : V} {d : D} (rv : Rep K H μ v d) : KvR K H μ (putK vs (ns.map Sum.inl) v) (dput ns d kvs) := by
  unfold putK dput
  rw [r.any ns]
  by_cases q : (kvs.any fun kv => decide (tkey kv.1 = some ns)) = true
  · rw [if_pos q, if_pos q]
    clear q
    unfold KvR at r ⊢
    induction r with
    | nil => exact .nil
    | @cons p q ps qs h t ih =>
      obtain ⟨⟨ms, h1, h2⟩, h3⟩ := h
      rw [List.map_cons, List.map_cons]
      refine .cons ?_ ih
      by_cases e : ms = ns
      · subst e
        rw [if_pos h1, if_pos (by rw [h2, tkey_of])]
        exact ⟨⟨ms, h1, h2⟩, rv⟩
      · rw [if_neg (fun z => e (inl_map.mp (h1.symm.trans z))), if_neg (by rw [h2, tkey_of]; simpa using e)]
        exact ⟨⟨ms, h1, h2⟩, h3⟩
  · rw [if_neg q, if_neg q]
    exact Paired.snoc r ⟨⟨ns, rfl, rfl⟩, rv⟩
theorem KvR.length {vs : List (List Key × V)} {kvs : List (D × D)} (r : KvR K H μ vs kvs) : vs.length = kvs.length := Paired.length r
/-- the dict at a number of the store -/
theorem dict_at (S : Sim K μ H s) {v : V} {i : Nat} (r : Rep K H μ v (.ref i)) {z : Bool} {m : D} {kvs : List (D × D)} (h : dOf s i = some (z, m, kvs)) :
    ∃ a vs, v = .ref a ∧ μ[i]? = some a ∧ KvR K H μ vs kvs ∧ Rd H a (.dT vs) ∧ (z = false → H a = some (.dT vs)) := by
  unfold dOf at h
  split at h
  · rename_i ex
    cases h
    cases r with
    | @ref _ a hi =>
    obtain ⟨o, e, ro⟩ := S.ob i a hi
    rw [ex] at e
    cases e
    have ro : RepT K H μ a ((.bl z, m) :: kvs) := ro
    cases z with
    | false =>
      obtain ⟨vs, h1, h2⟩ := ro
      exact ⟨a, vs, rfl, hi, h2, .inl h1, fun _ => h1⟩
    | true =>
      obtain ⟨o, vs, h1, h2⟩ := ro
      exact ⟨a, vs, rfl, hi, h2, .inr ⟨o, h1⟩, fun z => nomatch z⟩
  · cases h
/-- a key -/
theorem key_at {v : V} {d : D} {ns : List Int} (r : Rep K H μ v d) (h : tkey d = some ns) : ∃ b, v = .ref b ∧ H b = some (.tup ((ns.map Sum.inl : List Key).map kV)) := by
  unfold tkey at h
  split at h
  · cases r with
    | @tup b xs _ tx px =>
    have e := ints_rep px h
    subst e
    refine ⟨b, rfl, ?_⟩
    have e2 : (ns.map Sum.inl : List Key).map kV = ns.map V.int := by rw [List.map_map]; rfl
    rw [e2]
    exact tx
  · cases h
theorem dget_at {vs : List (List Key × V)} {a b : Addr} {ns : List Int} (h : Rd H a (.dT vs)) (hb : H b = some (.tup ((ns.map Sum.inl : List Key).map kV))) : DGet H a (.ref b) (valV vs (ns.map Sum.inl)) :=
  .inr ⟨vs, _, b, h, rfl, hb, rfl⟩
/-- an object of the store changed -/
theorem rep_setO {i : Nat} {a : Addr} {ho : HO} {o : O} (S : Sim K μ H s) (ha : μ[i]? = some a) (hn : ∀ o vs, H a ≠ some (.frz o (.dT vs))) (hr : Ext μ H μ (upd H a ho) → RepO K (upd H a ho) μ a o) : Ext μ H μ (upd H a ho) ∧ Sim K μ (upd H a ho) (s.set i o) := by
  have ex : Ext μ H μ (upd H a ho) := ⟨fun _ _ h => h, fun b o h n => by
    rw [upd_ne (fun z => n (by rw [z]; exact List.mem_of_getElem? ha))]; exact h, fun _ h n => absurd h n, fun b o vs h => by
    rw [upd_ne (fun z => by rw [z] at h; exact hn _ _ h)]; exact h⟩
  refine ⟨ex, S.nx, S.nd, fun j b h => ?_, fun j hj => ?_⟩
  · rw [Sto.get_set]
    by_cases hj : j = i
    · rw [if_pos hj]
      rw [hj, ha] at h
      have e : a = b := Option.some.inj h
      subst e
      exact ⟨_, rfl, hr ex⟩
    · rw [if_neg hj]
      obtain ⟨o, e, q⟩ := S.ob j b h
      refine ⟨o, e, ?_⟩
      have nb : b ≠ a := fun z => by
        subst z
        exact hj ((List.getElem?_inj (List.getElem?_eq_some_iff.mp h).1 S.nd).mp (h.trans ha.symm))
      cases o with
      | lst ds => obtain ⟨ys, e1, r1⟩ := q; exact ⟨ys, by rw [upd_ne nb]; exact e1, r1.mono S ex⟩
      | dct kvs => exact q.move (fun o h => by rw [upd_ne nb]; exact h) fun d v r => r.mono S ex
  · rw [Sto.get_set, if_neg ?_]
    · exact S.up j hj
    · have := (List.getElem?_eq_some_iff.mp ha).1
      rw [S.nx] at this
      rw [Sto.n_set] at hj
      omega
/-! ### {} -/
theorem rep_dctT {p : Addr} (S : Sim K μ H s) (hp : H p = none) :
    Ext μ H (μ ++ [p]) (upd H p (.dT [])) ∧ Sim K (μ ++ [p]) (upd H p (.dT [])) (s.add (.dct [(.bl false, .non)])) ∧ Rep K (upd H p (.dT [])) (μ ++ [p]) (.ref p) (.ref s.n) := by
  have sm : Same H (upd H p (.dT [])) := fun b x e => by
    rw [upd_ne (ne_of_none e hp)]; exact e
  have np : p ∉ μ := S.nomem fun ys z => by rw [hp] at z; cases z
  have pre : ∀ (i : Nat) (a : Addr), μ[i]? = some a → (μ ++ [p])[i]? = some a := fun i a h => by
    rw [List.getElem?_append_left]
    · exact h
    · exact (List.getElem?_eq_some_iff.mp h).1
  have ex : Ext μ H (μ ++ [p]) (upd H p (.dT [])) := ⟨pre, fun a o h _ => sm a o h, fun a h n => by
    rcases List.mem_append.mp h with h | h
    · exact absurd h n
    · rw [List.mem_singleton.mp h]; exact hp, fun a o vs h => sm a _ h⟩
  refine ⟨ex, ⟨?_, ?_, fun i a h => ?_, fun i hi => ?_⟩, .ref ?_⟩
  · rw [List.length_append, S.nx]; rfl
  · rw [List.nodup_append]
    exact ⟨S.nd, by simp, fun a ha b hb e => np (by rw [List.mem_singleton.mp hb] at e; rw [← e]; exact ha)⟩
  · rw [Sto.get_add]
    by_cases hi : i = s.n
    · rw [if_pos hi]
      rw [hi, ← S.nx, List.getElem?_append_right (Nat.le_refl _), Nat.sub_self] at h
      have e : p = a := by simpa using h
      subst e
      exact ⟨_, rfl, [], upd_same, .nil⟩
    · rw [if_neg hi]
      have hl : i < μ.length := by
        have := (List.getElem?_eq_some_iff.mp h).1
        rw [List.length_append, S.nx] at this
        have e1 : ([p] : List Addr).length = 1 := rfl
        rw [S.nx]; omega
      rw [List.getElem?_append_left hl] at h
      obtain ⟨o, e, q⟩ := S.ob i a h
      refine ⟨o, e, ?_⟩
      cases o with
      | lst ds => obtain ⟨ys, e1, r1⟩ := q; exact ⟨ys, sm _ _ e1, r1.mono S ex⟩
      | dct kvs => exact q.move (fun o h => sm _ _ h) fun d v r => r.mono S ex
  · rw [Sto.get_add, if_neg (by rw [Sto.n_add] at hi; omega)]
    exact S.up i (by rw [Sto.n_add] at hi; omega)
  · rw [← S.nx, List.getElem?_append_right (Nat.le_refl _), Nat.sub_self]; rfl
theorem je_dictT : JE g c xDictT (.Dict [] [] pos) := je_mk (fun X ok => PE.imp pe_dnewT fun σ H Q h => by
  obtain ⟨μ, s, env, d, s', S, E, hv, q⟩ := h
  cases hv
  intro p hp
  obtain ⟨x1, S1, r1⟩ := rep_dctT S hp
  exact q _ _ _ x1 S1 r1) (by intro _ _; rfl)
/-! ### d[k] -/
def rDix : R2 := fun x y H Q => ∃ a v, x = .ref a ∧ DGet H a y (some v) ∧ Q v H
theorem ix_dict (hu : X.A.units + 1 < cLine) : IxR X rDix := by
  intro value slice pins s σ H x y v u Q I rx ry h hs
  obtain ⟨a, w, rfl, g, q⟩ := h
  obtain rfl : v = Value.ref a := rx
  have hT := dict_typeIs I g
  unfold subscriptTail
  refine wpAny_bind ?_
  rw [getitemInPython_of_ne hT.not_modules]
  refine wpAny_bind (wpAny_specialOf hT PySem.F.slot_dict_getitem.lookup ?_)
  have fin : wpAny (model X.prog X.w) X.A (subscripted slice false (.ref a) u) (fun r s₃ => wpAny (model X.prog X.w) X.A (letTemporaryGo value (.ref a) r >>= fun _ => pure r) (EP X pins σ Q) X.xe s₃) X.xe s := by
    rw [hs]
    exact wpAny_operating (d_getItem hu I g ry fun w' s3 I3 rw' => wpAny_bind (wpAny_letTemporaryGo (wpAny_pure ⟨w, H, I3, rw', q⟩)))
  first
    | exact wpAny_pure (wpAny_bind fin)
    | exact wpAny_bind (wpAny_pure (wpAny_bind fin))
    | exact wpAny_bind fin
theorem ixT_ok {x y : V} {dx dy d : D} {s s' : Sto} (S : Sim K μ H s) (rx : Rep K H μ x dx) (ry : Rep K H μ y dy) (h : ixT dx dy s = .ok d s') {Q : VK} (q : ∀ v, Rep K H μ v d → Q v H) : s' = s ∧ rDix x y H Q := by
  unfold ixT at h
  split at h
  · split at h
    · rename_i e1 e2
      split at h
      · rename_i w hw
        cases h
        obtain ⟨a, vs, rfl, hi, kr, rd, _⟩ := dict_at S rx e1
        obtain ⟨b, rfl, hb⟩ := key_at ry e2
        rcases kr.find _ with ⟨_, z⟩ | ⟨v, d', f1, f2, f3⟩
        · rw [hw] at z; cases z
        · rw [hw] at f2
          cases f2
          refine ⟨rfl, a, v, rfl, ?_, q v f3⟩
          rw [← f1]
          exact dget_at rd hb
      · cases h
    · cases h
  · cases h
theorem ixD_rIx {x y : V} {dx dy d : D} {s s' : Sto} (S : Sim K μ H s) (rx : Rep K H μ x dx) (ry : Rep K H μ y dy) (h : ixD dx dy s = .ok d s') {Q : VK} (q : ∀ v, Rep K H μ v d → Q v H) : s' = s ∧ rIx K x y H Q := by
  unfold ixD at h
  split at h
  · cases ry
    split at h
    · rename_i xs hx
      split at h
      · rename_i d hd
        cases h
        obtain ⟨p, vs, rfl, sq, r⟩ := items_rep S rx hx
        obtain ⟨v, hv, rv⟩ := atI_rep r hd
        rcases sq with sq | sq
        · exact ⟨rfl, .inl ⟨p, vs, _, v, rfl, rfl, sq, hv, q _ rv⟩⟩
        · exact ⟨rfl, .inr (.inl ⟨p, vs, _, v, rfl, rfl, sq, hv, q _ rv⟩)⟩
      · cases h
    · split at h
      · split at h
        · rename_i hz
          split at h
          · rename_i c hc
            cases h
            cases rx
            exact ⟨rfl, .inr (.inr ⟨_, _, c, rfl, rfl, hz, hc, q _ (.str _)⟩)⟩
          · cases h
        · cases h
      · cases h
  · cases h
theorem je_ixA (ha : JE g c ma a) (hb : JE g c mb b) (hs : PlainIx b := by exact fun _ _ => rfl) : JE g c (xBin ixA ma mb) (.Subscript a b pos) := by
  refine je_mk (fun X ok => PE.imp (pe_ix (ix_seq.or (ix_dict (by have := ok.room.units; omega))) (ha X ok).1 (hb X ok).1 hs) fun σ H Q h => ?_) (by intro _ _; rfl)
  obtain ⟨μ0, s0, env0, d1, s1, S0, E0, h1, qa⟩ := rd_two h
  refine ⟨μ0, s0, env0, d1, s1, S0, E0, h1, fun v1 H1 μ1 x1 S1 r1 => ?_⟩
  obtain ⟨μa, sa, env, d2, s2, Sa, E, h2, qb⟩ := qa v1 H1 μ1 x1 S1 r1
  refine ⟨μa, sa, env, d2, s2, Sa, E, h2, fun v2 H2 μ2 x2 S2 r2 => ?_⟩
  obtain ⟨μ, s, dx, dy, d, s', S, rx, ry, h, q⟩ := qb v2 H2 μ2 x2 S2 r2
  rw [ok.K]
  unfold ixA at h
  cases e : ixD dx dy s with
  | ok dd ss =>
    rw [e] at h
    cases h
    have := ixD_rIx (Q := fun v H' => ∃ μ', Ext μ H2 μ' H' ∧ Sim g.K μ' H' s ∧ Rep g.K H' μ' v d) S rx ry (s' := s') e fun v rv => ⟨μ, .refl, S, rv⟩
    obtain ⟨rfl, k⟩ := this
    have k2 := (ixD_rIx (Q := Q) S rx ry e fun v rv => q _ _ _ .refl S rv).2
    exact .inl k2
  | no =>
    rw [e] at h
    have h : ixT dx dy s = .ok d s' := h
    have es : s' = s := (ixT_ok (Q := fun _ _ => True) S rx ry h fun _ _ => trivial).1
    subst es
    exact .inr (ixT_ok S rx ry h fun v rv => q _ _ _ .refl S rv).2
/-! ### d[k] = v -/
def rSetT : TSet := fun o i v H Q => ∃ a H', o = .ref a ∧ DPut H a i v H' ∧ Q H'
theorem set_dictT (hu : X.A.units + 1 < cLine) : PSet X rSetT := by
  intro pins s σ H o i v ov iv u Q I ro ri rv h
  obtain ⟨a, H', rfl, g, q⟩ := h
  obtain rfl : ov = Value.ref a := ro
  exact d_setItem hu I g ri rv fun s' I' => ⟨H', I', q⟩
theorem PSet.or {t t' : TSet} (h : PSet X t) (h' : PSet X t') : PSet X (fun o i v H Q => t o i v H Q ∨ t' o i v H Q) := by
  intro pins s σ H o i v ov iv u Q I ro ri rv q
  rcases q with q | q
  · exact h pins s σ H o i v ov iv u Q I ro ri rv q
  · exact h' pins s σ H o i v ov iv u Q I ro ri rv q
theorem setT_ok {x y z : V} {dx dy dz : D} {s s' : Sto} (S : Sim K μ H s) (rx : Rep K H μ x dx) (ry : Rep K H μ y dy) (rz : Rep K H μ z dz) (h : setT dx dy dz s = .ok () s') {Q : Hp → Prop} (q : ∀ H', Ext μ H μ H' → Sim K μ H' s' → Q H') : rSetT x y z H Q := by
  unfold setT at h
  split at h
  · split at h
    · rename_i e1 e2
      split at h
      · rename_i hl
        cases h
        obtain ⟨a, vs, rfl, hi, kr, _, rd⟩ := dict_at S rx e1
        have rd := rd rfl
        obtain ⟨b, rfl, hb⟩ := key_at ry e2
        obtain ⟨x2, S2⟩ := rep_setO (ho := .dT (putK vs _ z)) (o := .dct ((.bl false, _) :: dput _ dz _)) S hi (fun o vs z => by rw [rd] at z; cases z) fun ex => ⟨_, upd_same, Paired.mapP (kr.put _ rz) fun _ _ w => ⟨w.1, w.2.mono S ex⟩⟩
        exact ⟨a, _, rfl, .t rd hb (by rw [kr.length]; exact hl), q _ x2 S2⟩
      · cases h
    · cases h
  · cases h
theorem jg_subA (ho : JE g c mo o) (hi : JE g c mi i)
    (ha : ∀ env v, assign (.Subscript o i pos) env v = (do
      let ov ← holding [v] (eval o env)
      let iv ← holding [v, ov] (eval i env)
      standAt pos
      holding [v, ov, iv] (setItem ov iv v)
      release [v, ov, iv] []) := by intro _ _; rfl) : JG g c [] (gSubA mo mi) (.Subscript o i pos) := fun X ok =>
  PG.imp (pg_sub (ho X ok).1 (hi X ok).1 (PSet.or set_list (set_dictT (by have := ok.room.units; omega))) (ha _)) fun v σ H Q h => by
    obtain ⟨μ, s, env, d, env', s', S, E, r, hv, q⟩ := h
    obtain ⟨d1, s1, h1, hv⟩ := bind_ok hv
    obtain ⟨d2, s2, h2, hv⟩ := bind_ok hv
    obtain ⟨_, s3, h3, hv⟩ := bind_ok hv
    cases hv
    refine ⟨μ, s, env, d1, s1, S, E, h1, fun v1 H1 μ1 x1 S1 r1 => ?_⟩
    refine ⟨μ1, s1, env, d2, s2, S1, E.mono S x1, h2, fun v2 H2 μ2 x2 S2 r2 => ?_⟩
    have x12 := x1.trans x2
    have r1' := r1.mono S1 x2
    have rv := r.mono S x12
    have E2 := E.mono S x12
    unfold setA at h3
    cases e : setD d1 d2 d s2 with
    | ok uu ss =>
      rw [e] at h3
      cases h3
      refine .inl ?_
      unfold setD at e
      split at e
      · split at e
        · rename_i ex
          split at e
          · rename_i j hj
            cases e
            cases r2
            cases r1' with
            | ref rx =>
            obtain ⟨hm, vx, hx, px⟩ := Rep.lst_at S2 (.ref rx) ex
            obtain ⟨x3, S3⟩ := rep_set (o := .lst []) S2 hm ⟨_, hx⟩ (px.set rv j)
            exact ⟨_, vx, _, j, rfl, rfl, hx, by rw [px.length]; exact hj, q σ _ μ2 (x12.trans x3) S3 (E2.mono S2 x3) fun _ _ => rfl⟩
          · cases e
        · cases e
      · cases e
    | no =>
      rw [e] at h3
      exact .inr (setT_ok S2 r1' r2 rv h3 fun H' x3 S3 => q σ _ μ2 (x12.trans x3) S3 (E2.mono S2 x3) fun _ _ => rfl)
/-! ### d.get(k, z) -/
theorem je_get2 {apos : Pos} (ho : JE g c mo o) (ha : JE g c ma a) (hb : JE g c mb b) (hst : noStar a = true := by rfl) (hst2 : noStar b = true := by rfl)
    (hbase : ∀ env, attributeBase o "get" env (eval o env) = eval o env := by intro _; rfl)
    (hfew : ∀ env, ((backTo pos (starEach [a, b] env)).all (fun x => !x.1) && (backToKw pos (keywordEach [] env)).all (fun x => x.1.isSome)
      && decide (([a, b] : List Expr).length + ([] : List Keyword).length + (if ([] : List Keyword).isEmpty then 0 else 1) < 30)) = true := by intro _; rfl)
    (hline : (apos.endLine == pos.line) = true := by rfl) : JE g c (xGet2 mo ma mb) (.Call (.Attribute o "get" apos) [a, b] [] pos) := by
  refine je_mk (fun X ok => PE.imp (pe_dget2 (by have := ok.room.units; omega) (ho X ok).1 (ha X ok).1 (hb X ok).1 ⟨hbase _, hfew _, hline, by rw [star_cons hst, star_cons hst2]; rfl⟩) fun σ H Q h => ?_) (by intro _ _; rfl)
  obtain ⟨μ, s, env, d, s', S, E, hv, q⟩ := h
  obtain ⟨d1, s1, h1, hv⟩ := bind_ok hv
  refine ⟨μ, s, env, d1, s1, S, E, h1, fun v1 H1 μ1 x1 S1 r1 => ?_⟩
  split at hv
  · rename_i ht
    obtain ⟨d2, s2, h2, hv⟩ := bind_ok hv
    obtain ⟨d3, s3, h3, hv⟩ := bind_ok hv
    have hd : ∃ a, v1 = .ref a ∧ IsD H1 a := by
      unfold isT at ht
      split at ht
      · obtain ⟨⟨z, m, kvs⟩, e⟩ := Option.isSome_iff_exists.mp ht
        obtain ⟨a, vs, rfl, _, _, rd, _⟩ := dict_at S1 r1 e
        exact ⟨a, rfl, .inr ⟨vs, rd⟩⟩
      · cases ht
    obtain ⟨a', rfl, hd⟩ := hd
    refine ⟨a', rfl, hd, μ1, s1, env, d2, s2, S1, E.mono S x1, h2, fun v2 H2 μ2 x2 S2 r2 => ?_⟩
    refine ⟨μ2, s2, env, d3, s3, S2, E.mono S (x1.trans x2), h3, fun v3 H3 μ3 x3 S3 r3 => ?_⟩
    unfold get2 at hv
    split at hv
    · split at hv
      · rename_i e1 e2
        cases hv
        obtain ⟨a, vs, ea, hi, kr, rd, _⟩ := dict_at S3 (r1.mono S1 (x2.trans x3)) e1
        cases ea
        obtain ⟨b', rfl, hb'⟩ := key_at (r2.mono S2 x3) e2
        refine ⟨_, dget_at rd hb', q _ H3 μ3 (x1.trans (x2.trans x3)) S3 ?_⟩
        rcases kr.find _ with ⟨f1, f2⟩ | ⟨v, d', f1, f2, f3⟩
        · rw [f1, f2]; exact r3
        · rw [f1, f2]; exact f3
      · cases hv
    · cases hv
  · cases hv
/-! ### list(d) -/
theorem keys_reps {vs : List (List Key × V)} {kvs : List (D × D)} (r : KvR K H μ vs kvs) : ∀ {bs : List Addr}, IsKeys H vs bs → Reps K H μ (bs.map V.ref) (kvs.map (·.1)) := by
  unfold KvR at r
  induction r with
  | nil => intro bs h; cases h; exact .nil
  | @cons p q ps qs h t ih =>
    intro bs hb
    cases hb with
    | @cons _ b _ bs h1 h2 =>
    obtain ⟨⟨ns, e1, e2⟩, _⟩ := h
    rw [List.map_cons, List.map_cons]
    refine .cons ?_ (ih h2)
    rw [e2]
    have h1 : H b = some (.tup (p.1.map kV)) := h1
    rw [e1] at h1
    have e3 : (ns.map Sum.inl : List Key).map kV = ns.map V.int := by rw [List.map_map]; rfl
    rw [e3] at h1
    have ri : ∀ l : List Int, Reps K H μ (l.map V.int) (l.map D.int) := by
      intro l
      induction l with
      | nil => exact .nil
      | cons x l ih => exact .cons (.int x) ih
    exact .tup h1 (ri ns)
theorem cr_listA (hK : X.K = K) (hc : X.calm = true) : CallR X (.type "list") (RnD K listA) := by
  intro pins sh σ H xs us Q I rv h
  obtain ⟨μ, s, ds, d, s', S, r, h, q⟩ := h
  unfold listA at h
  cases e : listB ds s with
  | ok d1 s1 =>
    rw [e] at h
    cases h
    exact cr_listD hK pins sh σ H xs us Q I rv ⟨μ, s, ds, _, _, S, r, e, q⟩
  | no =>
    rw [e] at h
    have h : listT ds s = .ok d s' := h
    unfold listT at h
    split at h
    · split at h
      · rename_i e1
        split at h
        · rename_i hl
          cases h
          cases r with
          | cons r1 r2 =>
          cases r2
          obtain ⟨a, vs, rfl, hi, kr, rd, _⟩ := dict_at S r1 e1
          refine call_list_dT hc pins sh σ H _ us Q I rv ⟨a, vs, rfl, rd, fun p bs hp hk => ?_⟩
          obtain ⟨x2, S2, r2⟩ := rep_lst S hp (keys_reps kr hk)
          exact q _ _ _ x2 S2 r2
        · cases h
      · cases h
    · cases h
end
end Cs

/-! ## CsSim15 -/
/-! d.items() walked, each pair kept by a name. -/
namespace Cs
open PySem PySem.Spec PyProof.Rows L2 PySem.W
section
variable {prog : Program} {w : World} {A : Around} {E : Value → Shared → Prop} {s : Shared}
theorem alive_none {a : Addr} {Q : Option Obj → Shared → Prop} (ho : s.heap.get? a = none) (h : Q none s) : wpAny (model prog w) A (loadIfAlive a) Q E s := by
  have h' : Q (s.heap.get? a) s := by rw [ho]; exact h
  exact fun _ _ _ => h'
theorem next_items_out {it d a : Addr} {f : Bool} {i ep : Nat} {es : Array DictEntry} {ok ov : Value} {Q : Option Value → Shared → Prop} (hit : KdxIt s.heap it d i es.size ep ok ov a f)
    (hm : s.heap.DictRaw d es ep) (hlt' : i < es.size)
    (hQ : ∀ h', (∃ ok ov a f, KdxIt h' it d (i + 1) es.size ep ok ov a f) →
      h'.get? s.heap.objs.size = some { cls := .type "tuple", data := .seq #[es[i].key, es[i].val] } → h'.objs.size = s.heap.objs.size + 1 →
      (∀ b o, b ≠ it → s.heap.get? b = some o → h'.get? b = some o) → Q (some (.ref s.heap.objs.size)) { s with heap := h' }) :
    wpAny (model prog w) A (pyNext (.ref it)) Q E s := by
  obtain ⟨hp, g, dr, tk, os⟩ := s
  obtain ⟨od, hod, hcd, hdd⟩ := id hm
  have hT : Shared.TypeIs ⟨hp, g, dr, tk, os⟩ (.ref it) "dict_itemiterator" := ⟨_, hit, rfl⟩
  unfold pyNext
  refine wpAny_bind (wpAny_attempt (wpAny_callSpecial?_slot (name := Str.ofString "__next__") hT PySem.F.slot_dict_itemiterator_next
    (wpAny_call_entry PySem.F.slot_dict_itemiterator_next hT PySem.F.entry_dict_itemiterator_next ?_ (PySem.F.args_dict_itemiterator_next_1 _))))
  refine wpAny_bind (wpAny_pure ?_)
  refine wpAny_bind ?_
  refine wpAny_bind ?_
  first | refine wpAny_bind (wpAny_typeNameOfWhole_itemiter hT (wpAny_pure ?_)) | refine wpAny_bind (wpAny_typeNameOf_itemiter hT (wpAny_pure ?_))
  refine wpAny_bind (wpAny_fieldsOf hit rfl ?_)
  have hown : Builtin.Dict_items.ownsTuple "dict_itemiterator" = true := by decide
  simp only [hown, if_true]
  show wpAny _ _ (if (Value.ref d == Value.none) = true then _ else _) _ _ _
  rw [if_neg (show ¬ ((Value.ref d == Value.none) = true) from Bool.false_ne_true)]
  refine wpAny_bind (wpAny_pure ?_)
  refine wpAny_bind (wpAny_dictEntries hod hdd ?_)
  rw [if_neg (by simp)]
  refine wpAny_bind (wpAny_pure ?_)
  refine wpAny_bind (wpAny_dictEpoch hod hdd ?_)
  rw [if_neg (by simp)]
  refine wpAny_pure ?_
  simp only [show ¬ ((i : Int) < 0) from by omega, if_false, Int.toNat_natCast, Array.getElem?_eq_getElem hlt']
  refine wpAny_bind ?_
  first | refine wpAny_bind (wpAny_typeNameOfWhole_itemiter hT (wpAny_pure ?_)) | refine wpAny_bind (wpAny_typeNameOf_itemiter hT (wpAny_pure ?_))
  refine wpAny_bind (wpAny_isOneOf_itemiter hT ?_)
  show wpAny _ _ (setField (.ref it) 3 (rawInt ((i : Int) + 1)) >>= _) _ _ ⟨hp, g, dr, tk, os⟩
  refine wpAny_bind (wpAny_setField_rec hit (by simp) fun h₁ he₁ hs₁ => ?_)
  replace hs₁ : Heap.SameBut it hp h₁ := hs₁
  replace he₁ : KdxIt h₁ it d (i + 1) es.size ep ok ov a f := by
    have e : ((i + 1 : Nat) : Int) = (i : Int) + 1 := by omega
    unfold KdxIt; rw [e]; simpa [rawInt] using he₁
  have hT₁ : Shared.TypeIs ⟨h₁, g, dr, tk, os⟩ (.ref it) "dict_itemiterator" := ⟨_, he₁, rfl⟩
  refine wpAny_bind (wpAny_holding ?_)
  refine wpAny_bind (wpAny_isOneOf_itemiter hT₁ ?_)
  refine wpAny_bind (wpAny_isOneOf_itemiter hT₁ ?_)
  show wpAny _ _ (Builtin.Dict_items.pairFromOwner (.ref it) 6 es[i].key es[i].val) _ _ ⟨h₁, g, dr, tk, os⟩
  unfold Builtin.Dict_items.pairFromOwner
  refine wpAny_bind (wpAny_newTuple ?_)
  have he₂ : KdxIt (h₁.push { cls := .type "tuple", data := .seq #[es[i].key, es[i].val] }) it d (i + 1) es.size ep ok ov a f := Heap.get?_push_of_some _ he₁
  generalize hh₂ : h₁.push { cls := .type "tuple", data := .seq #[es[i].key, es[i].val] } = h₂ at he₂
  have hz₁ : h₁.objs.size = hp.objs.size := hs₁.1
  have hil : it < hp.objs.size := Heap.lt_size hit
  have ht₂ : h₂.get? hp.objs.size = some { cls := .type "tuple", data := .seq #[es[i].key, es[i].val] } := by rw [← hh₂, ← hz₁]; exact Heap.get?_push_size _ rfl
  have hz₂ : h₂.objs.size = hp.objs.size + 1 := by rw [← hh₂, Heap.size_push, hz₁]
  have hk₂ : ∀ b o, b ≠ it → hp.get? b = some o → h₂.get? b = some o := fun b o hb e => by rw [← hh₂]; exact Heap.get?_push_of_some _ (hs₁.extBut b o hb e)
  show wpAny _ _ (Builtin.Dict_items.ownedTupleIsFree (.ref it) >>= _) _ _ ⟨h₂, g, dr, tk, os⟩
  rw [hz₁]
  clear hh₂ he₁ hs₁ hT₁ hz₁ h₁
  refine wpAny_bind ?_
  unfold Builtin.Dict_items.ownedTupleIsFree
  refine wpAny_bind (wpAny_field he₂ rfl (x := rawInt a) rfl ?_)
  show wpAny _ _ (loadIfAlive ((a : Int).toNat) >>= _) _ _ _
  rw [Int.toNat_natCast]
  cases ha₂ : h₂.get? a with
  | some oa =>
    refine wpAny_bind (kdx_alive ha₂ ?_)
    simp only [Option.isNone_some, Bool.false_eq_true, if_false]
    refine wpAny_bind (wpAny_field he₂ rfl (x := .bool f) rfl ?_)
    have fin : ∀ h₃ : Heap, KdxIt h₃ it d (i + 1) es.size ep ok ov a true → Heap.SameBut it h₂ h₃ → Q (some (.ref hp.objs.size)) ⟨h₃, g, dr, tk, os⟩ := fun h₃ he₃ hs₃ =>
      hQ h₃ ⟨_, _, _, _, he₃⟩ (by exact hs₃.extBut _ _ (Nat.ne_of_gt hil) ht₂) (by show h₃.objs.size = hp.objs.size + 1; rw [hs₃.1, hz₂]) fun b o hb e => hs₃.extBut b o hb (hk₂ b o hb e)
    cases f with
    | true =>
      rw [if_neg (show ¬ ((Value.bool true != Value.bool true) = true) from Bool.false_ne_true)]
      refine wpAny_pure ?_
      simp only [Bool.false_eq_true, if_false]
      exact wpAny_pure (wpAny_pure ⟨_, rfl, wpAny_pure (fin h₂ he₂ (Heap.SameBut.refl _ _))⟩)
    | false =>
      rw [if_pos (show (Value.bool false != Value.bool true) = true from rfl)]
      refine wpAny_bind (wpAny_setField_rec he₂ (by simp) fun h₃ he₃ hs₃ => ?_)
      replace hs₃ : Heap.SameBut it h₂ h₃ := hs₃
      replace he₃ : KdxIt h₃ it d (i + 1) es.size ep ok ov a true := he₃
      refine wpAny_pure ?_
      simp only [Bool.false_eq_true, if_false]
      exact wpAny_pure (wpAny_pure ⟨_, rfl, wpAny_pure (fin h₃ he₃ hs₃)⟩)
  | none =>
    refine wpAny_bind (alive_none ha₂ ?_)
    simp only [Option.isNone_none, if_true]
    refine wpAny_pure ?_
    simp only [if_true]
    refine wpAny_bind (wpAny_field he₂ rfl (x := ok) rfl ?_)
    refine wpAny_bind (wpAny_field he₂ rfl (x := ov) rfl ?_)
    refine wpAny_bind (wpAny_setField_rec he₂ (by simp) fun h₃ he₃ hs₃ => ?_)
    replace hs₃ : Heap.SameBut it h₂ h₃ := hs₃
    replace he₃ : KdxIt h₃ it d (i + 1) es.size ep es[i].key ov a f := he₃
    refine wpAny_bind (wpAny_setField_rec he₃ (by simp) fun h₄ he₄ hs₄ => ?_)
    replace hs₄ : Heap.SameBut it h₃ h₄ := hs₄
    replace he₄ : KdxIt h₄ it d (i + 1) es.size ep es[i].key es[i].val a f := he₄
    refine wpAny_bind (wpAny_setField_rec he₄ (by simp) fun h₅ he₅ hs₅ => ?_)
    replace hs₅ : Heap.SameBut it h₄ h₅ := hs₅
    replace he₅ : KdxIt h₅ it d (i + 1) es.size ep es[i].key es[i].val hp.objs.size f := he₅
    refine wpAny_bind (wpAny_setField_rec he₅ (by simp) fun h₆ he₆ hs₆ => ?_)
    replace hs₆ : Heap.SameBut it h₅ h₆ := hs₆
    replace he₆ : KdxIt h₆ it d (i + 1) es.size ep es[i].key es[i].val hp.objs.size false := he₆
    refine wpAny_bind (wpAny_letGo (wpAny_pure (wpAny_pure ⟨_, rfl, wpAny_pure (hQ h₆ ⟨_, _, _, _, he₆⟩ ?_ ?_ ?_)⟩)))
    · exact hs₆.extBut _ _ (Nat.ne_of_gt hil) (hs₅.extBut _ _ (Nat.ne_of_gt hil) (hs₄.extBut _ _ (Nat.ne_of_gt hil) (hs₃.extBut _ _ (Nat.ne_of_gt hil) ht₂)))
    · show h₆.objs.size = hp.objs.size + 1
      rw [hs₆.1, hs₅.1, hs₄.1, hs₃.1, hz₂]
    · exact fun b o hb e => hs₆.extBut b o hb (hs₅.extBut b o hb (hs₄.extBut b o hb (hs₃.extBut b o hb (hk₂ b o hb e))))
end
def ItG (h : Heap) (it d : Addr) (i n ep : Nat) : Prop := (∃ ok ov, IsItemIter h it d i n ep ok ov) ∨ ∃ ok ov a f, KdxIt h it d i n ep ok ov a f
theorem ItG.ob {h : Heap} {it d : Addr} {i n ep : Nat} (g : ItG h it d i n ep) : ∃ o, h.get? it = some o ∧ o.cls = .type "dict_itemiterator" ∧ ∀ v, o.data ≠ .cell v := by
  rcases g with ⟨_, _, e⟩ | ⟨_, _, _, _, e⟩
  · exact ⟨_, e, rfl, fun v z => nomatch z⟩
  · exact ⟨_, e, rfl, fun v z => nomatch z⟩
/-- the pairs of the locked dict at d, each a new tuple -/
def ItI (d : Addr) (o : Obj) (vs : List (List Key × V)) : It :=
  ⟨fun i H => H d = some (.frz o (.dT vs)) ∧ i < vs.length, fun i H x H' => ∃ (T b : Addr) (kv : List Key × V), x = .ref T ∧ H T = none ∧ vs[i]? = some kv ∧ H b = some (.tup (kv.1.map kV)) ∧ H' = upd H T (.tup [.ref b, kv.2]),
   fun i H => H d = some (.frz o (.dT vs)) ∧ vs.length ≤ i⟩
theorem turn_itemsN {P : Program} {w : World} {K : PySem.W.Frag} {tg : Expr} {d : Addr} {o : Obj} {vs : List (List Key × V)} {es : Array DictEntry} {ep : Nat} (it : Addr) (hod : o.data = .dict es ep) (htg : ∀ a v, letOwnedTupleGo tg a v = pure ()) :
    L2.Turn P w K tg (ItI d o vs) [it] it (fun i h => ItG h it d i vs.length ep) where
  mem := by simp
  obj := fun i h st b hb => by
    have e : b = it := by simpa using hb
    subst e
    obtain ⟨ob, e, _, q⟩ := st.ob
    exact ⟨ob, e, q⟩
  keep := fun i h h' st k => by
    rcases st with ⟨x, y, e⟩ | ⟨x, y, a, f, e⟩
    · exact .inl ⟨x, y, k it (by simp) _ e⟩
    · exact .inr ⟨x, y, a, f, k it (by simp) _ e⟩
  item := by
    intro X hP hw hK hc i pins s σ H E I hf st hg
    subst hP hw hK
    obtain ⟨hd, hi⟩ := hg
    obtain ⟨hgd, z, hs, xs, pr, o', es', ep', ho, hx, hdt, he, _⟩ := I.hok d _ hd
    rw [hgd] at ho
    cases ho
    obtain ⟨rfl, rfl⟩ : es' = es ∧ ep' = ep := by
      rw [hod] at hdt
      injection hdt with e1 e2
      exact ⟨e1.symm, e2.symm⟩
    have hsz : es'.size = vs.length := by
      have l1 := congrArg List.length he
      rw [List.length_map, Array.length_toList] at l1
      have l2 : vs.length = xs.length := Paired.length pr
      omega
    obtain ⟨kv, hkv⟩ : ∃ p, vs[i]? = some p := ⟨vs[i], List.getElem?_eq_getElem hi⟩
    obtain ⟨q, hq, e1, e2, e3⟩ := paired_get pr hkv
    have hie : i < es'.size := by omega
    have hen : es'[i] = entryOfKey (tupleKind (mixKind X.prog X.w)) q := by
      have : es'.toList[i]? = some (entryOfKey (tupleKind (mixKind X.prog X.w)) q) := by rw [he, List.getElem?_map, hq]; rfl
      rw [Array.getElem?_toList, Array.getElem?_eq_getElem hie] at this
      exact Option.some.inj this
    have raw : s.heap.DictRaw d es' ep' := ⟨_, hgd, hx, hod⟩
    have hlt : it < s.heap.objs.size := by
      obtain ⟨ob, e, _⟩ := st.ob
      exact Heap.lt_size e
    have fin : ∀ h' : Heap, ItG h' it d (i + 1) es'.size ep' → h'.get? s.heap.objs.size = some { cls := .type "tuple", data := .seq #[es'[i].key, es'[i].val] } → (∀ b o, b ≠ it → s.heap.get? b = some o → h'.get? b = some o) →
        ∃ u, (some (Value.ref s.heap.objs.size)) = some u ∧ wpAny (model X.prog X.w) X.A (letOwnedTupleGo tg (.ref it) u) (fun _ s2 => ∃ x H', Inv X pins σ H' s2 ∧ RelV x u ∧ (ItI d o vs).yld i H x H' ∧ ItG s2.heap it d (i + 1) vs.length ep' ∧ ∀ b ∈ [it], H' b = none) E { s with heap := h' } := by
      intro h' hit hT hk
      refine ⟨_, rfl, ?_⟩
      rw [htg]
      rw [hen] at hT
      have new : ObjOk X.prog X.w (upd H s.heap.objs.size (.tup [.ref q.2.1, kv.2])) h' s.heap.objs.size (.tup [.ref q.2.1, kv.2]) :=
        ⟨by show 2 ≤ sizeLine; decide, [.ref q.2.1, q.2.2], .cons rfl (.cons e3 .nil), ⟨_, hT, rfl, _, rfl⟩⟩
      have I1 : Inv X pins σ (upd H s.heap.objs.size (.tup [.ref q.2.1, kv.2])) { s with heap := h' } :=
        I.turnedNew (t' := s.toks) (ch := [it]) (fun b ob hb e => hk b ob (by simpa using hb) e) hf (Nat.le_refl _) new
      refine wpAny_pure ⟨.ref s.heap.objs.size, _, I1, rfl, ⟨_, q.2.1, kv, rfl, I.hok.fresh (Nat.le_refl _), hkv, e2, rfl⟩, by rw [← hsz]; exact hit, fun b hb => ?_⟩
      have e : b = it := by simpa using hb
      rw [e, upd_ne (Nat.ne_of_lt hlt)]
      exact (hf it (by simp)).1
    rw [← hsz] at st
    rcases st with ⟨x, y, st⟩ | ⟨x, y, a, f, st⟩
    · exact wpAny_pyNext_items_item_raw st raw hie fun h' h1 h2 h3 h4 => fin h' (.inr ⟨_, _, _, _, h1⟩) h2 h4
    · exact next_items_out st raw hie fun h' h1 h2 h3 h4 => fin h' (.inr h1) h2 h4
  done := by
    intro X hP hw hK hc i pins s σ H E I hf st hg
    subst hP hw hK
    obtain ⟨hd, hi⟩ := hg
    obtain ⟨f0, f1, f2, f3, f4, f5⟩ := hf it (by simp)
    obtain ⟨hgd, z, hs, xs, pr, o', es', ep', ho, hx, hdt, he, _⟩ := I.hok d _ hd
    rw [hgd] at ho
    cases ho
    obtain ⟨rfl, rfl⟩ : es' = es ∧ ep' = ep := by
      rw [hod] at hdt
      injection hdt with e1 e2
      exact ⟨e1.symm, e2.symm⟩
    have hsz : es'.size = vs.length := by
      have l1 := congrArg List.length he
      rw [List.length_map, Array.length_toList] at l1
      have l2 : vs.length = xs.length := Paired.length pr
      omega
    have raw : s.heap.DictRaw d es' ep' := ⟨_, hgd, hx, hod⟩
    have fin : ∀ h' : Heap, Heap.ExtBut it s.heap h' → (none : Option Value) = none ∧ Inv X pins σ H { s with heap := h' } := fun h' eb =>
      ⟨rfl, I.turned (t' := s.toks) (fun b ob hb e => eb b ob hb e) f0 f1 f3 f4 f5⟩
    rw [← hsz] at st
    rcases st with ⟨x, y, st⟩ | ⟨x, y, a, f, st⟩
    · exact wpAny_pyNext_items_end_raw (I.ok.hd hc) st raw (by omega) fin
    · exact wpAny_pyNext_items_end_out_raw (I.ok.hd hc) st raw (by omega) fin
  self := fun A i s Q E st h => by
    obtain ⟨ob, e, hcl, _⟩ := st.ob
    have hT : s.TypeIs (.ref it) "dict_itemiterator" := ⟨_, e, hcl⟩
    refine wpAny_pyIter_slot hT PySem.F.slot_dict_itemiterator_iter (wpAny_call_entry PySem.F.slot_dict_itemiterator_iter hT kcp_entry ?_ (PySem.F.args_dict_itemiterator_iter_1 _))
    show wpAny _ _ (ret (.ref it)) _ _ s
    exact wpAny_pure ⟨_, rfl, "dict_itemiterator", _, hT, PySem.F.slot_dict_itemiterator_next.lookup, h⟩
section
variable {K : PySem.W.Frag} {μ μ' : List Addr} {H H' : Hp} {s s' : Sto} {g : Gb} {c : Cc} {X : Cx} {m ma mb mc md mo : Sem} {e a b d f o : Expr} {pos : Pos}
theorem pi_itemsN {tg e : Expr} {td : TE} {apos cpos : Pos} (he : PE X e td) (htg : ∀ a v, letOwnedTupleGo tg a v = pure ()) (hbase : attributeBase e "items" X.env (eval e X.env) = eval e X.env) (hline : (apos.endLine == cpos.line) = true) :
    PI X tg (.Call (.Attribute e "items" apos) [] [] cpos) (fun σ H R => td σ H fun x H1 => ∃ d vs, x = .ref d ∧ H1 d = some (.dT vs) ∧ ∀ o, R (ItI d o vs) (upd H1 d (.frz o (.dT vs)))) := by
  refine ⟨fun pins s σ H R I h => ?_⟩
  refine wpAny_Call_method (T := "dict") (id := "dict.items") hbase rfl hline PySem.F.plainAttrs_dict PySem.F.slot_dict_items PySem.F.type_dict_items (thn (he.run pins s σ H _ I h) fun u s1 ⟨x, H1, I1, rx, d, vs, ex, hd, q⟩ => ?_)
  subst ex
  obtain rfl : u = Value.ref d := rx
  obtain ⟨hz, hs, xs, pr, o, es, ep, ho, hx, hdt, hee, hnd⟩ := (show ObjOk X.prog X.w H1 s1.heap d (.dT vs) from I1.hok d _ hd)
  have raw : s1.heap.DictRaw d es ep := ⟨_, ho, hx, hdt⟩
  have new : ObjOk X.prog X.w (upd H1 d (.frz o (.dT vs))) s1.heap d (.frz o (.dT vs)) := by
    refine ⟨ho, hz, hs, xs, Paired.mapP pr fun p q z => ⟨z.1, ?_, z.2.2⟩, o, es, ep, ho, hx, hdt, hee, hnd⟩
    rw [upd_ne (fun w => by have := z.2.1; rw [w, hd] at this; cases this)]
    exact z.2.1
  have Il : Inv X pins σ (upd H1 d (.frz o (.dT vs))) s1 := I1.write (x := d) (e := d) (t' := s1.toks) (by rw [hd]; exact True.intro) (.inl rfl) (fun b u _ e => e) ⟨o, ho⟩ new
  refine ⟨raw.typeIs, fun b hb => by cases hb; exact ⟨o, ho, hx.2.1⟩, ?_⟩
  have I2 : Inv X pins σ (upd H1 d (.frz o (.dT vs))) { s1 with heap := s1.heap.push { cls := .type "dict_items", data := .fields #[.ref d] } } := Il.kept (t' := s1.toks) fun b ob q => Heap.get?_push_of_some _ q
  have hsz : es.size = vs.length := by
    have l1 := congrArg List.length hee
    rw [List.length_map, Array.length_toList] at l1
    have l2 : vs.length = xs.length := Paired.length pr
    omega
  have fin : wpAny (model X.prog X.w) X.A (pyIter (.ref s1.heap.objs.size)) (PIE X pins σ tg R) X.xe { s1 with heap := s1.heap.push { cls := .type "dict_items", data := .fields #[.ref d] } } := by
    refine wpAny_pyIter_items_raw (d := d) ⟨_, Heap.get?_push_size _ rfl, rfl, rfl⟩ (raw.at fun o e => Heap.get?_push_of_some _ e) (pi_one (tk := s1.toks) I2 _ (turn_itemsN _ hdt htg) (.inl ⟨.none, .none, ?_⟩) (q o))
    rw [← hsz]
    exact Heap.get?_push_size _ rfl
  show wpAny _ _ (callWith cpos (.builtin "dict.items") [.ref d] [] []) _ X.xe s1
  exact method_meetsIn PySem.F.slot_dict_items PySem.F.entry_dict_items rfl (PySem.evalArgs_none ⟨rfl, raw.typeIs, PySem.F.args_dict_items_1 _, _, meets_dict_items_raw d hs, ⟨⟨es, ep, raw⟩, fin⟩⟩)
theorem wk_items {d : Addr} {o : Obj} {vs : List (List Key × V)} {kvs : List (D × D)} (hd : H d = some (.frz o (.dT vs))) (r : KvR K H μ vs kvs) : WkOk K (ItI d o vs) (.its (kvs.map fun kv => .tup [kv.1, kv.2])) μ H := fun μ' H' s' ex S' j => by
  have hd' := ex.fz _ _ _ hd
  have hl : vs.length = kvs.length := r.length
  refine ⟨fun dd hj => ?_, fun hj => ?_⟩
  · have hj : (kvs.map fun kv => D.tup [kv.1, kv.2])[j]? = some dd := Option.some.inj hj
    rw [List.getElem?_map] at hj
    obtain ⟨q, hq, rfl⟩ := Option.map_eq_some_iff.mp hj
    have hlt := (List.getElem?_eq_some_iff.mp hq).1
    refine ⟨⟨hd', by omega⟩, fun x H'' hy => ?_⟩
    obtain ⟨T, b, kv, rfl, hT, hkv, hb, rfl⟩ := hy
    obtain ⟨q', hq', ⟨ns, e1, e2⟩, e3⟩ := paired_get r hkv
    rw [hq] at hq'
    cases hq'
    have rv : Rep K H' μ' kv.2 q.2 := Rep.keep ex.kt ex.kf ex.pre _ _ e3
    rw [e1] at hb
    have e4 : (ns.map Sum.inl : List Key).map kV = ns.map V.int := by rw [List.map_map]; rfl
    rw [e4] at hb
    have ri : ∀ l : List Int, Reps K H' μ' (l.map V.int) (l.map D.int) := by
      intro l
      induction l with
      | nil => exact .nil
      | cons x l ih => exact .cons (.int x) ih
    have rb : Rep K H' μ' (.ref b) q.1 := by rw [e2]; exact .tup hb (ri ns)
    obtain ⟨_, _, rp⟩ := rep_tup S' hT (Reps.cons rb (Reps.cons rv .nil))
    exact ⟨fun c o e => by rw [upd_ne (ne_of_none e hT)]; exact e, rp⟩
  · have hj : (kvs.map fun kv => D.tup [kv.1, kv.2])[j]? = none := Option.some.inj hj
    rw [List.getElem?_eq_none_iff, List.length_map] at hj
    exact ⟨hd', by omega⟩
/-- for x in d.items(), x a name -/
theorem ji_items {tg : Expr} {apos : Pos} (ho : JE g c mo o) (htg : ∀ a v, letOwnedTupleGo tg a v = pure () := by intro _ _; rfl) (hbase : ∀ env, attributeBase o "items" env (eval o env) = eval o env := by intro _; rfl) (hline : (apos.endLine == pos.line) = true := by rfl) :
    JIt g c tg (iItems mo) (.Call (.Attribute o "items" apos) [] [] pos) := fun X ok =>
  PI.imp (pi_itemsN (ho X ok).1 htg (hbase _) hline) fun σ H R h => by
    obtain ⟨μ, s, env, w, s', S, E, hv, q⟩ := h
    obtain ⟨x, s1, h1, hv⟩ := bind_ok hv
    refine ⟨μ, s, env, x, s1, S, E, h1, fun v H1 μ1 x1 S1 r1 => ?_⟩
    split at hv
    · split at hv
      · rename_i e1
        cases hv
        obtain ⟨a, vs, rfl, hi, kr, _, rd⟩ := dict_at S1 r1 e1
        have rd := rd rfl
        refine ⟨a, vs, rfl, rd, fun o => ?_⟩
        have hr : ∀ ex : Ext μ1 H1 μ1 (upd H1 a (.frz o (.dT vs))), KvR g.K (upd H1 a (.frz o (.dT vs))) μ1 vs _ := fun ex => Paired.mapP kr fun _ _ w => ⟨w.1, w.2.mono S1 ex⟩
        obtain ⟨x2, S2⟩ := rep_setO (ho := .frz o (.dT vs)) (o := .dct ((.bl true, _) :: _)) S1 hi (fun o vs z => by rw [rd] at z; cases z) fun ex => ⟨o, vs, upd_same, hr ex⟩
        exact q _ _ μ1 (x1.trans x2) S2 (wk_items upd_same (hr x2))
      · cases hv
    · cases hv
end
end Cs

/-! ## CsRun -/
/-! How the plain meaning is computed: rules for simp, loops, comprehensions. -/
namespace Cs
open PySem
/-! ### results -/
@[simp] theorem bind_ok' {α β : Type} (a : α) (s : Sto) (f : α → Sto → R β) : (R.ok a s).bind f = f a s := id rfl
@[simp] theorem bind_no {α β : Type} (f : α → Sto → R β) : (R.no : R α).bind f = .no := id rfl
@[simp] theorem st_ok' {α : Type} (a : α) (s : Sto) (f : α → Sto → RS) : (R.ok a s).st f = f a s := id rfl
@[simp] theorem st_no {α : Type} (f : α → Sto → RS) : (R.no : R α).st f = .no := id rfl
@[simp] theorem then_nx (e : Env) (s : Sto) (f : Env → Sto → RS) : (RS.nx e s).then f = f e s := id rfl
@[simp] theorem then_rt (d : D) (s : Sto) (f : Env → Sto → RS) : (RS.rt d s).then f = .rt d s := id rfl
@[simp] theorem then_bk (e : Env) (s : Sto) (f : Env → Sto → RS) : (RS.bk e s).then f = .bk e s := id rfl
@[simp] theorem then_ct (e : Env) (s : Sto) (f : Env → Sto → RS) : (RS.ct e s).then f = .ct e s := id rfl
@[simp] theorem turn_nx (e : Env) (s : Sto) (f : Env → Sto → RS) : (RS.nx e s).turn f = f e s := id rfl
@[simp] theorem turn_rt (d : D) (s : Sto) (f : Env → Sto → RS) : (RS.rt d s).turn f = .rt d s := id rfl
@[simp] theorem turn_bk (e : Env) (s : Sto) (f : Env → Sto → RS) : (RS.bk e s).turn f = .nx e s := id rfl
@[simp] theorem turn_ct (e : Env) (s : Sto) (f : Env → Sto → RS) : (RS.ct e s).turn f = f e s := id rfl
/-! ### expressions -/
section
variable (env : Env) (s : Sto)
@[simp] theorem v_mk (v : EvE) : (mk v).v env s = v env s := id rfl
@[simp] theorem t_mk (v : EvE) : (mk v).t env s = (v env s).bind fun d s => truth d s := id rfl
@[simp] theorem v_C (d : D) : (xC d).v env s = .ok d s := id rfl
@[simp] theorem t_C (d : D) : (xC d).t env s = truth d s := id rfl
def getV (o : Option (Option D)) (s : Sto) : R D := match o with
  | some (some d) => .ok d s
  | _ => .no
@[simp] theorem getV_some (d : D) (s : Sto) : getV (some (some d)) s = .ok d s := id rfl
@[simp] theorem v_Var (i : Nat) : (xVar i).v env s = getV env[i]? s := id rfl
@[simp] theorem t_Var (i : Nat) : (xVar i).t env s = (getV env[i]? s).bind fun d s => truth d s := id rfl
@[simp] theorem v_Bin (f : D → D → Sto → R D) (a b : Sem) : (xBin f a b).v env s = (a.v env s).bind fun x s => (b.v env s).bind fun y s => f x y s := id rfl
@[simp] theorem t_Bin (f : D → D → Sto → R D) (a b : Sem) : (xBin f a b).t env s = ((a.v env s).bind fun x s => (b.v env s).bind fun y s => f x y s).bind fun d s => truth d s := id rfl
@[simp] theorem v_Un (f : D → Sto → R D) (a : Sem) : (xUn f a).v env s = (a.v env s).bind fun x s => f x s := id rfl
@[simp] theorem t_Un (f : D → Sto → R D) (a : Sem) : (xUn f a).t env s = ((a.v env s).bind fun x s => f x s).bind fun d s => truth d s := id rfl
def chain2 (k : D → Sto → R D) (z : D) (s : Sto) : R D := match z with
  | .bl true => k z s
  | .bl false => .ok (.bl false) s
  | _ => .no
@[simp] theorem chain2_t (k : D → Sto → R D) (s : Sto) : chain2 k (.bl true) s = k (.bl true) s := id rfl
@[simp] theorem chain2_f (k : D → Sto → R D) (s : Sto) : chain2 k (.bl false) s = .ok (.bl false) s := id rfl
@[simp] theorem v_Chain (f g : D → D → Sto → R D) (a b c : Sem) : (xChain f g a b c).v env s = (a.v env s).bind fun x s => (b.v env s).bind fun y s => (f x y s).bind (chain2 fun _ s => (c.v env s).bind fun w s => g y w s) := id rfl
@[simp] theorem t_Chain (f g : D → D → Sto → R D) (a b c : Sem) : (xChain f g a b c).t env s = ((xChain f g a b c).v env s).bind fun d s => truth d s := id rfl
@[simp] theorem v_Not (a : Sem) : (xNot a).v env s = (a.v env s).bind fun x s => (truth x s).bind fun b s => .ok (.bl (!b)) s := id rfl
@[simp] theorem t_Not (a : Sem) : (xNot a).t env s = (a.t env s).bind fun b s => .ok (!b) s := id rfl
@[simp] theorem v_And (a b : Sem) : (xAnd a b).v env s = (a.v env s).bind fun x s => (truth x s).bind fun k s => if k = true then b.v env s else .ok x s := id rfl
@[simp] theorem t_And (a b : Sem) : (xAnd a b).t env s = (a.t env s).bind fun k s => if k = true then b.t env s else .ok false s := id rfl
@[simp] theorem v_Or (a b : Sem) : (xOr a b).v env s = (a.v env s).bind fun x s => (truth x s).bind fun k s => if k = true then .ok x s else b.v env s := id rfl
@[simp] theorem t_Or (a b : Sem) : (xOr a b).t env s = (a.t env s).bind fun k s => if k = true then .ok true s else b.t env s := id rfl
@[simp] theorem v_If (c a b : Sem) : (xIf c a b).v env s = (c.t env s).bind fun k s => if k = true then a.v env s else b.v env s := id rfl
@[simp] theorem t_If (c a b : Sem) : (xIf c a b).t env s = (c.t env s).bind fun k s => if k = true then a.t env s else b.t env s := id rfl
@[simp] theorem a_Nil : aNil env s = .ok [] s := id rfl
@[simp] theorem a_Cons (a : Sem) (r : EvA) : aCons a r env s = (a.v env s).bind fun x s => (r env s).bind fun xs s => .ok (x :: xs) s := id rfl
@[simp] theorem v_Tup (a : EvA) : (xTup a).v env s = (a env s).bind fun xs s => if xs.length ≤ sizeLine then .ok (.tup xs) s else .no := id rfl
@[simp] theorem t_Tup (a : EvA) : (xTup a).t env s = ((xTup a).v env s).bind fun d s => truth d s := id rfl
@[simp] theorem v_Lst (a : EvA) : (xLst a).v env s = (a env s).bind newL := id rfl
@[simp] theorem t_Lst (a : EvA) : (xLst a).t env s = ((a env s).bind newL).bind fun d s => truth d s := id rfl
@[simp] theorem v_Call (f : Fn) (a : EvA) : (xCall f a).v env s = (a env s).bind f := id rfl
@[simp] theorem t_Call (f : Fn) (a : EvA) : (xCall f a).t env s = ((a env s).bind f).bind fun d s => truth d s := id rfl
@[simp] theorem v_CallK (f : Fn) (np nk : Nat) (p : List Nat) (a k : EvA) : (xCallK f np nk p a k).v env s = (a env s).bind fun us s => (k env s).bind fun ws s => f (gPerm .non np nk p us ws) s := id rfl
@[simp] theorem t_CallK (f : Fn) (np nk : Nat) (p : List Nat) (a k : EvA) : (xCallK f np nk p a k).t env s = ((xCallK f np nk p a k).v env s).bind fun d s => truth d s := id rfl
@[simp] theorem v_Bi (f : List D → Sto → R D) (a : EvA) : (xBi f a).v env s = (a env s).bind f := id rfl
@[simp] theorem t_Bi (f : List D → Sto → R D) (a : EvA) : (xBi f a).t env s = ((a env s).bind f).bind fun d s => truth d s := id rfl
@[simp] theorem v_Meth (f : D → List D → Sto → R D) (o : Sem) (a : EvA) : (xMeth f o a).v env s = (o.v env s).bind fun x s => if isL x s = true then (a env s).bind fun xs s => f x xs s else .no := id rfl
@[simp] theorem o_No : oNo env s = .ok none s := id rfl
def toO (x : D) (s : Sto) : R (Option Int) := match x with
  | .int i => .ok (some i) s
  | _ => .no
@[simp] theorem toO_int (i : Int) (s : Sto) : toO (.int i) s = .ok (some i) s := id rfl
@[simp] theorem o_Yes (a : Sem) : oYes a env s = (a.v env s).bind toO := by
  show R.bind _ _ = R.bind _ _
  congr 1
@[simp] theorem v_Slc (a : Sem) (lo hi : EvO) : (xSlc a lo hi).v env s = (a.v env s).bind fun x s => (lo env s).bind fun l s => (hi env s).bind fun h s => slcD x l h s := id rfl
@[simp] theorem v_Comp (own : List Nat) (g : EvG) (it : EvI) (c : Option Sem) (e : Sem) : (xComp own g it c e).v env s = (it env s).bind fun w s => (goWk (turnC g c e (wipeE env own)) w s).bind newL := id rfl
/-! ### truth -/
@[simp] theorem truth_non : truth .non s = .ok false s := id rfl
@[simp] theorem truth_bl (b : Bool) : truth (.bl b) s = .ok b s := id rfl
@[simp] theorem truth_int (i : Int) : truth (.int i) s = .ok (i != 0) s := id rfl
@[simp] theorem truth_tup (xs : List D) : truth (.tup xs) s = .ok (!xs.isEmpty) s := id rfl
@[simp] theorem truth_fix (xs : List D) : truth (.fix xs) s = .ok (!xs.isEmpty) s := id rfl
/-! ### statements -/
@[simp] theorem s_Nil : sNil env s = .nx env s := id rfl
@[simp] theorem s_Cons (a b : EvS) : sCons a b env s = (a env s).then b := id rfl
@[simp] theorem s_Expr (a : Sem) : sExpr a env s = (a.v env s).st fun _ s => .nx env s := id rfl
@[simp] theorem s_Asg (g : EvG) (a : Sem) : sAsg g a env s = (a.v env s).st fun d s => (g d env s).st fun env s => .nx env s := id rfl
def par2 (i j : Nat) (env : Env) (xs : List D) (s : Sto) : RS := match xs with
  | [x, y] => .nx ((env.set i (some x)).set j (some y)) s
  | _ => .no
@[simp] theorem par2_ok (i j : Nat) (x y : D) : par2 i j env [x, y] s = .nx ((env.set i (some x)).set j (some y)) s := id rfl
@[simp] theorem s_Par (i j : Nat) (a : EvA) : sPar i j a env s = (a env s).st (par2 i j env) := by
  show R.st _ _ = R.st _ _
  congr 1
def augV (i : Nat) (f : D → D → Sto → R D) (a : Sem) (env : Env) (o : Option (Option D)) (s : Sto) : RS := match o with
  | some (some x) => (a.v env s).st fun y s => (f x y s).st fun z s => .nx (env.set i (some z)) s
  | _ => .no
@[simp] theorem augV_ok (i : Nat) (f : D → D → Sto → R D) (a : Sem) (x : D) : augV i f a env (some (some x)) s = (a.v env s).st fun y s => (f x y s).st fun z s => .nx (env.set i (some z)) s := id rfl
@[simp] theorem s_Aug (i : Nat) (f : D → D → Sto → R D) (a : Sem) : sAug i f a env s = augV i f a env env[i]? s := id rfl
@[simp] theorem s_Ret (a : Sem) : sRet a env s = (a.v env s).st fun d s => .rt d s := id rfl
@[simp] theorem s_RetN : sRetN env s = .rt .non s := id rfl
@[simp] theorem s_If (c : Sem) (a b : EvS) : sIf c a b env s = (c.t env s).st fun k s => if k = true then a env s else b env s := id rfl
@[simp] theorem s_Pass : sPass env s = .nx env s := id rfl
@[simp] theorem s_Brk : sBrk env s = .bk env s := id rfl
@[simp] theorem s_Ct : sCt env s = .ct env s := id rfl
@[simp] theorem s_No : sNo env s = .no := id rfl
@[simp] theorem g_Var (i : Nat) (d : D) : gVar i d env s = .ok (env.set i (some d)) s := id rfl
@[simp] theorem gs_Nil : gsNil [] env s = .ok env s := id rfl
@[simp] theorem gs_Cons (g : EvG) (r : List D → Env → Sto → R Env) (d : D) (ds : List D) : gsCons g r (d :: ds) env s = (g d env s).bind fun env s => r ds env s := id rfl
@[simp] theorem g_Tup (n : Nat) (r : List D → Env → Sto → R Env) (xs : List D) : gTup n r (.tup xs) env s = if xs.length = n then r xs env s else .no := id rfl
@[simp] theorem g_Sub (o i : Sem) (d : D) : gSub o i d env s = (o.v env s).bind fun x s => (i.v env s).bind fun y s => (setD x y d s).bind fun _ s => .ok env s := id rfl
def wkS (g : EvG) (b : EvS) (env : Env) (w : Wk) (s : Sto) : RS := match w with
  | .its xs => forIts (bodyF g b) xs env s
  | .live i => forLive (bodyF g b) i 1000000 0 env s
  | .rd r => forRd (bodyF g b) r 1000000 0 env s
@[simp] theorem wkS_its (g : EvG) (b : EvS) (xs : List D) : wkS g b env (.its xs) s = forIts (bodyF g b) xs env s := id rfl
@[simp] theorem s_For (g : EvG) (it : EvI) (b : EvS) : sFor g it b env s = (it env s).st (wkS g b env) := by
  show R.st _ _ = R.st _ _
  congr 1
@[simp] theorem bodyF_eq (g : EvG) (b : EvS) (d : D) : bodyF g b d env s = (g d env s).st fun env s => b env s := id rfl
def fnR (r : RS) : R D := match r with
  | .rt d s => .ok d s
  | .nx _ s => .ok .non s
  | _ => .no
@[simp] theorem fnR_rt (d : D) (s : Sto) : fnR (.rt d s) = .ok d s := id rfl
@[simp] theorem fnR_nx (s : Sto) : fnR (.nx env s) = .ok .non s := id rfl
theorem fnB_eq (np n : Nat) (b : EvS) (ds : List D) : fnB np n b ds s = if ds.length = np then fnR (b (ds.map some ++ List.replicate (n - ds.length) none) s) else .no := rfl
def seqW (d : D) (s : Sto) : R Wk := match d with
  | .tup xs => .ok (.its xs) s
  | .fix xs => .ok (.its xs) s
  | .ref i => match s.get i with
    | some (.lst _) => .ok (.live i) s
    | _ => .no
  | _ => .no
@[simp] theorem seqW_tup (xs : List D) : seqW (.tup xs) s = .ok (.its xs) s := id rfl
@[simp] theorem seqW_fix (xs : List D) : seqW (.fix xs) s = .ok (.its xs) s := id rfl
@[simp] theorem i_Seq (a : Sem) : iSeq a env s = (a.v env s).bind seqW := id rfl
def rg1W (xs : List D) (s : Sto) : R Wk := match xs with
  | [.int j] => if bigI j = true then .ok (.its (rgD 0 j.toNat)) s else .no
  | _ => .no
@[simp] theorem rg1W_ok (j : Int) : rg1W [.int j] s = if bigI j = true then .ok (.its (rgD 0 j.toNat)) s else .no := id rfl
@[simp] theorem i_Rg1 (a : EvA) : iRg1 a env s = (a env s).bind rg1W := id rfl
def rg2W (xs : List D) (s : Sto) : R Wk := match xs with
  | [.int i, .int j] => if bigI i = true ∧ bigI j = true then .ok (.its (rgD i (j - i).toNat)) s else .no
  | _ => .no
@[simp] theorem rg2W_ok (i j : Int) : rg2W [.int i, .int j] s = if bigI i = true ∧ bigI j = true then .ok (.its (rgD i (j - i).toNat)) s else .no := id rfl
@[simp] theorem i_Rg2 (a : EvA) : iRg2 a env s = (a env s).bind rg2W := id rfl
/-! ### operators -/
theorem bigI_of {i : Int} (h : i.natAbs < 4611686018427387904) : bigI i = true := Nat.blt_eq.mpr h
theorem lim_lt {n : Nat} (h : n < 2 ^ 200) : n < lim4 := Nat.lt_of_lt_of_le h (Nat.pow_le_pow_right (by decide) (by decide))
@[simp] theorem lim_simp {n : Nat} (h : n < 2 ^ 200) : (n < lim4) = True := eq_true (lim_lt h)
theorem mulOk_l {i j : Int} (h : i.natAbs < 2 ^ 64) : mulOk i j = true := by unfold mulOk; rw [decide_eq_true h]; rfl
theorem mulOk_r {i j : Int} (h : j.natAbs < 2 ^ 64) : mulOk i j = true := by unfold mulOk; rw [decide_eq_true h, Bool.or_true]; rfl
theorem mulOk_b {i j : Int} (h : i.natAbs < 2 ^ 200) (h2 : j.natAbs < 2 ^ 200) : mulOk i j = true := by
  unfold mulOk; rw [decide_eq_true (lim_lt h), decide_eq_true (lim_lt h2), Bool.and_true, Bool.or_true]
@[simp] theorem add_ii (i j : Int) : addD (.int i) (.int j) s = .ok (.int (i + j)) s := id rfl
@[simp] theorem add_tt (xs ys : List D) : addD (.tup xs) (.tup ys) s = if xs.length + ys.length ≤ sizeLine then .ok (.tup (xs ++ ys)) s else .no := id rfl
@[simp] theorem sub_ii (i j : Int) : subD (.int i) (.int j) s = .ok (.int (i - j)) s := id rfl
@[simp] theorem iadd_ii (i j : Int) : iaddD (.int i) (.int j) s = .ok (.int (i + j)) s := id rfl
@[simp] theorem mul_ii (i j : Int) : mulD (.int i) (.int j) s = if mulOk i j = true then .ok (.int (i * j)) s else .no := id rfl
@[simp] theorem mul_ti (xs : List D) (k : Int) : mulD (.tup xs) (.int k) s = if xs.length ≤ 1000 ∧ -1000 ≤ k ∧ k ≤ 1000 then .ok (.tup (List.replicate k.toNat xs).flatten) s else .no := id rfl
@[simp] theorem fdiv_ii (i j : Int) : fdivD (.int i) (.int j) s = if 0 < j ∧ j.natAbs < lim4 then .ok (.int (i / j)) s else .no := id rfl
@[simp] theorem mod_ii (i j : Int) : modD (.int i) (.int j) s = if 0 < j then .ok (.int (i % j)) s else .no := id rfl
@[simp] theorem pow_ii (i j : Int) : powD (.int i) (.int j) s = if 0 ≤ j ∧ j ≤ 1000 ∧ i.natAbs < lim4 then .ok (.int (i ^ j.toNat)) s else .no := id rfl
@[simp] theorem neg_i (i : Int) : negD (.int i) s = .ok (.int (-i)) s := id rfl
@[simp] theorem ltI_ii (f : Int → Int → Bool) (i j : Int) : ltI f (.int i) (.int j) s = .ok (.bl (f i j)) s := id rfl
@[simp] theorem len_tup (xs : List D) : lenB [.tup xs] s = .ok (.int xs.length) s := id rfl
@[simp] theorem len_fix (xs : List D) : lenB [.fix xs] s = .ok (.int xs.length) s := id rfl
@[simp] theorem abs_i (i : Int) : absB [.int i] s = .ok (.int (if i < 0 then -i else i)) s := id rfl
@[simp] theorem max2_ii (i j : Int) : max2B [.int i, .int j] s = .ok (.int (if j > i then j else i)) s := id rfl
@[simp] theorem min2_ii (i j : Int) : min2B [.int i, .int j] s = .ok (.int (if j < i then j else i)) s := id rfl
@[simp] theorem int_i (i : Int) : intB [.int i] s = .ok (.int i) s := id rfl
@[simp] theorem int_b (b : Bool) : intB [.bl b] s = .ok (.int (if b then 1 else 0)) s := id rfl
@[simp] theorem tuple_t (xs : List D) : tupleB [.tup xs] s = .ok (.tup xs) s := id rfl
@[simp] theorem rev_t (xs : List D) : revD (.tup xs) s = .ok (.tup xs.reverse) s := id rfl
@[simp] theorem slc_t (xs : List D) (lo hi : Option Int) : slcD (.tup xs) lo hi s = .ok (.tup (cutD xs lo hi)) s := id rfl
/-! ### lists of the store -/
def okO (o : Option D) (s : Sto) : R D := match o with
  | some d => .ok d s
  | none => .no
@[simp] theorem okO_some (d : D) : okO (some d) s = .ok d s := id rfl
@[simp] theorem okO_none : okO none s = .no := id rfl
@[simp] theorem ix_t (xs : List D) (i : Int) : ixD (.tup xs) (.int i) s = okO (L2.atI xs i) s := by
  unfold ixD items
  dsimp only
  cases L2.atI xs i <;> rfl
@[simp] theorem ix_f (xs : List D) (i : Int) : ixD (.fix xs) (.int i) s = okO (L2.atI xs i) s := by
  unfold ixD items
  dsimp only
  cases L2.atI xs i <;> rfl
def lstO (k : List D → R D) (o : Option O) : R D := match o with
  | some (.lst xs) => k xs
  | _ => .no
@[simp] theorem lstO_some (k : List D → R D) (xs : List D) : lstO k (some (.lst xs)) = k xs := id rfl
theorem ix_r {j : Nat} {xs : List D} (h : s.get j = some (.lst xs)) (i : Int) : ixD (.ref j) (.int i) s = okO (L2.atI xs i) s := by
  unfold ixD items
  dsimp only
  rw [h]
  dsimp only
  cases L2.atI xs i <;> rfl
theorem len_r {j : Nat} {xs : List D} (h : s.get j = some (.lst xs)) : lenB [.ref j] s = .ok (.int xs.length) s := by
  unfold lenB
  dsimp only
  rw [h]
theorem tuple_r {j : Nat} {xs : List D} (h : s.get j = some (.lst xs)) : tupleB [.ref j] s = .ok (.tup xs) s := by
  unfold tupleB items
  dsimp only
  rw [h]
theorem truth_r {j : Nat} {xs : List D} (h : s.get j = some (.lst xs)) : truth (.ref j) s = .ok (!xs.isEmpty) s := by
  unfold truth
  dsimp only
  rw [h]
theorem list_t (xs : List D) : listB [.tup xs] s = .ok (.ref s.n) (s.add (.lst xs)) := rfl
theorem list_r {j : Nat} {xs : List D} (h : s.get j = some (.lst xs)) : listB [.ref j] s = .ok (.ref s.n) (s.add (.lst xs)) := by
  unfold listB items
  dsimp only
  rw [h]
theorem isL_r {j : Nat} {xs : List D} (h : s.get j = some (.lst xs)) : isL (.ref j) s = true := by
  unfold isL
  dsimp only
  rw [h]
theorem append_r {j : Nat} {xs : List D} (h : s.get j = some (.lst xs)) (y : D) (hz : xs.length < sizeLine) : appendM (.ref j) [y] s = .ok .non (s.set j (.lst (xs ++ [y]))) := by
  unfold appendM
  dsimp only
  rw [h]
  dsimp only
  rw [if_pos hz]
theorem extend_r {j k : Nat} {xs ys : List D} (h : s.get j = some (.lst xs)) (h2 : s.get k = some (.lst ys)) (hz : xs.length + ys.length ≤ sizeLine) : extendM (.ref j) [.ref k] s = .ok .non (s.set j (.lst (xs ++ ys))) := by
  unfold extendM
  dsimp only
  rw [h, h2]
  dsimp only
  rw [if_pos hz]
theorem pop_r {j : Nat} {xs : List D} {y : D} (h : s.get j = some (.lst (xs ++ [y]))) : popM (.ref j) [] s = .ok y (s.set j (.lst xs)) := by
  unfold popM
  dsimp only
  rw [h]
  dsimp only
  have e : (xs ++ [y])[(xs ++ [y]).length - 1]? = some y := by simp
  rw [e]
  dsimp only
  rw [List.dropLast_concat]
theorem slc_r {j : Nat} {xs : List D} (h : s.get j = some (.lst xs)) (lo hi : Option Int) : slcD (.ref j) lo hi s = .ok (.ref s.n) (s.add (.lst (cutD xs lo hi))) := by
  unfold slcD
  dsimp only
  rw [h]
theorem rev_r {j : Nat} {xs : List D} (h : s.get j = some (.lst xs)) : revD (.ref j) s = .ok (.ref s.n) (s.add (.lst xs.reverse)) := by
  unfold revD
  dsimp only
  rw [h]
theorem add_rr {i j : Nat} {xs ys : List D} (h : s.get i = some (.lst xs)) (h2 : s.get j = some (.lst ys)) (hz : xs.length + ys.length ≤ sizeLine) : addD (.ref i) (.ref j) s = .ok (.ref s.n) (s.add (.lst (xs ++ ys))) := by
  unfold addD
  dsimp only
  rw [h, h2]
  dsimp only
  rw [if_pos hz]
theorem mul_ri {i : Nat} {xs : List D} {k : Int} (h : s.get i = some (.lst xs)) (h1 : -(2 ^ 62) ≤ k) (h2 : k < 2 ^ 62) (hz : xs.length * k.toNat ≤ sizeLine) : mulD (.ref i) (.int k) s = .ok (.ref s.n) (s.add (.lst (List.replicate k.toNat xs).flatten)) := by
  unfold mulD
  dsimp only
  rw [h]
  dsimp only
  rw [if_pos ⟨h1, h2, hz⟩]
theorem set_r {j k : Nat} {xs : List D} {i : Int} (h : s.get j = some (.lst xs)) (hk : L2.ixN xs.length i = some k) (v : D) : setD (.ref j) (.int i) v s = .ok () (s.set j (.lst (xs.set k v))) := by
  unfold setD
  dsimp only
  rw [h]
  dsimp only
  rw [hk]
theorem newL_ok' {xs : List D} (hz : xs.length ≤ sizeLine) : newL xs s = .ok (.ref s.n) (s.add (.lst xs)) := if_pos hz
theorem all_r {j : Nat} {bs : List Bool} (h : s.get j = some (.lst (bs.map .bl))) : allB [.ref j] s = .ok (.bl (bs.all id)) s := by
  have e : bools (bs.map D.bl) = some bs := by
    induction bs with
    | nil => rfl
    | cons b bs ih =>
      have ih' : bools (bs.map D.bl) = some bs := by
        clear h ih
        induction bs with
        | nil => rfl
        | cons b bs ih => show (bools (bs.map D.bl)).map _ = _; rw [ih]; rfl
      show (bools (bs.map D.bl)).map _ = _
      rw [ih']; rfl
  unfold allB litems
  dsimp only
  rw [h]
  dsimp only
  rw [Option.bind_some, e]
theorem bools_map (bs : List Bool) : bools (bs.map D.bl) = some bs := by
  induction bs with
  | nil => rfl
  | cons b bs ih => show (bools (bs.map D.bl)).map _ = _; rw [ih]; rfl
theorem ints_map (bs : List Int) : intsD (bs.map D.int) = some bs := by
  induction bs with
  | nil => rfl
  | cons b bs ih => show (intsD (bs.map D.int)).map _ = _; rw [ih]; rfl
theorem any_r {j : Nat} {bs : List Bool} (h : s.get j = some (.lst (bs.map .bl))) : anyB [.ref j] s = .ok (.bl (bs.any id)) s := by
  unfold anyB litems
  dsimp only
  rw [h]
  dsimp only
  rw [Option.bind_some, bools_map]
theorem sum_r {j : Nat} {bs : List Int} (h : s.get j = some (.lst (bs.map .int))) : sumB [.ref j] s = .ok (.int bs.sum) s := by
  unfold sumB litems
  dsimp only
  rw [h]
  dsimp only
  rw [Option.bind_some, ints_map]
end
/-! ### what stood stands -/
structure Le (s s' : Sto) : Prop where
  n : s.n ≤ s'.n
  get : ∀ i, i < s.n → s'.get i = s.get i
theorem Le.refl (s : Sto) : Le s s := ⟨Nat.le_refl _, fun _ _ => rfl⟩
theorem Le.trans {s s1 s2 : Sto} (a : Le s s1) (b : Le s1 s2) : Le s s2 := ⟨Nat.le_trans a.n b.n, fun i h => (b.get i (Nat.lt_of_lt_of_le h a.n)).trans (a.get i h)⟩
theorem Le.add (s : Sto) (o : O) : Le s (s.add o) := ⟨Nat.le_succ _, fun i h => by rw [Sto.get_add, if_neg (by omega)]⟩
/-- a later object may change -/
theorem Le.set {s s' : Sto} (a : Le s s') {j : Nat} (h : s.n ≤ j) (o : O) : Le s (s'.set j o) := ⟨a.n, fun i hi => by rw [Sto.get_set, if_neg (by omega)]; exact a.get i hi⟩
theorem get_add_same (s : Sto) (o : O) : (s.add o).get s.n = some o := by rw [Sto.get_add, if_pos rfl]
theorem get_add_ne {s : Sto} {o : O} {j : Nat} (h : j ≠ s.n) : (s.add o).get j = s.get j := by rw [Sto.get_add, if_neg h]
theorem get_set_same (s : Sto) (j : Nat) (o : O) : (s.set j o).get j = some o := by rw [Sto.get_set, if_pos rfl]
theorem get_set_ne {s : Sto} {i j : Nat} {o : O} (h : j ≠ i) : (s.set i o).get j = s.get j := by rw [Sto.get_set, if_neg h]
/-- r gives a, old objects stay -/
def Ev {α : Type} (r : R α) (s : Sto) (a : α) : Prop := ∃ s', r = .ok a s' ∧ Le s s'
theorem Ev.ok {α : Type} (a : α) (s : Sto) : Ev (.ok a s) s a := ⟨s, rfl, .refl s⟩
theorem Ev.later {α : Type} {r : R α} {s s1 : Sto} {a : α} (h : Ev r s1 a) (l : Le s s1) : Ev r s a := let ⟨s', e, l'⟩ := h; ⟨s', e, l.trans l'⟩
/-! ### loops -/
theorem forIts_inv {b : D → Env → Sto → RS} (P : Nat → Env → Sto → Prop) : ∀ (xs : List D) (k : Nat) (env : Env) (s : Sto), P k env s →
    (∀ i x env s, xs[i]? = some x → P (k + i) env s → ∃ env' s', (b x env s = .nx env' s' ∨ b x env s = .ct env' s') ∧ P (k + i + 1) env' s') →
    ∃ env' s', forIts b xs env s = .nx env' s' ∧ P (k + xs.length) env' s'
  | [], k, env, s, h, _ => ⟨env, s, rfl, h⟩
  | x :: xs, k, env, s, h, hs => by
    obtain ⟨e1, s1, h1, p1⟩ := hs 0 x env s rfl h
    obtain ⟨e2, s2, h2, p2⟩ := forIts_inv P xs (k + 1) e1 s1 p1 fun i y env s hy p => by
      have := hs (i + 1) y env s (by simpa using hy) (by rw [show k + (i + 1) = k + 1 + i by omega]; exact p)
      rw [show k + 1 + i + 1 = k + (i + 1) + 1 by omega]; exact this
    refine ⟨e2, s2, ?_, by rw [List.length_cons, show k + (xs.length + 1) = k + 1 + xs.length by omega]; exact p2⟩
    show (b x env s).turn (forIts b xs) = _
    rcases h1 with h1 | h1 <;> rw [h1] <;> exact h2
/-- a loop that may return -/
theorem forIts_ret {b : D → Env → Sto → RS} (P : Nat → Env → Sto → Prop) (Q : D → Sto → Prop) : ∀ (xs : List D) (k : Nat) (env : Env) (s : Sto), P k env s →
    (∀ i x env s, xs[i]? = some x → P (k + i) env s → (∃ env' s', (b x env s = .nx env' s' ∨ b x env s = .ct env' s') ∧ P (k + i + 1) env' s') ∨ ∃ d s', b x env s = .rt d s' ∧ Q d s') →
    (∃ env' s', forIts b xs env s = .nx env' s' ∧ P (k + xs.length) env' s') ∨ ∃ d s', forIts b xs env s = .rt d s' ∧ Q d s'
  | [], k, env, s, h, _ => .inl ⟨env, s, rfl, h⟩
  | x :: xs, k, env, s, h, hs => by
    rcases hs 0 x env s rfl h with ⟨e1, s1, h1, p1⟩ | ⟨d, s1, h1, q1⟩
    · have go : forIts b (x :: xs) env s = forIts b xs e1 s1 := by
        show (b x env s).turn (forIts b xs) = _
        rcases h1 with h1 | h1 <;> rw [h1] <;> rfl
      rw [go]
      rcases forIts_ret P Q xs (k + 1) e1 s1 p1 fun i y env s hy p => by
        have := hs (i + 1) y env s (by simpa using hy) (by rw [show k + (i + 1) = k + 1 + i by omega]; exact p)
        rw [show k + 1 + i + 1 = k + (i + 1) + 1 by omega]; exact this with ⟨e2, s2, h2, p2⟩ | h2
      · exact .inl ⟨e2, s2, h2, by rw [List.length_cons, show k + (xs.length + 1) = k + 1 + xs.length by omega]; exact p2⟩
      · exact .inr h2
    · refine .inr ⟨d, s1, ?_, q1⟩
      show (b x env s).turn (forIts b xs) = _
      rw [h1]; rfl
/-- a while, by an invariant and a measure -/
theorem whl_inv {c : Sem} {b : EvS} (P : Env → Sto → Prop) (Q : Env → Sto → Prop) (mes : Env → Nat) : ∀ (k : Nat) (env : Env) (s : Sto), P env s → mes env < k →
    (∀ env s, P env s → (∃ s1, c.t env s = .ok false s1 ∧ Q env s1) ∨ ∃ s1 env' s', c.t env s = .ok true s1 ∧ (b env s1 = .nx env' s' ∨ b env s1 = .ct env' s') ∧ P env' s' ∧ mes env' < mes env) →
    ∃ env' s', whl c b k env s = .nx env' s' ∧ Q env' s'
  | 0, env, s, h, hk, _ => absurd hk (Nat.not_lt_zero _)
  | k + 1, env, s, h, hk, hs => by
    rcases hs env s h with ⟨s1, h1, q⟩ | ⟨s1, env', s', h1, h2, p, hm⟩
    · refine ⟨env, s1, ?_, q⟩
      show (c.t env s).st _ = _
      rw [h1]; rfl
    · obtain ⟨e2, s2, h3, q⟩ := whl_inv P Q mes k env' s' p (by omega) hs
      refine ⟨e2, s2, ?_, q⟩
      show (c.t env s).st _ = _
      rw [h1]
      show (b env s1).turn (whl c b k) = _
      rcases h2 with h2 | h2 <;> rw [h2] <;> exact h3
/-! ### comprehensions: each turn's item by a function of the item -/
theorem goIts_fun {f : Turn} (F : D → Option D) : ∀ (xs : List D) (s : Sto), (∀ x ∈ xs, ∀ s', Le s s' → Ev (f x s') s' (F x)) → Ev (goIts f xs s) s (xs.filterMap F)
  | [], s, _ => .ok _ _
  | x :: xs, s, h => by
    obtain ⟨s1, e1, l1⟩ := h x List.mem_cons_self s (.refl s)
    obtain ⟨s2, e2, l2⟩ := goIts_fun F xs s1 fun y hy s' hl => h y (List.mem_cons_of_mem _ hy) s' (l1.trans hl)
    refine ⟨s2, ?_, l1.trans l2⟩
    show (f x s).bind _ = _
    rw [e1]
    show (goIts f xs s1).bind _ = _
    rw [e2]
    show R.ok (conO (F x) (xs.filterMap F)) s2 = _
    rw [List.filterMap_cons]
    cases F x <;> rfl
/-- without a test -/
theorem goIts_map {f : Turn} (F : D → D) (xs : List D) (s : Sto) (h : ∀ x ∈ xs, ∀ s', Le s s' → Ev (f x s') s' (some (F x))) : Ev (goIts f xs s) s (xs.map F) := by
  have := goIts_fun (f := f) (fun x => some (F x)) xs s h
  rw [List.filterMap_eq_map'] at this
  exact this
/-- the turns' states told: an invariant over the number of turns -/
theorem goIts_inv {f : Turn} (P : Nat → List D → Sto → Prop) : ∀ (xs : List D) (k : Nat) (acc : List D) (s : Sto), P k acc s →
    (∀ i x acc s, xs[i]? = some x → P (k + i) acc s → ∃ o s', f x s = .ok o s' ∧ P (k + i + 1) (acc ++ conO o []) s') →
    ∃ ys s', goIts f xs s = .ok ys s' ∧ P (k + xs.length) (acc ++ ys) s'
  | [], k, acc, s, h, _ => ⟨[], s, rfl, by rw [List.append_nil]; exact h⟩
  | x :: xs, k, acc, s, h, hs => by
    obtain ⟨o, s1, e1, p1⟩ := hs 0 x acc s rfl h
    obtain ⟨ys, s2, e2, p2⟩ := goIts_inv P xs (k + 1) _ s1 p1 fun i y acc s hy p => by
      have := hs (i + 1) y acc s (by simpa using hy) (by rw [show k + (i + 1) = k + 1 + i by omega]; exact p)
      rw [show k + 1 + i + 1 = k + (i + 1) + 1 by omega]; exact this
    refine ⟨conO o ys, s2, ?_, ?_⟩
    · show (f x s).bind _ = _
      rw [e1]
      show (goIts f xs s1).bind _ = _
      rw [e2]; rfl
    · rw [List.length_cons, show k + (xs.length + 1) = k + 1 + xs.length by omega]
      have e : acc ++ conO o ys = acc ++ conO o [] ++ ys := by cases o <;> simp [conO]
      rw [e]; exact p2
theorem goWk_its (f : Turn) (xs : List D) (s : Sto) : goWk f (.its xs) s = goIts f xs s := rfl
end Cs
namespace Cs
@[simp] theorem turnC_none (g : EvG) (e : Sem) (env : Env) (x : D) (s : Sto) : turnC g none e env x s = (g x env s).bind fun env s => (e.v env s).bind fun y s => .ok (some y) s := id rfl
@[simp] theorem turnC_some (g : EvG) (c e : Sem) (env : Env) (x : D) (s : Sto) : turnC g (some c) e env x s = (g x env s).bind fun env s => (c.t env s).bind fun b s => if b = true then (e.v env s).bind fun y s => .ok (some y) s else .ok none s := id rfl
@[simp] theorem wipeE_nil (env : Env) : wipeE env [] = env := id rfl
@[simp] theorem wipeE_cons (env : Env) (v : Nat) (vs : List Nat) : wipeE env (v :: vs) = (wipeE env vs).set v none := id rfl
end Cs

/-! ## CsRun2 -/
/-! Walking a list that stands in the store. -/
namespace Cs
open PySem
theorem seqW_ref {s : Sto} {i : Nat} {xs : List D} (h : s.get i = some (.lst xs)) : seqW (.ref i) s = .ok (.live i) s := by
  unfold seqW
  dsimp only
  rw [h]
theorem goLive_fun {f : Turn} (F : D → Option D) {i : Nat} {xs : List D} : ∀ (k j : Nat) (s : Sto), i < s.n → s.get i = some (.lst xs) → xs.length - j < k → (∀ x ∈ xs, ∀ s', Le s s' → Ev (f x s') s' (F x)) → Ev (goLive f i k j s) s ((xs.drop j).filterMap F)
  | 0, j, s, _, _, hk, _ => absurd hk (Nat.not_lt_zero _)
  | k + 1, j, s, hi, hg, hk, h => by
    by_cases hj : j < xs.length
    · obtain ⟨s1, e1, l1⟩ := h xs[j] (List.getElem_mem hj) s (.refl s)
      obtain ⟨s2, e2, l2⟩ := goLive_fun F k (j + 1) s1 (Nat.lt_of_lt_of_le hi l1.n) (by rw [l1.get i hi, hg]) (by omega) fun y hy s' hl => h y hy s' (l1.trans hl)
      refine ⟨s2, ?_, l1.trans l2⟩
      unfold goLive
      rw [hg]
      dsimp only
      rw [List.getElem?_eq_getElem hj]
      dsimp only
      rw [e1]
      show (goLive f i k (j + 1) s1).bind _ = _
      rw [e2]
      show R.ok (conO (F xs[j]) ((xs.drop (j + 1)).filterMap F)) s2 = _
      rw [List.drop_eq_getElem_cons hj, List.filterMap_cons]
      cases F xs[j] <;> rfl
    · refine ⟨s, ?_, .refl s⟩
      unfold goLive
      rw [hg]
      dsimp only
      rw [List.getElem?_eq_none (by omega)]
      dsimp only
      rw [List.drop_eq_nil_of_le (by omega)]
      rfl
theorem goWk_live {f : Turn} (F : D → D) {i : Nat} {xs : List D} (s : Sto) (hi : i < s.n) (hg : s.get i = some (.lst xs)) (hk : xs.length < 1000000) (h : ∀ x ∈ xs, ∀ s', Le s s' → Ev (f x s') s' (some (F x))) : Ev (goWk f (.live i) s) s (xs.map F) := by
  have := goLive_fun (f := f) (fun x => some (F x)) 1000000 0 s hi hg (by omega) h
  rw [List.drop_zero, List.filterMap_eq_map'] at this
  exact this
theorem goWk_live_fun {f : Turn} (F : D → Option D) {i : Nat} {xs : List D} (s : Sto) (hi : i < s.n) (hg : s.get i = some (.lst xs)) (hk : xs.length < 1000000) (h : ∀ x ∈ xs, ∀ s', Le s s' → Ev (f x s') s' (F x)) : Ev (goWk f (.live i) s) s (xs.filterMap F) := by
  have := goLive_fun (f := f) F 1000000 0 s hi hg (by omega) h
  rw [List.drop_zero] at this
  exact this
@[simp] theorem wkS_live (g : EvG) (b : EvS) (i : Nat) (env : Env) (s : Sto) : wkS g b env (.live i) s = forLive (bodyF g b) i 1000000 0 env s := id rfl
theorem forLive_inv {b : D → Env → Sto → RS} (P : Nat → Env → Sto → Prop) {i : Nat} {xs : List D} (hP : ∀ k env s, P k env s → s.get i = some (.lst xs)) : ∀ (f k : Nat) (env : Env) (s : Sto), P k env s → xs.length - k < f → k ≤ xs.length →
    (∀ k x env s, xs[k]? = some x → P k env s → ∃ env' s', (b x env s = .nx env' s' ∨ b x env s = .ct env' s') ∧ P (k + 1) env' s') →
    ∃ env' s', forLive b i f k env s = .nx env' s' ∧ P xs.length env' s'
  | 0, k, env, s, _, hf, _, _ => absurd hf (Nat.not_lt_zero _)
  | f + 1, k, env, s, h, hf, hk, hs => by
    by_cases hj : k < xs.length
    · obtain ⟨e1, s1, h1, p1⟩ := hs k xs[k] env s (List.getElem?_eq_getElem hj) h
      obtain ⟨e2, s2, h2, p2⟩ := forLive_inv P hP f (k + 1) e1 s1 p1 (by omega) (by omega) hs
      refine ⟨e2, s2, ?_, p2⟩
      unfold forLive
      rw [hP _ _ _ h]
      dsimp only
      rw [List.getElem?_eq_getElem hj]
      dsimp only
      rcases h1 with h1 | h1 <;> rw [h1] <;> exact h2
    · refine ⟨env, s, ?_, by rw [show xs.length = k by omega]; exact h⟩
      unfold forLive
      rw [hP _ _ _ h]
      dsimp only
      rw [List.getElem?_eq_none (by omega)]
theorem forLive_ret {b : D → Env → Sto → RS} (P : Nat → Env → Sto → Prop) (Q : D → Sto → Prop) {i : Nat} {xs : List D} (hP : ∀ k env s, P k env s → s.get i = some (.lst xs)) : ∀ (f k : Nat) (env : Env) (s : Sto), P k env s → xs.length - k < f → k ≤ xs.length →
    (∀ k x env s, xs[k]? = some x → P k env s → (∃ env' s', (b x env s = .nx env' s' ∨ b x env s = .ct env' s') ∧ P (k + 1) env' s') ∨ ∃ d s', b x env s = .rt d s' ∧ Q d s') →
    (∃ env' s', forLive b i f k env s = .nx env' s' ∧ P xs.length env' s') ∨ ∃ d s', forLive b i f k env s = .rt d s' ∧ Q d s'
  | 0, k, env, s, _, hf, _, _ => absurd hf (Nat.not_lt_zero _)
  | f + 1, k, env, s, h, hf, hk, hs => by
    by_cases hj : k < xs.length
    · have go : ∀ r, (b xs[k] env s).turn (forLive b i f (k + 1)) = r → forLive b i (f + 1) k env s = r := by
        intro r hr
        unfold forLive
        rw [hP _ _ _ h]
        dsimp only
        rw [List.getElem?_eq_getElem hj]
        exact hr
      rcases hs k xs[k] env s (List.getElem?_eq_getElem hj) h with ⟨e1, s1, h1, p1⟩ | ⟨d, s1, h1, q1⟩
      · have go2 : (b xs[k] env s).turn (forLive b i f (k + 1)) = forLive b i f (k + 1) e1 s1 := by
          rcases h1 with h1 | h1 <;> rw [h1] <;> rfl
        rcases forLive_ret P Q hP f (k + 1) e1 s1 p1 (by omega) (by omega) hs with ⟨e2, s2, h2, p2⟩ | ⟨d, s2, h2, q2⟩
        · exact .inl ⟨e2, s2, go _ (go2.trans h2), p2⟩
        · exact .inr ⟨d, s2, go _ (go2.trans h2), q2⟩
      · exact .inr ⟨d, s1, go _ (by rw [h1]; rfl), q1⟩
    · refine .inl ⟨env, s, ?_, by rw [show xs.length = k by omega]; exact h⟩
      unfold forLive
      rw [hP _ _ _ h]
      dsimp only
      rw [List.getElem?_eq_none (by omega)]
end Cs

/-! ## CsRun3 -/
/-! Evaluation of what CsSem2 adds. -/
namespace Cs
open PySem
section
variable (env : Env) (s : Sto)
def par3 (i j l : Nat) (env : Env) (xs : List D) (s : Sto) : RS := match xs with
  | [x, y, z] => .nx (((env.set i (some x)).set j (some y)).set l (some z)) s
  | _ => .no
@[simp] theorem par3_ok (i j l : Nat) (x y z : D) : par3 i j l env [x, y, z] s = .nx (((env.set i (some x)).set j (some y)).set l (some z)) s := id rfl
@[simp] theorem s_Par3 (i j l : Nat) (a : EvA) : sPar3 i j l a env s = (a env s).st (par3 i j l env) := by
  show R.st _ _ = R.st _ _
  congr 1
def rg3W (xs : List D) (s : Sto) : R Wk := match xs with
  | [.int i, .int j, .int c] => if c = -1 ∧ bigI i = true ∧ bigI j = true then .ok (.its (rgdD i (i - j).toNat)) s else .no
  | _ => .no
@[simp] theorem rg3W_ok (i j : Int) : rg3W [.int i, .int j, .int (-1)] s = if bigI i = true ∧ bigI j = true then .ok (.its (rgdD i (i - j).toNat)) s else .no := by
  show (if (-1 : Int) = -1 ∧ _ then _ else _) = _
  simp
@[simp] theorem i_Rg3 (a : EvA) : iRg3 a env s = (a env s).bind rg3W := id rfl
def enW (xs : List D) (s : Sto) : R Wk := match xs with
  | [.tup xs] => .ok (.its (enumD xs)) s
  | _ => .no
@[simp] theorem enW_ok (xs : List D) : enW [.tup xs] s = .ok (.its (enumD xs)) s := id rfl
@[simp] theorem i_Enum (a : EvA) : iEnum a env s = (a env s).bind enW := id rfl
theorem index_r {s : Sto} {j k : Nat} {ns : List Int} {i : Int} (h : s.get j = some (.lst (ns.map .int))) (hk : ns.findIdx? (· == i) = some k) : indexM (.ref j) [.int i] s = .ok (.int (k : Nat)) s := by
  unfold indexM
  dsimp only
  rw [h]
  dsimp only
  rw [ints_map]
  dsimp only
  rw [hk]
theorem enumD_at {xs : List D} {j : Nat} {x : D} (h : (enumD xs)[j]? = some x) : ∃ y, xs[j]? = some y ∧ x = .tup [.int (j : Nat), y] := by
  unfold enumD at h
  rw [List.getElem?_map, List.getElem?_zipIdx] at h
  cases hx : xs[j]? with
  | none => rw [hx] at h; cases h
  | some y =>
    rw [hx] at h
    refine ⟨y, rfl, ?_⟩
    have := Option.some.inj h
    rw [← this]
    simp
theorem rgdD_at {i : Int} {n j : Nat} {x : D} (h : (rgdD i n)[j]? = some x) : j < n ∧ x = .int (i - (j : Nat)) := by
  unfold rgdD at h
  rw [List.getElem?_map] at h
  obtain ⟨k, h1, h2⟩ := Option.map_eq_some_iff.mp h
  have hi : j < n := by
    have := (List.getElem?_eq_some_iff.mp h1).1
    simpa using this
  rw [List.getElem?_range hi] at h1
  cases h1
  exact ⟨hi, h2.symm⟩
end
end Cs

/-! ## CsWalk -/
/-! Walks as lists of ints; what the pieces give on them. -/
namespace Cs
open PySem
theorem size_eq : sizeLine = 16777216 := sizeLine_eq
abbrev tw (w : List Int) : D := .tup (w.map .int)
theorem map_at {w : List Int} {i : Nat} {x : D} (h : (w.map D.int)[i]? = some x) : ∃ n, w[i]? = some n ∧ x = .int n := by
  rw [List.getElem?_map] at h
  obtain ⟨n, h1, h2⟩ := Option.map_eq_some_iff.mp h
  exact ⟨n, h1, h2.symm⟩
theorem take_fold {α β : Type} (f : β → α → β) (b : β) {w : List α} {i : Nat} {n : α} (h : w[i]? = some n) : (w.take (i + 1)).foldl f b = f ((w.take i).foldl f b) n := by
  rw [List.take_add_one, h, List.foldl_append]; rfl
theorem atI_last' (xs : List D) (y : D) : L2.atI (xs ++ [y]) (-1) = some y := L2.atI_last xs y
theorem atI_nat' {xs : List D} {j : Nat} {v : D} (h : xs[j]? = some v) : L2.atI xs (j : Int) = some v := L2.atI_nat h
theorem atI_at {w : List Int} {i : Int} {j : Nat} {n : Int} (hi : i = (j : Int)) (h : w[j]? = some n) : L2.atI (w.map D.int) i = some (.int n) := by
  subst hi
  exact L2.atI_nat (by rw [List.getElem?_map, h]; rfl)
@[simp] theorem eqD_ii (i j : Int) (s : Sto) : eqD (.int i) (.int j) s = .ok (.bl (i == j)) s := by
  unfold eqD
  simp [pyd, PyData.eqv]
@[simp] theorem neD_ii (i j : Int) (s : Sto) : neD (.int i) (.int j) s = .ok (.bl (!(i == j))) s := by
  unfold neD
  simp [pyd, PyData.eqv]
theorem pyd_ints (s : Sto) (k : Nat) (w : List Int) : mapO (pyd s k) (w.map D.int) = some (w.map PyData.int) := by
  induction w with
  | nil => rfl
  | cons x w ih =>
    have e : pyd s k (.int x) = some (.int x) := by cases k <;> rfl
    simp only [List.map_cons, mapO, e, ih]
theorem pyd_tw (s : Sto) (k : Nat) (w : List Int) : pyd s (k + 1) (tw w) = some (.tuple (w.map PyData.int)) := by
  show (mapO (pyd s k) (w.map D.int)).map PyData.tuple = _
  rw [pyd_ints]; rfl
theorem eqv_ints : ∀ (w v : List Int), PyData.eqvAll (w.map .int) (v.map .int) = decide (w = v)
  | [], [] => by simp [PyData.eqvAll]
  | [], y :: v => by simp [PyData.eqvAll]
  | x :: w, [] => by simp [PyData.eqvAll]
  | x :: w, y :: v => by
    have ih := eqv_ints w v
    simp only [List.map_cons, PyData.eqvAll, PyData.eqv, ih]
    by_cases h : x = y
    · subst h; simp
    · simp [h]
theorem eqD_tw (w v : List Int) (s : Sto) : eqD (tw w) (tw v) s = .ok (.bl (decide (w = v))) s := by
  unfold eqD
  rw [pyd_tw, pyd_tw]
  show R.ok (D.bl (PyData.eqv _ _)) s = _
  rw [show PyData.eqv (.tuple (w.map PyData.int)) (.tuple (v.map PyData.int)) = PyData.eqvAll (w.map .int) (v.map .int) by simp [PyData.eqv], eqv_ints]
theorem neD_tw (w v : List Int) (s : Sto) : neD (tw w) (tw v) s = .ok (.bl (!decide (w = v))) s := by
  unfold neD
  rw [pyd_tw, pyd_tw]
  show R.ok (D.bl (!PyData.eqv _ _)) s = _
  rw [show PyData.eqv (.tuple (w.map PyData.int)) (.tuple (v.map PyData.int)) = PyData.eqvAll (w.map .int) (v.map .int) by simp [PyData.eqv], eqv_ints]
/-! ### slices -/
def cutI (xs : List Int) (lo hi : Option Int) : List Int := (xs.drop (HT.sIx xs.length 0 lo)).take (HT.sIx xs.length xs.length hi - HT.sIx xs.length 0 lo)
theorem cut_map (w : List Int) (lo hi : Option Int) : cutD (w.map D.int) lo hi = (cutI w lo hi).map D.int := by
  unfold cutD cutI
  rw [List.length_map, List.map_take, List.map_drop]
theorem sIx_of {n d k : Nat} {i : Int} (h : i = (k : Int)) : HT.sIx n d (some i) = min k n := by subst h; exact HT.sIx_nat n d k
theorem cut_to {w : List Int} {k : Nat} {i : Int} (h : i = (k : Int)) : cutI w none (some i) = w.take k := by
  unfold cutI
  rw [sIx_of h, HT.sIx_none]
  simp
theorem cut_from {w : List Int} {k : Nat} {i : Int} (h : i = (k : Int)) : cutI w (some i) none = w.drop k := by
  unfold cutI
  rw [sIx_of h, HT.sIx_none]
  by_cases hk : k ≤ w.length
  · rw [Nat.min_eq_left hk]
    exact List.take_of_length_le (by rw [List.length_drop]; exact Nat.le_refl _)
  · rw [Nat.min_eq_right (by omega)]
    simp [List.drop_eq_nil_of_le (show w.length ≤ k by omega)]
theorem cut_mid {w : List Int} {k m : Nat} {i j : Int} (h : i = (k : Int)) (h2 : j = (m : Int)) : cutI w (some i) (some j) = (w.drop k).take (m - k) := by
  unfold cutI
  rw [sIx_of h, sIx_of h2]
  by_cases hk : k ≤ w.length
  · rw [Nat.min_eq_left hk]
    by_cases hm : m ≤ w.length
    · rw [Nat.min_eq_left hm]
    · rw [Nat.min_eq_right (show w.length ≤ m by omega)]
      rw [List.take_of_length_le (by rw [List.length_drop]; exact Nat.le_refl _), List.take_of_length_le (by rw [List.length_drop]; omega)]
  · rw [Nat.min_eq_right (show w.length ≤ k by omega)]
    rw [List.drop_eq_nil_of_le (Nat.le_refl _), List.drop_eq_nil_of_le (show w.length ≤ k by omega)]
    simp
theorem rep_map (k : Nat) (w : List Int) : (List.replicate k (w.map D.int)).flatten = ((List.replicate k w).flatten).map D.int := by
  rw [List.map_flatten, List.map_replicate]
/-! ### free reduction -/
/-- one step upon a straight walk, its last step first -/
def push : List Int → Int → List Int
  | y :: r, x => if y = -x then r else x :: y :: r
  | [], x => [x]
theorem push_cons (y : Int) (r : List Int) (x : Int) : push (y :: r) x = if y = -x then r else x :: y :: r := rfl
theorem push_nil (x : Int) : push [] x = [x] := rfl
def redS (w : List Int) : List Int := w.foldl push []
def red (w : List Int) : List Int := (redS w).reverse
theorem push_len (r : List Int) (x : Int) : (push r x).length ≤ r.length + 1 := by
  unfold push
  split
  · split <;> simp <;> omega
  · simp
theorem foldl_push_len (w : List Int) : ∀ r : List Int, (w.foldl push r).length ≤ r.length + w.length := by
  induction w with
  | nil => intro r; simp
  | cons x w ih =>
    intro r
    have := ih (push r x)
    have := push_len r x
    simp only [List.foldl_cons, List.length_cons]
    omega
theorem red_len (w : List Int) : (red w).length ≤ w.length := by
  have := foldl_push_len w []
  unfold red redS
  simpa using this
/-- no step stands next to its opposite one -/
def Rdc : List Int → Prop
  | x :: y :: r => x ≠ -y ∧ Rdc (y :: r)
  | _ => True
theorem Rdc.tail {x : Int} {r : List Int} (h : Rdc (x :: r)) : Rdc r := by
  cases r with
  | nil => trivial
  | cons y r => exact h.2
theorem push_str {r : List Int} (h : Rdc r) (x : Int) : Rdc (push r x) := by
  cases r with
  | nil => trivial
  | cons y r =>
    rw [push_cons]
    by_cases e : y = -x
    · rw [if_pos e]; exact h.tail
    · rw [if_neg e]
      exact ⟨fun z => e (by omega), h⟩
theorem foldl_str (w : List Int) : ∀ r : List Int, Rdc r → Rdc (w.foldl push r) := by
  induction w with
  | nil => intro r h; exact h
  | cons x w ih => intro r h; exact ih _ (push_str h x)
theorem redS_str (w : List Int) : Rdc (redS w) := foldl_str w [] trivial
/-- a step and its opposite one, upon a straight walk, are nothing -/
theorem push_back {r : List Int} (h : Rdc r) (x : Int) (hx : x ≠ 0) : push (push r x) (-x) = r := by
  cases r with
  | nil => simp [push]
  | cons y r =>
    by_cases e : y = -x
    · have e1 : push (y :: r) x = r := by simp [push, e]
      rw [e1]
      cases r with
      | nil => simp [push, e]
      | cons z r =>
        have : z ≠ x := fun q => h.1 (by rw [e, q])
        have n : ¬ z = - -x := by omega
        simp [push, e, this]
    · have e1 : push (y :: r) x = x :: y :: r := by simp [push, e]
      rw [e1]
      simp [push]
def bk (w : List Int) : List Int := (w.map fun x => -x).reverse
theorem bk_len (w : List Int) : (bk w).length = w.length := by simp [bk]
theorem bk_bk (w : List Int) : bk (bk w) = w := by
  unfold bk
  rw [List.map_reverse, List.reverse_reverse, List.map_map]
  have e : ((fun x : Int => -x) ∘ fun x => -x) = id := by funext x; show - -x = x; omega
  rw [e, List.map_id]
/-- pushing a walk is pushing its straight form -/
theorem push_red {r : List Int} (hr : Rdc r) : ∀ (w st : List Int), (∀ x ∈ w, x ≠ 0) → (∀ x ∈ st, x ≠ 0) → Rdc st → (w.foldl push st).reverse.foldl push r = w.foldl push (st.reverse.foldl push r) := by
  intro w
  induction w with
  | nil => intro st _ _ _; rfl
  | cons x w ih =>
    intro st hw hst hs
    have hx := hw x List.mem_cons_self
    have hw' : ∀ y ∈ w, y ≠ 0 := fun y hy => hw y (List.mem_cons_of_mem _ hy)
    rw [List.foldl_cons, List.foldl_cons]
    have hst' : ∀ y ∈ push st x, y ≠ 0 := by
      intro y hy
      cases st with
      | nil => simp [push] at hy; omega
      | cons z st =>
        rw [push_cons] at hy
        split at hy
        · exact hst y (List.mem_cons_of_mem _ hy)
        · rcases List.mem_cons.mp hy with rfl | hy
          · exact hx
          · exact hst y hy
    rw [ih (push st x) hw' hst' (push_str hs x)]
    congr 1
    cases st with
    | nil => rfl
    | cons z st =>
      by_cases e : z = -x
      · have e1 : push (z :: st) x = st := by simp [push, e]
        rw [e1, List.reverse_cons, List.foldl_append]
        show _ = push (push (st.reverse.foldl push r) z) x
        rw [e]
        have := push_back (foldl_str st.reverse r hr) (-x) (by omega)
        rw [show - -x = x by omega] at this
        rw [this]
      · have e1 : push (z :: st) x = x :: z :: st := by simp [push, e]
        rw [e1]
        simp [List.foldl_append]
theorem redS_app {u v : List Int} (hv : ∀ x ∈ v, x ≠ 0) : redS (u ++ v) = (red v).foldl push (redS u) := by
  have := push_red (redS_str u) v [] hv (fun _ h => nomatch h) trivial
  unfold red
  unfold redS at *
  rw [List.foldl_append]
  rw [this]; rfl
theorem foldl_push_str : ∀ (w r : List Int), Rdc (w.reverse ++ r) → w.foldl push r = w.reverse ++ r := by
  intro w
  induction w with
  | nil => intro r _; rfl
  | cons x w ih =>
    intro r h
    rw [List.reverse_cons, List.append_assoc] at h
    have suf : ∀ (a b : List Int), Rdc (a ++ b) → Rdc b := by
      intro a
      induction a with
      | nil => intro b h; exact h
      | cons y ys ih => intro b h; exact ih b h.tail
    have hxr : Rdc (x :: r) := suf _ _ h
    have e : push r x = x :: r := by
      cases r with
      | nil => rfl
      | cons y r =>
        have : ¬ y = -x := fun q => hxr.1 (by omega)
        simp [push, this]
    rw [List.foldl_cons, e, ih (x :: r) h]
    simp
theorem Rdc.rev {w : List Int} (h : Rdc w) : Rdc w.reverse := by
  have gen : ∀ (w r : List Int), Rdc w → Rdc r → (∀ x y, w.head? = some x → r.head? = some y → x ≠ -y) → Rdc (w.reverse ++ r) := by
    intro w
    induction w with
    | nil => intro r _ hr _; exact hr
    | cons x w ih =>
      intro r hw hr hj
      rw [List.reverse_cons, List.append_assoc]
      refine ih (x :: r) hw.tail ?_ ?_
      · cases r with
        | nil => trivial
        | cons y r => exact ⟨hj x y rfl rfl, hr⟩
      · intro a b ha hb
        cases w with
        | nil => cases ha
        | cons z w =>
          have e1 : z = a := Option.some.inj ha
          have e2 : x = b := Option.some.inj hb
          subst e1 e2
          have := hw.1
          omega
  have := gen w [] h trivial (fun x y _ hy => nomatch hy)
  simpa using this
theorem red_of_str {w : List Int} (h : Rdc w) : red w = w := by
  unfold red redS
  rw [foldl_push_str w [] (by rw [List.append_nil]; exact h.rev), List.append_nil, List.reverse_reverse]
theorem red_str (w : List Int) : Rdc (red w) := (redS_str w).rev
theorem red_red (w : List Int) : red (red w) = red w := red_of_str (red_str w)
theorem push_mem {r : List Int} {x y : Int} (h : y ∈ push r x) : y = x ∨ y ∈ r := by
  cases r with
  | nil => simp [push] at h; exact .inl h
  | cons z r =>
    rw [push_cons] at h
    split at h
    · exact .inr (List.mem_cons_of_mem _ h)
    · exact List.mem_cons.mp h
theorem foldl_push_mem : ∀ (w r : List Int) (y : Int), y ∈ w.foldl push r → y ∈ w ∨ y ∈ r
  | [], r, y, h => .inr h
  | x :: w, r, y, h => by
    rcases foldl_push_mem w (push r x) y h with h | h
    · exact .inl (List.mem_cons_of_mem _ h)
    · rcases push_mem h with rfl | h
      · exact .inl List.mem_cons_self
      · exact .inr h
theorem red_mem {w : List Int} {y : Int} (h : y ∈ red w) : y ∈ w := by
  unfold red redS at h
  rcases foldl_push_mem w [] y (List.mem_reverse.mp h) with h | h
  · exact h
  · cases h
theorem rgD_at {lo : Int} {n i : Nat} {x : D} (h : (rgD lo n)[i]? = some x) : i < n ∧ x = .int (lo + (i : Int)) := by
  unfold rgD at h
  rw [List.getElem?_map] at h
  obtain ⟨k, h1, h2⟩ := Option.map_eq_some_iff.mp h
  have hi : i < n := by
    have := (List.getElem?_eq_some_iff.mp h1).1
    simpa using this
  rw [List.getElem?_range hi] at h1
  cases h1
  exact ⟨hi, h2.symm⟩
end Cs

/-! ## CsRun4 -/
/-! min with a key, keys compared. -/
namespace Cs
open PySem
section
variable (env : Env) (s : Sto)
@[simp] theorem v_MinK (f : Fn) (e d : Sem) : (xMinK f e d).v env s = (e.v env s).bind fun x s => (d.v env s).bind fun y s => minK f y x s := id rfl
@[simp] theorem v_Dict0 : xDict0.v env s = .ok (.ref s.n) (s.add (.dct [])) := id rfl
@[simp] theorem isBl_bb (a b : Bool) : isBlD (.bl a) (.bl b) s = .ok (.bl (decide (a = b))) s := id rfl
@[simp] theorem isnBl_bb (a b : Bool) : isnBlD (.bl a) (.bl b) s = .ok (.bl (!decide (a = b))) s := id rfl
/-- the key of a walk: its length and its steps' places -/
def keyD (o : Int → Int) (w : List Int) : D := .tup [.int w.length, tw (w.map o)]
theorem keyLt_w (o : Int → Int) (x y : List Int) : keyLt (keyD o x) (keyD o y) = some (if x.length = y.length then lexD (x.map o) (y.map o) else decide (x.length < y.length)) := by
  show (match intsD ((x.map o).map .int), intsD ((y.map o).map .int) with
    | some ns, some ms => some (if (x.length : Int) = (y.length : Int) then lexD ns ms else decide ((x.length : Int) < (y.length : Int)))
    | _, _ => none) = _
  rw [ints_map, ints_map]
  dsimp only
  by_cases h : x.length = y.length
  · rw [if_pos (by omega), if_pos h]
  · rw [if_neg (by omega), if_neg h]
    congr 1
    exact decide_eq_decide.mpr (by omega)
@[simp] theorem ltK_w (o : Int → Int) (x y : List Int) : ltK (keyD o x) (keyD o y) s = .ok (.bl (if x.length = y.length then lexD (x.map o) (y.map o) else decide (x.length < y.length))) s := by
  unfold ltK
  rw [keyLt_w]
end
/-- the better of two by key -/
def minW (o : Int → Int) (b x : List Int) : List Int := if (if x.length = b.length then lexD (x.map o) (b.map o) else decide (x.length < b.length)) = true then x else b
theorem minGo_run {f : Fn} {o : Int → Int} {i : Nat} {ws : List (List Int)} (hf : ∀ w ∈ ws, ∀ s, Ev (f [tw w] s) s (keyD o w)) : ∀ (k j : Nat) (b : List Int) (s : Sto), i < s.n → s.get i = some (.lst (ws.map tw)) → ws.length - j < k →
    Ev (minGo f i k j (tw b) (keyD o b) s) s (tw ((ws.drop j).foldl (minW o) b))
  | 0, j, b, s, _, _, hk => absurd hk (Nat.not_lt_zero _)
  | k + 1, j, b, s, hi, hg, hk => by
    by_cases hj : j < ws.length
    · obtain ⟨s1, e1, l1⟩ := hf ws[j] (List.getElem_mem hj) s
      have go : ∀ b', Ev (minGo f i k (j + 1) (tw b') (keyD o b') s1) s1 (tw ((ws.drop (j + 1)).foldl (minW o) b')) := fun b' => minGo_run hf k (j + 1) b' s1 (Nat.lt_of_lt_of_le hi l1.n) (by rw [l1.get i hi, hg]) (by omega)
      have hx : (ws.map tw)[j]? = some (tw ws[j]) := by rw [List.getElem?_map, List.getElem?_eq_getElem hj]; rfl
      rw [List.drop_eq_getElem_cons hj, List.foldl_cons]
      have hu : minGo f i (k + 1) j (tw b) (keyD o b) s = (match keyLt (keyD o ws[j]) (keyD o b) with
          | some true => minGo f i k (j + 1) (tw ws[j]) (keyD o ws[j]) s1
          | some false => minGo f i k (j + 1) (tw b) (keyD o b) s1
          | none => .no) := by
        conv => lhs; unfold minGo
        rw [hg]
        dsimp only
        rw [hx]
        dsimp only
        rw [e1]
        rfl
      rw [hu, keyLt_w]
      unfold minW
      cases hb : (if ws[j].length = b.length then lexD (ws[j].map o) (b.map o) else decide (ws[j].length < b.length)) with
      | true =>
        rw [if_pos rfl]
        exact (go ws[j]).later l1
      | false =>
        rw [if_neg (by decide)]
        exact (go b).later l1
    · refine ⟨s, ?_, .refl s⟩
      have hx : (ws.map tw)[j]? = none := List.getElem?_eq_none (by rw [List.length_map]; omega)
      rw [List.drop_eq_nil_of_le (by omega)]
      unfold minGo
      rw [hg]
      dsimp only
      rw [hx]
      rfl
end Cs

/-! ## CsRun5 -/
/-! Evaluation of sorting, ranges taken whole, zip. -/
namespace Cs
open PySem PySem.W
section
variable (env : Env) (s : Sto)
@[simp] theorem v_SortK (f : Fn) (e : Sem) : (xSortK f e).v env s = (e.v env s).bind fun x s => sortK f x s := id rfl
@[simp] theorem rgW_ii (i j : Int) (k : List D → Sto → R D) : rgW (.int i) (.int j) s k = if bigI i = true ∧ bigI j = true ∧ (j - i).toNat ≤ 16777216 then k (rgD i (j - i).toNat) s else .no := id rfl
@[simp] theorem v_LstR1 (a : Sem) : (xLstR1 a).v env s = (a.v env s).bind fun x s => rgW (.int 0) x s newL := id rfl
@[simp] theorem v_LstR2 (a b : Sem) : (xLstR2 a b).v env s = (a.v env s).bind fun x s => (b.v env s).bind fun y s => rgW x y s newL := id rfl
@[simp] theorem v_TupR1 (a : Sem) : (xTupR1 a).v env s = (a.v env s).bind fun x s => rgW (.int 0) x s fun xs s => .ok (.tup xs) s := id rfl
@[simp] theorem v_TupR2 (a b : Sem) : (xTupR2 a b).v env s = (a.v env s).bind fun x s => (b.v env s).bind fun y s => rgW x y s fun xs s => .ok (.tup xs) s := id rfl
@[simp] theorem i_Zip2 (a : EvA) : iZip2 a env s = (a env s).bind zipW := id rfl
end
theorem zipW_rr {s : Sto} {i j : Nat} {xs ys : List D} (h1 : s.get i = some (.lst xs)) (h2 : s.get j = some (.lst ys)) : zipW [.ref i, .ref j] s = .ok (Wk.zip i j) s := by
  unfold zipW
  dsimp only
  rw [h1, h2]
theorem goZip_fun {f : Turn} (F : D → D → D) {i j : Nat} {xs ys : List D} : ∀ (k n : Nat) (s : Sto), i < s.n → j < s.n → s.get i = some (.lst xs) → s.get j = some (.lst ys) → xs.length - n < k →
    (∀ x y s', Le s s' → (x, y) ∈ xs.zip ys → Ev (f (.tup [x, y]) s') s' (some (F x y))) → Ev (goRd f (fun s n => zipAt s i j n) k n s) s (((xs.zip ys).drop n).map fun p => F p.1 p.2)
  | 0, n, s, _, _, _, _, hk, _ => absurd hk (Nat.not_lt_zero _)
  | k + 1, n, s, hi, hj, h1, h2, hk, h => by
    by_cases hn : n < xs.length ∧ n < ys.length
    · have hl : n < (xs.zip ys).length := by rw [List.length_zip]; omega
      have hg : (xs.zip ys)[n] = (xs[n], ys[n]) := List.getElem_zip
      have hm : (xs[n], ys[n]) ∈ xs.zip ys := by rw [← hg]; exact List.getElem_mem hl
      obtain ⟨s1, e1, l1⟩ := h xs[n] ys[n] s (.refl s) hm
      obtain ⟨s2, e2, l2⟩ := goZip_fun F k (n + 1) s1 (Nat.lt_of_lt_of_le hi l1.n) (Nat.lt_of_lt_of_le hj l1.n) (by rw [l1.get i hi, h1]) (by rw [l1.get j hj, h2]) (by omega) fun x y s' hl' hm' => h x y s' (l1.trans hl') hm'
      refine ⟨s2, ?_, l1.trans l2⟩
      have hz : zipAt s i j n = some (some (.tup [xs[n], ys[n]])) := by
        unfold zipAt
        rw [h1, h2]
        dsimp only
        rw [List.getElem?_eq_getElem hn.1, List.getElem?_eq_getElem hn.2]
      unfold goRd
      rw [hz]
      dsimp only
      rw [e1]
      show (goRd f (fun s n => zipAt s i j n) k (n + 1) s1).bind _ = _
      rw [e2]
      show R.ok (F xs[n] ys[n] :: _) s2 = _
      rw [List.drop_eq_getElem_cons hl, List.map_cons, hg]
    · refine ⟨s, ?_, .refl s⟩
      have hl : (xs.zip ys).length ≤ n := by rw [List.length_zip]; omega
      have hz2 : zipAt s i j n = some none := by
        unfold zipAt
        rw [h1, h2]
        dsimp only
        by_cases q : n < xs.length
        · rw [List.getElem?_eq_none (show ys.length ≤ n by omega), List.getElem?_eq_getElem q]
        · rw [List.getElem?_eq_none (show xs.length ≤ n by omega)]
      unfold goRd
      rw [hz2]
      dsimp only
      rw [List.drop_eq_nil_of_le hl]
      rfl
theorem goWk_zip {f : Turn} (F : D → D → D) {i j : Nat} {xs ys : List D} (s : Sto) (hi : i < s.n) (hj : j < s.n) (h1 : s.get i = some (.lst xs)) (h2 : s.get j = some (.lst ys)) (hk : xs.length < 1000000)
    (h : ∀ x y s', Le s s' → (x, y) ∈ xs.zip ys → Ev (f (.tup [x, y]) s') s' (some (F x y))) : Ev (goWk f (Wk.zip i j) s) s ((xs.zip ys).map fun p => F p.1 p.2) := by
  have := goZip_fun (f := f) F 1000000 0 s hi hj h1 h2 (by omega) h
  rw [List.drop_zero] at this
  exact this
/-! ### sorting ints by an int key -/
theorem keysGo_ints {f : Fn} {o : Int → Int} (h : ∀ x s, f [.int x] s = .ok (.int (o x)) s) : ∀ (xs : List Int) (s : Sto), keysGo f (xs.map .int) s = .ok (xs.map fun x => PyData.int (o x)) s
  | [], s => rfl
  | x :: xs, s => by
    show (f [.int x] s).bind _ = _
    rw [h]
    show (keysGo f (xs.map .int) s).bind _ = _
    rw [keysGo_ints h xs s]
    rfl
theorem okKeys_ints (o : Int → Int) (xs : List Int) : okKeys (xs.map fun x => PyData.int (o x)) = true := by
  unfold okKeys
  rw [Bool.and_eq_true, Bool.or_eq_true]
  refine ⟨List.all_eq_true.mpr fun d hd => List.all_eq_true.mpr fun e he => ?_, .inr (List.all_eq_true.mpr fun d hd => ?_)⟩
  · obtain ⟨x, _, rfl⟩ := List.mem_map.mp hd
    obtain ⟨y, _, rfl⟩ := List.mem_map.mp he
    rfl
  · obtain ⟨x, _, rfl⟩ := List.mem_map.mp hd
    rfl
/-- what stands sorted by o, each once, and holds the same: that is it -/
theorem sortBy_ints {o : Int → Int} {xs ys : List Int} (hx : xs.Nodup) (hp : ys.Pairwise fun a b => o a < o b) (hm : ∀ x, x ∈ ys ↔ x ∈ xs) : sortBy (xs.map fun x => PyData.int (o x)) (xs.map .int) = ys.map .int := by
  unfold sortBy
  have ez : (xs.map D.int).zip (xs.map fun x => PyData.int (o x)) = xs.map fun x => (D.int x, PyData.int (o x)) := by
    rw [List.zip_map']
  rw [ez]
  have hpw := sort_pairwise (sortLe_total (PyProof.Rows.listOrd PyProof.Rows.itemOrd) false fun p : D × PyData => keyToks p.2) (xs.map fun x => (D.int x, PyData.int (o x)))
  have hpm := List.mergeSort_perm (xs.map fun x => (D.int x, PyData.int (o x))) (dataLe false fun p : D × PyData => p.2)
  have hpw : ((xs.map fun x => (D.int x, PyData.int (o x))).mergeSort (dataLe false fun p : D × PyData => p.2)).Pairwise (fun a b => dataLe false (fun p : D × PyData => p.2) a b = true) := hpw
  generalize (xs.map fun x => (D.int x, PyData.int (o x))).mergeSort (dataLe false fun p : D × PyData => p.2) = z at hpw hpm
  -- z holds pairs of ints
  obtain ⟨w, rfl⟩ : ∃ w : List Int, z = w.map fun x => (D.int x, PyData.int (o x)) := by
    have hmem : ∀ p ∈ z, ∃ x, p = (D.int x, PyData.int (o x)) := fun p hp' => by
      obtain ⟨x, _, e⟩ := List.mem_map.mp (hpm.mem_iff.mp hp')
      exact ⟨x, e.symm⟩
    clear hpw hpm
    induction z with
    | nil => exact ⟨[], rfl⟩
    | cons p z ih =>
      obtain ⟨w, rfl⟩ := ih fun q hq => hmem q (List.mem_cons_of_mem _ hq)
      obtain ⟨x, rfl⟩ := hmem p List.mem_cons_self
      exact ⟨x :: w, rfl⟩
  have hle : ∀ x y : Int, dataLe false (fun p : D × PyData => p.2) (D.int x, PyData.int (o x)) (D.int y, PyData.int (o y)) = decide (o x ≤ o y) := fun x y => by
    show (!dataLt (.int (o y)) (.int (o x))) = _
    rw [dataLt_int, not_lt_int]
  have hw : w.Pairwise fun a b => o a ≤ o b := by
    rw [List.pairwise_map] at hpw
    exact hpw.imp fun {a b} h => by rw [hle] at h; exact of_decide_eq_true h
  have hwx : w.Perm xs := by
    have h1 := hpm.map (fun p : D × PyData => match p.1 with | .int x => x | _ => 0)
    rw [List.map_map, List.map_map] at h1
    have e : ((fun p : D × PyData => match p.1 with | .int x => x | _ => 0) ∘ fun x : Int => (D.int x, PyData.int (o x))) = id := rfl
    rw [e, List.map_id, List.map_id] at h1
    exact h1
  have hyn : ys.Nodup := hp.imp fun {a b} h e => by subst e; omega
  have hyx : ys.Perm xs := (List.perm_ext_iff_of_nodup hyn hx).mpr hm
  have hwy : w.Perm ys := hwx.trans hyx.symm
  -- unique
  have e : w = ys := by
    have inj : ∀ a b, a ∈ ys → b ∈ ys → o a = o b → a = b := by
      intro a b ha hb hab
      clear hwy hyx hm hyn
      induction hp with
      | nil => simp at ha
      | cons h t ih =>
        rcases List.mem_cons.mp ha with e1 | ha1
        · rcases List.mem_cons.mp hb with e2 | hb1
          · rw [e1, e2]
          · have := h _ hb1; rw [← e1] at this; omega
        · rcases List.mem_cons.mp hb with e2 | hb1
          · have := h _ ha1; rw [← e2] at this; omega
          · exact ih ha1 hb1
    exact hwy.eq_of_pairwise (fun a b ha hb h1 h2 => inj a b (hwy.mem_iff.mp ha) hb (Int.le_antisymm h1 h2)) hw (hp.imp fun {a b} h => Int.le_of_lt h)
  subst e
  rw [List.map_map]
  rfl
theorem sortK_ints {f : Fn} {o : Int → Int} (h : ∀ x s, f [.int x] s = .ok (.int (o x)) s) {i : Nat} {xs ys : List Int} {s : Sto} (hg : s.get i = some (.lst (xs.map .int))) (hx : xs.Nodup) (hp : ys.Pairwise fun a b => o a < o b) (hm : ∀ x, x ∈ ys ↔ x ∈ xs) :
    sortK f (.ref i) s = newL (ys.map .int) s := by
  unfold sortK
  dsimp only
  rw [hg]
  dsimp only
  rw [keysGo_ints h]
  show (if okKeys _ = true then _ else _) = _
  rw [if_pos (okKeys_ints o xs), sortBy_ints hx hp hm]
theorem sorted_ints {i : Nat} {xs ys : List Int} {s : Sto} (hg : s.get i = some (.lst (xs.map .int))) (hp : ys.Pairwise (· ≤ ·)) (hm : xs.Perm ys) : sortedB [.ref i] s = newL (ys.map .int) s := by
  unfold sortedB
  dsimp only
  rw [hg]
  dsimp only
  rw [ints_map]
  dsimp only
  congr 2
  have h1 : (xs.mergeSort fun a b => decide (a ≤ b)).Pairwise (· ≤ ·) := by
    have := List.pairwise_mergeSort (le := fun a b : Int => decide (a ≤ b)) (fun a b c h1 h2 => by simp at *; omega) (fun a b => by simp; omega) xs
    exact this.imp fun h => by simpa using h
  exact ((List.mergeSort_perm xs _).trans hm).eq_of_pairwise (fun a b _ _ => Int.le_antisymm) h1 hp
/-! ### in -/
theorem in_tw (neg : Bool) (x : Int) (w : List Int) (s : Sto) : inD neg (.int x) (tw w) s = .ok (.bl (w.contains x ^^ neg)) s := by
  unfold inD
  have e : items (tw w) s = some (w.map .int) := rfl
  rw [e]
  dsimp only
  have f : (flat (.int x) && (w.map D.int).all flat) = true := by
    rw [List.all_map]
    show (true && _) = true
    rw [Bool.true_and]
    exact List.all_eq_true.mpr fun _ _ => rfl
  have a : ((w.map D.int).any fun z => flatEq z (.int x)) = w.contains x := by
    rw [List.any_map, List.contains_eq_any_beq]
    congr 1
    funext z
    show (z == x) = (x == z)
    rw [Bool.eq_iff_iff, beq_iff_eq, beq_iff_eq]
    exact ⟨Eq.symm, Eq.symm⟩
  rw [f, a]
  rfl
theorem eqD_str (x y : Str) (s : Sto) (hx : PyData.strOk x = true) (hy : PyData.strOk y = true) : eqD (.str x) (.str y) s = .ok (.bl (PyData.eqv (.str x) (.str y))) s := by
  unfold eqD
  have e1 : pyd s 12 (.str x) = some (.str x) := by show (if PyData.strOk x = true then some (PyData.str x) else none) = _; rw [if_pos hx]
  have e2 : pyd s 12 (.str y) = some (.str y) := by show (if PyData.strOk y = true then some (PyData.str y) else none) = _; rw [if_pos hy]
  rw [e1, e2]
theorem neD_str (x y : Str) (s : Sto) (hx : PyData.strOk x = true) (hy : PyData.strOk y = true) : neD (.str x) (.str y) s = .ok (.bl (!PyData.eqv (.str x) (.str y))) s := by
  unfold neD
  have e1 : pyd s 12 (.str x) = some (.str x) := by show (if PyData.strOk x = true then some (PyData.str x) else none) = _; rw [if_pos hx]
  have e2 : pyd s 12 (.str y) = some (.str y) := by show (if PyData.strOk y = true then some (PyData.str y) else none) = _; rw [if_pos hy]
  rw [e1, e2]
end Cs
namespace Cs
open PySem PySem.W
section
variable (env : Env) (s : Sto)
@[simp] theorem i_Enum2 (a : EvA) : iEnum2 a env s = (a env s).bind enW2 := id rfl
@[simp] theorem enW2_t (xs : List D) : enW2 [.tup xs] s = .ok (.its (enumD xs)) s := id rfl
theorem enW2_r {i : Nat} {xs : List D} {s : Sto} (h : s.get i = some (.lst xs)) : enW2 [.ref i] s = .ok (Wk.enl i) s := by
  unfold enW2
  dsimp only
  rw [h]
@[simp] theorem wkS_enl (g : EvG) (b : EvS) (i : Nat) : wkS g b env (Wk.enl i) s = forRd (bodyF g b) (fun s n => enlAt s i n) 1000000 0 env s := id rfl
theorem extend_t {j : Nat} {xs ys : List D} (h : s.get j = some (.lst xs)) (hz : xs.length + ys.length ≤ sizeLine) : extendM2 (.ref j) [.tup ys] s = .ok .non (s.set j (.lst (xs ++ ys))) := by
  unfold extendM2
  dsimp only
  rw [h]
  dsimp only
  rw [if_pos hz]
end
theorem forEnl_inv {b : D → Env → Sto → RS} (P : Nat → Env → Sto → Prop) {i : Nat} {xs : List D} (hP : ∀ k env s, P k env s → s.get i = some (.lst xs)) : ∀ (f k : Nat) (env : Env) (s : Sto), P k env s → xs.length - k < f → k ≤ xs.length →
    (∀ k x env s, xs[k]? = some x → P k env s → ∃ env' s', (b (.tup [.int (k : Nat), x]) env s = .nx env' s' ∨ b (.tup [.int (k : Nat), x]) env s = .ct env' s') ∧ P (k + 1) env' s') →
    ∃ env' s', forRd b (fun s n => enlAt s i n) f k env s = .nx env' s' ∧ P xs.length env' s'
  | 0, k, env, s, _, hf, _, _ => absurd hf (Nat.not_lt_zero _)
  | f + 1, k, env, s, h, hf, hk, hs => by
    by_cases hj : k < xs.length
    · obtain ⟨e1, s1, h1, p1⟩ := hs k xs[k] env s (List.getElem?_eq_getElem hj) h
      obtain ⟨e2, s2, h2, p2⟩ := forEnl_inv P hP f (k + 1) e1 s1 p1 (by omega) (by omega) hs
      refine ⟨e2, s2, ?_, p2⟩
      have hz : enlAt s i k = some (some (.tup [.int (k : Nat), xs[k]])) := by
        unfold enlAt
        rw [hP _ _ _ h]
        dsimp only
        rw [List.getElem?_eq_getElem hj]
      unfold forRd
      rw [hz]
      dsimp only
      rcases h1 with h1 | h1 <;> rw [h1] <;> exact h2
    · refine ⟨env, s, ?_, by rw [show xs.length = k by omega]; exact h⟩
      have hz : enlAt s i k = some none := by
        unfold enlAt
        rw [hP _ _ _ h]
        dsimp only
        rw [List.getElem?_eq_none (by omega)]
      unfold forRd
      rw [hz]
end Cs

/-! ## CsRun6 -/
/-! Evaluation: chains of three, sorted of pairs, len(set(..)), comprehensions of two clauses, pop of a place. -/
namespace Cs
open PySem PySem.W
section
variable (env : Env) (s : Sto)
@[simp] theorem v_Chain3 (f g h : D → D → Sto → R D) (a b c e : Sem) : (xChain3 f g h a b c e).v env s = (a.v env s).bind fun x s => (b.v env s).bind fun y s => (f x y s).bind (chain2 fun _ s => (c.v env s).bind fun w s => (g y w s).bind (chain2 fun _ s => (e.v env s).bind fun u s => h w u s)) := id rfl
@[simp] theorem t_Chain3 (f g h : D → D → Sto → R D) (a b c e : Sem) : (xChain3 f g h a b c e).t env s = ((xChain3 f g h a b c e).v env s).bind fun d s => truth d s := id rfl
@[simp] theorem v_LenSet (a : Sem) : (xLenSet a).v env s = (a.v env s).bind lenSetD := id rfl
@[simp] theorem v_Comp2 (own vs1 : List Nat) (g : EvG) (it : EvI) (g1 : EvG) (it1 : EvI) (e : Sem) : (xComp2 own vs1 g it g1 it1 e).v env s = (it env s).bind fun w s => (goWkL (turnL g it1 g1 e vs1 (wipeE env own)) w s).bind newL := id rfl
@[simp] theorem goWkL_its (f : TurnL) (xs : List D) : goWkL f (.its xs) s = goItsL f xs s := id rfl
end
theorem goItsL_fun {f : TurnL} (F : D → List D) : ∀ (xs : List D) (s : Sto), (∀ x ∈ xs, ∀ s', Le s s' → Ev (f x s') s' (F x)) → Ev (goItsL f xs s) s (xs.flatMap F)
  | [], s, _ => ⟨s, rfl, .refl s⟩
  | x :: xs, s, h => by
    obtain ⟨s1, e1, l1⟩ := h x List.mem_cons_self s (.refl s)
    obtain ⟨s2, e2, l2⟩ := goItsL_fun F xs s1 fun y hy s' hl => h y (List.mem_cons_of_mem _ hy) s' (l1.trans hl)
    refine ⟨s2, ?_, l1.trans l2⟩
    show (f x s).bind _ = _
    rw [e1]
    show (goItsL f xs s1).bind _ = _
    rw [e2, List.flatMap_cons]
    rfl
/-! ### pairs of whole numbers -/
abbrev pr (p : Int × Int) : D := .tup [.int p.1, .int p.2]
def kp (p : Int × Int) : PyData := .tuple [.int p.1, .int p.2]
/-- pairs, sorted -/
def sp (ps : List (Int × Int)) : List (Int × Int) := ps.mergeSort fun a b => dataLe false kp a b
theorem sp_perm (ps : List (Int × Int)) : (sp ps).Perm ps := List.mergeSort_perm _ _
theorem sp_len (ps : List (Int × Int)) : (sp ps).length = ps.length := (sp_perm ps).length_eq
theorem sortBy_pr (ps : List (Int × Int)) : sortBy (ps.map kp) (ps.map pr) = (sp ps).map pr := by
  unfold sortBy sp
  have e : (ps.map pr).zip (ps.map kp) = ps.map fun p => (pr p, kp p) := List.zip_map' ..
  rw [e, ← List.map_mergeSort (r := fun a b => dataLe false kp a b) (f := fun p => (pr p, kp p)) (fun a _ b _ => rfl), List.map_map]
  rfl
theorem okKeys_pr (ps : List (Int × Int)) : okKeys (ps.map kp) = true := by
  have al : ∀ p q : Int × Int, alike (kp p) (kp q) = true := fun p q => by simp [kp, alike, alikeAll]
  unfold okKeys
  rw [Bool.and_eq_true, Bool.or_eq_true]
  refine ⟨?_, .inl ?_⟩
  · simp only [List.all_eq_true, List.mem_map]
    rintro _ ⟨p, _, rfl⟩ _ ⟨q, _, rfl⟩
    exact al p q
  · simp only [List.all_eq_true, List.mem_map]
    rintro _ ⟨p, _, rfl⟩
    rfl
theorem pyd_pr (s : Sto) (k : Nat) (p : Int × Int) : pyd s (k + 1) (pr p) = some (kp p) := by
  show (mapO (pyd s k) [.int p.1, .int p.2]).map PyData.tuple = _
  cases k <;> rfl
theorem mapO_pr (s : Sto) (k : Nat) : ∀ ps : List (Int × Int), mapO (pyd s (k + 1)) (ps.map pr) = some (ps.map kp)
  | [] => rfl
  | p :: ps => by
    rw [List.map_cons]
    unfold mapO
    rw [pyd_pr, mapO_pr s k ps]
    rfl
theorem sorted_tp (ps : List (Int × Int)) (s : Sto) (hz : ps.length ≤ sizeLine) : sortedA [.tup (ps.map pr)] s = .ok (.ref s.n) (s.add (.lst ((sp ps).map pr))) := by
  have : sortedB [.tup (ps.map pr)] s = .no := rfl
  unfold sortedA
  rw [this]
  dsimp only
  unfold sortedG items
  dsimp only
  rw [mapO_pr]
  dsimp only
  rw [okKeys_pr, if_pos rfl, sortBy_pr]
  exact newL_ok' s (by rw [List.length_map, sp_len]; exact hz)
theorem sorted_rp {i : Nat} {ps : List (Int × Int)} {s : Sto} (h : s.get i = some (.lst (ps.map pr))) (hz : ps.length ≤ sizeLine) : sortedA [.ref i] s = .ok (.ref s.n) (s.add (.lst ((sp ps).map pr))) := by
  unfold sortedA
  cases ps with
  | nil =>
    have : sortedB [.ref i] s = .ok (.ref s.n) (s.add (.lst [])) := by
      unfold sortedB
      dsimp only
      rw [h]
      show newL (List.map D.int (([] : List Int).mergeSort _)) s = _
      rw [List.mergeSort_nil]
      exact newL_ok' (xs := []) s (Nat.zero_le _)
    rw [this]
    dsimp only
    rw [show sp [] = [] from List.length_eq_zero_iff.mp (sp_len [])]
    rfl
  | cons p ps =>
    have : sortedB [.ref i] s = .no := by
      unfold sortedB
      dsimp only
      rw [h]
      rfl
    rw [this]
    dsimp only
    unfold sortedG items
    dsimp only
    rw [h]
    dsimp only
    rw [mapO_pr]
    dsimp only
    rw [okKeys_pr, if_pos rfl, sortBy_pr]
    exact newL_ok' s (by rw [List.length_map, sp_len]; exact hz)
/-- whole numbers, sorted -/
def srt (xs : List Int) : List Int := xs.mergeSort fun a b => decide (a ≤ b)
theorem srt_len (xs : List Int) : (srt xs).length = xs.length := (List.mergeSort_perm xs _).length_eq
theorem sorted_ri {i : Nat} {xs : List Int} {s : Sto} (h : s.get i = some (.lst (xs.map .int))) (hz : xs.length ≤ sizeLine) : sortedA [.ref i] s = .ok (.ref s.n) (s.add (.lst ((srt xs).map .int))) := by
  unfold sortedA
  have : sortedB [.ref i] s = .ok (.ref s.n) (s.add (.lst ((srt xs).map .int))) := by
    unfold sortedB
    dsimp only
    rw [h]
    dsimp only
    rw [ints_map]
    exact newL_ok' s (by rw [List.length_map]; exact (srt_len xs).symm ▸ hz)
  rw [this]
theorem eqD_rp {s : Sto} {i j : Nat} {xs ys : List (Int × Int)} (h1 : s.get i = some (.lst (xs.map pr))) (h2 : s.get j = some (.lst (ys.map pr))) : eqD (.ref i) (.ref j) s = .ok (.bl (PyData.eqv (.list (xs.map kp)) (.list (ys.map kp)))) s := by
  have e1 : pyd s 12 (.ref i) = some (.list (xs.map kp)) := by
    unfold pyd
    dsimp only
    rw [h1]
    dsimp only
    rw [mapO_pr]
    rfl
  have e2 : pyd s 12 (.ref j) = some (.list (ys.map kp)) := by
    unfold pyd
    dsimp only
    rw [h2]
    dsimp only
    rw [mapO_pr]
    rfl
  unfold eqD
  rw [e1, e2]
/-! ### len(set(..)) -/
theorem lenSet_r {i : Nat} {ns : List Int} {s : Sto} (h : s.get i = some (.lst (ns.map .int))) (hz : ns.length ≤ 4000) : lenSetD (.ref i) s = .ok (.int (many ns : Nat)) s := by
  unfold lenSetD
  dsimp only
  rw [h]
  dsimp only
  rw [ints_map]
  dsimp only
  rw [if_pos hz]
theorem many_one {ns : List Int} (h : many ns = 1) : ∃ a, ∀ x ∈ ns, x = a := by
  unfold many at h
  obtain ⟨a, ha⟩ := List.length_eq_one_iff.mp h
  refine ⟨a, fun x hx => ?_⟩
  have q := PyProof.Rows.firstMet_any (fun i => ns.getD i 0) ns.length x
  rw [ha] at q
  obtain ⟨j, hj⟩ := List.mem_iff_getElem?.mp hx
  obtain ⟨hl, e⟩ := List.getElem?_eq_some_iff.mp hj
  have : (List.map (fun i => ns.getD i 0) (List.range ns.length)).any (· == x) = true := by
    rw [List.any_eq_true]
    refine ⟨ns.getD j 0, List.mem_map.mpr ⟨j, List.mem_range.mpr hl, rfl⟩, ?_⟩
    rw [List.getD_eq_getElem?_getD, hj]
    simp
  rw [this] at q
  simp at q
  exact q.symm
/-! ### in -/
theorem inA_of {neg : Bool} {x y d : D} {s s' : Sto} (h : inD neg x y s = .ok d s') : inA neg x y s = .ok d s' := by
  unfold inA
  rw [h]
theorem inA_tw (neg : Bool) (x : Int) (w : List Int) (s : Sto) : inA neg (.int x) (tw w) s = .ok (.bl (w.contains x ^^ neg)) s := inA_of (in_tw neg x w s)
/-- a pair in a tuple of pairs -/
theorem inA_pr (neg : Bool) (p : Int × Int) (V : List (Int × Int)) (s : Sto) : inA neg (pr p) (.tup (V.map pr)) s = .ok (.bl (((V.map kp).any fun z => PyData.eqv z (kp p)) ^^ neg)) s := by
  have e1 : inD neg (pr p) (.tup (V.map pr)) s = .no := rfl
  have e2 : pyd s 12 (pr p) = some (kp p) := pyd_pr s 11 p
  have e3 : pyd s 12 (.tup (V.map pr)) = some (.tuple (V.map kp)) := by
    show (mapO (pyd s 11) (V.map pr)).map PyData.tuple = _
    rw [mapO_pr]; rfl
  unfold inA
  rw [e1]
  dsimp only
  unfold inG
  rw [e2, e3]
/-! ### pop -/
theorem pop_at {j k : Nat} {xs : List D} {y : D} {s : Sto} (h : s.get j = some (.lst xs)) (hy : xs[k]? = some y) (hz : xs.length ≤ 1000000) : popM (.ref j) [.int (k : Int)] s = .ok y (s.set j (.lst (xs.eraseIdx k))) := by
  have hk : k < xs.length := (List.getElem?_eq_some_iff.mp hy).1
  unfold popM
  dsimp only
  rw [h]
  dsimp only
  rw [if_pos (by omega)]
  have e : seqIndex? (k : Int) xs.length = some k := by
    unfold seqIndex?
    simp
    omega
  rw [e]
  dsimp only
  rw [hy]
end Cs

/-! ## CsRun7 -/
/-! Evaluation: sorting by the keys of walks, dicts whose keys are tuples of whole numbers. -/
namespace Cs
open PySem PySem.W
/-! ### keys of walks -/
def kw (o : Int → Int) (w : List Int) : PyData := .tuple [.int w.length, .tuple ((w.map o).map .int)]
theorem kpd_w (o : Int → Int) (w : List Int) : kpd (keyD o w) = some (kw o w) := by
  show (intsD ((w.map o).map .int)).map _ = _
  rw [ints_map]
  rfl
theorem eqvAll_ints : ∀ xs ys : List Int, PyData.eqvAll (xs.map .int) (ys.map .int) = decide (xs = ys)
  | [], [] => by simp [PyData.eqvAll]
  | [], _ :: _ => by simp [PyData.eqvAll]
  | _ :: _, [] => by simp [PyData.eqvAll]
  | x :: xs, y :: ys => by
    rw [List.map_cons, List.map_cons]
    unfold PyData.eqvAll
    rw [eqvAll_ints xs ys]
    by_cases h : x = y
    · simp [PyData.eqv, h]
    · simp [PyData.eqv, h]
theorem lexD_lt : ∀ xs ys : List Int, decide (xs < ys) = lexD xs ys
  | [], [] => by simp [lexD]
  | [], _ :: _ => by simp [lexD]
  | _ :: _, [] => by simp [lexD]
  | x :: xs, y :: ys => by
    unfold lexD
    rw [← lexD_lt xs ys]
    by_cases h : x = y
    · rw [if_pos h]; simp [h, List.cons_lt_cons_iff]
    · rw [if_neg h]; simp [h, List.cons_lt_cons_iff]
theorem lexD_self : ∀ a : List Int, lexD a a = false
  | [] => rfl
  | x :: xs => by
    show (if x = x then lexD xs xs else decide (x < x)) = false
    rw [if_pos rfl, lexD_self xs]
def wltO (o : Int → Int) (u v : List Int) : Bool := if u.length = v.length then lexD (u.map o) (v.map o) else decide (u.length < v.length)
theorem dataLt_w (o : Int → Int) (u v : List Int) : dataLt (kw o u) (kw o v) = wltO o u v := by
  unfold kw
  rw [dataLt_pair (by simp [alike]) (by simp only [alike]; exact alike_ints _ _), dataLt_int]
  have e1 : PyData.eqv (.int (u.length : Int)) (.int (v.length : Int)) = decide (u.length = v.length) := by
    simp only [PyData.eqv]
    rw [Bool.eq_iff_iff, beq_iff_eq, decide_eq_true_eq]
    omega
  have e2 : PyData.eqv (.tuple ((u.map o).map .int)) (.tuple ((v.map o).map .int)) = decide (u.map o = v.map o) := by
    rw [← eqvAll_ints]
    simp [PyData.eqv]
  have e3 : dataLt (.tuple ((u.map o).map .int)) (.tuple ((v.map o).map .int)) = lexD (u.map o) (v.map o) := by
    rw [dataLt_tuple, ← lexD_lt]
    exact dataLt_ints _ _
  rw [e1, e2, e3]
  unfold wltO
  by_cases h : u.length = v.length
  · rw [if_pos (decide_eq_true h), if_pos h]
    by_cases g : u.map o = v.map o
    · rw [if_pos (decide_eq_true g), g, lexD_self]
    · rw [if_neg (by simp only [decide_eq_true_eq]; exact g)]
  · rw [if_neg (by simp only [decide_eq_true_eq]; exact h), if_neg h]
    exact decide_eq_decide.mpr (by omega)
theorem okKeys_w (o : Int → Int) (ws : List (List Int)) : okKeys (ws.map (kw o)) = true := by
  have al : ∀ u v : List Int, alike (kw o u) (kw o v) = true := fun u v => by
    unfold kw
    simp only [alike, alikeAll, Bool.and_true, Bool.true_and]
    exact alike_ints _ _
  unfold okKeys
  rw [Bool.and_eq_true, Bool.or_eq_true]
  refine ⟨?_, .inl ?_⟩
  · simp only [List.all_eq_true, List.mem_map]
    rintro _ ⟨p, _, rfl⟩ _ ⟨q, _, rfl⟩
    exact al p q
  · simp only [List.all_eq_true, List.mem_map]
    rintro _ ⟨p, _, rfl⟩
    rfl
section
variable {α : Type} (o : Int → Int) (enc : α → D) (k : α → List Int)
theorem keysGo_w {f : Fn} : ∀ (xs : List α) (s : Sto), (∀ x ∈ xs, ∀ s', Le s s' → Ev (f [enc x] s') s' (keyD o (k x))) → Ev (keysGo f (xs.map enc) s) s ((xs.map k).map (kw o))
  | [], s, _ => .ok _ _
  | x :: xs, s, h => by
    obtain ⟨s1, e1, l1⟩ := h x List.mem_cons_self s (.refl s)
    obtain ⟨s2, e2, l2⟩ := keysGo_w xs s1 fun y hy s' hl => h y (List.mem_cons_of_mem _ hy) s' (l1.trans hl)
    refine ⟨s2, ?_, l1.trans l2⟩
    show (f [enc x] s).bind _ = _
    rw [e1]
    show (match kpd (keyD o (k x)) with
      | some d => (keysGo f (xs.map enc) s1).bind fun ds s => .ok (d :: ds) s
      | none => .no) = _
    rw [kpd_w]
    dsimp only
    rw [e2]
    rfl
theorem sortBy_w (xs : List α) : sortBy ((xs.map k).map (kw o)) (xs.map enc) = (xs.mergeSort fun a b => !wltO o (k b) (k a)).map enc := by
  unfold sortBy
  rw [List.map_map]
  have e : (xs.map enc).zip (xs.map (kw o ∘ k)) = xs.map fun p => (enc p, kw o (k p)) := List.zip_map' ..
  rw [e, ← List.map_mergeSort (r := fun a b => !wltO o (k b) (k a)) (f := fun p => (enc p, kw o (k p))) (fun a _ b _ => ?_), List.map_map]
  · rfl
  · rw [dataLe_eq]
    show _ = (!dataLt (kw o (k b)) (kw o (k a)))
    rw [dataLt_w]
theorem sortK_w {f : Fn} {i : Nat} {xs : List α} {s : Sto} (hg : s.get i = some (.lst (xs.map enc))) (hz : xs.length ≤ sizeLine) (h : ∀ x ∈ xs, ∀ s', Le s s' → Ev (f [enc x] s') s' (keyD o (k x))) :
    ∃ s1, sortK f (.ref i) s = .ok (.ref s1.n) (s1.add (.lst ((xs.mergeSort fun a b => !wltO o (k b) (k a)).map enc))) ∧ Le s s1 := by
  obtain ⟨s1, e1, l1⟩ := keysGo_w o enc k (f := f) xs s h
  refine ⟨s1, ?_, l1⟩
  unfold sortK
  dsimp only
  rw [hg]
  dsimp only
  rw [e1]
  show (if okKeys _ = true then _ else _) = _
  rw [if_pos (okKeys_w o _), sortBy_w]
  exact newL_ok' s1 (by rw [List.length_map, List.length_mergeSort]; exact hz)
end
/-! ### dicts -/
theorem tkey_tw (w : List Int) : tkey (tw w) = some w := ints_map w
section
variable (env : Env) (s : Sto)
theorem v_Get2 (o k z : Sem) : (xGet2 o k z).v env s = (o.v env s).bind fun x s => if isT x s = true then (k.v env s).bind fun y s => (z.v env s).bind fun w s => get2 x y w s else .no := id rfl
theorem g_SubA (o i : Sem) (d : D) : gSubA o i d env s = (o.v env s).bind fun x s => (i.v env s).bind fun y s => (setA x y d s).bind fun _ s => .ok env s := id rfl
theorem v_DictT : xDictT.v env s = .ok (.ref s.n) (s.add (.dct [(.bl false, .non)])) := id rfl
def itemsW (x : D) (s : Sto) : R Wk := match x with
  | .ref i => match dOf s i with
    | some (false, m, kvs) => .ok (.its (kvs.map fun kv => .tup [kv.1, kv.2])) (s.set i (.dct ((.bl true, m) :: kvs)))
    | _ => .no
  | _ => .no
theorem i_Items (a : Sem) : iItems a env s = (a.v env s).bind itemsW := id rfl
theorem ixA_of {x y d : D} {s s' : Sto} (h : ixD x y s = .ok d s') : ixA x y s = .ok d s' := by
  unfold ixA
  rw [h]
theorem ixA_t (xs : List D) (i : Int) {d : D} (h : L2.atI xs i = some d) : ixA (.tup xs) (.int i) s = .ok d s := ixA_of (by rw [ix_t, h]; rfl)
end
/-- a dict of walks and numbers -/
def dW (z : Bool) (acc : List (List Int × Int)) : O := .dct ((.bl z, .non) :: acc.map fun t => (tw t.1, .int t.2))
theorem dOf_W {s : Sto} {i : Nat} {z : Bool} {acc : List (List Int × Int)} (h : s.get i = some (dW z acc)) : dOf s i = some (z, .non, acc.map fun t => (tw t.1, .int t.2)) := by
  unfold dOf
  rw [h]
  rfl
/-- the number of a walk -/
def getT (w : List Int) (acc : List (List Int × Int)) : Int := ((acc.find? fun t => decide (t.1 = w)).map (·.2)).getD 0
def putT (w : List Int) (v : Int) (acc : List (List Int × Int)) : List (List Int × Int) := if (acc.any fun t => decide (t.1 = w)) = true then acc.map (fun t => if t.1 = w then (t.1, v) else t) else acc ++ [(w, v)]
theorem dfind_W (w : List Int) (acc : List (List Int × Int)) : dfind w (acc.map fun t => (tw t.1, .int t.2)) = ((acc.find? fun t => decide (t.1 = w)).map (·.2)).map .int := by
  unfold dfind
  rw [List.find?_map, Option.map_map, Option.map_map]
  have e : ((fun kv : D × D => decide (tkey kv.1 = some w)) ∘ fun t : List Int × Int => (tw t.1, D.int t.2)) = fun t => decide (t.1 = w) := by
    funext t
    show decide (tkey (tw t.1) = some w) = _
    rw [tkey_tw]
    simp
  rw [e]
  rfl
theorem dput_W (w : List Int) (v : Int) (acc : List (List Int × Int)) : dput w (.int v) (acc.map fun t => (tw t.1, .int t.2)) = (putT w v acc).map fun t => (tw t.1, .int t.2) := by
  unfold dput putT
  rw [List.any_map]
  have e : ((fun kv : D × D => decide (tkey kv.1 = some w)) ∘ fun t : List Int × Int => (tw t.1, D.int t.2)) = fun t => decide (t.1 = w) := by
    funext t
    show decide (tkey (tw t.1) = some w) = _
    rw [tkey_tw]
    simp
  rw [e]
  split
  · rw [List.map_map, List.map_map]
    refine List.map_congr_left fun t _ => ?_
    show (if tkey (tw t.1) = some w then (tw t.1, D.int v) else (tw t.1, D.int t.2)) = (tw (if t.1 = w then (t.1, v) else t).1, D.int (if t.1 = w then (t.1, v) else t).2)
    rw [tkey_tw]
    by_cases h : t.1 = w
    · rw [if_pos (by rw [h]), if_pos h]
    · rw [if_neg (by simpa using h), if_neg h]
  · rw [List.map_append]
    rfl
theorem isT_W {s : Sto} {i : Nat} {z : Bool} {acc : List (List Int × Int)} (h : s.get i = some (dW z acc)) : isT (.ref i) s = true := by
  unfold isT
  dsimp only
  rw [dOf_W h]
  rfl
theorem get2_W {s : Sto} {i : Nat} {z : Bool} {acc : List (List Int × Int)} (h : s.get i = some (dW z acc)) (w : List Int) : get2 (.ref i) (tw w) (.int 0) s = .ok (.int (getT w acc)) s := by
  unfold get2
  dsimp only
  rw [dOf_W h, tkey_tw]
  dsimp only
  rw [dfind_W]
  unfold getT
  cases (acc.find? fun t => decide (t.1 = w)) <;> rfl
theorem setA_W {s : Sto} {i : Nat} {acc : List (List Int × Int)} (h : s.get i = some (dW false acc)) (w : List Int) (v : Int) (hz : acc.length < sizeLine) : setA (.ref i) (tw w) (.int v) s = .ok () (s.set i (dW false (putT w v acc))) := by
  unfold setA
  have : setD (.ref i) (tw w) (.int v) s = .no := rfl
  rw [this]
  dsimp only
  unfold setT
  dsimp only
  rw [dOf_W h, tkey_tw]
  dsimp only
  rw [if_pos (by rw [List.length_map]; exact hz), dput_W]
  rfl
theorem ixA_W {s : Sto} {i : Nat} {z : Bool} {acc : List (List Int × Int)} (h : s.get i = some (dW z acc)) {w : List Int} (hw : w ∈ acc.map (·.1)) : ixA (.ref i) (tw w) s = .ok (.int (getT w acc)) s := by
  unfold ixA
  have : ixD (.ref i) (tw w) s = .no := rfl
  rw [this]
  dsimp only
  unfold ixT
  dsimp only
  rw [dOf_W h, tkey_tw]
  dsimp only
  rw [dfind_W]
  obtain ⟨t, ht, e⟩ := List.mem_map.mp hw
  have : (acc.find? fun t => decide (t.1 = w)).isSome = true := by
    rw [List.find?_isSome]
    exact ⟨t, ht, decide_eq_true e⟩
  unfold getT
  cases q : acc.find? fun t => decide (t.1 = w) with
  | none => rw [q] at this; cases this
  | some x => rfl
theorem listA_W {s : Sto} {i : Nat} {z : Bool} {acc : List (List Int × Int)} (h : s.get i = some (dW z acc)) (hz : acc.length ≤ sizeLine) : listA [.ref i] s = .ok (.ref s.n) (s.add (.lst (acc.map fun t => tw t.1))) := by
  unfold listA
  have : listB [.ref i] s = .no := by
    unfold listB items
    dsimp only
    rw [h]
    rfl
  rw [this]
  dsimp only
  unfold listT
  dsimp only
  rw [dOf_W h]
  dsimp only
  rw [if_pos (by rw [List.length_map]; exact hz), List.map_map]
  rfl
/-- a walk and its number -/
abbrev tm (t : List Int × Int) : D := .tup [tw t.1, .int t.2]
theorem itemsW_W {s : Sto} {i : Nat} {acc : List (List Int × Int)} (h : s.get i = some (dW false acc)) : itemsW (.ref i) s = .ok (.its (acc.map tm)) (s.set i (dW true acc)) := by
  unfold itemsW
  dsimp only
  rw [dOf_W h]
  dsimp only
  rw [List.map_map]
  rfl
end Cs

/-! ## CsRun8 -/
/-! Loops over lists that stand for typed data. -/
namespace Cs
open PySem
theorem sz0 : (0 : Nat) ≤ sizeLine := by rw [size_eq]; decide
theorem sz1 : (1 : Nat) ≤ sizeLine := by rw [size_eq]; decide
theorem sz2 : (2 : Nat) ≤ sizeLine := by rw [size_eq]; decide
theorem sz3 : (3 : Nat) ≤ sizeLine := by rw [size_eq]; decide
theorem sz4 : (4 : Nat) ≤ sizeLine := by rw [size_eq]; decide
theorem sz5 : (5 : Nat) ≤ sizeLine := by rw [size_eq]; decide
theorem sz6 : (6 : Nat) ≤ sizeLine := by rw [size_eq]; decide
theorem sz7 : (7 : Nat) ≤ sizeLine := by rw [size_eq]; decide
theorem sz8 : (8 : Nat) ≤ sizeLine := by rw [size_eq]; decide
theorem sz9 : (9 : Nat) ≤ sizeLine := by rw [size_eq]; decide
theorem sz10 : (10 : Nat) ≤ sizeLine := by rw [size_eq]; decide
theorem sz11 : (11 : Nat) ≤ sizeLine := by rw [size_eq]; decide
theorem sz12 : (12 : Nat) ≤ sizeLine := by rw [size_eq]; decide
theorem ext2_rr {j k : Nat} {xs ys : List D} {s : Sto} (h : s.get j = some (.lst xs)) (h2 : s.get k = some (.lst ys)) (hz : xs.length + ys.length ≤ sizeLine) : extendM2 (.ref j) [.ref k] s = .ok .non (s.set j (.lst (xs ++ ys))) := by
  unfold extendM2; dsimp only; rw [h, h2]; dsimp only; rw [if_pos hz]
theorem goIts_enc {α : Type} {f : Turn} (enc : α → D) (F : α → D) : ∀ (xs : List α) (s : Sto), (∀ x ∈ xs, ∀ s', Le s s' → Ev (f (enc x) s') s' (some (F x))) → Ev (goIts f (xs.map enc) s) s (xs.map F)
  | [], s, _ => ⟨s, rfl, .refl s⟩
  | x :: xs, s, h => by
    obtain ⟨s1, e1, l1⟩ := h x List.mem_cons_self s (.refl s)
    obtain ⟨s2, e2, l2⟩ := goIts_enc enc F xs s1 fun y hy s' hl => h y (List.mem_cons_of_mem _ hy) s' (l1.trans hl)
    refine ⟨s2, ?_, l1.trans l2⟩
    rw [List.map_cons]
    unfold goIts
    rw [e1]
    show (goIts f (xs.map enc) s1).bind _ = _
    rw [e2]
    rfl
/-- steps that leave the store as it is -/
theorem goIts_pure {α : Type} {f : Turn} (enc : α → D) (F : α → Option D) : ∀ (xs : List α) (s : Sto), (∀ x ∈ xs, f (enc x) s = .ok (F x) s) → goIts f (xs.map enc) s = .ok (xs.filterMap F) s
  | [], s, _ => rfl
  | x :: xs, s, h => by
    rw [List.map_cons]
    unfold goIts
    rw [h x List.mem_cons_self]
    show (goIts f (xs.map enc) s).bind _ = _
    rw [goIts_pure enc F xs s fun y hy => h y (List.mem_cons_of_mem _ hy)]
    show R.ok (conO (F x) (xs.filterMap F)) s = _
    rw [List.filterMap_cons]
    cases F x <;> rfl
theorem goLive_enc {α : Type} {f : Turn} (enc : α → D) (F : α → D) {i : Nat} {xs : List α} : ∀ (k j : Nat) (s : Sto), i < s.n → s.get i = some (.lst (xs.map enc)) → xs.length - j < k → (∀ x ∈ xs, ∀ s', Le s s' → Ev (f (enc x) s') s' (some (F x))) → Ev (goLive f i k j s) s ((xs.drop j).map F)
  | 0, j, s, _, _, hk, _ => absurd hk (Nat.not_lt_zero _)
  | k + 1, j, s, hi, hg, hk, h => by
    by_cases hj : j < xs.length
    · obtain ⟨s1, e1, l1⟩ := h xs[j] (List.getElem_mem hj) s (.refl s)
      obtain ⟨s2, e2, l2⟩ := goLive_enc enc F k (j + 1) s1 (Nat.lt_of_lt_of_le hi l1.n) (by rw [l1.get i hi, hg]) (by omega) fun y hy s' hl => h y hy s' (l1.trans hl)
      refine ⟨s2, ?_, l1.trans l2⟩
      unfold goLive
      rw [hg]
      dsimp only
      rw [List.getElem?_map, List.getElem?_eq_getElem hj]
      show (f (enc xs[j]) s).bind _ = _
      rw [e1]
      show (goLive f i k (j + 1) s1).bind _ = _
      rw [e2]
      show R.ok (conO (some (F xs[j])) ((xs.drop (j + 1)).map F)) s2 = _
      rw [List.drop_eq_getElem_cons hj, List.map_cons]
      rfl
    · refine ⟨s, ?_, .refl s⟩
      unfold goLive
      rw [hg]
      dsimp only
      rw [List.getElem?_eq_none (by rw [List.length_map]; omega)]
      dsimp only
      rw [List.drop_eq_nil_of_le (by omega)]
      rfl
theorem goWk_live_enc {α : Type} {f : Turn} (enc : α → D) (F : α → D) {i : Nat} {xs : List α} (s : Sto) (hi : i < s.n) (hg : s.get i = some (.lst (xs.map enc))) (hk : xs.length < 1000000) (h : ∀ x ∈ xs, ∀ s', Le s s' → Ev (f (enc x) s') s' (some (F x))) : Ev (goWk f (.live i) s) s (xs.map F) := by
  have := goLive_enc enc F 1000000 0 s hi hg (by omega) h
  rw [List.drop_zero] at this
  exact this
end Cs

namespace K63
open PySem PySem.Spec PyProof.Rows L2 Cs
/-! ### the text -/
def topS (i : Nat) : Stmt := PySem.Challenge.pw_clubsturned_k63_products_and_derivatives.main.body.getD i (.Pass ⟨0, 0, 0, 0⟩)
abbrev s_step_order : Stmt := topS 7
abbrev s_walk_key : Stmt := topS 8
abbrev s_term_key : Stmt := topS 24
abbrev s_chain_from : Stmt := topS 25
abbrev s_straightened : Stmt := topS 9
abbrev s_is_integer : Stmt := topS 12
abbrev s_is_step : Stmt := topS 15
abbrev s_is_a_walk : Stmt := topS 16
abbrev s_is_term : Stmt := topS 21
abbrev s_is_a_chain : Stmt := topS 22
abbrev s_need_chain : Stmt := topS 23
abbrev s_is_letters : Stmt := topS 14
abbrev s_need_letters : Stmt := topS 17
abbrev s_need_two_chains : Stmt := topS 29
abbrev s_added : Stmt := topS 30
abbrev s_derivative_of : Stmt := topS 27
abbrev s_need_number : Stmt := topS 19
abbrev s_need_walk : Stmt := topS 18
abbrev s_derivative : Stmt := topS 32
abbrev s_product_of : Stmt := topS 26
abbrev s_product : Stmt := topS 31
abbrev s__law_straight : Stmt := topS 38
abbrev s__law_take : Stmt := topS 36
abbrev s__law_same : Stmt := topS 43
abbrev s_back_to_walk : Stmt := topS 33
abbrev s__law_order : Stmt := topS 39
abbrev s__law_key : Stmt := topS 40
abbrev s__law_chain : Stmt := topS 44
abbrev s__law_derivative : Stmt := topS 47
abbrev s__law_right : Stmt := topS 48
abbrev s__law_steps : Stmt := topS 37
abbrev s__law_walk : Stmt := topS 41
abbrev s__law_product : Stmt := topS 46
abbrev s__law_clean : Stmt := topS 42
abbrev s__law_drawn_chain : Stmt := topS 45
abbrev s__law_well : Stmt := topS 35
abbrev s_law : Stmt := topS 49
/-! ### what each def means -/
def b_step_order : EvS :=
  (sCons (sIf (xBin (ltI fun i j => decide (j < i)) (xVar 0) (xC (.int 0))) (sCons (sRet (xBin subD (xBin mulD (xC (.int 2)) (xVar 0)) (xC (.int 2))))
  sNil) sNil)
  (sCons (sRet (xBin subD (xBin mulD (xUn negD (xC (.int 2))) (xVar 0)) (xC (.int 1))))
  sNil))
def m_step_order : Fn := fnB 1 1 b_step_order
def e_walk_key_1 : Sem :=
  (xCall m_step_order (aCons (xVar 1) aNil))
def b_walk_key : EvS :=
  (sCons (sRet (xTup (aCons (xBi lenB (aCons (xVar 0) aNil)) (aCons (xBi tupleB (aCons (xComp [1] (gVar 1) (iSeq (xVar 0)) none e_walk_key_1) aNil)) aNil))))
  sNil)
def m_walk_key : Fn := fnB 1 2 b_walk_key
def b_term_key : EvS :=
  (sCons (sRet (xCall m_walk_key (aCons (xBin ixD (xVar 0) (xC (.int 0))) aNil)))
  sNil)
def m_term_key : Fn := fnB 1 1 b_term_key
def e_chain_from_2 : Sem :=
  (xVar 4)
def c_chain_from_2 : Sem :=
  (xBin neD (xBin ixA (xVar 4) (xC (.int 1))) (xC (.int 0)))
def b_chain_from_1 : EvS :=
  (sCons (sAsg (gSubA (xVar 1) (xVar 2)) (xBin addD (xGet2 (xVar 1) (xVar 2) (xC (.int 0))) (xVar 3)))
  sNil)
def b_chain_from : EvS :=
  (sCons (sAsg (gVar 1) xDictT)
  (sCons (sFor (gTup 2 (gsCons (gVar 2) (gsCons (gVar 3) gsNil))) (iSeq (xVar 0)) b_chain_from_1)
  (sCons (sRet (xBi tupleB (aCons (xSortK m_term_key (xComp [4] (gVar 4) (iItems (xVar 1)) (some c_chain_from_2) e_chain_from_2)) aNil)))
  sNil)))
def m_chain_from : Fn := fnB 1 5 b_chain_from
def b_straightened_1 : EvS :=
  (sCons (sIf (xAnd (xBin (ltI fun i j => decide (j < i)) (xBi lenB (aCons (xVar 1) aNil)) (xC (.int 0))) (xBin eqD (xBin ixD (xVar 1) (xUn negD (xC (.int 1)))) (xUn negD (xVar 2)))) (sCons (sExpr (xMeth popM (xVar 1) aNil))
  sNil) (sCons (sExpr (xMeth appendM (xVar 1) (aCons (xVar 2) aNil)))
  sNil))
  sNil)
def b_straightened : EvS :=
  (sCons (sAsg (gVar 1) (xLst aNil))
  (sCons (sFor (gVar 2) (iSeq (xVar 0)) b_straightened_1)
  (sCons (sRet (xBi tupleB (aCons (xVar 1) aNil)))
  sNil)))
def m_straightened : Fn := fnB 1 3 b_straightened
def b_is_integer : EvS :=
  (sCons (sRet (xAnd (xUn (isiD [.int]) (xVar 0)) (xNot (xUn (isiD [.bool]) (xVar 0)))))
  sNil)
def m_is_integer : Fn := fnB 1 1 b_is_integer
def b_is_step : EvS :=
  (sCons (sRet (xAnd (xCall m_is_integer (aCons (xVar 0) aNil)) (xChain (ltI fun i j => decide (i ≤ j)) (ltI fun i j => decide (i ≤ j)) (xC (.int 1)) (xBi absB (aCons (xVar 0) aNil)) (xVar 1))))
  sNil)
def m_is_step : Fn := fnB 2 2 b_is_step
def e_is_a_walk_1 : Sem :=
  (xCall m_is_step (aCons (xVar 2) (aCons (xVar 1) aNil)))
def b_is_a_walk : EvS :=
  (sCons (sRet (xAnd (xUn (isiD [.tuple]) (xVar 0)) (xBi allB (aCons (xComp [2] (gVar 2) (iSeq (xVar 0)) none e_is_a_walk_1) aNil))))
  sNil)
def m_is_a_walk : Fn := fnB 2 3 b_is_a_walk
def b_is_term : EvS :=
  (sCons (sIf (xOr (xNot (xUn (isiD [.tuple]) (xVar 1))) (xOr (xBin neD (xBi lenB (aCons (xVar 1) aNil)) (xC (.int 2))) (xNot (xCall m_is_a_walk (aCons (xBin ixD (xVar 1) (xC (.int 0))) (aCons (xVar 0) aNil)))))) (sCons (sRet (xC (.bl false)))
  sNil) sNil)
  (sCons (sRet (xAnd (xBin eqD (xCall m_straightened (aCons (xBin ixD (xVar 1) (xC (.int 0))) aNil)) (xBin ixD (xVar 1) (xC (.int 0)))) (xAnd (xCall m_is_integer (aCons (xBin ixD (xVar 1) (xC (.int 1))) aNil)) (xBin neD (xBin ixD (xVar 1) (xC (.int 1))) (xC (.int 0))))))
  sNil))
def m_is_term : Fn := fnB 2 2 b_is_term
def e_is_a_chain_3 : Sem :=
  (xBin ltK (xVar 4) (xVar 5))
def e_is_a_chain_2 : Sem :=
  (xCall m_walk_key (aCons (xBin ixD (xVar 2) (xC (.int 0))) aNil))
def e_is_a_chain_1 : Sem :=
  (xCall m_is_term (aCons (xVar 0) (aCons (xVar 2) aNil)))
def b_is_a_chain : EvS :=
  (sCons (sIf (xOr (xNot (xUn (isiD [.tuple]) (xVar 1))) (xNot (xBi allB (aCons (xComp [2] (gVar 2) (iSeq (xVar 1)) none e_is_a_chain_1) aNil)))) (sCons (sRet (xC (.bl false)))
  sNil) sNil)
  (sCons (sAsg (gVar 3) (xComp [2] (gVar 2) (iSeq (xVar 1)) none e_is_a_chain_2))
  (sCons (sRet (xBi allB (aCons (xComp [4, 5] (gTup 2 (gsCons (gVar 4) (gsCons (gVar 5) gsNil))) (iZip2 (aCons (xVar 3) (aCons (xSlc (xVar 3) (oYes (xC (.int 1))) oNo) aNil))) none e_is_a_chain_3) aNil)))
  sNil)))
def m_is_a_chain : Fn := fnB 2 6 b_is_a_chain
def b_need_chain : EvS :=
  (sCons (sIf (xNot (xCall m_is_a_chain (aCons (xVar 0) (aCons (xVar 1) aNil)))) (sCons sNo
  sNil) sNil)
  sNil)
def m_need_chain : Fn := fnB 2 2 b_need_chain
def b_is_letters : EvS :=
  (sCons (sRet (xAnd (xCall m_is_integer (aCons (xVar 0) aNil)) (xChain (ltI fun i j => decide (i ≤ j)) (ltI fun i j => decide (i ≤ j)) (xC (.int 1)) (xVar 0) (xC (.int 4)))))
  sNil)
def m_is_letters : Fn := fnB 1 1 b_is_letters
def b_need_letters : EvS :=
  (sCons (sIf (xNot (xCall m_is_letters (aCons (xVar 0) aNil))) (sCons sNo
  sNil) sNil)
  sNil)
def m_need_letters : Fn := fnB 1 1 b_need_letters
def b_need_two_chains : EvS :=
  (sCons (sExpr (xCall m_need_letters (aCons (xVar 0) aNil)))
  (sCons (sExpr (xCall m_need_chain (aCons (xVar 0) (aCons (xVar 1) aNil))))
  (sCons (sExpr (xCall m_need_chain (aCons (xVar 0) (aCons (xVar 2) aNil))))
  sNil)))
def m_need_two_chains : Fn := fnB 3 3 b_need_two_chains
def b_added : EvS :=
  (sCons (sExpr (xCall m_need_two_chains (aCons (xVar 0) (aCons (xVar 1) (aCons (xVar 2) aNil)))))
  (sCons (sRet (xCall m_chain_from (aCons (xBin addD (xVar 1) (xVar 2)) aNil)))
  sNil))
def m_added : Fn := fnB 3 3 b_added
def b_derivative_of_1 : EvS :=
  (sCons (sIf (xBin eqD (xVar 5) (xVar 1)) (sCons (sExpr (xMeth appendM (xVar 2) (aCons (xTup (aCons (xSlc (xVar 3) oNo (oYes (xVar 4))) (aCons (xC (.int 1)) aNil))) aNil)))
  sNil) sNil)
  (sCons (sIf (xBin eqD (xVar 5) (xUn negD (xVar 1))) (sCons (sExpr (xMeth appendM (xVar 2) (aCons (xTup (aCons (xSlc (xVar 3) oNo (oYes (xBin addD (xVar 4) (xC (.int 1))))) (aCons (xUn negD (xC (.int 1))) aNil))) aNil)))
  sNil) sNil)
  sNil))
def b_derivative_of : EvS :=
  (sCons (sPar 2 3 (aCons (xLst aNil) (aCons (xCall m_straightened (aCons (xVar 0) aNil)) aNil)))
  (sCons (sFor (gTup 2 (gsCons (gVar 4) (gsCons (gVar 5) gsNil))) (iEnum2 (aCons (xVar 3) aNil)) b_derivative_of_1)
  (sCons (sRet (xCall m_chain_from (aCons (xVar 2) aNil)))
  sNil)))
def m_derivative_of : Fn := fnB 2 6 b_derivative_of
def b_need_number : EvS :=
  (sCons (sIf (xOr (xBin (ltI fun i j => decide (i < j)) (xVar 0) (xVar 1)) (xAnd (xBin isnNonD (xVar 2) (xC .non)) (xBin (ltI fun i j => decide (j < i)) (xVar 0) (xVar 2)))) (sCons sNo
  sNil) sNil)
  sNil)
def m_need_number : Fn := fnB 3 3 b_need_number
def b_need_walk : EvS :=
  (sCons (sIf (xNot (xCall m_is_a_walk (aCons (xVar 0) (aCons (xVar 1) aNil)))) (sCons sNo
  sNil) sNil)
  sNil)
def m_need_walk : Fn := fnB 2 2 b_need_walk
def b_derivative : EvS :=
  (sCons (sExpr (xCall m_need_letters (aCons (xVar 0) aNil)))
  (sCons (sExpr (xCall m_need_walk (aCons (xVar 1) (aCons (xVar 0) aNil))))
  (sCons (sExpr (xCall m_need_number (aCons (xVar 2) (aCons (xC (.int 1)) (aCons (xVar 0) aNil)))))
  (sCons (sRet (xCall m_derivative_of (aCons (xVar 1) (aCons (xVar 2) aNil))))
  sNil))))
def m_derivative : Fn := fnB 3 3 b_derivative
def e_product_of_2 : Sem :=
  (xTup (aCons (xCall m_straightened (aCons (xBin addD (xVar 3) (xVar 5)) aNil)) (aCons (xBin mulD (xVar 4) (xVar 6)) aNil)))
def b_product_of_1 : EvS :=
  (sCons (sExpr (xMeth extendM2 (xVar 2) (aCons (xComp [5, 6] (gTup 2 (gsCons (gVar 5) (gsCons (gVar 6) gsNil))) (iSeq (xVar 1)) none e_product_of_2) aNil)))
  sNil)
def b_product_of : EvS :=
  (sCons (sAsg (gVar 2) (xLst aNil))
  (sCons (sFor (gTup 2 (gsCons (gVar 3) (gsCons (gVar 4) gsNil))) (iSeq (xVar 0)) b_product_of_1)
  (sCons (sRet (xCall m_chain_from (aCons (xVar 2) aNil)))
  sNil)))
def m_product_of : Fn := fnB 2 7 b_product_of
def b_product : EvS :=
  (sCons (sExpr (xCall m_need_two_chains (aCons (xVar 0) (aCons (xVar 1) (aCons (xVar 2) aNil)))))
  (sCons (sRet (xCall m_product_of (aCons (xVar 1) (aCons (xVar 2) aNil))))
  sNil))
def m_product : Fn := fnB 3 3 b_product
def b__law_straight_1 : EvS :=
  (sCons (sIf (xAnd (xBin neD (xVar 1) (xLst aNil)) (xBin eqD (xBin ixD (xVar 1) (xUn negD (xC (.int 1)))) (xUn negD (xVar 2)))) (sCons (sExpr (xMeth popM (xVar 1) aNil))
  sNil) (sCons (sExpr (xMeth appendM (xVar 1) (aCons (xVar 2) aNil)))
  sNil))
  sNil)
def b__law_straight : EvS :=
  (sCons (sAsg (gVar 1) (xLst aNil))
  (sCons (sFor (gVar 2) (iSeq (xVar 0)) b__law_straight_1)
  (sCons (sRet (xBi tupleB (aCons (xVar 1) aNil)))
  sNil)))
def m__law_straight : Fn := fnB 1 3 b__law_straight
def b__law_take : EvS :=
  (sCons (sIf (xBin (ltI fun i j => decide (j < i)) (xBin ixD (xVar 0) (xC (.int 0))) (xC (.int 1))) (sCons (sAsg (gVar 2) (xBin modD (xBi intB (aCons (xBin ixD (xVar 0) (xC (.int 0))) aNil)) (xVar 1)))
  (sCons (sAsg (gSub (xVar 0) (xC (.int 0))) (xBin fdivD (xBin ixD (xVar 0) (xC (.int 0))) (xVar 1)))
  (sCons (sRet (xVar 2))
  sNil))) sNil)
  (sCons (sAsg (gSub (xVar 0) (xC (.int 2))) (xBin addD (xBin ixD (xVar 0) (xC (.int 2))) (xC (.int 1))))
  (sCons (sAsg (gVar 3) (xBin modD (xBi intB (aCons (xBin addD (xBin mulD (xBin ixD (xVar 0) (xC (.int 1))) (xC (.int 6364136223846793005))) (xBin mulD (xBin ixD (xVar 0) (xC (.int 2))) (xC (.int 2862933555777941757)))) aNil)) (xBin addD (xBin powD (xC (.int 10)) (xC (.int 29))) (xC (.int 319)))))
  (sCons (sAsg (gVar 3) (xBin modD (xBi intB (aCons (xBin addD (xBin addD (xBin mulD (xVar 3) (xVar 3)) (xBin mulD (xC (.int 1181783497276652981)) (xBin ixD (xVar 0) (xC (.int 2))))) (xBin ixD (xVar 0) (xC (.int 1)))) aNil)) (xBin addD (xBin powD (xC (.int 10)) (xC (.int 31))) (xC (.int 33)))))
  (sCons (sAsg (gVar 3) (xBin fdivD (xBin modD (xBi intB (aCons (xBin addD (xBin mulD (xVar 3) (xVar 3)) (xC (.int 7))) aNil)) (xBin addD (xBin powD (xC (.int 10)) (xC (.int 33))) (xC (.int 61)))) (xC (.int 7919))))
  (sCons (sRet (xBin modD (xBi intB (aCons (xVar 3) aNil)) (xVar 1)))
  sNil))))))
def m__law_take : Fn := fnB 2 4 b__law_take
def e__law_same_1 (r : Fn) : Sem :=
  (xCall r (aCons (xBin ixD (xVar 0) (xVar 2)) (aCons (xBin ixD (xVar 1) (xVar 2)) aNil)))
def b__law_same (r : Fn) : EvS :=
  (sCons (sIf (xUn (isiD [.list, .tuple]) (xVar 1)) (sCons (sIf (xOr (xBin neD (xUn (isiD [.list]) (xVar 0)) (xUn (isiD [.list]) (xVar 1))) (xBin neD (xUn (isiD [.tuple]) (xVar 0)) (xUn (isiD [.tuple]) (xVar 1)))) (sCons (sRet (xC (.bl false)))
  sNil) sNil)
  (sCons (sIf (xBin neD (xBi lenB (aCons (xVar 0) aNil)) (xBi lenB (aCons (xVar 1) aNil))) (sCons (sRet (xC (.bl false)))
  sNil) sNil)
  (sCons (sRet (xBi allB (aCons (xComp [2] (gVar 2) (iRg1 (aCons (xBi lenB (aCons (xVar 1) aNil)) aNil)) none (e__law_same_1 r)) aNil)))
  sNil))) sNil)
  (sCons (sIf (xBin isNonD (xVar 1) (xC .non)) (sCons (sRet (xBin isNonD (xVar 0) (xC .non)))
  sNil) sNil)
  (sCons (sIf (xUn (isiD [.str]) (xVar 1)) (sCons (sRet (xAnd (xUn (isiD [.str]) (xVar 0)) (xBin eqD (xVar 0) (xVar 1))))
  sNil) sNil)
  (sCons (sRet (xAnd (xUn (isiD [.int]) (xVar 0)) (xAnd (xBin eqD (xUn (isiD [.bool]) (xVar 0)) (xUn (isiD [.bool]) (xVar 1))) (xBin eqD (xVar 0) (xVar 1)))))
  sNil))))
def ms__law_same : Nat → Fn
  | 0 => fnNo
  | k + 1 => fnB 2 3 (b__law_same (ms__law_same k))
def m__law_same : Fn := ms__law_same 8
def b_back_to_walk_1 : EvS :=
  (sCons (sExpr (xMeth extendM2 (xVar 2) (aCons (xCall m_product_of (aCons (xCall m_derivative_of (aCons (xVar 1) (aCons (xVar 3) aNil))) (aCons (xTup (aCons (xTup (aCons (xTup aNil) (aCons (xUn negD (xC (.int 1))) aNil))) (aCons (xTup (aCons (xTup (aCons (xVar 3) aNil)) (aCons (xC (.int 1)) aNil))) aNil))) aNil))) aNil)))
  sNil)
def b_back_to_walk : EvS :=
  (sCons (sExpr (xCall m_need_letters (aCons (xVar 0) aNil)))
  (sCons (sExpr (xCall m_need_walk (aCons (xVar 1) (aCons (xVar 0) aNil))))
  (sCons (sAsg (gVar 2) (xLst aNil))
  (sCons (sFor (gVar 3) (iRg2 (aCons (xC (.int 1)) (aCons (xBin addD (xVar 0) (xC (.int 1))) aNil))) b_back_to_walk_1)
  (sCons (sRet (xCall m_chain_from (aCons (xVar 2) aNil)))
  sNil)))))
def m_back_to_walk : Fn := fnB 2 4 b_back_to_walk
def b__law_order : EvS :=
  (sCons (sRet (xIf (xBin (ltI fun i j => decide (j < i)) (xVar 0) (xC (.int 0))) (xBin subD (xBin mulD (xC (.int 2)) (xVar 0)) (xC (.int 2))) (xBin subD (xBin mulD (xUn negD (xC (.int 2))) (xVar 0)) (xC (.int 1)))))
  sNil)
def m__law_order : Fn := fnB 1 1 b__law_order
def e__law_key_1 : Sem :=
  (xCall m__law_order (aCons (xVar 1) aNil))
def b__law_key : EvS :=
  (sCons (sRet (xTup (aCons (xBi lenB (aCons (xVar 0) aNil)) (aCons (xBi tupleB (aCons (xComp [1] (gVar 1) (iSeq (xVar 0)) none e__law_key_1) aNil)) aNil))))
  sNil)
def m__law_key : Fn := fnB 1 2 b__law_key
def e__law_chain_3 : Sem :=
  (xTup (aCons (xVar 2) (aCons (xBin ixA (xVar 1) (xVar 2)) aNil)))
def e__law_chain_2 : Sem :=
  (xVar 2)
def c__law_chain_2 : Sem :=
  (xBin neD (xBin ixA (xVar 1) (xVar 2)) (xC (.int 0)))
def b__law_chain_1 : EvS :=
  (sCons (sAsg (gSubA (xVar 1) (xVar 2)) (xBin addD (xGet2 (xVar 1) (xVar 2) (xC (.int 0))) (xVar 3)))
  sNil)
def b__law_chain : EvS :=
  (sCons (sAsg (gVar 1) xDictT)
  (sCons (sFor (gTup 2 (gsCons (gVar 2) (gsCons (gVar 3) gsNil))) (iSeq (xVar 0)) b__law_chain_1)
  (sCons (sAsg (gVar 4) (xSortK m__law_key (xComp [2] (gVar 2) (iSeq (xBi listA (aCons (xVar 1) aNil))) (some c__law_chain_2) e__law_chain_2)))
  (sCons (sRet (xBi tupleB (aCons (xComp [2] (gVar 2) (iSeq (xVar 4)) none e__law_chain_3) aNil)))
  sNil))))
def m__law_chain : Fn := fnB 1 5 b__law_chain
def e__law_derivative_2 : Sem :=
  (xTup (aCons (xCall m__law_straight (aCons (xBin addD (xTup (aCons (xVar 3) aNil)) (xVar 4)) aNil)) (aCons (xVar 5) aNil)))
def b__law_derivative_1 : EvS :=
  (sCons (sAsg (gVar 2) (xComp [4, 5] (gTup 2 (gsCons (gVar 4) (gsCons (gVar 5) gsNil))) (iSeq (xVar 2)) none e__law_derivative_2))
  (sCons (sIf (xBin eqD (xVar 3) (xVar 1)) (sCons (sExpr (xMeth appendM (xVar 2) (aCons (xTup (aCons (xTup aNil) (aCons (xC (.int 1)) aNil))) aNil)))
  sNil) sNil)
  (sCons (sIf (xBin eqD (xVar 3) (xUn negD (xVar 1))) (sCons (sExpr (xMeth appendM (xVar 2) (aCons (xTup (aCons (xTup (aCons (xVar 3) aNil)) (aCons (xUn negD (xC (.int 1))) aNil))) aNil)))
  sNil) sNil)
  sNil)))
def b__law_derivative : EvS :=
  (sCons (sAsg (gVar 2) (xLst aNil))
  (sCons (sFor (gVar 3) (iSeq (xUn revD (xVar 0))) b__law_derivative_1)
  (sCons (sRet (xCall m__law_chain (aCons (xVar 2) aNil)))
  sNil)))
def m__law_derivative : Fn := fnB 2 6 b__law_derivative
def b__law_right_1 : EvS :=
  (sCons (sAsg (gVar 3) (xCall m__law_derivative (aCons (xVar 1) (aCons (xVar 2) aNil))))
  (sCons (sIf (xNot (xCall m__law_same (aCons (xCall m_derivative (aCons (xVar 0) (aCons (xVar 1) (aCons (xVar 2) aNil)))) (aCons (xVar 3) aNil)))) (sCons (sRet (xC (.bl false)))
  sNil) sNil)
  (sCons (sIf (xNot (xCall m__law_same (aCons (xCallK m_derivative 0 3 [2, 1, 0] aNil (aCons (xVar 2) (aCons (xVar 1) (aCons (xVar 0) aNil)))) (aCons (xVar 3) aNil)))) (sCons (sRet (xC (.bl false)))
  sNil) sNil)
  sNil)))
def b__law_right : EvS :=
  (sCons (sFor (gVar 2) (iRg2 (aCons (xC (.int 1)) (aCons (xBin addD (xVar 0) (xC (.int 1))) aNil))) b__law_right_1)
  (sCons (sAsg (gVar 3) (xCall m__law_chain (aCons (xLst (aCons (xTup (aCons (xCall m__law_straight (aCons (xVar 1) aNil)) (aCons (xC (.int 1)) aNil))) (aCons (xTup (aCons (xTup aNil) (aCons (xUn negD (xC (.int 1))) aNil))) aNil))) aNil)))
  (sCons (sRet (xAnd (xCall m__law_same (aCons (xCall m_back_to_walk (aCons (xVar 0) (aCons (xVar 1) aNil))) (aCons (xVar 3) aNil))) (xCall m__law_same (aCons (xCallK m_back_to_walk 0 2 [1, 0] aNil (aCons (xVar 1) (aCons (xVar 0) aNil))) (aCons (xVar 3) aNil)))))
  sNil)))
def m__law_right : Fn := fnB 2 4 b__law_right
def b__law_steps_1 : EvS :=
  (sCons (sAsg (gVar 1) (xBin addD (xVar 1) (xLst (aCons (xVar 2) (aCons (xUn negD (xVar 2)) aNil)))))
  sNil)
def b__law_steps : EvS :=
  (sCons (sAsg (gVar 1) (xLst aNil))
  (sCons (sFor (gVar 2) (iRg2 (aCons (xC (.int 1)) (aCons (xBin addD (xVar 0) (xC (.int 1))) aNil))) b__law_steps_1)
  (sCons (sRet (xVar 1))
  sNil)))
def m__law_steps : Fn := fnB 1 3 b__law_steps
def e__law_walk_1 : Sem :=
  (xBin ixD (xVar 3) (xCall m__law_take (aCons (xVar 0) (aCons (xBi lenB (aCons (xVar 3) aNil)) aNil))))
def b__law_walk : EvS :=
  (sCons (sAsg (gVar 3) (xCall m__law_steps (aCons (xVar 1) aNil)))
  (sCons (sRet (xBi tupleB (aCons (xComp [4] (gVar 4) (iRg1 (aCons (xVar 2) aNil)) none e__law_walk_1) aNil)))
  sNil))
def m__law_walk : Fn := fnB 3 5 b__law_walk
def e__law_product_2 : Sem :=
  (xTup (aCons (xCall m__law_straight (aCons (xBin addD (xVar 3) (xVar 5)) aNil)) (aCons (xBin mulD (xVar 4) (xVar 6)) aNil)))
def b__law_product_1 : EvS :=
  (sCons (sExpr (xMeth extendM2 (xVar 2) (aCons (xComp [5, 6] (gTup 2 (gsCons (gVar 5) (gsCons (gVar 6) gsNil))) (iSeq (xVar 1)) none e__law_product_2) aNil)))
  sNil)
def b__law_product : EvS :=
  (sCons (sAsg (gVar 2) (xLst aNil))
  (sCons (sFor (gTup 2 (gsCons (gVar 3) (gsCons (gVar 4) gsNil))) (iSeq (xVar 0)) b__law_product_1)
  (sCons (sRet (xCall m__law_chain (aCons (xVar 2) aNil)))
  sNil)))
def m__law_product : Fn := fnB 2 7 b__law_product
def e__law_clean_2 : Sem :=
  (xVar 6)
def c__law_clean_2 : Sem :=
  (xOr (xBin eqD (xVar 3) (xLst aNil)) (xBin neD (xVar 6) (xUn negD (xBin ixD (xVar 3) (xUn negD (xC (.int 1)))))))
def b__law_clean_1 : EvS :=
  (sCons (sAsg (gVar 5) (xComp [6] (gVar 6) (iSeq (xCall m__law_steps (aCons (xVar 1) aNil))) (some c__law_clean_2) e__law_clean_2))
  (sCons (sExpr (xMeth appendM (xVar 3) (aCons (xBin ixD (xVar 5) (xCall m__law_take (aCons (xVar 0) (aCons (xBi lenB (aCons (xVar 5) aNil)) aNil)))) aNil)))
  sNil))
def b__law_clean : EvS :=
  (sCons (sAsg (gVar 3) (xLst aNil))
  (sCons (sFor (gVar 4) (iRg1 (aCons (xVar 2) aNil)) b__law_clean_1)
  (sCons (sRet (xBi tupleB (aCons (xVar 3) aNil)))
  sNil)))
def m__law_clean : Fn := fnB 3 7 b__law_clean
def b__law_drawn_chain_1 : EvS :=
  (sCons (sAsg (gVar 6) (xBin addD (xC (.int 1)) (xBin ixD (xLst (aCons (xCall m__law_take (aCons (xVar 0) (aCons (xC (.int 3)) aNil))) (aCons (xCall m__law_take (aCons (xVar 0) (aCons (xBin powD (xC (.int 10)) (xC (.int 40))) aNil))) aNil))) (xBin fdivD (xCall m__law_take (aCons (xVar 0) (aCons (xC (.int 4)) aNil))) (xC (.int 3))))))
  (sCons (sAsg (gVar 7) (xCall m__law_clean (aCons (xVar 0) (aCons (xVar 1) (aCons (xCall m__law_take (aCons (xVar 0) (aCons (xBin addD (xVar 3) (xC (.int 1))) aNil))) aNil)))))
  (sCons (sExpr (xMeth appendM (xVar 4) (aCons (xTup (aCons (xVar 7) (aCons (xIf (xBin eqD (xCall m__law_take (aCons (xVar 0) (aCons (xC (.int 2)) aNil))) (xC (.int 0))) (xVar 6) (xUn negD (xVar 6))) aNil))) aNil)))
  sNil)))
def b__law_drawn_chain : EvS :=
  (sCons (sAsg (gVar 4) (xLst aNil))
  (sCons (sFor (gVar 5) (iRg1 (aCons (xCall m__law_take (aCons (xVar 0) (aCons (xBin addD (xVar 2) (xC (.int 1))) aNil))) aNil)) b__law_drawn_chain_1)
  (sCons (sRet (xCall m__law_chain (aCons (xVar 4) aNil)))
  sNil)))
def m__law_drawn_chain : Fn := fnB 4 8 b__law_drawn_chain
def b__law_well_1 : EvS :=
  (sCons (sAsg (gVar 3) (xBin modD (xBi intB (aCons (xBin addD (xBin mulD (xVar 3) (xC (.int 48611))) (xBin modD (xBi intB (aCons (xVar 4) aNil)) (xBin addD (xBin powD (xC (.int 10)) (xC (.int 23))) (xC (.int 117))))) aNil)) (xBin addD (xBin powD (xC (.int 10)) (xC (.int 27))) (xC (.int 103)))))
  sNil)
def b__law_well : EvS :=
  (sCons (sAsg (gVar 2) (xBin addD (xBin mulD (xC (.int 13)) (xVar 1)) (xC (.int 7))))
  (sCons (sIf (xBin (ltI fun i j => decide (i < j)) (xVar 1) (xBi lenB (aCons (xVar 0) aNil))) (sCons (sAsg (gVar 2) (xBin ixD (xVar 0) (xVar 1)))
  sNil) sNil)
  (sCons (sAsg (gVar 3) (xBin addD (xC (.int 101)) (xBi lenB (aCons (xVar 0) aNil))))
  (sCons (sFor (gVar 4) (iSeq (xVar 0)) b__law_well_1)
  (sCons (sAsg (gVar 5) (xBin modD (xBi intB (aCons (xBin addD (xBin addD (xBin mulD (xBin modD (xBi intB (aCons (xVar 2) aNil)) (xBin addD (xBin powD (xC (.int 10)) (xC (.int 25))) (xC (.int 13)))) (xC (.int 7793))) (xBin mulD (xC (.int 3)) (xVar 3))) (xVar 1)) aNil)) (xBin addD (xBin powD (xC (.int 10)) (xC (.int 29))) (xC (.int 319)))))
  (sCons (sRet (xLst (aCons (xBi max2B (aCons (xC (.int 1)) (aCons (xBin subD (xVar 2) (xBin powD (xC (.int 10)) (xC (.int 18)))) aNil))) (aCons (xVar 5) (aCons (xC (.int 0)) aNil)))))
  sNil))))))
def m__law_well : Fn := fnB 2 6 b__law_well
def b_law_3 : EvS :=
  (sCons (sIf (xNot (xCall m__law_right (aCons (xVar 3) (aCons (xVar 10) aNil)))) (sCons (sRet (xC (.bl false)))
  sNil) sNil)
  sNil)
def b_law_2 : EvS :=
  (sCons (sIf (xNot (xCall m__law_same (aCons (xCall m_product (aCons (xVar 3) (aCons (xVar 6) (aCons (xVar 7) aNil)))) (aCons (xCall m__law_product (aCons (xVar 6) (aCons (xVar 7) aNil))) aNil)))) (sCons (sRet (xC (.bl false)))
  sNil) sNil)
  sNil)
def b_law_1 : EvS :=
  (sCons (sAsg (gVar 2) (xCall m__law_well (aCons (xVar 0) (aCons (xVar 1) aNil))))
  (sCons (sAsg (gVar 3) (xBin addD (xC (.int 1)) (xCall m__law_take (aCons (xVar 2) (aCons (xC (.int 4)) aNil)))))
  (sCons (sPar 4 5 (aCons (xCall m__law_drawn_chain (aCons (xVar 2) (aCons (xVar 3) (aCons (xC (.int 5)) (aCons (xC (.int 4)) aNil))))) (aCons (xCall m__law_drawn_chain (aCons (xVar 2) (aCons (xVar 3) (aCons (xC (.int 5)) (aCons (xC (.int 4)) aNil))))) aNil)))
  (sCons (sFor (gTup 2 (gsCons (gVar 6) (gsCons (gVar 7) gsNil))) (iSeq (xTup (aCons (xTup (aCons (xVar 4) (aCons (xVar 5) aNil))) (aCons (xTup (aCons (xVar 5) (aCons (xVar 4) aNil))) (aCons (xTup (aCons (xVar 4) (aCons (xTup aNil) aNil))) (aCons (xTup (aCons (xTup aNil) (aCons (xVar 4) aNil))) (aCons (xTup (aCons (xVar 4) (aCons (xTup (aCons (xTup (aCons (xTup aNil) (aCons (xC (.int 1)) aNil))) aNil)) aNil))) aNil))))))) b_law_2)
  (sCons (sIf (xNot (xCall m__law_same (aCons (xCallK m_product 0 3 [2, 1, 0] aNil (aCons (xVar 5) (aCons (xVar 4) (aCons (xVar 3) aNil)))) (aCons (xCall m__law_product (aCons (xVar 4) (aCons (xVar 5) aNil))) aNil)))) (sCons (sRet (xC (.bl false)))
  sNil) sNil)
  (sCons (sPar 8 9 (aCons (xCall m__law_walk (aCons (xVar 2) (aCons (xVar 3) (aCons (xCall m__law_take (aCons (xVar 2) (aCons (xC (.int 17)) aNil))) aNil)))) (aCons (xCall m__law_walk (aCons (xVar 2) (aCons (xVar 3) (aCons (xCall m__law_take (aCons (xVar 2) (aCons (xC (.int 17)) aNil))) aNil)))) aNil)))
  (sCons (sFor (gVar 10) (iSeq (xTup (aCons (xVar 8) (aCons (xVar 9) (aCons (xBin addD (xVar 8) (xVar 9)) (aCons (xTup aNil) aNil)))))) b_law_3)
  (sCons (sPar 11 12 (aCons (xBin addD (xC (.int 1)) (xCall m__law_take (aCons (xVar 2) (aCons (xVar 3) aNil)))) (aCons (xTup (aCons (xTup (aCons (xCall m__law_straight (aCons (xVar 8) aNil)) (aCons (xC (.int 1)) aNil))) aNil)) aNil)))
  (sCons (sAsg (gVar 13) (xCall m_product (aCons (xVar 3) (aCons (xVar 12) (aCons (xCall m_derivative (aCons (xVar 3) (aCons (xVar 9) (aCons (xVar 11) aNil)))) aNil)))))
  (sCons (sIf (xBin neD (xCall m_added (aCons (xVar 3) (aCons (xCall m_derivative (aCons (xVar 3) (aCons (xVar 8) (aCons (xVar 11) aNil)))) (aCons (xVar 13) aNil)))) (xCall m_derivative (aCons (xVar 3) (aCons (xBin addD (xVar 8) (xVar 9)) (aCons (xVar 11) aNil))))) (sCons (sRet (xC (.bl false)))
  sNil) sNil)
  sNil))))))))))
def b_law : EvS :=
  (sCons (sFor (gVar 1) (iRg1 (aCons (xBi max2B (aCons (xC (.int 1)) (aCons (xBi min2B (aCons (xC (.int 4)) (aCons (xBi lenB (aCons (xVar 0) aNil)) aNil))) aNil))) aNil)) b_law_1)
  (sCons (sRet (xC (.bl true)))
  sNil))
def m_law : Fn := fnB 1 14 b_law
/-! ### what the top owes -/
structure Tx (g : Gb) : Prop where
  b_abs : g.mg ("abs" : Str) = none
  b_all : g.mg ("all" : Str) = none
  b_bool : g.mg ("bool" : Str) = none
  b_enumerate : g.mg ("enumerate" : Str) = none
  b_int : g.mg ("int" : Str) = none
  b_isinstance : g.mg ("isinstance" : Str) = none
  b_len : g.mg ("len" : Str) = none
  b_list : g.mg ("list" : Str) = none
  b_max : g.mg ("max" : Str) = none
  b_min : g.mg ("min" : Str) = none
  b_range : g.mg ("range" : Str) = none
  b_sorted : g.mg ("sorted" : Str) = none
  b_str : g.mg ("str" : Str) = none
  b_tuple : g.mg ("tuple" : Str) = none
  b_zip : g.mg ("zip" : Str) = none
  k_MOST_LETTERS : ∃ t, g.mg ("MOST_LETTERS" : Str) = some (.int 4 t)
  f_step_order : ∃ f fd, g.mg ("step_order" : Str) = some (.ref f) ∧ Fun g.K "step_order" "step_order" s_step_order f fd
  f_walk_key : ∃ f fd, g.mg ("walk_key" : Str) = some (.ref f) ∧ Fun g.K "walk_key" "walk_key" s_walk_key f fd
  f_term_key : ∃ f fd, g.mg ("term_key" : Str) = some (.ref f) ∧ Fun g.K "term_key" "term_key" s_term_key f fd
  f_chain_from : ∃ f fd, g.mg ("chain_from" : Str) = some (.ref f) ∧ Fun g.K "chain_from" "chain_from" s_chain_from f fd
  f_straightened : ∃ f fd, g.mg ("straightened" : Str) = some (.ref f) ∧ Fun g.K "straightened" "straightened" s_straightened f fd
  f_is_integer : ∃ f fd, g.mg ("is_integer" : Str) = some (.ref f) ∧ Fun g.K "is_integer" "is_integer" s_is_integer f fd
  f_is_step : ∃ f fd, g.mg ("is_step" : Str) = some (.ref f) ∧ Fun g.K "is_step" "is_step" s_is_step f fd
  f_is_a_walk : ∃ f fd, g.mg ("is_a_walk" : Str) = some (.ref f) ∧ Fun g.K "is_a_walk" "is_a_walk" s_is_a_walk f fd
  f_is_term : ∃ f fd, g.mg ("is_term" : Str) = some (.ref f) ∧ Fun g.K "is_term" "is_term" s_is_term f fd
  f_is_a_chain : ∃ f fd, g.mg ("is_a_chain" : Str) = some (.ref f) ∧ Fun g.K "is_a_chain" "is_a_chain" s_is_a_chain f fd
  f_need_chain : ∃ f fd, g.mg ("need_chain" : Str) = some (.ref f) ∧ Fun g.K "need_chain" "need_chain" s_need_chain f fd
  f_is_letters : ∃ f fd, g.mg ("is_letters" : Str) = some (.ref f) ∧ Fun g.K "is_letters" "is_letters" s_is_letters f fd
  f_need_letters : ∃ f fd, g.mg ("need_letters" : Str) = some (.ref f) ∧ Fun g.K "need_letters" "need_letters" s_need_letters f fd
  f_need_two_chains : ∃ f fd, g.mg ("need_two_chains" : Str) = some (.ref f) ∧ Fun g.K "need_two_chains" "need_two_chains" s_need_two_chains f fd
  f_added : ∃ f fd, g.mg ("added" : Str) = some (.ref f) ∧ Fun g.K "added" "added" s_added f fd
  f_derivative_of : ∃ f fd, g.mg ("derivative_of" : Str) = some (.ref f) ∧ Fun g.K "derivative_of" "derivative_of" s_derivative_of f fd
  f_need_number : ∃ f fd, g.mg ("need_number" : Str) = some (.ref f) ∧ Fun g.K "need_number" "need_number" s_need_number f fd
  f_need_walk : ∃ f fd, g.mg ("need_walk" : Str) = some (.ref f) ∧ Fun g.K "need_walk" "need_walk" s_need_walk f fd
  f_derivative : ∃ f fd, g.mg ("derivative" : Str) = some (.ref f) ∧ Fun g.K "derivative" "derivative" s_derivative f fd
  f_product_of : ∃ f fd, g.mg ("product_of" : Str) = some (.ref f) ∧ Fun g.K "product_of" "product_of" s_product_of f fd
  f_product : ∃ f fd, g.mg ("product" : Str) = some (.ref f) ∧ Fun g.K "product" "product" s_product f fd
  f__law_straight : ∃ f fd, g.mg ("_law_straight" : Str) = some (.ref f) ∧ Fun g.K "_law_straight" "_law_straight" s__law_straight f fd
  f__law_take : ∃ f fd, g.mg ("_law_take" : Str) = some (.ref f) ∧ Fun g.K "_law_take" "_law_take" s__law_take f fd
  f__law_same : ∃ f fd, g.mg ("_law_same" : Str) = some (.ref f) ∧ Fun g.K "_law_same" "_law_same" s__law_same f fd
  f_back_to_walk : ∃ f fd, g.mg ("back_to_walk" : Str) = some (.ref f) ∧ Fun g.K "back_to_walk" "back_to_walk" s_back_to_walk f fd
  f__law_order : ∃ f fd, g.mg ("_law_order" : Str) = some (.ref f) ∧ Fun g.K "_law_order" "_law_order" s__law_order f fd
  f__law_key : ∃ f fd, g.mg ("_law_key" : Str) = some (.ref f) ∧ Fun g.K "_law_key" "_law_key" s__law_key f fd
  f__law_chain : ∃ f fd, g.mg ("_law_chain" : Str) = some (.ref f) ∧ Fun g.K "_law_chain" "_law_chain" s__law_chain f fd
  f__law_derivative : ∃ f fd, g.mg ("_law_derivative" : Str) = some (.ref f) ∧ Fun g.K "_law_derivative" "_law_derivative" s__law_derivative f fd
  f__law_right : ∃ f fd, g.mg ("_law_right" : Str) = some (.ref f) ∧ Fun g.K "_law_right" "_law_right" s__law_right f fd
  f__law_steps : ∃ f fd, g.mg ("_law_steps" : Str) = some (.ref f) ∧ Fun g.K "_law_steps" "_law_steps" s__law_steps f fd
  f__law_walk : ∃ f fd, g.mg ("_law_walk" : Str) = some (.ref f) ∧ Fun g.K "_law_walk" "_law_walk" s__law_walk f fd
  f__law_product : ∃ f fd, g.mg ("_law_product" : Str) = some (.ref f) ∧ Fun g.K "_law_product" "_law_product" s__law_product f fd
  f__law_clean : ∃ f fd, g.mg ("_law_clean" : Str) = some (.ref f) ∧ Fun g.K "_law_clean" "_law_clean" s__law_clean f fd
  f__law_drawn_chain : ∃ f fd, g.mg ("_law_drawn_chain" : Str) = some (.ref f) ∧ Fun g.K "_law_drawn_chain" "_law_drawn_chain" s__law_drawn_chain f fd
  f__law_well : ∃ f fd, g.mg ("_law_well" : Str) = some (.ref f) ∧ Fun g.K "_law_well" "_law_well" s__law_well f fd
  f_law : ∃ f fd, g.mg ("law" : Str) = some (.ref f) ∧ Fun g.K "law" "law" s_law f fd
theorem Tx.c_MOST_LETTERS {g : Gb} (T : Tx g) {c : Cc} {pos : Pos} (h : c.sc.names.lookup ("MOST_LETTERS" : Str) = some .globalImplicit) : JE g c (xC (.int 4)) (.Name "MOST_LETTERS" pos) := by
  obtain ⟨t, e⟩ := T.k_MOST_LETTERS
  exact je_glob (v := V.int 4) h e ⟨t, rfl⟩ (fun _ _ => .int _)
/-! ### the derivations -/
theorem j_step_order {g : Gb} (T : Tx g) : JSs g ⟨["step"], defScope s_step_order, fun _ => true, 0⟩ b_step_order (defBody s_step_order) :=
  (js_cons (js_if (je_cmp (fun X ok => op_ltI ok.K op_gt) ltI_bl (je_var 0) je_int) (js_cons (js_ret (je_bin (fun X ok => op_subD ok.K) (je_bin (fun X ok => op_mulD ok.K) je_int (je_var 0)) je_int))
  js_nil) js_nil)
  (js_cons (js_ret (je_bin (fun X ok => op_subD ok.K) (je_bin (fun X ok => op_mulD ok.K) (je_un (fun X ok => op_negD ok.K) je_int) (je_var 0)) je_int))
  js_nil))
theorem j_walk_key {g : Gb} (T : Tx g) (F_step_order : FnS g 1 "step_order" ["step"] m_step_order) : JSs g ⟨["walk", "step"], defScope s_walk_key, fun _ => true, 1⟩ b_walk_key (defBody s_walk_key) :=
  (js_cons (js_ret (je_tup (ja_cons (je_bi (fun X ok => cr_lenD ok.K) (by rfl) T.b_len (by decide +kernel) (ja_cons (je_var 0) ja_nil)) (ja_cons (je_ty (fun X ok => cr_tupleD ok.K) (by rfl) T.b_tuple (by decide +kernel) (ja_cons (je_comp [(("step" : Str), 1)] (by decide +kernel) (JI.t (ji_seq (je_var 0))) (jg_var 1) (by decide) jt_no (je_call F_step_order (by decide) (by rfl) (ja_cons (je_var 1) ja_nil))) ja_nil)) ja_nil))))
  js_nil)
theorem j_term_key {g : Gb} (T : Tx g) (F_walk_key : FnS g 2 "walk_key" ["walk"] m_walk_key) : JSs g ⟨["term"], defScope s_term_key, fun _ => true, 2⟩ b_term_key (defBody s_term_key) :=
  (js_cons (js_ret (je_call F_walk_key (by decide) (by rfl) (ja_cons (je_ix (je_var 0) je_int) ja_nil)))
  js_nil)
theorem j_chain_from {g : Gb} (T : Tx g) (F_term_key : FnS g 3 "term_key" ["term"] m_term_key) : JSs g ⟨["terms", "found", "walk", "number", "term"], defScope s_chain_from, fun _ => true, 5⟩ b_chain_from (defBody s_chain_from) :=
  (js_cons (js_asg je_dictT (jg_var 1))
  (js_cons (js_for (JI.t (ji_seq (je_var 0))) (jg_tup (jgs_cons (jg_var 2) (jgs_cons (jg_var 3) jgs_nil))) (js_cons (js_asg (je_bin (fun X ok => op_addD ok.K) (je_get2 (je_var 1) (je_var 2) je_int) (je_var 3)) (jg_subA (je_var 1) (je_var 2)))
  js_nil))
  (js_cons (js_ret (je_ty (fun X ok => cr_tupleD ok.K) (by rfl) T.b_tuple (by decide +kernel) (ja_cons (je_sortK F_term_key (by decide) rfl (by rfl) (by rfl) T.b_sorted (je_comp [(("term" : Str), 4)] (by decide +kernel) (ji_items (je_var 1)) (jg_var 4) (by decide) (jt_one (je_cmp (fun X ok => op_neDD ok.K ok.room.units) neD_bl (je_ixA (je_var 4) je_int) je_int)) (je_var 4))) ja_nil)))
  js_nil)))
theorem j_straightened {g : Gb} (T : Tx g) : JSs g ⟨["walk", "found", "step"], defScope s_straightened, fun _ => true, 0⟩ b_straightened (defBody s_straightened) :=
  (js_cons (js_asg (je_lst ja_nil) (jg_var 1))
  (js_cons (js_for (JI.t (ji_seq (je_var 0))) (jg_var 2) (js_cons (js_if (je_bool (jw_and (je_cmp (fun X ok => op_ltI ok.K op_gt) ltI_bl (je_bi (fun X ok => cr_lenD ok.K) (by rfl) T.b_len (by decide +kernel) (ja_cons (je_var 1) ja_nil)) je_int) (jw_and1 (je_cmp (fun X ok => op_eqDD ok.K ok.room.units) eqD_bl (je_ix (je_var 1) (je_un (fun X ok => op_negD ok.K) je_int)) (je_un (fun X ok => op_negD ok.K) (je_var 2)))))) (js_cons (js_expr (je_bm0 PySem.F.slot_list_pop PySem.F.type_list_pop (fun X ok => mt_popD ok.K) (je_var 1)))
  js_nil) (js_cons (js_expr (je_bm PySem.F.slot_list_append PySem.F.type_list_append (fun X ok => mt_appendD ok.K) (je_var 1) (ja_cons (je_var 2) ja_nil)))
  js_nil))
  js_nil))
  (js_cons (js_ret (je_ty (fun X ok => cr_tupleD ok.K) (by rfl) T.b_tuple (by decide +kernel) (ja_cons (je_var 1) ja_nil)))
  js_nil)))
theorem j_is_integer {g : Gb} (T : Tx g) : JSs g ⟨["value"], defScope s_is_integer, fun _ => true, 0⟩ b_is_integer (defBody s_is_integer) :=
  (js_cons (js_ret (je_bool (jw_and (je_isi (t := .int) rfl (by rfl) T.b_isinstance (by rfl) T.b_int (je_var 0)) (jw_and1 (je_not (je_isi (t := .bool) rfl (by rfl) T.b_isinstance (by rfl) T.b_bool (je_var 0)))))))
  js_nil)
theorem j_is_step {g : Gb} (T : Tx g) (F_is_integer : FnS g 1 "is_integer" ["value"] m_is_integer) : JSs g ⟨["value", "letters"], defScope s_is_step, fun _ => true, 1⟩ b_is_step (defBody s_is_step) :=
  (js_cons (js_ret (je_bool (jw_and (je_call F_is_integer (by decide) (by rfl) (ja_cons (je_var 0) ja_nil)) (jw_and1 (je_chain (fun X ok => op_ltI ok.K op_le) (fun X ok => op_ltI ok.K op_le) ltI_bl ltI_bl je_int (je_bi (fun X ok => cr_absD ok.K) (by rfl) T.b_abs (by decide +kernel) (ja_cons (je_var 0) ja_nil)) (je_var 1))))))
  js_nil)
theorem j_is_a_walk {g : Gb} (T : Tx g) (F_is_step : FnS g 2 "is_step" ["value", "letters"] m_is_step) : JSs g ⟨["value", "letters", "step"], defScope s_is_a_walk, fun _ => true, 2⟩ b_is_a_walk (defBody s_is_a_walk) :=
  (js_cons (js_ret (je_bool (jw_and (je_isi (t := .tuple) rfl (by rfl) T.b_isinstance (by rfl) T.b_tuple (je_var 0)) (jw_and1 (je_bi (fun X ok => cr_allD ok.K ok.calm) (by rfl) T.b_all (by decide +kernel) (ja_cons (je_comp [(("step" : Str), 2)] (by decide +kernel) (JI.t (ji_seq (je_var 0))) (jg_var 2) (by decide) jt_no (je_call F_is_step (by decide) (by rfl) (ja_cons (je_var 2) (ja_cons (je_var 1) ja_nil)))) ja_nil))))))
  js_nil)
theorem j_is_term {g : Gb} (T : Tx g) (F_straightened : FnS g 1 "straightened" ["walk"] m_straightened) (F_is_integer : FnS g 1 "is_integer" ["value"] m_is_integer) (F_is_a_walk : FnS g 3 "is_a_walk" ["value", "letters"] m_is_a_walk) : JSs g ⟨["letters", "value"], defScope s_is_term, fun _ => true, 3⟩ b_is_term (defBody s_is_term) :=
  (js_cons (js_if (je_bool (jw_or (je_not (je_isi (t := .tuple) rfl (by rfl) T.b_isinstance (by rfl) T.b_tuple (je_var 1))) (jw_or (je_cmp (fun X ok => op_neDD ok.K ok.room.units) neD_bl (je_bi (fun X ok => cr_lenD ok.K) (by rfl) T.b_len (by decide +kernel) (ja_cons (je_var 1) ja_nil)) je_int) (jw_or1 (je_not (je_call F_is_a_walk (by decide) (by rfl) (ja_cons (je_ix (je_var 1) je_int) (ja_cons (je_var 0) ja_nil)))))))) (js_cons (js_ret je_bl)
  js_nil) js_nil)
  (js_cons (js_ret (je_bool (jw_and (je_cmp (fun X ok => op_eqDD ok.K ok.room.units) eqD_bl (je_call F_straightened (by decide) (by rfl) (ja_cons (je_ix (je_var 1) je_int) ja_nil)) (je_ix (je_var 1) je_int)) (jw_and (je_call F_is_integer (by decide) (by rfl) (ja_cons (je_ix (je_var 1) je_int) ja_nil)) (jw_and1 (je_cmp (fun X ok => op_neDD ok.K ok.room.units) neD_bl (je_ix (je_var 1) je_int) je_int))))))
  js_nil))
theorem j_is_a_chain {g : Gb} (T : Tx g) (F_walk_key : FnS g 2 "walk_key" ["walk"] m_walk_key) (F_is_term : FnS g 4 "is_term" ["letters", "value"] m_is_term) : JSs g ⟨["letters", "value", "part", "keys", "one", "other"], defScope s_is_a_chain, fun _ => true, 4⟩ b_is_a_chain (defBody s_is_a_chain) :=
  (js_cons (js_if (je_bool (jw_or (je_not (je_isi (t := .tuple) rfl (by rfl) T.b_isinstance (by rfl) T.b_tuple (je_var 1))) (jw_or1 (je_not (je_bi (fun X ok => cr_allD ok.K ok.calm) (by rfl) T.b_all (by decide +kernel) (ja_cons (je_comp [(("part" : Str), 2)] (by decide +kernel) (JI.t (ji_seq (je_var 1))) (jg_var 2) (by decide) jt_no (je_call F_is_term (by decide) (by rfl) (ja_cons (je_var 0) (ja_cons (je_var 2) ja_nil)))) ja_nil)))))) (js_cons (js_ret je_bl)
  js_nil) js_nil)
  (js_cons (js_setLc 3 [(("part" : Str), 2)] (by decide +kernel) (JI.t (ji_seq (je_var 1))) (jg_var 2) (by decide) jt_no (je_call F_walk_key (by decide) (by rfl) (ja_cons (je_ix (je_var 2) je_int) ja_nil)) rfl (by rfl) rfl (by rfl) rfl (by decide +kernel))
  (js_cons (js_ret (je_bi (fun X ok => cr_allD ok.K ok.calm) (by rfl) T.b_all (by decide +kernel) (ja_cons (je_comp [(("one" : Str), 4), (("other" : Str), 5)] (by decide +kernel) (ji_zip (by rfl) T.b_zip (ja_cons (je_var 3) (ja_cons (je_slc (je_var 3) (jo_yes je_int) jo_no) ja_nil))) (jg_tup (jgs_cons (jg_var 4) (jgs_cons (jg_var 5) jgs_nil))) (by decide) jt_no (je_cmp (fun X ok => op_ltK ok.K ok.room.units) ltK_bl (je_var 4) (je_var 5))) ja_nil)))
  js_nil)))
theorem j_need_chain {g : Gb} (T : Tx g) (F_is_a_chain : FnS g 5 "is_a_chain" ["letters", "value"] m_is_a_chain) : JSs g ⟨["letters", "chain"], defScope s_need_chain, fun _ => true, 5⟩ b_need_chain (defBody s_need_chain) :=
  (js_cons (js_if (je_not (je_call F_is_a_chain (by decide) (by rfl) (ja_cons (je_var 0) (ja_cons (je_var 1) ja_nil)))) (js_cons js_no
  js_nil) js_nil)
  js_nil)
theorem j_is_letters {g : Gb} (T : Tx g) (F_is_integer : FnS g 1 "is_integer" ["value"] m_is_integer) : JSs g ⟨["value"], defScope s_is_letters, fun _ => true, 1⟩ b_is_letters (defBody s_is_letters) :=
  (js_cons (js_ret (je_bool (jw_and (je_call F_is_integer (by decide) (by rfl) (ja_cons (je_var 0) ja_nil)) (jw_and1 (je_chain (fun X ok => op_ltI ok.K op_le) (fun X ok => op_ltI ok.K op_le) ltI_bl ltI_bl je_int (je_var 0) (T.c_MOST_LETTERS (by rfl)))))))
  js_nil)
theorem j_need_letters {g : Gb} (T : Tx g) (F_is_letters : FnS g 2 "is_letters" ["value"] m_is_letters) : JSs g ⟨["letters"], defScope s_need_letters, fun _ => true, 2⟩ b_need_letters (defBody s_need_letters) :=
  (js_cons (js_if (je_not (je_call F_is_letters (by decide) (by rfl) (ja_cons (je_var 0) ja_nil))) (js_cons js_no
  js_nil) js_nil)
  js_nil)
theorem j_need_two_chains {g : Gb} (T : Tx g) (F_need_chain : FnS g 6 "need_chain" ["letters", "chain"] m_need_chain) (F_need_letters : FnS g 3 "need_letters" ["letters"] m_need_letters) : JSs g ⟨["letters", "one", "other"], defScope s_need_two_chains, fun _ => true, 6⟩ b_need_two_chains (defBody s_need_two_chains) :=
  (js_cons (js_expr (je_call F_need_letters (by decide) (by rfl) (ja_cons (je_var 0) ja_nil)))
  (js_cons (js_expr (je_call F_need_chain (by decide) (by rfl) (ja_cons (je_var 0) (ja_cons (je_var 1) ja_nil))))
  (js_cons (js_expr (je_call F_need_chain (by decide) (by rfl) (ja_cons (je_var 0) (ja_cons (je_var 2) ja_nil))))
  js_nil)))
theorem j_added {g : Gb} (T : Tx g) (F_chain_from : FnS g 6 "chain_from" ["terms"] m_chain_from) (F_need_two_chains : FnS g 7 "need_two_chains" ["letters", "one", "other"] m_need_two_chains) : JSs g ⟨["letters", "one", "other"], defScope s_added, fun _ => true, 7⟩ b_added (defBody s_added) :=
  (js_cons (js_expr (je_call F_need_two_chains (by decide) (by rfl) (ja_cons (je_var 0) (ja_cons (je_var 1) (ja_cons (je_var 2) ja_nil)))))
  (js_cons (js_ret (je_call F_chain_from (by decide) (by rfl) (ja_cons (je_bin (fun X ok => op_addD ok.K) (je_var 1) (je_var 2)) ja_nil)))
  js_nil))
theorem j_derivative_of {g : Gb} (T : Tx g) (F_chain_from : FnS g 6 "chain_from" ["terms"] m_chain_from) (F_straightened : FnS g 1 "straightened" ["walk"] m_straightened) : JSs g ⟨["walk", "letter", "rows", "straight", "place", "step"], defScope s_derivative_of, fun _ => true, 6⟩ b_derivative_of (defBody s_derivative_of) :=
  (js_cons (js_par (i := 2) (j := 3) rfl rfl (by decide) (by rfl) (by rfl) (ja_cons (je_lst ja_nil) (ja_cons (je_call F_straightened (by decide) (by rfl) (ja_cons (je_var 0) ja_nil)) ja_nil)) (by rintro ⟨⟩ rfl; rfl))
  (js_cons (js_for (ji_enum2 (by rfl) T.b_enumerate (ja_cons (je_var 3) ja_nil)) (jg_tup (jgs_cons (jg_var 4) (jgs_cons (jg_var 5) jgs_nil))) (js_cons (js_if (je_cmp (fun X ok => op_eqDD ok.K ok.room.units) eqD_bl (je_var 5) (je_var 1)) (js_cons (js_expr (je_bm PySem.F.slot_list_append PySem.F.type_list_append (fun X ok => mt_appendD ok.K) (je_var 2) (ja_cons (je_tup (ja_cons (je_slc (je_var 3) jo_no (jo_yes (je_var 4))) (ja_cons je_int ja_nil))) ja_nil)))
  js_nil) js_nil)
  (js_cons (js_if (je_cmp (fun X ok => op_eqDD ok.K ok.room.units) eqD_bl (je_var 5) (je_un (fun X ok => op_negD ok.K) (je_var 1))) (js_cons (js_expr (je_bm PySem.F.slot_list_append PySem.F.type_list_append (fun X ok => mt_appendD ok.K) (je_var 2) (ja_cons (je_tup (ja_cons (je_slc (je_var 3) jo_no (jo_yes (je_bin (fun X ok => op_addD ok.K) (je_var 4) je_int))) (ja_cons (je_un (fun X ok => op_negD ok.K) je_int) ja_nil))) ja_nil)))
  js_nil) js_nil)
  js_nil)))
  (js_cons (js_ret (je_call F_chain_from (by decide) (by rfl) (ja_cons (je_var 2) ja_nil)))
  js_nil)))
theorem j_need_number {g : Gb} (T : Tx g) : JSs g ⟨["number", "low", "high"], defScope s_need_number, fun _ => true, 0⟩ b_need_number (defBody s_need_number) :=
  (js_cons (js_if (je_bool (jw_or (je_cmp (fun X ok => op_ltI ok.K op_lt) ltI_bl (je_var 0) (je_var 1)) (jw_or1 (je_bool (jw_and (je_cmp (fun X ok => op_isnNonD ok.K) isnNonD_bl (je_var 2) je_non) (jw_and1 (je_cmp (fun X ok => op_ltI ok.K op_gt) ltI_bl (je_var 0) (je_var 2)))))))) (js_cons js_no
  js_nil) js_nil)
  js_nil)
theorem j_need_walk {g : Gb} (T : Tx g) (F_is_a_walk : FnS g 3 "is_a_walk" ["value", "letters"] m_is_a_walk) : JSs g ⟨["walk", "letters"], defScope s_need_walk, fun _ => true, 3⟩ b_need_walk (defBody s_need_walk) :=
  (js_cons (js_if (je_not (je_call F_is_a_walk (by decide) (by rfl) (ja_cons (je_var 0) (ja_cons (je_var 1) ja_nil)))) (js_cons js_no
  js_nil) js_nil)
  js_nil)
theorem j_derivative {g : Gb} (T : Tx g) (F_derivative_of : FnS g 7 "derivative_of" ["walk", "letter"] m_derivative_of) (F_need_number : FnS g 1 "need_number" ["number", "low", "high"] m_need_number) (F_need_walk : FnS g 4 "need_walk" ["walk", "letters"] m_need_walk) (F_need_letters : FnS g 3 "need_letters" ["letters"] m_need_letters) : JSs g ⟨["letters", "walk", "k"], defScope s_derivative, fun _ => true, 7⟩ b_derivative (defBody s_derivative) :=
  (js_cons (js_expr (je_call F_need_letters (by decide) (by rfl) (ja_cons (je_var 0) ja_nil)))
  (js_cons (js_expr (je_call F_need_walk (by decide) (by rfl) (ja_cons (je_var 1) (ja_cons (je_var 0) ja_nil))))
  (js_cons (js_expr (je_call F_need_number (by decide) (by rfl) (ja_cons (je_var 2) (ja_cons je_int (ja_cons (je_var 0) ja_nil)))))
  (js_cons (js_ret (je_call F_derivative_of (by decide) (by rfl) (ja_cons (je_var 1) (ja_cons (je_var 2) ja_nil))))
  js_nil))))
theorem j_product_of {g : Gb} (T : Tx g) (F_chain_from : FnS g 6 "chain_from" ["terms"] m_chain_from) (F_straightened : FnS g 1 "straightened" ["walk"] m_straightened) : JSs g ⟨["one", "other", "rows", "walk", "number", "behind", "own"], defScope s_product_of, fun _ => true, 6⟩ b_product_of (defBody s_product_of) :=
  (js_cons (js_asg (je_lst ja_nil) (jg_var 2))
  (js_cons (js_for (JI.t (ji_seq (je_var 0))) (jg_tup (jgs_cons (jg_var 3) (jgs_cons (jg_var 4) jgs_nil))) (js_cons (js_expr (je_bm PySem.F.slot_list_extend PySem.F.type_list_extend (fun X ok => mt_extendD2 ok.K) (je_var 2) (ja_cons (je_comp [(("behind" : Str), 5), (("own" : Str), 6)] (by decide +kernel) (JI.t (ji_seq (je_var 1))) (jg_tup (jgs_cons (jg_var 5) (jgs_cons (jg_var 6) jgs_nil))) (by decide) jt_no (je_tup (ja_cons (je_call F_straightened (by decide) (by rfl) (ja_cons (je_bin (fun X ok => op_addD ok.K) (je_var 3) (je_var 5)) ja_nil)) (ja_cons (je_bin (fun X ok => op_mulD ok.K) (je_var 4) (je_var 6)) ja_nil)))) ja_nil)))
  js_nil))
  (js_cons (js_ret (je_call F_chain_from (by decide) (by rfl) (ja_cons (je_var 2) ja_nil)))
  js_nil)))
theorem j_product {g : Gb} (T : Tx g) (F_product_of : FnS g 7 "product_of" ["one", "other"] m_product_of) (F_need_two_chains : FnS g 7 "need_two_chains" ["letters", "one", "other"] m_need_two_chains) : JSs g ⟨["letters", "one", "other"], defScope s_product, fun _ => true, 7⟩ b_product (defBody s_product) :=
  (js_cons (js_expr (je_call F_need_two_chains (by decide) (by rfl) (ja_cons (je_var 0) (ja_cons (je_var 1) (ja_cons (je_var 2) ja_nil)))))
  (js_cons (js_ret (je_call F_product_of (by decide) (by rfl) (ja_cons (je_var 1) (ja_cons (je_var 2) ja_nil))))
  js_nil))
theorem j__law_straight {g : Gb} (T : Tx g) : JSs g ⟨["walk", "found", "step"], defScope s__law_straight, fun _ => true, 0⟩ b__law_straight (defBody s__law_straight) :=
  (js_cons (js_asg (je_lst ja_nil) (jg_var 1))
  (js_cons (js_for (JI.t (ji_seq (je_var 0))) (jg_var 2) (js_cons (js_if (je_bool (jw_and (je_cmp (fun X ok => op_neDD ok.K ok.room.units) neD_bl (je_var 1) (je_lst ja_nil)) (jw_and1 (je_cmp (fun X ok => op_eqDD ok.K ok.room.units) eqD_bl (je_ix (je_var 1) (je_un (fun X ok => op_negD ok.K) je_int)) (je_un (fun X ok => op_negD ok.K) (je_var 2)))))) (js_cons (js_expr (je_bm0 PySem.F.slot_list_pop PySem.F.type_list_pop (fun X ok => mt_popD ok.K) (je_var 1)))
  js_nil) (js_cons (js_expr (je_bm PySem.F.slot_list_append PySem.F.type_list_append (fun X ok => mt_appendD ok.K) (je_var 1) (ja_cons (je_var 2) ja_nil)))
  js_nil))
  js_nil))
  (js_cons (js_ret (je_ty (fun X ok => cr_tupleD ok.K) (by rfl) T.b_tuple (by decide +kernel) (ja_cons (je_var 1) ja_nil)))
  js_nil)))
theorem j__law_take {g : Gb} (T : Tx g) : JSs g ⟨["well", "many", "found", "number"], defScope s__law_take, fun _ => true, 0⟩ b__law_take (defBody s__law_take) :=
  (js_cons (js_if (je_cmp (fun X ok => op_ltI ok.K op_gt) ltI_bl (je_ix (je_var 0) je_int) je_int) (js_cons (js_asg (je_bin (fun X ok => op_modD ok.K) (je_ty (fun X ok => cr_intD ok.K) (by rfl) T.b_int (by decide +kernel) (ja_cons (je_ix (je_var 0) je_int) ja_nil)) (je_var 1)) (jg_var 2))
  (js_cons (js_asg (je_bin (fun X ok => op_fdivD ok.K) (je_ix (je_var 0) je_int) (je_var 1)) (jg_sub (je_var 0) je_int))
  (js_cons (js_ret (je_var 2))
  js_nil))) js_nil)
  (js_cons (js_asg (je_bin (fun X ok => op_addD ok.K) (je_ix (je_var 0) je_int) je_int) (jg_sub (je_var 0) je_int))
  (js_cons (js_asg (je_bin (fun X ok => op_modD ok.K) (je_ty (fun X ok => cr_intD ok.K) (by rfl) T.b_int (by decide +kernel) (ja_cons (je_bin (fun X ok => op_addD ok.K) (je_bin (fun X ok => op_mulD ok.K) (je_ix (je_var 0) je_int) je_int) (je_bin (fun X ok => op_mulD ok.K) (je_ix (je_var 0) je_int) je_int)) ja_nil)) (je_bin (fun X ok => op_addD ok.K) (je_bin (fun X ok => op_powD ok.K) je_int je_int) je_int)) (jg_var 3))
  (js_cons (js_asg (je_bin (fun X ok => op_modD ok.K) (je_ty (fun X ok => cr_intD ok.K) (by rfl) T.b_int (by decide +kernel) (ja_cons (je_bin (fun X ok => op_addD ok.K) (je_bin (fun X ok => op_addD ok.K) (je_bin (fun X ok => op_mulD ok.K) (je_var 3) (je_var 3)) (je_bin (fun X ok => op_mulD ok.K) je_int (je_ix (je_var 0) je_int))) (je_ix (je_var 0) je_int)) ja_nil)) (je_bin (fun X ok => op_addD ok.K) (je_bin (fun X ok => op_powD ok.K) je_int je_int) je_int)) (jg_var 3))
  (js_cons (js_asg (je_bin (fun X ok => op_fdivD ok.K) (je_bin (fun X ok => op_modD ok.K) (je_ty (fun X ok => cr_intD ok.K) (by rfl) T.b_int (by decide +kernel) (ja_cons (je_bin (fun X ok => op_addD ok.K) (je_bin (fun X ok => op_mulD ok.K) (je_var 3) (je_var 3)) je_int) ja_nil)) (je_bin (fun X ok => op_addD ok.K) (je_bin (fun X ok => op_powD ok.K) je_int je_int) je_int)) je_int) (jg_var 3))
  (js_cons (js_ret (je_bin (fun X ok => op_modD ok.K) (je_ty (fun X ok => cr_intD ok.K) (by rfl) T.b_int (by decide +kernel) (ja_cons (je_var 3) ja_nil)) (je_var 1)))
  js_nil))))))
theorem j__law_same {g : Gb} {k : Nat} {r : Fn} (T : Tx g) (F_r : FnS g (0 + k) "_law_same" ["actual", "due"] r) : JSs g ⟨["actual", "due", "at"], defScope s__law_same, fun _ => true, 0 + k⟩ (b__law_same r) (defBody s__law_same) :=
  (js_cons (js_if (je_isi2 (t := .list) (u := .tuple) rfl rfl (by rfl) T.b_isinstance (by rfl) T.b_list (by rfl) T.b_tuple (je_var 1)) (js_cons (js_if (je_bool (jw_or (je_cmp (fun X ok => op_neDD ok.K ok.room.units) neD_bl (je_isi (t := .list) rfl (by rfl) T.b_isinstance (by rfl) T.b_list (je_var 0)) (je_isi (t := .list) rfl (by rfl) T.b_isinstance (by rfl) T.b_list (je_var 1))) (jw_or1 (je_cmp (fun X ok => op_neDD ok.K ok.room.units) neD_bl (je_isi (t := .tuple) rfl (by rfl) T.b_isinstance (by rfl) T.b_tuple (je_var 0)) (je_isi (t := .tuple) rfl (by rfl) T.b_isinstance (by rfl) T.b_tuple (je_var 1)))))) (js_cons (js_ret je_bl)
  js_nil) js_nil)
  (js_cons (js_if (je_cmp (fun X ok => op_neDD ok.K ok.room.units) neD_bl (je_bi (fun X ok => cr_lenD ok.K) (by rfl) T.b_len (by first | decide +kernel | (dsimp only; decide +kernel)) (ja_cons (je_var 0) ja_nil)) (je_bi (fun X ok => cr_lenD ok.K) (by rfl) T.b_len (by first | decide +kernel | (dsimp only; decide +kernel)) (ja_cons (je_var 1) ja_nil))) (js_cons (js_ret je_bl)
  js_nil) js_nil)
  (js_cons (js_ret (je_bi (fun X ok => cr_allD ok.K ok.calm) (by rfl) T.b_all (by first | decide +kernel | (dsimp only; decide +kernel)) (ja_cons (je_comp [(("at" : Str), 2)] (by first | decide +kernel | (dsimp only; decide +kernel)) (JI.t (ji_rg1 (by rfl) T.b_range (ja_cons (je_bi (fun X ok => cr_lenD ok.K) (by rfl) T.b_len (by first | decide +kernel | (dsimp only; decide +kernel)) (ja_cons (je_var 1) ja_nil)) ja_nil))) (jg_var 2) (by decide) jt_no (je_call F_r (Nat.le_refl _) (by rfl) (ja_cons (je_ix (je_var 0) (je_var 2)) (ja_cons (je_ix (je_var 1) (je_var 2)) ja_nil)))) ja_nil)))
  js_nil))) js_nil)
  (js_cons (js_if (je_cmp (fun X ok => op_isNonD ok.K) isNonD_bl (je_var 1) je_non) (js_cons (js_ret (je_cmp (fun X ok => op_isNonD ok.K) isNonD_bl (je_var 0) je_non))
  js_nil) js_nil)
  (js_cons (js_if (je_isi (t := .str) rfl (by rfl) T.b_isinstance (by rfl) T.b_str (je_var 1)) (js_cons (js_ret (je_bool (jw_and (je_isi (t := .str) rfl (by rfl) T.b_isinstance (by rfl) T.b_str (je_var 0)) (jw_and1 (je_cmp (fun X ok => op_eqDD ok.K ok.room.units) eqD_bl (je_var 0) (je_var 1))))))
  js_nil) js_nil)
  (js_cons (js_ret (je_bool (jw_and (je_isi (t := .int) rfl (by rfl) T.b_isinstance (by rfl) T.b_int (je_var 0)) (jw_and (je_cmp (fun X ok => op_eqDD ok.K ok.room.units) eqD_bl (je_isi (t := .bool) rfl (by rfl) T.b_isinstance (by rfl) T.b_bool (je_var 0)) (je_isi (t := .bool) rfl (by rfl) T.b_isinstance (by rfl) T.b_bool (je_var 1))) (jw_and1 (je_cmp (fun X ok => op_eqDD ok.K ok.room.units) eqD_bl (je_var 0) (je_var 1)))))))
  js_nil))))
theorem j_back_to_walk {g : Gb} (T : Tx g) (F_chain_from : FnS g 6 "chain_from" ["terms"] m_chain_from) (F_product_of : FnS g 7 "product_of" ["one", "other"] m_product_of) (F_derivative_of : FnS g 7 "derivative_of" ["walk", "letter"] m_derivative_of) (F_need_walk : FnS g 4 "need_walk" ["walk", "letters"] m_need_walk) (F_need_letters : FnS g 3 "need_letters" ["letters"] m_need_letters) : JSs g ⟨["letters", "walk", "terms", "letter"], defScope s_back_to_walk, fun _ => true, 7⟩ b_back_to_walk (defBody s_back_to_walk) :=
  (js_cons (js_expr (je_call F_need_letters (by decide) (by rfl) (ja_cons (je_var 0) ja_nil)))
  (js_cons (js_expr (je_call F_need_walk (by decide) (by rfl) (ja_cons (je_var 1) (ja_cons (je_var 0) ja_nil))))
  (js_cons (js_asg (je_lst ja_nil) (jg_var 2))
  (js_cons (js_for (JI.t (ji_rg2 (by rfl) T.b_range (ja_cons je_int (ja_cons (je_bin (fun X ok => op_addD ok.K) (je_var 0) je_int) ja_nil)))) (jg_var 3) (js_cons (js_expr (je_bm PySem.F.slot_list_extend PySem.F.type_list_extend (fun X ok => mt_extendD2 ok.K) (je_var 2) (ja_cons (je_call F_product_of (by decide) (by rfl) (ja_cons (je_call F_derivative_of (by decide) (by rfl) (ja_cons (je_var 1) (ja_cons (je_var 3) ja_nil))) (ja_cons (je_tup (ja_cons (je_tup (ja_cons (je_tup ja_nil) (ja_cons (je_un (fun X ok => op_negD ok.K) je_int) ja_nil))) (ja_cons (je_tup (ja_cons (je_tup (ja_cons (je_var 3) ja_nil)) (ja_cons je_int ja_nil))) ja_nil))) ja_nil))) ja_nil)))
  js_nil))
  (js_cons (js_ret (je_call F_chain_from (by decide) (by rfl) (ja_cons (je_var 2) ja_nil)))
  js_nil)))))
theorem j__law_order {g : Gb} (T : Tx g) : JSs g ⟨["step"], defScope s__law_order, fun _ => true, 0⟩ b__law_order (defBody s__law_order) :=
  (js_cons (js_ret (je_if (je_cmp (fun X ok => op_ltI ok.K op_gt) ltI_bl (je_var 0) je_int) (je_bin (fun X ok => op_subD ok.K) (je_bin (fun X ok => op_mulD ok.K) je_int (je_var 0)) je_int) (je_bin (fun X ok => op_subD ok.K) (je_bin (fun X ok => op_mulD ok.K) (je_un (fun X ok => op_negD ok.K) je_int) (je_var 0)) je_int)))
  js_nil)
theorem j__law_key {g : Gb} (T : Tx g) (F__law_order : FnS g 1 "_law_order" ["step"] m__law_order) : JSs g ⟨["walk", "step"], defScope s__law_key, fun _ => true, 1⟩ b__law_key (defBody s__law_key) :=
  (js_cons (js_ret (je_tup (ja_cons (je_bi (fun X ok => cr_lenD ok.K) (by rfl) T.b_len (by decide +kernel) (ja_cons (je_var 0) ja_nil)) (ja_cons (je_ty (fun X ok => cr_tupleD ok.K) (by rfl) T.b_tuple (by decide +kernel) (ja_cons (je_comp [(("step" : Str), 1)] (by decide +kernel) (JI.t (ji_seq (je_var 0))) (jg_var 1) (by decide) jt_no (je_call F__law_order (by decide) (by rfl) (ja_cons (je_var 1) ja_nil))) ja_nil)) ja_nil))))
  js_nil)
theorem j__law_chain {g : Gb} (T : Tx g) (F__law_key : FnS g 2 "_law_key" ["walk"] m__law_key) : JSs g ⟨["terms", "found", "walk", "number", "walks"], defScope s__law_chain, fun _ => true, 4⟩ b__law_chain (defBody s__law_chain) :=
  (js_cons (js_asg je_dictT (jg_var 1))
  (js_cons (js_for (JI.t (ji_seq (je_var 0))) (jg_tup (jgs_cons (jg_var 2) (jgs_cons (jg_var 3) jgs_nil))) (js_cons (js_asg (je_bin (fun X ok => op_addD ok.K) (je_get2 (je_var 1) (je_var 2) je_int) (je_var 3)) (jg_subA (je_var 1) (je_var 2)))
  js_nil))
  (js_cons (js_asg (je_sortK F__law_key (by decide) rfl (by rfl) (by rfl) T.b_sorted (je_comp [(("walk" : Str), 2)] (by decide +kernel) (JI.t (ji_seq (je_ty (fun X ok => cr_listA ok.K ok.calm) (by rfl) T.b_list (by decide +kernel) (ja_cons (je_var 1) ja_nil)))) (jg_var 2) (by decide) (jt_one (je_cmp (fun X ok => op_neDD ok.K ok.room.units) neD_bl (je_ixA (je_var 1) (je_var 2)) je_int)) (je_var 2))) (jg_var 4))
  (js_cons (js_ret (je_ty (fun X ok => cr_tupleD ok.K) (by rfl) T.b_tuple (by decide +kernel) (ja_cons (je_comp [(("walk" : Str), 2)] (by decide +kernel) (JI.t (ji_seq (je_var 4))) (jg_var 2) (by decide) jt_no (je_tup (ja_cons (je_var 2) (ja_cons (je_ixA (je_var 1) (je_var 2)) ja_nil)))) ja_nil)))
  js_nil))))
theorem j__law_derivative {g : Gb} (T : Tx g) (F__law_chain : FnS g 5 "_law_chain" ["terms"] m__law_chain) (F__law_straight : FnS g 1 "_law_straight" ["walk"] m__law_straight) : JSs g ⟨["walk", "letter", "terms", "step", "more", "number"], defScope s__law_derivative, fun _ => true, 5⟩ b__law_derivative (defBody s__law_derivative) :=
  (js_cons (js_asg (je_lst ja_nil) (jg_var 2))
  (js_cons (js_for (JI.t (ji_seq (je_rev (je_var 0)))) (jg_var 3) (js_cons (js_setLc 2 [(("more" : Str), 4), (("number" : Str), 5)] (by decide +kernel) (JI.t (ji_seq (je_var 2))) (jg_tup (jgs_cons (jg_var 4) (jgs_cons (jg_var 5) jgs_nil))) (by decide) jt_no (je_tup (ja_cons (je_call F__law_straight (by decide) (by rfl) (ja_cons (je_bin (fun X ok => op_addD ok.K) (je_tup (ja_cons (je_var 3) ja_nil)) (je_var 4)) ja_nil)) (ja_cons (je_var 5) ja_nil))) rfl (by rfl) rfl (by rfl) rfl (by decide +kernel))
  (js_cons (js_if (je_cmp (fun X ok => op_eqDD ok.K ok.room.units) eqD_bl (je_var 3) (je_var 1)) (js_cons (js_expr (je_bm PySem.F.slot_list_append PySem.F.type_list_append (fun X ok => mt_appendD ok.K) (je_var 2) (ja_cons (je_tup (ja_cons (je_tup ja_nil) (ja_cons je_int ja_nil))) ja_nil)))
  js_nil) js_nil)
  (js_cons (js_if (je_cmp (fun X ok => op_eqDD ok.K ok.room.units) eqD_bl (je_var 3) (je_un (fun X ok => op_negD ok.K) (je_var 1))) (js_cons (js_expr (je_bm PySem.F.slot_list_append PySem.F.type_list_append (fun X ok => mt_appendD ok.K) (je_var 2) (ja_cons (je_tup (ja_cons (je_tup (ja_cons (je_var 3) ja_nil)) (ja_cons (je_un (fun X ok => op_negD ok.K) je_int) ja_nil))) ja_nil)))
  js_nil) js_nil)
  js_nil))))
  (js_cons (js_ret (je_call F__law_chain (by decide) (by rfl) (ja_cons (je_var 2) ja_nil)))
  js_nil)))
theorem j__law_right {g : Gb} (T : Tx g) (F__law_same : FnS g 8 "_law_same" ["actual", "due"] m__law_same) (F_back_to_walk : FnS g 8 "back_to_walk" ["letters", "walk"] m_back_to_walk) (F__law_chain : FnS g 5 "_law_chain" ["terms"] m__law_chain) (F__law_straight : FnS g 1 "_law_straight" ["walk"] m__law_straight) (F_derivative : FnS g 8 "derivative" ["letters", "walk", "k"] m_derivative) (F__law_derivative : FnS g 6 "_law_derivative" ["walk", "letter"] m__law_derivative) (Kw1_back_to_walk : FnK g 8 "back_to_walk" ["letters", "walk"] ["walk", "letters"] 0 [1, 0] m_back_to_walk) (Kw2_derivative : FnK g 8 "derivative" ["letters", "walk", "k"] ["k", "walk", "letters"] 0 [2, 1, 0] m_derivative) : JSs g ⟨["letters", "walk", "letter", "due"], defScope s__law_right, fun _ => true, 8⟩ b__law_right (defBody s__law_right) :=
  (js_cons (js_for (JI.t (ji_rg2 (by rfl) T.b_range (ja_cons je_int (ja_cons (je_bin (fun X ok => op_addD ok.K) (je_var 0) je_int) ja_nil)))) (jg_var 2) (js_cons (js_asg (je_call F__law_derivative (by decide) (by rfl) (ja_cons (je_var 1) (ja_cons (je_var 2) ja_nil))) (jg_var 3))
  (js_cons (js_if (je_not (je_call F__law_same (by decide) (by rfl) (ja_cons (je_call F_derivative (by decide) (by rfl) (ja_cons (je_var 0) (ja_cons (je_var 1) (ja_cons (je_var 2) ja_nil)))) (ja_cons (je_var 3) ja_nil)))) (js_cons (js_ret je_bl)
  js_nil) js_nil)
  (js_cons (js_if (je_not (je_call F__law_same (by decide) (by rfl) (ja_cons (je_callk0 Kw2_derivative (by decide) (by rfl) (jk_cons (je_var 2) (jk_cons (je_var 1) (jk_cons (je_var 0) jk_nil)))) (ja_cons (je_var 3) ja_nil)))) (js_cons (js_ret je_bl)
  js_nil) js_nil)
  js_nil))))
  (js_cons (js_asg (je_call F__law_chain (by decide) (by rfl) (ja_cons (je_lst (ja_cons (je_tup (ja_cons (je_call F__law_straight (by decide) (by rfl) (ja_cons (je_var 1) ja_nil)) (ja_cons je_int ja_nil))) (ja_cons (je_tup (ja_cons (je_tup ja_nil) (ja_cons (je_un (fun X ok => op_negD ok.K) je_int) ja_nil))) ja_nil))) ja_nil)) (jg_var 3))
  (js_cons (js_ret (je_bool (jw_and (je_call F__law_same (by decide) (by rfl) (ja_cons (je_call F_back_to_walk (by decide) (by rfl) (ja_cons (je_var 0) (ja_cons (je_var 1) ja_nil))) (ja_cons (je_var 3) ja_nil))) (jw_and1 (je_call F__law_same (by decide) (by rfl) (ja_cons (je_callk0 Kw1_back_to_walk (by decide) (by rfl) (jk_cons (je_var 1) (jk_cons (je_var 0) jk_nil))) (ja_cons (je_var 3) ja_nil)))))))
  js_nil)))
theorem j__law_steps {g : Gb} (T : Tx g) : JSs g ⟨["letters", "found", "letter"], defScope s__law_steps, fun _ => true, 0⟩ b__law_steps (defBody s__law_steps) :=
  (js_cons (js_asg (je_lst ja_nil) (jg_var 1))
  (js_cons (js_for (JI.t (ji_rg2 (by rfl) T.b_range (ja_cons je_int (ja_cons (je_bin (fun X ok => op_addD ok.K) (je_var 0) je_int) ja_nil)))) (jg_var 2) (js_cons (js_asg (je_bin (fun X ok => op_addD ok.K) (je_var 1) (je_lst (ja_cons (je_var 2) (ja_cons (je_un (fun X ok => op_negD ok.K) (je_var 2)) ja_nil)))) (jg_var 1))
  js_nil))
  (js_cons (js_ret (je_var 1))
  js_nil)))
theorem j__law_walk {g : Gb} (T : Tx g) (F__law_take : FnS g 1 "_law_take" ["well", "many"] m__law_take) (F__law_steps : FnS g 1 "_law_steps" ["letters"] m__law_steps) : JSs g ⟨["well", "letters", "size", "menu", "turn"], defScope s__law_walk, fun _ => true, 1⟩ b__law_walk (defBody s__law_walk) :=
  (js_cons (js_asg (je_call F__law_steps (by decide) (by rfl) (ja_cons (je_var 1) ja_nil)) (jg_var 3))
  (js_cons (js_ret (je_ty (fun X ok => cr_tupleD ok.K) (by rfl) T.b_tuple (by decide +kernel) (ja_cons (je_comp [(("turn" : Str), 4)] (by decide +kernel) (JI.t (ji_rg1 (by rfl) T.b_range (ja_cons (je_var 2) ja_nil))) (jg_var 4) (by decide) jt_no (je_ix (je_var 3) (je_call F__law_take (by decide) (by rfl) (ja_cons (je_var 0) (ja_cons (je_bi (fun X ok => cr_lenD ok.K) (by rfl) T.b_len (by decide +kernel) (ja_cons (je_var 3) ja_nil)) ja_nil))))) ja_nil)))
  js_nil))
theorem j__law_product {g : Gb} (T : Tx g) (F__law_chain : FnS g 5 "_law_chain" ["terms"] m__law_chain) (F__law_straight : FnS g 1 "_law_straight" ["walk"] m__law_straight) : JSs g ⟨["one", "other", "terms", "walk", "number", "more", "own"], defScope s__law_product, fun _ => true, 5⟩ b__law_product (defBody s__law_product) :=
  (js_cons (js_asg (je_lst ja_nil) (jg_var 2))
  (js_cons (js_for (JI.t (ji_seq (je_var 0))) (jg_tup (jgs_cons (jg_var 3) (jgs_cons (jg_var 4) jgs_nil))) (js_cons (js_expr (je_bm PySem.F.slot_list_extend PySem.F.type_list_extend (fun X ok => mt_extendD2 ok.K) (je_var 2) (ja_cons (je_comp [(("more" : Str), 5), (("own" : Str), 6)] (by decide +kernel) (JI.t (ji_seq (je_var 1))) (jg_tup (jgs_cons (jg_var 5) (jgs_cons (jg_var 6) jgs_nil))) (by decide) jt_no (je_tup (ja_cons (je_call F__law_straight (by decide) (by rfl) (ja_cons (je_bin (fun X ok => op_addD ok.K) (je_var 3) (je_var 5)) ja_nil)) (ja_cons (je_bin (fun X ok => op_mulD ok.K) (je_var 4) (je_var 6)) ja_nil)))) ja_nil)))
  js_nil))
  (js_cons (js_ret (je_call F__law_chain (by decide) (by rfl) (ja_cons (je_var 2) ja_nil)))
  js_nil)))
theorem j__law_clean {g : Gb} (T : Tx g) (F__law_take : FnS g 1 "_law_take" ["well", "many"] m__law_take) (F__law_steps : FnS g 1 "_law_steps" ["letters"] m__law_steps) : JSs g ⟨["well", "letters", "size", "found", "turn", "menu", "step"], defScope s__law_clean, fun _ => true, 1⟩ b__law_clean (defBody s__law_clean) :=
  (js_cons (js_asg (je_lst ja_nil) (jg_var 3))
  (js_cons (js_for (JI.t (ji_rg1 (by rfl) T.b_range (ja_cons (je_var 2) ja_nil))) (jg_var 4) (js_cons (js_setLc 5 [(("step" : Str), 6)] (by decide +kernel) (JI.t (ji_seq (je_call F__law_steps (by decide) (by rfl) (ja_cons (je_var 1) ja_nil)))) (jg_var 6) (by decide) (jt_one (je_bool (jw_or (je_cmp (fun X ok => op_eqDD ok.K ok.room.units) eqD_bl (je_var 3) (je_lst ja_nil)) (jw_or1 (je_cmp (fun X ok => op_neDD ok.K ok.room.units) neD_bl (je_var 6) (je_un (fun X ok => op_negD ok.K) (je_ix (je_var 3) (je_un (fun X ok => op_negD ok.K) je_int)))))))) (je_var 6) rfl (by rfl) rfl (by rfl) rfl (by decide +kernel))
  (js_cons (js_expr (je_bm PySem.F.slot_list_append PySem.F.type_list_append (fun X ok => mt_appendD ok.K) (je_var 3) (ja_cons (je_ix (je_var 5) (je_call F__law_take (by decide) (by rfl) (ja_cons (je_var 0) (ja_cons (je_bi (fun X ok => cr_lenD ok.K) (by rfl) T.b_len (by decide +kernel) (ja_cons (je_var 5) ja_nil)) ja_nil)))) ja_nil)))
  js_nil)))
  (js_cons (js_ret (je_ty (fun X ok => cr_tupleD ok.K) (by rfl) T.b_tuple (by decide +kernel) (ja_cons (je_var 3) ja_nil)))
  js_nil)))
theorem j__law_drawn_chain {g : Gb} (T : Tx g) (F__law_chain : FnS g 5 "_law_chain" ["terms"] m__law_chain) (F__law_take : FnS g 1 "_law_take" ["well", "many"] m__law_take) (F__law_clean : FnS g 2 "_law_clean" ["well", "letters", "size"] m__law_clean) : JSs g ⟨["well", "letters", "most", "size", "terms", "turn", "number", "walk"], defScope s__law_drawn_chain, fun _ => true, 5⟩ b__law_drawn_chain (defBody s__law_drawn_chain) :=
  (js_cons (js_asg (je_lst ja_nil) (jg_var 4))
  (js_cons (js_for (JI.t (ji_rg1 (by rfl) T.b_range (ja_cons (je_call F__law_take (by decide) (by rfl) (ja_cons (je_var 0) (ja_cons (je_bin (fun X ok => op_addD ok.K) (je_var 2) je_int) ja_nil))) ja_nil))) (jg_var 5) (js_cons (js_asg (je_bin (fun X ok => op_addD ok.K) je_int (je_ix (je_lst (ja_cons (je_call F__law_take (by decide) (by rfl) (ja_cons (je_var 0) (ja_cons je_int ja_nil))) (ja_cons (je_call F__law_take (by decide) (by rfl) (ja_cons (je_var 0) (ja_cons (je_bin (fun X ok => op_powD ok.K) je_int je_int) ja_nil))) ja_nil))) (je_bin (fun X ok => op_fdivD ok.K) (je_call F__law_take (by decide) (by rfl) (ja_cons (je_var 0) (ja_cons je_int ja_nil))) je_int))) (jg_var 6))
  (js_cons (js_asg (je_call F__law_clean (by decide) (by rfl) (ja_cons (je_var 0) (ja_cons (je_var 1) (ja_cons (je_call F__law_take (by decide) (by rfl) (ja_cons (je_var 0) (ja_cons (je_bin (fun X ok => op_addD ok.K) (je_var 3) je_int) ja_nil))) ja_nil)))) (jg_var 7))
  (js_cons (js_expr (je_bm PySem.F.slot_list_append PySem.F.type_list_append (fun X ok => mt_appendD ok.K) (je_var 4) (ja_cons (je_tup (ja_cons (je_var 7) (ja_cons (je_if (je_cmp (fun X ok => op_eqDD ok.K ok.room.units) eqD_bl (je_call F__law_take (by decide) (by rfl) (ja_cons (je_var 0) (ja_cons je_int ja_nil))) je_int) (je_var 6) (je_un (fun X ok => op_negD ok.K) (je_var 6))) ja_nil))) ja_nil)))
  js_nil))))
  (js_cons (js_ret (je_call F__law_chain (by decide) (by rfl) (ja_cons (je_var 4) ja_nil)))
  js_nil)))
theorem j__law_well {g : Gb} (T : Tx g) : JSs g ⟨["script", "k", "cell", "mixed", "other", "seed"], defScope s__law_well, fun _ => true, 0⟩ b__law_well (defBody s__law_well) :=
  (js_cons (js_asg (je_bin (fun X ok => op_addD ok.K) (je_bin (fun X ok => op_mulD ok.K) je_int (je_var 1)) je_int) (jg_var 2))
  (js_cons (js_if (je_cmp (fun X ok => op_ltI ok.K op_lt) ltI_bl (je_var 1) (je_bi (fun X ok => cr_lenD ok.K) (by rfl) T.b_len (by decide +kernel) (ja_cons (je_var 0) ja_nil))) (js_cons (js_asg (je_ix (je_var 0) (je_var 1)) (jg_var 2))
  js_nil) js_nil)
  (js_cons (js_asg (je_bin (fun X ok => op_addD ok.K) je_int (je_bi (fun X ok => cr_lenD ok.K) (by rfl) T.b_len (by decide +kernel) (ja_cons (je_var 0) ja_nil))) (jg_var 3))
  (js_cons (js_for (JI.t (ji_seq (je_var 0))) (jg_var 4) (js_cons (js_asg (je_bin (fun X ok => op_modD ok.K) (je_ty (fun X ok => cr_intD ok.K) (by rfl) T.b_int (by decide +kernel) (ja_cons (je_bin (fun X ok => op_addD ok.K) (je_bin (fun X ok => op_mulD ok.K) (je_var 3) je_int) (je_bin (fun X ok => op_modD ok.K) (je_ty (fun X ok => cr_intD ok.K) (by rfl) T.b_int (by decide +kernel) (ja_cons (je_var 4) ja_nil)) (je_bin (fun X ok => op_addD ok.K) (je_bin (fun X ok => op_powD ok.K) je_int je_int) je_int))) ja_nil)) (je_bin (fun X ok => op_addD ok.K) (je_bin (fun X ok => op_powD ok.K) je_int je_int) je_int)) (jg_var 3))
  js_nil))
  (js_cons (js_asg (je_bin (fun X ok => op_modD ok.K) (je_ty (fun X ok => cr_intD ok.K) (by rfl) T.b_int (by decide +kernel) (ja_cons (je_bin (fun X ok => op_addD ok.K) (je_bin (fun X ok => op_addD ok.K) (je_bin (fun X ok => op_mulD ok.K) (je_bin (fun X ok => op_modD ok.K) (je_ty (fun X ok => cr_intD ok.K) (by rfl) T.b_int (by decide +kernel) (ja_cons (je_var 2) ja_nil)) (je_bin (fun X ok => op_addD ok.K) (je_bin (fun X ok => op_powD ok.K) je_int je_int) je_int)) je_int) (je_bin (fun X ok => op_mulD ok.K) je_int (je_var 3))) (je_var 1)) ja_nil)) (je_bin (fun X ok => op_addD ok.K) (je_bin (fun X ok => op_powD ok.K) je_int je_int) je_int)) (jg_var 5))
  (js_cons (js_ret (je_lst (ja_cons (je_bi (fun X ok => cr_max2D ok.K ok.calm) (by rfl) T.b_max (by decide +kernel) (ja_cons je_int (ja_cons (je_bin (fun X ok => op_subD ok.K) (je_var 2) (je_bin (fun X ok => op_powD ok.K) je_int je_int)) ja_nil))) (ja_cons (je_var 5) (ja_cons je_int ja_nil)))))
  js_nil))))))
theorem j_law {g : Gb} (T : Tx g) (F_added : FnS g 8 "added" ["letters", "one", "other"] m_added) (F_derivative : FnS g 8 "derivative" ["letters", "walk", "k"] m_derivative) (F_product : FnS g 8 "product" ["letters", "one", "other"] m_product) (F__law_straight : FnS g 1 "_law_straight" ["walk"] m__law_straight) (F__law_take : FnS g 1 "_law_take" ["well", "many"] m__law_take) (F__law_right : FnS g 9 "_law_right" ["letters", "walk"] m__law_right) (F__law_walk : FnS g 2 "_law_walk" ["well", "letters", "size"] m__law_walk) (F__law_same : FnS g 8 "_law_same" ["actual", "due"] m__law_same) (F__law_product : FnS g 6 "_law_product" ["one", "other"] m__law_product) (F__law_drawn_chain : FnS g 6 "_law_drawn_chain" ["well", "letters", "most", "size"] m__law_drawn_chain) (F__law_well : FnS g 1 "_law_well" ["script", "k"] m__law_well) (Kw0_product : FnK g 8 "product" ["letters", "one", "other"] ["other", "one", "letters"] 0 [2, 1, 0] m_product) : JSs g ⟨["script", "k", "well", "letters", "one", "other", "a", "b", "first", "second", "row", "letter", "here", "both"], defScope s_law, fun _ => true, 9⟩ b_law (defBody s_law) :=
  (js_cons (js_for (JI.t (ji_rg1 (by rfl) T.b_range (ja_cons (je_bi (fun X ok => cr_max2D ok.K ok.calm) (by rfl) T.b_max (by decide +kernel) (ja_cons je_int (ja_cons (je_bi (fun X ok => cr_min2D ok.K ok.calm) (by rfl) T.b_min (by decide +kernel) (ja_cons je_int (ja_cons (je_bi (fun X ok => cr_lenD ok.K) (by rfl) T.b_len (by decide +kernel) (ja_cons (je_var 0) ja_nil)) ja_nil))) ja_nil))) ja_nil))) (jg_var 1) (js_cons (js_asg (je_call F__law_well (by decide) (by rfl) (ja_cons (je_var 0) (ja_cons (je_var 1) ja_nil))) (jg_var 2))
  (js_cons (js_asg (je_bin (fun X ok => op_addD ok.K) je_int (je_call F__law_take (by decide) (by rfl) (ja_cons (je_var 2) (ja_cons je_int ja_nil)))) (jg_var 3))
  (js_cons (js_par (i := 4) (j := 5) rfl rfl (by decide) (by rfl) (by rfl) (ja_cons (je_call F__law_drawn_chain (by decide) (by rfl) (ja_cons (je_var 2) (ja_cons (je_var 3) (ja_cons je_int (ja_cons je_int ja_nil))))) (ja_cons (je_call F__law_drawn_chain (by decide) (by rfl) (ja_cons (je_var 2) (ja_cons (je_var 3) (ja_cons je_int (ja_cons je_int ja_nil))))) ja_nil)) (by rintro ⟨⟩ rfl; rfl))
  (js_cons (js_for (JI.t (ji_seq (je_tup (ja_cons (je_tup (ja_cons (je_var 4) (ja_cons (je_var 5) ja_nil))) (ja_cons (je_tup (ja_cons (je_var 5) (ja_cons (je_var 4) ja_nil))) (ja_cons (je_tup (ja_cons (je_var 4) (ja_cons (je_tup ja_nil) ja_nil))) (ja_cons (je_tup (ja_cons (je_tup ja_nil) (ja_cons (je_var 4) ja_nil))) (ja_cons (je_tup (ja_cons (je_var 4) (ja_cons (je_tup (ja_cons (je_tup (ja_cons (je_tup ja_nil) (ja_cons je_int ja_nil))) ja_nil)) ja_nil))) ja_nil)))))))) (jg_tup (jgs_cons (jg_var 6) (jgs_cons (jg_var 7) jgs_nil))) (js_cons (js_if (je_not (je_call F__law_same (by decide) (by rfl) (ja_cons (je_call F_product (by decide) (by rfl) (ja_cons (je_var 3) (ja_cons (je_var 6) (ja_cons (je_var 7) ja_nil)))) (ja_cons (je_call F__law_product (by decide) (by rfl) (ja_cons (je_var 6) (ja_cons (je_var 7) ja_nil))) ja_nil)))) (js_cons (js_ret je_bl)
  js_nil) js_nil)
  js_nil))
  (js_cons (js_if (je_not (je_call F__law_same (by decide) (by rfl) (ja_cons (je_callk0 Kw0_product (by decide) (by rfl) (jk_cons (je_var 5) (jk_cons (je_var 4) (jk_cons (je_var 3) jk_nil)))) (ja_cons (je_call F__law_product (by decide) (by rfl) (ja_cons (je_var 4) (ja_cons (je_var 5) ja_nil))) ja_nil)))) (js_cons (js_ret je_bl)
  js_nil) js_nil)
  (js_cons (js_par (i := 8) (j := 9) rfl rfl (by decide) (by rfl) (by rfl) (ja_cons (je_call F__law_walk (by decide) (by rfl) (ja_cons (je_var 2) (ja_cons (je_var 3) (ja_cons (je_call F__law_take (by decide) (by rfl) (ja_cons (je_var 2) (ja_cons je_int ja_nil))) ja_nil)))) (ja_cons (je_call F__law_walk (by decide) (by rfl) (ja_cons (je_var 2) (ja_cons (je_var 3) (ja_cons (je_call F__law_take (by decide) (by rfl) (ja_cons (je_var 2) (ja_cons je_int ja_nil))) ja_nil)))) ja_nil)) (by rintro ⟨⟩ rfl; rfl))
  (js_cons (js_for (JI.t (ji_seq (je_tup (ja_cons (je_var 8) (ja_cons (je_var 9) (ja_cons (je_bin (fun X ok => op_addD ok.K) (je_var 8) (je_var 9)) (ja_cons (je_tup ja_nil) ja_nil))))))) (jg_var 10) (js_cons (js_if (je_not (je_call F__law_right (by decide) (by rfl) (ja_cons (je_var 3) (ja_cons (je_var 10) ja_nil)))) (js_cons (js_ret je_bl)
  js_nil) js_nil)
  js_nil))
  (js_cons (js_par (i := 11) (j := 12) rfl rfl (by decide) (by rfl) (by rfl) (ja_cons (je_bin (fun X ok => op_addD ok.K) je_int (je_call F__law_take (by decide) (by rfl) (ja_cons (je_var 2) (ja_cons (je_var 3) ja_nil)))) (ja_cons (je_tup (ja_cons (je_tup (ja_cons (je_call F__law_straight (by decide) (by rfl) (ja_cons (je_var 8) ja_nil)) (ja_cons je_int ja_nil))) ja_nil)) ja_nil)) (by rintro ⟨⟩ rfl; rfl))
  (js_cons (js_asg (je_call F_product (by decide) (by rfl) (ja_cons (je_var 3) (ja_cons (je_var 12) (ja_cons (je_call F_derivative (by decide) (by rfl) (ja_cons (je_var 3) (ja_cons (je_var 9) (ja_cons (je_var 11) ja_nil)))) ja_nil)))) (jg_var 13))
  (js_cons (js_if (je_cmp (fun X ok => op_neDD ok.K ok.room.units) neD_bl (je_call F_added (by decide) (by rfl) (ja_cons (je_var 3) (ja_cons (je_call F_derivative (by decide) (by rfl) (ja_cons (je_var 3) (ja_cons (je_var 8) (ja_cons (je_var 11) ja_nil)))) (ja_cons (je_var 13) ja_nil)))) (je_call F_derivative (by decide) (by rfl) (ja_cons (je_var 3) (ja_cons (je_bin (fun X ok => op_addD ok.K) (je_var 8) (je_var 9)) (ja_cons (je_var 11) ja_nil))))) (js_cons (js_ret je_bl)
  js_nil) js_nil)
  js_nil)))))))))))
  (js_cons (js_ret je_bl)
  js_nil))
/-! ### each def keeps its meaning -/
theorem sc_step_order : FnScope ["step"] ["step"] (defScope s_step_order) := ⟨rfl, rfl, rfl, by decide +kernel, rfl, by decide +kernel, by decide +kernel⟩
theorem sc_walk_key : FnScope ["walk", "step"] ["walk"] (defScope s_walk_key) := ⟨rfl, rfl, rfl, by decide +kernel, rfl, by decide +kernel, by decide +kernel⟩
theorem sc_term_key : FnScope ["term"] ["term"] (defScope s_term_key) := ⟨rfl, rfl, rfl, by decide +kernel, rfl, by decide +kernel, by decide +kernel⟩
theorem sc_chain_from : FnScope ["terms", "found", "walk", "number", "term"] ["terms"] (defScope s_chain_from) := ⟨rfl, rfl, rfl, by decide +kernel, rfl, by decide +kernel, by decide +kernel⟩
theorem sc_straightened : FnScope ["walk", "found", "step"] ["walk"] (defScope s_straightened) := ⟨rfl, rfl, rfl, by decide +kernel, rfl, by decide +kernel, by decide +kernel⟩
theorem sc_is_integer : FnScope ["value"] ["value"] (defScope s_is_integer) := ⟨rfl, rfl, rfl, by decide +kernel, rfl, by decide +kernel, by decide +kernel⟩
theorem sc_is_step : FnScope ["value", "letters"] ["value", "letters"] (defScope s_is_step) := ⟨rfl, rfl, rfl, by decide +kernel, rfl, by decide +kernel, by decide +kernel⟩
theorem sc_is_a_walk : FnScope ["value", "letters", "step"] ["value", "letters"] (defScope s_is_a_walk) := ⟨rfl, rfl, rfl, by decide +kernel, rfl, by decide +kernel, by decide +kernel⟩
theorem sc_is_term : FnScope ["letters", "value"] ["letters", "value"] (defScope s_is_term) := ⟨rfl, rfl, rfl, by decide +kernel, rfl, by decide +kernel, by decide +kernel⟩
theorem sc_is_a_chain : FnScope ["letters", "value", "part", "keys", "one", "other"] ["letters", "value"] (defScope s_is_a_chain) := ⟨rfl, rfl, rfl, by decide +kernel, rfl, by decide +kernel, by decide +kernel⟩
theorem sc_need_chain : FnScope ["letters", "chain"] ["letters", "chain"] (defScope s_need_chain) := ⟨rfl, rfl, rfl, by decide +kernel, rfl, by decide +kernel, by decide +kernel⟩
theorem sc_is_letters : FnScope ["value"] ["value"] (defScope s_is_letters) := ⟨rfl, rfl, rfl, by decide +kernel, rfl, by decide +kernel, by decide +kernel⟩
theorem sc_need_letters : FnScope ["letters"] ["letters"] (defScope s_need_letters) := ⟨rfl, rfl, rfl, by decide +kernel, rfl, by decide +kernel, by decide +kernel⟩
theorem sc_need_two_chains : FnScope ["letters", "one", "other"] ["letters", "one", "other"] (defScope s_need_two_chains) := ⟨rfl, rfl, rfl, by decide +kernel, rfl, by decide +kernel, by decide +kernel⟩
theorem sc_added : FnScope ["letters", "one", "other"] ["letters", "one", "other"] (defScope s_added) := ⟨rfl, rfl, rfl, by decide +kernel, rfl, by decide +kernel, by decide +kernel⟩
theorem sc_derivative_of : FnScope ["walk", "letter", "rows", "straight", "place", "step"] ["walk", "letter"] (defScope s_derivative_of) := ⟨rfl, rfl, rfl, by decide +kernel, rfl, by decide +kernel, by decide +kernel⟩
theorem sc_need_number : FnScope ["number", "low", "high"] ["number", "low", "high"] (defScope s_need_number) := ⟨rfl, rfl, rfl, by decide +kernel, rfl, by decide +kernel, by decide +kernel⟩
theorem sc_need_walk : FnScope ["walk", "letters"] ["walk", "letters"] (defScope s_need_walk) := ⟨rfl, rfl, rfl, by decide +kernel, rfl, by decide +kernel, by decide +kernel⟩
theorem sc_derivative : FnScope ["letters", "walk", "k"] ["letters", "walk", "k"] (defScope s_derivative) := ⟨rfl, rfl, rfl, by decide +kernel, rfl, by decide +kernel, by decide +kernel⟩
theorem sc_product_of : FnScope ["one", "other", "rows", "walk", "number", "behind", "own"] ["one", "other"] (defScope s_product_of) := ⟨rfl, rfl, rfl, by decide +kernel, rfl, by decide +kernel, by decide +kernel⟩
theorem sc_product : FnScope ["letters", "one", "other"] ["letters", "one", "other"] (defScope s_product) := ⟨rfl, rfl, rfl, by decide +kernel, rfl, by decide +kernel, by decide +kernel⟩
theorem sc__law_straight : FnScope ["walk", "found", "step"] ["walk"] (defScope s__law_straight) := ⟨rfl, rfl, rfl, by decide +kernel, rfl, by decide +kernel, by decide +kernel⟩
theorem sc__law_take : FnScope ["well", "many", "found", "number"] ["well", "many"] (defScope s__law_take) := ⟨rfl, rfl, rfl, by decide +kernel, rfl, by decide +kernel, by decide +kernel⟩
theorem sc__law_same : FnScope ["actual", "due", "at"] ["actual", "due"] (defScope s__law_same) := ⟨rfl, rfl, rfl, by decide +kernel, rfl, by decide +kernel, by decide +kernel⟩
theorem sc_back_to_walk : FnScope ["letters", "walk", "terms", "letter"] ["letters", "walk"] (defScope s_back_to_walk) := ⟨rfl, rfl, rfl, by decide +kernel, rfl, by decide +kernel, by decide +kernel⟩
theorem sc__law_order : FnScope ["step"] ["step"] (defScope s__law_order) := ⟨rfl, rfl, rfl, by decide +kernel, rfl, by decide +kernel, by decide +kernel⟩
theorem sc__law_key : FnScope ["walk", "step"] ["walk"] (defScope s__law_key) := ⟨rfl, rfl, rfl, by decide +kernel, rfl, by decide +kernel, by decide +kernel⟩
theorem sc__law_chain : FnScope ["terms", "found", "walk", "number", "walks"] ["terms"] (defScope s__law_chain) := ⟨rfl, rfl, rfl, by decide +kernel, rfl, by decide +kernel, by decide +kernel⟩
theorem sc__law_derivative : FnScope ["walk", "letter", "terms", "step", "more", "number"] ["walk", "letter"] (defScope s__law_derivative) := ⟨rfl, rfl, rfl, by decide +kernel, rfl, by decide +kernel, by decide +kernel⟩
theorem sc__law_right : FnScope ["letters", "walk", "letter", "due"] ["letters", "walk"] (defScope s__law_right) := ⟨rfl, rfl, rfl, by decide +kernel, rfl, by decide +kernel, by decide +kernel⟩
theorem sc__law_steps : FnScope ["letters", "found", "letter"] ["letters"] (defScope s__law_steps) := ⟨rfl, rfl, rfl, by decide +kernel, rfl, by decide +kernel, by decide +kernel⟩
theorem sc__law_walk : FnScope ["well", "letters", "size", "menu", "turn"] ["well", "letters", "size"] (defScope s__law_walk) := ⟨rfl, rfl, rfl, by decide +kernel, rfl, by decide +kernel, by decide +kernel⟩
theorem sc__law_product : FnScope ["one", "other", "terms", "walk", "number", "more", "own"] ["one", "other"] (defScope s__law_product) := ⟨rfl, rfl, rfl, by decide +kernel, rfl, by decide +kernel, by decide +kernel⟩
theorem sc__law_clean : FnScope ["well", "letters", "size", "found", "turn", "menu", "step"] ["well", "letters", "size"] (defScope s__law_clean) := ⟨rfl, rfl, rfl, by decide +kernel, rfl, by decide +kernel, by decide +kernel⟩
theorem sc__law_drawn_chain : FnScope ["well", "letters", "most", "size", "terms", "turn", "number", "walk"] ["well", "letters", "most", "size"] (defScope s__law_drawn_chain) := ⟨rfl, rfl, rfl, by decide +kernel, rfl, by decide +kernel, by decide +kernel⟩
theorem sc__law_well : FnScope ["script", "k", "cell", "mixed", "other", "seed"] ["script", "k"] (defScope s__law_well) := ⟨rfl, rfl, rfl, by decide +kernel, rfl, by decide +kernel, by decide +kernel⟩
theorem sc_law : FnScope ["script", "k", "well", "letters", "one", "other", "a", "b", "first", "second", "row", "letter", "here", "both"] ["script"] (defScope s_law) := ⟨rfl, rfl, rfl, by decide +kernel, rfl, by decide +kernel, by decide +kernel⟩
theorem ok_step_order {g : Gb} (T : Tx g) {f : Addr} {fd : FuncData} (F : Fun g.K "step_order" "step_order" s_step_order f fd) : FnOk g.P g.w g.K g.mg g.base CX0 1 f fd ["step"] (spD g.K 1 m_step_order) := fn_ok F sc_step_order (j_step_order T)
theorem F_step_order {g : Gb} (T : Tx g) : FnS g 1 "step_order" ["step"] m_step_order := by
  obtain ⟨f, fd, h1, F⟩ := T.f_step_order
  exact fnS_of rfl h1 F.kp (F.binds (ps := ["step"]) fun _ _ _ _ _ _ us hl => match us, hl with | [_], _ => rfl) (ok_step_order T F)
theorem ok_walk_key {g : Gb} (T : Tx g) {f : Addr} {fd : FuncData} (F : Fun g.K "walk_key" "walk_key" s_walk_key f fd) : FnOk g.P g.w g.K g.mg g.base CX0 2 f fd ["walk"] (spD g.K 1 m_walk_key) := fn_ok F sc_walk_key (j_walk_key T (F_step_order T))
theorem F_walk_key {g : Gb} (T : Tx g) : FnS g 2 "walk_key" ["walk"] m_walk_key := by
  obtain ⟨f, fd, h1, F⟩ := T.f_walk_key
  exact fnS_of rfl h1 F.kp (F.binds (ps := ["walk"]) fun _ _ _ _ _ _ us hl => match us, hl with | [_], _ => rfl) (ok_walk_key T F)
theorem ok_term_key {g : Gb} (T : Tx g) {f : Addr} {fd : FuncData} (F : Fun g.K "term_key" "term_key" s_term_key f fd) : FnOk g.P g.w g.K g.mg g.base CX0 3 f fd ["term"] (spD g.K 1 m_term_key) := fn_ok F sc_term_key (j_term_key T (F_walk_key T))
theorem F_term_key {g : Gb} (T : Tx g) : FnS g 3 "term_key" ["term"] m_term_key := by
  obtain ⟨f, fd, h1, F⟩ := T.f_term_key
  exact fnS_of rfl h1 F.kp (F.binds (ps := ["term"]) fun _ _ _ _ _ _ us hl => match us, hl with | [_], _ => rfl) (ok_term_key T F)
theorem ok_chain_from {g : Gb} (T : Tx g) {f : Addr} {fd : FuncData} (F : Fun g.K "chain_from" "chain_from" s_chain_from f fd) : FnOk g.P g.w g.K g.mg g.base CX0 6 f fd ["terms"] (spD g.K 1 m_chain_from) := fn_ok F sc_chain_from (j_chain_from T (F_term_key T))
theorem F_chain_from {g : Gb} (T : Tx g) : FnS g 6 "chain_from" ["terms"] m_chain_from := by
  obtain ⟨f, fd, h1, F⟩ := T.f_chain_from
  exact fnS_of rfl h1 F.kp (F.binds (ps := ["terms"]) fun _ _ _ _ _ _ us hl => match us, hl with | [_], _ => rfl) (ok_chain_from T F)
theorem ok_straightened {g : Gb} (T : Tx g) {f : Addr} {fd : FuncData} (F : Fun g.K "straightened" "straightened" s_straightened f fd) : FnOk g.P g.w g.K g.mg g.base CX0 1 f fd ["walk"] (spD g.K 1 m_straightened) := fn_ok F sc_straightened (j_straightened T)
theorem F_straightened {g : Gb} (T : Tx g) : FnS g 1 "straightened" ["walk"] m_straightened := by
  obtain ⟨f, fd, h1, F⟩ := T.f_straightened
  exact fnS_of rfl h1 F.kp (F.binds (ps := ["walk"]) fun _ _ _ _ _ _ us hl => match us, hl with | [_], _ => rfl) (ok_straightened T F)
theorem ok_is_integer {g : Gb} (T : Tx g) {f : Addr} {fd : FuncData} (F : Fun g.K "is_integer" "is_integer" s_is_integer f fd) : FnOk g.P g.w g.K g.mg g.base CX0 1 f fd ["value"] (spD g.K 1 m_is_integer) := fn_ok F sc_is_integer (j_is_integer T)
theorem F_is_integer {g : Gb} (T : Tx g) : FnS g 1 "is_integer" ["value"] m_is_integer := by
  obtain ⟨f, fd, h1, F⟩ := T.f_is_integer
  exact fnS_of rfl h1 F.kp (F.binds (ps := ["value"]) fun _ _ _ _ _ _ us hl => match us, hl with | [_], _ => rfl) (ok_is_integer T F)
theorem ok_is_step {g : Gb} (T : Tx g) {f : Addr} {fd : FuncData} (F : Fun g.K "is_step" "is_step" s_is_step f fd) : FnOk g.P g.w g.K g.mg g.base CX0 2 f fd ["value", "letters"] (spD g.K 2 m_is_step) := fn_ok F sc_is_step (j_is_step T (F_is_integer T))
theorem F_is_step {g : Gb} (T : Tx g) : FnS g 2 "is_step" ["value", "letters"] m_is_step := by
  obtain ⟨f, fd, h1, F⟩ := T.f_is_step
  exact fnS_of rfl h1 F.kp (F.binds (ps := ["value", "letters"]) fun _ _ _ _ _ _ us hl => match us, hl with | [_, _], _ => rfl) (ok_is_step T F)
theorem ok_is_a_walk {g : Gb} (T : Tx g) {f : Addr} {fd : FuncData} (F : Fun g.K "is_a_walk" "is_a_walk" s_is_a_walk f fd) : FnOk g.P g.w g.K g.mg g.base CX0 3 f fd ["value", "letters"] (spD g.K 2 m_is_a_walk) := fn_ok F sc_is_a_walk (j_is_a_walk T (F_is_step T))
theorem F_is_a_walk {g : Gb} (T : Tx g) : FnS g 3 "is_a_walk" ["value", "letters"] m_is_a_walk := by
  obtain ⟨f, fd, h1, F⟩ := T.f_is_a_walk
  exact fnS_of rfl h1 F.kp (F.binds (ps := ["value", "letters"]) fun _ _ _ _ _ _ us hl => match us, hl with | [_, _], _ => rfl) (ok_is_a_walk T F)
theorem ok_is_term {g : Gb} (T : Tx g) {f : Addr} {fd : FuncData} (F : Fun g.K "is_term" "is_term" s_is_term f fd) : FnOk g.P g.w g.K g.mg g.base CX0 4 f fd ["letters", "value"] (spD g.K 2 m_is_term) := fn_ok F sc_is_term (j_is_term T (F_straightened T) (F_is_integer T) (F_is_a_walk T))
theorem F_is_term {g : Gb} (T : Tx g) : FnS g 4 "is_term" ["letters", "value"] m_is_term := by
  obtain ⟨f, fd, h1, F⟩ := T.f_is_term
  exact fnS_of rfl h1 F.kp (F.binds (ps := ["letters", "value"]) fun _ _ _ _ _ _ us hl => match us, hl with | [_, _], _ => rfl) (ok_is_term T F)
theorem ok_is_a_chain {g : Gb} (T : Tx g) {f : Addr} {fd : FuncData} (F : Fun g.K "is_a_chain" "is_a_chain" s_is_a_chain f fd) : FnOk g.P g.w g.K g.mg g.base CX0 5 f fd ["letters", "value"] (spD g.K 2 m_is_a_chain) := fn_ok F sc_is_a_chain (j_is_a_chain T (F_walk_key T) (F_is_term T))
theorem F_is_a_chain {g : Gb} (T : Tx g) : FnS g 5 "is_a_chain" ["letters", "value"] m_is_a_chain := by
  obtain ⟨f, fd, h1, F⟩ := T.f_is_a_chain
  exact fnS_of rfl h1 F.kp (F.binds (ps := ["letters", "value"]) fun _ _ _ _ _ _ us hl => match us, hl with | [_, _], _ => rfl) (ok_is_a_chain T F)
theorem ok_need_chain {g : Gb} (T : Tx g) {f : Addr} {fd : FuncData} (F : Fun g.K "need_chain" "need_chain" s_need_chain f fd) : FnOk g.P g.w g.K g.mg g.base CX0 6 f fd ["letters", "chain"] (spD g.K 2 m_need_chain) := fn_ok F sc_need_chain (j_need_chain T (F_is_a_chain T))
theorem F_need_chain {g : Gb} (T : Tx g) : FnS g 6 "need_chain" ["letters", "chain"] m_need_chain := by
  obtain ⟨f, fd, h1, F⟩ := T.f_need_chain
  exact fnS_of rfl h1 F.kp (F.binds (ps := ["letters", "chain"]) fun _ _ _ _ _ _ us hl => match us, hl with | [_, _], _ => rfl) (ok_need_chain T F)
theorem ok_is_letters {g : Gb} (T : Tx g) {f : Addr} {fd : FuncData} (F : Fun g.K "is_letters" "is_letters" s_is_letters f fd) : FnOk g.P g.w g.K g.mg g.base CX0 2 f fd ["value"] (spD g.K 1 m_is_letters) := fn_ok F sc_is_letters (j_is_letters T (F_is_integer T))
theorem F_is_letters {g : Gb} (T : Tx g) : FnS g 2 "is_letters" ["value"] m_is_letters := by
  obtain ⟨f, fd, h1, F⟩ := T.f_is_letters
  exact fnS_of rfl h1 F.kp (F.binds (ps := ["value"]) fun _ _ _ _ _ _ us hl => match us, hl with | [_], _ => rfl) (ok_is_letters T F)
theorem ok_need_letters {g : Gb} (T : Tx g) {f : Addr} {fd : FuncData} (F : Fun g.K "need_letters" "need_letters" s_need_letters f fd) : FnOk g.P g.w g.K g.mg g.base CX0 3 f fd ["letters"] (spD g.K 1 m_need_letters) := fn_ok F sc_need_letters (j_need_letters T (F_is_letters T))
theorem F_need_letters {g : Gb} (T : Tx g) : FnS g 3 "need_letters" ["letters"] m_need_letters := by
  obtain ⟨f, fd, h1, F⟩ := T.f_need_letters
  exact fnS_of rfl h1 F.kp (F.binds (ps := ["letters"]) fun _ _ _ _ _ _ us hl => match us, hl with | [_], _ => rfl) (ok_need_letters T F)
theorem ok_need_two_chains {g : Gb} (T : Tx g) {f : Addr} {fd : FuncData} (F : Fun g.K "need_two_chains" "need_two_chains" s_need_two_chains f fd) : FnOk g.P g.w g.K g.mg g.base CX0 7 f fd ["letters", "one", "other"] (spD g.K 3 m_need_two_chains) := fn_ok F sc_need_two_chains (j_need_two_chains T (F_need_chain T) (F_need_letters T))
theorem F_need_two_chains {g : Gb} (T : Tx g) : FnS g 7 "need_two_chains" ["letters", "one", "other"] m_need_two_chains := by
  obtain ⟨f, fd, h1, F⟩ := T.f_need_two_chains
  exact fnS_of rfl h1 F.kp (F.binds (ps := ["letters", "one", "other"]) fun _ _ _ _ _ _ us hl => match us, hl with | [_, _, _], _ => rfl) (ok_need_two_chains T F)
theorem ok_added {g : Gb} (T : Tx g) {f : Addr} {fd : FuncData} (F : Fun g.K "added" "added" s_added f fd) : FnOk g.P g.w g.K g.mg g.base CX0 8 f fd ["letters", "one", "other"] (spD g.K 3 m_added) := fn_ok F sc_added (j_added T (F_chain_from T) (F_need_two_chains T))
theorem F_added {g : Gb} (T : Tx g) : FnS g 8 "added" ["letters", "one", "other"] m_added := by
  obtain ⟨f, fd, h1, F⟩ := T.f_added
  exact fnS_of rfl h1 F.kp (F.binds (ps := ["letters", "one", "other"]) fun _ _ _ _ _ _ us hl => match us, hl with | [_, _, _], _ => rfl) (ok_added T F)
theorem ok_derivative_of {g : Gb} (T : Tx g) {f : Addr} {fd : FuncData} (F : Fun g.K "derivative_of" "derivative_of" s_derivative_of f fd) : FnOk g.P g.w g.K g.mg g.base CX0 7 f fd ["walk", "letter"] (spD g.K 2 m_derivative_of) := fn_ok F sc_derivative_of (j_derivative_of T (F_chain_from T) (F_straightened T))
theorem F_derivative_of {g : Gb} (T : Tx g) : FnS g 7 "derivative_of" ["walk", "letter"] m_derivative_of := by
  obtain ⟨f, fd, h1, F⟩ := T.f_derivative_of
  exact fnS_of rfl h1 F.kp (F.binds (ps := ["walk", "letter"]) fun _ _ _ _ _ _ us hl => match us, hl with | [_, _], _ => rfl) (ok_derivative_of T F)
theorem ok_need_number {g : Gb} (T : Tx g) {f : Addr} {fd : FuncData} (F : Fun g.K "need_number" "need_number" s_need_number f fd) : FnOk g.P g.w g.K g.mg g.base CX0 1 f fd ["number", "low", "high"] (spD g.K 3 m_need_number) := fn_ok F sc_need_number (j_need_number T)
theorem F_need_number {g : Gb} (T : Tx g) : FnS g 1 "need_number" ["number", "low", "high"] m_need_number := by
  obtain ⟨f, fd, h1, F⟩ := T.f_need_number
  exact fnS_of rfl h1 F.kp (F.binds (ps := ["number", "low", "high"]) fun _ _ _ _ _ _ us hl => match us, hl with | [_, _, _], _ => rfl) (ok_need_number T F)
theorem ok_need_walk {g : Gb} (T : Tx g) {f : Addr} {fd : FuncData} (F : Fun g.K "need_walk" "need_walk" s_need_walk f fd) : FnOk g.P g.w g.K g.mg g.base CX0 4 f fd ["walk", "letters"] (spD g.K 2 m_need_walk) := fn_ok F sc_need_walk (j_need_walk T (F_is_a_walk T))
theorem F_need_walk {g : Gb} (T : Tx g) : FnS g 4 "need_walk" ["walk", "letters"] m_need_walk := by
  obtain ⟨f, fd, h1, F⟩ := T.f_need_walk
  exact fnS_of rfl h1 F.kp (F.binds (ps := ["walk", "letters"]) fun _ _ _ _ _ _ us hl => match us, hl with | [_, _], _ => rfl) (ok_need_walk T F)
theorem ok_derivative {g : Gb} (T : Tx g) {f : Addr} {fd : FuncData} (F : Fun g.K "derivative" "derivative" s_derivative f fd) : FnOk g.P g.w g.K g.mg g.base CX0 8 f fd ["letters", "walk", "k"] (spD g.K 3 m_derivative) := fn_ok F sc_derivative (j_derivative T (F_derivative_of T) (F_need_number T) (F_need_walk T) (F_need_letters T))
theorem F_derivative {g : Gb} (T : Tx g) : FnS g 8 "derivative" ["letters", "walk", "k"] m_derivative := by
  obtain ⟨f, fd, h1, F⟩ := T.f_derivative
  exact fnS_of rfl h1 F.kp (F.binds (ps := ["letters", "walk", "k"]) fun _ _ _ _ _ _ us hl => match us, hl with | [_, _, _], _ => rfl) (ok_derivative T F)
theorem Kw2_derivative {g : Gb} (T : Tx g) : FnK g 8 "derivative" ["letters", "walk", "k"] ["k", "walk", "letters"] 0 [2, 1, 0] m_derivative := by
  obtain ⟨f, fd, h1, F⟩ := T.f_derivative
  refine fnK_of rfl h1 F.kp ?_ (by decide) (ok_derivative T F)
  obtain ⟨oc, od, kV, doc, pm, an, cdv, ct, osl, rfl, lk, hcd⟩ := F.ex
  intro s us ws h2 h3
  match us, ws, h2, h3 with
  | [], [_, _, _], _, _ => exact .of_eq rfl
theorem ok_product_of {g : Gb} (T : Tx g) {f : Addr} {fd : FuncData} (F : Fun g.K "product_of" "product_of" s_product_of f fd) : FnOk g.P g.w g.K g.mg g.base CX0 7 f fd ["one", "other"] (spD g.K 2 m_product_of) := fn_ok F sc_product_of (j_product_of T (F_chain_from T) (F_straightened T))
theorem F_product_of {g : Gb} (T : Tx g) : FnS g 7 "product_of" ["one", "other"] m_product_of := by
  obtain ⟨f, fd, h1, F⟩ := T.f_product_of
  exact fnS_of rfl h1 F.kp (F.binds (ps := ["one", "other"]) fun _ _ _ _ _ _ us hl => match us, hl with | [_, _], _ => rfl) (ok_product_of T F)
theorem ok_product {g : Gb} (T : Tx g) {f : Addr} {fd : FuncData} (F : Fun g.K "product" "product" s_product f fd) : FnOk g.P g.w g.K g.mg g.base CX0 8 f fd ["letters", "one", "other"] (spD g.K 3 m_product) := fn_ok F sc_product (j_product T (F_product_of T) (F_need_two_chains T))
theorem F_product {g : Gb} (T : Tx g) : FnS g 8 "product" ["letters", "one", "other"] m_product := by
  obtain ⟨f, fd, h1, F⟩ := T.f_product
  exact fnS_of rfl h1 F.kp (F.binds (ps := ["letters", "one", "other"]) fun _ _ _ _ _ _ us hl => match us, hl with | [_, _, _], _ => rfl) (ok_product T F)
theorem Kw0_product {g : Gb} (T : Tx g) : FnK g 8 "product" ["letters", "one", "other"] ["other", "one", "letters"] 0 [2, 1, 0] m_product := by
  obtain ⟨f, fd, h1, F⟩ := T.f_product
  refine fnK_of rfl h1 F.kp ?_ (by decide) (ok_product T F)
  obtain ⟨oc, od, kV, doc, pm, an, cdv, ct, osl, rfl, lk, hcd⟩ := F.ex
  intro s us ws h2 h3
  match us, ws, h2, h3 with
  | [], [_, _, _], _, _ => exact .of_eq rfl
theorem ok__law_straight {g : Gb} (T : Tx g) {f : Addr} {fd : FuncData} (F : Fun g.K "_law_straight" "_law_straight" s__law_straight f fd) : FnOk g.P g.w g.K g.mg g.base CX0 1 f fd ["walk"] (spD g.K 1 m__law_straight) := fn_ok F sc__law_straight (j__law_straight T)
theorem F__law_straight {g : Gb} (T : Tx g) : FnS g 1 "_law_straight" ["walk"] m__law_straight := by
  obtain ⟨f, fd, h1, F⟩ := T.f__law_straight
  exact fnS_of rfl h1 F.kp (F.binds (ps := ["walk"]) fun _ _ _ _ _ _ us hl => match us, hl with | [_], _ => rfl) (ok__law_straight T F)
theorem ok__law_take {g : Gb} (T : Tx g) {f : Addr} {fd : FuncData} (F : Fun g.K "_law_take" "_law_take" s__law_take f fd) : FnOk g.P g.w g.K g.mg g.base CX0 1 f fd ["well", "many"] (spD g.K 2 m__law_take) := fn_ok F sc__law_take (j__law_take T)
theorem F__law_take {g : Gb} (T : Tx g) : FnS g 1 "_law_take" ["well", "many"] m__law_take := by
  obtain ⟨f, fd, h1, F⟩ := T.f__law_take
  exact fnS_of rfl h1 F.kp (F.binds (ps := ["well", "many"]) fun _ _ _ _ _ _ us hl => match us, hl with | [_, _], _ => rfl) (ok__law_take T F)
theorem Fs__law_same {g : Gb} (T : Tx g) : ∀ k : Nat, FnS g (0 + k) "_law_same" ["actual", "due"] (ms__law_same k)
  | 0 => by
    obtain ⟨f, fd, h1, F⟩ := T.f__law_same
    exact (fnNoS h1 F.kp (F.binds (ps := ["actual", "due"]) fun _ _ _ _ _ _ us hl => match us, hl with | [_, _], _ => rfl) (fnNo_ok F)).mono (Nat.zero_le _)
  | k + 1 => by
    obtain ⟨f, fd, h1, F⟩ := T.f__law_same
    exact fnS_of (lv := 0 + k + 1) rfl h1 F.kp (F.binds (ps := ["actual", "due"]) fun _ _ _ _ _ _ us hl => match us, hl with | [_, _], _ => rfl) (fn_ok F sc__law_same (j__law_same T (Fs__law_same T k)))
theorem F__law_same {g : Gb} (T : Tx g) : FnS g 8 "_law_same" ["actual", "due"] m__law_same := Fs__law_same T 8
theorem ok_back_to_walk {g : Gb} (T : Tx g) {f : Addr} {fd : FuncData} (F : Fun g.K "back_to_walk" "back_to_walk" s_back_to_walk f fd) : FnOk g.P g.w g.K g.mg g.base CX0 8 f fd ["letters", "walk"] (spD g.K 2 m_back_to_walk) := fn_ok F sc_back_to_walk (j_back_to_walk T (F_chain_from T) (F_product_of T) (F_derivative_of T) (F_need_walk T) (F_need_letters T))
theorem F_back_to_walk {g : Gb} (T : Tx g) : FnS g 8 "back_to_walk" ["letters", "walk"] m_back_to_walk := by
  obtain ⟨f, fd, h1, F⟩ := T.f_back_to_walk
  exact fnS_of rfl h1 F.kp (F.binds (ps := ["letters", "walk"]) fun _ _ _ _ _ _ us hl => match us, hl with | [_, _], _ => rfl) (ok_back_to_walk T F)
theorem Kw1_back_to_walk {g : Gb} (T : Tx g) : FnK g 8 "back_to_walk" ["letters", "walk"] ["walk", "letters"] 0 [1, 0] m_back_to_walk := by
  obtain ⟨f, fd, h1, F⟩ := T.f_back_to_walk
  refine fnK_of rfl h1 F.kp ?_ (by decide) (ok_back_to_walk T F)
  obtain ⟨oc, od, kV, doc, pm, an, cdv, ct, osl, rfl, lk, hcd⟩ := F.ex
  intro s us ws h2 h3
  match us, ws, h2, h3 with
  | [], [_, _], _, _ => exact .of_eq rfl
theorem ok__law_order {g : Gb} (T : Tx g) {f : Addr} {fd : FuncData} (F : Fun g.K "_law_order" "_law_order" s__law_order f fd) : FnOk g.P g.w g.K g.mg g.base CX0 1 f fd ["step"] (spD g.K 1 m__law_order) := fn_ok F sc__law_order (j__law_order T)
theorem F__law_order {g : Gb} (T : Tx g) : FnS g 1 "_law_order" ["step"] m__law_order := by
  obtain ⟨f, fd, h1, F⟩ := T.f__law_order
  exact fnS_of rfl h1 F.kp (F.binds (ps := ["step"]) fun _ _ _ _ _ _ us hl => match us, hl with | [_], _ => rfl) (ok__law_order T F)
theorem ok__law_key {g : Gb} (T : Tx g) {f : Addr} {fd : FuncData} (F : Fun g.K "_law_key" "_law_key" s__law_key f fd) : FnOk g.P g.w g.K g.mg g.base CX0 2 f fd ["walk"] (spD g.K 1 m__law_key) := fn_ok F sc__law_key (j__law_key T (F__law_order T))
theorem F__law_key {g : Gb} (T : Tx g) : FnS g 2 "_law_key" ["walk"] m__law_key := by
  obtain ⟨f, fd, h1, F⟩ := T.f__law_key
  exact fnS_of rfl h1 F.kp (F.binds (ps := ["walk"]) fun _ _ _ _ _ _ us hl => match us, hl with | [_], _ => rfl) (ok__law_key T F)
theorem ok__law_chain {g : Gb} (T : Tx g) {f : Addr} {fd : FuncData} (F : Fun g.K "_law_chain" "_law_chain" s__law_chain f fd) : FnOk g.P g.w g.K g.mg g.base CX0 5 f fd ["terms"] (spD g.K 1 m__law_chain) := fn_ok F sc__law_chain (j__law_chain T (F__law_key T))
theorem F__law_chain {g : Gb} (T : Tx g) : FnS g 5 "_law_chain" ["terms"] m__law_chain := by
  obtain ⟨f, fd, h1, F⟩ := T.f__law_chain
  exact fnS_of rfl h1 F.kp (F.binds (ps := ["terms"]) fun _ _ _ _ _ _ us hl => match us, hl with | [_], _ => rfl) (ok__law_chain T F)
theorem ok__law_derivative {g : Gb} (T : Tx g) {f : Addr} {fd : FuncData} (F : Fun g.K "_law_derivative" "_law_derivative" s__law_derivative f fd) : FnOk g.P g.w g.K g.mg g.base CX0 6 f fd ["walk", "letter"] (spD g.K 2 m__law_derivative) := fn_ok F sc__law_derivative (j__law_derivative T (F__law_chain T) (F__law_straight T))
theorem F__law_derivative {g : Gb} (T : Tx g) : FnS g 6 "_law_derivative" ["walk", "letter"] m__law_derivative := by
  obtain ⟨f, fd, h1, F⟩ := T.f__law_derivative
  exact fnS_of rfl h1 F.kp (F.binds (ps := ["walk", "letter"]) fun _ _ _ _ _ _ us hl => match us, hl with | [_, _], _ => rfl) (ok__law_derivative T F)
theorem ok__law_right {g : Gb} (T : Tx g) {f : Addr} {fd : FuncData} (F : Fun g.K "_law_right" "_law_right" s__law_right f fd) : FnOk g.P g.w g.K g.mg g.base CX0 9 f fd ["letters", "walk"] (spD g.K 2 m__law_right) := fn_ok F sc__law_right (j__law_right T (F__law_same T) (F_back_to_walk T) (F__law_chain T) (F__law_straight T) (F_derivative T) (F__law_derivative T) (Kw1_back_to_walk T) (Kw2_derivative T))
theorem F__law_right {g : Gb} (T : Tx g) : FnS g 9 "_law_right" ["letters", "walk"] m__law_right := by
  obtain ⟨f, fd, h1, F⟩ := T.f__law_right
  exact fnS_of rfl h1 F.kp (F.binds (ps := ["letters", "walk"]) fun _ _ _ _ _ _ us hl => match us, hl with | [_, _], _ => rfl) (ok__law_right T F)
theorem ok__law_steps {g : Gb} (T : Tx g) {f : Addr} {fd : FuncData} (F : Fun g.K "_law_steps" "_law_steps" s__law_steps f fd) : FnOk g.P g.w g.K g.mg g.base CX0 1 f fd ["letters"] (spD g.K 1 m__law_steps) := fn_ok F sc__law_steps (j__law_steps T)
theorem F__law_steps {g : Gb} (T : Tx g) : FnS g 1 "_law_steps" ["letters"] m__law_steps := by
  obtain ⟨f, fd, h1, F⟩ := T.f__law_steps
  exact fnS_of rfl h1 F.kp (F.binds (ps := ["letters"]) fun _ _ _ _ _ _ us hl => match us, hl with | [_], _ => rfl) (ok__law_steps T F)
theorem ok__law_walk {g : Gb} (T : Tx g) {f : Addr} {fd : FuncData} (F : Fun g.K "_law_walk" "_law_walk" s__law_walk f fd) : FnOk g.P g.w g.K g.mg g.base CX0 2 f fd ["well", "letters", "size"] (spD g.K 3 m__law_walk) := fn_ok F sc__law_walk (j__law_walk T (F__law_take T) (F__law_steps T))
theorem F__law_walk {g : Gb} (T : Tx g) : FnS g 2 "_law_walk" ["well", "letters", "size"] m__law_walk := by
  obtain ⟨f, fd, h1, F⟩ := T.f__law_walk
  exact fnS_of rfl h1 F.kp (F.binds (ps := ["well", "letters", "size"]) fun _ _ _ _ _ _ us hl => match us, hl with | [_, _, _], _ => rfl) (ok__law_walk T F)
theorem ok__law_product {g : Gb} (T : Tx g) {f : Addr} {fd : FuncData} (F : Fun g.K "_law_product" "_law_product" s__law_product f fd) : FnOk g.P g.w g.K g.mg g.base CX0 6 f fd ["one", "other"] (spD g.K 2 m__law_product) := fn_ok F sc__law_product (j__law_product T (F__law_chain T) (F__law_straight T))
theorem F__law_product {g : Gb} (T : Tx g) : FnS g 6 "_law_product" ["one", "other"] m__law_product := by
  obtain ⟨f, fd, h1, F⟩ := T.f__law_product
  exact fnS_of rfl h1 F.kp (F.binds (ps := ["one", "other"]) fun _ _ _ _ _ _ us hl => match us, hl with | [_, _], _ => rfl) (ok__law_product T F)
theorem ok__law_clean {g : Gb} (T : Tx g) {f : Addr} {fd : FuncData} (F : Fun g.K "_law_clean" "_law_clean" s__law_clean f fd) : FnOk g.P g.w g.K g.mg g.base CX0 2 f fd ["well", "letters", "size"] (spD g.K 3 m__law_clean) := fn_ok F sc__law_clean (j__law_clean T (F__law_take T) (F__law_steps T))
theorem F__law_clean {g : Gb} (T : Tx g) : FnS g 2 "_law_clean" ["well", "letters", "size"] m__law_clean := by
  obtain ⟨f, fd, h1, F⟩ := T.f__law_clean
  exact fnS_of rfl h1 F.kp (F.binds (ps := ["well", "letters", "size"]) fun _ _ _ _ _ _ us hl => match us, hl with | [_, _, _], _ => rfl) (ok__law_clean T F)
theorem ok__law_drawn_chain {g : Gb} (T : Tx g) {f : Addr} {fd : FuncData} (F : Fun g.K "_law_drawn_chain" "_law_drawn_chain" s__law_drawn_chain f fd) : FnOk g.P g.w g.K g.mg g.base CX0 6 f fd ["well", "letters", "most", "size"] (spD g.K 4 m__law_drawn_chain) := fn_ok F sc__law_drawn_chain (j__law_drawn_chain T (F__law_chain T) (F__law_take T) (F__law_clean T))
theorem F__law_drawn_chain {g : Gb} (T : Tx g) : FnS g 6 "_law_drawn_chain" ["well", "letters", "most", "size"] m__law_drawn_chain := by
  obtain ⟨f, fd, h1, F⟩ := T.f__law_drawn_chain
  exact fnS_of rfl h1 F.kp (F.binds (ps := ["well", "letters", "most", "size"]) fun _ _ _ _ _ _ us hl => match us, hl with | [_, _, _, _], _ => rfl) (ok__law_drawn_chain T F)
theorem ok__law_well {g : Gb} (T : Tx g) {f : Addr} {fd : FuncData} (F : Fun g.K "_law_well" "_law_well" s__law_well f fd) : FnOk g.P g.w g.K g.mg g.base CX0 1 f fd ["script", "k"] (spD g.K 2 m__law_well) := fn_ok F sc__law_well (j__law_well T)
theorem F__law_well {g : Gb} (T : Tx g) : FnS g 1 "_law_well" ["script", "k"] m__law_well := by
  obtain ⟨f, fd, h1, F⟩ := T.f__law_well
  exact fnS_of rfl h1 F.kp (F.binds (ps := ["script", "k"]) fun _ _ _ _ _ _ us hl => match us, hl with | [_, _], _ => rfl) (ok__law_well T F)
theorem ok_law {g : Gb} (T : Tx g) {f : Addr} {fd : FuncData} (F : Fun g.K "law" "law" s_law f fd) : FnOk g.P g.w g.K g.mg g.base CX0 10 f fd ["script"] (spD g.K 1 m_law) := fn_ok F sc_law (j_law T (F_added T) (F_derivative T) (F_product T) (F__law_straight T) (F__law_take T) (F__law_right T) (F__law_walk T) (F__law_same T) (F__law_product T) (F__law_drawn_chain T) (F__law_well T) (Kw0_product T))
theorem F_law {g : Gb} (T : Tx g) : FnS g 10 "law" ["script"] m_law := by
  obtain ⟨f, fd, h1, F⟩ := T.f_law
  exact fnS_of rfl h1 F.kp (F.binds (ps := ["script"]) fun _ _ _ _ _ _ us hl => match us, hl with | [_], _ => rfl) (ok_law T F)
/-! ### the end: what the top has left -/
theorem all_mk {l : PySem.W.OpenLaw} {w : World} {K : PySem.W.Frag} {h : Heap} {mg : Str → Option Value} {fa : Addr} (X : K.In h) (G : h.Ns mainGlobals mg) (hfa : mg "law" = some (.ref fa))
    {f0 : Addr} {od0 an0 : Option Addr} {sl0 : Array (Option Value)} {oc0 kV0 dc0 pm0 cd0 ct0 : Value}
    (a0 : PySem.W.nsIn K mainGlobals "step_order" = some (some (.ref f0))) (l0 : K.lookup f0 = some ⟨oc0, od0, .func (PySem.W.fnOf "step_order" "step_order" (defArgs s_step_order) (defBody s_step_order) (defScope s_step_order) .none kV0 dc0 pm0 an0 cd0 ct0), sl0⟩) (c0 : PySem.W.codeIn K cd0 "step_order" = true) (k0 : PySem.W.keepIn K (.ref f0) = true)
    {f1 : Addr} {od1 an1 : Option Addr} {sl1 : Array (Option Value)} {oc1 kV1 dc1 pm1 cd1 ct1 : Value}
    (a1 : PySem.W.nsIn K mainGlobals "walk_key" = some (some (.ref f1))) (l1 : K.lookup f1 = some ⟨oc1, od1, .func (PySem.W.fnOf "walk_key" "walk_key" (defArgs s_walk_key) (defBody s_walk_key) (defScope s_walk_key) .none kV1 dc1 pm1 an1 cd1 ct1), sl1⟩) (c1 : PySem.W.codeIn K cd1 "walk_key" = true) (k1 : PySem.W.keepIn K (.ref f1) = true)
    {f2 : Addr} {od2 an2 : Option Addr} {sl2 : Array (Option Value)} {oc2 kV2 dc2 pm2 cd2 ct2 : Value}
    (a2 : PySem.W.nsIn K mainGlobals "term_key" = some (some (.ref f2))) (l2 : K.lookup f2 = some ⟨oc2, od2, .func (PySem.W.fnOf "term_key" "term_key" (defArgs s_term_key) (defBody s_term_key) (defScope s_term_key) .none kV2 dc2 pm2 an2 cd2 ct2), sl2⟩) (c2 : PySem.W.codeIn K cd2 "term_key" = true) (k2 : PySem.W.keepIn K (.ref f2) = true)
    {f3 : Addr} {od3 an3 : Option Addr} {sl3 : Array (Option Value)} {oc3 kV3 dc3 pm3 cd3 ct3 : Value}
    (a3 : PySem.W.nsIn K mainGlobals "chain_from" = some (some (.ref f3))) (l3 : K.lookup f3 = some ⟨oc3, od3, .func (PySem.W.fnOf "chain_from" "chain_from" (defArgs s_chain_from) (defBody s_chain_from) (defScope s_chain_from) .none kV3 dc3 pm3 an3 cd3 ct3), sl3⟩) (c3 : PySem.W.codeIn K cd3 "chain_from" = true) (k3 : PySem.W.keepIn K (.ref f3) = true)
    {f4 : Addr} {od4 an4 : Option Addr} {sl4 : Array (Option Value)} {oc4 kV4 dc4 pm4 cd4 ct4 : Value}
    (a4 : PySem.W.nsIn K mainGlobals "straightened" = some (some (.ref f4))) (l4 : K.lookup f4 = some ⟨oc4, od4, .func (PySem.W.fnOf "straightened" "straightened" (defArgs s_straightened) (defBody s_straightened) (defScope s_straightened) .none kV4 dc4 pm4 an4 cd4 ct4), sl4⟩) (c4 : PySem.W.codeIn K cd4 "straightened" = true) (k4 : PySem.W.keepIn K (.ref f4) = true)
    {f5 : Addr} {od5 an5 : Option Addr} {sl5 : Array (Option Value)} {oc5 kV5 dc5 pm5 cd5 ct5 : Value}
    (a5 : PySem.W.nsIn K mainGlobals "is_integer" = some (some (.ref f5))) (l5 : K.lookup f5 = some ⟨oc5, od5, .func (PySem.W.fnOf "is_integer" "is_integer" (defArgs s_is_integer) (defBody s_is_integer) (defScope s_is_integer) .none kV5 dc5 pm5 an5 cd5 ct5), sl5⟩) (c5 : PySem.W.codeIn K cd5 "is_integer" = true) (k5 : PySem.W.keepIn K (.ref f5) = true)
    {f6 : Addr} {od6 an6 : Option Addr} {sl6 : Array (Option Value)} {oc6 kV6 dc6 pm6 cd6 ct6 : Value}
    (a6 : PySem.W.nsIn K mainGlobals "is_step" = some (some (.ref f6))) (l6 : K.lookup f6 = some ⟨oc6, od6, .func (PySem.W.fnOf "is_step" "is_step" (defArgs s_is_step) (defBody s_is_step) (defScope s_is_step) .none kV6 dc6 pm6 an6 cd6 ct6), sl6⟩) (c6 : PySem.W.codeIn K cd6 "is_step" = true) (k6 : PySem.W.keepIn K (.ref f6) = true)
    {f7 : Addr} {od7 an7 : Option Addr} {sl7 : Array (Option Value)} {oc7 kV7 dc7 pm7 cd7 ct7 : Value}
    (a7 : PySem.W.nsIn K mainGlobals "is_a_walk" = some (some (.ref f7))) (l7 : K.lookup f7 = some ⟨oc7, od7, .func (PySem.W.fnOf "is_a_walk" "is_a_walk" (defArgs s_is_a_walk) (defBody s_is_a_walk) (defScope s_is_a_walk) .none kV7 dc7 pm7 an7 cd7 ct7), sl7⟩) (c7 : PySem.W.codeIn K cd7 "is_a_walk" = true) (k7 : PySem.W.keepIn K (.ref f7) = true)
    {f8 : Addr} {od8 an8 : Option Addr} {sl8 : Array (Option Value)} {oc8 kV8 dc8 pm8 cd8 ct8 : Value}
    (a8 : PySem.W.nsIn K mainGlobals "is_term" = some (some (.ref f8))) (l8 : K.lookup f8 = some ⟨oc8, od8, .func (PySem.W.fnOf "is_term" "is_term" (defArgs s_is_term) (defBody s_is_term) (defScope s_is_term) .none kV8 dc8 pm8 an8 cd8 ct8), sl8⟩) (c8 : PySem.W.codeIn K cd8 "is_term" = true) (k8 : PySem.W.keepIn K (.ref f8) = true)
    {f9 : Addr} {od9 an9 : Option Addr} {sl9 : Array (Option Value)} {oc9 kV9 dc9 pm9 cd9 ct9 : Value}
    (a9 : PySem.W.nsIn K mainGlobals "is_a_chain" = some (some (.ref f9))) (l9 : K.lookup f9 = some ⟨oc9, od9, .func (PySem.W.fnOf "is_a_chain" "is_a_chain" (defArgs s_is_a_chain) (defBody s_is_a_chain) (defScope s_is_a_chain) .none kV9 dc9 pm9 an9 cd9 ct9), sl9⟩) (c9 : PySem.W.codeIn K cd9 "is_a_chain" = true) (k9 : PySem.W.keepIn K (.ref f9) = true)
    {f10 : Addr} {od10 an10 : Option Addr} {sl10 : Array (Option Value)} {oc10 kV10 dc10 pm10 cd10 ct10 : Value}
    (a10 : PySem.W.nsIn K mainGlobals "need_chain" = some (some (.ref f10))) (l10 : K.lookup f10 = some ⟨oc10, od10, .func (PySem.W.fnOf "need_chain" "need_chain" (defArgs s_need_chain) (defBody s_need_chain) (defScope s_need_chain) .none kV10 dc10 pm10 an10 cd10 ct10), sl10⟩) (c10 : PySem.W.codeIn K cd10 "need_chain" = true) (k10 : PySem.W.keepIn K (.ref f10) = true)
    {f11 : Addr} {od11 an11 : Option Addr} {sl11 : Array (Option Value)} {oc11 kV11 dc11 pm11 cd11 ct11 : Value}
    (a11 : PySem.W.nsIn K mainGlobals "is_letters" = some (some (.ref f11))) (l11 : K.lookup f11 = some ⟨oc11, od11, .func (PySem.W.fnOf "is_letters" "is_letters" (defArgs s_is_letters) (defBody s_is_letters) (defScope s_is_letters) .none kV11 dc11 pm11 an11 cd11 ct11), sl11⟩) (c11 : PySem.W.codeIn K cd11 "is_letters" = true) (k11 : PySem.W.keepIn K (.ref f11) = true)
    {f12 : Addr} {od12 an12 : Option Addr} {sl12 : Array (Option Value)} {oc12 kV12 dc12 pm12 cd12 ct12 : Value}
    (a12 : PySem.W.nsIn K mainGlobals "need_letters" = some (some (.ref f12))) (l12 : K.lookup f12 = some ⟨oc12, od12, .func (PySem.W.fnOf "need_letters" "need_letters" (defArgs s_need_letters) (defBody s_need_letters) (defScope s_need_letters) .none kV12 dc12 pm12 an12 cd12 ct12), sl12⟩) (c12 : PySem.W.codeIn K cd12 "need_letters" = true) (k12 : PySem.W.keepIn K (.ref f12) = true)
    {f13 : Addr} {od13 an13 : Option Addr} {sl13 : Array (Option Value)} {oc13 kV13 dc13 pm13 cd13 ct13 : Value}
    (a13 : PySem.W.nsIn K mainGlobals "need_two_chains" = some (some (.ref f13))) (l13 : K.lookup f13 = some ⟨oc13, od13, .func (PySem.W.fnOf "need_two_chains" "need_two_chains" (defArgs s_need_two_chains) (defBody s_need_two_chains) (defScope s_need_two_chains) .none kV13 dc13 pm13 an13 cd13 ct13), sl13⟩) (c13 : PySem.W.codeIn K cd13 "need_two_chains" = true) (k13 : PySem.W.keepIn K (.ref f13) = true)
    {f14 : Addr} {od14 an14 : Option Addr} {sl14 : Array (Option Value)} {oc14 kV14 dc14 pm14 cd14 ct14 : Value}
    (a14 : PySem.W.nsIn K mainGlobals "added" = some (some (.ref f14))) (l14 : K.lookup f14 = some ⟨oc14, od14, .func (PySem.W.fnOf "added" "added" (defArgs s_added) (defBody s_added) (defScope s_added) .none kV14 dc14 pm14 an14 cd14 ct14), sl14⟩) (c14 : PySem.W.codeIn K cd14 "added" = true) (k14 : PySem.W.keepIn K (.ref f14) = true)
    {f15 : Addr} {od15 an15 : Option Addr} {sl15 : Array (Option Value)} {oc15 kV15 dc15 pm15 cd15 ct15 : Value}
    (a15 : PySem.W.nsIn K mainGlobals "derivative_of" = some (some (.ref f15))) (l15 : K.lookup f15 = some ⟨oc15, od15, .func (PySem.W.fnOf "derivative_of" "derivative_of" (defArgs s_derivative_of) (defBody s_derivative_of) (defScope s_derivative_of) .none kV15 dc15 pm15 an15 cd15 ct15), sl15⟩) (c15 : PySem.W.codeIn K cd15 "derivative_of" = true) (k15 : PySem.W.keepIn K (.ref f15) = true)
    {f16 : Addr} {od16 an16 : Option Addr} {sl16 : Array (Option Value)} {oc16 kV16 dc16 pm16 cd16 ct16 : Value}
    (a16 : PySem.W.nsIn K mainGlobals "need_number" = some (some (.ref f16))) (l16 : K.lookup f16 = some ⟨oc16, od16, .func (PySem.W.fnOf "need_number" "need_number" (defArgs s_need_number) (defBody s_need_number) (defScope s_need_number) .none kV16 dc16 pm16 an16 cd16 ct16), sl16⟩) (c16 : PySem.W.codeIn K cd16 "need_number" = true) (k16 : PySem.W.keepIn K (.ref f16) = true)
    {f17 : Addr} {od17 an17 : Option Addr} {sl17 : Array (Option Value)} {oc17 kV17 dc17 pm17 cd17 ct17 : Value}
    (a17 : PySem.W.nsIn K mainGlobals "need_walk" = some (some (.ref f17))) (l17 : K.lookup f17 = some ⟨oc17, od17, .func (PySem.W.fnOf "need_walk" "need_walk" (defArgs s_need_walk) (defBody s_need_walk) (defScope s_need_walk) .none kV17 dc17 pm17 an17 cd17 ct17), sl17⟩) (c17 : PySem.W.codeIn K cd17 "need_walk" = true) (k17 : PySem.W.keepIn K (.ref f17) = true)
    {f18 : Addr} {od18 an18 : Option Addr} {sl18 : Array (Option Value)} {oc18 kV18 dc18 pm18 cd18 ct18 : Value}
    (a18 : PySem.W.nsIn K mainGlobals "derivative" = some (some (.ref f18))) (l18 : K.lookup f18 = some ⟨oc18, od18, .func (PySem.W.fnOf "derivative" "derivative" (defArgs s_derivative) (defBody s_derivative) (defScope s_derivative) .none kV18 dc18 pm18 an18 cd18 ct18), sl18⟩) (c18 : PySem.W.codeIn K cd18 "derivative" = true) (k18 : PySem.W.keepIn K (.ref f18) = true)
    {f19 : Addr} {od19 an19 : Option Addr} {sl19 : Array (Option Value)} {oc19 kV19 dc19 pm19 cd19 ct19 : Value}
    (a19 : PySem.W.nsIn K mainGlobals "product_of" = some (some (.ref f19))) (l19 : K.lookup f19 = some ⟨oc19, od19, .func (PySem.W.fnOf "product_of" "product_of" (defArgs s_product_of) (defBody s_product_of) (defScope s_product_of) .none kV19 dc19 pm19 an19 cd19 ct19), sl19⟩) (c19 : PySem.W.codeIn K cd19 "product_of" = true) (k19 : PySem.W.keepIn K (.ref f19) = true)
    {f20 : Addr} {od20 an20 : Option Addr} {sl20 : Array (Option Value)} {oc20 kV20 dc20 pm20 cd20 ct20 : Value}
    (a20 : PySem.W.nsIn K mainGlobals "product" = some (some (.ref f20))) (l20 : K.lookup f20 = some ⟨oc20, od20, .func (PySem.W.fnOf "product" "product" (defArgs s_product) (defBody s_product) (defScope s_product) .none kV20 dc20 pm20 an20 cd20 ct20), sl20⟩) (c20 : PySem.W.codeIn K cd20 "product" = true) (k20 : PySem.W.keepIn K (.ref f20) = true)
    {f21 : Addr} {od21 an21 : Option Addr} {sl21 : Array (Option Value)} {oc21 kV21 dc21 pm21 cd21 ct21 : Value}
    (a21 : PySem.W.nsIn K mainGlobals "_law_straight" = some (some (.ref f21))) (l21 : K.lookup f21 = some ⟨oc21, od21, .func (PySem.W.fnOf "_law_straight" "_law_straight" (defArgs s__law_straight) (defBody s__law_straight) (defScope s__law_straight) .none kV21 dc21 pm21 an21 cd21 ct21), sl21⟩) (c21 : PySem.W.codeIn K cd21 "_law_straight" = true) (k21 : PySem.W.keepIn K (.ref f21) = true)
    {f22 : Addr} {od22 an22 : Option Addr} {sl22 : Array (Option Value)} {oc22 kV22 dc22 pm22 cd22 ct22 : Value}
    (a22 : PySem.W.nsIn K mainGlobals "_law_take" = some (some (.ref f22))) (l22 : K.lookup f22 = some ⟨oc22, od22, .func (PySem.W.fnOf "_law_take" "_law_take" (defArgs s__law_take) (defBody s__law_take) (defScope s__law_take) .none kV22 dc22 pm22 an22 cd22 ct22), sl22⟩) (c22 : PySem.W.codeIn K cd22 "_law_take" = true) (k22 : PySem.W.keepIn K (.ref f22) = true)
    {f23 : Addr} {od23 an23 : Option Addr} {sl23 : Array (Option Value)} {oc23 kV23 dc23 pm23 cd23 ct23 : Value}
    (a23 : PySem.W.nsIn K mainGlobals "_law_same" = some (some (.ref f23))) (l23 : K.lookup f23 = some ⟨oc23, od23, .func (PySem.W.fnOf "_law_same" "_law_same" (defArgs s__law_same) (defBody s__law_same) (defScope s__law_same) .none kV23 dc23 pm23 an23 cd23 ct23), sl23⟩) (c23 : PySem.W.codeIn K cd23 "_law_same" = true) (k23 : PySem.W.keepIn K (.ref f23) = true)
    {f24 : Addr} {od24 an24 : Option Addr} {sl24 : Array (Option Value)} {oc24 kV24 dc24 pm24 cd24 ct24 : Value}
    (a24 : PySem.W.nsIn K mainGlobals "back_to_walk" = some (some (.ref f24))) (l24 : K.lookup f24 = some ⟨oc24, od24, .func (PySem.W.fnOf "back_to_walk" "back_to_walk" (defArgs s_back_to_walk) (defBody s_back_to_walk) (defScope s_back_to_walk) .none kV24 dc24 pm24 an24 cd24 ct24), sl24⟩) (c24 : PySem.W.codeIn K cd24 "back_to_walk" = true) (k24 : PySem.W.keepIn K (.ref f24) = true)
    {f25 : Addr} {od25 an25 : Option Addr} {sl25 : Array (Option Value)} {oc25 kV25 dc25 pm25 cd25 ct25 : Value}
    (a25 : PySem.W.nsIn K mainGlobals "_law_order" = some (some (.ref f25))) (l25 : K.lookup f25 = some ⟨oc25, od25, .func (PySem.W.fnOf "_law_order" "_law_order" (defArgs s__law_order) (defBody s__law_order) (defScope s__law_order) .none kV25 dc25 pm25 an25 cd25 ct25), sl25⟩) (c25 : PySem.W.codeIn K cd25 "_law_order" = true) (k25 : PySem.W.keepIn K (.ref f25) = true)
    {f26 : Addr} {od26 an26 : Option Addr} {sl26 : Array (Option Value)} {oc26 kV26 dc26 pm26 cd26 ct26 : Value}
    (a26 : PySem.W.nsIn K mainGlobals "_law_key" = some (some (.ref f26))) (l26 : K.lookup f26 = some ⟨oc26, od26, .func (PySem.W.fnOf "_law_key" "_law_key" (defArgs s__law_key) (defBody s__law_key) (defScope s__law_key) .none kV26 dc26 pm26 an26 cd26 ct26), sl26⟩) (c26 : PySem.W.codeIn K cd26 "_law_key" = true) (k26 : PySem.W.keepIn K (.ref f26) = true)
    {f27 : Addr} {od27 an27 : Option Addr} {sl27 : Array (Option Value)} {oc27 kV27 dc27 pm27 cd27 ct27 : Value}
    (a27 : PySem.W.nsIn K mainGlobals "_law_chain" = some (some (.ref f27))) (l27 : K.lookup f27 = some ⟨oc27, od27, .func (PySem.W.fnOf "_law_chain" "_law_chain" (defArgs s__law_chain) (defBody s__law_chain) (defScope s__law_chain) .none kV27 dc27 pm27 an27 cd27 ct27), sl27⟩) (c27 : PySem.W.codeIn K cd27 "_law_chain" = true) (k27 : PySem.W.keepIn K (.ref f27) = true)
    {f28 : Addr} {od28 an28 : Option Addr} {sl28 : Array (Option Value)} {oc28 kV28 dc28 pm28 cd28 ct28 : Value}
    (a28 : PySem.W.nsIn K mainGlobals "_law_derivative" = some (some (.ref f28))) (l28 : K.lookup f28 = some ⟨oc28, od28, .func (PySem.W.fnOf "_law_derivative" "_law_derivative" (defArgs s__law_derivative) (defBody s__law_derivative) (defScope s__law_derivative) .none kV28 dc28 pm28 an28 cd28 ct28), sl28⟩) (c28 : PySem.W.codeIn K cd28 "_law_derivative" = true) (k28 : PySem.W.keepIn K (.ref f28) = true)
    {f29 : Addr} {od29 an29 : Option Addr} {sl29 : Array (Option Value)} {oc29 kV29 dc29 pm29 cd29 ct29 : Value}
    (a29 : PySem.W.nsIn K mainGlobals "_law_right" = some (some (.ref f29))) (l29 : K.lookup f29 = some ⟨oc29, od29, .func (PySem.W.fnOf "_law_right" "_law_right" (defArgs s__law_right) (defBody s__law_right) (defScope s__law_right) .none kV29 dc29 pm29 an29 cd29 ct29), sl29⟩) (c29 : PySem.W.codeIn K cd29 "_law_right" = true) (k29 : PySem.W.keepIn K (.ref f29) = true)
    {f30 : Addr} {od30 an30 : Option Addr} {sl30 : Array (Option Value)} {oc30 kV30 dc30 pm30 cd30 ct30 : Value}
    (a30 : PySem.W.nsIn K mainGlobals "_law_steps" = some (some (.ref f30))) (l30 : K.lookup f30 = some ⟨oc30, od30, .func (PySem.W.fnOf "_law_steps" "_law_steps" (defArgs s__law_steps) (defBody s__law_steps) (defScope s__law_steps) .none kV30 dc30 pm30 an30 cd30 ct30), sl30⟩) (c30 : PySem.W.codeIn K cd30 "_law_steps" = true) (k30 : PySem.W.keepIn K (.ref f30) = true)
    {f31 : Addr} {od31 an31 : Option Addr} {sl31 : Array (Option Value)} {oc31 kV31 dc31 pm31 cd31 ct31 : Value}
    (a31 : PySem.W.nsIn K mainGlobals "_law_walk" = some (some (.ref f31))) (l31 : K.lookup f31 = some ⟨oc31, od31, .func (PySem.W.fnOf "_law_walk" "_law_walk" (defArgs s__law_walk) (defBody s__law_walk) (defScope s__law_walk) .none kV31 dc31 pm31 an31 cd31 ct31), sl31⟩) (c31 : PySem.W.codeIn K cd31 "_law_walk" = true) (k31 : PySem.W.keepIn K (.ref f31) = true)
    {f32 : Addr} {od32 an32 : Option Addr} {sl32 : Array (Option Value)} {oc32 kV32 dc32 pm32 cd32 ct32 : Value}
    (a32 : PySem.W.nsIn K mainGlobals "_law_product" = some (some (.ref f32))) (l32 : K.lookup f32 = some ⟨oc32, od32, .func (PySem.W.fnOf "_law_product" "_law_product" (defArgs s__law_product) (defBody s__law_product) (defScope s__law_product) .none kV32 dc32 pm32 an32 cd32 ct32), sl32⟩) (c32 : PySem.W.codeIn K cd32 "_law_product" = true) (k32 : PySem.W.keepIn K (.ref f32) = true)
    {f33 : Addr} {od33 an33 : Option Addr} {sl33 : Array (Option Value)} {oc33 kV33 dc33 pm33 cd33 ct33 : Value}
    (a33 : PySem.W.nsIn K mainGlobals "_law_clean" = some (some (.ref f33))) (l33 : K.lookup f33 = some ⟨oc33, od33, .func (PySem.W.fnOf "_law_clean" "_law_clean" (defArgs s__law_clean) (defBody s__law_clean) (defScope s__law_clean) .none kV33 dc33 pm33 an33 cd33 ct33), sl33⟩) (c33 : PySem.W.codeIn K cd33 "_law_clean" = true) (k33 : PySem.W.keepIn K (.ref f33) = true)
    {f34 : Addr} {od34 an34 : Option Addr} {sl34 : Array (Option Value)} {oc34 kV34 dc34 pm34 cd34 ct34 : Value}
    (a34 : PySem.W.nsIn K mainGlobals "_law_drawn_chain" = some (some (.ref f34))) (l34 : K.lookup f34 = some ⟨oc34, od34, .func (PySem.W.fnOf "_law_drawn_chain" "_law_drawn_chain" (defArgs s__law_drawn_chain) (defBody s__law_drawn_chain) (defScope s__law_drawn_chain) .none kV34 dc34 pm34 an34 cd34 ct34), sl34⟩) (c34 : PySem.W.codeIn K cd34 "_law_drawn_chain" = true) (k34 : PySem.W.keepIn K (.ref f34) = true)
    {f35 : Addr} {od35 an35 : Option Addr} {sl35 : Array (Option Value)} {oc35 kV35 dc35 pm35 cd35 ct35 : Value}
    (a35 : PySem.W.nsIn K mainGlobals "_law_well" = some (some (.ref f35))) (l35 : K.lookup f35 = some ⟨oc35, od35, .func (PySem.W.fnOf "_law_well" "_law_well" (defArgs s__law_well) (defBody s__law_well) (defScope s__law_well) .none kV35 dc35 pm35 an35 cd35 ct35), sl35⟩) (c35 : PySem.W.codeIn K cd35 "_law_well" = true) (k35 : PySem.W.keepIn K (.ref f35) = true)
    {f36 : Addr} {od36 an36 : Option Addr} {sl36 : Array (Option Value)} {oc36 kV36 dc36 pm36 cd36 ct36 : Value}
    (a36 : PySem.W.nsIn K mainGlobals "law" = some (some (.ref f36))) (l36 : K.lookup f36 = some ⟨oc36, od36, .func (PySem.W.fnOf "law" "law" (defArgs s_law) (defBody s_law) (defScope s_law) .none kV36 dc36 pm36 an36 cd36 ct36), sl36⟩) (c36 : PySem.W.codeIn K cd36 "law" = true) (k36 : PySem.W.keepIn K (.ref f36) = true)
    (z0 : PySem.W.nsIn K mainGlobals "abs" = some none)
    (z1 : PySem.W.nsIn K mainGlobals "all" = some none)
    (z2 : PySem.W.nsIn K mainGlobals "bool" = some none)
    (z3 : PySem.W.nsIn K mainGlobals "enumerate" = some none)
    (z4 : PySem.W.nsIn K mainGlobals "int" = some none)
    (z5 : PySem.W.nsIn K mainGlobals "isinstance" = some none)
    (z6 : PySem.W.nsIn K mainGlobals "len" = some none)
    (z7 : PySem.W.nsIn K mainGlobals "list" = some none)
    (z8 : PySem.W.nsIn K mainGlobals "max" = some none)
    (z9 : PySem.W.nsIn K mainGlobals "min" = some none)
    (z10 : PySem.W.nsIn K mainGlobals "range" = some none)
    (z11 : PySem.W.nsIn K mainGlobals "sorted" = some none)
    (z12 : PySem.W.nsIn K mainGlobals "str" = some none)
    (z13 : PySem.W.nsIn K mainGlobals "tuple" = some none)
    (z14 : PySem.W.nsIn K mainGlobals "zip" = some none)
    {t0 : Tok} (q0 : PySem.W.nsIn K mainGlobals "MOST_LETTERS" = some (some (.int 4 t0)))
    : ∃ fd : FuncData, (∀ (s : Shared) (v : Value), BindsTo s fd ⟨[v], []⟩ [("script", v)]) ∧ ∀ base : Heap, K.In base → base.Ns mainGlobals mg → FnOk l.prog w K mg base CX0 10 fa fd ["script"] (spD K 1 m_law) := by
  have e := hfa.symm.trans (PySem.W.mg_of X G a36)
  cases e
  refine ⟨PySem.W.fnOf "law" "law" (defArgs s_law) (defBody s_law) (defScope s_law) .none kV36 dc36 pm36 an36 cd36 ct36, fun s v => .of_eq rfl, fun base _ _ => ?_⟩
  have T : Tx ⟨l.prog, w, K, mg, base⟩ := {
    b_abs := PySem.W.mg_none_of X G z0
    b_all := PySem.W.mg_none_of X G z1
    b_bool := PySem.W.mg_none_of X G z2
    b_enumerate := PySem.W.mg_none_of X G z3
    b_int := PySem.W.mg_none_of X G z4
    b_isinstance := PySem.W.mg_none_of X G z5
    b_len := PySem.W.mg_none_of X G z6
    b_list := PySem.W.mg_none_of X G z7
    b_max := PySem.W.mg_none_of X G z8
    b_min := PySem.W.mg_none_of X G z9
    b_range := PySem.W.mg_none_of X G z10
    b_sorted := PySem.W.mg_none_of X G z11
    b_str := PySem.W.mg_none_of X G z12
    b_tuple := PySem.W.mg_none_of X G z13
    b_zip := PySem.W.mg_none_of X G z14
    k_MOST_LETTERS := ⟨_, PySem.W.mg_of X G q0⟩
    f_step_order := ⟨_, _, PySem.W.mg_of X G a0, fun_mk (st := s_step_order) l0 c0 k0⟩
    f_walk_key := ⟨_, _, PySem.W.mg_of X G a1, fun_mk (st := s_walk_key) l1 c1 k1⟩
    f_term_key := ⟨_, _, PySem.W.mg_of X G a2, fun_mk (st := s_term_key) l2 c2 k2⟩
    f_chain_from := ⟨_, _, PySem.W.mg_of X G a3, fun_mk (st := s_chain_from) l3 c3 k3⟩
    f_straightened := ⟨_, _, PySem.W.mg_of X G a4, fun_mk (st := s_straightened) l4 c4 k4⟩
    f_is_integer := ⟨_, _, PySem.W.mg_of X G a5, fun_mk (st := s_is_integer) l5 c5 k5⟩
    f_is_step := ⟨_, _, PySem.W.mg_of X G a6, fun_mk (st := s_is_step) l6 c6 k6⟩
    f_is_a_walk := ⟨_, _, PySem.W.mg_of X G a7, fun_mk (st := s_is_a_walk) l7 c7 k7⟩
    f_is_term := ⟨_, _, PySem.W.mg_of X G a8, fun_mk (st := s_is_term) l8 c8 k8⟩
    f_is_a_chain := ⟨_, _, PySem.W.mg_of X G a9, fun_mk (st := s_is_a_chain) l9 c9 k9⟩
    f_need_chain := ⟨_, _, PySem.W.mg_of X G a10, fun_mk (st := s_need_chain) l10 c10 k10⟩
    f_is_letters := ⟨_, _, PySem.W.mg_of X G a11, fun_mk (st := s_is_letters) l11 c11 k11⟩
    f_need_letters := ⟨_, _, PySem.W.mg_of X G a12, fun_mk (st := s_need_letters) l12 c12 k12⟩
    f_need_two_chains := ⟨_, _, PySem.W.mg_of X G a13, fun_mk (st := s_need_two_chains) l13 c13 k13⟩
    f_added := ⟨_, _, PySem.W.mg_of X G a14, fun_mk (st := s_added) l14 c14 k14⟩
    f_derivative_of := ⟨_, _, PySem.W.mg_of X G a15, fun_mk (st := s_derivative_of) l15 c15 k15⟩
    f_need_number := ⟨_, _, PySem.W.mg_of X G a16, fun_mk (st := s_need_number) l16 c16 k16⟩
    f_need_walk := ⟨_, _, PySem.W.mg_of X G a17, fun_mk (st := s_need_walk) l17 c17 k17⟩
    f_derivative := ⟨_, _, PySem.W.mg_of X G a18, fun_mk (st := s_derivative) l18 c18 k18⟩
    f_product_of := ⟨_, _, PySem.W.mg_of X G a19, fun_mk (st := s_product_of) l19 c19 k19⟩
    f_product := ⟨_, _, PySem.W.mg_of X G a20, fun_mk (st := s_product) l20 c20 k20⟩
    f__law_straight := ⟨_, _, PySem.W.mg_of X G a21, fun_mk (st := s__law_straight) l21 c21 k21⟩
    f__law_take := ⟨_, _, PySem.W.mg_of X G a22, fun_mk (st := s__law_take) l22 c22 k22⟩
    f__law_same := ⟨_, _, PySem.W.mg_of X G a23, fun_mk (st := s__law_same) l23 c23 k23⟩
    f_back_to_walk := ⟨_, _, PySem.W.mg_of X G a24, fun_mk (st := s_back_to_walk) l24 c24 k24⟩
    f__law_order := ⟨_, _, PySem.W.mg_of X G a25, fun_mk (st := s__law_order) l25 c25 k25⟩
    f__law_key := ⟨_, _, PySem.W.mg_of X G a26, fun_mk (st := s__law_key) l26 c26 k26⟩
    f__law_chain := ⟨_, _, PySem.W.mg_of X G a27, fun_mk (st := s__law_chain) l27 c27 k27⟩
    f__law_derivative := ⟨_, _, PySem.W.mg_of X G a28, fun_mk (st := s__law_derivative) l28 c28 k28⟩
    f__law_right := ⟨_, _, PySem.W.mg_of X G a29, fun_mk (st := s__law_right) l29 c29 k29⟩
    f__law_steps := ⟨_, _, PySem.W.mg_of X G a30, fun_mk (st := s__law_steps) l30 c30 k30⟩
    f__law_walk := ⟨_, _, PySem.W.mg_of X G a31, fun_mk (st := s__law_walk) l31 c31 k31⟩
    f__law_product := ⟨_, _, PySem.W.mg_of X G a32, fun_mk (st := s__law_product) l32 c32 k32⟩
    f__law_clean := ⟨_, _, PySem.W.mg_of X G a33, fun_mk (st := s__law_clean) l33 c33 k33⟩
    f__law_drawn_chain := ⟨_, _, PySem.W.mg_of X G a34, fun_mk (st := s__law_drawn_chain) l34 c34 k34⟩
    f__law_well := ⟨_, _, PySem.W.mg_of X G a35, fun_mk (st := s__law_well) l35 c35 k35⟩
    f_law := ⟨_, _, PySem.W.mg_of X G a36, fun_mk (st := s_law) l36 c36 k36⟩
  }
  exact ok_law T (fun_mk (st := s_law) l36 c36 k36)
end K63

namespace K63
open PySem Cs
theorem run_straightened (w : List Int) (s : Sto) (hw : w.length ≤ 100000) : Ev (m_straightened [tw w] s) s (tw (red w)) := by
  refine Exists.elim (forIts_inv (b := bodyF (gVar 2) b_straightened_1)
    (fun k env s' => (∃ z, env = [some (tw w), some (.ref s.n), z]) ∧ s'.get s.n = some (.lst ((((w.take k).foldl push []).reverse).map .int)) ∧ Le s s')
    (w.map .int) 0 [some (tw w), some (.ref s.n), none] (s.add (.lst []))
    ⟨⟨none, rfl⟩, by rw [get_add_same]; rfl, .add _ _⟩ ?step) ?rest
  case rest =>
    rintro env ⟨s', e, ⟨z, rfl⟩, hg, hl⟩
    refine ⟨s', ?_, hl⟩
    have e2 : (w.map D.int).length = w.length := by simp
    rw [e2, Nat.zero_add, List.take_length] at hg
    simp [m_straightened, b_straightened, fnB_eq, newL_ok', e, tuple_r _ hg, red, redS]
  case step =>
    rintro i x env s1 hx ⟨⟨z, rfl⟩, hg, hl⟩
    obtain ⟨n, hn, rfl⟩ := map_at hx
    rw [Nat.zero_add] at hg ⊢
    have hlen := foldl_push_len (w.take i) []
    rw [take_fold push [] hn]
    generalize (w.take i).foldl push [] = st at hg hlen ⊢
    have hst : st.length < sizeLine := by
      rw [size_eq]
      simp only [List.length_nil, List.length_take] at hlen
      omega
    cases st with
    | nil =>
      exact ⟨[some (tw w), some (.ref s.n), some (.int n)], _, .inl (by simp [b_straightened_1, len_r _ hg, isL_r _ hg, append_r _ hg, size_eq]; rfl), ⟨_, rfl⟩, by rw [get_set_same]; rfl, hl.set (Nat.le_refl _) _⟩
    | cons y r =>
      rw [List.reverse_cons, List.map_append] at hg
      rw [push_cons]
      by_cases hy : y = -n
      · rw [if_pos hy]
        exact ⟨[some (tw w), some (.ref s.n), some (.int n)], _, .inl (by simp [b_straightened_1, len_r _ hg, isL_r _ hg, ix_r _ hg, atI_last', hy, pop_r _ (show s1.get s.n = some (.lst (r.reverse.map D.int ++ [.int y])) from hg)]; rfl), ⟨_, rfl⟩, by rw [get_set_same, List.map_reverse], hl.set (Nat.le_refl _) _⟩
      · rw [if_neg hy]
        exact ⟨[some (tw w), some (.ref s.n), some (.int n)], _, .inl (by
          simp only [List.length_cons] at hst
          simp [b_straightened_1, len_r _ hg, isL_r _ hg, ix_r _ hg, atI_last', hy, append_r _ hg, hst]; rfl), ⟨_, rfl⟩, by rw [get_set_same]; simp, hl.set (Nat.le_refl _) _⟩
theorem run_is_integer (i : Int) (s : Sto) : m_is_integer [.int i] s = .ok (.bl true) s := by
  simp [m_is_integer, b_is_integer, fnB_eq, isiD, mapO, isTy]
theorem run_is_step (i l : Int) (s : Sto) : m_is_step [.int i, .int l] s = .ok (.bl (decide (1 ≤ i.natAbs ∧ (i.natAbs : Int) ≤ l))) s := by
  have e : (if i < 0 then -i else i) = (i.natAbs : Int) := by split <;> omega
  simp [m_is_step, b_is_step, fnB_eq, run_is_integer, e]
  by_cases h : 1 ≤ (i.natAbs : Int)
  · simp [h]; omega
  · simp [h]; omega
theorem getD_at {w : List Int} {i : Nat} (h : i < w.length) : w[i]? = some (w.getD i 0) := by
  rw [List.getD_eq_getElem?_getD, List.getElem?_eq_getElem h]; rfl
def WkL (L : Int) (w : List Int) : Prop := ∀ x ∈ w, x ≠ 0 ∧ (x.natAbs : Int) ≤ L
theorem run_is_a_walk {L : Int} (w : List Int) (s : Sto) (hw : w.length ≤ 100000) (h : WkL L w) : Ev (m_is_a_walk [tw w, .int L] s) s (.bl true) := by
  obtain ⟨s1, e, l⟩ := goIts_map (f := turnC (gVar 2) none e_is_a_walk_1 [some (tw w), some (.int L), none]) (fun d => .bl true) (w.map .int) s fun x hx s' hl => by
    obtain ⟨i, hi, rfl⟩ := List.mem_map.mp hx
    have := h i hi
    refine ⟨s', ?_, .refl _⟩
    simp [e_is_a_walk_1, run_is_step]
    omega
  have e2 : ((w.map D.int).map fun _ => D.bl true) = (w.map fun _ => true).map D.bl := by simp
  rw [e2] at e
  have hz : ((w.map fun _ => true).map D.bl).length ≤ sizeLine := by simp [size_eq]; omega
  refine ⟨s1.add (.lst ((w.map fun _ => true).map D.bl)), ?_, l.trans (.add _ _)⟩
  simp only [m_is_a_walk, b_is_a_walk, fnB_eq]
  simp [-List.map_map, isiD, mapO, isTy, goWk_its, e, newL_ok' _ hz, all_r _ (get_add_same s1 _)]
theorem run_need_walk {L : Int} (w : List Int) (s : Sto) (hw : w.length ≤ 100000) (h : WkL L w) : Ev (m_need_walk [tw w, .int L] s) s .non := by
  obtain ⟨s1, e, l⟩ := run_is_a_walk w s hw h
  exact ⟨s1, by simp [m_need_walk, b_need_walk, fnB_eq, e], l⟩
structure Well (s : Sto) (j : Nat) (c : Nat) : Prop where
  lt : j < s.n
  ex : ∃ (a b : Int) (k : Nat), s.get j = some (.lst [.int a, .int b, .int k]) ∧ b.natAbs < 2 ^ 110 ∧ k ≤ c
structure LeW (j : Nat) (s s' : Sto) : Prop where
  n : s.n ≤ s'.n
  get : ∀ i, i < s.n → i ≠ j → s'.get i = s.get i
theorem LeW.refl (j : Nat) (s : Sto) : LeW j s s := ⟨Nat.le_refl _, fun _ _ _ => rfl⟩
theorem LeW.trans {j : Nat} {s s1 s2 : Sto} (a : LeW j s s1) (b : LeW j s1 s2) : LeW j s s2 := ⟨Nat.le_trans a.n b.n, fun i h q => (b.get i (Nat.lt_of_lt_of_le h a.n) q).trans (a.get i h q)⟩
theorem LeW.of {j : Nat} {s s' : Sto} (a : Le s s') : LeW j s s' := ⟨a.n, fun i h _ => a.get i h⟩
theorem LeW.set {j : Nat} (s : Sto) (o : O) : LeW j s (s.set j o) := ⟨Nat.le_refl _, fun i _ q => get_set_ne q⟩
theorem Well.le {s s' : Sto} {j c : Nat} (h : Well s j c) (l : Le s s') : Well s' j c := ⟨Nat.lt_of_lt_of_le h.lt l.n, let ⟨a, b, k, e, q⟩ := h.ex; ⟨a, b, k, by rw [l.get j h.lt]; exact e, q⟩⟩
theorem Well.up {s : Sto} {j c c' : Nat} (h : Well s j c) (l : c ≤ c') : Well s j c' := ⟨h.lt, let ⟨a, b, k, e, q, r⟩ := h.ex; ⟨a, b, k, e, q, by omega⟩⟩
theorem mod_pos {a m : Int} (h : 0 < m) : 0 ≤ a % m ∧ a % m < m := ⟨Int.emod_nonneg _ (by omega), Int.emod_lt_of_pos _ h⟩
def St : Nat → List Int
  | 0 => []
  | n + 1 => St n ++ [((n + 1 : Nat) : Int), -((n + 1 : Nat) : Int)]
def LL (L : Nat) : Prop := L = 1 ∨ L = 2 ∨ L = 3 ∨ L = 4
theorem LL.pos {L : Nat} (h : LL L) : 1 ≤ L ∧ L ≤ 4 := by unfold LL at h; omega
def NewL (r : R D) (s : Sto) (xs : List Int) : Prop := ∃ j s', r = .ok (.ref j) s' ∧ s'.get j = some (.lst (xs.map .int)) ∧ Le s s' ∧ s.n ≤ j ∧ j < s'.n
theorem St_succ (n : Nat) : St (n + 1) = St n ++ [((n + 1 : Nat) : Int), -((n + 1 : Nat) : Int)] := rfl
theorem St_len (n : Nat) : (St n).length = 2 * n := by
  induction n with
  | zero => rfl
  | succ n ih => rw [St_succ, List.length_append, ih]; rfl
theorem run_law_steps (L : Nat) (s : Sto) (hL : LL L) : NewL (m__law_steps [.int L] s) s (St L) := by
  have hp := hL.pos
  refine Exists.elim (forIts_inv (b := bodyF (gVar 2) b__law_steps_1)
    (fun k env s' => ∃ j z, env = [some (.int L), some (.ref j), z] ∧ s'.get j = some (.lst ((St k).map .int)) ∧ Le s s' ∧ s.n ≤ j ∧ j < s'.n)
    (rgD 1 L) 0 [some (.int L), some (.ref s.n), none] (s.add (.lst []))
    ⟨s.n, none, rfl, get_add_same _ _, .add _ _, Nat.le_refl _, Nat.lt_succ_self _⟩ ?step) ?rest
  case rest =>
    rintro env ⟨s', e, j, z, rfl, hg, hl, hn, hn2⟩
    have el : (rgD 1 L).length = L := by simp [rgD]
    rw [el, Nat.zero_add] at hg
    have b1 : bigI 1 = true := bigI_of (by decide)
    have b2 : bigI ((L : Int) + 1) = true := bigI_of (by omega)
    have e3 : ((L : Int) + 1 - 1).toNat = L := by omega
    refine ⟨j, s', ?_, hg, hl, hn, hn2⟩
    simp [m__law_steps, b__law_steps, fnB_eq, newL_ok', b1, b2, e3, e]
  case step =>
    rintro k x env s1 hx ⟨j, z, rfl, hg, hl, hn, hn2⟩
    obtain ⟨hk, rfl⟩ := rgD_at hx
    rw [Nat.zero_add] at *
    have e1 : (1 + (k : Int)) = ((k + 1 : Nat) : Int) := by omega
    rw [e1]
    have n1 := newL_ok' s1 (xs := [D.int ((k + 1 : Nat) : Int), D.int (-((k + 1 : Nat) : Int))]) (by rw [size_eq]; simp)
    have g1 : (s1.add (.lst [D.int ((k + 1 : Nat) : Int), D.int (-((k + 1 : Nat) : Int))])).get s1.n = some (.lst [D.int ((k + 1 : Nat) : Int), D.int (-((k + 1 : Nat) : Int))]) := get_add_same _ _
    have g0 : (s1.add (.lst [D.int ((k + 1 : Nat) : Int), D.int (-((k + 1 : Nat) : Int))])).get j = some (.lst ((St k).map .int)) := by rw [get_add_ne (by omega)]; exact hg
    have ex := add_rr _ g0 g1 (by rw [List.length_map, St_len, size_eq]; simp only [List.length_cons, List.length_nil]; omega)
    have l2 : Le s1 (s1.add (.lst [D.int ((k + 1 : Nat) : Int), D.int (-((k + 1 : Nat) : Int))])) := .add _ _
    generalize s1.add (.lst [D.int ((k + 1 : Nat) : Int), D.int (-((k + 1 : Nat) : Int))]) = s2 at *
    refine ⟨[some (.int L), some (.ref s2.n), some (.int ((k + 1 : Nat) : Int))], _, .inl (by
      simp only [bodyF_eq, b__law_steps_1, g_Var, st_ok', s_Cons, s_Asg, v_Bin, v_Var, List.getElem?_cons_zero, List.getElem?_cons_succ, List.set_cons_zero, List.set_cons_succ, getV_some, bind_ok', a_Cons, a_Nil, v_Lst, v_Un, neg_i, n1, ex, then_nx, s_Nil]
      rfl), ⟨s2.n, _, rfl, ?_, (hl.trans l2).trans (.add _ _), ?_, Nat.lt_succ_self _⟩⟩
    · rw [get_add_same, St_succ, List.map_append]; rfl
    · exact Nat.le_trans hl.n l2.n
theorem run_need_letters (L : Nat) (s : Sto) (hL : LL L) : m_need_letters [.int L] s = .ok .non s := by
  have hp := hL.pos
  have h1 : (1 : Int) ≤ (L : Int) := by omega
  have h2 : (L : Int) ≤ 4 := by omega
  have h3 : 1 ≤ L := hp.1
  have h4 : L ≤ 4 := hp.2
  have e : m_is_letters [.int L] s = .ok (.bl true) s := by
    simp only [m_is_letters, b_is_letters, fnB_eq, List.length_cons, List.length_nil, List.map_cons, List.map_nil, List.cons_append, List.nil_append, Nat.reduceAdd, Nat.reduceSub, List.replicate, if_true, s_Cons, s_Ret, v_And, v_Call, a_Cons, a_Nil, v_Var, List.getElem?_cons_zero, List.getElem?_cons_succ, getV_some, bind_ok', run_is_integer, truth_bl, v_Chain, v_C, ltI_ii, h1, h2, decide_true, chain2_t, st_ok', then_rt, fnR_rt]
  simp [m_need_letters, b_need_letters, fnB_eq, e]
def ord (s : Int) : Int := if 0 < s then 2 * s - 2 else -2 * s - 1
def ords (w : List Int) : List Int := w.map ord
theorem lexD_irr : ∀ a : List Int, lexD a a = false
  | [] => rfl
  | x :: xs => by
    show (if x = x then lexD xs xs else decide (x < x)) = false
    rw [if_pos rfl, lexD_irr xs]
theorem lexD_trans : ∀ {a b c : List Int}, lexD a b = true → lexD b c = true → lexD a c = true
  | [], [], c, h, _ => by cases h
  | [], _ :: _, [], _, h => by cases h
  | [], _ :: _, _ :: _, _, _ => rfl
  | _ :: _, [], c, h, _ => by cases h
  | _ :: _, _ :: _, [], _, h => by cases h
  | x :: xs, y :: ys, z :: zs, h1, h2 => by
    have h1 : (if x = y then lexD xs ys else decide (x < y)) = true := h1
    have h2 : (if y = z then lexD ys zs else decide (y < z)) = true := h2
    show (if x = z then lexD xs zs else decide (x < z)) = true
    by_cases e1 : x = y
    · subst e1
      rw [if_pos rfl] at h1
      by_cases e2 : x = z
      · subst e2
        rw [if_pos rfl] at h2 ⊢
        exact lexD_trans h1 h2
      · rw [if_neg e2] at h2 ⊢; exact h2
    · rw [if_neg e1] at h1
      have h1 := of_decide_eq_true h1
      by_cases e2 : y = z
      · subst e2
        rw [if_neg e1]; exact decide_eq_true h1
      · rw [if_neg e2] at h2
        have h2 := of_decide_eq_true h2
        rw [if_neg (by omega)]; exact decide_eq_true (by omega)
theorem run_step_order (i : Int) (s : Sto) : m_step_order [.int i] s = .ok (.int (ord i)) s := by
  have m1 : ∀ y : Int, mulOk 2 y = true := fun y => mulOk_l (by decide)
  have m2 : ∀ y : Int, mulOk (-2) y = true := fun y => mulOk_l (by decide)
  unfold ord
  by_cases h : 0 < i
  · simp [m_step_order, b_step_order, fnB_eq, h, m1]
  · simp [m_step_order, b_step_order, fnB_eq, h, m2]
theorem run_walk_key (w : List Int) (s : Sto) (hw : w.length ≤ 100000) : Ev (m_walk_key [tw w] s) s (keyD ord w) := by
  obtain ⟨s1, e, l⟩ := goIts_map (f := turnC (gVar 1) none e_walk_key_1 [some (tw w), none]) (fun d => match d with | .int i => .int (ord i) | d => d) (w.map .int) s fun x hx s' hl => by
    obtain ⟨i, hi, rfl⟩ := List.mem_map.mp hx
    exact ⟨s', by simp [e_walk_key_1, run_step_order], .refl _⟩
  have e2 : ((w.map D.int).map fun d => match d with | .int i => .int (ord i) | d => d) = (w.map ord).map D.int := by
    rw [List.map_map, List.map_map]; rfl
  rw [e2] at e
  have n1 := newL_ok' s1 (xs := (w.map ord).map D.int) (by rw [List.length_map, List.length_map, size_eq]; omega)
  have g1 := get_add_same s1 (.lst ((w.map ord).map .int))
  refine ⟨s1.add (.lst ((w.map ord).map .int)), ?_, l.trans (.add _ _)⟩
  have z : (0 + 1 + 1 : Nat) ≤ 16777216 := by decide
  simp only [m_walk_key, b_walk_key, fnB_eq, List.length_cons, List.length_nil, List.map_cons, List.map_nil, List.cons_append, List.nil_append, Nat.reduceAdd, Nat.reduceSub, List.replicate, if_true, s_Cons, s_Ret, v_Tup, a_Cons, a_Nil, v_Bi, v_Var, v_Comp, i_Seq, List.getElem?_cons_zero, List.getElem?_cons_succ, getV_some, bind_ok', len_tup, List.length_map, seqW_tup, goWk_its, wipeE_nil, wipeE_cons, List.set_cons_zero, List.set_cons_succ, e, n1, tuple_r _ g1, size_eq, z, st_ok', then_rt, fnR_rt]
  simp [keyD]
theorem run_law_order (i : Int) (s : Sto) : m__law_order [.int i] s = .ok (.int (ord i)) s := by
  have m1 : ∀ y : Int, mulOk 2 y = true := fun y => mulOk_l (by decide)
  have m2 : ∀ y : Int, mulOk (-2) y = true := fun y => mulOk_l (by decide)
  unfold ord
  by_cases h : 0 < i
  · simp [m__law_order, b__law_order, fnB_eq, h, m1]
  · simp [m__law_order, b__law_order, fnB_eq, h, m2]
theorem run_law_key (w : List Int) (s : Sto) (hw : w.length ≤ 100000) : Ev (m__law_key [tw w] s) s (keyD ord w) := by
  obtain ⟨s1, e, l⟩ := goIts_map (f := turnC (gVar 1) none e__law_key_1 [some (tw w), none]) (fun d => match d with | .int i => .int (ord i) | d => d) (w.map .int) s fun x hx s' hl => by
    obtain ⟨i, hi, rfl⟩ := List.mem_map.mp hx
    exact ⟨s', by simp [e__law_key_1, run_law_order], .refl _⟩
  have e2 : ((w.map D.int).map fun d => match d with | .int i => .int (ord i) | d => d) = (w.map ord).map D.int := by
    rw [List.map_map, List.map_map]; rfl
  rw [e2] at e
  have n1 := newL_ok' s1 (xs := (w.map ord).map D.int) (by rw [List.length_map, List.length_map, size_eq]; omega)
  have g1 := get_add_same s1 (.lst ((w.map ord).map .int))
  refine ⟨s1.add (.lst ((w.map ord).map .int)), ?_, l.trans (.add _ _)⟩
  have z : (0 + 1 + 1 : Nat) ≤ 16777216 := by decide
  simp only [m__law_key, b__law_key, fnB_eq, List.length_cons, List.length_nil, List.map_cons, List.map_nil, List.cons_append, List.nil_append, Nat.reduceAdd, Nat.reduceSub, List.replicate, if_true, s_Cons, s_Ret, v_Tup, a_Cons, a_Nil, v_Bi, v_Var, v_Comp, i_Seq, List.getElem?_cons_zero, List.getElem?_cons_succ, getV_some, bind_ok', len_tup, List.length_map, seqW_tup, goWk_its, wipeE_nil, wipeE_cons, List.set_cons_zero, List.set_cons_succ, e, n1, tuple_r _ g1, size_eq, z, st_ok', then_rt, fnR_rt]
  simp [keyD]
theorem neD_rr {s : Sto} {i j : Nat} {xs ys : List Int} (h1 : s.get i = some (.lst (xs.map .int))) (h2 : s.get j = some (.lst (ys.map .int))) : neD (.ref i) (.ref j) s = .ok (.bl (!decide (xs = ys))) s := by
  have e1 : ∀ {i : Nat} {xs : List Int}, s.get i = some (.lst (xs.map .int)) → pyd s 12 (.ref i) = some (.list (xs.map PyData.int)) := by
    intro i xs h
    show (match s.get i with | some (.lst xs) => (mapO (pyd s 11) xs).map PyData.list | _ => none) = _
    rw [h]
    dsimp only
    rw [pyd_ints]; rfl
  unfold neD
  rw [e1 h1, e1 h2]
  show R.ok (D.bl (!PyData.eqv _ _)) s = _
  rw [show PyData.eqv (.list (xs.map PyData.int)) (.list (ys.map PyData.int)) = PyData.eqvAll (xs.map .int) (ys.map .int) by simp [PyData.eqv], eqv_ints]
theorem red_take {w : List Int} {i : Nat} {n : Int} (h : w[i]? = some n) : red (w.take (i + 1)) = (push (red (w.take i)).reverse n).reverse := by
  unfold red redS
  rw [take_fold push [] h, List.reverse_reverse]
theorem run_law_straight (w : List Int) (s : Sto) (hw : w.length ≤ 100000) : Ev (m__law_straight [tw w] s) s (tw (red w)) := by
  refine Exists.elim (forIts_inv (b := bodyF (gVar 2) b__law_straight_1)
    (fun k env s' => (∃ z, env = [some (tw w), some (.ref s.n), z]) ∧ s'.get s.n = some (.lst ((((w.take k).foldl push []).reverse).map .int)) ∧ Le s s' ∧ s.n < s'.n)
    (w.map .int) 0 [some (tw w), some (.ref s.n), none] (s.add (.lst []))
    ⟨⟨none, rfl⟩, by rw [get_add_same]; rfl, .add _ _, Nat.lt_succ_self _⟩ ?step) ?rest
  case rest =>
    rintro env ⟨s', e, ⟨z, rfl⟩, hg, hl, hn⟩
    refine ⟨s', ?_, hl⟩
    have e2 : (w.map D.int).length = w.length := by simp
    rw [e2, Nat.zero_add, List.take_length] at hg
    simp [m__law_straight, b__law_straight, fnB_eq, newL_ok', e, tuple_r _ hg, red, redS]
  case step =>
    rintro i x env s1 hx ⟨⟨z, rfl⟩, hg, hl, hlt⟩
    obtain ⟨n, hn, rfl⟩ := map_at hx
    rw [Nat.zero_add] at hg ⊢
    have hlen := foldl_push_len (w.take i) []
    rw [take_fold push [] hn]
    generalize (w.take i).foldl push [] = st at hg hlen ⊢
    have hst : st.length < sizeLine := by
      rw [size_eq]
      simp only [List.length_nil, List.length_take] at hlen
      omega
    have n2 := newL_ok' s1 (xs := []) (by rw [size_eq]; simp)
    have g2 := get_add_same s1 (.lst [])
    have l2 : Le s1 (s1.add (.lst [])) := .add _ _
    have g12 := (l2.get _ hlt).trans hg
    have hlt2 := Nat.lt_of_lt_of_le hlt l2.n
    generalize s1.add (.lst []) = s2 at *
    have ne := neD_rr (ys := []) g12 g2
    cases st with
    | nil =>
      simp only [List.reverse_nil, List.map_nil, decide_true, Bool.not_true] at ne g12
      have ap := append_r _ g12 (.int n) (by rw [size_eq]; simp)
      refine ⟨[some (tw w), some (.ref s.n), some (.int n)], _, .inl (by
        simp only [bodyF_eq, b__law_straight_1, g_Var, st_ok', List.set_cons_zero, List.set_cons_succ, s_Cons, s_If, t_And, t_Bin, v_Var, v_Lst, a_Nil, List.getElem?_cons_zero, List.getElem?_cons_succ, getV_some, bind_ok', n2, ne, truth_bl, Bool.false_eq_true, if_false, s_Expr, v_Meth, isL_r _ g12, if_true, a_Cons, ap, then_nx, s_Nil]
        rfl), ⟨_, rfl⟩, by rw [get_set_same]; rfl, (hl.trans l2).set (Nat.le_refl _) _, hlt2⟩
    | cons y r =>
      have hne : decide ((y :: r).reverse = []) = false := decide_eq_false (by simp)
      rw [hne, Bool.not_false] at ne
      rw [List.reverse_cons, List.map_append] at g12
      rw [push_cons]
      have ixl : L2.atI (r.reverse.map D.int ++ [y].map D.int) (-1) = some (.int y) := L2.atI_last _ _
      by_cases hy : y = -n
      · rw [if_pos hy]
        have hyb : (y == -n) = true := by simpa using hy
        have po := pop_r _ (show s2.get s.n = some (.lst (r.reverse.map D.int ++ [.int y])) from g12)
        refine ⟨[some (tw w), some (.ref s.n), some (.int n)], _, .inl (by
          simp only [bodyF_eq, b__law_straight_1, g_Var, st_ok', List.set_cons_zero, List.set_cons_succ, s_Cons, s_If, t_And, t_Bin, v_Bin, v_Un, v_C, v_Var, v_Lst, a_Nil, List.getElem?_cons_zero, List.getElem?_cons_succ, getV_some, bind_ok', n2, ne, truth_bl, if_true, neg_i, ix_r _ g12, ixl, okO_some, eqD_ii, hyb, s_Expr, v_Meth, isL_r _ g12, po, then_nx, s_Nil]
          rfl), ⟨_, rfl⟩, by rw [get_set_same, List.map_reverse], (hl.trans l2).set (Nat.le_refl _) _, hlt2⟩
      · rw [if_neg hy]
        have hyb : (y == -n) = false := by simpa using hy
        have ap := append_r _ g12 (.int n) (by simp only [List.length_cons] at hst; simp; omega)
        refine ⟨[some (tw w), some (.ref s.n), some (.int n)], _, .inl (by
          simp only [bodyF_eq, b__law_straight_1, g_Var, st_ok', List.set_cons_zero, List.set_cons_succ, s_Cons, s_If, t_And, t_Bin, v_Bin, v_Un, v_C, v_Var, v_Lst, a_Nil, List.getElem?_cons_zero, List.getElem?_cons_succ, getV_some, bind_ok', n2, ne, truth_bl, if_true, neg_i, ix_r _ g12, ixl, okO_some, eqD_ii, hyb, Bool.false_eq_true, if_false, s_Expr, v_Meth, isL_r _ g12, a_Cons, ap, then_nx, s_Nil]
          rfl), ⟨_, rfl⟩, by rw [get_set_same]; simp, (hl.trans l2).set (Nat.le_refl _) _, hlt2⟩
theorem str_at : ∀ {w : List Int} (i : Nat), Rdc w → i + 1 < w.length → w.getD i 0 ≠ -(w.getD (i + 1) 0)
  | [], i, _, h => absurd h (by simp)
  | [x], i, _, h => absurd h (by simp)
  | x :: y :: r, 0, h, _ => h.1
  | x :: y :: r, i + 1, h, hl => str_at (w := y :: r) i h.2 (by simp only [List.length_cons] at hl ⊢; omega)
theorem str_of : ∀ {w : List Int}, (∀ i, i + 1 < w.length → w.getD i 0 ≠ -(w.getD (i + 1) 0)) → Rdc w
  | [], _ => trivial
  | [x], _ => trivial
  | x :: y :: r, h => ⟨h 0 (by simp), str_of (w := y :: r) fun i hi => h (i + 1) (by simp only [List.length_cons] at hi ⊢; omega)⟩
theorem eqD_bb (a b : Bool) (s : Sto) : eqD (.bl a) (.bl b) s = .ok (.bl (a == b)) s := by
  show R.ok (D.bl (PyData.eqv (.bool a) (.bool b))) s = _
  cases a <;> cases b <;> rfl
theorem neD_bb (a b : Bool) (s : Sto) : neD (.bl a) (.bl b) s = .ok (.bl (!(a == b))) s := by
  show R.ok (D.bl (!PyData.eqv (.bool a) (.bool b))) s = _
  cases a <;> cases b <;> rfl
theorem same_int (k : Nat) (i : Int) (s : Sto) : ms__law_same (k + 1) [.int i, .int i] s = .ok (.bl true) s := by
  simp [ms__law_same, b__law_same, fnB_eq, isiD, mapO, isTy, isNonD, eqD_bb]
theorem same_bl (k : Nat) (b : Bool) (s : Sto) : ms__law_same (k + 1) [.bl b, .bl b] s = .ok (.bl true) s := by
  simp [ms__law_same, b__law_same, fnB_eq, isiD, mapO, isTy, isNonD, eqD_bb]
theorem same_tup (k : Nat) (xs : List D) (hn : xs.length ≤ 100000) (h : ∀ x ∈ xs, ∀ s, Ev (ms__law_same k [x, x] s) s (.bl true)) (s : Sto) : Ev (ms__law_same (k + 1) [.tup xs, .tup xs] s) s (.bl true) := by
  obtain ⟨s1, e, l⟩ := goIts_map (f := turnC (gVar 2) none (e__law_same_1 (ms__law_same k)) [some (.tup xs), some (.tup xs), none]) (fun _ => .bl true) (rgD 0 xs.length) s fun x hx s' hl => by
    obtain ⟨i, hi, rfl⟩ := List.mem_map.mp hx
    rw [List.mem_range] at hi
    have e0 : (0 : Int) + (i : Int) = (i : Int) := by omega
    rw [e0]
    have a1 : L2.atI xs (i : Int) = some xs[i] := atI_nat' (List.getElem?_eq_getElem hi)
    obtain ⟨s2, e2, l2⟩ := h xs[i] (List.getElem_mem hi) s'
    refine ⟨s2, ?_, l2⟩
    simp only [turnC_none, g_Var, bind_ok', List.set_cons_zero, List.set_cons_succ, e__law_same_1, v_Call, a_Cons, a_Nil, v_Bin, v_Var, List.getElem?_cons_zero, List.getElem?_cons_succ, getV_some, ix_t, a1, okO_some, e2]
  have e2 : ((rgD 0 xs.length).map fun _ => D.bl true) = (xs.map fun _ => true).map D.bl := by
    unfold rgD
    rw [List.map_map, List.map_map]
    refine List.ext_getElem (by simp) fun i h1 h2 => by simp
  rw [e2] at e
  have hz : ((xs.map fun _ => true).map D.bl).length ≤ sizeLine := by rw [List.length_map, List.length_map, size_eq]; omega
  have n1 := newL_ok' s1 hz
  have al := all_r _ (get_add_same s1 (.lst ((xs.map fun _ => true).map D.bl)))
  have b1 : bigI (xs.length : Int) = true := bigI_of (by omega)
  have ea : (xs.map fun _ => true).all id = true := by simp
  rw [ea] at al
  refine ⟨s1.add (.lst ((xs.map fun _ => true).map D.bl)), ?_, l.trans (.add _ _)⟩
  have i1 : isiD [.list, .tuple] (.tup xs) s = .ok (.bl true) s := rfl
  have i2 : isiD [.list] (.tup xs) s = .ok (.bl false) s := rfl
  have i3 : isiD [.tuple] (.tup xs) s = .ok (.bl true) s := rfl
  have x1 := neD_bb false false s
  have x2 := neD_bb true true s
  have x3 := neD_ii (xs.length : Int) xs.length s
  have y3 : (!((xs.length : Int) == (xs.length : Int))) = false := by simp
  rw [y3] at x3
  simp only [beq_self_eq_true, Bool.not_true] at x1 x2
  simp only [ms__law_same, b__law_same, fnB_eq, List.length_cons, List.length_nil, List.map_cons, List.map_nil, List.cons_append, List.nil_append, Nat.reduceAdd, Nat.reduceSub, List.replicate, if_true, s_Cons, s_If, t_Un, t_Or, t_Bin, v_Un, v_Bin, v_Var, v_Bi, a_Cons, a_Nil, List.getElem?_cons_zero, List.getElem?_cons_succ, getV_some, bind_ok', i1, i2, i3, truth_bl, st_ok', x1, x2, x3, Bool.false_eq_true, if_false, s_Nil, then_nx, len_tup, s_Ret, v_Comp, i_Rg1, rg1W_ok, b1, Int.toNat_natCast, goWk_its, wipeE_nil, wipeE_cons, List.set_cons_zero, List.set_cons_succ, e, n1, al, then_rt, fnR_rt]
theorem same_tw (k : Nat) (w : List Int) (hw : w.length ≤ 100000) (s : Sto) : Ev (ms__law_same (k + 2) [tw w, tw w] s) s (.bl true) :=
  same_tup (k + 1) (w.map .int) (by rw [List.length_map]; exact hw) (fun x hx s => by
    obtain ⟨i, _, rfl⟩ := List.mem_map.mp hx
    exact ⟨s, same_int k i s, .refl _⟩) s
theorem run_same_tw (w : List Int) (hw : w.length ≤ 100000) (s : Sto) : Ev (m__law_same [tw w, tw w] s) s (.bl true) := same_tw 6 w hw s
theorem run_same_bl (b : Bool) (s : Sto) : m__law_same [.bl b, .bl b] s = .ok (.bl true) s := same_bl 7 b s
theorem run_law_take (j c : Nat) (m : Int) (s : Sto) (h : Well s j c) (hm : 0 < m) (hm2 : m < 2 ^ 200) (hc : c < 2 ^ 64) :
    ∃ d s', m__law_take [.ref j, .int m] s = .ok (.int d) s' ∧ 0 ≤ d ∧ d < m ∧ Well s' j (c + 1) ∧ LeW j s s' := by
  obtain ⟨a, b, k, e, hb, hk⟩ := h.ex
  have i0 : ixD (.ref j) (.int 0) s = .ok (.int a) s := by rw [ix_r _ e]; rfl
  by_cases ha : 1 < a
  · refine ⟨a % m, s.set j (.lst [.int (a / m), .int b, .int k]), ?_, (mod_pos hm).1, (mod_pos hm).2, ⟨h.lt, _, _, _, get_set_same _ _ _, hb, by omega⟩, .set _ _⟩
    have st : setD (.ref j) (.int 0) (.int (a / m)) s = .ok () (s.set j (.lst [.int (a / m), .int b, .int k])) := set_r _ e (k := 0) rfl _
    have hl : m.natAbs < lim4 := lim_lt (by omega)
    simp [m__law_take, b__law_take, fnB_eq, i0, ha, hm, hl, st]
  · have st : setD (.ref j) (.int 2) (.int ((k : Int) + 1)) s = .ok () (s.set j (.lst [.int a, .int b, .int ((k : Int) + 1)])) := set_r _ e (k := 2) rfl _
    have i2 : ixD (.ref j) (.int 2) s = .ok (.int k) s := by rw [ix_r _ e]; rfl
    have g : (s.set j (.lst [.int a, .int b, .int ((k : Int) + 1)])).get j = some (.lst [.int a, .int b, .int ((k : Int) + 1)]) := get_set_same _ _ _
    have w1 : ixD (.ref j) (.int 1) (s.set j (.lst [.int a, .int b, .int ((k : Int) + 1)])) = .ok (.int b) (s.set j (.lst [.int a, .int b, .int ((k : Int) + 1)])) := by rw [ix_r _ g]; rfl
    have w2 : ixD (.ref j) (.int 2) (s.set j (.lst [.int a, .int b, .int ((k : Int) + 1)])) = .ok (.int ((k : Int) + 1)) (s.set j (.lst [.int a, .int b, .int ((k : Int) + 1)])) := by rw [ix_r _ g]; rfl
    generalize hs2 : s.set j (.lst [.int a, .int b, .int ((k : Int) + 1)]) = s2 at *
    have m1 : ∀ x : Int, mulOk x 6364136223846793005 = true := fun x => mulOk_r (by decide)
    have m2 : ∀ x : Int, mulOk x 2862933555777941757 = true := fun x => mulOk_r (by decide)
    have m3 : ∀ x : Int, mulOk 1181783497276652981 x = true := fun x => mulOk_l (by decide)
    have m4 : ∀ y : Int, mulOk (y % 100000000000000000000000000319) (y % 100000000000000000000000000319) = true := fun y => mulOk_b (by omega) (by omega)
    have m5 : ∀ y : Int, mulOk (y % 10000000000000000000000000000033) (y % 10000000000000000000000000000033) = true := fun y => mulOk_b (by omega) (by omega)
    have l10 : 10 < lim4 := lim_lt (by decide)
    have l79 : 7919 < lim4 := lim_lt (by decide)
    have ex : ∃ q : Int, m__law_take [.ref j, .int m] s = .ok (.int (q % m)) s2 := by
      refine ⟨?q, ?h⟩
      case h =>
        simp [m__law_take, b__law_take, fnB_eq, i0, ha, hm, st, i2, w1, w2, m1, m2, m3, m4, m5, l10, l79]
        rfl
    obtain ⟨q, eq⟩ := ex
    exact ⟨q % m, s2, eq, (mod_pos hm).1, (mod_pos hm).2, ⟨by rw [← hs2]; exact h.lt, a, b, k + 1, g, hb, by omega⟩, by rw [← hs2]; exact .set _ _⟩
theorem run_law_well (ns : List Int) (i : Nat) (s : Sto) (hn : ns.length ≤ 63) (hi : i ≤ 4) : ∃ j s', m__law_well [.fix (ns.map .int), .int i] s = .ok (.ref j) s' ∧ Well s' j 0 ∧ Le s s' := by
  have l10 : 10 < lim4 := lim_lt (by decide)
  have m1 : ∀ x : Int, mulOk x 48611 = true := fun x => mulOk_r (by decide)
  have m2 : ∀ x : Int, mulOk x 7793 = true := fun x => mulOk_r (by decide)
  have m3 : ∀ x : Int, mulOk 3 x = true := fun x => mulOk_l (by decide)
  have m4 : ∀ x : Int, mulOk 13 x = true := fun x => mulOk_l (by decide)
  have key : ∀ (cell tot : Int), ∃ q z, forIts (bodyF (gVar 4) b__law_well_1) (ns.map .int) [some (.fix (ns.map .int)), some (.int i), some (.int cell), some (.int tot), none, none] s
      = .nx [some (.fix (ns.map .int)), some (.int i), some (.int cell), some (.int q), z, none] s := by
    intro cell tot
    refine Exists.elim (forIts_inv (b := bodyF (gVar 4) b__law_well_1)
      (fun k env s' => s' = s ∧ ∃ q z, env = [some (.fix (ns.map .int)), some (.int i), some (.int cell), some (.int q), z, none])
      (ns.map .int) 0 [some (.fix (ns.map .int)), some (.int i), some (.int cell), some (.int tot), none, none] s ⟨rfl, tot, none, rfl⟩ ?step) ?rest
    case rest =>
      rintro env ⟨s', e, rfl, q, z, rfl⟩
      exact ⟨q, z, e⟩
    case step =>
      rintro k x env s1 hx ⟨rfl, q, z, rfl⟩
      obtain ⟨n, hn, rfl⟩ := map_at hx
      have ex : ∃ q2, bodyF (gVar 4) b__law_well_1 (.int n) [some (.fix (ns.map .int)), some (.int i), some (.int cell), some (.int q), z, none] s1 = .nx [some (.fix (ns.map .int)), some (.int i), some (.int cell), some (.int q2), some (.int n), none] s1 := by
        refine ⟨?qq, ?hh⟩
        case hh =>
          simp [b__law_well_1, m1, l10]
          rfl
      obtain ⟨q2, e2⟩ := ex
      exact ⟨_, s1, .inl e2, rfl, q2, _, rfl⟩
  have nz : ∀ a b c : D, newL [a, b, c] s = .ok (.ref s.n) (s.add (.lst [a, b, c])) := fun a b c => newL_ok' s (by rw [size_eq]; simp)
  have ex : ∃ (a q : Int), m__law_well [.fix (ns.map .int), .int i] s = .ok (.ref s.n) (s.add (.lst [.int a, .int (q % 100000000000000000000000000319), .int 0])) := by
    by_cases c : i < ns.length
    · have e0 : L2.atI (ns.map D.int) (i : Int) = some (.int (ns.getD i 0)) := atI_at rfl (getD_at c)
      generalize ns.getD i 0 = n at *
      obtain ⟨q, z, e⟩ := key n (101 + ns.length)
      refine ⟨?a, ?q, ?h⟩
      case h =>
        simp [m__law_well, b__law_well, fnB_eq, c, e0, e, m2, m3, m4, l10, nz]
        rfl
    · obtain ⟨q, z, e⟩ := key (13 * (i : Int) + 7) (101 + ns.length)
      refine ⟨?a2, ?q2, ?h2⟩
      case h2 =>
        simp [m__law_well, b__law_well, fnB_eq, c, e, m2, m3, m4, l10, nz]
        rfl
  obtain ⟨a, q, ex⟩ := ex
  refine ⟨_, _, ex, ⟨Nat.lt_succ_self _, a, _, 0, get_add_same _ _, ?_, Nat.le_refl _⟩, .add _ _⟩
  omega
theorem St_ok {L : Nat} (h : LL L) : ∀ x ∈ St L, x ≠ 0 ∧ (x.natAbs : Int) ≤ L := by
  rcases h with rfl | rfl | rfl | rfl <;> decide
theorem WkL.take {L : Int} {w : List Int} (h : WkL L w) (n : Nat) : WkL L (w.take n) := fun x hx => h x (List.mem_of_mem_take hx)
theorem WkL.drop {L : Int} {w : List Int} (h : WkL L w) (n : Nat) : WkL L (w.drop n) := fun x hx => h x (List.mem_of_mem_drop hx)
theorem WkL.app {L : Int} {u v : List Int} (h : WkL L u) (g : WkL L v) : WkL L (u ++ v) := fun x hx => (List.mem_append.mp hx).elim (h x) (g x)
theorem WkL.red {L : Int} {w : List Int} (h : WkL L w) : WkL L (Cs.red w) := fun x hx => h x (red_mem hx)
theorem WkL.up {L M : Int} {w : List Int} (h : WkL L w) (g : L ≤ M) : WkL M w := fun x hx => ⟨(h x hx).1, by have := (h x hx).2; omega⟩
theorem run_law_walk (j c : Nat) (L M : Nat) (s : Sto) (h : Well s j c) (hL : LL L) (hM : M ≤ 1000) (hc : c < 2 ^ 60) :
    ∃ w s', m__law_walk [.ref j, .int L, .int M] s = .ok (tw w) s' ∧ WkL L w ∧ w.length = M ∧ Well s' j (c + M) ∧ LeW j s s' := by
  obtain ⟨i, s1, e1, g1, l1, hi1, hi2⟩ := run_law_steps L s hL
  have h1 := h.le l1
  have hp := hL.pos
  have len : (rgD 0 M).length = M := by simp [rgD]
  have hij : i ≠ j := by have := h.lt; omega
  have key := goIts_inv (f := turnC (gVar 4) none e__law_walk_1 [some (.ref j), some (.int L), some (.int M), some (.ref i), none])
    (fun k acc s' => ∃ w : List Int, acc = w.map .int ∧ WkL L w ∧ w.length = k ∧ Well s' j (c + k) ∧ LeW j s1 s')
    (rgD 0 M) 0 [] s1 ⟨[], rfl, (fun _ q => nomatch q), rfl, h1, .refl _ _⟩ (by
      rintro k x acc s2 hx ⟨w, rfl, hw, hl, hwell, hle⟩
      obtain ⟨hi, rfl⟩ := rgD_at hx
      rw [Nat.zero_add] at *
      have g2 := (hle.get i hi2 hij).trans g1
      have ln := len_r _ g2
      rw [List.length_map, St_len] at ln
      obtain ⟨d, s3, f1, a1, b1, w1, l3⟩ := run_law_take j _ ((2 * L : Nat) : Int) s2 hwell (by omega) (by omega) (by omega)
      have g3 := (l3.get i (Nat.lt_of_lt_of_le hi2 hle.n) hij).trans g2
      have at1 : L2.atI ((St L).map D.int) d = some (.int ((St L).getD d.toNat 0)) := atI_at (by omega) (getD_at (by rw [St_len]; omega))
      have hm : (St L).getD d.toNat 0 ∈ St L := by
        have q : d.toNat < (St L).length := by rw [St_len]; omega
        rw [List.getD_eq_getElem?_getD, List.getElem?_eq_getElem q]
        exact List.getElem_mem q
      refine ⟨some (.int ((St L).getD d.toNat 0)), s3, ?_, w ++ [(St L).getD d.toNat 0], ?_, ?_, ?_, ?_, hle.trans l3⟩
      · simp only [turnC_none, g_Var, bind_ok', List.set_cons_zero, List.set_cons_succ, e__law_walk_1, v_Bin, v_Call, v_Bi, v_Var, a_Cons, a_Nil, List.getElem?_cons_zero, List.getElem?_cons_succ, getV_some, ln, f1, ix_r _ g3, at1, okO_some]
      · simp [conO]
      · intro y hy
        rcases List.mem_append.mp hy with hy | hy
        · exact hw y hy
        · have : y = (St L).getD d.toNat 0 := by simpa using hy
          rw [this]
          exact St_ok hL _ hm
      · simp [hl]
      · exact w1.up (by omega))
  obtain ⟨ys, s', e, w, hy, hw, hl, hwell, hle⟩ := key
  rw [len, Nat.zero_add] at *
  rw [List.nil_append] at hy
  subst hy
  have n1 := newL_ok' s' (xs := w.map D.int) (by rw [List.length_map, size_eq]; omega)
  have g3 := get_add_same s' (.lst (w.map .int))
  have b1 : bigI (M : Int) = true := bigI_of (by omega)
  refine ⟨w, s'.add (.lst (w.map .int)), ?_, hw, hl, hwell.le (.add _ _), ((LeW.of l1).trans hle).trans (.of (.add _ _))⟩
  simp only [m__law_walk, b__law_walk, fnB_eq, List.length_cons, List.length_nil, List.map_cons, List.map_nil, List.cons_append, List.nil_append, Nat.reduceAdd, Nat.reduceSub, List.replicate, if_true, s_Cons, s_Asg, g_Var, v_Call, v_Bi, v_Comp, a_Cons, a_Nil, v_Var, List.getElem?_cons_zero, List.getElem?_cons_succ, getV_some, bind_ok', e1, st_ok', List.set_cons_zero, List.set_cons_succ, then_nx, s_Ret, i_Rg1, rg1W_ok, b1, Int.toNat_natCast, goWk_its, wipeE_nil, wipeE_cons, e, n1, tuple_r _ g3, then_rt, fnR_rt]
theorem comp_filter2 {i j : Nat} {c e : Sem} {env : Cs.Env} {S : List Int} {s : Sto} (p : Int → Bool) (hj : j < s.n) (hg : s.get j = some (.lst (S.map .int))) (hS : S.length ≤ 1000)
    (h : ∀ x ∈ S, ∀ s', Le s s' → Ev (c.t (env.set i (some (.int x))) s') s' (p x) ∧ ∀ s'', e.v (env.set i (some (.int x))) s'' = .ok (.int x) s'') :
    Ev (goWk (turnC (gVar i) (some c) e env) (.live j) s) s ((S.filter p).map .int) := by
  have := goWk_live_fun (f := turnC (gVar i) (some c) e env) (fun d => match d with | .int x => if p x then some (D.int x) else none | d => none) s hj hg (by rw [List.length_map]; omega) (by
    intro x hx s' hl
    obtain ⟨n, hn, rfl⟩ := List.mem_map.mp hx
    obtain ⟨⟨s2, h1, l2⟩, h2⟩ := h n hn s' hl
    refine ⟨s2, ?_, l2⟩
    simp only [turnC_some, g_Var, bind_ok', h1, h2]
    cases p n <;> rfl)
  obtain ⟨s1, e1, l1⟩ := this
  refine ⟨s1, e1.trans (congrArg (fun z => R.ok z s1) ?_), l1⟩
  induction S with
  | nil => rfl
  | cons x S ih =>
    clear e1 h hg hS ih
    generalize x :: S = T
    induction T with
    | nil => rfl
    | cons y T ih =>
      rw [List.map_cons, List.filterMap_cons, List.filter_cons]
      cases q : p y with
      | true => simp only [q, if_true]; rw [List.map_cons, ih]
      | false => simp only [q, Bool.false_eq_true, if_false]; exact ih
theorem filt_pos {L : Nat} (hL : LL L) (y : Int) : 0 < ((St L).filter fun x => !(x == y)).length := by
  by_cases q : y = 1
  · subst q
    rcases hL with rfl | rfl | rfl | rfl <;> decide
  · refine List.length_pos_of_mem (a := (1 : Int)) (List.mem_filter.mpr ⟨?_, ?_⟩)
    · rcases hL with rfl | rfl | rfl | rfl <;> decide
    · simp; omega
theorem eqD_rr {s : Sto} {i j : Nat} {xs ys : List Int} (h1 : s.get i = some (.lst (xs.map .int))) (h2 : s.get j = some (.lst (ys.map .int))) : eqD (.ref i) (.ref j) s = .ok (.bl (decide (xs = ys))) s := by
  have e1 : ∀ {i : Nat} {xs : List Int}, s.get i = some (.lst (xs.map .int)) → pyd s 12 (.ref i) = some (.list (xs.map PyData.int)) := by
    intro i xs h
    show (match s.get i with | some (.lst xs) => (mapO (pyd s 11) xs).map PyData.list | _ => none) = _
    rw [h]
    dsimp only
    rw [pyd_ints]; rfl
  unfold eqD
  rw [e1 h1, e1 h2]
  show R.ok (D.bl (PyData.eqv _ _)) s = _
  rw [show PyData.eqv (.list (xs.map PyData.int)) (.list (ys.map PyData.int)) = PyData.eqvAll (xs.map .int) (ys.map .int) by simp [PyData.eqv], eqv_ints]
theorem walk_no {d : D} {s : Sto} (L : Int) (h : isiD [.tuple] d s = .ok (.bl false) s) : m_is_a_walk [d, .int L] s = .ok (.bl false) s := by
  simp only [m_is_a_walk, b_is_a_walk, fnB_eq, List.length_cons, List.length_nil, List.map_cons, List.map_nil, List.cons_append, List.nil_append, Nat.reduceAdd, Nat.reduceSub, List.replicate, if_true, s_Cons, s_Ret, v_And, v_Un, v_Var, List.getElem?_cons_zero, List.getElem?_cons_succ, getV_some, bind_ok', h, truth_bl, Bool.false_eq_true, if_false, st_ok', then_rt, fnR_rt]
theorem walk_tup {xs : List D} (L : Int) (F : D → Bool) (s : Sto) (hn : xs.length ≤ 1000) (h : ∀ x ∈ xs, ∀ s, m_is_step [x, .int L] s = .ok (.bl (F x)) s) : Ev (m_is_a_walk [.tup xs, .int L] s) s (.bl (xs.all F)) := by
  obtain ⟨s1, e, l⟩ := goIts_map (f := turnC (gVar 2) none e_is_a_walk_1 [some (.tup xs), some (.int L), none]) (fun d => .bl (F d)) xs s fun x hx s' hl => by
    refine ⟨s', ?_, .refl _⟩
    simp [e_is_a_walk_1, h x hx]
  have e2 : (xs.map fun d => D.bl (F d)) = (xs.map F).map D.bl := by rw [List.map_map]; rfl
  rw [e2] at e
  have hz : ((xs.map F).map D.bl).length ≤ sizeLine := by simp [size_eq]; omega
  have n1 := newL_ok' s1 hz
  have al := all_r _ (get_add_same s1 (.lst ((xs.map F).map .bl)))
  rw [List.all_map, Function.id_comp] at al
  refine ⟨s1.add (.lst ((xs.map F).map D.bl)), ?_, l.trans (.add _ _)⟩
  have i1 : isiD [.tuple] (.tup xs) s = .ok (.bl true) s := rfl
  simp only [m_is_a_walk, b_is_a_walk, fnB_eq, List.length_cons, List.length_nil, List.map_cons, List.map_nil, List.cons_append, List.nil_append, Nat.reduceAdd, Nat.reduceSub, List.replicate, if_true, s_Cons, s_Ret, v_And, v_Un, v_Bi, v_Comp, a_Cons, a_Nil, i_Seq, seqW_tup, v_Var, List.getElem?_cons_zero, List.getElem?_cons_succ, getV_some, bind_ok', i1, truth_bl, goWk_its, wipeE_nil, wipeE_cons, List.set_cons_zero, List.set_cons_succ, e, n1, al, st_ok', then_rt, fnR_rt]
def stF (L : Int) : D → Bool
  | .int i => decide (1 ≤ i.natAbs ∧ (i.natAbs : Int) ≤ L)
  | _ => false
theorem step_int (L i : Int) (s : Sto) : m_is_step [.int i, .int L] s = .ok (.bl (stF L (.int i))) s := run_is_step i L s
theorem step_no (L : Int) (d : D) (s : Sto) (h : m_is_integer [d] s = .ok (.bl false) s) : m_is_step [d, .int L] s = .ok (.bl false) s := by
  simp [m_is_step, b_is_step, fnB_eq, h]
theorem int_non (s : Sto) : m_is_integer [.non] s = .ok (.bl false) s := by simp [m_is_integer, b_is_integer, fnB_eq, isiD, mapO, isTy]
theorem int_bl (b : Bool) (s : Sto) : m_is_integer [.bl b] s = .ok (.bl false) s := by simp [m_is_integer, b_is_integer, fnB_eq, isiD, mapO, isTy]
theorem int_str (b : Str) (s : Sto) : m_is_integer [.str b] s = .ok (.bl false) s := by simp [m_is_integer, b_is_integer, fnB_eq, isiD, mapO, isTy]
theorem int_tup (b : List D) (s : Sto) : m_is_integer [.tup b] s = .ok (.bl false) s := by simp [m_is_integer, b_is_integer, fnB_eq, isiD, mapO, isTy]
def wlt (u v : List Int) : Bool := if u.length = v.length then lexD (ords u) (ords v) else decide (u.length < v.length)
theorem ord_inj {a b : Int} (h : ord a = ord b) : a = b := by
  unfold ord at h
  split at h <;> split at h <;> omega
theorem wlt_irr (u : List Int) : wlt u u = false := by
  unfold wlt
  rw [if_pos rfl, lexD_irr]
theorem wlt_trans {u v w : List Int} (h1 : wlt u v = true) (h2 : wlt v w = true) : wlt u w = true := by
  unfold wlt at *
  by_cases a : u.length = v.length
  · rw [if_pos a] at h1
    by_cases b : v.length = w.length
    · rw [if_pos b] at h2
      rw [if_pos (a.trans b)]
      exact lexD_trans h1 h2
    · rw [if_neg b] at h2
      have h2 := of_decide_eq_true h2
      rw [if_neg (by omega)]
      exact decide_eq_true (by omega)
  · rw [if_neg a] at h1
    have h1 := of_decide_eq_true h1
    by_cases b : v.length = w.length
    · rw [if_neg (by omega)]
      exact decide_eq_true (by omega)
    · rw [if_neg b] at h2
      have h2 := of_decide_eq_true h2
      rw [if_neg (by omega)]
      exact decide_eq_true (by omega)
theorem lexD_tri : ∀ {a b : List Int}, a.length = b.length → lexD a b = false → lexD b a = false → a = b
  | [], [], _, _, _ => rfl
  | x :: a, y :: b, hl, h1, h2 => by
    unfold lexD at h1 h2
    by_cases e : x = y
    · rw [if_pos e] at h1
      rw [if_pos e.symm] at h2
      rw [e, lexD_tri (by simpa using hl) h1 h2]
    · rw [if_neg e] at h1
      rw [if_neg (fun z => e z.symm)] at h2
      have h1 := of_decide_eq_false h1
      have h2 := of_decide_eq_false h2
      omega
  | [], _ :: _, hl, _, _ => by simp at hl
  | _ :: _, [], hl, _, _ => by simp at hl
theorem ords_inj : ∀ {u v : List Int}, ords u = ords v → u = v
  | [], [], _ => rfl
  | [], _ :: _, h => by simp [ords] at h
  | _ :: _, [], h => by simp [ords] at h
  | x :: u, y :: v, h => by
    unfold ords at h
    rw [List.map_cons, List.map_cons] at h
    injection h with h1 h2
    rw [ord_inj h1, ords_inj h2]
theorem wlt_tri {u v : List Int} (h1 : wlt u v = false) (h2 : wlt v u = false) : u = v := by
  unfold wlt at h1 h2
  by_cases a : u.length = v.length
  · rw [if_pos a] at h1
    rw [if_pos a.symm] at h2
    exact ords_inj (lexD_tri (by simp [ords, a]) h1 h2)
  · rw [if_neg a] at h1
    rw [if_neg (fun z => a z.symm)] at h2
    have h1 := of_decide_eq_false h1
    have h2 := of_decide_eq_false h2
    omega
theorem wlt_asym {u v : List Int} (h : wlt u v = true) : wlt v u = false := by
  cases q : wlt v u with
  | false => rfl
  | true => have := wlt_trans h q; rw [wlt_irr] at this; cases this
abbrev Tm := List Int × Int
def num (w : List Int) : List Tm → Int
  | [] => 0
  | t :: ts => (if t.1 = w then t.2 else 0) + num w ts
theorem num_cons (w : List Int) (t : Tm) (ts : List Tm) : num w (t :: ts) = (if t.1 = w then t.2 else 0) + num w ts := rfl
theorem num_nil (w : List Int) : num w [] = 0 := rfl
theorem num_app (w : List Int) : ∀ (a b : List Tm), num w (a ++ b) = num w a + num w b
  | [], b => by simp [num]
  | t :: a, b => by
    rw [List.cons_append, num_cons, num_cons, num_app w a b, Int.add_assoc]
theorem num_perm (w : List Int) {a b : List Tm} (h : a.Perm b) : num w a = num w b := by
  induction h with
  | nil => rfl
  | cons t _ ih => rw [num_cons, num_cons, ih]
  | swap s t l => rw [num_cons, num_cons, num_cons, num_cons]; omega
  | trans _ _ h1 h2 => rw [h1, h2]
theorem num_nz (w : List Int) : ∀ a : List Tm, num w (a.filter fun t => !(t.2 == 0)) = num w a
  | [] => rfl
  | t :: a => by
    rw [List.filter_cons]
    by_cases h : t.2 = 0
    · rw [if_neg (by simp [h]), num_cons, num_nz w a, h]
      simp
    · rw [if_pos (by simp [h]), num_cons, num_cons, num_nz w a]
theorem num_no {w : List Int} : ∀ {a : List Tm}, (∀ t ∈ a, t.1 ≠ w) → num w a = 0
  | [], _ => rfl
  | t :: a, h => by
    rw [num_cons, if_neg (h t List.mem_cons_self), num_no fun s hs => h s (List.mem_cons_of_mem _ hs)]
    rfl
def addT (acc : List Tm) (t : Tm) : List Tm := putT t.1 (getT t.1 acc + t.2) acc
def dct (ts : List Tm) : List Tm := ts.foldl addT []
def Nd (acc : List Tm) : Prop := (acc.map (·.1)).Nodup
theorem getT_num {w : List Int} : ∀ {acc : List Tm}, Nd acc → getT w acc = num w acc
  | [], _ => rfl
  | t :: acc, h => by
    have h' : Nd acc := (List.nodup_cons.mp h).2
    have hn : t.1 ∉ acc.map (·.1) := (List.nodup_cons.mp h).1
    unfold getT
    rw [num_cons]
    by_cases e : t.1 = w
    · rw [List.find?_cons_of_pos (by simp [e]), if_pos e, num_no fun s hs z => hn (by rw [e, ← z]; exact List.mem_map.mpr ⟨s, hs, rfl⟩)]
      simp
    · rw [List.find?_cons_of_neg (by simp [e]), if_neg e, Int.zero_add]
      exact getT_num h'
theorem put_keys (w : List Int) (v : Int) (acc : List Tm) : (putT w v acc).map (·.1) = if (acc.any fun t => decide (t.1 = w)) = true then acc.map (·.1) else acc.map (·.1) ++ [w] := by
  unfold putT
  split
  · rw [List.map_map]
    refine List.map_congr_left fun t _ => ?_
    show (if t.1 = w then (t.1, v) else t).1 = t.1
    split <;> rfl
  · rw [List.map_append]; rfl
theorem any_key (w : List Int) (acc : List Tm) : (acc.any fun t => decide (t.1 = w)) = true ↔ w ∈ acc.map (·.1) := by
  rw [List.any_eq_true, List.mem_map]
  constructor
  · rintro ⟨t, ht, e⟩; exact ⟨t, ht, of_decide_eq_true e⟩
  · rintro ⟨t, ht, e⟩; exact ⟨t, ht, decide_eq_true e⟩
theorem put_nd {w : List Int} {v : Int} {acc : List Tm} (h : Nd acc) : Nd (putT w v acc) := by
  unfold Nd
  rw [put_keys]
  split
  · exact h
  · rename_i q
    rw [any_key] at q
    rw [List.nodup_append]
    refine ⟨h, by simp, fun a ha b hb e => ?_⟩
    rw [List.mem_singleton.mp hb] at e
    rw [e] at ha
    exact q ha
theorem num_map_no {w : List Int} {v : Int} : ∀ {acc : List Tm}, w ∉ acc.map (·.1) → acc.map (fun t => if t.1 = w then (t.1, v) else t) = acc
  | [], _ => rfl
  | t :: acc, h => by
    rw [List.map_cons, List.mem_cons, not_or] at h
    rw [List.map_cons, num_map_no h.2, if_neg (fun e => h.1 e.symm)]
theorem num_put (w k : List Int) (v : Int) : ∀ {acc : List Tm}, Nd acc → num w (putT k v acc) = if w = k then v else num w acc := by
  intro acc h
  unfold putT
  split
  · rename_i q
    rw [any_key] at q
    induction acc with
    | nil => simp at q
    | cons t acc ih =>
      have h' : Nd acc := (List.nodup_cons.mp h).2
      have hn : t.1 ∉ acc.map (·.1) := (List.nodup_cons.mp h).1
      rw [List.map_cons]
      by_cases e : t.1 = k
      · rw [if_pos e, num_map_no (by rw [← e]; exact hn)]
        rw [num_cons, num_cons]
        by_cases f : w = k
        · rw [if_pos f, if_pos (by rw [e, f]), num_no fun s hs z => hn (by rw [e, ← f, ← z]; exact List.mem_map.mpr ⟨s, hs, rfl⟩), Int.add_zero]
        · rw [if_neg f]
          have : ¬ t.1 = w := fun z => f (z.symm.trans e)
          rw [if_neg (show ¬ (t.1, v).1 = w from this), if_neg this]
      · rw [if_neg e]
        have q' : k ∈ acc.map (·.1) := by
          rw [List.map_cons] at q
          rcases List.mem_cons.mp q with q | q
          · exact absurd q.symm e
          · exact q
        rw [num_cons, num_cons, ih h' q']
        by_cases f : w = k
        · rw [if_pos f, if_pos f, if_neg (fun z => e (z.trans f)), Int.zero_add]
        · rw [if_neg f, if_neg f]
  · rename_i q
    rw [any_key] at q
    rw [num_app, num_cons, num_nil]
    by_cases f : w = k
    · rw [if_pos f, if_pos f.symm, num_no fun s hs z => q (by rw [← f, ← z]; exact List.mem_map.mpr ⟨s, hs, rfl⟩)]
      omega
    · rw [if_neg f, if_neg (fun z => f z.symm)]
      omega
theorem dct_go : ∀ (ts acc : List Tm), Nd acc → Nd (ts.foldl addT acc) ∧ (∀ w, num w (ts.foldl addT acc) = num w acc + num w ts) ∧ (∀ w ∈ (ts.foldl addT acc).map (·.1), w ∈ acc.map (·.1) ∨ w ∈ ts.map (·.1)) ∧ (ts.foldl addT acc).length ≤ acc.length + ts.length
  | [], acc, h => ⟨h, fun w => by simp [num], fun w hw => .inl hw, Nat.le_refl _⟩
  | t :: ts, acc, h => by
    obtain ⟨a, b, c, d⟩ := dct_go ts (addT acc t) (put_nd h)
    refine ⟨a, fun w => ?_, fun w hw => ?_, ?_⟩
    · show num w (ts.foldl addT (addT acc t)) = _
      rw [b w]
      unfold addT
      rw [num_put w t.1 _ h]
      show _ = num w acc + ((if t.1 = w then t.2 else 0) + num w ts)
      by_cases e : w = t.1
      · rw [if_pos e, if_pos e.symm, getT_num h, e]; omega
      · rw [if_neg e, if_neg (fun z => e z.symm)]; omega
    · rcases c w hw with q | q
      · unfold addT at q
        rw [put_keys] at q
        split at q
        · exact .inl q
        · rcases List.mem_append.mp q with q | q
          · exact .inl q
          · exact .inr (by rw [List.mem_singleton.mp q]; exact List.mem_cons_self)
      · exact .inr (List.mem_cons_of_mem _ q)
    · have : (addT acc t).length ≤ acc.length + 1 := by
        unfold addT putT
        split
        · rw [List.length_map]; omega
        · simp
      rw [List.length_cons]
      show (ts.foldl addT (addT acc t)).length ≤ _
      omega
theorem dct_nd (ts : List Tm) : Nd (dct ts) := (dct_go ts [] List.nodup_nil).1
theorem dct_num (w : List Int) (ts : List Tm) : num w (dct ts) = num w ts := by rw [dct, (dct_go ts [] List.nodup_nil).2.1 w]; simp [num]
theorem dct_mem {ts : List Tm} {w : List Int} (h : w ∈ (dct ts).map (·.1)) : w ∈ ts.map (·.1) := by
  rcases (dct_go ts [] List.nodup_nil).2.2.1 w h with q | q
  · simp at q
  · exact q
theorem dct_len (ts : List Tm) : (dct ts).length ≤ ts.length := by have := (dct_go ts [] List.nodup_nil).2.2.2; simpa [dct] using this
def Can (C : List Tm) : Prop := C.Pairwise (fun a b => wlt a.1 b.1 = true) ∧ ∀ t ∈ C, t.2 ≠ 0
def tle (a b : Tm) : Bool := !wlt b.1 a.1
def chn (ts : List Tm) : List Tm := ((dct ts).filter fun t => !(t.2 == 0)).mergeSort tle
theorem chn_perm (ts : List Tm) : (chn ts).Perm ((dct ts).filter fun t => !(t.2 == 0)) := List.mergeSort_perm _ _
theorem chn_mem {ts : List Tm} {t : Tm} (h : t ∈ chn ts) : t.1 ∈ ts.map (·.1) ∧ t.2 ≠ 0 := by
  have h := (chn_perm ts).mem_iff.mp h
  obtain ⟨h1, h2⟩ := List.mem_filter.mp h
  exact ⟨dct_mem (List.mem_map.mpr ⟨t, h1, rfl⟩), by simpa using h2⟩
theorem chn_len (ts : List Tm) : (chn ts).length ≤ ts.length := by
  rw [(chn_perm ts).length_eq]
  exact Nat.le_trans (List.length_filter_le _ _) (dct_len ts)
theorem chn_num (w : List Int) (ts : List Tm) : num w (chn ts) = num w ts := by
  rw [num_perm w (chn_perm ts), num_nz, dct_num]
theorem tle_total (a b : Tm) : (tle a b || tle b a) = true := by
  unfold tle
  cases q : wlt b.1 a.1 with
  | false => rfl
  | true => rw [wlt_asym q]; rfl
theorem tle_trans (a b c : Tm) (h1 : tle a b = true) (h2 : tle b c = true) : tle a c = true := by
  unfold tle at *
  rw [Bool.not_eq_true'] at *
  cases q : wlt c.1 a.1 with
  | false => rfl
  | true =>
    exfalso
    cases r : wlt b.1 c.1 with
    | true => have := wlt_trans r q; rw [h1] at this; cases this
    | false =>
      have e := wlt_tri r h2
      rw [e] at h1
      rw [h1] at q
      cases q
theorem chn_can (ts : List Tm) : Can (chn ts) := by
  refine ⟨?_, fun t ht => (chn_mem ht).2⟩
  have nd : ((chn ts).map (·.1)).Nodup := by
    have : ((chn ts).map (·.1)).Perm (((dct ts).filter fun t => !(t.2 == 0)).map (·.1)) := (chn_perm ts).map _
    rw [this.nodup_iff]
    exact (List.filter_sublist.map _).nodup (dct_nd ts)
  have srt : (chn ts).Pairwise (fun a b => tle a b = true) := List.pairwise_mergeSort tle_trans tle_total _
  generalize chn ts = C at nd srt
  induction C with
  | nil => exact .nil
  | cons t C ih =>
    rw [List.pairwise_cons] at srt ⊢
    rw [List.map_cons, List.nodup_cons] at nd
    refine ⟨fun s hs => ?_, ih nd.2 srt.2⟩
    have h1 := srt.1 s hs
    unfold tle at h1
    rw [Bool.not_eq_true'] at h1
    cases q : wlt t.1 s.1 with
    | true => rfl
    | false =>
      have e := wlt_tri q h1
      exact absurd (by rw [e]; exact List.mem_map.mpr ⟨s, hs, rfl⟩) nd.1
theorem can_ext : ∀ {A B : List Tm}, Can A → Can B → (∀ w, num w A = num w B) → A = B
  | [], [], _, _, _ => rfl
  | [], t :: B, _, hB, h => by
    have := h t.1
    rw [num_nil, num_cons, if_pos rfl, num_no fun s hs z => ?_] at this
    · exact absurd (by omega) (hB.2 t List.mem_cons_self)
    · have := (List.pairwise_cons.mp hB.1).1 s hs
      rw [z, wlt_irr] at this
      cases this
  | t :: A, [], hA, _, h => by
    have := h t.1
    rw [num_nil, num_cons, if_pos rfl, num_no fun s hs z => ?_] at this
    · exact absurd (by omega) (hA.2 t List.mem_cons_self)
    · have := (List.pairwise_cons.mp hA.1).1 s hs
      rw [z, wlt_irr] at this
      cases this
  | t :: A, u :: B, hA, hB, h => by
    have a1 := (List.pairwise_cons.mp hA.1).1
    have b1 := (List.pairwise_cons.mp hB.1).1
    have nA : num t.1 A = 0 := num_no fun s hs z => by have := a1 s hs; rw [z, wlt_irr] at this; cases this
    have nB : num u.1 B = 0 := num_no fun s hs z => by have := b1 s hs; rw [z, wlt_irr] at this; cases this
    have e : t.1 = u.1 := by
      cases q1 : wlt t.1 u.1 with
      | true =>
        exfalso
        have := h t.1
        rw [num_cons, num_cons, if_pos rfl, nA, if_neg (fun z => by rw [z, wlt_irr] at q1; cases q1), num_no fun s hs z => by have := wlt_trans q1 (b1 s hs); rw [z, wlt_irr] at this; cases this] at this
        exact hA.2 t List.mem_cons_self (by omega)
      | false =>
        cases q2 : wlt u.1 t.1 with
        | true =>
          exfalso
          have := h u.1
          rw [num_cons, num_cons, if_pos (rfl : u.1 = u.1), nB, if_neg (fun z => by rw [z, wlt_irr] at q2; cases q2), num_no fun s hs z => by have := wlt_trans q2 (a1 s hs); rw [z, wlt_irr] at this; cases this] at this
          exact hB.2 u List.mem_cons_self (by omega)
        | false => exact wlt_tri q1 q2
    have e2 : t.2 = u.2 := by
      have := h t.1
      rw [num_cons, num_cons, if_pos rfl, if_pos e.symm, nA, e, nB] at this
      omega
    have et : t = u := Prod.ext e e2
    subst et
    rw [can_ext ⟨(List.pairwise_cons.mp hA.1).2, fun s hs => hA.2 s (List.mem_cons_of_mem _ hs)⟩ ⟨(List.pairwise_cons.mp hB.1).2, fun s hs => hB.2 s (List.mem_cons_of_mem _ hs)⟩ fun w => by
      have := h w
      rw [num_cons, num_cons] at this
      omega]
theorem chn_ext {A B : List Tm} (h : ∀ w, num w A = num w B) : chn A = chn B := can_ext (chn_can A) (chn_can B) fun w => by rw [chn_num, chn_num, h w]
theorem chn_self {A : List Tm} (h : Can A) : chn A = A := can_ext (chn_can A) h fun w => chn_num w A
theorem chn_none {A : List Tm} (h : ∀ w, num w A = 0) : chn A = [] := can_ext (chn_can A) ⟨.nil, fun t ht => nomatch ht⟩ fun w => by rw [chn_num, h w]; rfl
theorem num_scale (w : List Int) (f : Int) : ∀ A : List Tm, num w (A.map fun t => (t.1, t.2 * f)) = num w A * f
  | [] => by simp [num]
  | t :: A => by
    rw [List.map_cons, num_cons, num_cons, num_scale w f A, Int.add_mul]
    congr 1
    show (if t.1 = w then t.2 * f else 0) = _
    split
    · rfl
    · rw [Int.zero_mul]
theorem can_scale {A : List Tm} (h : Can A) {f : Int} (hf : f ≠ 0) : Can (A.map fun t => (t.1, t.2 * f)) := by
  refine ⟨List.pairwise_map.mpr h.1, fun t ht => ?_⟩
  obtain ⟨s, hs, rfl⟩ := List.mem_map.mp ht
  exact Int.mul_ne_zero (h.2 s hs) hf
def tot (A : List Tm) : Int := (A.map (·.2)).sum
theorem tot_cons (t : Tm) (A : List Tm) : tot (t :: A) = t.2 + tot A := by simp [tot]
theorem tot_perm {A B : List Tm} (h : A.Perm B) : tot A = tot B := by
  induction h with
  | nil => rfl
  | cons t _ ih => rw [tot_cons, tot_cons, ih]
  | swap s t l => rw [tot_cons, tot_cons, tot_cons, tot_cons]; omega
  | trans _ _ h1 h2 => rw [h1, h2]
theorem tot_nz : ∀ A : List Tm, tot (A.filter fun t => !(t.2 == 0)) = tot A
  | [] => rfl
  | t :: A => by
    rw [List.filter_cons]
    by_cases h : t.2 = 0
    · rw [if_neg (by simp [h]), tot_cons, tot_nz A, h]; omega
    · rw [if_pos (by simp [h]), tot_cons, tot_cons, tot_nz A]
theorem tot_app (A B : List Tm) : tot (A ++ B) = tot A + tot B := by simp [tot]
theorem tot_put {k : List Int} {v : Int} : ∀ {acc : List Tm}, Nd acc → tot (putT k v acc) = tot acc - getT k acc + v := by
  intro acc h
  rw [getT_num h]
  unfold putT
  split
  · rename_i q
    rw [any_key] at q
    induction acc with
    | nil => simp at q
    | cons t acc ih =>
      have h' : Nd acc := (List.nodup_cons.mp h).2
      have hn : t.1 ∉ acc.map (·.1) := (List.nodup_cons.mp h).1
      rw [List.map_cons]
      by_cases e : t.1 = k
      · rw [if_pos e, num_map_no (by rw [← e]; exact hn), tot_cons, tot_cons, num_cons, if_pos e, num_no fun s hs z => hn (by rw [e, ← z]; exact List.mem_map.mpr ⟨s, hs, rfl⟩)]
        show v + tot acc = _
        omega
      · have q' : k ∈ acc.map (·.1) := by
          rw [List.map_cons] at q
          rcases List.mem_cons.mp q with q | q
          · exact absurd q.symm e
          · exact q
        rw [if_neg e, tot_cons, tot_cons, ih h' q', num_cons, if_neg e]
        omega
  · rename_i q
    rw [any_key] at q
    rw [tot_app, num_no fun s hs z => q (by rw [← z]; exact List.mem_map.mpr ⟨s, hs, rfl⟩), tot_cons]
    show tot acc + (v + tot []) = _
    have : tot [] = 0 := rfl
    omega
theorem tot_dct_go : ∀ (ts acc : List Tm), Nd acc → tot (ts.foldl addT acc) = tot acc + tot ts
  | [], acc, _ => by show tot acc = _ + tot []; have : tot [] = 0 := rfl; omega
  | t :: ts, acc, h => by
    show tot (ts.foldl addT (addT acc t)) = _
    have := tot_dct_go ts (addT acc t) (put_nd h)
    rw [this, tot_cons]
    unfold addT
    rw [tot_put h]
    omega
theorem tot_chn (ts : List Tm) : tot (chn ts) = tot ts := by
  rw [tot_perm (chn_perm ts), tot_nz, dct, tot_dct_go ts [] List.nodup_nil]
  have : tot [] = 0 := rfl
  omega
theorem wltO_ord (u v : List Int) : wltO ord u v = wlt u v := rfl
def Sz (ts : List Tm) : Prop := ts.length ≤ 1000 ∧ ∀ t ∈ ts, t.1.length ≤ 1000
theorem put_len (w : List Int) (v : Int) (acc : List Tm) : (putT w v acc).length ≤ acc.length + 1 := by
  unfold putT
  split
  · rw [List.length_map]; omega
  · simp
theorem dct_len_go : ∀ (ts acc : List Tm), (ts.foldl addT acc).length ≤ acc.length + ts.length
  | [], acc => Nat.le_refl _
  | t :: ts, acc => by
    rw [List.foldl_cons, List.length_cons]
    have h1 := dct_len_go ts (addT acc t)
    have h2 := put_len t.1 (getT t.1 acc + t.2) acc
    have h3 : (addT acc t).length = (putT t.1 (getT t.1 acc + t.2) acc).length := rfl
    omega
theorem take_dct {ts : List Tm} {k : Nat} {t : Tm} (h : ts[k]? = some t) : (ts.take (k + 1)).foldl addT [] = addT ((ts.take k).foldl addT []) t := by
  rw [List.take_succ, h, List.foldl_append]
  rfl
theorem chain_step (ds : Nat) (t : Tm) (acc : List Tm) (A z2 z3 z4 : Option D) (s : Sto) (hg : s.get ds = some (dW false acc)) (hz : acc.length ≤ 5000) :
    bodyF (gTup 2 (gsCons (gVar 2) (gsCons (gVar 3) gsNil))) b_chain_from_1 (tm t) [A, some (.ref ds), z2, z3, z4] s = .nx [A, some (.ref ds), some (tw t.1), some (.int t.2), z4] (s.set ds (dW false (addT acc t))) := by
  have g2 := get2_W hg t.1
  have s2 := setA_W hg t.1 (getT t.1 acc + t.2) (by rw [size_eq]; omega)
  simp only [fnB_eq, List.length_cons, List.length_nil, List.map_cons, List.map_nil, List.cons_append, List.nil_append, Nat.reduceAdd, Nat.reduceSub, List.replicate, if_true, Bool.false_eq_true, if_false, s_Cons, s_Nil, s_Ret, s_RetN, s_If, s_Asg, s_Expr, s_For, s_Par, then_nx, then_rt, st_ok', bind_ok', fnR_rt, fnR_nx, g_Var, g_Tup, gs_Cons, gs_Nil, v_Call, t_Call, v_CallK, t_CallK, a_Cons, a_Nil, v_Var, t_Var, v_C, t_C, v_Bin, t_Bin, v_Un, t_Un, v_Bi, t_Bi, v_Not, t_Not, v_And, t_And, v_Or, t_Or, v_If, t_If, v_Tup, v_Lst, v_Slc, o_Yes, o_No, toO_int, v_Meth, v_Comp, v_Chain, t_Chain, chain2_t, chain2_f, i_Seq, seqW_tup, i_Rg1, rg1W_ok, i_Rg2, rg2W_ok, goWk_its, wkS_its, wipeE_nil, wipeE_cons, List.set_cons_zero, List.set_cons_succ, List.getElem?_cons_zero, List.getElem?_cons_succ, getV_some, truth_bl, Bool.not_true, Bool.not_false, add_ii, sub_ii, ltI_ii, neg_i, ix_t, okO_some, len_tup, Int.toNat_natCast, par2_ok, bodyF_eq, turnC_none, turnC_some, isBl_bb, isnBl_bb, abs_i, int_i, eqD_ii, neD_ii, v_Chain3, t_Chain3, v_LenSet, v_Comp2, b_chain_from_1, g_SubA, v_Get2, isT_W hg, g2, s2]
  rfl
def Arg (d : D) (s : Sto) (ts : List Tm) : Prop := d = .tup (ts.map tm) ∨ ∃ i, d = .ref i ∧ i < s.n ∧ s.get i = some (.lst (ts.map tm))
theorem get_map {α : Type} {f : α → D} {w : List α} {i : Nat} {x : D} (h : (w.map f)[i]? = some x) : ∃ a, w[i]? = some a ∧ x = f a := by
  rw [List.getElem?_map] at h
  obtain ⟨a, ha, rfl⟩ := Option.map_eq_some_iff.mp h
  exact ⟨a, ha, rfl⟩
theorem chain_loop (d : D) (ts : List Tm) (s : Sto) (ha : Arg d s ts) (hz : ts.length ≤ 1000) :
    ∃ z2 z3 s', (sFor (gTup 2 (gsCons (gVar 2) (gsCons (gVar 3) gsNil))) (iSeq (xVar 0)) b_chain_from_1) [some d, some (.ref s.n), none, none, none] (s.add (.dct [(.bl false, .non)])) = .nx [some d, some (.ref s.n), z2, z3, none] s' ∧ s'.get s.n = some (dW false (dct ts)) ∧ Le s s' ∧ s.n < s'.n := by
  have P0 : (s.add (.dct [(.bl false, .non)])).get s.n = some (dW false ((ts.take 0).foldl addT [])) := get_add_same _ _
  have step : ∀ k x env s1, (ts.map tm)[k]? = some x → ((∃ z2 z3, env = [some d, some (.ref s.n), z2, z3, none]) ∧ s1.get s.n = some (dW false ((ts.take k).foldl addT [])) ∧ Le s s1 ∧ s.n < s1.n) →
      ∃ env' s', (bodyF (gTup 2 (gsCons (gVar 2) (gsCons (gVar 3) gsNil))) b_chain_from_1 x env s1 = .nx env' s' ∨ bodyF (gTup 2 (gsCons (gVar 2) (gsCons (gVar 3) gsNil))) b_chain_from_1 x env s1 = .ct env' s') ∧ ((∃ z2 z3, env' = [some d, some (.ref s.n), z2, z3, none]) ∧ s'.get s.n = some (dW false ((ts.take (k + 1)).foldl addT [])) ∧ Le s s' ∧ s.n < s'.n) := by
    rintro k x env s1 hx ⟨⟨z2, z3, rfl⟩, hg, hl, hn⟩
    obtain ⟨t, ht, rfl⟩ := get_map hx
    have hlen := dct_len_go (ts.take k) []
    have hlk : (ts.take k).length ≤ ts.length := by rw [List.length_take]; omega
    simp only [List.length_nil] at hlen
    have e := chain_step s.n t _ (some d) z2 z3 none s1 hg (by omega)
    exact ⟨_, _, .inl e, ⟨_, _, rfl⟩, by rw [get_set_same, take_dct ht], hl.set (Nat.le_refl _) _, hn⟩
  rcases ha with rfl | ⟨i, rfl, hi, hgi⟩
  · obtain ⟨env', s', e, ⟨z2, z3, rfl⟩, hg, hl, hn⟩ := forIts_inv (b := bodyF (gTup 2 (gsCons (gVar 2) (gsCons (gVar 3) gsNil))) b_chain_from_1)
      (fun k env s1 => (∃ z2 z3, env = [some (.tup (ts.map tm)), some (.ref s.n), z2, z3, none]) ∧ s1.get s.n = some (dW false ((ts.take k).foldl addT [])) ∧ Le s s1 ∧ s.n < s1.n)
      (ts.map tm) 0 [some (.tup (ts.map tm)), some (.ref s.n), none, none, none] (s.add (.dct [(.bl false, .non)])) ⟨⟨_, _, rfl⟩, P0, .add _ _, Nat.lt_succ_self _⟩ (fun i x env s1 hx hp => by
        rw [Nat.zero_add] at *
        exact step i x env s1 hx hp)
    refine ⟨z2, z3, s', ?_, ?_, hl, hn⟩
    · simp only [fnB_eq, List.length_cons, List.length_nil, List.map_cons, List.map_nil, List.cons_append, List.nil_append, Nat.reduceAdd, Nat.reduceSub, List.replicate, if_true, Bool.false_eq_true, if_false, s_Cons, s_Nil, s_Ret, s_RetN, s_If, s_Asg, s_Expr, s_For, s_Par, then_nx, then_rt, st_ok', bind_ok', fnR_rt, fnR_nx, g_Var, g_Tup, gs_Cons, gs_Nil, v_Call, t_Call, v_CallK, t_CallK, a_Cons, a_Nil, v_Var, t_Var, v_C, t_C, v_Bin, t_Bin, v_Un, t_Un, v_Bi, t_Bi, v_Not, t_Not, v_And, t_And, v_Or, t_Or, v_If, t_If, v_Tup, v_Lst, v_Slc, o_Yes, o_No, toO_int, v_Meth, v_Comp, v_Chain, t_Chain, chain2_t, chain2_f, i_Seq, seqW_tup, i_Rg1, rg1W_ok, i_Rg2, rg2W_ok, goWk_its, wkS_its, wipeE_nil, wipeE_cons, List.set_cons_zero, List.set_cons_succ, List.getElem?_cons_zero, List.getElem?_cons_succ, getV_some, truth_bl, Bool.not_true, Bool.not_false, add_ii, sub_ii, ltI_ii, neg_i, ix_t, okO_some, len_tup, Int.toNat_natCast, par2_ok, bodyF_eq, turnC_none, turnC_some, isBl_bb, isnBl_bb, abs_i, int_i, eqD_ii, neD_ii, v_Chain3, t_Chain3, v_LenSet, v_Comp2, e]
    · rw [Nat.zero_add, List.length_map, List.take_length] at hg; exact hg
  · obtain ⟨env', s', e, ⟨z2, z3, rfl⟩, hg, hl, hn⟩ := forLive_inv (b := bodyF (gTup 2 (gsCons (gVar 2) (gsCons (gVar 3) gsNil))) b_chain_from_1) (i := i) (xs := ts.map tm)
      (fun k env s1 => (∃ z2 z3, env = [some (.ref i), some (.ref s.n), z2, z3, none]) ∧ s1.get s.n = some (dW false ((ts.take k).foldl addT [])) ∧ Le s s1 ∧ s.n < s1.n)
      (fun k env s1 hp => (hp.2.2.1.get i hi).trans hgi) 1000000 0 [some (.ref i), some (.ref s.n), none, none, none] (s.add (.dct [(.bl false, .non)])) ⟨⟨_, _, rfl⟩, P0, .add _ _, Nat.lt_succ_self _⟩ (by rw [List.length_map]; omega) (Nat.zero_le _) step
    refine ⟨z2, z3, s', ?_, ?_, hl, hn⟩
    · have sq := seqW_ref ((Le.add s (.dct [(.bl false, .non)])).get i hi |>.trans hgi)
      simp only [fnB_eq, List.length_cons, List.length_nil, List.map_cons, List.map_nil, List.cons_append, List.nil_append, Nat.reduceAdd, Nat.reduceSub, List.replicate, if_true, Bool.false_eq_true, if_false, s_Cons, s_Nil, s_Ret, s_RetN, s_If, s_Asg, s_Expr, s_For, s_Par, then_nx, then_rt, st_ok', bind_ok', fnR_rt, fnR_nx, g_Var, g_Tup, gs_Cons, gs_Nil, v_Call, t_Call, v_CallK, t_CallK, a_Cons, a_Nil, v_Var, t_Var, v_C, t_C, v_Bin, t_Bin, v_Un, t_Un, v_Bi, t_Bi, v_Not, t_Not, v_And, t_And, v_Or, t_Or, v_If, t_If, v_Tup, v_Lst, v_Slc, o_Yes, o_No, toO_int, v_Meth, v_Comp, v_Chain, t_Chain, chain2_t, chain2_f, i_Seq, seqW_tup, i_Rg1, rg1W_ok, i_Rg2, rg2W_ok, goWk_its, wkS_its, wipeE_nil, wipeE_cons, List.set_cons_zero, List.set_cons_succ, List.getElem?_cons_zero, List.getElem?_cons_succ, getV_some, truth_bl, Bool.not_true, Bool.not_false, add_ii, sub_ii, ltI_ii, neg_i, ix_t, okO_some, len_tup, Int.toNat_natCast, par2_ok, bodyF_eq, turnC_none, turnC_some, isBl_bb, isnBl_bb, abs_i, int_i, eqD_ii, neD_ii, v_Chain3, t_Chain3, v_LenSet, v_Comp2, sq, wkS_live, e]
    · rw [List.length_map, List.take_length] at hg; exact hg
theorem ne_i0 (i : Int) (s : Sto) : neD (.int i) (.int 0) s = .ok (.bl (!(i == 0))) s := neD_ii i 0 s
theorem dct_sz {ts : List Tm} (h : Sz ts) : Sz (dct ts) := by
  refine ⟨Nat.le_trans (dct_len ts) h.1, fun t ht => ?_⟩
  have := dct_mem (List.mem_map.mpr ⟨t, ht, rfl⟩)
  obtain ⟨u, hu, e⟩ := List.mem_map.mp this
  rw [← e]
  exact h.2 u hu
theorem run_chain_from (d : D) (ts : List Tm) (s : Sto) (ha : Arg d s ts) (hz : Sz ts) : Ev (m_chain_from [d] s) s (.tup ((chn ts).map tm)) := by
  obtain ⟨z2, z3, s1, e1, g1, l1, n1⟩ := chain_loop d ts s ha hz.1
  have hd := dct_sz hz
  have it := itemsW_W g1
  have gd : (s1.set s.n (dW true (dct ts))).get s.n = some (dW true (dct ts)) := get_set_same _ _ _
  have l2 : Le s (s1.set s.n (dW true (dct ts))) := l1.set (Nat.le_refl _) _
  generalize s1.set s.n (dW true (dct ts)) = s2 at *
  obtain ⟨s3, e3, l3⟩ := goIts_fun (f := turnC (gVar 4) (some c_chain_from_2) e_chain_from_2 [some d, some (.ref s.n), z2, z3, none]) (fun x => match x with
    | .tup [a, .int n] => if n == 0 then none else some (.tup [a, .int n])
    | _ => none) ((dct ts).map tm) s2 fun x hx s' hl => by
      obtain ⟨t, ht, rfl⟩ := List.mem_map.mp hx
      have i1 := ixA_t s' [tw t.1, .int t.2] 1 (d := .int t.2) rfl
      refine ⟨s', ?_, .refl _⟩
      have n0 := ne_i0 t.2 s'
      cases hb : t.2 == 0 with
      | true =>
        rw [hb] at n0
        simp only [fnB_eq, List.length_cons, List.length_nil, List.map_cons, List.map_nil, List.cons_append, List.nil_append, Nat.reduceAdd, Nat.reduceSub, List.replicate, if_true, Bool.false_eq_true, if_false, s_Cons, s_Nil, s_Ret, s_RetN, s_If, s_Asg, s_Expr, s_For, s_Par, then_nx, then_rt, st_ok', bind_ok', fnR_rt, fnR_nx, g_Var, g_Tup, gs_Cons, gs_Nil, v_Call, t_Call, v_CallK, t_CallK, a_Cons, a_Nil, v_Var, t_Var, v_C, t_C, v_Bin, t_Bin, v_Un, t_Un, v_Bi, t_Bi, v_Not, t_Not, v_And, t_And, v_Or, t_Or, v_If, t_If, v_Tup, v_Lst, v_Slc, o_Yes, o_No, toO_int, v_Meth, v_Comp, v_Chain, t_Chain, chain2_t, chain2_f, i_Seq, seqW_tup, i_Rg1, rg1W_ok, i_Rg2, rg2W_ok, goWk_its, wkS_its, wipeE_nil, wipeE_cons, List.set_cons_zero, List.set_cons_succ, List.getElem?_cons_zero, List.getElem?_cons_succ, getV_some, truth_bl, Bool.not_true, Bool.not_false, add_ii, sub_ii, ltI_ii, neg_i, ix_t, okO_some, len_tup, Int.toNat_natCast, par2_ok, bodyF_eq, turnC_none, turnC_some, isBl_bb, isnBl_bb, abs_i, int_i, eqD_ii, neD_ii, v_Chain3, t_Chain3, v_LenSet, v_Comp2, c_chain_from_2, i1, n0]
        rw [if_pos hb]
      | false =>
        rw [hb] at n0
        simp only [fnB_eq, List.length_cons, List.length_nil, List.map_cons, List.map_nil, List.cons_append, List.nil_append, Nat.reduceAdd, Nat.reduceSub, List.replicate, if_true, Bool.false_eq_true, if_false, s_Cons, s_Nil, s_Ret, s_RetN, s_If, s_Asg, s_Expr, s_For, s_Par, then_nx, then_rt, st_ok', bind_ok', fnR_rt, fnR_nx, g_Var, g_Tup, gs_Cons, gs_Nil, v_Call, t_Call, v_CallK, t_CallK, a_Cons, a_Nil, v_Var, t_Var, v_C, t_C, v_Bin, t_Bin, v_Un, t_Un, v_Bi, t_Bi, v_Not, t_Not, v_And, t_And, v_Or, t_Or, v_If, t_If, v_Tup, v_Lst, v_Slc, o_Yes, o_No, toO_int, v_Meth, v_Comp, v_Chain, t_Chain, chain2_t, chain2_f, i_Seq, seqW_tup, i_Rg1, rg1W_ok, i_Rg2, rg2W_ok, goWk_its, wkS_its, wipeE_nil, wipeE_cons, List.set_cons_zero, List.set_cons_succ, List.getElem?_cons_zero, List.getElem?_cons_succ, getV_some, truth_bl, Bool.not_true, Bool.not_false, add_ii, sub_ii, ltI_ii, neg_i, ix_t, okO_some, len_tup, Int.toNat_natCast, par2_ok, bodyF_eq, turnC_none, turnC_some, isBl_bb, isnBl_bb, abs_i, int_i, eqD_ii, neD_ii, v_Chain3, t_Chain3, v_LenSet, v_Comp2, c_chain_from_2, e_chain_from_2, i1, n0]
        rw [if_neg (by rw [hb]; decide)]
  have ef : (((dct ts).map tm).filterMap fun x => match x with
    | .tup [a, .int n] => if n == 0 then none else some (.tup [a, .int n])
    | _ => none) = ((dct ts).filter fun t => !(t.2 == 0)).map tm := by
    rw [List.filterMap_map, ← List.filterMap_eq_map, ← List.filterMap_eq_filter, List.filterMap_filterMap]
    congr 1
    funext t
    show (if (t.2 == 0) = true then none else some (tm t)) = (if (!(t.2 == 0)) = true then some t else none).bind (some ∘ tm)
    cases t.2 == 0 <;> rfl
  rw [ef] at e3
  have hfl : ((dct ts).filter fun t => !(t.2 == 0)).length ≤ 1000 := Nat.le_trans (List.length_filter_le _ _) hd.1
  have n4 := newL_ok' s3 (xs := ((dct ts).filter fun t => !(t.2 == 0)).map tm) (by rw [List.length_map, size_eq]; omega)
  have g4 := get_add_same s3 (.lst (((dct ts).filter fun t => !(t.2 == 0)).map tm))
  have l4 : Le s3 (s3.add (.lst (((dct ts).filter fun t => !(t.2 == 0)).map tm))) := .add _ _
  have q4 : (s3.add (.lst (((dct ts).filter fun t => !(t.2 == 0)).map tm))).n = s3.n + 1 := rfl
  generalize s3.add (.lst (((dct ts).filter fun t => !(t.2 == 0)).map tm)) = s4 at *
  obtain ⟨s5, e5, l5⟩ := sortK_w ord tm (·.1) (f := m_term_key) g4 (by rw [size_eq]; omega) fun t ht s' hl => by
    obtain ⟨s6, e6, l6⟩ := run_walk_key t.1 s' (by have := hd.2 t (List.mem_filter.mp ht).1; omega)
    refine ⟨s6, ?_, l6⟩
    have i0 : ixD (tm t) (.int 0) s' = .ok (tw t.1) s' := by rw [ix_t]; rfl
    simp only [fnB_eq, List.length_cons, List.length_nil, List.map_cons, List.map_nil, List.cons_append, List.nil_append, Nat.reduceAdd, Nat.reduceSub, List.replicate, if_true, Bool.false_eq_true, if_false, s_Cons, s_Nil, s_Ret, s_RetN, s_If, s_Asg, s_Expr, s_For, s_Par, then_nx, then_rt, st_ok', bind_ok', fnR_rt, fnR_nx, g_Var, g_Tup, gs_Cons, gs_Nil, v_Call, t_Call, v_CallK, t_CallK, a_Cons, a_Nil, v_Var, t_Var, v_C, t_C, v_Bin, t_Bin, v_Un, t_Un, v_Bi, t_Bi, v_Not, t_Not, v_And, t_And, v_Or, t_Or, v_If, t_If, v_Tup, v_Lst, v_Slc, o_Yes, o_No, toO_int, v_Meth, v_Comp, v_Chain, t_Chain, chain2_t, chain2_f, i_Seq, seqW_tup, i_Rg1, rg1W_ok, i_Rg2, rg2W_ok, goWk_its, wkS_its, wipeE_nil, wipeE_cons, List.set_cons_zero, List.set_cons_succ, List.getElem?_cons_zero, List.getElem?_cons_succ, getV_some, truth_bl, Bool.not_true, Bool.not_false, add_ii, sub_ii, ltI_ii, neg_i, ix_t, okO_some, len_tup, Int.toNat_natCast, par2_ok, bodyF_eq, turnC_none, turnC_some, isBl_bb, isnBl_bb, abs_i, int_i, eqD_ii, neD_ii, v_Chain3, t_Chain3, v_LenSet, v_Comp2, m_term_key, b_term_key, i0, e6]
  have ec : ((dct ts).filter fun t => !(t.2 == 0)).mergeSort (fun a b => !wltO ord b.1 a.1) = chn ts := rfl
  rw [ec] at e5
  have g5 := get_add_same s5 (.lst ((chn ts).map tm))
  have l6 : Le s5 (s5.add (.lst ((chn ts).map tm))) := .add _ _
  generalize s5.add (.lst ((chn ts).map tm)) = s6 at *
  refine ⟨s6, ?_, (((l2.trans l3).trans l4).trans l5).trans l6⟩
  simp only [fnB_eq, List.length_cons, List.length_nil, List.map_cons, List.map_nil, List.cons_append, List.nil_append, Nat.reduceAdd, Nat.reduceSub, List.replicate, if_true, Bool.false_eq_true, if_false, s_Cons, s_Nil, s_Ret, s_RetN, s_If, s_Asg, s_Expr, s_For, s_Par, then_nx, then_rt, st_ok', bind_ok', fnR_rt, fnR_nx, g_Var, g_Tup, gs_Cons, gs_Nil, v_Call, t_Call, v_CallK, t_CallK, a_Cons, a_Nil, v_Var, t_Var, v_C, t_C, v_Bin, t_Bin, v_Un, t_Un, v_Bi, t_Bi, v_Not, t_Not, v_And, t_And, v_Or, t_Or, v_If, t_If, v_Tup, v_Lst, v_Slc, o_Yes, o_No, toO_int, v_Meth, v_Comp, v_Chain, t_Chain, chain2_t, chain2_f, i_Seq, seqW_tup, i_Rg1, rg1W_ok, i_Rg2, rg2W_ok, goWk_its, wkS_its, wipeE_nil, wipeE_cons, List.set_cons_zero, List.set_cons_succ, List.getElem?_cons_zero, List.getElem?_cons_succ, getV_some, truth_bl, Bool.not_true, Bool.not_false, add_ii, sub_ii, ltI_ii, neg_i, ix_t, okO_some, len_tup, Int.toNat_natCast, par2_ok, bodyF_eq, turnC_none, turnC_some, isBl_bb, isnBl_bb, abs_i, int_i, eqD_ii, neD_ii, v_Chain3, t_Chain3, v_LenSet, v_Comp2] at e1
  simp only [fnB_eq, List.length_cons, List.length_nil, List.map_cons, List.map_nil, List.cons_append, List.nil_append, Nat.reduceAdd, Nat.reduceSub, List.replicate, if_true, Bool.false_eq_true, if_false, s_Cons, s_Nil, s_Ret, s_RetN, s_If, s_Asg, s_Expr, s_For, s_Par, then_nx, then_rt, st_ok', bind_ok', fnR_rt, fnR_nx, g_Var, g_Tup, gs_Cons, gs_Nil, v_Call, t_Call, v_CallK, t_CallK, a_Cons, a_Nil, v_Var, t_Var, v_C, t_C, v_Bin, t_Bin, v_Un, t_Un, v_Bi, t_Bi, v_Not, t_Not, v_And, t_And, v_Or, t_Or, v_If, t_If, v_Tup, v_Lst, v_Slc, o_Yes, o_No, toO_int, v_Meth, v_Comp, v_Chain, t_Chain, chain2_t, chain2_f, i_Seq, seqW_tup, i_Rg1, rg1W_ok, i_Rg2, rg2W_ok, goWk_its, wkS_its, wipeE_nil, wipeE_cons, List.set_cons_zero, List.set_cons_succ, List.getElem?_cons_zero, List.getElem?_cons_succ, getV_some, truth_bl, Bool.not_true, Bool.not_false, add_ii, sub_ii, ltI_ii, neg_i, ix_t, okO_some, len_tup, Int.toNat_natCast, par2_ok, bodyF_eq, turnC_none, turnC_some, isBl_bb, isnBl_bb, abs_i, int_i, eqD_ii, neD_ii, v_Chain3, t_Chain3, v_LenSet, v_Comp2, m_chain_from, b_chain_from, v_DictT, e1, i_Items, it, v_SortK, e3, n4, e5, tuple_r _ g5]
theorem find_self : ∀ {acc : List Tm} {t : Tm}, Nd acc → t ∈ acc → getT t.1 acc = t.2
  | [], t, _, h => nomatch h
  | u :: acc, t, nd, h => by
    have nd' := List.nodup_cons.mp (show ((u :: acc).map (·.1)).Nodup from nd)
    unfold getT
    rw [List.find?_cons]
    rcases List.mem_cons.mp h with rfl | h
    · simp
    · have hne : ¬ u.1 = t.1 := fun e => nd'.1 (List.mem_map.mpr ⟨t, h, e.symm⟩)
      rw [decide_eq_false hne]
      exact find_self nd'.2 h
theorem fm_congr {α β : Type} {f g : α → Option β} : ∀ {l : List α}, (∀ x ∈ l, f x = g x) → l.filterMap f = l.filterMap g
  | [], _ => rfl
  | x :: l, h => by rw [List.filterMap_cons, List.filterMap_cons, h x List.mem_cons_self, fm_congr fun y hy => h y (List.mem_cons_of_mem _ hy)]
theorem run_law_chain (d : D) (ts : List Tm) (s : Sto) (ha : Arg d s ts) (hz : Sz ts) : Ev (m__law_chain [d] s) s (.tup ((chn ts).map tm)) := by
  obtain ⟨z2, z3, s1, e1, g1, l1, n1⟩ := chain_loop d ts s ha hz.1
  have eb : b__law_chain_1 = b_chain_from_1 := rfl
  have hd := dct_sz hz
  have nd := dct_nd ts
  have hds : s.n < s1.n := n1
  have la := listA_W g1 (by rw [size_eq]; have := hd.1; omega)
  have ga := get_add_same s1 (.lst ((dct ts).map fun t => tw t.1))
  have l2 : Le s1 (s1.add (.lst ((dct ts).map fun t => tw t.1))) := .add _ _
  have q2 : (s1.add (.lst ((dct ts).map fun t => tw t.1))).n = s1.n + 1 := rfl
  generalize s1.add (.lst ((dct ts).map fun t => tw t.1)) = s2 at *
  have gd2 : s2.get s.n = some (dW false (dct ts)) := (l2.get _ n1).trans g1
  have key : ∀ t ∈ dct ts, ∀ s', Le s2 s' → ixA (.ref s.n) (tw t.1) s' = .ok (.int t.2) s' := fun t ht s' hl => by
    have := ixA_W ((hl.get _ (by omega)).trans gd2) (List.mem_map.mpr ⟨t, ht, rfl⟩ : t.1 ∈ (dct ts).map (·.1))
    rw [find_self nd ht] at this
    exact this
  have sq := seqW_ref ga
  have ew : ((dct ts).map fun t => tw t.1) = ((dct ts).map (·.1)).map tw := by rw [List.map_map]; rfl
  obtain ⟨s3, e3, l3⟩ := goWk_live_fun (f := turnC (gVar 2) (some c__law_chain_2) e__law_chain_2 [some d, some (.ref s.n), none, z3, none]) (fun x => match tkey x with
    | some w => if getT w (dct ts) == 0 then none else some x
    | none => none) s2 (by omega) ga (by rw [List.length_map]; have := hd.1; omega) fun x hx s' hl => by
      obtain ⟨t, ht, rfl⟩ := List.mem_map.mp hx
      have i1 := key t ht s' hl
      refine ⟨s', ?_, .refl _⟩
      rw [tkey_tw]
      dsimp only
      rw [find_self nd ht]
      have n0 := ne_i0 t.2 s'
      cases hb : t.2 == 0 with
      | true =>
        rw [hb] at n0
        simp only [fnB_eq, List.length_cons, List.length_nil, List.map_cons, List.map_nil, List.cons_append, List.nil_append, Nat.reduceAdd, Nat.reduceSub, List.replicate, if_true, Bool.false_eq_true, if_false, s_Cons, s_Nil, s_Ret, s_RetN, s_If, s_Asg, s_Expr, s_For, s_Par, then_nx, then_rt, st_ok', bind_ok', fnR_rt, fnR_nx, g_Var, g_Tup, gs_Cons, gs_Nil, v_Call, t_Call, v_CallK, t_CallK, a_Cons, a_Nil, v_Var, t_Var, v_C, t_C, v_Bin, t_Bin, v_Un, t_Un, v_Bi, t_Bi, v_Not, t_Not, v_And, t_And, v_Or, t_Or, v_If, t_If, v_Tup, v_Lst, v_Slc, o_Yes, o_No, toO_int, v_Meth, v_Comp, v_Chain, t_Chain, chain2_t, chain2_f, i_Seq, seqW_tup, i_Rg1, rg1W_ok, i_Rg2, rg2W_ok, goWk_its, wkS_its, wipeE_nil, wipeE_cons, List.set_cons_zero, List.set_cons_succ, List.getElem?_cons_zero, List.getElem?_cons_succ, getV_some, truth_bl, Bool.not_true, Bool.not_false, add_ii, sub_ii, ltI_ii, neg_i, ix_t, okO_some, len_tup, Int.toNat_natCast, par2_ok, bodyF_eq, turnC_none, turnC_some, isBl_bb, isnBl_bb, abs_i, int_i, eqD_ii, neD_ii, v_Chain3, t_Chain3, v_LenSet, v_Comp2, c__law_chain_2, i1, n0]
      | false =>
        rw [hb] at n0
        simp only [fnB_eq, List.length_cons, List.length_nil, List.map_cons, List.map_nil, List.cons_append, List.nil_append, Nat.reduceAdd, Nat.reduceSub, List.replicate, if_true, Bool.false_eq_true, if_false, s_Cons, s_Nil, s_Ret, s_RetN, s_If, s_Asg, s_Expr, s_For, s_Par, then_nx, then_rt, st_ok', bind_ok', fnR_rt, fnR_nx, g_Var, g_Tup, gs_Cons, gs_Nil, v_Call, t_Call, v_CallK, t_CallK, a_Cons, a_Nil, v_Var, t_Var, v_C, t_C, v_Bin, t_Bin, v_Un, t_Un, v_Bi, t_Bi, v_Not, t_Not, v_And, t_And, v_Or, t_Or, v_If, t_If, v_Tup, v_Lst, v_Slc, o_Yes, o_No, toO_int, v_Meth, v_Comp, v_Chain, t_Chain, chain2_t, chain2_f, i_Seq, seqW_tup, i_Rg1, rg1W_ok, i_Rg2, rg2W_ok, goWk_its, wkS_its, wipeE_nil, wipeE_cons, List.set_cons_zero, List.set_cons_succ, List.getElem?_cons_zero, List.getElem?_cons_succ, getV_some, truth_bl, Bool.not_true, Bool.not_false, add_ii, sub_ii, ltI_ii, neg_i, ix_t, okO_some, len_tup, Int.toNat_natCast, par2_ok, bodyF_eq, turnC_none, turnC_some, isBl_bb, isnBl_bb, abs_i, int_i, eqD_ii, neD_ii, v_Chain3, t_Chain3, v_LenSet, v_Comp2, c__law_chain_2, e__law_chain_2, i1, n0]
  have ef : (((dct ts).map fun t => tw t.1).filterMap fun x => match tkey x with
    | some w => if getT w (dct ts) == 0 then none else some x
    | none => none) = ((dct ts).filter fun t => !(t.2 == 0)).map fun t => tw t.1 := by
    rw [List.filterMap_map, ← List.filterMap_eq_map, ← List.filterMap_eq_filter, List.filterMap_filterMap]
    refine fm_congr fun t ht => ?_
    show (match tkey (tw t.1) with
    | some w => if getT w (dct ts) == 0 then none else some (tw t.1)
    | none => none) = (if (!(t.2 == 0)) = true then some t else none).bind (some ∘ fun t => tw t.1)
    rw [tkey_tw]
    dsimp only
    rw [find_self nd ht]
    cases t.2 == 0 <;> rfl
  rw [ef] at e3
  have hfl : ((dct ts).filter fun t => !(t.2 == 0)).length ≤ 1000 := Nat.le_trans (List.length_filter_le _ _) hd.1
  have n4 := newL_ok' s3 (xs := ((dct ts).filter fun t => !(t.2 == 0)).map fun t => tw t.1) (by rw [List.length_map, size_eq]; omega)
  have g4 := get_add_same s3 (.lst (((dct ts).filter fun t => !(t.2 == 0)).map fun t => tw t.1))
  have l4 : Le s3 (s3.add (.lst (((dct ts).filter fun t => !(t.2 == 0)).map fun t => tw t.1))) := .add _ _
  have q4 : (s3.add (.lst (((dct ts).filter fun t => !(t.2 == 0)).map fun t => tw t.1))).n = s3.n + 1 := rfl
  generalize s3.add (.lst (((dct ts).filter fun t => !(t.2 == 0)).map fun t => tw t.1)) = s4 at *
  obtain ⟨s5, e5, l5⟩ := sortK_w ord (fun t : Tm => tw t.1) (·.1) (f := m__law_key) g4 (by rw [size_eq]; omega) fun t ht s' hl =>
    run_law_key t.1 s' (by have := hd.2 t (List.mem_filter.mp ht).1; omega)
  have ec : ((dct ts).filter fun t => !(t.2 == 0)).mergeSort (fun a b => !wltO ord b.1 a.1) = chn ts := rfl
  rw [ec] at e5
  have g5 := get_add_same s5 (.lst ((chn ts).map fun t => tw t.1))
  have l6 : Le s5 (s5.add (.lst ((chn ts).map fun t => tw t.1))) := .add _ _
  have q6 : (s5.add (.lst ((chn ts).map fun t => tw t.1))).n = s5.n + 1 := rfl
  generalize s5.add (.lst ((chn ts).map fun t => tw t.1)) = s6 at *
  have sq6 := seqW_ref g5
  have hcl := chn_len ts
  have l26 : Le s2 s6 := ((l3.trans l4).trans l5).trans l6
  obtain ⟨s7, e7, l7⟩ := goWk_live (f := turnC (gVar 2) none e__law_chain_3 [some d, some (.ref s.n), none, z3, some (.ref s5.n)]) (fun x => match tkey x with
    | some w => .tup [x, .int (getT w (dct ts))]
    | none => .non) s6 (by omega) g5 (by rw [List.length_map]; have := hz.1; omega) fun x hx s' hl => by
      obtain ⟨t, ht, rfl⟩ := List.mem_map.mp hx
      have ht := (List.mem_filter.mp ((chn_perm ts).mem_iff.mp ht)).1
      have i1 := key t ht s' (l26.trans hl)
      refine ⟨s', ?_, .refl _⟩
      rw [tkey_tw]
      dsimp only
      rw [find_self nd ht]
      have tl2 : (0 + 1 + 1 : Nat) ≤ sizeLine := by rw [size_eq]; decide
      simp only [fnB_eq, List.length_cons, List.length_nil, List.map_cons, List.map_nil, List.cons_append, List.nil_append, Nat.reduceAdd, Nat.reduceSub, List.replicate, if_true, Bool.false_eq_true, if_false, s_Cons, s_Nil, s_Ret, s_RetN, s_If, s_Asg, s_Expr, s_For, s_Par, then_nx, then_rt, st_ok', bind_ok', fnR_rt, fnR_nx, g_Var, g_Tup, gs_Cons, gs_Nil, v_Call, t_Call, v_CallK, t_CallK, a_Cons, a_Nil, v_Var, t_Var, v_C, t_C, v_Bin, t_Bin, v_Un, t_Un, v_Bi, t_Bi, v_Not, t_Not, v_And, t_And, v_Or, t_Or, v_If, t_If, v_Tup, v_Lst, v_Slc, o_Yes, o_No, toO_int, v_Meth, v_Comp, v_Chain, t_Chain, chain2_t, chain2_f, i_Seq, seqW_tup, i_Rg1, rg1W_ok, i_Rg2, rg2W_ok, goWk_its, wkS_its, wipeE_nil, wipeE_cons, List.set_cons_zero, List.set_cons_succ, List.getElem?_cons_zero, List.getElem?_cons_succ, getV_some, truth_bl, Bool.not_true, Bool.not_false, add_ii, sub_ii, ltI_ii, neg_i, ix_t, okO_some, len_tup, Int.toNat_natCast, par2_ok, bodyF_eq, turnC_none, turnC_some, isBl_bb, isnBl_bb, abs_i, int_i, eqD_ii, neD_ii, v_Chain3, t_Chain3, v_LenSet, v_Comp2, e__law_chain_3, i1, tl2]
  have em : (((chn ts).map fun t => tw t.1).map fun x => match tkey x with
    | some w => .tup [x, .int (getT w (dct ts))]
    | none => .non) = (chn ts).map tm := by
    rw [List.map_map]
    refine List.map_congr_left fun t ht => ?_
    have ht := (List.mem_filter.mp ((chn_perm ts).mem_iff.mp ht)).1
    show (match tkey (tw t.1) with
    | some w => D.tup [tw t.1, .int (getT w (dct ts))]
    | none => .non) = _
    rw [tkey_tw]
    dsimp only
    rw [find_self nd ht]
  rw [em] at e7
  have n8 := newL_ok' s7 (xs := (chn ts).map tm) (by rw [List.length_map, size_eq]; have := hz.1; omega)
  have g8 := get_add_same s7 (.lst ((chn ts).map tm))
  have l8 : Le s7 (s7.add (.lst ((chn ts).map tm))) := .add _ _
  generalize s7.add (.lst ((chn ts).map tm)) = s8 at *
  simp only [fnB_eq, List.length_cons, List.length_nil, List.map_cons, List.map_nil, List.cons_append, List.nil_append, Nat.reduceAdd, Nat.reduceSub, List.replicate, if_true, Bool.false_eq_true, if_false, s_Cons, s_Nil, s_Ret, s_RetN, s_If, s_Asg, s_Expr, s_For, s_Par, then_nx, then_rt, st_ok', bind_ok', fnR_rt, fnR_nx, g_Var, g_Tup, gs_Cons, gs_Nil, v_Call, t_Call, v_CallK, t_CallK, a_Cons, a_Nil, v_Var, t_Var, v_C, t_C, v_Bin, t_Bin, v_Un, t_Un, v_Bi, t_Bi, v_Not, t_Not, v_And, t_And, v_Or, t_Or, v_If, t_If, v_Tup, v_Lst, v_Slc, o_Yes, o_No, toO_int, v_Meth, v_Comp, v_Chain, t_Chain, chain2_t, chain2_f, i_Seq, seqW_tup, i_Rg1, rg1W_ok, i_Rg2, rg2W_ok, goWk_its, wkS_its, wipeE_nil, wipeE_cons, List.set_cons_zero, List.set_cons_succ, List.getElem?_cons_zero, List.getElem?_cons_succ, getV_some, truth_bl, Bool.not_true, Bool.not_false, add_ii, sub_ii, ltI_ii, neg_i, ix_t, okO_some, len_tup, Int.toNat_natCast, par2_ok, bodyF_eq, turnC_none, turnC_some, isBl_bb, isnBl_bb, abs_i, int_i, eqD_ii, neD_ii, v_Chain3, t_Chain3, v_LenSet, v_Comp2] at e1
  refine ⟨s8, ?_, (((l1.trans l2).trans l26).trans l7).trans l8⟩
  simp only [fnB_eq, List.length_cons, List.length_nil, List.map_cons, List.map_nil, List.cons_append, List.nil_append, Nat.reduceAdd, Nat.reduceSub, List.replicate, if_true, Bool.false_eq_true, if_false, s_Cons, s_Nil, s_Ret, s_RetN, s_If, s_Asg, s_Expr, s_For, s_Par, then_nx, then_rt, st_ok', bind_ok', fnR_rt, fnR_nx, g_Var, g_Tup, gs_Cons, gs_Nil, v_Call, t_Call, v_CallK, t_CallK, a_Cons, a_Nil, v_Var, t_Var, v_C, t_C, v_Bin, t_Bin, v_Un, t_Un, v_Bi, t_Bi, v_Not, t_Not, v_And, t_And, v_Or, t_Or, v_If, t_If, v_Tup, v_Lst, v_Slc, o_Yes, o_No, toO_int, v_Meth, v_Comp, v_Chain, t_Chain, chain2_t, chain2_f, i_Seq, seqW_tup, i_Rg1, rg1W_ok, i_Rg2, rg2W_ok, goWk_its, wkS_its, wipeE_nil, wipeE_cons, List.set_cons_zero, List.set_cons_succ, List.getElem?_cons_zero, List.getElem?_cons_succ, getV_some, truth_bl, Bool.not_true, Bool.not_false, add_ii, sub_ii, ltI_ii, neg_i, ix_t, okO_some, len_tup, Int.toNat_natCast, par2_ok, bodyF_eq, turnC_none, turnC_some, isBl_bb, isnBl_bb, abs_i, int_i, eqD_ii, neD_ii, v_Chain3, t_Chain3, v_LenSet, v_Comp2, m__law_chain, b__law_chain, v_DictT, eb, e1, la, sq, v_SortK, e3, n4, e5, sq6, e7, n8, tuple_r _ g8]
theorem chn_sz {ts : List Tm} (h : Sz ts) : Sz (chn ts) := by
  refine ⟨Nat.le_trans (chn_len ts) h.1, fun t ht => ?_⟩
  obtain ⟨u, hu, e⟩ := List.mem_map.mp (chn_mem ht).1
  rw [← e]
  exact h.2 u hu
theorem term_not (L : Int) (d : D) (s : Sto) (h : isiD [.tuple] d s = .ok (.bl false) s) : m_is_term [.int L, d] s = .ok (.bl false) s := by
  simp only [fnB_eq, List.length_cons, List.length_nil, List.map_cons, List.map_nil, List.cons_append, List.nil_append, Nat.reduceAdd, Nat.reduceSub, List.replicate, if_true, Bool.false_eq_true, if_false, s_Cons, s_Nil, s_Ret, s_RetN, s_If, s_Asg, s_Expr, s_For, s_Par, then_nx, then_rt, st_ok', bind_ok', fnR_rt, fnR_nx, g_Var, g_Tup, gs_Cons, gs_Nil, v_Call, t_Call, v_CallK, t_CallK, a_Cons, a_Nil, v_Var, t_Var, v_C, t_C, v_Bin, t_Bin, v_Un, t_Un, v_Bi, t_Bi, v_Not, t_Not, v_And, t_And, v_Or, t_Or, v_If, t_If, v_Tup, v_Lst, v_Slc, o_Yes, o_No, toO_int, v_Meth, v_Comp, v_Chain, t_Chain, chain2_t, chain2_f, i_Seq, seqW_tup, i_Rg1, rg1W_ok, i_Rg2, rg2W_ok, goWk_its, wkS_its, wipeE_nil, wipeE_cons, List.set_cons_zero, List.set_cons_succ, List.getElem?_cons_zero, List.getElem?_cons_succ, getV_some, truth_bl, Bool.not_true, Bool.not_false, add_ii, sub_ii, ltI_ii, neg_i, ix_t, okO_some, len_tup, Int.toNat_natCast, par2_ok, bodyF_eq, turnC_none, turnC_some, isBl_bb, isnBl_bb, abs_i, int_i, eqD_ii, neD_ii, v_Chain3, t_Chain3, v_LenSet, v_Comp2, m_is_term, b_is_term, h]
theorem isi_tup (xs : List D) (s : Sto) : isiD [.tuple] (.tup xs) s = .ok (.bl true) s := rfl
theorem term_len (L : Int) (xs : List D) (s : Sto) (h : xs.length ≠ 2) : m_is_term [.int L, .tup xs] s = .ok (.bl false) s := by
  have c : (!((xs.length : Int) == 2)) = true := by rw [Bool.not_eq_true', beq_eq_false_iff_ne]; omega
  simp only [fnB_eq, List.length_cons, List.length_nil, List.map_cons, List.map_nil, List.cons_append, List.nil_append, Nat.reduceAdd, Nat.reduceSub, List.replicate, if_true, Bool.false_eq_true, if_false, s_Cons, s_Nil, s_Ret, s_RetN, s_If, s_Asg, s_Expr, s_For, s_Par, then_nx, then_rt, st_ok', bind_ok', fnR_rt, fnR_nx, g_Var, g_Tup, gs_Cons, gs_Nil, v_Call, t_Call, v_CallK, t_CallK, a_Cons, a_Nil, v_Var, t_Var, v_C, t_C, v_Bin, t_Bin, v_Un, t_Un, v_Bi, t_Bi, v_Not, t_Not, v_And, t_And, v_Or, t_Or, v_If, t_If, v_Tup, v_Lst, v_Slc, o_Yes, o_No, toO_int, v_Meth, v_Comp, v_Chain, t_Chain, chain2_t, chain2_f, i_Seq, seqW_tup, i_Rg1, rg1W_ok, i_Rg2, rg2W_ok, goWk_its, wkS_its, wipeE_nil, wipeE_cons, List.set_cons_zero, List.set_cons_succ, List.getElem?_cons_zero, List.getElem?_cons_succ, getV_some, truth_bl, Bool.not_true, Bool.not_false, add_ii, sub_ii, ltI_ii, neg_i, ix_t, okO_some, len_tup, Int.toNat_natCast, par2_ok, bodyF_eq, turnC_none, turnC_some, isBl_bb, isnBl_bb, abs_i, int_i, eqD_ii, neD_ii, v_Chain3, t_Chain3, v_LenSet, v_Comp2, m_is_term, b_is_term, isi_tup, c]
theorem c2 : (!((((0 + 1 + 1 : Nat) : Int)) == 2)) = false := rfl
theorem ix0 (x y : D) (s : Sto) : ixD (.tup [x, y]) (.int 0) s = .ok x s := by rw [ix_t]; rfl
theorem ix1 (x y : D) (s : Sto) : ixD (.tup [x, y]) (.int 1) s = .ok y s := by rw [ix_t]; rfl
theorem at0 (x y : D) : L2.atI [x, y] 0 = some x := rfl
theorem at1 (x y : D) : L2.atI [x, y] 1 = some y := rfl
theorem term_walk (L : Int) (x y : D) (s : Sto) (h : Ev (m_is_a_walk [x, .int L] s) s (.bl false)) : Ev (m_is_term [.int L, .tup [x, y]] s) s (.bl false) := by
  obtain ⟨s1, e1, l1⟩ := h
  exact ⟨s1, by simp only [fnB_eq, List.length_cons, List.length_nil, List.map_cons, List.map_nil, List.cons_append, List.nil_append, Nat.reduceAdd, Nat.reduceSub, List.replicate, if_true, Bool.false_eq_true, if_false, s_Cons, s_Nil, s_Ret, s_RetN, s_If, s_Asg, s_Expr, s_For, s_Par, then_nx, then_rt, st_ok', bind_ok', fnR_rt, fnR_nx, g_Var, g_Tup, gs_Cons, gs_Nil, v_Call, t_Call, v_CallK, t_CallK, a_Cons, a_Nil, v_Var, t_Var, v_C, t_C, v_Bin, t_Bin, v_Un, t_Un, v_Bi, t_Bi, v_Not, t_Not, v_And, t_And, v_Or, t_Or, v_If, t_If, v_Tup, v_Lst, v_Slc, o_Yes, o_No, toO_int, v_Meth, v_Comp, v_Chain, t_Chain, chain2_t, chain2_f, i_Seq, seqW_tup, i_Rg1, rg1W_ok, i_Rg2, rg2W_ok, goWk_its, wkS_its, wipeE_nil, wipeE_cons, List.set_cons_zero, List.set_cons_succ, List.getElem?_cons_zero, List.getElem?_cons_succ, getV_some, truth_bl, Bool.not_true, Bool.not_false, add_ii, sub_ii, ltI_ii, neg_i, ix_t, okO_some, len_tup, Int.toNat_natCast, par2_ok, bodyF_eq, turnC_none, turnC_some, isBl_bb, isnBl_bb, abs_i, int_i, eqD_ii, neD_ii, v_Chain3, t_Chain3, v_LenSet, v_Comp2, m_is_term, b_is_term, isi_tup, c2, at0, e1], l1⟩
theorem term_num (L : Int) (w : List Int) (y : D) (s : Sto) (hw : w.length ≤ 10000) (h : WkL L w) (hy : ∀ s, m_is_integer [y] s = .ok (.bl false) s) : Ev (m_is_term [.int L, .tup [tw w, y]] s) s (.bl false) := by
  obtain ⟨s1, e1, l1⟩ := run_is_a_walk w s (by omega) h
  obtain ⟨s2, e2, l2⟩ := run_straightened w s1 (by omega)
  refine ⟨s2, ?_, l1.trans l2⟩
  by_cases q : red w = w
  · simp only [fnB_eq, List.length_cons, List.length_nil, List.map_cons, List.map_nil, List.cons_append, List.nil_append, Nat.reduceAdd, Nat.reduceSub, List.replicate, if_true, Bool.false_eq_true, if_false, s_Cons, s_Nil, s_Ret, s_RetN, s_If, s_Asg, s_Expr, s_For, s_Par, then_nx, then_rt, st_ok', bind_ok', fnR_rt, fnR_nx, g_Var, g_Tup, gs_Cons, gs_Nil, v_Call, t_Call, v_CallK, t_CallK, a_Cons, a_Nil, v_Var, t_Var, v_C, t_C, v_Bin, t_Bin, v_Un, t_Un, v_Bi, t_Bi, v_Not, t_Not, v_And, t_And, v_Or, t_Or, v_If, t_If, v_Tup, v_Lst, v_Slc, o_Yes, o_No, toO_int, v_Meth, v_Comp, v_Chain, t_Chain, chain2_t, chain2_f, i_Seq, seqW_tup, i_Rg1, rg1W_ok, i_Rg2, rg2W_ok, goWk_its, wkS_its, wipeE_nil, wipeE_cons, List.set_cons_zero, List.set_cons_succ, List.getElem?_cons_zero, List.getElem?_cons_succ, getV_some, truth_bl, Bool.not_true, Bool.not_false, add_ii, sub_ii, ltI_ii, neg_i, ix_t, okO_some, len_tup, Int.toNat_natCast, par2_ok, bodyF_eq, turnC_none, turnC_some, isBl_bb, isnBl_bb, abs_i, int_i, eqD_ii, neD_ii, v_Chain3, t_Chain3, v_LenSet, v_Comp2, m_is_term, b_is_term, isi_tup, c2, at0, at1, e1, e2, eqD_tw, decide_eq_true q, hy]
  · simp only [fnB_eq, List.length_cons, List.length_nil, List.map_cons, List.map_nil, List.cons_append, List.nil_append, Nat.reduceAdd, Nat.reduceSub, List.replicate, if_true, Bool.false_eq_true, if_false, s_Cons, s_Nil, s_Ret, s_RetN, s_If, s_Asg, s_Expr, s_For, s_Par, then_nx, then_rt, st_ok', bind_ok', fnR_rt, fnR_nx, g_Var, g_Tup, gs_Cons, gs_Nil, v_Call, t_Call, v_CallK, t_CallK, a_Cons, a_Nil, v_Var, t_Var, v_C, t_C, v_Bin, t_Bin, v_Un, t_Un, v_Bi, t_Bi, v_Not, t_Not, v_And, t_And, v_Or, t_Or, v_If, t_If, v_Tup, v_Lst, v_Slc, o_Yes, o_No, toO_int, v_Meth, v_Comp, v_Chain, t_Chain, chain2_t, chain2_f, i_Seq, seqW_tup, i_Rg1, rg1W_ok, i_Rg2, rg2W_ok, goWk_its, wkS_its, wipeE_nil, wipeE_cons, List.set_cons_zero, List.set_cons_succ, List.getElem?_cons_zero, List.getElem?_cons_succ, getV_some, truth_bl, Bool.not_true, Bool.not_false, add_ii, sub_ii, ltI_ii, neg_i, ix_t, okO_some, len_tup, Int.toNat_natCast, par2_ok, bodyF_eq, turnC_none, turnC_some, isBl_bb, isnBl_bb, abs_i, int_i, eqD_ii, neD_ii, v_Chain3, t_Chain3, v_LenSet, v_Comp2, m_is_term, b_is_term, isi_tup, c2, at0, at1, e1, e2, eqD_tw, decide_eq_false q]
def stB (L : Int) (w : List Int) : Bool := w.all fun x => stF L (.int x)
theorem run_walk_any (L : Int) (w : List Int) (s : Sto) (hw : w.length ≤ 1000) : Ev (m_is_a_walk [tw w, .int L] s) s (.bl (stB L w)) := by
  have := walk_tup (xs := w.map .int) L (stF L) s (by rw [List.length_map]; exact hw) fun x hx s => by
    obtain ⟨i, _, rfl⟩ := List.mem_map.mp hx
    exact step_int L i s
  rw [List.all_map] at this
  exact this
def tmB (L : Int) (t : Tm) : Bool := stB L t.1 && (decide (red t.1 = t.1) && !(t.2 == 0))
theorem run_is_term (L : Int) (t : Tm) (s : Sto) (hw : t.1.length ≤ 1000) : Ev (m_is_term [.int L, tm t] s) s (.bl (tmB L t)) := by
  obtain ⟨s1, e1, l1⟩ := run_walk_any L t.1 s hw
  unfold tmB
  cases hb : stB L t.1 with
  | false =>
    rw [hb] at e1
    exact ⟨s1, by simp only [fnB_eq, List.length_cons, List.length_nil, List.map_cons, List.map_nil, List.cons_append, List.nil_append, Nat.reduceAdd, Nat.reduceSub, List.replicate, if_true, Bool.false_eq_true, if_false, s_Cons, s_Nil, s_Ret, s_RetN, s_If, s_Asg, s_Expr, s_For, s_Par, then_nx, then_rt, st_ok', bind_ok', fnR_rt, fnR_nx, g_Var, g_Tup, gs_Cons, gs_Nil, v_Call, t_Call, v_CallK, t_CallK, a_Cons, a_Nil, v_Var, t_Var, v_C, t_C, v_Bin, t_Bin, v_Un, t_Un, v_Bi, t_Bi, v_Not, t_Not, v_And, t_And, v_Or, t_Or, v_If, t_If, v_Tup, v_Lst, v_Slc, o_Yes, o_No, toO_int, v_Meth, v_Comp, v_Chain, t_Chain, chain2_t, chain2_f, i_Seq, seqW_tup, i_Rg1, rg1W_ok, i_Rg2, rg2W_ok, goWk_its, wkS_its, wipeE_nil, wipeE_cons, List.set_cons_zero, List.set_cons_succ, List.getElem?_cons_zero, List.getElem?_cons_succ, getV_some, truth_bl, Bool.not_true, Bool.not_false, add_ii, sub_ii, ltI_ii, neg_i, ix_t, okO_some, len_tup, Int.toNat_natCast, par2_ok, bodyF_eq, turnC_none, turnC_some, isBl_bb, isnBl_bb, abs_i, int_i, eqD_ii, neD_ii, v_Chain3, t_Chain3, v_LenSet, v_Comp2, m_is_term, b_is_term, isi_tup, c2, at0, e1]; rfl, l1⟩
  | true =>
    rw [hb] at e1
    obtain ⟨s2, e2, l2⟩ := run_straightened t.1 s1 (by omega)
    refine ⟨s2, ?_, l1.trans l2⟩
    by_cases q : red t.1 = t.1
    · simp only [fnB_eq, List.length_cons, List.length_nil, List.map_cons, List.map_nil, List.cons_append, List.nil_append, Nat.reduceAdd, Nat.reduceSub, List.replicate, if_true, Bool.false_eq_true, if_false, s_Cons, s_Nil, s_Ret, s_RetN, s_If, s_Asg, s_Expr, s_For, s_Par, then_nx, then_rt, st_ok', bind_ok', fnR_rt, fnR_nx, g_Var, g_Tup, gs_Cons, gs_Nil, v_Call, t_Call, v_CallK, t_CallK, a_Cons, a_Nil, v_Var, t_Var, v_C, t_C, v_Bin, t_Bin, v_Un, t_Un, v_Bi, t_Bi, v_Not, t_Not, v_And, t_And, v_Or, t_Or, v_If, t_If, v_Tup, v_Lst, v_Slc, o_Yes, o_No, toO_int, v_Meth, v_Comp, v_Chain, t_Chain, chain2_t, chain2_f, i_Seq, seqW_tup, i_Rg1, rg1W_ok, i_Rg2, rg2W_ok, goWk_its, wkS_its, wipeE_nil, wipeE_cons, List.set_cons_zero, List.set_cons_succ, List.getElem?_cons_zero, List.getElem?_cons_succ, getV_some, truth_bl, Bool.not_true, Bool.not_false, add_ii, sub_ii, ltI_ii, neg_i, ix_t, okO_some, len_tup, Int.toNat_natCast, par2_ok, bodyF_eq, turnC_none, turnC_some, isBl_bb, isnBl_bb, abs_i, int_i, eqD_ii, neD_ii, v_Chain3, t_Chain3, v_LenSet, v_Comp2, m_is_term, b_is_term, isi_tup, c2, at0, at1, e1, e2, eqD_tw, decide_eq_true q, run_is_integer, neD_ii]
      rfl
    · simp only [fnB_eq, List.length_cons, List.length_nil, List.map_cons, List.map_nil, List.cons_append, List.nil_append, Nat.reduceAdd, Nat.reduceSub, List.replicate, if_true, Bool.false_eq_true, if_false, s_Cons, s_Nil, s_Ret, s_RetN, s_If, s_Asg, s_Expr, s_For, s_Par, then_nx, then_rt, st_ok', bind_ok', fnR_rt, fnR_nx, g_Var, g_Tup, gs_Cons, gs_Nil, v_Call, t_Call, v_CallK, t_CallK, a_Cons, a_Nil, v_Var, t_Var, v_C, t_C, v_Bin, t_Bin, v_Un, t_Un, v_Bi, t_Bi, v_Not, t_Not, v_And, t_And, v_Or, t_Or, v_If, t_If, v_Tup, v_Lst, v_Slc, o_Yes, o_No, toO_int, v_Meth, v_Comp, v_Chain, t_Chain, chain2_t, chain2_f, i_Seq, seqW_tup, i_Rg1, rg1W_ok, i_Rg2, rg2W_ok, goWk_its, wkS_its, wipeE_nil, wipeE_cons, List.set_cons_zero, List.set_cons_succ, List.getElem?_cons_zero, List.getElem?_cons_succ, getV_some, truth_bl, Bool.not_true, Bool.not_false, add_ii, sub_ii, ltI_ii, neg_i, ix_t, okO_some, len_tup, Int.toNat_natCast, par2_ok, bodyF_eq, turnC_none, turnC_some, isBl_bb, isnBl_bb, abs_i, int_i, eqD_ii, neD_ii, v_Chain3, t_Chain3, v_LenSet, v_Comp2, m_is_term, b_is_term, isi_tup, c2, at0, at1, e1, e2, eqD_tw, decide_eq_false q]
      rfl
theorem chain_not (L : Int) (d : D) (s : Sto) (h : isiD [.tuple] d s = .ok (.bl false) s) : m_is_a_chain [.int L, d] s = .ok (.bl false) s := by
  simp only [fnB_eq, List.length_cons, List.length_nil, List.map_cons, List.map_nil, List.cons_append, List.nil_append, Nat.reduceAdd, Nat.reduceSub, List.replicate, if_true, Bool.false_eq_true, if_false, s_Cons, s_Nil, s_Ret, s_RetN, s_If, s_Asg, s_Expr, s_For, s_Par, then_nx, then_rt, st_ok', bind_ok', fnR_rt, fnR_nx, g_Var, g_Tup, gs_Cons, gs_Nil, v_Call, t_Call, v_CallK, t_CallK, a_Cons, a_Nil, v_Var, t_Var, v_C, t_C, v_Bin, t_Bin, v_Un, t_Un, v_Bi, t_Bi, v_Not, t_Not, v_And, t_And, v_Or, t_Or, v_If, t_If, v_Tup, v_Lst, v_Slc, o_Yes, o_No, toO_int, v_Meth, v_Comp, v_Chain, t_Chain, chain2_t, chain2_f, i_Seq, seqW_tup, i_Rg1, rg1W_ok, i_Rg2, rg2W_ok, goWk_its, wkS_its, wipeE_nil, wipeE_cons, List.set_cons_zero, List.set_cons_succ, List.getElem?_cons_zero, List.getElem?_cons_succ, getV_some, truth_bl, Bool.not_true, Bool.not_false, add_ii, sub_ii, ltI_ii, neg_i, ix_t, okO_some, len_tup, Int.toNat_natCast, par2_ok, bodyF_eq, turnC_none, turnC_some, isBl_bb, isnBl_bb, abs_i, int_i, eqD_ii, neD_ii, v_Chain3, t_Chain3, v_LenSet, v_Comp2, m_is_a_chain, b_is_a_chain, h]
theorem terms_all (L : Int) (xs : List D) (F : D → Bool) (s : Sto) (hn : xs.length ≤ 1000) (h : ∀ x ∈ xs, ∀ s', Le s s' → Ev (m_is_term [.int L, x] s') s' (.bl (F x))) :
    ∃ s1 i s2, goIts (turnC (gVar 2) none e_is_a_chain_1 [some (.int L), some (.tup xs), none, none, none, none]) xs s = .ok (xs.map fun x => .bl (F x)) s1 ∧ newL (xs.map fun x => .bl (F x)) s1 = .ok (.ref i) s2 ∧ allB [.ref i] s2 = .ok (.bl (xs.all F)) s2 ∧ Le s s2 := by
  obtain ⟨s1, e1, l1⟩ := goIts_map (f := turnC (gVar 2) none e_is_a_chain_1 [some (.int L), some (.tup xs), none, none, none, none]) (fun x => .bl (F x)) xs s fun x hx s' hl => by
    obtain ⟨s2, e2, l2⟩ := h x hx s' hl
    exact ⟨s2, by simp only [fnB_eq, List.length_cons, List.length_nil, List.map_cons, List.map_nil, List.cons_append, List.nil_append, Nat.reduceAdd, Nat.reduceSub, List.replicate, if_true, Bool.false_eq_true, if_false, s_Cons, s_Nil, s_Ret, s_RetN, s_If, s_Asg, s_Expr, s_For, s_Par, then_nx, then_rt, st_ok', bind_ok', fnR_rt, fnR_nx, g_Var, g_Tup, gs_Cons, gs_Nil, v_Call, t_Call, v_CallK, t_CallK, a_Cons, a_Nil, v_Var, t_Var, v_C, t_C, v_Bin, t_Bin, v_Un, t_Un, v_Bi, t_Bi, v_Not, t_Not, v_And, t_And, v_Or, t_Or, v_If, t_If, v_Tup, v_Lst, v_Slc, o_Yes, o_No, toO_int, v_Meth, v_Comp, v_Chain, t_Chain, chain2_t, chain2_f, i_Seq, seqW_tup, i_Rg1, rg1W_ok, i_Rg2, rg2W_ok, goWk_its, wkS_its, wipeE_nil, wipeE_cons, List.set_cons_zero, List.set_cons_succ, List.getElem?_cons_zero, List.getElem?_cons_succ, getV_some, truth_bl, Bool.not_true, Bool.not_false, add_ii, sub_ii, ltI_ii, neg_i, ix_t, okO_some, len_tup, Int.toNat_natCast, par2_ok, bodyF_eq, turnC_none, turnC_some, isBl_bb, isnBl_bb, abs_i, int_i, eqD_ii, neD_ii, v_Chain3, t_Chain3, v_LenSet, v_Comp2, e_is_a_chain_1, e2], l2⟩
  have n2 := newL_ok' s1 (xs := xs.map fun x => .bl (F x)) (by rw [List.length_map, size_eq]; omega)
  have e : (xs.map fun x => D.bl (F x)) = (xs.map F).map .bl := by rw [List.map_map]; rfl
  have al := all_r (bs := xs.map F) _ (show (s1.add (.lst (xs.map fun x => .bl (F x)))).get s1.n = some (.lst ((xs.map F).map .bl)) by rw [← e]; exact get_add_same _ _)
  rw [List.all_map] at al
  exact ⟨s1, s1.n, _, e1, n2, al, l1.trans (.add _ _)⟩
theorem chain_no (L : Int) (xs : List D) (F : D → Bool) (s : Sto) (hn : xs.length ≤ 1000) (h : ∀ x ∈ xs, ∀ s', Le s s' → Ev (m_is_term [.int L, x] s') s' (.bl (F x))) (hF : xs.all F = false) : Ev (m_is_a_chain [.int L, .tup xs] s) s (.bl false) := by
  obtain ⟨s1, i, s2, e1, n2, al, l⟩ := terms_all L xs F s hn h
  rw [hF] at al
  exact ⟨s2, by simp only [fnB_eq, List.length_cons, List.length_nil, List.map_cons, List.map_nil, List.cons_append, List.nil_append, Nat.reduceAdd, Nat.reduceSub, List.replicate, if_true, Bool.false_eq_true, if_false, s_Cons, s_Nil, s_Ret, s_RetN, s_If, s_Asg, s_Expr, s_For, s_Par, then_nx, then_rt, st_ok', bind_ok', fnR_rt, fnR_nx, g_Var, g_Tup, gs_Cons, gs_Nil, v_Call, t_Call, v_CallK, t_CallK, a_Cons, a_Nil, v_Var, t_Var, v_C, t_C, v_Bin, t_Bin, v_Un, t_Un, v_Bi, t_Bi, v_Not, t_Not, v_And, t_And, v_Or, t_Or, v_If, t_If, v_Tup, v_Lst, v_Slc, o_Yes, o_No, toO_int, v_Meth, v_Comp, v_Chain, t_Chain, chain2_t, chain2_f, i_Seq, seqW_tup, i_Rg1, rg1W_ok, i_Rg2, rg2W_ok, goWk_its, wkS_its, wipeE_nil, wipeE_cons, List.set_cons_zero, List.set_cons_succ, List.getElem?_cons_zero, List.getElem?_cons_succ, getV_some, truth_bl, Bool.not_true, Bool.not_false, add_ii, sub_ii, ltI_ii, neg_i, ix_t, okO_some, len_tup, Int.toNat_natCast, par2_ok, bodyF_eq, turnC_none, turnC_some, isBl_bb, isnBl_bb, abs_i, int_i, eqD_ii, neD_ii, v_Chain3, t_Chain3, v_LenSet, v_Comp2, m_is_a_chain, b_is_a_chain, isi_tup, e1, n2, al], l⟩
def ascB (ts : List Tm) : Bool := (ts.zip (ts.drop 1)).all fun p => wlt p.1.1 p.2.1
def chB (L : Int) (ts : List Tm) : Bool := ts.all (tmB L) && ascB ts
theorem cut1 {α : Type} (f : α → D) (w : List α) : cutD (w.map f) (some 1) none = (w.drop 1).map f := by
  unfold cutD
  rw [show HT.sIx (w.map f).length 0 (some 1) = min 1 (w.map f).length from sIx_of (k := 1) rfl, List.length_map]
  show ((w.map f).drop (min 1 w.length)).take (w.length - min 1 w.length) = _
  cases w with
  | nil => rfl
  | cons a r =>
    have : min 1 (a :: r).length = 1 := by rw [List.length_cons]; omega
    rw [this, ← List.map_drop, List.take_of_length_le (by simp)]
theorem ltK_ww (u v : List Int) (s : Sto) : ltK (keyD ord u) (keyD ord v) s = .ok (.bl (wlt u v)) s := ltK_w s ord u v
theorem run_is_a_chain (L : Int) (ts : List Tm) (s : Sto) (hz : Sz ts) : Ev (m_is_a_chain [.int L, .tup (ts.map tm)] s) s (.bl (chB L ts)) := by
  have hsz := hz.1
  obtain ⟨s1, i, s2, e1, n2, al, l⟩ := terms_all L (ts.map tm) (fun d => match d with
    | .tup [.tup xs, .int n] => match intsD xs with
      | some w => tmB L (w, n)
      | none => false
    | _ => false) s (by rw [List.length_map]; exact hz.1) fun x hx s' hl => by
      obtain ⟨t, ht, rfl⟩ := List.mem_map.mp hx
      have e : intsD (t.1.map .int) = some t.1 := ints_map _
      show Ev (m_is_term [.int L, tm t] s') s' (.bl (match intsD (t.1.map .int) with
      | some w => tmB L (w, t.2)
      | none => false))
      rw [e]
      exact run_is_term L t s' (hz.2 t ht)
  have ea : ((ts.map tm).all fun d => match d with
    | .tup [.tup xs, .int n] => match intsD xs with
      | some w => tmB L (w, n)
      | none => false
    | _ => false) = ts.all (tmB L) := by
    rw [List.all_map]
    congr 1
    funext t
    show (match intsD (t.1.map .int) with
      | some w => tmB L (w, t.2)
      | none => false) = _
    rw [ints_map]
  rw [ea] at al
  unfold chB
  cases hb : ts.all (tmB L) with
  | false =>
    rw [hb] at al
    exact ⟨s2, by simp only [fnB_eq, List.length_cons, List.length_nil, List.map_cons, List.map_nil, List.cons_append, List.nil_append, Nat.reduceAdd, Nat.reduceSub, List.replicate, if_true, Bool.false_eq_true, if_false, s_Cons, s_Nil, s_Ret, s_RetN, s_If, s_Asg, s_Expr, s_For, s_Par, then_nx, then_rt, st_ok', bind_ok', fnR_rt, fnR_nx, g_Var, g_Tup, gs_Cons, gs_Nil, v_Call, t_Call, v_CallK, t_CallK, a_Cons, a_Nil, v_Var, t_Var, v_C, t_C, v_Bin, t_Bin, v_Un, t_Un, v_Bi, t_Bi, v_Not, t_Not, v_And, t_And, v_Or, t_Or, v_If, t_If, v_Tup, v_Lst, v_Slc, o_Yes, o_No, toO_int, v_Meth, v_Comp, v_Chain, t_Chain, chain2_t, chain2_f, i_Seq, seqW_tup, i_Rg1, rg1W_ok, i_Rg2, rg2W_ok, goWk_its, wkS_its, wipeE_nil, wipeE_cons, List.set_cons_zero, List.set_cons_succ, List.getElem?_cons_zero, List.getElem?_cons_succ, getV_some, truth_bl, Bool.not_true, Bool.not_false, add_ii, sub_ii, ltI_ii, neg_i, ix_t, okO_some, len_tup, Int.toNat_natCast, par2_ok, bodyF_eq, turnC_none, turnC_some, isBl_bb, isnBl_bb, abs_i, int_i, eqD_ii, neD_ii, v_Chain3, t_Chain3, v_LenSet, v_Comp2, m_is_a_chain, b_is_a_chain, isi_tup, e1, n2, al]; rfl, l⟩
  | true =>
    rw [hb] at al
    obtain ⟨s3, e3, l3⟩ := goIts_map (f := turnC (gVar 2) none e_is_a_chain_2 [some (.int L), some (.tup (ts.map tm)), none, none, none, none]) (fun x => match x with
      | .tup [.tup xs, .int n] => match intsD xs with
        | some w => keyD ord w
        | none => .non
      | _ => .non) (ts.map tm) s2 fun x hx s' hl => by
        obtain ⟨t, ht, rfl⟩ := List.mem_map.mp hx
        have e : intsD (t.1.map .int) = some t.1 := ints_map _
        obtain ⟨s4, e4, l4⟩ := run_walk_key t.1 s' (by have := hz.2 t ht; omega)
        refine ⟨s4, ?_, l4⟩
        show _ = R.ok (some (match intsD (t.1.map .int) with
        | some w => keyD ord w
        | none => .non)) s4
        rw [e]
        simp only [fnB_eq, List.length_cons, List.length_nil, List.map_cons, List.map_nil, List.cons_append, List.nil_append, Nat.reduceAdd, Nat.reduceSub, List.replicate, if_true, Bool.false_eq_true, if_false, s_Cons, s_Nil, s_Ret, s_RetN, s_If, s_Asg, s_Expr, s_For, s_Par, then_nx, then_rt, st_ok', bind_ok', fnR_rt, fnR_nx, g_Var, g_Tup, gs_Cons, gs_Nil, v_Call, t_Call, v_CallK, t_CallK, a_Cons, a_Nil, v_Var, t_Var, v_C, t_C, v_Bin, t_Bin, v_Un, t_Un, v_Bi, t_Bi, v_Not, t_Not, v_And, t_And, v_Or, t_Or, v_If, t_If, v_Tup, v_Lst, v_Slc, o_Yes, o_No, toO_int, v_Meth, v_Comp, v_Chain, t_Chain, chain2_t, chain2_f, i_Seq, seqW_tup, i_Rg1, rg1W_ok, i_Rg2, rg2W_ok, goWk_its, wkS_its, wipeE_nil, wipeE_cons, List.set_cons_zero, List.set_cons_succ, List.getElem?_cons_zero, List.getElem?_cons_succ, getV_some, truth_bl, Bool.not_true, Bool.not_false, add_ii, sub_ii, ltI_ii, neg_i, ix_t, okO_some, len_tup, Int.toNat_natCast, par2_ok, bodyF_eq, turnC_none, turnC_some, isBl_bb, isnBl_bb, abs_i, int_i, eqD_ii, neD_ii, v_Chain3, t_Chain3, v_LenSet, v_Comp2, e_is_a_chain_2, at0, e4]
    have ek : ((ts.map tm).map fun x => match x with
      | .tup [.tup xs, .int n] => match intsD xs with
        | some w => keyD ord w
        | none => .non
      | _ => .non) = ts.map fun t => keyD ord t.1 := by
      rw [List.map_map]
      refine List.map_congr_left fun t _ => ?_
      show (match intsD (t.1.map .int) with
        | some w => keyD ord w
        | none => .non) = _
      rw [ints_map]
    rw [ek] at e3
    have n4 := newL_ok' s3 (xs := ts.map fun t => keyD ord t.1) (by rw [List.length_map, size_eq]; omega)
    have g4 := get_add_same s3 (.lst (ts.map fun t => keyD ord t.1))
    have l4 : Le s3 (s3.add (.lst (ts.map fun t => keyD ord t.1))) := .add _ _
    have q4 : (s3.add (.lst (ts.map fun t => keyD ord t.1))).n = s3.n + 1 := rfl
    generalize s3.add (.lst (ts.map fun t => keyD ord t.1)) = s4 at *
    have n5 := slc_r s4 g4 (some 1) none
    rw [cut1 (fun t : Tm => keyD ord t.1) ts] at n5
    have g5 := get_add_same s4 (.lst ((ts.drop 1).map fun t => keyD ord t.1))
    have l5 : Le s4 (s4.add (.lst ((ts.drop 1).map fun t => keyD ord t.1))) := .add _ _
    have q5 : (s4.add (.lst ((ts.drop 1).map fun t => keyD ord t.1))).n = s4.n + 1 := rfl
    generalize s4.add (.lst ((ts.drop 1).map fun t => keyD ord t.1)) = s5 at *
    have g45 := (l5.get _ (by omega)).trans g4
    have zw := zipW_rr g45 g5
    obtain ⟨s6, e6, l6⟩ := goWk_zip (f := turnC (gTup 2 (gsCons (gVar 4) (gsCons (gVar 5) gsNil))) none e_is_a_chain_3 [some (.int L), some (.tup (ts.map tm)), none, some (.ref s3.n), none, none])
      (fun x y => match keyLt x y with | some b => .bl b | none => .non) s5 (by omega) (by omega) g45 g5 (by rw [List.length_map]; omega) fun x y s' hl hm => by
        obtain ⟨hx, hy⟩ := List.of_mem_zip hm
        obtain ⟨t, _, rfl⟩ := List.mem_map.mp hx
        obtain ⟨u, _, rfl⟩ := List.mem_map.mp hy
        refine ⟨s', ?_, .refl _⟩
        rw [keyLt_w]
        simp only [fnB_eq, List.length_cons, List.length_nil, List.map_cons, List.map_nil, List.cons_append, List.nil_append, Nat.reduceAdd, Nat.reduceSub, List.replicate, if_true, Bool.false_eq_true, if_false, s_Cons, s_Nil, s_Ret, s_RetN, s_If, s_Asg, s_Expr, s_For, s_Par, then_nx, then_rt, st_ok', bind_ok', fnR_rt, fnR_nx, g_Var, g_Tup, gs_Cons, gs_Nil, v_Call, t_Call, v_CallK, t_CallK, a_Cons, a_Nil, v_Var, t_Var, v_C, t_C, v_Bin, t_Bin, v_Un, t_Un, v_Bi, t_Bi, v_Not, t_Not, v_And, t_And, v_Or, t_Or, v_If, t_If, v_Tup, v_Lst, v_Slc, o_Yes, o_No, toO_int, v_Meth, v_Comp, v_Chain, t_Chain, chain2_t, chain2_f, i_Seq, seqW_tup, i_Rg1, rg1W_ok, i_Rg2, rg2W_ok, goWk_its, wkS_its, wipeE_nil, wipeE_cons, List.set_cons_zero, List.set_cons_succ, List.getElem?_cons_zero, List.getElem?_cons_succ, getV_some, truth_bl, Bool.not_true, Bool.not_false, add_ii, sub_ii, ltI_ii, neg_i, ix_t, okO_some, len_tup, Int.toNat_natCast, par2_ok, bodyF_eq, turnC_none, turnC_some, isBl_bb, isnBl_bb, abs_i, int_i, eqD_ii, neD_ii, v_Chain3, t_Chain3, v_LenSet, v_Comp2, e_is_a_chain_3, ltK_ww]
        rfl
    have ez : (((ts.map fun t => keyD ord t.1).zip ((ts.drop 1).map fun t => keyD ord t.1)).map fun p => match keyLt p.1 p.2 with | some b => D.bl b | none => .non) = ((ts.zip (ts.drop 1)).map fun p => wlt p.1.1 p.2.1).map .bl := by
      rw [List.zip_map, List.map_map, List.map_map]
      refine List.map_congr_left fun p _ => ?_
      show (match keyLt (keyD ord p.1.1) (keyD ord p.2.1) with | some b => D.bl b | none => .non) = _
      rw [keyLt_w]
      rfl
    rw [ez] at e6
    have n7 := newL_ok' s6 (xs := ((ts.zip (ts.drop 1)).map fun p => wlt p.1.1 p.2.1).map .bl) (by rw [List.length_map, List.length_map, List.length_zip, size_eq]; omega)
    have al7 := all_r _ (get_add_same s6 (.lst (((ts.zip (ts.drop 1)).map fun p => wlt p.1.1 p.2.1).map .bl)))
    have e8 : ((ts.zip (ts.drop 1)).map fun p => wlt p.1.1 p.2.1).all id = ascB ts := by
      rw [List.all_map]; rfl
    rw [e8] at al7
    refine ⟨s6.add (.lst (((ts.zip (ts.drop 1)).map fun p => wlt p.1.1 p.2.1).map .bl)), ?_, ((((l.trans l3).trans l4).trans l5).trans l6).trans (.add _ _)⟩
    rw [Bool.true_and]
    simp only [fnB_eq, List.length_cons, List.length_nil, List.map_cons, List.map_nil, List.cons_append, List.nil_append, Nat.reduceAdd, Nat.reduceSub, List.replicate, if_true, Bool.false_eq_true, if_false, s_Cons, s_Nil, s_Ret, s_RetN, s_If, s_Asg, s_Expr, s_For, s_Par, then_nx, then_rt, st_ok', bind_ok', fnR_rt, fnR_nx, g_Var, g_Tup, gs_Cons, gs_Nil, v_Call, t_Call, v_CallK, t_CallK, a_Cons, a_Nil, v_Var, t_Var, v_C, t_C, v_Bin, t_Bin, v_Un, t_Un, v_Bi, t_Bi, v_Not, t_Not, v_And, t_And, v_Or, t_Or, v_If, t_If, v_Tup, v_Lst, v_Slc, o_Yes, o_No, toO_int, v_Meth, v_Comp, v_Chain, t_Chain, chain2_t, chain2_f, i_Seq, seqW_tup, i_Rg1, rg1W_ok, i_Rg2, rg2W_ok, goWk_its, wkS_its, wipeE_nil, wipeE_cons, List.set_cons_zero, List.set_cons_succ, List.getElem?_cons_zero, List.getElem?_cons_succ, getV_some, truth_bl, Bool.not_true, Bool.not_false, add_ii, sub_ii, ltI_ii, neg_i, ix_t, okO_some, len_tup, Int.toNat_natCast, par2_ok, bodyF_eq, turnC_none, turnC_some, isBl_bb, isnBl_bb, abs_i, int_i, eqD_ii, neD_ii, v_Chain3, t_Chain3, v_LenSet, v_Comp2, m_is_a_chain, b_is_a_chain, isi_tup, e1, n2, al, e3, n4, n5, i_Zip2, zw, e6, n7, al7]
theorem asc_pw : ∀ {ts : List Tm}, ascB ts = true → ts.Pairwise fun a b => wlt a.1 b.1 = true
  | [], _ => .nil
  | [t], _ => .cons (fun _ h => nomatch h) .nil
  | t :: u :: r, h => by
    have h : (wlt t.1 u.1 && ascB (u :: r)) = true := h
    rw [Bool.and_eq_true] at h
    have ih := asc_pw (ts := u :: r) h.2
    refine List.pairwise_cons.mpr ⟨fun x hx => ?_, ih⟩
    rcases List.mem_cons.mp hx with rfl | hx
    · exact h.1
    · exact wlt_trans h.1 ((List.pairwise_cons.mp ih).1 x hx)
theorem pw_asc : ∀ {ts : List Tm}, (ts.Pairwise fun a b => wlt a.1 b.1 = true) → ascB ts = true
  | [], _ => rfl
  | [t], _ => rfl
  | t :: u :: r, h => by
    show (wlt t.1 u.1 && ascB (u :: r)) = true
    have h := List.pairwise_cons.mp h
    rw [h.1 u List.mem_cons_self, pw_asc h.2]
    rfl
theorem stB_ok {L : Int} {w : List Int} (h : WkL L w) : stB L w = true := by
  unfold stB
  rw [List.all_eq_true]
  intro x hx
  have := h x hx
  show decide _ = true
  exact decide_eq_true (by omega)
structure Chn (L : Int) (C : List Tm) : Prop where
  can : Can C
  wk : ∀ t ∈ C, WkL L t.1 ∧ red t.1 = t.1
  sz : C.length ≤ 100 ∧ ∀ t ∈ C, t.1.length ≤ 500
theorem Chn.Sz {L : Int} {C : List Tm} (h : Chn L C) : Sz C := ⟨by have := h.sz.1; omega, fun t ht => by have := h.sz.2 t ht; omega⟩
theorem Chn.chB {L : Int} {C : List Tm} (h : Chn L C) : chB L C = true := by
  unfold K63.chB
  rw [pw_asc h.can.1, Bool.and_true, List.all_eq_true]
  intro t ht
  unfold tmB
  rw [stB_ok (h.wk t ht).1, decide_eq_true (h.wk t ht).2]
  have := h.can.2 t ht
  simp [this]
theorem Chn.up {L M : Int} {C : List Tm} (h : Chn L C) (g : L ≤ M) : Chn M C := ⟨h.can, fun t ht => ⟨(h.wk t ht).1.up g, (h.wk t ht).2⟩, h.sz⟩
theorem run_need_chain (L : Int) (C : List Tm) (s : Sto) (h : Chn L C) : Ev (m_need_chain [.int L, .tup (C.map tm)] s) s .non := by
  obtain ⟨s1, e1, l1⟩ := run_is_a_chain L C s h.Sz
  rw [h.chB] at e1
  exact ⟨s1, by simp only [fnB_eq, List.length_cons, List.length_nil, List.map_cons, List.map_nil, List.cons_append, List.nil_append, Nat.reduceAdd, Nat.reduceSub, List.replicate, if_true, Bool.false_eq_true, if_false, s_Cons, s_Nil, s_Ret, s_RetN, s_If, s_Asg, s_Expr, s_For, s_Par, then_nx, then_rt, st_ok', bind_ok', fnR_rt, fnR_nx, g_Var, g_Tup, gs_Cons, gs_Nil, v_Call, t_Call, v_CallK, t_CallK, a_Cons, a_Nil, v_Var, t_Var, v_C, t_C, v_Bin, t_Bin, v_Un, t_Un, v_Bi, t_Bi, v_Not, t_Not, v_And, t_And, v_Or, t_Or, v_If, t_If, v_Tup, v_Lst, v_Slc, o_Yes, o_No, toO_int, v_Meth, v_Comp, v_Chain, t_Chain, chain2_t, chain2_f, i_Seq, seqW_tup, i_Rg1, rg1W_ok, i_Rg2, rg2W_ok, goWk_its, wkS_its, wipeE_nil, wipeE_cons, List.set_cons_zero, List.set_cons_succ, List.getElem?_cons_zero, List.getElem?_cons_succ, getV_some, truth_bl, Bool.not_true, Bool.not_false, add_ii, sub_ii, ltI_ii, neg_i, ix_t, okO_some, len_tup, Int.toNat_natCast, par2_ok, bodyF_eq, turnC_none, turnC_some, isBl_bb, isnBl_bb, abs_i, int_i, eqD_ii, neD_ii, v_Chain3, t_Chain3, v_LenSet, v_Comp2, m_need_chain, b_need_chain, e1], l1⟩
theorem add_cc (A B : List Tm) (s : Sto) (h : A.length + B.length ≤ 1000) : addD (.tup (A.map tm)) (.tup (B.map tm)) s = .ok (.tup ((A ++ B).map tm)) s := by
  rw [add_tt, List.length_map, List.length_map, if_pos (by rw [size_eq]; omega), List.map_append]
theorem sz_app {A B : List Tm} {L : Int} (hA : Chn L A) (hB : Chn L B) : Sz (A ++ B) :=
  ⟨by rw [List.length_append]; have := hA.sz.1; have := hB.sz.1; omega, fun t ht => (List.mem_append.mp ht).elim (hA.Sz.2 t) (hB.Sz.2 t)⟩
theorem run_added (L : Nat) (A B : List Tm) (s : Sto) (hL : LL L) (hA : Chn L A) (hB : Chn L B) : Ev (m_added [.int L, .tup (A.map tm), .tup (B.map tm)] s) s (.tup ((chn (A ++ B)).map tm)) := by
  obtain ⟨s1, e1, l1⟩ := run_need_chain L A s hA
  obtain ⟨s2, e2, l2⟩ := run_need_chain L B s1 hB
  have ad := add_cc A B s2 (by have := hA.sz.1; have := hB.sz.1; omega)
  obtain ⟨s3, e3, l3⟩ := run_chain_from (.tup ((A ++ B).map tm)) (A ++ B) s2 (.inl rfl) (sz_app hA hB)
  have e4 : m_need_two_chains [.int L, .tup (A.map tm), .tup (B.map tm)] s = .ok .non s2 := by
    simp only [fnB_eq, List.length_cons, List.length_nil, List.map_cons, List.map_nil, List.cons_append, List.nil_append, Nat.reduceAdd, Nat.reduceSub, List.replicate, if_true, Bool.false_eq_true, if_false, s_Cons, s_Nil, s_Ret, s_RetN, s_If, s_Asg, s_Expr, s_For, s_Par, then_nx, then_rt, st_ok', bind_ok', fnR_rt, fnR_nx, g_Var, g_Tup, gs_Cons, gs_Nil, v_Call, t_Call, v_CallK, t_CallK, a_Cons, a_Nil, v_Var, t_Var, v_C, t_C, v_Bin, t_Bin, v_Un, t_Un, v_Bi, t_Bi, v_Not, t_Not, v_And, t_And, v_Or, t_Or, v_If, t_If, v_Tup, v_Lst, v_Slc, o_Yes, o_No, toO_int, v_Meth, v_Comp, v_Chain, t_Chain, chain2_t, chain2_f, i_Seq, seqW_tup, i_Rg1, rg1W_ok, i_Rg2, rg2W_ok, goWk_its, wkS_its, wipeE_nil, wipeE_cons, List.set_cons_zero, List.set_cons_succ, List.getElem?_cons_zero, List.getElem?_cons_succ, getV_some, truth_bl, Bool.not_true, Bool.not_false, add_ii, sub_ii, ltI_ii, neg_i, ix_t, okO_some, len_tup, Int.toNat_natCast, par2_ok, bodyF_eq, turnC_none, turnC_some, isBl_bb, isnBl_bb, abs_i, int_i, eqD_ii, neD_ii, v_Chain3, t_Chain3, v_LenSet, v_Comp2, m_need_two_chains, b_need_two_chains, run_need_letters L s hL, e1, e2]
  exact ⟨s3, by simp only [fnB_eq, List.length_cons, List.length_nil, List.map_cons, List.map_nil, List.cons_append, List.nil_append, Nat.reduceAdd, Nat.reduceSub, List.replicate, if_true, Bool.false_eq_true, if_false, s_Cons, s_Nil, s_Ret, s_RetN, s_If, s_Asg, s_Expr, s_For, s_Par, then_nx, then_rt, st_ok', bind_ok', fnR_rt, fnR_nx, g_Var, g_Tup, gs_Cons, gs_Nil, v_Call, t_Call, v_CallK, t_CallK, a_Cons, a_Nil, v_Var, t_Var, v_C, t_C, v_Bin, t_Bin, v_Un, t_Un, v_Bi, t_Bi, v_Not, t_Not, v_And, t_And, v_Or, t_Or, v_If, t_If, v_Tup, v_Lst, v_Slc, o_Yes, o_No, toO_int, v_Meth, v_Comp, v_Chain, t_Chain, chain2_t, chain2_f, i_Seq, seqW_tup, i_Rg1, rg1W_ok, i_Rg2, rg2W_ok, goWk_its, wkS_its, wipeE_nil, wipeE_cons, List.set_cons_zero, List.set_cons_succ, List.getElem?_cons_zero, List.getElem?_cons_succ, getV_some, truth_bl, Bool.not_true, Bool.not_false, add_ii, sub_ii, ltI_ii, neg_i, ix_t, okO_some, len_tup, Int.toNat_natCast, par2_ok, bodyF_eq, turnC_none, turnC_some, isBl_bb, isnBl_bb, abs_i, int_i, eqD_ii, neD_ii, v_Chain3, t_Chain3, v_LenSet, v_Comp2, m_added, b_added, e4, ad, e3], (l1.trans l2).trans l3⟩
theorem mul_ok (i j : Int) (s : Sto) (h : i.natAbs < 2 ^ 200) (h2 : j.natAbs < 2 ^ 200) : mulD (.int i) (.int j) s = .ok (.int (i * j)) s := by
  rw [mul_ii, if_pos (mulOk_b h h2)]
theorem tl2 : (0 + 1 + 1 : Nat) ≤ sizeLine := by rw [size_eq]; decide
theorem tm_match (t : Tm) {α : Type} (f : D → Int → α) (g : D → α) : (match (tm t : D) with | .tup [a, .int n] => f a n | d => g d) = f (tw t.1) t.2 := rfl
theorem same_tm (k : Nat) (t : Tm) (h : t.1.length ≤ 1000) (s : Sto) : Ev (ms__law_same (k + 3) [tm t, tm t] s) s (.bl true) :=
  same_tup (k + 2) [tw t.1, .int t.2] (by simp) (fun x hx s => by
    simp only [List.mem_cons, List.not_mem_nil, or_false] at hx
    rcases hx with rfl | rfl
    · exact same_tw k t.1 (by omega) s
    · exact ⟨s, same_int (k + 1) t.2 s, .refl _⟩) s
theorem run_same_c (C : List Tm) (h : Sz C) (s : Sto) : Ev (m__law_same [.tup (C.map tm), .tup (C.map tm)] s) s (.bl true) :=
  same_tup 7 (C.map tm) (by rw [List.length_map]; have := h.1; omega) (fun x hx s => by
    obtain ⟨t, ht, rfl⟩ := List.mem_map.mp hx
    exact same_tm 4 t (h.2 t ht) s) s
theorem run_same_int (i : Int) (s : Sto) : m__law_same [.int i, .int i] s = .ok (.bl true) s := same_int 7 i s
theorem run_law_clean_s (j c : Nat) (L M : Nat) (s : Sto) (h : Well s j c) (hL : LL L) (hM : M ≤ 1000) (hc : c < 2 ^ 60) :
    ∃ w s', m__law_clean [.ref j, .int L, .int M] s = .ok (tw w) s' ∧ WkL L w ∧ Rdc w ∧ w.length = M ∧ Well s' j (c + M) ∧ LeW j s s' := by
  have hp := hL.pos
  have n0 := newL_ok' s (xs := []) (by rw [size_eq]; simp)
  have g0 := get_add_same s (.lst [])
  have l0 : Le s (s.add (.lst [])) := .add _ _
  have q0 : s.n < (s.add (.lst [])).n := Nat.lt_succ_self _
  have hjn : s.n ≠ j := by have := h.lt; omega
  have h0 := h.le l0
  generalize s.add (.lst []) = s0 at *
  have len : (rgD 0 M).length = M := by simp [rgD]
  refine Exists.elim (forIts_inv (b := bodyF (gVar 4) b__law_clean_1)
    (fun k env s' => ∃ z4 z5, env = [some (.ref j), some (.int L), some (.int M), some (.ref s.n), z4, z5, none] ∧ ∃ w : List Int, s'.get s.n = some (.lst (w.map .int)) ∧ WkL L w ∧ Rdc w ∧ w.length = k ∧ Well s' j (c + k) ∧ LeW j s s' ∧ s.n < s'.n)
    (rgD 0 M) 0 [some (.ref j), some (.int L), some (.int M), some (.ref s.n), none, none, none] s0 ⟨none, none, rfl, [], g0, (fun _ q => nomatch q), trivial, rfl, h0, .of l0, q0⟩ ?step) ?rest
  case rest =>
    rintro env ⟨s', e, z4, z5, rfl, w, g, hw, hr, hl, hwell, hle, hlt⟩
    rw [len, Nat.zero_add] at *
    have b1 : bigI (M : Int) = true := bigI_of (by omega)
    refine ⟨w, s', ?_, hw, hr, hl, hwell, hle⟩
    simp only [m__law_clean, b__law_clean, fnB_eq, List.length_cons, List.length_nil, List.map_cons, List.map_nil, List.cons_append, List.nil_append, Nat.reduceAdd, Nat.reduceSub, List.replicate, if_true, s_Cons, s_Asg, g_Var, v_Lst, v_Bi, a_Cons, a_Nil, v_Var, List.getElem?_cons_zero, List.getElem?_cons_succ, getV_some, bind_ok', n0, st_ok', List.set_cons_zero, List.set_cons_succ, then_nx, s_For, i_Rg1, rg1W_ok, b1, Int.toNat_natCast, wkS_its, e, s_Ret, tuple_r _ g, then_rt, fnR_rt]
  case step =>
    rintro k x env s1 hx ⟨z4, z5, rfl, w, g, hw, hr, hl, hwell, hle, hlt⟩
    obtain ⟨hk, rfl⟩ := rgD_at hx
    rw [Nat.zero_add] at *
    obtain ⟨i, s2, e2, g2, l2, hi1, hi2⟩ := run_law_steps L s1 hL
    have gf2 := (l2.get _ hlt).trans g
    have hlt2 := Nat.lt_of_lt_of_le hlt l2.n
    obtain ⟨p, hpr, hpos, hcond⟩ : ∃ p : Int → Bool, (∀ x ∈ (St L).filter p, Rdc (w ++ [x])) ∧ 0 < ((St L).filter p).length ∧ ∀ x ∈ St L, ∀ s', Le s2 s' → Ev (c__law_clean_2.t ([some (.ref j), some (.int L), some (.int M), some (.ref s.n), some (.int (0 + (k : Int))), z5, none].set 6 (some (.int x))) s') s' (p x) ∧ ∀ s'', e__law_clean_2.v ([some (.ref j), some (.int L), some (.int M), some (.ref s.n), some (.int (0 + (k : Int))), z5, none].set 6 (some (.int x))) s'' = .ok (.int x) s'' := by
      cases hcs : w.reverse with
      | nil =>
        have hw0 : w = [] := by simpa using hcs
        subst hw0
        refine ⟨fun _ => true, fun x _ => trivial, by rw [List.filter_eq_self.mpr (fun _ _ => rfl), St_len]; omega, fun x _ s' hl' => ⟨⟨s'.add (.lst []), ?_, .add _ _⟩, fun s'' => rfl⟩⟩
        have n1 := newL_ok' s' (xs := []) (by rw [size_eq]; simp)
        have g1 := get_add_same s' (.lst [])
        have ga := ((Le.add s' (.lst [])).get _ (Nat.lt_of_lt_of_le hlt2 hl'.n)).trans ((hl'.get _ hlt2).trans gf2)
        have eq := eqD_rr (ys := []) ga g1
        simp only [decide_true] at eq
        simp only [c__law_clean_2, t_Or, t_Bin, v_Var, v_Lst, a_Nil, List.set_cons_zero, List.set_cons_succ, List.getElem?_cons_zero, List.getElem?_cons_succ, getV_some, bind_ok', n1, eq, truth_bl, if_true]
      | cons y r =>
        have hw0 : w = r.reverse ++ [y] := by rw [← List.reverse_reverse (as := w), hcs, List.reverse_cons]
        refine ⟨fun x => !(x == -y), fun x hx => ?_, filt_pos hL _, fun x _ s' hl' => ⟨⟨s'.add (.lst []), ?_, .add _ _⟩, fun s'' => rfl⟩⟩
        · have hx := (List.mem_filter.mp hx).2
          have q : Rdc (x :: y :: r) := ⟨by simpa using hx, by have := hr.rev; rwa [hcs] at this⟩
          have := q.rev
          rw [List.reverse_cons, List.reverse_cons] at this
          rw [hw0]
          exact this
        have n1 := newL_ok' s' (xs := []) (by rw [size_eq]; simp)
        have g1 := get_add_same s' (.lst [])
        have ga := ((Le.add s' (.lst [])).get _ (Nat.lt_of_lt_of_le hlt2 hl'.n)).trans ((hl'.get _ hlt2).trans gf2)
        have eq := eqD_rr (ys := []) ga g1
        rw [decide_eq_false (show ¬ w = [] by rw [hw0]; simp)] at eq
        have ixl : L2.atI (w.map D.int) (-1) = some (.int y) := by rw [hw0, List.map_append]; exact L2.atI_last _ _
        simp only [c__law_clean_2, t_Or, t_Bin, v_Bin, v_Un, v_C, v_Var, v_Lst, a_Nil, List.set_cons_zero, List.set_cons_succ, List.getElem?_cons_zero, List.getElem?_cons_succ, getV_some, bind_ok', n1, eq, truth_bl, Bool.false_eq_true, if_false, neg_i, ix_r _ ga, ixl, okO_some, neD_ii]
    obtain ⟨s3, e3, l3⟩ := comp_filter2 (i := 6) (c := c__law_clean_2) (e := e__law_clean_2) (env := [some (.ref j), some (.int L), some (.int M), some (.ref s.n), some (.int (0 + (k : Int))), z5, none]) p hi2 g2 (by rw [St_len]; omega) hcond
    have hmem : ∀ x ∈ (St L).filter p, x ∈ St L := fun x hx => (List.mem_filter.mp hx).1
    have hlen : ((St L).filter p).length ≤ 8 := by
      have := List.length_filter_le p (St L)
      rw [St_len] at this; omega
    generalize (St L).filter p = F at *
    have n3 := newL_ok' s3 (xs := F.map D.int) (by rw [List.length_map, size_eq]; omega)
    have g3 := get_add_same s3 (.lst (F.map .int))
    have l4 : Le s3 (s3.add (.lst (F.map .int))) := .add _ _
    have q4 : s3.n < (s3.add (.lst (F.map .int))).n := Nat.lt_succ_self _
    generalize s3.add (.lst (F.map .int)) = s4 at *
    have l14 := (l2.trans l3).trans l4
    have hwell4 := hwell.le l14
    have ln := len_r _ g3
    rw [List.length_map] at ln
    obtain ⟨d, s5, f1, a1, b1, w5, l5⟩ := run_law_take j _ (F.length : Int) s4 hwell4 (by omega) (by omega) (by omega)
    have h3j : s3.n ≠ j := by have := hwell.lt; have := l2.n; have := l3.n; omega
    have g5 := (l5.get _ q4 h3j).trans g3
    have at1 : L2.atI (F.map D.int) d = some (.int (F.getD d.toNat 0)) := atI_at (by omega) (getD_at (by omega))
    have hm : F.getD d.toNat 0 ∈ F := by
      have q : d.toNat < F.length := by omega
      rw [List.getD_eq_getElem?_getD, List.getElem?_eq_getElem q]
      exact List.getElem_mem q
    have hlt4 : s.n < s4.n := Nat.lt_of_lt_of_le hlt l14.n
    have gf5 := (l5.get _ hlt4 hjn).trans ((l14.get _ hlt).trans g)
    have ap := append_r _ gf5 (.int (F.getD d.toNat 0)) (by rw [List.length_map, size_eq]; omega)
    have hlt5 : s.n < s5.n := Nat.lt_of_lt_of_le hlt4 l5.n
    refine ⟨[some (.ref j), some (.int L), some (.int M), some (.ref s.n), some (.int (0 + (k : Int))), some (.ref s3.n), none], s5.set s.n (.lst (w.map .int ++ [.int (F.getD d.toNat 0)])), .inl (by
      simp only [bodyF_eq, b__law_clean_1, g_Var, st_ok', List.set_cons_zero, List.set_cons_succ, s_Cons, s_Asg, v_Comp, i_Seq, v_Call, a_Cons, a_Nil, v_Var, List.getElem?_cons_zero, List.getElem?_cons_succ, getV_some, bind_ok', e2, seqW_ref g2, wipeE_nil, wipeE_cons, e3, n3, then_nx, s_Expr, v_Meth, isL_r _ gf5, isL_r _ ((l14.get _ hlt).trans g), if_true, v_Bin, v_Bi, ln, f1, ix_r _ g5, at1, okO_some, ap, s_Nil]
      ), _, _, rfl, w ++ [F.getD d.toNat 0], by rw [get_set_same, List.map_append]; rfl, ?_, hpr _ hm, by simp [hl], ?_, ?_, hlt5⟩
    · intro y hy
      rcases List.mem_append.mp hy with hy | hy
      · exact hw y hy
      · have : y = F.getD d.toNat 0 := by simpa using hy
        rw [this]
        exact St_ok hL _ (hmem _ hm)
    · obtain ⟨a', b', k', e', hb', hk'⟩ := w5.ex
      exact ⟨w5.lt, a', b', k', by rw [get_set_ne hjn.symm]; exact e', hb', by omega⟩
    · have lw : LeW j s s5 := (hle.trans (.of l14)).trans l5
      exact ⟨lw.n, fun i' h1 h2 => by rw [get_set_ne (by omega)]; exact lw.get i' h1 h2⟩

theorem num_mem {w : List Int} {n : Int} : ∀ {A : List Tm}, (A.Pairwise fun a b => wlt a.1 b.1 = true) → (w, n) ∈ A → num w A = n
  | [], _, h => nomatch h
  | t :: A, hp, h => by
    have hp := List.pairwise_cons.mp hp
    rw [num_cons]
    rcases List.mem_cons.mp h with rfl | h
    · rw [if_pos rfl, num_no fun s hs z => by have := hp.1 s hs; rw [z, wlt_irr] at this; cases this]
      show n + 0 = n
      omega
    · have := hp.1 _ h
      rw [if_neg (fun z => by rw [z, wlt_irr] at this; cases this), num_mem hp.2 h]
      omega
theorem num_abs {B : Nat} (w : List Int) : ∀ {A : List Tm}, (∀ t ∈ A, t.2.natAbs ≤ B) → (num w A).natAbs ≤ A.length * B
  | [], _ => by simp [num]
  | t :: A, h => by
    have ih := num_abs w fun s hs => h s (List.mem_cons_of_mem _ hs)
    have h0 := h t List.mem_cons_self
    rw [num_cons, List.length_cons, Nat.add_mul, Nat.one_mul]
    have : (if t.1 = w then t.2 else 0).natAbs ≤ B := by split <;> omega
    omega
theorem chn_abs {B : Nat} {ts : List Tm} (h : ∀ t ∈ ts, t.2.natAbs ≤ B) : ∀ t ∈ chn ts, t.2.natAbs ≤ ts.length * B := by
  intro t ht
  have e := num_mem (w := t.1) (n := t.2) (chn_can ts).1 ht
  rw [chn_num] at e
  rw [← e]
  exact num_abs t.1 h
theorem chn_chn {L : Int} {ts : List Tm} (h : ∀ t ∈ ts, WkL L t.1 ∧ red t.1 = t.1 ∧ t.1.length ≤ 500) (hl : ts.length ≤ 100) : Chn L (chn ts) where
  can := chn_can ts
  wk := fun t ht => by
    obtain ⟨u, hu, e⟩ := List.mem_map.mp (chn_mem ht).1
    rw [← e]
    exact ⟨(h u hu).1, (h u hu).2.1⟩
  sz := ⟨Nat.le_trans (chn_len ts) hl, fun t ht => by
    obtain ⟨u, hu, e⟩ := List.mem_map.mp (chn_mem ht).1
    rw [← e]
    exact (h u hu).2.2⟩
structure Dr (L : Int) (C : List Tm) : Prop where
  ch : Chn L C
  len : C.length ≤ 8
  wl : ∀ t ∈ C, t.1.length ≤ 5
  nb : ∀ t ∈ C, t.2.natAbs < 2 ^ 140
def Terms (L : Int) (ts : List Tm) : Prop := ∀ t ∈ ts, WkL L t.1 ∧ red t.1 = t.1 ∧ t.1.length ≤ 5 ∧ t.2.natAbs ≤ 10 ^ 40
theorem dr_of {L : Int} {ts : List Tm} (h : Terms L ts) (hl : ts.length ≤ 8) : Dr L (chn ts) where
  ch := chn_chn (fun t ht => ⟨(h t ht).1, (h t ht).2.1, by have := (h t ht).2.2.1; omega⟩) (by omega)
  len := Nat.le_trans (chn_len ts) hl
  wl := fun t ht => by
    obtain ⟨u, hu, e⟩ := List.mem_map.mp (chn_mem ht).1
    rw [← e]
    exact (h u hu).2.2.1
  nb := fun t ht => by
    have h1 := chn_abs (B := 10 ^ 40) (fun t ht => (h t ht).2.2.2) t ht
    have h2 : ts.length * 10 ^ 40 ≤ 8 * 10 ^ 40 := Nat.mul_le_mul_right _ hl
    have h3 : 8 * 10 ^ 40 < 2 ^ 140 := by decide
    omega
theorem p40 (s : Sto) : powD (.int 10) (.int 40) s = .ok (.int 10000000000000000000000000000000000000000) s := by
  rw [pow_ii, if_pos ⟨by decide, by decide, lim_lt (by decide)⟩]
  rfl
theorem run_law_drawn_chain (j c L : Nat) (s : Sto) (h : Well s j c) (hL : LL L) (hc : c < 2 ^ 40) :
    ∃ C s', m__law_drawn_chain [.ref j, .int L, .int 5, .int 4] s = .ok (.tup (C.map tm)) s' ∧ Dr L C ∧ Well s' j (c + 200) ∧ LeW j s s' := by
  have n0 := newL_ok' s (xs := []) (by rw [size_eq]; simp)
  have g0 := get_add_same s (.lst [])
  have l0 : Le s (s.add (.lst [])) := .add _ _
  have q0 : s.n < (s.add (.lst [])).n := Nat.lt_succ_self _
  have hjn : s.n ≠ j := by have := h.lt; omega
  have h0 := h.le l0
  generalize s.add (.lst []) = s0 at *
  obtain ⟨d1, s1, e1, a1, b1, w1, l1⟩ := run_law_take j _ 6 s0 h0 (by omega) (by omega) (by omega)
  obtain ⟨M, rfl⟩ : ∃ M : Nat, d1 = (M : Int) := ⟨d1.toNat, by omega⟩
  have len : (rgD 0 M).length = M := by simp [rgD]
  have g1 := (l1.get _ q0 hjn).trans g0
  obtain ⟨env2, s2, e2, z5, z6, z7, ts, rfl, g2, hts, hl2, w2, l2, q2⟩ := forIts_inv (b := bodyF (gVar 5) b__law_drawn_chain_1)
    (fun k env s' => ∃ z5 z6 z7, ∃ ts : List Tm, env = [some (.ref j), some (.int L), some (.int 5), some (.int 4), some (.ref s.n), z5, z6, z7] ∧ s'.get s.n = some (.lst (ts.map tm)) ∧ Terms L ts ∧ ts.length = k ∧ Well s' j (c + 1 + 20 * k) ∧ LeW j s s' ∧ s.n < s'.n)
    (rgD 0 M) 0 [some (.ref j), some (.int L), some (.int 5), some (.int 4), some (.ref s.n), none, none, none] s1
    ⟨none, none, none, [], rfl, g1, (fun _ q => nomatch q), rfl, w1.up (by omega), (LeW.of l0).trans l1, Nat.lt_of_lt_of_le q0 l1.n⟩ (by
      rintro k x env s1 hx ⟨z5, z6, z7, ts, rfl, g1, hts, hl1, w1, l1, q1⟩
      obtain ⟨hk, rfl⟩ := rgD_at hx
      rw [Nat.zero_add] at *
      obtain ⟨d2, s2, e2, a2, b2, w2, l2⟩ := run_law_take j _ 3 s1 w1 (by omega) (by omega) (by omega)
      obtain ⟨d3, s3, e3, a3, b3, w3, l3⟩ := run_law_take j _ 10000000000000000000000000000000000000000 s2 w2 (by omega) (by omega) (by omega)
      have n4 := newL_ok' s3 (xs := [.int d2, .int d3]) (by rw [size_eq]; simp)
      have g4 := get_add_same s3 (.lst [.int d2, .int d3])
      have l4 : Le s3 (s3.add (.lst [.int d2, .int d3])) := .add _ _
      have q4 : s3.n < (s3.add (.lst [.int d2, .int d3])).n := Nat.lt_succ_self _
      have w4 := w3.le l4
      have h3j : s3.n ≠ j := by have := w3.lt; omega
      generalize s3.add (.lst [.int d2, .int d3]) = s4 at *
      obtain ⟨d5, s5, e5, a5, b5, w5, l5⟩ := run_law_take j _ 4 s4 w4 (by omega) (by omega) (by omega)
      have g5 := (l5.get _ q4 h3j).trans g4
      have fd : fdivD (.int d5) (.int 3) s5 = .ok (.int (d5 / 3)) s5 := by rw [fdiv_ii, if_pos ⟨by decide, lim_lt (by decide)⟩]
      obtain ⟨n, hn, hnb⟩ : ∃ n : Int, L2.atI [D.int d2, D.int d3] (d5 / 3) = some (D.int n) ∧ 0 ≤ n ∧ n < 10 ^ 40 := by
        have : d5 / 3 = 0 ∨ d5 / 3 = 1 := by omega
        rcases this with q | q
        · rw [q]; exact ⟨d2, rfl, a2, by omega⟩
        · rw [q]; exact ⟨d3, rfl, a3, by omega⟩
      have ix := ix_r _ g5 (d5 / 3)
      rw [hn, okO_some] at ix
      obtain ⟨d6, s6, e6, a6, b6, w6, l6⟩ := run_law_take j _ 5 s5 w5 (by omega) (by omega) (by omega)
      obtain ⟨K, rfl⟩ : ∃ K : Nat, d6 = (K : Int) := ⟨d6.toNat, by omega⟩
      obtain ⟨w, s7, e7, hw, hr, hwl, w7, l7⟩ := run_law_clean_s j _ L K s6 w6 hL (by omega) (by omega)
      obtain ⟨d8, s8, e8, a8, b8, w8, l8⟩ := run_law_take j _ 2 s7 w7 (by omega) (by omega) (by omega)
      obtain ⟨m, hm, hmb⟩ : ∃ m : Int, (if (d8 == 0) = true then (1 : Int) + n else -(1 + n)) = m ∧ m.natAbs ≤ 10 ^ 40 := ⟨_, rfl, by split <;> omega⟩
      have l18 := ((((l2.trans l3).trans (.of l4)).trans l5).trans l6).trans (l7.trans l8)
      have g8 := (l18.get _ q1 hjn).trans g1
      have ap := append_r _ g8 (tm (w, m)) (by rw [List.length_map, size_eq]; omega)
      have gs := get_set_same s8 s.n (.lst (ts.map tm ++ [tm (w, m)]))
      have ws : Well (s8.set s.n (.lst (ts.map tm ++ [tm (w, m)]))) j (c + 1 + 20 * (k + 1)) := by
        obtain ⟨a', b', k', e', hb', hk'⟩ := w8.ex
        exact ⟨w8.lt, a', b', k', by rw [get_set_ne hjn.symm]; exact e', hb', by omega⟩
      have ls : LeW j s (s8.set s.n (.lst (ts.map tm ++ [tm (w, m)]))) := by
        have lw := l1.trans l18
        exact ⟨lw.n, fun i' h1 h2 => by rw [get_set_ne (by omega)]; exact lw.get i' h1 h2⟩
      have qs : s.n < (s8.set s.n (.lst (ts.map tm ++ [tm (w, m)]))).n := Nat.lt_of_lt_of_le q1 l18.n
      refine ⟨[some (.ref j), some (.int L), some (.int 5), some (.int 4), some (.ref s.n), some (.int (0 + (k : Int))), some (.int (1 + n)), some (tw w)], _, .inl ?_, _, _, _, ts ++ [(w, m)], rfl, ?_, ?_, by simp [hl1], ws, ls, qs⟩
      · have i56 : (4 : Int) + 1 = 5 := rfl
        cases hb : d8 == 0 with
        | true =>
          rw [if_pos hb] at hm
          subst hm
          simp only [fnB_eq, List.length_cons, List.length_nil, List.map_cons, List.map_nil, List.cons_append, List.nil_append, Nat.reduceAdd, Nat.reduceSub, List.replicate, if_true, Bool.false_eq_true, if_false, s_Cons, s_Nil, s_Ret, s_RetN, s_If, s_Asg, s_Expr, s_For, s_Par, then_nx, then_rt, st_ok', bind_ok', fnR_rt, fnR_nx, g_Var, g_Tup, gs_Cons, gs_Nil, v_Call, t_Call, v_CallK, t_CallK, a_Cons, a_Nil, v_Var, t_Var, v_C, t_C, v_Bin, t_Bin, v_Un, t_Un, v_Bi, t_Bi, v_Not, t_Not, v_And, t_And, v_Or, t_Or, v_If, t_If, v_Tup, v_Lst, v_Slc, o_Yes, o_No, toO_int, v_Meth, v_Comp, v_Chain, t_Chain, chain2_t, chain2_f, i_Seq, seqW_tup, i_Rg1, rg1W_ok, i_Rg2, rg2W_ok, goWk_its, wkS_its, wipeE_nil, wipeE_cons, List.set_cons_zero, List.set_cons_succ, List.getElem?_cons_zero, List.getElem?_cons_succ, getV_some, truth_bl, Bool.not_true, Bool.not_false, add_ii, sub_ii, ltI_ii, neg_i, ix_t, okO_some, len_tup, Int.toNat_natCast, par2_ok, bodyF_eq, turnC_none, turnC_some, isBl_bb, isnBl_bb, abs_i, int_i, eqD_ii, neD_ii, v_Chain3, t_Chain3, v_LenSet, v_Comp2, b__law_drawn_chain_1, e2, p40, e3, n4, e5, fd, ix, i56, e6, e7, isL_r _ g1, isL_r _ ((l7.get _ (Nat.lt_of_lt_of_le q1 ((((l2.trans l3).trans (.of l4)).trans l5).trans l6).n) hjn).trans (((((((l2.trans l3).trans (.of l4)).trans l5).trans l6).get _ q1 hjn).trans g1))), e8, hb, tl2, ap]
        | false =>
          rw [if_neg (by rw [hb]; decide)] at hm
          subst hm
          simp only [fnB_eq, List.length_cons, List.length_nil, List.map_cons, List.map_nil, List.cons_append, List.nil_append, Nat.reduceAdd, Nat.reduceSub, List.replicate, if_true, Bool.false_eq_true, if_false, s_Cons, s_Nil, s_Ret, s_RetN, s_If, s_Asg, s_Expr, s_For, s_Par, then_nx, then_rt, st_ok', bind_ok', fnR_rt, fnR_nx, g_Var, g_Tup, gs_Cons, gs_Nil, v_Call, t_Call, v_CallK, t_CallK, a_Cons, a_Nil, v_Var, t_Var, v_C, t_C, v_Bin, t_Bin, v_Un, t_Un, v_Bi, t_Bi, v_Not, t_Not, v_And, t_And, v_Or, t_Or, v_If, t_If, v_Tup, v_Lst, v_Slc, o_Yes, o_No, toO_int, v_Meth, v_Comp, v_Chain, t_Chain, chain2_t, chain2_f, i_Seq, seqW_tup, i_Rg1, rg1W_ok, i_Rg2, rg2W_ok, goWk_its, wkS_its, wipeE_nil, wipeE_cons, List.set_cons_zero, List.set_cons_succ, List.getElem?_cons_zero, List.getElem?_cons_succ, getV_some, truth_bl, Bool.not_true, Bool.not_false, add_ii, sub_ii, ltI_ii, neg_i, ix_t, okO_some, len_tup, Int.toNat_natCast, par2_ok, bodyF_eq, turnC_none, turnC_some, isBl_bb, isnBl_bb, abs_i, int_i, eqD_ii, neD_ii, v_Chain3, t_Chain3, v_LenSet, v_Comp2, b__law_drawn_chain_1, e2, p40, e3, n4, e5, fd, ix, i56, e6, e7, isL_r _ g1, isL_r _ ((l7.get _ (Nat.lt_of_lt_of_le q1 ((((l2.trans l3).trans (.of l4)).trans l5).trans l6).n) hjn).trans (((((((l2.trans l3).trans (.of l4)).trans l5).trans l6).get _ q1 hjn).trans g1))), e8, hb, tl2, ap]
      · rw [gs, List.map_append]; rfl
      · intro t ht
        rcases List.mem_append.mp ht with ht | ht
        · exact hts t ht
        · have : t = (w, m) := by simpa using ht
          subst this
          exact ⟨hw, red_of_str hr, by show w.length ≤ 5; omega, hmb⟩)
  rw [len, Nat.zero_add] at *
  obtain ⟨s3, e3, l3⟩ := run_law_chain (.ref s.n) ts s2 (.inr ⟨_, rfl, q2, g2⟩) ⟨by omega, fun t ht => by have := (hts t ht).2.2.1; omega⟩
  have bM : bigI (M : Int) = true := bigI_of (by omega)
  have i89 : (5 : Int) + 1 = 6 := rfl
  refine ⟨chn ts, s3, ?_, dr_of hts (by omega), (w2.le l3).up (by omega), l2.trans (.of l3)⟩
  simp only [fnB_eq, List.length_cons, List.length_nil, List.map_cons, List.map_nil, List.cons_append, List.nil_append, Nat.reduceAdd, Nat.reduceSub, List.replicate, if_true, Bool.false_eq_true, if_false, s_Cons, s_Nil, s_Ret, s_RetN, s_If, s_Asg, s_Expr, s_For, s_Par, then_nx, then_rt, st_ok', bind_ok', fnR_rt, fnR_nx, g_Var, g_Tup, gs_Cons, gs_Nil, v_Call, t_Call, v_CallK, t_CallK, a_Cons, a_Nil, v_Var, t_Var, v_C, t_C, v_Bin, t_Bin, v_Un, t_Un, v_Bi, t_Bi, v_Not, t_Not, v_And, t_And, v_Or, t_Or, v_If, t_If, v_Tup, v_Lst, v_Slc, o_Yes, o_No, toO_int, v_Meth, v_Comp, v_Chain, t_Chain, chain2_t, chain2_f, i_Seq, seqW_tup, i_Rg1, rg1W_ok, i_Rg2, rg2W_ok, goWk_its, wkS_its, wipeE_nil, wipeE_cons, List.set_cons_zero, List.set_cons_succ, List.getElem?_cons_zero, List.getElem?_cons_succ, getV_some, truth_bl, Bool.not_true, Bool.not_false, add_ii, sub_ii, ltI_ii, neg_i, ix_t, okO_some, len_tup, Int.toNat_natCast, par2_ok, bodyF_eq, turnC_none, turnC_some, isBl_bb, isnBl_bb, abs_i, int_i, eqD_ii, neD_ii, v_Chain3, t_Chain3, v_LenSet, v_Comp2, m__law_drawn_chain, b__law_drawn_chain, n0, i89, e1, bM, wkS_its, e2, e3]
def NZ (w : List Int) : Prop := ∀ x ∈ w, x ≠ 0
theorem NZ.app {u v : List Int} (h : NZ u) (g : NZ v) : NZ (u ++ v) := fun x hx => (List.mem_append.mp hx).elim (h x) (g x)
theorem NZ.red {u : List Int} (h : NZ u) : NZ (Cs.red u) := fun x hx => h x (red_mem hx)
theorem NZ.bk {u : List Int} (h : NZ u) : NZ (Cs.bk u) := by
  intro x hx
  obtain ⟨y, hy, rfl⟩ := List.mem_map.mp (List.mem_reverse.mp hx)
  have := h y hy
  omega
theorem NZ.one {x : Int} (h : x ≠ 0) : NZ [x] := fun y hy => by
  have : y = x := by simpa using hy
  rw [this]; exact h
theorem red_l {u u' : List Int} (v : List Int) (h : red u = red u') : red (u ++ v) = red (u' ++ v) := by
  have h2 : redS u = redS u' := List.reverse_inj.mp h
  unfold red redS at *
  rw [List.foldl_append, List.foldl_append, h2]
theorem red_r (u : List Int) {v v' : List Int} (hv : NZ v) (hv' : NZ v') (h : red v = red v') : red (u ++ v) = red (u ++ v') := by
  show (redS (u ++ v)).reverse = (redS (u ++ v')).reverse
  rw [redS_app hv, redS_app hv', h]
theorem red_lr {u v : List Int} (hv : NZ v) : red (red u ++ red v) = red (u ++ v) := by
  rw [red_l (red v) (red_red u)]
  exact red_r u hv.red hv (red_red v)
theorem red_two {x : Int} (hx : x ≠ 0) : red [x, -x] = [] := by
  show (push (push [] x) (-x)).reverse = []
  rw [push_nil, push_cons, if_pos (by omega)]; rfl
theorem bk_app (u v : List Int) : bk (u ++ v) = bk v ++ bk u := by
  unfold bk
  rw [List.map_append, List.reverse_append]
theorem bk_one (x : Int) : bk [x] = [-x] := rfl
theorem red_nil : red [] = [] := rfl
theorem red_can : ∀ {u : List Int}, NZ u → red (u ++ bk u) = []
  | [], _ => rfl
  | x :: t, h => by
    have hx := h x List.mem_cons_self
    have ht : NZ t := fun y hy => h y (List.mem_cons_of_mem _ hy)
    have e : x :: t ++ bk (x :: t) = [x] ++ ((t ++ bk t) ++ [-x]) := by
      rw [show x :: t = [x] ++ t from rfl, bk_app, bk_one]; simp
    have h1 : red ((t ++ bk t) ++ [-x]) = red [-x] := red_l (u' := []) [-x] (by rw [red_can ht, red_nil])
    rw [e, red_r [x] ((ht.app ht.bk).app (NZ.one (by omega))) (NZ.one (by omega)) h1]
    exact red_two hx
theorem red_can' {u : List Int} (h : NZ u) : red (bk u ++ u) = [] := by
  have := red_can h.bk
  rwa [bk_bk] at this
theorem red_mid (u w : List Int) {v : List Int} (hv : NZ v) (h : red v = []) : red (u ++ (v ++ w)) = red (u ++ w) := by
  rw [← List.append_assoc]
  refine red_l w ?_
  have := red_r u (v' := []) hv (fun x hx => by simp at hx) h
  rwa [List.append_nil] at this
theorem red_bk {u : List Int} (h : NZ u) : red (bk (red u)) = red (bk u) := by
  have h1 : red (bk u ++ (red u ++ bk (red u))) = red (bk u) := by
    have := red_r (bk u) (v := red u ++ bk (red u)) (v' := []) (h.red.app h.red.bk) (fun x hx => by simp at hx) (red_can h.red)
    rwa [List.append_nil] at this
  rw [← h1, ← List.append_assoc]
  have h2 : red (bk u ++ red u) = [] := by
    rw [red_r (bk u) h.red h (red_red u)]
    exact red_can' h
  have := red_l (u' := []) (bk (red u)) h2
  rw [this, List.nil_append]
end K63

namespace K63
open PySem Cs
/-! ### numbers of walks that are straight -/
def Gd (v : List Int) : Prop := NZ v ∧ red v = v
def Rd (A : List Tm) : Prop := ∀ t ∈ A, Gd t.1
theorem NZ.nil : NZ [] := fun x hx => nomatch hx
theorem Gd.nil : Gd [] := ⟨NZ.nil, rfl⟩
theorem gd_red {u : List Int} (h : NZ u) : Gd (red u) := ⟨h.red, red_red u⟩
theorem chn_ext_r {A B : List Tm} (hA : Rd A) (hB : Rd B) (h : ∀ v, Gd v → num v A = num v B) : chn A = chn B := chn_ext fun v => by
  by_cases g : Gd v
  · exact h v g
  · rw [num_no (fun t ht e => g (by rw [← e]; exact hA t ht)), num_no (fun t ht e => g (by rw [← e]; exact hB t ht))]
theorem Rd.app {A B : List Tm} (hA : Rd A) (hB : Rd B) : Rd (A ++ B) := fun t ht => (List.mem_append.mp ht).elim (hA t) (hB t)
theorem Rd.chn {A : List Tm} (h : Rd A) : Rd (chn A) := fun t ht => by
  obtain ⟨u, hu, e⟩ := List.mem_map.mp (chn_mem ht).1
  rw [← e]
  exact h u hu
theorem num_one (v u : List Int) (n : Int) : num v [(u, n)] = if u = v then n else 0 := by
  rw [num_cons, num_nil, Int.add_zero]
theorem num_bij {f : List Int → List Int} {v g : List Int} (c : Int) : ∀ {B : List Tm}, (∀ t ∈ B, f t.1 = v ↔ t.1 = g) → num v (B.map fun t => (f t.1, c * t.2)) = c * num g B
  | [], _ => by rw [List.map_nil, num_nil, num_nil, Int.mul_zero]
  | t :: B, h => by
    rw [List.map_cons, num_cons, num_cons, num_bij c fun s hs => h s (List.mem_cons_of_mem _ hs), Int.mul_add]
    congr 1
    show (if f t.1 = v then c * t.2 else 0) = _
    by_cases q : t.1 = g
    · rw [if_pos ((h t List.mem_cons_self).mpr q), if_pos q]
    · rw [if_neg fun z => q ((h t List.mem_cons_self).mp z), if_neg q, Int.mul_zero]
theorem left_iff {u t v : List Int} (hu : NZ u) (ht : Gd t) (hv : Gd v) : red (u ++ t) = v ↔ t = red (bk u ++ v) := by
  constructor
  · rintro rfl
    rw [red_r (bk u) (hu.app ht.1).red (hu.app ht.1) (red_red _), ← List.append_assoc, red_l (u' := []) t (red_can' hu), List.nil_append, ht.2]
  · rintro rfl
    rw [red_r u (hu.bk.app hv.1).red (hu.bk.app hv.1) (red_red _), ← List.append_assoc, red_l (u' := []) v (red_can hu), List.nil_append, hv.2]
theorem right_iff {u t v : List Int} (hu : NZ u) (ht : Gd t) (hv : Gd v) : red (t ++ u) = v ↔ t = red (v ++ bk u) := by
  constructor
  · rintro rfl
    rw [red_l (bk u) (red_red _), List.append_assoc, red_r t (v' := []) (hu.app hu.bk) NZ.nil (red_can hu), List.append_nil, ht.2]
  · rintro rfl
    rw [red_l u (red_red _), List.append_assoc, red_r v (v' := []) (hu.bk.app hu) NZ.nil (red_can' hu), List.append_nil, hv.2]
theorem num_left {u v : List Int} {B : List Tm} (hu : NZ u) (hB : Rd B) (hv : Gd v) : num v (B.map fun t => (red (u ++ t.1), t.2)) = num (red (bk u ++ v)) B := by
  have := num_bij (f := fun t => red (u ++ t)) (v := v) (g := red (bk u ++ v)) 1 (B := B) fun t ht => left_iff hu (hB t ht) hv
  rw [Int.one_mul] at this
  rw [← this]
  congr 1
  exact List.map_congr_left fun t _ => by rw [Int.one_mul]
/-! ### products -/
def prd (A B : List Tm) : List Tm := A.flatMap fun t => B.map fun u => (red (t.1 ++ u.1), t.2 * u.2)
theorem prd_nil (B : List Tm) : prd [] B = [] := rfl
theorem prd_cons (t : Tm) (A B : List Tm) : prd (t :: A) B = (B.map fun u => (red (t.1 ++ u.1), t.2 * u.2)) ++ prd A B := rfl
theorem prd_rd {A B : List Tm} (hA : Rd A) (hB : Rd B) : Rd (prd A B) := fun t ht => by
  obtain ⟨a, ha, h⟩ := List.mem_flatMap.mp ht
  obtain ⟨b, hb, rfl⟩ := List.mem_map.mp h
  exact gd_red ((hA a ha).1.app (hB b hb).1)
theorem prd_len (A B : List Tm) : (prd A B).length = A.length * B.length := by
  induction A with
  | nil => simp [prd]
  | cons t A ih => rw [prd_cons, List.length_append, List.length_map, ih, List.length_cons, Nat.add_mul, Nat.one_mul, Nat.add_comm]
/-- one walk ahead -/
theorem num_prd_one {u v : List Int} {B : List Tm} (hu : NZ u) (hB : Rd B) (hv : Gd v) : num v (prd [(u, 1)] B) = num (red (bk u ++ v)) B := by
  rw [prd_cons, prd_nil, List.append_nil]
  have := num_bij (f := fun t => red (u ++ t)) (v := v) (g := red (bk u ++ v)) 1 (B := B) fun t ht => left_iff hu (hB t ht) hv
  rw [Int.one_mul] at this
  exact this
/-- the letter once, () -1 times -/
def ltm (l : Int) : List Tm := [([], -1), ([l], 1)]
theorem num_ltm {l : Int} (hl : l ≠ 0) {v : List Int} (hv : Gd v) : ∀ {A : List Tm}, Rd A → num v (prd A (ltm l)) = num (red (v ++ [-l])) A - num v A
  | [], _ => rfl
  | t :: A, hA => by
    have ht := hA t List.mem_cons_self
    have ih := num_ltm hl hv (A := A) fun s hs => hA s (List.mem_cons_of_mem _ hs)
    have r := right_iff (u := [l]) (NZ.one hl) ht hv
    rw [bk_one] at r
    rw [prd_cons, num_app, ih, num_cons, num_cons]
    show num v [(red (t.1 ++ []), t.2 * -1), (red (t.1 ++ [l]), t.2 * 1)] + _ = _
    rw [num_cons, num_cons, num_nil, List.append_nil, ht.2]
    show (if t.1 = v then t.2 * -1 else 0) + ((if red (t.1 ++ [l]) = v then t.2 * 1 else 0) + 0) + _ = _
    by_cases q : t.1 = red (v ++ [-l])
    · rw [if_pos (r.mpr q), if_pos q]
      by_cases p : t.1 = v
      · rw [if_pos p, if_pos p]; omega
      · rw [if_neg p, if_neg p]; omega
    · rw [if_neg fun z => q (r.mp z), if_neg q]
      by_cases p : t.1 = v
      · rw [if_pos p, if_pos p]; omega
      · rw [if_neg p, if_neg p]; omega
/-! ### derivatives -/
def gen (k x : Int) : List Tm := (if x = k then [([], 1)] else []) ++ (if x = -k then [([x], -1)] else [])
/-- as the law tells it, from the last step on -/
def dl (k : Int) : List Int → List Tm
  | [] => []
  | x :: r => (dl k r).map (fun t => (red ([x] ++ t.1), t.2)) ++ gen k x
theorem gen_rd {k x : Int} (hx : x ≠ 0) : Rd (gen k x) := fun t ht => by
  unfold gen at ht
  rcases List.mem_append.mp ht with h | h
  · split at h
    · have : t = ([], 1) := by simpa using h
      subst this; exact Gd.nil
    · simp at h
  · split at h
    · have : t = ([x], -1) := by simpa using h
      subst this; exact ⟨NZ.one hx, rfl⟩
    · simp at h
theorem dl_rd (k : Int) : ∀ {w : List Int}, NZ w → Rd (dl k w)
  | [], _ => fun t ht => nomatch ht
  | x :: r, h => by
    have hr : NZ r := fun y hy => h y (List.mem_cons_of_mem _ hy)
    refine Rd.app (fun t ht => ?_) (gen_rd (h x List.mem_cons_self))
    obtain ⟨s, hs, rfl⟩ := List.mem_map.mp ht
    exact gd_red ((NZ.one (h x List.mem_cons_self)).app (dl_rd k hr s hs).1)
theorem dl_len (k : Int) : ∀ w : List Int, (dl k w).length ≤ 2 * w.length
  | [] => Nat.le_refl _
  | x :: r => by
    have := dl_len k r
    show ((dl k r).map _ ++ gen k x).length ≤ _
    rw [List.length_append, List.length_map, List.length_cons]
    have : (gen k x).length ≤ 2 := by unfold gen; rw [List.length_append]; split <;> split <;> simp
    omega
theorem dl_app (k : Int) : ∀ {u : List Int}, NZ u → ∀ {w v : List Int}, NZ w → Gd v → num v (dl k (u ++ w)) = num v (dl k u) + num v ((dl k w).map fun t => (red (u ++ t.1), t.2))
  | [], _, w, v, hw, hv => by
    rw [List.nil_append, show dl k [] = [] from rfl, num_nil, Int.zero_add]
    congr 1
    conv => lhs; rw [← List.map_id (dl k w)]
    exact List.map_congr_left fun t ht => by
      show t = (red ([] ++ t.1), t.2)
      rw [List.nil_append, (dl_rd k hw t ht).2]
  | x :: u, h, w, v, hw, hv => by
    have hx := h x List.mem_cons_self
    have hu : NZ u := fun y hy => h y (List.mem_cons_of_mem _ hy)
    have hv' : Gd (red (bk [x] ++ v)) := gd_red ((NZ.one hx).bk.app hv.1)
    have ih := dl_app k hu hw hv'
    show num v ((dl k (u ++ w)).map (fun t => (red ([x] ++ t.1), t.2)) ++ gen k x) = num v ((dl k u).map (fun t => (red ([x] ++ t.1), t.2)) ++ gen k x) + _
    rw [num_app, num_app, num_left (NZ.one hx) (dl_rd k (hu.app hw)) hv, num_left (NZ.one hx) (dl_rd k hu) hv, ih, num_left hu (dl_rd k hw) hv', num_left (u := x :: u) h (dl_rd k hw) hv]
    have e : red (bk u ++ red (bk [x] ++ v)) = red (bk (x :: u) ++ v) := by
      rw [red_r (bk u) hv'.1 ((NZ.one hx).bk.app hv.1) (red_red _), show x :: u = [x] ++ u from rfl, bk_app, List.append_assoc]
    rw [e]
    omega
theorem snoc_ind {P : List Int → Prop} (h0 : P []) (hs : ∀ w y, P w → P (w ++ [y])) (w : List Int) : P w := by
  have : ∀ r : List Int, P r.reverse := fun r => by
    induction r with
    | nil => exact h0
    | cons y r ih => rw [List.reverse_cons]; exact hs _ _ ih
  have := this w.reverse
  rwa [List.reverse_reverse] at this
/-- what a step behind adds -/
def stp (k y : Int) (w : List Int) : List Tm := (gen k y).map fun t => (red (w ++ t.1), t.2)
theorem dl_one (k y : Int) : dl k [y] = gen k y := rfl
theorem dl_snoc (k y : Int) {w v : List Int} (hw : NZ w) (hy : y ≠ 0) (hv : Gd v) : num v (dl k (w ++ [y])) = num v (dl k w) + num v (stp k y w) := by
  rw [dl_app k hw (NZ.one hy) hv, dl_one]
  rfl
theorem gen_k {k : Int} (hk : 0 < k) : gen k k = [([], 1)] := by
  unfold gen
  rw [if_pos rfl, if_neg (by omega)]
  rfl
theorem gen_nk {k : Int} (hk : 0 < k) : gen k (-k) = [([-k], -1)] := by
  unfold gen
  rw [if_neg (by omega), if_pos rfl]
  rfl
theorem gen_no {k y : Int} (h1 : y ≠ k) (h2 : y ≠ -k) : gen k y = [] := by
  unfold gen
  rw [if_neg h1, if_neg h2]
  rfl
theorem nz_snoc {w : List Int} {y : Int} (h : NZ (w ++ [y])) : NZ w ∧ y ≠ 0 := ⟨fun x hx => h x (by simp [hx]), h y (by simp)⟩
/-- straight or not -/
theorem dl_red {k : Int} (hk : 0 < k) (w : List Int) : NZ w → ∀ v, Gd v → num v (dl k w) = num v (dl k (red w)) := by
  refine snoc_ind (P := fun w => NZ w → ∀ v, Gd v → num v (dl k w) = num v (dl k (red w))) (fun _ _ _ => rfl) (fun w y ih hw v hv => ?_) w
  obtain ⟨hw, hy⟩ := nz_snoc hw
  rw [dl_snoc k y hw hy hv, ih hw v hv]
  have e1 : red (w ++ [y]) = (push (redS w) y).reverse := by unfold red redS; rw [List.foldl_append]; rfl
  cases q : redS w with
  | nil =>
    have r0 : red w = [] := by unfold red; rw [q]; rfl
    rw [e1, q, r0]
    show num v (dl k []) + _ = num v (dl k [y])
    rw [show dl k [] = [] from rfl, num_nil, Int.zero_add, dl_one]
    unfold stp
    congr 1
    conv => rhs; rw [← List.map_id (gen k y)]
    exact List.map_congr_left fun t ht => by
      show (red (w ++ t.1), t.2) = t
      rw [red_l (u' := []) t.1 (by rw [r0]; rfl), List.nil_append, (gen_rd hy t ht).2]
  | cons z r =>
    have r0 : red w = r.reverse ++ [z] := by unfold red; rw [q, List.reverse_cons]
    have nzr := hw.red
    rw [r0] at nzr
    obtain ⟨nr, nz⟩ := nz_snoc nzr
    rw [e1, q, push_cons]
    by_cases hz : z = -y
    · rw [if_pos hz, r0, dl_snoc k z nr nz hv]
      have hs : num v (stp k z r.reverse) + num v (stp k y w) = 0 := by
        have gr := red_red w
        rw [r0] at gr
        have e2 : red (w ++ [y]) = r.reverse := by rw [e1, q, push_cons, if_pos hz]
        have gu : red r.reverse = r.reverse := by rw [← e2, red_red]
        unfold stp
        by_cases y1 : y = k
        · have z1 : z = -k := by omega
          rw [y1, z1, gen_k hk, gen_nk hk]
          show num v [(red (r.reverse ++ [-k]), -1)] + num v [(red (w ++ []), 1)] = 0
          rw [z1] at gr r0
          rw [gr, List.append_nil, r0, num_one, num_one]
          split <;> rfl
        · by_cases y2 : y = -k
          · have z1 : z = k := by omega
            rw [y2, z1, gen_k hk, gen_nk hk]
            show num v [(red (r.reverse ++ []), 1)] + num v [(red (w ++ [-k]), -1)] = 0
            rw [y2] at e2
            rw [List.append_nil, gu, e2, num_one, num_one]
            split <;> rfl
          · rw [gen_no y1 y2, gen_no (by omega) (by omega)]
            rfl
      omega
    · rw [if_neg hz]
      have e3 : (y :: z :: r).reverse = red w ++ [y] := by rw [r0]; simp
      rw [e3, dl_snoc k y hw.red hy hv]
      congr 2
      unfold stp
      exact List.map_congr_left fun t _ => by rw [red_l t.1 (red_red w)]
/-! ### as the program tells it: by the steps of the straight walk -/
def pr1 (k : Int) (u : List Int) (x : Int) : List Tm := (if x = k then [(u, 1)] else []) ++ (if x = -k then [(u ++ [x], -1)] else [])
def pre (k : Int) (w : List Int) : Nat → List Tm
  | 0 => []
  | n + 1 => pre k w n ++ pr1 k (w.take n) (w.getD n 0)
theorem pre_app (k : Int) (w z : List Int) : ∀ n, n ≤ w.length → pre k (w ++ z) n = pre k w n
  | 0, _ => rfl
  | n + 1, h => by
    unfold pre
    rw [pre_app k w z n (by omega), List.take_append_of_le_length (by omega)]
    congr 2
    rw [List.getD_eq_getElem?_getD, List.getD_eq_getElem?_getD, List.getElem?_append_left (by omega)]
theorem pre_snoc (k : Int) (w : List Int) (y : Int) : pre k (w ++ [y]) (w ++ [y]).length = pre k w w.length ++ pr1 k w y := by
  rw [List.length_append]
  show pre k (w ++ [y]) w.length ++ pr1 k ((w ++ [y]).take w.length) ((w ++ [y]).getD w.length 0) = _
  rw [pre_app k w [y] _ (Nat.le_refl _), List.take_left, List.getD_eq_getElem?_getD, List.getElem?_append_right (Nat.le_refl _), Nat.sub_self]
  rfl
theorem pr1_len (k : Int) (u : List Int) (x : Int) : (pr1 k u x).length ≤ 2 := by
  unfold pr1; rw [List.length_append]; split <;> split <;> simp
theorem pre_len (k : Int) (w : List Int) : ∀ n, (pre k w n).length ≤ 2 * n
  | 0 => Nat.le_refl _
  | n + 1 => by
    unfold pre
    rw [List.length_append]
    have := pre_len k w n
    have := pr1_len k (w.take n) (w.getD n 0)
    omega
theorem rdc_init {w : List Int} {y : Int} (h : red (w ++ [y]) = w ++ [y]) : red w = w := by
  have e1 : red (w ++ [y]) = (push (redS w) y).reverse := by unfold red redS; rw [List.foldl_append]; rfl
  rw [e1] at h
  have h := congrArg List.reverse h
  rw [List.reverse_reverse, List.reverse_append] at h
  have h : push (redS w) y = y :: w.reverse := h
  have hl := red_len w
  have hl2 : (redS w).length = (red w).length := by unfold red; rw [List.length_reverse]
  cases q : redS w with
  | nil =>
    rw [q, push_nil] at h
    injection h with _ h
    unfold red
    rw [q]
    have : w = [] := by simpa using h.symm
    rw [this]; rfl
  | cons z r =>
    rw [q, push_cons] at h
    by_cases hz : z = -y
    · rw [if_pos hz] at h
      rw [q, List.length_cons] at hl2
      have := congrArg List.length h
      rw [List.length_cons, List.length_reverse] at this
      omega
    · rw [if_neg hz] at h
      injection h with _ h
      unfold red
      rw [q, h, List.reverse_reverse]
theorem pre_dl {k : Int} (hk : 0 < k) (w : List Int) : NZ w → red w = w → ∀ v, Gd v → num v (pre k w w.length) = num v (dl k w) := by
  refine snoc_ind (P := fun w => NZ w → red w = w → ∀ v, Gd v → num v (pre k w w.length) = num v (dl k w)) (fun _ _ _ _ => rfl) (fun w y ih hw hr v hv => ?_) w
  obtain ⟨hw, hy⟩ := nz_snoc hw
  have hr' := rdc_init hr
  rw [pre_snoc, num_app, ih hw hr' v hv, dl_snoc k y hw hy hv]
  congr 2
  unfold stp
  by_cases y1 : y = k
  · subst y1
    rw [gen_k hk]
    unfold pr1
    rw [if_pos rfl, if_neg (by omega)]
    show [(w, 1)] = [(red (w ++ []), 1)]
    rw [List.append_nil, hr']
  · by_cases y2 : y = -k
    · subst y2
      rw [gen_nk hk]
      unfold pr1
      rw [if_neg (by omega), if_pos rfl]
      show [(w ++ [-k], -1)] = [(red (w ++ [-k]), -1)]
      rw [hr]
    · rw [gen_no y1 y2]
      unfold pr1
      rw [if_neg y1, if_neg y2]
      rfl
theorem pr1_rd {k x : Int} {u : List Int} (hu : Gd u) (hx : red (u ++ [x]) = u ++ [x]) (h0 : x ≠ 0) : Rd (pr1 k u x) := fun t ht => by
  unfold pr1 at ht
  rcases List.mem_append.mp ht with h | h
  · split at h
    · have : t = (u, 1) := by simpa using h
      subst this; exact hu
    · simp at h
  · split at h
    · have : t = (u ++ [x], -1) := by simpa using h
      subst this; exact ⟨hu.1.app (NZ.one h0), hx⟩
    · simp at h
theorem pre_rd (k : Int) (w : List Int) : NZ w → red w = w → Rd (pre k w w.length) := by
  refine snoc_ind (P := fun w => NZ w → red w = w → Rd (pre k w w.length)) (fun _ _ t ht => nomatch ht) (fun w y ih hw hr => ?_) w
  obtain ⟨hw, hy⟩ := nz_snoc hw
  have hr' := rdc_init hr
  rw [pre_snoc]
  exact (ih hw hr').app (pr1_rd ⟨hw, hr'⟩ hr hy)
/-- the derivative -/
def der (k : Int) (w : List Int) : List Tm := chn (dl k w)
theorem der_pre {k : Int} (hk : 0 < k) {w : List Int} (hw : NZ w) : chn (pre k (red w) (red w).length) = der k w :=
  chn_ext_r (pre_rd k _ hw.red (red_red w)) (dl_rd k hw) fun v hv => by rw [pre_dl hk _ hw.red (red_red w) v hv, ← dl_red hk w hw v hv]
theorem der_rd (k : Int) {w : List Int} (hw : NZ w) : Rd (der k w) := (dl_rd k hw).chn
theorem der_num (k : Int) (w v : List Int) : num v (der k w) = num v (dl k w) := chn_num v _
/-- of two walks behind one another -/
theorem der_app (k : Int) {u w : List Int} (hu : NZ u) (hw : NZ w) : chn (der k u ++ chn (prd [(red u, 1)] (der k w))) = der k (u ++ w) :=
  chn_ext_r ((der_rd k hu).app (prd_rd (fun t ht => by
      have : t = (red u, 1) := by simpa using ht
      subst this; exact gd_red hu) (der_rd k hw)).chn) (dl_rd k (hu.app hw)) fun v hv => by
    rw [num_app, chn_num, der_num, num_prd_one hu.red (der_rd k hw) hv, der_num, dl_app k hu hw hv, num_left hu (dl_rd k hw) hv]
    rw [red_l v (red_bk hu)]
/-! ### back to the walk -/
/-- what is told of all letters -/
def btl (w : List Int) : Nat → List Tm
  | 0 => []
  | n + 1 => btl w n ++ chn (prd (der ((n + 1 : Nat) : Int) w) (ltm ((n + 1 : Nat) : Int)))
theorem ltm_rd {l : Int} (hl : l ≠ 0) : Rd (ltm l) := fun t ht => by
  unfold ltm at ht
  simp only [List.mem_cons, List.not_mem_nil, or_false] at ht
  rcases ht with rfl | rfl
  · exact Gd.nil
  · exact ⟨NZ.one hl, rfl⟩
theorem btl_rd {w : List Int} (hw : NZ w) : ∀ n, Rd (btl w n)
  | 0 => fun t ht => nomatch ht
  | n + 1 => (btl_rd hw n).app (prd_rd (der_rd _ hw) (ltm_rd (by omega))).chn
def gs (v w : List Int) : Nat → Int
  | 0 => 0
  | n + 1 => gs v w n + (num (red (v ++ [-((n + 1 : Nat) : Int)])) (dl ((n + 1 : Nat) : Int) w) - num v (dl ((n + 1 : Nat) : Int) w))
theorem btl_num {w : List Int} (hw : NZ w) {v : List Int} (hv : Gd v) : ∀ n, num v (btl w n) = gs v w n
  | 0 => rfl
  | n + 1 => by
    unfold btl gs
    rw [num_app, btl_num hw hv n, chn_num, num_ltm (by omega) hv (der_rd _ hw), der_num, der_num]
def one (u v : List Int) : Int := if u = v then 1 else 0
theorem stp_sum {v w : List Int} {y : Int} (hw : NZ w) (hy : y ≠ 0) (hv : Gd v) {k : Int} (hk : 0 < k) :
    num (red (v ++ [-k])) (stp k y w) - num v (stp k y w) = if (y.natAbs : Int) = k then one (red (w ++ [y])) v - one (red w) v else 0 := by
  have hw' := gd_red hw
  have hk0 : k ≠ 0 := by omega
  unfold stp
  by_cases y1 : y = k
  · subst y1
    rw [gen_k hk, if_pos (by omega)]
    show num _ [(red (w ++ []), 1)] - num v [(red (w ++ []), 1)] = _
    rw [List.append_nil, num_one, num_one]
    have r := right_iff (u := [y]) (NZ.one hy) hw' hv
    rw [bk_one, red_l [y] (red_red w)] at r
    unfold one
    congr 1
    by_cases q : red w = red (v ++ [-y])
    · rw [if_pos q, if_pos (r.mpr q)]
    · rw [if_neg q, if_neg fun z => q (r.mp z)]
  · by_cases y2 : y = -k
    · subst y2
      rw [gen_nk hk, if_pos (by omega)]
      show num _ [(red (w ++ [-k]), -1)] - num v [(red (w ++ [-k]), -1)] = _
      rw [num_one, num_one]
      have hvk : Gd (red (v ++ [-k])) := gd_red (hv.1.app (NZ.one (by omega)))
      have r := right_iff (u := [-k]) (NZ.one hy) hw' hvk
      rw [bk_one, red_l [-k] (red_red w), red_l [- -k] (red_red _), List.append_assoc, red_r v (v' := []) ((NZ.one hy).app (NZ.one (by omega))) NZ.nil (red_two hy), List.append_nil, hv.2] at r
      unfold one
      by_cases q : red w = v
      · rw [if_pos (r.mpr q), if_pos q]
        split <;> rfl
      · rw [if_neg fun z => q (r.mp z), if_neg q]
        split <;> rfl
    · rw [gen_no y1 y2, if_neg (by omega)]
      rfl
theorem gs_snoc {v w : List Int} {y : Int} (hw : NZ w) (hy : y ≠ 0) (hv : Gd v) : ∀ n : Nat, gs v (w ++ [y]) n = gs v w n + if y.natAbs ≤ n then one (red (w ++ [y])) v - one (red w) v else 0
  | 0 => by
    rw [if_neg (by omega)]
    rfl
  | n + 1 => by
    have hv' : Gd (red (v ++ [-((n + 1 : Nat) : Int)])) := gd_red (hv.1.app (NZ.one (by omega)))
    have hs := stp_sum hw hy hv (k := ((n + 1 : Nat) : Int)) (by omega)
    unfold gs
    rw [gs_snoc hw hy hv n, dl_snoc _ y hw hy hv', dl_snoc _ y hw hy hv]
    by_cases q : y.natAbs = n + 1
    · rw [if_pos (by omega)] at hs
      rw [if_neg (by omega), if_pos (by omega)]
      omega
    · rw [if_neg (by omega)] at hs
      by_cases p : y.natAbs ≤ n
      · rw [if_pos p, if_pos (by omega)]
        omega
      · rw [if_neg p, if_neg (by omega)]
        omega
theorem gs_all {L : Nat} {v : List Int} (hv : Gd v) (w : List Int) : WkL L w → gs v w L = one (red w) v - one [] v := by
  refine snoc_ind (P := fun w => WkL L w → gs v w L = one (red w) v - one [] v) (fun _ => ?_) (fun w y ih hw => ?_) w
  · have : ∀ n, gs v [] n = 0 := fun n => by
      induction n with
      | zero => rfl
      | succ n ih => unfold gs; rw [ih]; rfl
    rw [this]
    show 0 = one [] v - one [] v
    omega
  · have h1 : WkL L w := fun x hx => hw x (by simp [hx])
    have hy := hw y (by simp)
    have nz : NZ w := fun x hx => (h1 x hx).1
    rw [gs_snoc nz hy.1 hv, ih h1, if_pos (by omega)]
    omega
theorem btl_all {L : Nat} {w : List Int} (hw : WkL L w) : chn (btl w L) = chn [(red w, 1), ([], -1)] := by
  have nz : NZ w := fun x hx => (hw x hx).1
  refine chn_ext_r (btl_rd nz L) (fun t ht => ?_) fun v hv => ?_
  · simp only [List.mem_cons, List.not_mem_nil, or_false] at ht
    rcases ht with rfl | rfl
    · exact gd_red nz
    · exact Gd.nil
  · rw [btl_num nz hv, gs_all hv w hw, num_cons, num_one]
    unfold one
    show _ = (if red w = v then 1 else 0) + _
    split <;> split <;> rfl
end K63

namespace K63
open PySem Cs
structure Mz (A B : List Tm) : Prop where
  len : A.length * B.length ≤ 1000
  lb : B.length ≤ 1000
  wa : ∀ t ∈ A, t.1.length ≤ 400 ∧ t.2.natAbs < 2 ^ 200
  wb : ∀ t ∈ B, t.1.length ≤ 400 ∧ t.2.natAbs < 2 ^ 200
theorem Mz.sz {A B : List Tm} (h : Mz A B) : Sz (prd A B) := ⟨by rw [prd_len]; exact h.len, fun t ht => by
  obtain ⟨a, ha, ht⟩ := List.mem_flatMap.mp ht
  obtain ⟨b, hb, rfl⟩ := List.mem_map.mp ht
  have h1 := (h.wa a ha).1
  have h2 := (h.wb b hb).1
  have h3 := red_len (a.1 ++ b.1)
  rw [List.length_append] at h3
  show (red (a.1 ++ b.1)).length ≤ 1000
  omega⟩
def row (t : Tm) (B : List Tm) : List Tm := B.map fun u => (red (t.1 ++ u.1), t.2 * u.2)
theorem prd_take {A : List Tm} {k : Nat} {t : Tm} (h : A[k]? = some t) (B : List Tm) : prd (A.take (k + 1)) B = prd (A.take k) B ++ row t B := by
  unfold prd row
  rw [List.take_succ, h, List.flatMap_append]
  simp
theorem prd_take_len {A : List Tm} (k : Nat) (B : List Tm) : (prd (A.take k) B).length ≤ A.length * B.length := by
  rw [prd_len, List.length_take]
  exact Nat.mul_le_mul_right _ (Nat.min_le_right _ _)
theorem rowproduct_of (A B : List Tm) (r : Nat) (t : Tm) (s : Sto) (h1 : t.1.length ≤ 400 ∧ t.2.natAbs < 2 ^ 200) (h2 : ∀ t ∈ B, t.1.length ≤ 400 ∧ t.2.natAbs < 2 ^ 200) :
    Ev (goIts (turnC (gTup 2 (gsCons (gVar 5) (gsCons (gVar 6) gsNil))) none e_product_of_2 [some (.tup (A.map tm)), some (.tup (B.map tm)), some (.ref r), some (tw t.1), some (.int t.2), none, none]) (B.map tm) s) s ((row t B).map tm) := by
  unfold row
  rw [List.map_map]
  refine goIts_enc tm _ B s fun u hu s' hl => ?_
  have hu := h2 u hu
  have ad : addD (tw t.1) (tw u.1) s' = .ok (tw (t.1 ++ u.1)) s' := by
    rw [add_tt, List.length_map, List.length_map, if_pos (by rw [size_eq]; omega), ← List.map_append]
  obtain ⟨s2, e2, l2⟩ := run_straightened (t.1 ++ u.1) s' (by rw [List.length_append]; omega)
  refine ⟨s2, ?_, l2⟩
  simp only [fnB_eq, List.length_cons, List.length_nil, List.map_cons, List.map_nil, List.cons_append, List.nil_append, Nat.reduceAdd, Nat.reduceSub, List.replicate, if_true, Bool.false_eq_true, if_false, s_Cons, s_Nil, s_Ret, s_RetN, s_If, s_Asg, s_Expr, s_For, s_Par, then_nx, then_rt, st_ok', bind_ok', fnR_rt, fnR_nx, g_Var, g_Tup, gs_Cons, gs_Nil, v_Call, t_Call, v_CallK, t_CallK, a_Cons, a_Nil, v_Var, t_Var, v_C, t_C, v_Bin, t_Bin, v_Un, t_Un, v_Bi, t_Bi, v_Not, t_Not, v_And, t_And, v_Or, t_Or, v_If, t_If, v_Tup, v_Lst, v_Slc, o_Yes, o_No, toO_int, v_Meth, v_Comp, v_Chain, t_Chain, chain2_t, chain2_f, i_Seq, seqW_tup, i_Rg1, rg1W_ok, i_Rg2, rg2W_ok, goWk_its, wkS_its, wipeE_nil, wipeE_cons, List.set_cons_zero, List.set_cons_succ, List.getElem?_cons_zero, List.getElem?_cons_succ, getV_some, truth_bl, Bool.not_true, Bool.not_false, add_ii, sub_ii, ltI_ii, neg_i, ix_t, okO_some, len_tup, Int.toNat_natCast, par2_ok, bodyF_eq, turnC_none, turnC_some, isBl_bb, isnBl_bb, abs_i, int_i, eqD_ii, neD_ii, v_Chain3, t_Chain3, v_LenSet, v_Comp2, sz0, sz1, sz2, sz3, sz4, sz5, sz6, sz7, sz8, sz9, sz10, sz11, sz12, e_product_of_2, ad, e2, mul_ok _ _ _ h1.2 hu.2, tl2]
  rfl
theorem run_product_of (A B : List Tm) (s : Sto) (h : Mz A B) : Ev (m_product_of [.tup (A.map tm), .tup (B.map tm)] s) s (.tup ((chn (prd A B)).map tm)) := by
  have n0 := newL_ok' s (xs := []) (by rw [size_eq]; simp)
  have g0 := get_add_same s (.lst [])
  have l0 : Le s (s.add (.lst [])) := .add _ _
  have q0 : s.n < (s.add (.lst [])).n := Nat.lt_succ_self _
  generalize s.add (.lst []) = s0 at *
  obtain ⟨env1, s1, e1, ⟨z3, z4, z5, z6, rfl⟩, g1, l1, q1⟩ := forIts_inv (b := bodyF (gTup 2 (gsCons (gVar 3) (gsCons (gVar 4) gsNil))) b_product_of_1)
    (fun k env s1 => (∃ z3 z4 z5 z6, env = [some (.tup (A.map tm)), some (.tup (B.map tm)), some (.ref s.n), z3, z4, z5, z6]) ∧ s1.get s.n = some (.lst ((prd (A.take k) B).map tm)) ∧ Le s s1 ∧ s.n < s1.n)
    (A.map tm) 0 [some (.tup (A.map tm)), some (.tup (B.map tm)), some (.ref s.n), none, none, none, none] s0 ⟨⟨_, _, _, _, rfl⟩, g0, l0, q0⟩ (by
      rintro k x env s1 hx ⟨⟨z3, z4, z5, z6, rfl⟩, g1, l1, q1⟩
      rw [Nat.zero_add] at *
      obtain ⟨t, ht, rfl⟩ := get_map hx
      obtain ⟨s2, e2, l2⟩ := rowproduct_of A B s.n t s1 (h.wa t (List.mem_of_getElem? ht)) h.wb
      have hr : (row t B).length = B.length := by unfold row; rw [List.length_map]
      have hlb := h.lb
      have hlen := h.len
      have hp := prd_take_len (A := A) k B
      have n3 := newL_ok' s2 (xs := (row t B).map tm) (by rw [List.length_map, size_eq]; omega)
      have g3 := get_add_same s2 (.lst ((row t B).map tm))
      have l3 : Le s2 (s2.add (.lst ((row t B).map tm))) := .add _ _
      generalize s2.add (.lst ((row t B).map tm)) = s3 at *
      have g1' := ((l2.trans l3).get _ q1).trans g1
      have x3 := ext2_rr g1' g3 (by rw [List.length_map, List.length_map, size_eq]; omega)
      refine ⟨[some (.tup (A.map tm)), some (.tup (B.map tm)), some (.ref s.n), some (tw t.1), some (.int t.2), z5, z6], s3.set s.n (.lst ((prd (A.take k) B).map tm ++ (row t B).map tm)), .inl ?_, ⟨_, _, _, _, rfl⟩, ?_, (l1.trans (l2.trans l3)).set (Nat.le_refl _) _, Nat.lt_of_lt_of_le q1 (l2.trans l3).n⟩
      · simp only [fnB_eq, List.length_cons, List.length_nil, List.map_cons, List.map_nil, List.cons_append, List.nil_append, Nat.reduceAdd, Nat.reduceSub, List.replicate, if_true, Bool.false_eq_true, if_false, s_Cons, s_Nil, s_Ret, s_RetN, s_If, s_Asg, s_Expr, s_For, s_Par, then_nx, then_rt, st_ok', bind_ok', fnR_rt, fnR_nx, g_Var, g_Tup, gs_Cons, gs_Nil, v_Call, t_Call, v_CallK, t_CallK, a_Cons, a_Nil, v_Var, t_Var, v_C, t_C, v_Bin, t_Bin, v_Un, t_Un, v_Bi, t_Bi, v_Not, t_Not, v_And, t_And, v_Or, t_Or, v_If, t_If, v_Tup, v_Lst, v_Slc, o_Yes, o_No, toO_int, v_Meth, v_Comp, v_Chain, t_Chain, chain2_t, chain2_f, i_Seq, seqW_tup, i_Rg1, rg1W_ok, i_Rg2, rg2W_ok, goWk_its, wkS_its, wipeE_nil, wipeE_cons, List.set_cons_zero, List.set_cons_succ, List.getElem?_cons_zero, List.getElem?_cons_succ, getV_some, truth_bl, Bool.not_true, Bool.not_false, add_ii, sub_ii, ltI_ii, neg_i, ix_t, okO_some, len_tup, Int.toNat_natCast, par2_ok, bodyF_eq, turnC_none, turnC_some, isBl_bb, isnBl_bb, abs_i, int_i, eqD_ii, neD_ii, v_Chain3, t_Chain3, v_LenSet, v_Comp2, sz0, sz1, sz2, sz3, sz4, sz5, sz6, sz7, sz8, sz9, sz10, sz11, sz12, b_product_of_1, isL_r _ g1, e2, n3, x3]
      · rw [get_set_same, prd_take ht, List.map_append])
  rw [Nat.zero_add, List.length_map, List.take_length] at g1
  obtain ⟨s2, e2, l2⟩ := run_chain_from (.ref s.n) (prd A B) s1 (.inr ⟨_, rfl, q1, g1⟩) h.sz
  refine ⟨s2, ?_, l1.trans l2⟩
  simp only [fnB_eq, List.length_cons, List.length_nil, List.map_cons, List.map_nil, List.cons_append, List.nil_append, Nat.reduceAdd, Nat.reduceSub, List.replicate, if_true, Bool.false_eq_true, if_false, s_Cons, s_Nil, s_Ret, s_RetN, s_If, s_Asg, s_Expr, s_For, s_Par, then_nx, then_rt, st_ok', bind_ok', fnR_rt, fnR_nx, g_Var, g_Tup, gs_Cons, gs_Nil, v_Call, t_Call, v_CallK, t_CallK, a_Cons, a_Nil, v_Var, t_Var, v_C, t_C, v_Bin, t_Bin, v_Un, t_Un, v_Bi, t_Bi, v_Not, t_Not, v_And, t_And, v_Or, t_Or, v_If, t_If, v_Tup, v_Lst, v_Slc, o_Yes, o_No, toO_int, v_Meth, v_Comp, v_Chain, t_Chain, chain2_t, chain2_f, i_Seq, seqW_tup, i_Rg1, rg1W_ok, i_Rg2, rg2W_ok, goWk_its, wkS_its, wipeE_nil, wipeE_cons, List.set_cons_zero, List.set_cons_succ, List.getElem?_cons_zero, List.getElem?_cons_succ, getV_some, truth_bl, Bool.not_true, Bool.not_false, add_ii, sub_ii, ltI_ii, neg_i, ix_t, okO_some, len_tup, Int.toNat_natCast, par2_ok, bodyF_eq, turnC_none, turnC_some, isBl_bb, isnBl_bb, abs_i, int_i, eqD_ii, neD_ii, v_Chain3, t_Chain3, v_LenSet, v_Comp2, sz0, sz1, sz2, sz3, sz4, sz5, sz6, sz7, sz8, sz9, sz10, sz11, sz12, m_product_of, b_product_of, n0, e1, e2]

theorem row_law_product (A B : List Tm) (r : Nat) (t : Tm) (s : Sto) (h1 : t.1.length ≤ 400 ∧ t.2.natAbs < 2 ^ 200) (h2 : ∀ t ∈ B, t.1.length ≤ 400 ∧ t.2.natAbs < 2 ^ 200) :
    Ev (goIts (turnC (gTup 2 (gsCons (gVar 5) (gsCons (gVar 6) gsNil))) none e__law_product_2 [some (.tup (A.map tm)), some (.tup (B.map tm)), some (.ref r), some (tw t.1), some (.int t.2), none, none]) (B.map tm) s) s ((row t B).map tm) := by
  unfold row
  rw [List.map_map]
  refine goIts_enc tm _ B s fun u hu s' hl => ?_
  have hu := h2 u hu
  have ad : addD (tw t.1) (tw u.1) s' = .ok (tw (t.1 ++ u.1)) s' := by
    rw [add_tt, List.length_map, List.length_map, if_pos (by rw [size_eq]; omega), ← List.map_append]
  obtain ⟨s2, e2, l2⟩ := run_law_straight (t.1 ++ u.1) s' (by rw [List.length_append]; omega)
  refine ⟨s2, ?_, l2⟩
  simp only [fnB_eq, List.length_cons, List.length_nil, List.map_cons, List.map_nil, List.cons_append, List.nil_append, Nat.reduceAdd, Nat.reduceSub, List.replicate, if_true, Bool.false_eq_true, if_false, s_Cons, s_Nil, s_Ret, s_RetN, s_If, s_Asg, s_Expr, s_For, s_Par, then_nx, then_rt, st_ok', bind_ok', fnR_rt, fnR_nx, g_Var, g_Tup, gs_Cons, gs_Nil, v_Call, t_Call, v_CallK, t_CallK, a_Cons, a_Nil, v_Var, t_Var, v_C, t_C, v_Bin, t_Bin, v_Un, t_Un, v_Bi, t_Bi, v_Not, t_Not, v_And, t_And, v_Or, t_Or, v_If, t_If, v_Tup, v_Lst, v_Slc, o_Yes, o_No, toO_int, v_Meth, v_Comp, v_Chain, t_Chain, chain2_t, chain2_f, i_Seq, seqW_tup, i_Rg1, rg1W_ok, i_Rg2, rg2W_ok, goWk_its, wkS_its, wipeE_nil, wipeE_cons, List.set_cons_zero, List.set_cons_succ, List.getElem?_cons_zero, List.getElem?_cons_succ, getV_some, truth_bl, Bool.not_true, Bool.not_false, add_ii, sub_ii, ltI_ii, neg_i, ix_t, okO_some, len_tup, Int.toNat_natCast, par2_ok, bodyF_eq, turnC_none, turnC_some, isBl_bb, isnBl_bb, abs_i, int_i, eqD_ii, neD_ii, v_Chain3, t_Chain3, v_LenSet, v_Comp2, sz0, sz1, sz2, sz3, sz4, sz5, sz6, sz7, sz8, sz9, sz10, sz11, sz12, e__law_product_2, ad, e2, mul_ok _ _ _ h1.2 hu.2, tl2]
  rfl
theorem run__law_product (A B : List Tm) (s : Sto) (h : Mz A B) : Ev (m__law_product [.tup (A.map tm), .tup (B.map tm)] s) s (.tup ((chn (prd A B)).map tm)) := by
  have n0 := newL_ok' s (xs := []) (by rw [size_eq]; simp)
  have g0 := get_add_same s (.lst [])
  have l0 : Le s (s.add (.lst [])) := .add _ _
  have q0 : s.n < (s.add (.lst [])).n := Nat.lt_succ_self _
  generalize s.add (.lst []) = s0 at *
  obtain ⟨env1, s1, e1, ⟨z3, z4, z5, z6, rfl⟩, g1, l1, q1⟩ := forIts_inv (b := bodyF (gTup 2 (gsCons (gVar 3) (gsCons (gVar 4) gsNil))) b__law_product_1)
    (fun k env s1 => (∃ z3 z4 z5 z6, env = [some (.tup (A.map tm)), some (.tup (B.map tm)), some (.ref s.n), z3, z4, z5, z6]) ∧ s1.get s.n = some (.lst ((prd (A.take k) B).map tm)) ∧ Le s s1 ∧ s.n < s1.n)
    (A.map tm) 0 [some (.tup (A.map tm)), some (.tup (B.map tm)), some (.ref s.n), none, none, none, none] s0 ⟨⟨_, _, _, _, rfl⟩, g0, l0, q0⟩ (by
      rintro k x env s1 hx ⟨⟨z3, z4, z5, z6, rfl⟩, g1, l1, q1⟩
      rw [Nat.zero_add] at *
      obtain ⟨t, ht, rfl⟩ := get_map hx
      obtain ⟨s2, e2, l2⟩ := row_law_product A B s.n t s1 (h.wa t (List.mem_of_getElem? ht)) h.wb
      have hr : (row t B).length = B.length := by unfold row; rw [List.length_map]
      have hlb := h.lb
      have hlen := h.len
      have hp := prd_take_len (A := A) k B
      have n3 := newL_ok' s2 (xs := (row t B).map tm) (by rw [List.length_map, size_eq]; omega)
      have g3 := get_add_same s2 (.lst ((row t B).map tm))
      have l3 : Le s2 (s2.add (.lst ((row t B).map tm))) := .add _ _
      generalize s2.add (.lst ((row t B).map tm)) = s3 at *
      have g1' := ((l2.trans l3).get _ q1).trans g1
      have x3 := ext2_rr g1' g3 (by rw [List.length_map, List.length_map, size_eq]; omega)
      refine ⟨[some (.tup (A.map tm)), some (.tup (B.map tm)), some (.ref s.n), some (tw t.1), some (.int t.2), z5, z6], s3.set s.n (.lst ((prd (A.take k) B).map tm ++ (row t B).map tm)), .inl ?_, ⟨_, _, _, _, rfl⟩, ?_, (l1.trans (l2.trans l3)).set (Nat.le_refl _) _, Nat.lt_of_lt_of_le q1 (l2.trans l3).n⟩
      · simp only [fnB_eq, List.length_cons, List.length_nil, List.map_cons, List.map_nil, List.cons_append, List.nil_append, Nat.reduceAdd, Nat.reduceSub, List.replicate, if_true, Bool.false_eq_true, if_false, s_Cons, s_Nil, s_Ret, s_RetN, s_If, s_Asg, s_Expr, s_For, s_Par, then_nx, then_rt, st_ok', bind_ok', fnR_rt, fnR_nx, g_Var, g_Tup, gs_Cons, gs_Nil, v_Call, t_Call, v_CallK, t_CallK, a_Cons, a_Nil, v_Var, t_Var, v_C, t_C, v_Bin, t_Bin, v_Un, t_Un, v_Bi, t_Bi, v_Not, t_Not, v_And, t_And, v_Or, t_Or, v_If, t_If, v_Tup, v_Lst, v_Slc, o_Yes, o_No, toO_int, v_Meth, v_Comp, v_Chain, t_Chain, chain2_t, chain2_f, i_Seq, seqW_tup, i_Rg1, rg1W_ok, i_Rg2, rg2W_ok, goWk_its, wkS_its, wipeE_nil, wipeE_cons, List.set_cons_zero, List.set_cons_succ, List.getElem?_cons_zero, List.getElem?_cons_succ, getV_some, truth_bl, Bool.not_true, Bool.not_false, add_ii, sub_ii, ltI_ii, neg_i, ix_t, okO_some, len_tup, Int.toNat_natCast, par2_ok, bodyF_eq, turnC_none, turnC_some, isBl_bb, isnBl_bb, abs_i, int_i, eqD_ii, neD_ii, v_Chain3, t_Chain3, v_LenSet, v_Comp2, sz0, sz1, sz2, sz3, sz4, sz5, sz6, sz7, sz8, sz9, sz10, sz11, sz12, b__law_product_1, isL_r _ g1, e2, n3, x3]
      · rw [get_set_same, prd_take ht, List.map_append])
  rw [Nat.zero_add, List.length_map, List.take_length] at g1
  obtain ⟨s2, e2, l2⟩ := run_law_chain (.ref s.n) (prd A B) s1 (.inr ⟨_, rfl, q1, g1⟩) h.sz
  refine ⟨s2, ?_, l1.trans l2⟩
  simp only [fnB_eq, List.length_cons, List.length_nil, List.map_cons, List.map_nil, List.cons_append, List.nil_append, Nat.reduceAdd, Nat.reduceSub, List.replicate, if_true, Bool.false_eq_true, if_false, s_Cons, s_Nil, s_Ret, s_RetN, s_If, s_Asg, s_Expr, s_For, s_Par, then_nx, then_rt, st_ok', bind_ok', fnR_rt, fnR_nx, g_Var, g_Tup, gs_Cons, gs_Nil, v_Call, t_Call, v_CallK, t_CallK, a_Cons, a_Nil, v_Var, t_Var, v_C, t_C, v_Bin, t_Bin, v_Un, t_Un, v_Bi, t_Bi, v_Not, t_Not, v_And, t_And, v_Or, t_Or, v_If, t_If, v_Tup, v_Lst, v_Slc, o_Yes, o_No, toO_int, v_Meth, v_Comp, v_Chain, t_Chain, chain2_t, chain2_f, i_Seq, seqW_tup, i_Rg1, rg1W_ok, i_Rg2, rg2W_ok, goWk_its, wkS_its, wipeE_nil, wipeE_cons, List.set_cons_zero, List.set_cons_succ, List.getElem?_cons_zero, List.getElem?_cons_succ, getV_some, truth_bl, Bool.not_true, Bool.not_false, add_ii, sub_ii, ltI_ii, neg_i, ix_t, okO_some, len_tup, Int.toNat_natCast, par2_ok, bodyF_eq, turnC_none, turnC_some, isBl_bb, isnBl_bb, abs_i, int_i, eqD_ii, neD_ii, v_Chain3, t_Chain3, v_LenSet, v_Comp2, sz0, sz1, sz2, sz3, sz4, sz5, sz6, sz7, sz8, sz9, sz10, sz11, sz12, m__law_product, b__law_product, n0, e1, e2]

end K63

-- ns8
namespace K63
open PySem Cs
/-! ### derivatives, by the program -/
theorem pr1_sz {l x : Int} {u : List Int} {n : Nat} (hu : u.length ≤ n) : ∀ t ∈ pr1 l u x, t.1.length ≤ n + 1 := fun t ht => by
  unfold pr1 at ht
  rcases List.mem_append.mp ht with ht | ht
  · split at ht
    · have : t = (u, 1) := by simpa using ht
      subst this; show u.length ≤ _; omega
    · exact nomatch ht
  · split at ht
    · have : t = (u ++ [x], -1) := by simpa using ht
      subst this; show (u ++ [x]).length ≤ _; rw [List.length_append]; simp; omega
    · exact nomatch ht
theorem pre_sz (l : Int) (w : List Int) : ∀ n, ∀ t ∈ pre l w n, t.1.length ≤ w.length + 1
  | 0 => fun t ht => nomatch ht
  | n + 1 => fun t ht => by
    unfold pre at ht
    rcases List.mem_append.mp ht with ht | ht
    · exact pre_sz l w n t ht
    · exact pr1_sz (by rw [List.length_take]; omega) t ht
theorem take_snoc {w : List Int} {k : Nat} {x : Int} (h : w[k]? = some x) : w.take (k + 1) = w.take k ++ [x] := by
  rw [List.take_succ, h]; rfl
theorem run_derivative_of (l : Int) (w : List Int) (s : Sto) (hl : 0 < l) (hw : NZ w) (hz : w.length ≤ 400) : Ev (m_derivative_of [tw w, .int l] s) s (.tup ((der l w).map tm)) := by
  have hrl := red_len w
  have n0 := newL_ok' s (xs := []) (by rw [size_eq]; simp)
  have g0 := get_add_same s (.lst [])
  have l0 : Le s (s.add (.lst [])) := .add _ _
  have q0 : s.n < (s.add (.lst [])).n := Nat.lt_succ_self _
  generalize s.add (.lst []) = s0 at *
  obtain ⟨s1, e1, l1⟩ := run_straightened w s0 (by omega)
  have g1 := (l1.get _ q0).trans g0
  obtain ⟨env2, s2, e2, ⟨z4, z5, rfl⟩, g2, l2, q2⟩ := forIts_inv (b := bodyF (gTup 2 (gsCons (gVar 4) (gsCons (gVar 5) gsNil))) b_derivative_of_1)
    (fun k env s1 => (∃ z4 z5, env = [some (tw w), some (.int l), some (.ref s.n), some (tw (red w)), z4, z5]) ∧ s1.get s.n = some (.lst ((pre l (red w) k).map tm)) ∧ Le s s1 ∧ s.n < s1.n)
    (enumD ((red w).map .int)) 0 [some (tw w), some (.int l), some (.ref s.n), some (tw (red w)), none, none] s1 ⟨⟨_, _, rfl⟩, g1, l0.trans l1, Nat.lt_of_lt_of_le q0 l1.n⟩ (by
      rintro k x env s1 hx ⟨⟨z4, z5, rfl⟩, g1, l1, q1⟩
      rw [Nat.zero_add] at *
      obtain ⟨y, hy, rfl⟩ := enumD_at hx
      obtain ⟨n, hn, rfl⟩ := map_at hy
      have hk : k < (red w).length := (List.getElem?_eq_some_iff.mp hn).1
      have hgd : (red w).getD k 0 = n := by rw [List.getD_eq_getElem?_getD, hn]; rfl
      have hpl := pre_len l (red w) k
      have c1 : cutD ((red w).map .int) none (some (k : Int)) = ((red w).take k).map .int := by rw [cut_map, cut_to (k := k) rfl]
      have c2 : cutD ((red w).map .int) none (some ((k : Int) + 1)) = ((red w).take (k + 1)).map .int := by rw [cut_map, cut_to (k := k + 1) (by omega)]
      have hps : pre l (red w) (k + 1) = pre l (red w) k ++ pr1 l ((red w).take k) n := by rw [show pre l (red w) (k + 1) = pre l (red w) k ++ pr1 l ((red w).take k) ((red w).getD k 0) from rfl, hgd]
      by_cases h1 : n = l
      · have h2 : ¬ n = -l := by omega
        have hp1 : pr1 l ((red w).take k) n = [((red w).take k, 1)] := by unfold pr1; rw [if_pos h1, if_neg h2]; rfl
        have ap := append_r _ g1 (tm ((red w).take k, 1)) (by rw [List.length_map, size_eq]; omega)
        refine ⟨[some (tw w), some (.int l), some (.ref s.n), some (tw (red w)), some (.int (k : Int)), some (.int n)], s1.set s.n (.lst ((pre l (red w) k).map tm ++ [tm ((red w).take k, 1)])), .inl ?_, ⟨_, _, rfl⟩, ?_, l1.set (Nat.le_refl _) _, q1⟩
        · simp only [fnB_eq, List.length_cons, List.length_nil, List.map_cons, List.map_nil, List.cons_append, List.nil_append, Nat.reduceAdd, Nat.reduceSub, List.replicate, if_true, Bool.false_eq_true, if_false, s_Cons, s_Nil, s_Ret, s_RetN, s_If, s_Asg, s_Expr, s_For, s_Par, then_nx, then_rt, st_ok', bind_ok', fnR_rt, fnR_nx, g_Var, g_Tup, gs_Cons, gs_Nil, v_Call, t_Call, v_CallK, t_CallK, a_Cons, a_Nil, v_Var, t_Var, v_C, t_C, v_Bin, t_Bin, v_Un, t_Un, v_Bi, t_Bi, v_Not, t_Not, v_And, t_And, v_Or, t_Or, v_If, t_If, v_Tup, v_Lst, v_Slc, o_Yes, o_No, toO_int, v_Meth, v_Comp, v_Chain, t_Chain, chain2_t, chain2_f, i_Seq, seqW_tup, i_Rg1, rg1W_ok, i_Rg2, rg2W_ok, goWk_its, wkS_its, wipeE_nil, wipeE_cons, List.set_cons_zero, List.set_cons_succ, List.getElem?_cons_zero, List.getElem?_cons_succ, getV_some, truth_bl, Bool.not_true, Bool.not_false, add_ii, sub_ii, ltI_ii, neg_i, ix_t, okO_some, len_tup, Int.toNat_natCast, par2_ok, bodyF_eq, turnC_none, turnC_some, isBl_bb, isnBl_bb, abs_i, int_i, eqD_ii, neD_ii, v_Chain3, t_Chain3, v_LenSet, v_Comp2, sz0, sz1, sz2, sz3, sz4, sz5, sz6, sz7, sz8, sz9, sz10, sz11, sz12, b_derivative_of_1, beq_iff_eq.mpr h1, beq_eq_false_iff_ne.mpr h2, isL_r _ g1, slc_t, c1, ap]
        · rw [get_set_same, hps, hp1, List.map_append]; rfl
      · by_cases h2 : n = -l
        · have hp1 : pr1 l ((red w).take k) n = [((red w).take k ++ [n], -1)] := by unfold pr1; rw [if_neg h1, if_pos h2]; rfl
          have ap := append_r _ g1 (tm ((red w).take (k + 1), -1)) (by rw [List.length_map, size_eq]; omega)
          refine ⟨[some (tw w), some (.int l), some (.ref s.n), some (tw (red w)), some (.int (k : Int)), some (.int n)], s1.set s.n (.lst ((pre l (red w) k).map tm ++ [tm ((red w).take (k + 1), -1)])), .inl ?_, ⟨_, _, rfl⟩, ?_, l1.set (Nat.le_refl _) _, q1⟩
          · simp only [fnB_eq, List.length_cons, List.length_nil, List.map_cons, List.map_nil, List.cons_append, List.nil_append, Nat.reduceAdd, Nat.reduceSub, List.replicate, if_true, Bool.false_eq_true, if_false, s_Cons, s_Nil, s_Ret, s_RetN, s_If, s_Asg, s_Expr, s_For, s_Par, then_nx, then_rt, st_ok', bind_ok', fnR_rt, fnR_nx, g_Var, g_Tup, gs_Cons, gs_Nil, v_Call, t_Call, v_CallK, t_CallK, a_Cons, a_Nil, v_Var, t_Var, v_C, t_C, v_Bin, t_Bin, v_Un, t_Un, v_Bi, t_Bi, v_Not, t_Not, v_And, t_And, v_Or, t_Or, v_If, t_If, v_Tup, v_Lst, v_Slc, o_Yes, o_No, toO_int, v_Meth, v_Comp, v_Chain, t_Chain, chain2_t, chain2_f, i_Seq, seqW_tup, i_Rg1, rg1W_ok, i_Rg2, rg2W_ok, goWk_its, wkS_its, wipeE_nil, wipeE_cons, List.set_cons_zero, List.set_cons_succ, List.getElem?_cons_zero, List.getElem?_cons_succ, getV_some, truth_bl, Bool.not_true, Bool.not_false, add_ii, sub_ii, ltI_ii, neg_i, ix_t, okO_some, len_tup, Int.toNat_natCast, par2_ok, bodyF_eq, turnC_none, turnC_some, isBl_bb, isnBl_bb, abs_i, int_i, eqD_ii, neD_ii, v_Chain3, t_Chain3, v_LenSet, v_Comp2, sz0, sz1, sz2, sz3, sz4, sz5, sz6, sz7, sz8, sz9, sz10, sz11, sz12, b_derivative_of_1, beq_eq_false_iff_ne.mpr h1, beq_iff_eq.mpr h2, isL_r _ g1, slc_t, c2, ap]
          · rw [get_set_same, hps, hp1, take_snoc hn, List.map_append]; rfl
        · have hp1 : pr1 l ((red w).take k) n = [] := by unfold pr1; rw [if_neg h1, if_neg h2]; rfl
          refine ⟨[some (tw w), some (.int l), some (.ref s.n), some (tw (red w)), some (.int (k : Int)), some (.int n)], s1, .inl ?_, ⟨_, _, rfl⟩, ?_, l1, q1⟩
          · simp only [fnB_eq, List.length_cons, List.length_nil, List.map_cons, List.map_nil, List.cons_append, List.nil_append, Nat.reduceAdd, Nat.reduceSub, List.replicate, if_true, Bool.false_eq_true, if_false, s_Cons, s_Nil, s_Ret, s_RetN, s_If, s_Asg, s_Expr, s_For, s_Par, then_nx, then_rt, st_ok', bind_ok', fnR_rt, fnR_nx, g_Var, g_Tup, gs_Cons, gs_Nil, v_Call, t_Call, v_CallK, t_CallK, a_Cons, a_Nil, v_Var, t_Var, v_C, t_C, v_Bin, t_Bin, v_Un, t_Un, v_Bi, t_Bi, v_Not, t_Not, v_And, t_And, v_Or, t_Or, v_If, t_If, v_Tup, v_Lst, v_Slc, o_Yes, o_No, toO_int, v_Meth, v_Comp, v_Chain, t_Chain, chain2_t, chain2_f, i_Seq, seqW_tup, i_Rg1, rg1W_ok, i_Rg2, rg2W_ok, goWk_its, wkS_its, wipeE_nil, wipeE_cons, List.set_cons_zero, List.set_cons_succ, List.getElem?_cons_zero, List.getElem?_cons_succ, getV_some, truth_bl, Bool.not_true, Bool.not_false, add_ii, sub_ii, ltI_ii, neg_i, ix_t, okO_some, len_tup, Int.toNat_natCast, par2_ok, bodyF_eq, turnC_none, turnC_some, isBl_bb, isnBl_bb, abs_i, int_i, eqD_ii, neD_ii, v_Chain3, t_Chain3, v_LenSet, v_Comp2, sz0, sz1, sz2, sz3, sz4, sz5, sz6, sz7, sz8, sz9, sz10, sz11, sz12, b_derivative_of_1, beq_eq_false_iff_ne.mpr h1, beq_eq_false_iff_ne.mpr h2]
          · rw [hps, hp1, List.append_nil]; exact g1)
  have elen : (enumD ((red w).map .int)).length = (red w).length := by simp [enumD]
  rw [Nat.zero_add, elen] at g2
  have hpl := pre_len l (red w) (red w).length
  obtain ⟨s3, e3, l3⟩ := run_chain_from (.ref s.n) (pre l (red w) (red w).length) s2 (.inr ⟨_, rfl, q2, g2⟩) ⟨by omega, fun t ht => by have := pre_sz l _ _ t ht; omega⟩
  rw [der_pre hl hw] at e3
  refine ⟨s3, ?_, l2.trans l3⟩
  simp only [fnB_eq, List.length_cons, List.length_nil, List.map_cons, List.map_nil, List.cons_append, List.nil_append, Nat.reduceAdd, Nat.reduceSub, List.replicate, if_true, Bool.false_eq_true, if_false, s_Cons, s_Nil, s_Ret, s_RetN, s_If, s_Asg, s_Expr, s_For, s_Par, then_nx, then_rt, st_ok', bind_ok', fnR_rt, fnR_nx, g_Var, g_Tup, gs_Cons, gs_Nil, v_Call, t_Call, v_CallK, t_CallK, a_Cons, a_Nil, v_Var, t_Var, v_C, t_C, v_Bin, t_Bin, v_Un, t_Un, v_Bi, t_Bi, v_Not, t_Not, v_And, t_And, v_Or, t_Or, v_If, t_If, v_Tup, v_Lst, v_Slc, o_Yes, o_No, toO_int, v_Meth, v_Comp, v_Chain, t_Chain, chain2_t, chain2_f, i_Seq, seqW_tup, i_Rg1, rg1W_ok, i_Rg2, rg2W_ok, goWk_its, wkS_its, wipeE_nil, wipeE_cons, List.set_cons_zero, List.set_cons_succ, List.getElem?_cons_zero, List.getElem?_cons_succ, getV_some, truth_bl, Bool.not_true, Bool.not_false, add_ii, sub_ii, ltI_ii, neg_i, ix_t, okO_some, len_tup, Int.toNat_natCast, par2_ok, bodyF_eq, turnC_none, turnC_some, isBl_bb, isnBl_bb, abs_i, int_i, eqD_ii, neD_ii, v_Chain3, t_Chain3, v_LenSet, v_Comp2, sz0, sz1, sz2, sz3, sz4, sz5, sz6, sz7, sz8, sz9, sz10, sz11, sz12, m_derivative_of, b_derivative_of, n0, e1, i_Enum2, enW2_t, e2, e3]
theorem WkL.nz {L : Int} {w : List Int} (h : WkL L w) : NZ w := fun x hx => (h x hx).1
theorem run_derivative (L l : Nat) (w : List Int) (s : Sto) (hL : LL L) (h1 : 1 ≤ l) (h2 : l ≤ L) (hw : WkL L w) (hz : w.length ≤ 400) : Ev (m_derivative [.int L, tw w, .int l] s) s (.tup ((der l w).map tm)) := by
  obtain ⟨s1, e1, l1⟩ := run_need_walk w s (by omega) hw
  obtain ⟨s2, e2, l2⟩ := run_derivative_of l w s1 (by omega) hw.nz hz
  have e3 : m_need_number [.int l, .int 1, .int L] s1 = .ok .non s1 := by
    simp only [fnB_eq, List.length_cons, List.length_nil, List.map_cons, List.map_nil, List.cons_append, List.nil_append, Nat.reduceAdd, Nat.reduceSub, List.replicate, if_true, Bool.false_eq_true, if_false, s_Cons, s_Nil, s_Ret, s_RetN, s_If, s_Asg, s_Expr, s_For, s_Par, then_nx, then_rt, st_ok', bind_ok', fnR_rt, fnR_nx, g_Var, g_Tup, gs_Cons, gs_Nil, v_Call, t_Call, v_CallK, t_CallK, a_Cons, a_Nil, v_Var, t_Var, v_C, t_C, v_Bin, t_Bin, v_Un, t_Un, v_Bi, t_Bi, v_Not, t_Not, v_And, t_And, v_Or, t_Or, v_If, t_If, v_Tup, v_Lst, v_Slc, o_Yes, o_No, toO_int, v_Meth, v_Comp, v_Chain, t_Chain, chain2_t, chain2_f, i_Seq, seqW_tup, i_Rg1, rg1W_ok, i_Rg2, rg2W_ok, goWk_its, wkS_its, wipeE_nil, wipeE_cons, List.set_cons_zero, List.set_cons_succ, List.getElem?_cons_zero, List.getElem?_cons_succ, getV_some, truth_bl, Bool.not_true, Bool.not_false, add_ii, sub_ii, ltI_ii, neg_i, ix_t, okO_some, len_tup, Int.toNat_natCast, par2_ok, bodyF_eq, turnC_none, turnC_some, isBl_bb, isnBl_bb, abs_i, int_i, eqD_ii, neD_ii, v_Chain3, t_Chain3, v_LenSet, v_Comp2, sz0, sz1, sz2, sz3, sz4, sz5, sz6, sz7, sz8, sz9, sz10, sz11, sz12, m_need_number, b_need_number, decide_eq_false (show ¬ (l : Int) < 1 by omega), show isnNonD (D.int (L : Int)) .non s1 = .ok (.bl true) s1 from rfl, decide_eq_false (show ¬ (L : Int) < l by omega)]
  refine ⟨s2, ?_, l1.trans l2⟩
  simp only [fnB_eq, List.length_cons, List.length_nil, List.map_cons, List.map_nil, List.cons_append, List.nil_append, Nat.reduceAdd, Nat.reduceSub, List.replicate, if_true, Bool.false_eq_true, if_false, s_Cons, s_Nil, s_Ret, s_RetN, s_If, s_Asg, s_Expr, s_For, s_Par, then_nx, then_rt, st_ok', bind_ok', fnR_rt, fnR_nx, g_Var, g_Tup, gs_Cons, gs_Nil, v_Call, t_Call, v_CallK, t_CallK, a_Cons, a_Nil, v_Var, t_Var, v_C, t_C, v_Bin, t_Bin, v_Un, t_Un, v_Bi, t_Bi, v_Not, t_Not, v_And, t_And, v_Or, t_Or, v_If, t_If, v_Tup, v_Lst, v_Slc, o_Yes, o_No, toO_int, v_Meth, v_Comp, v_Chain, t_Chain, chain2_t, chain2_f, i_Seq, seqW_tup, i_Rg1, rg1W_ok, i_Rg2, rg2W_ok, goWk_its, wkS_its, wipeE_nil, wipeE_cons, List.set_cons_zero, List.set_cons_succ, List.getElem?_cons_zero, List.getElem?_cons_succ, getV_some, truth_bl, Bool.not_true, Bool.not_false, add_ii, sub_ii, ltI_ii, neg_i, ix_t, okO_some, len_tup, Int.toNat_natCast, par2_ok, bodyF_eq, turnC_none, turnC_some, isBl_bb, isnBl_bb, abs_i, int_i, eqD_ii, neD_ii, v_Chain3, t_Chain3, v_LenSet, v_Comp2, sz0, sz1, sz2, sz3, sz4, sz5, sz6, sz7, sz8, sz9, sz10, sz11, sz12, m_derivative, b_derivative, run_need_letters L s hL, e1, e3, e2]
theorem run_product (L : Nat) (A B : List Tm) (s : Sto) (hL : LL L) (hA : Chn L A) (hB : Chn L B) (hM : Mz A B) : Ev (m_product [.int L, .tup (A.map tm), .tup (B.map tm)] s) s (.tup ((chn (prd A B)).map tm)) := by
  obtain ⟨s1, e1, l1⟩ := run_need_chain L A s hA
  obtain ⟨s2, e2, l2⟩ := run_need_chain L B s1 hB
  obtain ⟨s3, e3, l3⟩ := run_product_of A B s2 hM
  have e4 : m_need_two_chains [.int L, .tup (A.map tm), .tup (B.map tm)] s = .ok .non s2 := by
    simp only [fnB_eq, List.length_cons, List.length_nil, List.map_cons, List.map_nil, List.cons_append, List.nil_append, Nat.reduceAdd, Nat.reduceSub, List.replicate, if_true, Bool.false_eq_true, if_false, s_Cons, s_Nil, s_Ret, s_RetN, s_If, s_Asg, s_Expr, s_For, s_Par, then_nx, then_rt, st_ok', bind_ok', fnR_rt, fnR_nx, g_Var, g_Tup, gs_Cons, gs_Nil, v_Call, t_Call, v_CallK, t_CallK, a_Cons, a_Nil, v_Var, t_Var, v_C, t_C, v_Bin, t_Bin, v_Un, t_Un, v_Bi, t_Bi, v_Not, t_Not, v_And, t_And, v_Or, t_Or, v_If, t_If, v_Tup, v_Lst, v_Slc, o_Yes, o_No, toO_int, v_Meth, v_Comp, v_Chain, t_Chain, chain2_t, chain2_f, i_Seq, seqW_tup, i_Rg1, rg1W_ok, i_Rg2, rg2W_ok, goWk_its, wkS_its, wipeE_nil, wipeE_cons, List.set_cons_zero, List.set_cons_succ, List.getElem?_cons_zero, List.getElem?_cons_succ, getV_some, truth_bl, Bool.not_true, Bool.not_false, add_ii, sub_ii, ltI_ii, neg_i, ix_t, okO_some, len_tup, Int.toNat_natCast, par2_ok, bodyF_eq, turnC_none, turnC_some, isBl_bb, isnBl_bb, abs_i, int_i, eqD_ii, neD_ii, v_Chain3, t_Chain3, v_LenSet, v_Comp2, sz0, sz1, sz2, sz3, sz4, sz5, sz6, sz7, sz8, sz9, sz10, sz11, sz12, m_need_two_chains, b_need_two_chains, run_need_letters L s hL, e1, e2]
  exact ⟨s3, by simp only [fnB_eq, List.length_cons, List.length_nil, List.map_cons, List.map_nil, List.cons_append, List.nil_append, Nat.reduceAdd, Nat.reduceSub, List.replicate, if_true, Bool.false_eq_true, if_false, s_Cons, s_Nil, s_Ret, s_RetN, s_If, s_Asg, s_Expr, s_For, s_Par, then_nx, then_rt, st_ok', bind_ok', fnR_rt, fnR_nx, g_Var, g_Tup, gs_Cons, gs_Nil, v_Call, t_Call, v_CallK, t_CallK, a_Cons, a_Nil, v_Var, t_Var, v_C, t_C, v_Bin, t_Bin, v_Un, t_Un, v_Bi, t_Bi, v_Not, t_Not, v_And, t_And, v_Or, t_Or, v_If, t_If, v_Tup, v_Lst, v_Slc, o_Yes, o_No, toO_int, v_Meth, v_Comp, v_Chain, t_Chain, chain2_t, chain2_f, i_Seq, seqW_tup, i_Rg1, rg1W_ok, i_Rg2, rg2W_ok, goWk_its, wkS_its, wipeE_nil, wipeE_cons, List.set_cons_zero, List.set_cons_succ, List.getElem?_cons_zero, List.getElem?_cons_succ, getV_some, truth_bl, Bool.not_true, Bool.not_false, add_ii, sub_ii, ltI_ii, neg_i, ix_t, okO_some, len_tup, Int.toNat_natCast, par2_ok, bodyF_eq, turnC_none, turnC_some, isBl_bb, isnBl_bb, abs_i, int_i, eqD_ii, neD_ii, v_Chain3, t_Chain3, v_LenSet, v_Comp2, sz0, sz1, sz2, sz3, sz4, sz5, sz6, sz7, sz8, sz9, sz10, sz11, sz12, m_product, b_product, e4, e3], (l1.trans l2).trans l3⟩
/-! ### back to the walk -/
theorem dl_sz (k : Int) : ∀ w : List Int, ∀ t ∈ dl k w, t.1.length ≤ w.length ∧ t.2.natAbs ≤ 1
  | [] => fun t ht => nomatch ht
  | x :: r => fun t ht => by
    unfold dl at ht
    rcases List.mem_append.mp ht with ht | ht
    · obtain ⟨u, hu, rfl⟩ := List.mem_map.mp ht
      have h1 := dl_sz k r u hu
      have h2 := red_len ([x] ++ u.1)
      simp only [List.length_append, List.length_cons, List.length_nil] at h2
      refine ⟨?_, h1.2⟩
      show (red ([x] ++ u.1)).length ≤ r.length + 1
      omega
    · unfold gen at ht
      rcases List.mem_append.mp ht with ht | ht
      · split at ht
        · have : t = ([], 1) := by simpa using ht
          subst this; exact ⟨Nat.zero_le _, by decide⟩
        · exact nomatch ht
      · split at ht
        · have : t = ([x], -1) := by simpa using ht
          subst this; exact ⟨by simp, by show (-1 : Int).natAbs ≤ 1; decide⟩
        · exact nomatch ht
theorem der_len (k : Int) (w : List Int) : (der k w).length ≤ 2 * w.length := Nat.le_trans (chn_len _) (dl_len k w)
theorem der_sz {k : Int} {w : List Int} {n : Nat} (h : w.length ≤ n) : ∀ t ∈ der k w, t.1.length ≤ n ∧ t.2.natAbs ≤ 2 * n := fun t ht => by
  obtain ⟨u, hu, e⟩ := List.mem_map.mp (chn_mem ht).1
  have h1 := (dl_sz k w u hu).1
  have h2 := chn_abs (B := 1) (fun t ht => (dl_sz k w t ht).2) t ht
  have h3 := dl_len k w
  rw [← e]
  exact ⟨by omega, by omega⟩
theorem ltm_sz {l : Int} : ∀ t ∈ ltm l, t.1.length ≤ 400 ∧ t.2.natAbs < 2 ^ 200 := fun t ht => by
  unfold ltm at ht
  simp only [List.mem_cons, List.not_mem_nil, or_false] at ht
  rcases ht with rfl | rfl
  · exact ⟨Nat.zero_le _, by decide⟩
  · exact ⟨by show (1 : Nat) ≤ 400; decide, by show (1 : Int).natAbs < 2 ^ 200; decide⟩
theorem mz_back {k : Int} {w : List Int} (h : w.length ≤ 40) : Mz (der k w) (ltm k) := ⟨by
  have := der_len k w
  show _ * 2 ≤ _
  omega, by show 2 ≤ 1000; decide, fun t ht => by
  have := der_sz h t ht
  have : (80 : Nat) < 2 ^ 200 := by decide
  omega, ltm_sz⟩
theorem btl_len {w : List Int} (h : w.length ≤ 40) : ∀ n, (btl w n).length ≤ n * 160
  | 0 => Nat.le_refl _
  | n + 1 => by
    unfold btl
    rw [List.length_append]
    have h1 := btl_len h n
    have h2 := chn_len (prd (der ((n + 1 : Nat) : Int) w) (ltm ((n + 1 : Nat) : Int)))
    rw [prd_len] at h2
    have h3 := der_len ((n + 1 : Nat) : Int) w
    have h4 : (ltm ((n + 1 : Nat) : Int)).length = 2 := rfl
    rw [h4] at h2
    omega
theorem btl_sz {w : List Int} (h : w.length ≤ 40) : ∀ n, ∀ t ∈ btl w n, t.1.length ≤ 1000
  | 0 => fun t ht => nomatch ht
  | n + 1 => fun t ht => by
    unfold btl at ht
    rcases List.mem_append.mp ht with ht | ht
    · exact btl_sz h n t ht
    · obtain ⟨u, hu, e⟩ := List.mem_map.mp (chn_mem ht).1
      rw [← e]
      exact (mz_back h).sz.2 u hu
theorem run_back (L : Nat) (w : List Int) (s : Sto) (hL : LL L) (hw : WkL L w) (hz : w.length ≤ 40) : Ev (m_back_to_walk [.int L, tw w] s) s (.tup ((chn [(red w, 1), ([], -1)]).map tm)) := by
  have hp := hL.pos
  obtain ⟨s1, e1, l1⟩ := run_need_walk w s (by omega) hw
  have n2 := newL_ok' s1 (xs := []) (by rw [size_eq]; simp)
  have g2 := get_add_same s1 (.lst [])
  have l2 : Le s1 (s1.add (.lst [])) := .add _ _
  have q2 : s1.n < (s1.add (.lst [])).n := Nat.lt_succ_self _
  generalize s1.add (.lst []) = s2 at *
  obtain ⟨env3, s3, e3, ⟨z3, rfl⟩, g3, l3, q3⟩ := forIts_inv (b := bodyF (gVar 3) b_back_to_walk_1)
    (fun k env s3 => (∃ z3, env = [some (.int L), some (tw w), some (.ref s1.n), z3]) ∧ s3.get s1.n = some (.lst ((btl w k).map tm)) ∧ Le s1 s3 ∧ s1.n < s3.n)
    (rgD 1 L) 0 [some (.int L), some (tw w), some (.ref s1.n), none] s2 ⟨⟨_, rfl⟩, g2, l2, q2⟩ (by
      rintro k x env s3 hx ⟨⟨z3, rfl⟩, g3, l3, q3⟩
      rw [Nat.zero_add] at *
      obtain ⟨hk, rfl⟩ := rgD_at hx
      have ek : (1 : Int) + (k : Int) = ((k + 1 : Nat) : Int) := by omega
      rw [ek]
      obtain ⟨s4, e4, l4⟩ := run_derivative_of ((k + 1 : Nat) : Int) w s3 (by omega) hw.nz (by omega)
      obtain ⟨s5, e5, l5⟩ := run_product_of (der ((k + 1 : Nat) : Int) w) (ltm ((k + 1 : Nat) : Int)) s4 (mz_back hz)
      have e5 : m_product_of [.tup ((der ((k + 1 : Nat) : Int) w).map tm), .tup [.tup [.tup [], .int (-1)], .tup [.tup [.int ((k + 1 : Nat) : Int)], .int 1]]] s4 = _ := e5
      have g5 := ((l4.trans l5).get _ q3).trans g3
      have hb := btl_len hz k
      have hc := chn_len (prd (der ((k + 1 : Nat) : Int) w) (ltm ((k + 1 : Nat) : Int)))
      have hm := (mz_back hz (k := ((k + 1 : Nat) : Int))).sz.1
      have x5 := extend_t s5 g5 (ys := (chn (prd (der ((k + 1 : Nat) : Int) w) (ltm ((k + 1 : Nat) : Int)))).map tm) (by rw [List.length_map, List.length_map, size_eq]; omega)
      refine ⟨[some (.int L), some (tw w), some (.ref s1.n), some (.int ((k + 1 : Nat) : Int))], s5.set s1.n (.lst ((btl w k).map tm ++ (chn (prd (der ((k + 1 : Nat) : Int) w) (ltm ((k + 1 : Nat) : Int)))).map tm)), .inl ?_, ⟨_, rfl⟩, ?_, (l3.trans (l4.trans l5)).set (Nat.le_refl _) _, Nat.lt_of_lt_of_le q3 (l4.trans l5).n⟩
      · simp only [fnB_eq, List.length_cons, List.length_nil, List.map_cons, List.map_nil, List.cons_append, List.nil_append, Nat.reduceAdd, Nat.reduceSub, List.replicate, if_true, Bool.false_eq_true, if_false, s_Cons, s_Nil, s_Ret, s_RetN, s_If, s_Asg, s_Expr, s_For, s_Par, then_nx, then_rt, st_ok', bind_ok', fnR_rt, fnR_nx, g_Var, g_Tup, gs_Cons, gs_Nil, v_Call, t_Call, v_CallK, t_CallK, a_Cons, a_Nil, v_Var, t_Var, v_C, t_C, v_Bin, t_Bin, v_Un, t_Un, v_Bi, t_Bi, v_Not, t_Not, v_And, t_And, v_Or, t_Or, v_If, t_If, v_Tup, v_Lst, v_Slc, o_Yes, o_No, toO_int, v_Meth, v_Comp, v_Chain, t_Chain, chain2_t, chain2_f, i_Seq, seqW_tup, i_Rg1, rg1W_ok, i_Rg2, rg2W_ok, goWk_its, wkS_its, wipeE_nil, wipeE_cons, List.set_cons_zero, List.set_cons_succ, List.getElem?_cons_zero, List.getElem?_cons_succ, getV_some, truth_bl, Bool.not_true, Bool.not_false, add_ii, sub_ii, ltI_ii, neg_i, ix_t, okO_some, len_tup, Int.toNat_natCast, par2_ok, bodyF_eq, turnC_none, turnC_some, isBl_bb, isnBl_bb, abs_i, int_i, eqD_ii, neD_ii, v_Chain3, t_Chain3, v_LenSet, v_Comp2, sz0, sz1, sz2, sz3, sz4, sz5, sz6, sz7, sz8, sz9, sz10, sz11, sz12, b_back_to_walk_1, isL_r _ g3, e4, e5, x5]
      · rw [get_set_same, ← List.map_append]; rfl)
  have rl : (rgD 1 L).length = L := by simp [rgD]
  rw [Nat.zero_add, rl] at g3
  have hbl := btl_len hz L
  obtain ⟨s4, e4, l4⟩ := run_chain_from (.ref s1.n) (btl w L) s3 (.inr ⟨_, rfl, q3, g3⟩) ⟨by omega, fun t ht => by have := btl_sz hz L t ht; omega⟩
  rw [btl_all hw] at e4
  have b1 : bigI 1 = true := bigI_of (by decide)
  have b2 : bigI ((L : Int) + 1) = true := bigI_of (by omega)
  have ti : ((L : Int) + 1 - 1).toNat = L := by omega
  refine ⟨s4, ?_, l1.trans (l3.trans l4)⟩
  simp only [fnB_eq, List.length_cons, List.length_nil, List.map_cons, List.map_nil, List.cons_append, List.nil_append, Nat.reduceAdd, Nat.reduceSub, List.replicate, if_true, Bool.false_eq_true, if_false, s_Cons, s_Nil, s_Ret, s_RetN, s_If, s_Asg, s_Expr, s_For, s_Par, then_nx, then_rt, st_ok', bind_ok', fnR_rt, fnR_nx, g_Var, g_Tup, gs_Cons, gs_Nil, v_Call, t_Call, v_CallK, t_CallK, a_Cons, a_Nil, v_Var, t_Var, v_C, t_C, v_Bin, t_Bin, v_Un, t_Un, v_Bi, t_Bi, v_Not, t_Not, v_And, t_And, v_Or, t_Or, v_If, t_If, v_Tup, v_Lst, v_Slc, o_Yes, o_No, toO_int, v_Meth, v_Comp, v_Chain, t_Chain, chain2_t, chain2_f, i_Seq, seqW_tup, i_Rg1, rg1W_ok, i_Rg2, rg2W_ok, goWk_its, wkS_its, wipeE_nil, wipeE_cons, List.set_cons_zero, List.set_cons_succ, List.getElem?_cons_zero, List.getElem?_cons_succ, getV_some, truth_bl, Bool.not_true, Bool.not_false, add_ii, sub_ii, ltI_ii, neg_i, ix_t, okO_some, len_tup, Int.toNat_natCast, par2_ok, bodyF_eq, turnC_none, turnC_some, isBl_bb, isnBl_bb, abs_i, int_i, eqD_ii, neD_ii, v_Chain3, t_Chain3, v_LenSet, v_Comp2, sz0, sz1, sz2, sz3, sz4, sz5, sz6, sz7, sz8, sz9, sz10, sz11, sz12, m_back_to_walk, b_back_to_walk, run_need_letters L s hL, e1, n2, b1, b2, and_self, ti, e3, e4]
end K63

-- ns8
namespace K63
open PySem Cs
theorem run_law_derivative (l : Int) (w : List Int) (s : Sto) (hl : 0 < l) (hz : w.length ≤ 400) : Ev (m__law_derivative [tw w, .int l] s) s (.tup ((der l w).map tm)) := by
  have n0 := newL_ok' s (xs := []) (by rw [size_eq]; simp)
  have g0 := get_add_same s (.lst [])
  have l0 : Le s (s.add (.lst [])) := .add _ _
  have q0 : s.n < (s.add (.lst [])).n := Nat.lt_succ_self _
  generalize s.add (.lst []) = s0 at *
  have rv : revD (tw w) s0 = .ok (.tup (w.reverse.map .int)) s0 := by rw [rev_t, List.map_reverse]
  obtain ⟨env2, s2, e2, r, z3, z4, z5, rfl, g2, l2, q2, q3⟩ := forIts_inv (b := bodyF (gVar 3) b__law_derivative_1)
    (fun k env s1 => ∃ r z3 z4 z5, env = [some (tw w), some (.int l), some (.ref r), z3, z4, z5] ∧ s1.get r = some (.lst ((dl l (w.reverse.take k).reverse).map tm)) ∧ Le s s1 ∧ s.n ≤ r ∧ r < s1.n)
    (w.reverse.map .int) 0 [some (tw w), some (.int l), some (.ref s.n), none, none, none] s0 ⟨s.n, none, none, none, rfl, g0, l0, Nat.le_refl _, q0⟩ (by
      rintro k x env s1 hx ⟨r, z3, z4, z5, rfl, g1, l1, q1, q1'⟩
      rw [Nat.zero_add] at *
      obtain ⟨n, hn, rfl⟩ := map_at hx
      have hk : k < w.reverse.length := (List.getElem?_eq_some_iff.mp hn).1
      rw [List.length_reverse] at hk
      have hs : (w.reverse.take (k + 1)).reverse = n :: (w.reverse.take k).reverse := by rw [take_snoc hn, List.reverse_append]; rfl
      have hlen : (w.reverse.take k).reverse.length ≤ w.length := by rw [List.length_reverse, List.length_take, List.length_reverse]; omega
      rw [hs]
      generalize (w.reverse.take k).reverse = u at *
      have hdl := dl_len l u
      obtain ⟨s2, e2, l2⟩ := goWk_live_enc (f := turnC (gTup 2 (gsCons (gVar 4) (gsCons (gVar 5) gsNil))) none e__law_derivative_2 [some (tw w), some (.int l), some (.ref r), some (.int n), none, none]) tm (fun t => tm (red ([n] ++ t.1), t.2)) s1 q1' g1 (by omega) fun t ht s' hl' => by
        have h1 := (dl_sz l u t ht).1
        have ad : addD (.tup [.int n]) (tw t.1) s' = .ok (tw (n :: t.1)) s' := by
          rw [add_tt, List.length_map, if_pos (by rw [size_eq]; simp; omega)]; rfl
        obtain ⟨s3, e3, l3⟩ := run_law_straight ([n] ++ t.1) s' (by rw [List.length_append]; simp; omega)
        refine ⟨s3, ?_, l3⟩
        have e3 : m__law_straight [tw (n :: t.1)] s' = .ok (tw (red (n :: t.1))) s3 := e3
        simp only [fnB_eq, List.length_cons, List.length_nil, List.map_cons, List.map_nil, List.cons_append, List.nil_append, Nat.reduceAdd, Nat.reduceSub, List.replicate, if_true, Bool.false_eq_true, if_false, s_Cons, s_Nil, s_Ret, s_RetN, s_If, s_Asg, s_Expr, s_For, s_Par, then_nx, then_rt, st_ok', bind_ok', fnR_rt, fnR_nx, g_Var, g_Tup, gs_Cons, gs_Nil, v_Call, t_Call, v_CallK, t_CallK, a_Cons, a_Nil, v_Var, t_Var, v_C, t_C, v_Bin, t_Bin, v_Un, t_Un, v_Bi, t_Bi, v_Not, t_Not, v_And, t_And, v_Or, t_Or, v_If, t_If, v_Tup, v_Lst, v_Slc, o_Yes, o_No, toO_int, v_Meth, v_Comp, v_Chain, t_Chain, chain2_t, chain2_f, i_Seq, seqW_tup, i_Rg1, rg1W_ok, i_Rg2, rg2W_ok, goWk_its, wkS_its, wipeE_nil, wipeE_cons, List.set_cons_zero, List.set_cons_succ, List.getElem?_cons_zero, List.getElem?_cons_succ, getV_some, truth_bl, Bool.not_true, Bool.not_false, add_ii, sub_ii, ltI_ii, neg_i, ix_t, okO_some, len_tup, Int.toNat_natCast, par2_ok, bodyF_eq, turnC_none, turnC_some, isBl_bb, isnBl_bb, abs_i, int_i, eqD_ii, neD_ii, v_Chain3, t_Chain3, v_LenSet, v_Comp2, sz0, sz1, sz2, sz3, sz4, sz5, sz6, sz7, sz8, sz9, sz10, sz11, sz12, e__law_derivative_2, ad, e3]
      rw [show ((dl l u).map fun t => tm (red ([n] ++ t.1), t.2)) = ((dl l u).map fun t => (red ([n] ++ t.1), t.2)).map tm by rw [List.map_map]; rfl] at e2
      obtain ⟨R, hR⟩ : ∃ R : List Tm, R = (dl l u).map fun t => (red ([n] ++ t.1), t.2) := ⟨_, rfl⟩
      have hRl : R.length ≤ 2 * u.length := by rw [hR, List.length_map]; exact hdl
      have hd : dl l (n :: u) = R ++ gen l n := by rw [hR]; rfl
      rw [← hR] at e2
      have sq := seqW_ref g1
      have n3 := newL_ok' s2 (xs := R.map tm) (by rw [List.length_map, size_eq]; omega)
      have g3 := get_add_same s2 (.lst (R.map tm))
      have l3 : Le s2 (s2.add (.lst (R.map tm))) := .add _ _
      have q3 : s2.n < (s2.add (.lst (R.map tm))).n := Nat.lt_succ_self _
      have qn : s.n ≤ s2.n := (l1.trans l2).n
      generalize s2.add (.lst (R.map tm)) = s3 at *
      have l13 := l1.trans (l2.trans l3)
      rw [hd]
      by_cases h1 : n = l
      · have h2 : ¬ n = -l := by omega
        have hg : gen l n = [([], 1)] := by unfold gen; rw [if_pos h1, if_neg h2]; rfl
        have ap := append_r _ g3 (tm ([], 1)) (by rw [List.length_map, size_eq]; omega)
        refine ⟨[some (tw w), some (.int l), some (.ref s2.n), some (.int n), z4, z5], s3.set s2.n (.lst (R.map tm ++ [tm ([], 1)])), .inl ?_, s2.n, _, _, _, rfl, ?_, l13.set qn _, qn, q3⟩
        · have ap : appendM (.ref s2.n) [.tup [.tup [], .int 1]] s3 = _ := ap
          simp only [fnB_eq, List.length_cons, List.length_nil, List.map_cons, List.map_nil, List.cons_append, List.nil_append, Nat.reduceAdd, Nat.reduceSub, List.replicate, if_true, Bool.false_eq_true, if_false, s_Cons, s_Nil, s_Ret, s_RetN, s_If, s_Asg, s_Expr, s_For, s_Par, then_nx, then_rt, st_ok', bind_ok', fnR_rt, fnR_nx, g_Var, g_Tup, gs_Cons, gs_Nil, v_Call, t_Call, v_CallK, t_CallK, a_Cons, a_Nil, v_Var, t_Var, v_C, t_C, v_Bin, t_Bin, v_Un, t_Un, v_Bi, t_Bi, v_Not, t_Not, v_And, t_And, v_Or, t_Or, v_If, t_If, v_Tup, v_Lst, v_Slc, o_Yes, o_No, toO_int, v_Meth, v_Comp, v_Chain, t_Chain, chain2_t, chain2_f, i_Seq, seqW_tup, i_Rg1, rg1W_ok, i_Rg2, rg2W_ok, goWk_its, wkS_its, wipeE_nil, wipeE_cons, List.set_cons_zero, List.set_cons_succ, List.getElem?_cons_zero, List.getElem?_cons_succ, getV_some, truth_bl, Bool.not_true, Bool.not_false, add_ii, sub_ii, ltI_ii, neg_i, ix_t, okO_some, len_tup, Int.toNat_natCast, par2_ok, bodyF_eq, turnC_none, turnC_some, isBl_bb, isnBl_bb, abs_i, int_i, eqD_ii, neD_ii, v_Chain3, t_Chain3, v_LenSet, v_Comp2, sz0, sz1, sz2, sz3, sz4, sz5, sz6, sz7, sz8, sz9, sz10, sz11, sz12, b__law_derivative_1, sq, e2, n3, beq_iff_eq.mpr h1, beq_eq_false_iff_ne.mpr h2, isL_r _ g3, ap]
        · rw [get_set_same, hg, List.map_append]; rfl
      · by_cases h2 : n = -l
        · have hg : gen l n = [([n], -1)] := by unfold gen; rw [if_neg h1, if_pos h2]; rfl
          have ap := append_r _ g3 (tm ([n], -1)) (by rw [List.length_map, size_eq]; omega)
          refine ⟨[some (tw w), some (.int l), some (.ref s2.n), some (.int n), z4, z5], s3.set s2.n (.lst (R.map tm ++ [tm ([n], -1)])), .inl ?_, s2.n, _, _, _, rfl, ?_, l13.set qn _, qn, q3⟩
          · have ap : appendM (.ref s2.n) [.tup [.tup [.int n], .int (-1)]] s3 = _ := ap
            simp only [fnB_eq, List.length_cons, List.length_nil, List.map_cons, List.map_nil, List.cons_append, List.nil_append, Nat.reduceAdd, Nat.reduceSub, List.replicate, if_true, Bool.false_eq_true, if_false, s_Cons, s_Nil, s_Ret, s_RetN, s_If, s_Asg, s_Expr, s_For, s_Par, then_nx, then_rt, st_ok', bind_ok', fnR_rt, fnR_nx, g_Var, g_Tup, gs_Cons, gs_Nil, v_Call, t_Call, v_CallK, t_CallK, a_Cons, a_Nil, v_Var, t_Var, v_C, t_C, v_Bin, t_Bin, v_Un, t_Un, v_Bi, t_Bi, v_Not, t_Not, v_And, t_And, v_Or, t_Or, v_If, t_If, v_Tup, v_Lst, v_Slc, o_Yes, o_No, toO_int, v_Meth, v_Comp, v_Chain, t_Chain, chain2_t, chain2_f, i_Seq, seqW_tup, i_Rg1, rg1W_ok, i_Rg2, rg2W_ok, goWk_its, wkS_its, wipeE_nil, wipeE_cons, List.set_cons_zero, List.set_cons_succ, List.getElem?_cons_zero, List.getElem?_cons_succ, getV_some, truth_bl, Bool.not_true, Bool.not_false, add_ii, sub_ii, ltI_ii, neg_i, ix_t, okO_some, len_tup, Int.toNat_natCast, par2_ok, bodyF_eq, turnC_none, turnC_some, isBl_bb, isnBl_bb, abs_i, int_i, eqD_ii, neD_ii, v_Chain3, t_Chain3, v_LenSet, v_Comp2, sz0, sz1, sz2, sz3, sz4, sz5, sz6, sz7, sz8, sz9, sz10, sz11, sz12, b__law_derivative_1, sq, e2, n3, beq_eq_false_iff_ne.mpr h1, beq_iff_eq.mpr h2, isL_r _ g3, ap]
          · rw [get_set_same, hg, List.map_append]; rfl
        · have hg : gen l n = [] := by unfold gen; rw [if_neg h1, if_neg h2]; rfl
          refine ⟨[some (tw w), some (.int l), some (.ref s2.n), some (.int n), z4, z5], s3, .inl ?_, s2.n, _, _, _, rfl, ?_, l13, qn, q3⟩
          · simp only [fnB_eq, List.length_cons, List.length_nil, List.map_cons, List.map_nil, List.cons_append, List.nil_append, Nat.reduceAdd, Nat.reduceSub, List.replicate, if_true, Bool.false_eq_true, if_false, s_Cons, s_Nil, s_Ret, s_RetN, s_If, s_Asg, s_Expr, s_For, s_Par, then_nx, then_rt, st_ok', bind_ok', fnR_rt, fnR_nx, g_Var, g_Tup, gs_Cons, gs_Nil, v_Call, t_Call, v_CallK, t_CallK, a_Cons, a_Nil, v_Var, t_Var, v_C, t_C, v_Bin, t_Bin, v_Un, t_Un, v_Bi, t_Bi, v_Not, t_Not, v_And, t_And, v_Or, t_Or, v_If, t_If, v_Tup, v_Lst, v_Slc, o_Yes, o_No, toO_int, v_Meth, v_Comp, v_Chain, t_Chain, chain2_t, chain2_f, i_Seq, seqW_tup, i_Rg1, rg1W_ok, i_Rg2, rg2W_ok, goWk_its, wkS_its, wipeE_nil, wipeE_cons, List.set_cons_zero, List.set_cons_succ, List.getElem?_cons_zero, List.getElem?_cons_succ, getV_some, truth_bl, Bool.not_true, Bool.not_false, add_ii, sub_ii, ltI_ii, neg_i, ix_t, okO_some, len_tup, Int.toNat_natCast, par2_ok, bodyF_eq, turnC_none, turnC_some, isBl_bb, isnBl_bb, abs_i, int_i, eqD_ii, neD_ii, v_Chain3, t_Chain3, v_LenSet, v_Comp2, sz0, sz1, sz2, sz3, sz4, sz5, sz6, sz7, sz8, sz9, sz10, sz11, sz12, b__law_derivative_1, sq, e2, n3, beq_eq_false_iff_ne.mpr h1, beq_eq_false_iff_ne.mpr h2]
          · rw [hg, List.append_nil]; exact g3)
  rw [Nat.zero_add, List.length_map, List.take_length, List.reverse_reverse] at g2
  have hdl := dl_len l w
  obtain ⟨s3, e3, l3⟩ := run_law_chain (.ref r) (dl l w) s2 (.inr ⟨_, rfl, q3, g2⟩) ⟨by omega, fun t ht => by have := (dl_sz l w t ht).1; omega⟩
  refine ⟨s3, ?_, l2.trans l3⟩
  simp only [fnB_eq, List.length_cons, List.length_nil, List.map_cons, List.map_nil, List.cons_append, List.nil_append, Nat.reduceAdd, Nat.reduceSub, List.replicate, if_true, Bool.false_eq_true, if_false, s_Cons, s_Nil, s_Ret, s_RetN, s_If, s_Asg, s_Expr, s_For, s_Par, then_nx, then_rt, st_ok', bind_ok', fnR_rt, fnR_nx, g_Var, g_Tup, gs_Cons, gs_Nil, v_Call, t_Call, v_CallK, t_CallK, a_Cons, a_Nil, v_Var, t_Var, v_C, t_C, v_Bin, t_Bin, v_Un, t_Un, v_Bi, t_Bi, v_Not, t_Not, v_And, t_And, v_Or, t_Or, v_If, t_If, v_Tup, v_Lst, v_Slc, o_Yes, o_No, toO_int, v_Meth, v_Comp, v_Chain, t_Chain, chain2_t, chain2_f, i_Seq, seqW_tup, i_Rg1, rg1W_ok, i_Rg2, rg2W_ok, goWk_its, wkS_its, wipeE_nil, wipeE_cons, List.set_cons_zero, List.set_cons_succ, List.getElem?_cons_zero, List.getElem?_cons_succ, getV_some, truth_bl, Bool.not_true, Bool.not_false, add_ii, sub_ii, ltI_ii, neg_i, ix_t, okO_some, len_tup, Int.toNat_natCast, par2_ok, bodyF_eq, turnC_none, turnC_some, isBl_bb, isnBl_bb, abs_i, int_i, eqD_ii, neD_ii, v_Chain3, t_Chain3, v_LenSet, v_Comp2, sz0, sz1, sz2, sz3, sz4, sz5, sz6, sz7, sz8, sz9, sz10, sz11, sz12, m__law_derivative, b__law_derivative, n0, rv, e2, e3]
  rfl
theorem der_Sz {k : Int} {w : List Int} (h : w.length ≤ 40) : Sz (der k w) := ⟨by have := der_len k w; omega, fun t ht => by have := der_sz h t ht; omega⟩
theorem two_Sz {w : List Int} (h : w.length ≤ 40) : Sz [(red w, 1), ([], -1)] := ⟨by simp, fun t ht => by
  simp only [List.mem_cons, List.not_mem_nil, or_false] at ht
  rcases ht with rfl | rfl
  · have := red_len w; show (red w).length ≤ 1000; omega
  · exact Nat.zero_le _⟩
theorem run_law_right (L : Nat) (w : List Int) (s : Sto) (hL : LL L) (hw : WkL L w) (hz : w.length ≤ 40) : Ev (m__law_right [.int L, tw w] s) s (.bl true) := by
  have hp := hL.pos
  obtain ⟨env1, s1, e1, ⟨z2, z3, rfl⟩, l1⟩ := forIts_inv (b := bodyF (gVar 2) b__law_right_1)
    (fun k env s1 => (∃ z2 z3, env = [some (.int L), some (tw w), z2, z3]) ∧ Le s s1)
    (rgD 1 L) 0 [some (.int L), some (tw w), none, none] s ⟨⟨_, _, rfl⟩, .refl _⟩ (by
      rintro k x env s1 hx ⟨⟨z2, z3, rfl⟩, l1⟩
      obtain ⟨hk, rfl⟩ := rgD_at hx
      have ek : (1 : Int) + (k : Int) = ((k + 1 : Nat) : Int) := by omega
      rw [ek]
      obtain ⟨s2, e2, l2⟩ := run_law_derivative ((k + 1 : Nat) : Int) w s1 (by omega) (by omega)
      obtain ⟨s3, e3, l3⟩ := run_derivative L (k + 1) w s2 hL (by omega) (by omega) hw (by omega)
      obtain ⟨s4, e4, l4⟩ := run_same_c (der ((k + 1 : Nat) : Int) w) (der_Sz hz) s3
      obtain ⟨s5, e5, l5⟩ := run_derivative L (k + 1) w s4 hL (by omega) (by omega) hw (by omega)
      obtain ⟨s6, e6, l6⟩ := run_same_c (der ((k + 1 : Nat) : Int) w) (der_Sz hz) s5
      have p1 : ∀ d1 d2 d3 : D, gPerm D.non 0 3 [2, 1, 0] [] [d1, d2, d3] = [d3, d2, d1] := fun _ _ _ => rfl
      refine ⟨[some (.int L), some (tw w), some (.int ((k + 1 : Nat) : Int)), some (.tup ((der ((k + 1 : Nat) : Int) w).map tm))], s6, .inl ?_, ⟨_, _, rfl⟩, l1.trans (l2.trans (l3.trans (l4.trans (l5.trans l6))))⟩
      simp only [fnB_eq, List.length_cons, List.length_nil, List.map_cons, List.map_nil, List.cons_append, List.nil_append, Nat.reduceAdd, Nat.reduceSub, List.replicate, if_true, Bool.false_eq_true, if_false, s_Cons, s_Nil, s_Ret, s_RetN, s_If, s_Asg, s_Expr, s_For, s_Par, then_nx, then_rt, st_ok', bind_ok', fnR_rt, fnR_nx, g_Var, g_Tup, gs_Cons, gs_Nil, v_Call, t_Call, v_CallK, t_CallK, a_Cons, a_Nil, v_Var, t_Var, v_C, t_C, v_Bin, t_Bin, v_Un, t_Un, v_Bi, t_Bi, v_Not, t_Not, v_And, t_And, v_Or, t_Or, v_If, t_If, v_Tup, v_Lst, v_Slc, o_Yes, o_No, toO_int, v_Meth, v_Comp, v_Chain, t_Chain, chain2_t, chain2_f, i_Seq, seqW_tup, i_Rg1, rg1W_ok, i_Rg2, rg2W_ok, goWk_its, wkS_its, wipeE_nil, wipeE_cons, List.set_cons_zero, List.set_cons_succ, List.getElem?_cons_zero, List.getElem?_cons_succ, getV_some, truth_bl, Bool.not_true, Bool.not_false, add_ii, sub_ii, ltI_ii, neg_i, ix_t, okO_some, len_tup, Int.toNat_natCast, par2_ok, bodyF_eq, turnC_none, turnC_some, isBl_bb, isnBl_bb, abs_i, int_i, eqD_ii, neD_ii, v_Chain3, t_Chain3, v_LenSet, v_Comp2, sz0, sz1, sz2, sz3, sz4, sz5, sz6, sz7, sz8, sz9, sz10, sz11, sz12, b__law_right_1, e2, e3, e4, p1, e5, e6])
  obtain ⟨s2, e2, l2⟩ := run_law_straight w s1 (by omega)
  have n3 := newL_ok' s2 (xs := [tm (red w, 1), tm ([], -1)]) (by rw [size_eq]; simp)
  have g3 := get_add_same s2 (.lst [tm (red w, 1), tm ([], -1)])
  have l3 : Le s2 (s2.add (.lst [tm (red w, 1), tm ([], -1)])) := .add _ _
  have q3 : s2.n < (s2.add (.lst [tm (red w, 1), tm ([], -1)])).n := Nat.lt_succ_self _
  generalize s2.add (.lst [tm (red w, 1), tm ([], -1)]) = s3 at *
  have szq := two_Sz hz
  obtain ⟨s4, e4, l4⟩ := run_law_chain (.ref s2.n) [(red w, 1), ([], -1)] s3 (.inr ⟨_, rfl, q3, g3⟩) szq
  obtain ⟨s5, e5, l5⟩ := run_back L w s4 hL hw hz
  obtain ⟨s6, e6, l6⟩ := run_same_c _ (chn_sz szq) s5
  obtain ⟨s7, e7, l7⟩ := run_back L w s6 hL hw hz
  obtain ⟨s8, e8, l8⟩ := run_same_c _ (chn_sz szq) s7
  have b1 : bigI 1 = true := bigI_of (by decide)
  have b2 : bigI ((L : Int) + 1) = true := bigI_of (by omega)
  have ti : ((L : Int) + 1 - 1).toNat = L := by omega
  have p1 : ∀ d1 d2 : D, gPerm D.non 0 2 [1, 0] [] [d1, d2] = [d2, d1] := fun _ _ => rfl
  have n3 : newL [.tup [tw (red w), .int 1], .tup [.tup [], .int (-1)]] s2 = _ := n3
  refine ⟨s8, ?_, l1.trans (l2.trans (l3.trans (l4.trans (l5.trans (l6.trans (l7.trans l8))))))⟩
  simp only [fnB_eq, List.length_cons, List.length_nil, List.map_cons, List.map_nil, List.cons_append, List.nil_append, Nat.reduceAdd, Nat.reduceSub, List.replicate, if_true, Bool.false_eq_true, if_false, s_Cons, s_Nil, s_Ret, s_RetN, s_If, s_Asg, s_Expr, s_For, s_Par, then_nx, then_rt, st_ok', bind_ok', fnR_rt, fnR_nx, g_Var, g_Tup, gs_Cons, gs_Nil, v_Call, t_Call, v_CallK, t_CallK, a_Cons, a_Nil, v_Var, t_Var, v_C, t_C, v_Bin, t_Bin, v_Un, t_Un, v_Bi, t_Bi, v_Not, t_Not, v_And, t_And, v_Or, t_Or, v_If, t_If, v_Tup, v_Lst, v_Slc, o_Yes, o_No, toO_int, v_Meth, v_Comp, v_Chain, t_Chain, chain2_t, chain2_f, i_Seq, seqW_tup, i_Rg1, rg1W_ok, i_Rg2, rg2W_ok, goWk_its, wkS_its, wipeE_nil, wipeE_cons, List.set_cons_zero, List.set_cons_succ, List.getElem?_cons_zero, List.getElem?_cons_succ, getV_some, truth_bl, Bool.not_true, Bool.not_false, add_ii, sub_ii, ltI_ii, neg_i, ix_t, okO_some, len_tup, Int.toNat_natCast, par2_ok, bodyF_eq, turnC_none, turnC_some, isBl_bb, isnBl_bb, abs_i, int_i, eqD_ii, neD_ii, v_Chain3, t_Chain3, v_LenSet, v_Comp2, sz0, sz1, sz2, sz3, sz4, sz5, sz6, sz7, sz8, sz9, sz10, sz11, sz12, m__law_right, b__law_right, b1, b2, and_self, ti, e1, e2, n3, e4, e5, e6, p1, e7, e8]
end K63

-- ns8
namespace K63
open PySem Cs
theorem dl_wk {L k : Int} : ∀ {w : List Int}, WkL L w → ∀ t ∈ dl k w, WkL L t.1
  | [], _ => fun t ht => nomatch ht
  | x :: r, h => fun t ht => by
    have hx : WkL L [x] := fun y hy => by
      have : y = x := by simpa using hy
      subst this; exact h _ List.mem_cons_self
    unfold dl at ht
    rcases List.mem_append.mp ht with ht | ht
    · obtain ⟨u, hu, rfl⟩ := List.mem_map.mp ht
      have h1 := dl_wk (fun y hy => h y (List.mem_cons_of_mem _ hy)) u hu
      exact WkL.red fun y hy => (List.mem_append.mp hy).elim (hx y) (h1 y)
    · unfold gen at ht
      rcases List.mem_append.mp ht with ht | ht
      · split at ht
        · have : t = ([], 1) := by simpa using ht
          subst this; exact fun _ h => nomatch h
        · exact nomatch ht
      · split at ht
        · have : t = ([x], -1) := by simpa using ht
          subst this; exact hx
        · exact nomatch ht
theorem chn_nil (L : Int) : Chn L [] := ⟨⟨.nil, fun _ h => nomatch h⟩, fun _ h => (nomatch h), by simp⟩
theorem chn_one (L : Int) {w : List Int} (h : WkL L w) (hr : red w = w) (hl : w.length ≤ 500) : Chn L [(w, 1)] := ⟨⟨List.pairwise_singleton _ _, fun t ht => by
    have : t = (w, 1) := by simpa using ht
    subst this; show (1 : Int) ≠ 0; decide⟩, fun t ht => by
    have : t = (w, 1) := by simpa using ht
    subst this; exact ⟨h, hr⟩, by simp, fun t ht => by
    have : t = (w, 1) := by simpa using ht
    subst this; exact hl⟩
/-- two chains that the law multiplies -/
structure Ok2 (L : Nat) (p : List Tm × List Tm) : Prop where
  a : Chn L p.1
  b : Chn L p.2
  m : Mz p.1 p.2
  s : Sz (prd p.1 p.2)
theorem Dr.w {L : Int} {A : List Tm} (h : Dr L A) : ∀ t ∈ A, t.1.length ≤ 400 ∧ t.2.natAbs < 2 ^ 200 := fun t ht => ⟨by have := h.wl t ht; omega, Nat.lt_trans (h.nb t ht) (by decide)⟩
theorem ok_dd {L : Nat} {A B : List Tm} (hA : Dr L A) (hB : Dr L B) : Ok2 L (A, B) := by
  have m : Mz A B := ⟨Nat.le_trans (Nat.mul_le_mul hA.len hB.len) (by decide), by have := hB.len; omega, hA.w, hB.w⟩
  exact ⟨hA.ch, hB.ch, m, m.sz⟩
theorem ok_d0 {L : Nat} {A : List Tm} (hA : Dr L A) : Ok2 L (A, []) := by
  have m : Mz A [] := ⟨by simp, by simp, hA.w, fun _ h => nomatch h⟩
  exact ⟨hA.ch, chn_nil _, m, m.sz⟩
theorem ok_0d {L : Nat} {A : List Tm} (hA : Dr L A) : Ok2 L ([], A) := by
  have m : Mz [] A := ⟨by simp, by have := hA.len; omega, (fun _ h => nomatch h), hA.w⟩
  exact ⟨chn_nil _, hA.ch, m, m.sz⟩
theorem ok_d1 {L : Nat} {A : List Tm} (hA : Dr L A) : Ok2 L (A, [([], 1)]) := by
  have m : Mz A [([], 1)] := ⟨by have := hA.len; simp; omega, by simp, hA.w, fun t h => by
    have : t = ([], 1) := by simpa using h
    subst this; exact ⟨Nat.zero_le _, by show (1 : Int).natAbs < 2 ^ 200; decide⟩⟩
  exact ⟨hA.ch, chn_one _ (fun _ h => nomatch h) rfl (Nat.zero_le _), m, m.sz⟩
abbrev enp (p : List Tm × List Tm) : D := .tup [.tup (p.1.map tm), .tup (p.2.map tm)]
/-- both products are the same -/
theorem run_both (L : Nat) (p : List Tm × List Tm) (s : Sto) (hL : LL L) (h : Ok2 L p) :
    ∃ s1 s2 s3, m_product [.int L, .tup (p.1.map tm), .tup (p.2.map tm)] s = .ok (.tup ((chn (prd p.1 p.2)).map tm)) s1 ∧ m__law_product [.tup (p.1.map tm), .tup (p.2.map tm)] s1 = .ok (.tup ((chn (prd p.1 p.2)).map tm)) s2 ∧
      m__law_same [.tup ((chn (prd p.1 p.2)).map tm), .tup ((chn (prd p.1 p.2)).map tm)] s2 = .ok (.bl true) s3 ∧ Le s s3 := by
  obtain ⟨s1, e1, l1⟩ := run_product L p.1 p.2 s hL h.a h.b h.m
  obtain ⟨s2, e2, l2⟩ := run__law_product p.1 p.2 s1 h.m
  obtain ⟨s3, e3, l3⟩ := run_same_c _ (chn_sz h.s) s2
  exact ⟨s1, s2, s3, e1, e2, e3, l1.trans (l2.trans l3)⟩
def kt (t : Tm) : PyData := .tuple [.tuple (t.1.map .int), .int t.2]
theorem pyd_tm (s : Sto) (k : Nat) (t : Tm) : pyd s (k + 2) (tm t) = some (kt t) := by
  show (mapO (pyd s (k + 1)) [tw t.1, .int t.2]).map PyData.tuple = _
  unfold mapO
  rw [pyd_tw]
  unfold mapO
  rfl
theorem mapO_tm (s : Sto) (k : Nat) : ∀ ts : List Tm, mapO (pyd s (k + 2)) (ts.map tm) = some (ts.map kt)
  | [] => rfl
  | t :: ts => by
    rw [List.map_cons]
    unfold mapO
    rw [pyd_tm, mapO_tm s k ts]
    rfl
theorem kt_self : ∀ ts : List Tm, PyData.eqvAll (ts.map kt) (ts.map kt) = true
  | [] => by simp [PyData.eqvAll]
  | t :: ts => by
    rw [List.map_cons]
    unfold PyData.eqvAll
    rw [kt_self ts]
    have : PyData.eqvAll (t.1.map .int) (t.1.map .int) = true := by rw [eqv_ints]; simp
    simp [kt, PyData.eqv, PyData.eqvAll, this]
theorem ne_self (A : List Tm) (s : Sto) : neD (.tup (A.map tm)) (.tup (A.map tm)) s = .ok (.bl false) s := by
  have e1 : pyd s 12 (.tup (A.map tm)) = some (.tuple (A.map kt)) := by
    show (mapO (pyd s 11) (A.map tm)).map PyData.tuple = _
    rw [mapO_tm]; rfl
  unfold neD
  rw [e1]
  have : PyData.eqv (.tuple (A.map kt)) (.tuple (A.map kt)) = true := by
    rw [show PyData.eqv (.tuple (A.map kt)) (.tuple (A.map kt)) = PyData.eqvAll (A.map kt) (A.map kt) by simp [PyData.eqv]]
    exact kt_self A
  show R.ok (D.bl (!PyData.eqv _ _)) s = _
  rw [this]
  rfl
def rest_2 : EvS :=
  (sCons (sFor (gVar 10) (iSeq (xTup (aCons (xVar 8) (aCons (xVar 9) (aCons (xBin addD (xVar 8) (xVar 9)) (aCons (xTup aNil) aNil)))))) b_law_3)
  (sCons (sPar 11 12 (aCons (xBin addD (xC (.int 1)) (xCall m__law_take (aCons (xVar 2) (aCons (xVar 3) aNil)))) (aCons (xTup (aCons (xTup (aCons (xCall m__law_straight (aCons (xVar 8) aNil)) (aCons (xC (.int 1)) aNil))) aNil)) aNil)))
  (sCons (sAsg (gVar 13) (xCall m_product (aCons (xVar 3) (aCons (xVar 12) (aCons (xCall m_derivative (aCons (xVar 3) (aCons (xVar 9) (aCons (xVar 11) aNil)))) aNil)))))
  (sCons (sIf (xBin neD (xCall m_added (aCons (xVar 3) (aCons (xCall m_derivative (aCons (xVar 3) (aCons (xVar 8) (aCons (xVar 11) aNil)))) (aCons (xVar 13) aNil)))) (xCall m_derivative (aCons (xVar 3) (aCons (xBin addD (xVar 8) (xVar 9)) (aCons (xVar 11) aNil))))) (sCons (sRet (xC (.bl false)))
  sNil) sNil)
  sNil))))
theorem law_1_eq : b_law_1 =
  (sCons (sAsg (gVar 2) (xCall m__law_well (aCons (xVar 0) (aCons (xVar 1) aNil))))
  (sCons (sAsg (gVar 3) (xBin addD (xC (.int 1)) (xCall m__law_take (aCons (xVar 2) (aCons (xC (.int 4)) aNil)))))
  (sCons (sPar 4 5 (aCons (xCall m__law_drawn_chain (aCons (xVar 2) (aCons (xVar 3) (aCons (xC (.int 5)) (aCons (xC (.int 4)) aNil))))) (aCons (xCall m__law_drawn_chain (aCons (xVar 2) (aCons (xVar 3) (aCons (xC (.int 5)) (aCons (xC (.int 4)) aNil))))) aNil)))
  (sCons (sFor (gTup 2 (gsCons (gVar 6) (gsCons (gVar 7) gsNil))) (iSeq (xTup (aCons (xTup (aCons (xVar 4) (aCons (xVar 5) aNil))) (aCons (xTup (aCons (xVar 5) (aCons (xVar 4) aNil))) (aCons (xTup (aCons (xVar 4) (aCons (xTup aNil) aNil))) (aCons (xTup (aCons (xTup aNil) (aCons (xVar 4) aNil))) (aCons (xTup (aCons (xVar 4) (aCons (xTup (aCons (xTup (aCons (xTup aNil) (aCons (xC (.int 1)) aNil))) aNil)) aNil))) aNil))))))) b_law_2)
  (sCons (sIf (xNot (xCall m__law_same (aCons (xCallK m_product 0 3 [2, 1, 0] aNil (aCons (xVar 5) (aCons (xVar 4) (aCons (xVar 3) aNil)))) (aCons (xCall m__law_product (aCons (xVar 4) (aCons (xVar 5) aNil))) aNil)))) (sCons (sRet (xC (.bl false)))
  sNil) sNil)
  (sCons (sPar 8 9 (aCons (xCall m__law_walk (aCons (xVar 2) (aCons (xVar 3) (aCons (xCall m__law_take (aCons (xVar 2) (aCons (xC (.int 17)) aNil))) aNil)))) (aCons (xCall m__law_walk (aCons (xVar 2) (aCons (xVar 3) (aCons (xCall m__law_take (aCons (xVar 2) (aCons (xC (.int 17)) aNil))) aNil)))) aNil)))
  rest_2)))))) := rfl

/-- what is left when the walks are drawn -/
theorem run_rest2 (j L c : Nat) (A B : List Tm) (u w : List Int) (z0 z1 z6 z7 z10 z11 z12 z13 : Option D) (s : Sto) (h : Well s j c) (hL : LL L) (hc : c < 2 ^ 50) (hu : WkL L u) (hw : WkL L w) (hul : u.length ≤ 16) (hwl : w.length ≤ 16) :
    ∃ z10' z11' z12' z13' s', rest_2 [z0, z1, some (.ref j), some (.int L), some (.tup (A.map tm)), some (.tup (B.map tm)), z6, z7, some (tw u), some (tw w), z10, z11, z12, z13] s = .nx [z0, z1, some (.ref j), some (.int L), some (.tup (A.map tm)), some (.tup (B.map tm)), z6, z7, some (tw u), some (tw w), z10', z11', z12', z13'] s' := by
  have hp := hL.pos
  have huw : WkL L (u ++ w) := fun x hx => (List.mem_append.mp hx).elim (hu x) (hw x)
  have auw : addD (tw u) (tw w) s = .ok (tw (u ++ w)) s := by
    rw [add_tt, List.length_map, List.length_map, if_pos (by rw [size_eq]; omega), ← List.map_append]
  obtain ⟨env1, s1, e1, ⟨z, rfl⟩, l1⟩ := forIts_inv (b := bodyF (gVar 10) b_law_3)
    (fun k env s1 => (∃ z, env = [z0, z1, some (.ref j), some (.int L), some (.tup (A.map tm)), some (.tup (B.map tm)), z6, z7, some (tw u), some (tw w), z, z11, z12, z13]) ∧ Le s s1)
    ([u, w, u ++ w, []].map tw) 0 [z0, z1, some (.ref j), some (.int L), some (.tup (A.map tm)), some (.tup (B.map tm)), z6, z7, some (tw u), some (tw w), z10, z11, z12, z13] s ⟨⟨_, rfl⟩, .refl _⟩ (by
      rintro k x env s1 hx ⟨⟨z, rfl⟩, l1⟩
      obtain ⟨v, hv, rfl⟩ := get_map hx
      have hv := List.mem_of_getElem? hv
      have hvk : WkL L v ∧ v.length ≤ 40 := by
        simp only [List.mem_cons, List.not_mem_nil, or_false] at hv
        rcases hv with rfl | rfl | rfl | rfl
        · exact ⟨hu, by omega⟩
        · exact ⟨hw, by omega⟩
        · exact ⟨huw, by rw [List.length_append]; omega⟩
        · exact ⟨(fun _ h => nomatch h), Nat.zero_le _⟩
      obtain ⟨s2, e2, l2⟩ := run_law_right L v s1 hL hvk.1 hvk.2
      exact ⟨_, s2, .inl (by simp only [fnB_eq, List.length_cons, List.length_nil, List.map_cons, List.map_nil, List.cons_append, List.nil_append, Nat.reduceAdd, Nat.reduceSub, List.replicate, if_true, Bool.false_eq_true, if_false, s_Cons, s_Nil, s_Ret, s_RetN, s_If, s_Asg, s_Expr, s_For, s_Par, then_nx, then_rt, st_ok', bind_ok', fnR_rt, fnR_nx, g_Var, g_Tup, gs_Cons, gs_Nil, v_Call, t_Call, v_CallK, t_CallK, a_Cons, a_Nil, v_Var, t_Var, v_C, t_C, v_Bin, t_Bin, v_Un, t_Un, v_Bi, t_Bi, v_Not, t_Not, v_And, t_And, v_Or, t_Or, v_If, t_If, v_Tup, v_Lst, v_Slc, o_Yes, o_No, toO_int, v_Meth, v_Comp, v_Chain, t_Chain, chain2_t, chain2_f, i_Seq, seqW_tup, i_Rg1, rg1W_ok, i_Rg2, rg2W_ok, goWk_its, wkS_its, wipeE_nil, wipeE_cons, List.set_cons_zero, List.set_cons_succ, List.getElem?_cons_zero, List.getElem?_cons_succ, getV_some, truth_bl, Bool.not_true, Bool.not_false, add_ii, sub_ii, ltI_ii, neg_i, ix_t, okO_some, len_tup, Int.toNat_natCast, par2_ok, bodyF_eq, turnC_none, turnC_some, isBl_bb, isnBl_bb, abs_i, int_i, eqD_ii, neD_ii, v_Chain3, t_Chain3, v_LenSet, v_Comp2, sz0, sz1, sz2, sz3, sz4, sz5, sz6, sz7, sz8, sz9, sz10, sz11, sz12, b_law_3, e2]; rfl), ⟨_, rfl⟩, l1.trans l2⟩)
  have w1 := h.le l1
  obtain ⟨d2, s2, e2, a2, b2, w2, l2⟩ := run_law_take j _ (L : Int) s1 w1 (by omega) (by omega) (by omega)
  obtain ⟨l, rfl⟩ : ∃ l : Nat, d2 = (l : Int) := ⟨d2.toNat, by omega⟩
  have el : (1 : Int) + (l : Int) = ((l + 1 : Nat) : Int) := by omega
  obtain ⟨s3, e3, l3⟩ := run_law_straight u s2 (by omega)
  obtain ⟨s4, e4, l4⟩ := run_derivative L (l + 1) w s3 hL (by omega) (by omega) hw (by omega)
  have hrl := red_len u
  have dw := der_sz (k := ((l + 1 : Nat) : Int)) hwl
  have du := der_sz (k := ((l + 1 : Nat) : Int)) hul
  have dwl := der_len ((l + 1 : Nat) : Int) w
  have dul := der_len ((l + 1 : Nat) : Int) u
  have dwn := der_rd ((l + 1 : Nat) : Int) hw.nz
  have dch : ∀ {v : List Int}, WkL L v → v.length ≤ 40 → Chn (L : Int) (der ((l + 1 : Nat) : Int) v) := fun {v} hv hvl => by
    have hmem : ∀ t ∈ dl ((l + 1 : Nat) : Int) v, WkL (L : Int) t.1 := dl_wk hv
    exact chn_chn (fun t ht => ⟨hmem t ht, (dl_rd _ hv.nz t ht).2, by have := (dl_sz _ v t ht).1; omega⟩) (by have := dl_len ((l + 1 : Nat) : Int) v; omega)
  have c1 := chn_one (L : Int) (w := red u) hu.red (red_red u) (by omega)
  have m1 : Mz [(red u, 1)] (der ((l + 1 : Nat) : Int) w) := ⟨by rw [List.length_singleton]; omega, by omega, fun t ht => by
    have : t = (red u, 1) := by simpa using ht
    subst this; exact ⟨by show (red u).length ≤ 400; omega, by show (1 : Int).natAbs < 2 ^ 200; decide⟩, fun t ht => by
    have := dw t ht
    exact ⟨by omega, Nat.lt_of_le_of_lt this.2 (by decide)⟩⟩
  obtain ⟨s5, e5, l5⟩ := run_product L [(red u, 1)] (der ((l + 1 : Nat) : Int) w) s4 hL c1 (dch hw (by omega)) m1
  have e5 : m_product [.int L, .tup [.tup [tw (red u), .int 1]], .tup ((der ((l + 1 : Nat) : Int) w).map tm)] s4 = _ := e5
  obtain ⟨s6, e6, l6⟩ := run_derivative L (l + 1) u s5 hL (by omega) (by omega) hu (by omega)
  have c2 : Chn (L : Int) (chn (prd [(red u, 1)] (der ((l + 1 : Nat) : Int) w))) := chn_chn (fun t ht => by
    obtain ⟨a, ha, ht⟩ := List.mem_flatMap.mp ht
    obtain ⟨b, hb, rfl⟩ := List.mem_map.mp ht
    have : a = (red u, 1) := by simpa using ha
    subst this
    have hb2 := (dch hw (by omega)).wk b hb
    have hb3 := (dw b hb).1
    have h3 := red_len (red u ++ b.1)
    rw [List.length_append] at h3
    refine ⟨WkL.red fun x hx => (List.mem_append.mp hx).elim (hu.red x) (hb2.1 x), red_red _, ?_⟩
    show (red (red u ++ b.1)).length ≤ 500
    omega) (by rw [prd_len, List.length_singleton]; omega)
  obtain ⟨s7, e7, l7⟩ := run_added L (der ((l + 1 : Nat) : Int) u) _ s6 hL (dch hu (by omega)) c2
  rw [der_app _ hu.nz hw.nz] at e7
  have auw7 : addD (tw u) (tw w) s7 = .ok (tw (u ++ w)) s7 := by
    rw [add_tt, List.length_map, List.length_map, if_pos (by rw [size_eq]; omega), ← List.map_append]
  obtain ⟨s8, e8, l8⟩ := run_derivative L (l + 1) (u ++ w) s7 hL (by omega) (by omega) huw (by rw [List.length_append]; omega)
  have ne := ne_self (der ((l + 1 : Nat) : Int) (u ++ w)) s8
  refine ⟨z, some (.int ((l + 1 : Nat) : Int)), some (.tup [tm (red u, 1)]), some (.tup ((chn (prd [(red u, 1)] (der ((l + 1 : Nat) : Int) w))).map tm)), s8, ?_⟩
  have e1 : forIts (bodyF (gVar 10) b_law_3) [tw u, tw w, tw (u ++ w), .tup []] [z0, z1, some (.ref j), some (.int L), some (.tup (A.map tm)), some (.tup (B.map tm)), z6, z7, some (tw u), some (tw w), z10, z11, z12, z13] s = _ := e1
  simp only [fnB_eq, List.length_cons, List.length_nil, List.map_cons, List.map_nil, List.cons_append, List.nil_append, Nat.reduceAdd, Nat.reduceSub, List.replicate, if_true, Bool.false_eq_true, if_false, s_Cons, s_Nil, s_Ret, s_RetN, s_If, s_Asg, s_Expr, s_For, s_Par, then_nx, then_rt, st_ok', bind_ok', fnR_rt, fnR_nx, g_Var, g_Tup, gs_Cons, gs_Nil, v_Call, t_Call, v_CallK, t_CallK, a_Cons, a_Nil, v_Var, t_Var, v_C, t_C, v_Bin, t_Bin, v_Un, t_Un, v_Bi, t_Bi, v_Not, t_Not, v_And, t_And, v_Or, t_Or, v_If, t_If, v_Tup, v_Lst, v_Slc, o_Yes, o_No, toO_int, v_Meth, v_Comp, v_Chain, t_Chain, chain2_t, chain2_f, i_Seq, seqW_tup, i_Rg1, rg1W_ok, i_Rg2, rg2W_ok, goWk_its, wkS_its, wipeE_nil, wipeE_cons, List.set_cons_zero, List.set_cons_succ, List.getElem?_cons_zero, List.getElem?_cons_succ, getV_some, truth_bl, Bool.not_true, Bool.not_false, add_ii, sub_ii, ltI_ii, neg_i, ix_t, okO_some, len_tup, Int.toNat_natCast, par2_ok, bodyF_eq, turnC_none, turnC_some, isBl_bb, isnBl_bb, abs_i, int_i, eqD_ii, neD_ii, v_Chain3, t_Chain3, v_LenSet, v_Comp2, sz0, sz1, sz2, sz3, sz4, sz5, sz6, sz7, sz8, sz9, sz10, sz11, sz12, rest_2, auw, e1, e2, el, e3, e4, e5, e6, e7, auw7, e8, ne]
theorem run_turn (ns : List Int) (i : Nat) (s : Sto) (hn : ns.length ≤ 63) (hi : i ≤ 4) (z : List (Option D)) (hz : z.length = 12) :
    ∃ z' s', b_law_1 (some (.fix (ns.map .int)) :: some (.int i) :: z) s = .nx (some (.fix (ns.map .int)) :: some (.int i) :: z') s' ∧ z'.length = 12 := by
  match z, hz with
  | [z2, z3, z4, z5, z6, z7, z8, z9, z10, z11, z12, z13], _ =>
  obtain ⟨j, s1, e1, w1, l1⟩ := run_law_well ns i s hn hi
  obtain ⟨d2, s2, e2, a2, b2, w2, l2⟩ := run_law_take j _ 4 s1 w1 (by omega) (by omega) (by omega)
  obtain ⟨L, hLd, hL⟩ : ∃ L : Nat, 1 + d2 = (L : Int) ∧ LL L := ⟨(1 + d2).toNat, by omega, by unfold LL; omega⟩
  have hp := hL.pos
  obtain ⟨A, s3, e3, hA, w3, l3⟩ := run_law_drawn_chain j _ L s2 w2 hL (by omega)
  obtain ⟨B, s4, e4, hB, w4, l4⟩ := run_law_drawn_chain j _ L s3 w3 hL (by omega)
  have ops : ∀ p ∈ [(A, B), (B, A), (A, []), ([], A), (A, [(([] : List Int), (1 : Int))])], Ok2 L p := fun p hp => by
    simp only [List.mem_cons, List.not_mem_nil, or_false] at hp
    rcases hp with rfl | rfl | rfl | rfl | rfl
    · exact ok_dd hA hB
    · exact ok_dd hB hA
    · exact ok_d0 hA
    · exact ok_0d hA
    · exact ok_d1 hA
  obtain ⟨env5, s5, e5, ⟨y6, y7, rfl⟩, l5⟩ := forIts_inv (b := bodyF (gTup 2 (gsCons (gVar 6) (gsCons (gVar 7) gsNil))) b_law_2)
    (fun k env s1 => (∃ z6 z7, env = [some (.fix (ns.map .int)), some (.int i), some (.ref j), some (.int L), some (.tup (A.map tm)), some (.tup (B.map tm)), z6, z7, z8, z9, z10, z11, z12, z13]) ∧ Le s4 s1)
    ([(A, B), (B, A), (A, []), ([], A), (A, [(([] : List Int), (1 : Int))])].map enp) 0 [some (.fix (ns.map .int)), some (.int i), some (.ref j), some (.int L), some (.tup (A.map tm)), some (.tup (B.map tm)), z6, z7, z8, z9, z10, z11, z12, z13] s4 ⟨⟨_, _, rfl⟩, .refl _⟩ (by
      rintro k x env s5 hx ⟨⟨z6, z7, rfl⟩, l5⟩
      obtain ⟨p, hp, rfl⟩ := get_map hx
      have ok := ops p (List.mem_of_getElem? hp)
      obtain ⟨s6, s7, s8, e6, e7, e8, l8⟩ := run_both L p s5 hL ok
      exact ⟨_, s8, .inl (by simp only [fnB_eq, List.length_cons, List.length_nil, List.map_cons, List.map_nil, List.cons_append, List.nil_append, Nat.reduceAdd, Nat.reduceSub, List.replicate, if_true, Bool.false_eq_true, if_false, s_Cons, s_Nil, s_Ret, s_RetN, s_If, s_Asg, s_Expr, s_For, s_Par, then_nx, then_rt, st_ok', bind_ok', fnR_rt, fnR_nx, g_Var, g_Tup, gs_Cons, gs_Nil, v_Call, t_Call, v_CallK, t_CallK, a_Cons, a_Nil, v_Var, t_Var, v_C, t_C, v_Bin, t_Bin, v_Un, t_Un, v_Bi, t_Bi, v_Not, t_Not, v_And, t_And, v_Or, t_Or, v_If, t_If, v_Tup, v_Lst, v_Slc, o_Yes, o_No, toO_int, v_Meth, v_Comp, v_Chain, t_Chain, chain2_t, chain2_f, i_Seq, seqW_tup, i_Rg1, rg1W_ok, i_Rg2, rg2W_ok, goWk_its, wkS_its, wipeE_nil, wipeE_cons, List.set_cons_zero, List.set_cons_succ, List.getElem?_cons_zero, List.getElem?_cons_succ, getV_some, truth_bl, Bool.not_true, Bool.not_false, add_ii, sub_ii, ltI_ii, neg_i, ix_t, okO_some, len_tup, Int.toNat_natCast, par2_ok, bodyF_eq, turnC_none, turnC_some, isBl_bb, isnBl_bb, abs_i, int_i, eqD_ii, neD_ii, v_Chain3, t_Chain3, v_LenSet, v_Comp2, sz0, sz1, sz2, sz3, sz4, sz5, sz6, sz7, sz8, sz9, sz10, sz11, sz12, b_law_2, e6, e7, e8]; rfl), ⟨_, _, rfl⟩, l5.trans l8⟩)
  have e5 : forIts (bodyF (gTup 2 (gsCons (gVar 6) (gsCons (gVar 7) gsNil))) b_law_2) [.tup [.tup (A.map tm), .tup (B.map tm)], .tup [.tup (B.map tm), .tup (A.map tm)], .tup [.tup (A.map tm), .tup []], .tup [.tup [], .tup (A.map tm)], .tup [.tup (A.map tm), .tup [.tup [.tup [], .int 1]]]] _ s4 = _ := e5
  obtain ⟨s6, s7, s8, e6, e7, e8, l8⟩ := run_both L (A, B) s5 hL (ok_dd hA hB)
  have e6 : m_product [.int L, .tup (A.map tm), .tup (B.map tm)] s5 = _ := e6
  have e7 : m__law_product [.tup (A.map tm), .tup (B.map tm)] s6 = _ := e7
  have p1 : ∀ d1 d2 d3 : D, gPerm D.non 0 3 [2, 1, 0] [] [d1, d2, d3] = [d3, d2, d1] := fun _ _ _ => rfl
  have w8 := w4.le (l5.trans l8)
  obtain ⟨d9, s9, e9, a9, b9, w9, l9⟩ := run_law_take j _ 17 s8 w8 (by omega) (by omega) (by omega)
  obtain ⟨M, rfl⟩ : ∃ M : Nat, d9 = (M : Int) := ⟨d9.toNat, by omega⟩
  obtain ⟨u, s10, e10, hu, hul, w10, l10⟩ := run_law_walk j _ L M s9 w9 hL (by omega) (by omega)
  obtain ⟨d11, s11, e11, a11, b11, w11, l11⟩ := run_law_take j _ 17 s10 w10 (by omega) (by omega) (by omega)
  obtain ⟨N, rfl⟩ : ∃ M : Nat, d11 = (M : Int) := ⟨d11.toNat, by omega⟩
  obtain ⟨w, s12, e12, hw, hwl, w12, l12⟩ := run_law_walk j _ L N s11 w11 hL (by omega) (by omega)
  obtain ⟨y10, y11, y12, y13, s13, e13⟩ := run_rest2 j L _ A B u w (some (.fix (ns.map .int))) (some (.int i)) y6 y7 z10 z11 z12 z13 s12 w12 hL (by omega) hu hw (by omega) (by omega)
  refine ⟨[some (.ref j), some (.int L), some (.tup (A.map tm)), some (.tup (B.map tm)), y6, y7, some (tw u), some (tw w), y10, y11, y12, y13], s13, ?_, rfl⟩
  rw [law_1_eq]
  simp only [fnB_eq, List.length_cons, List.length_nil, List.map_cons, List.map_nil, List.cons_append, List.nil_append, Nat.reduceAdd, Nat.reduceSub, List.replicate, if_true, Bool.false_eq_true, if_false, s_Cons, s_Nil, s_Ret, s_RetN, s_If, s_Asg, s_Expr, s_For, s_Par, then_nx, then_rt, st_ok', bind_ok', fnR_rt, fnR_nx, g_Var, g_Tup, gs_Cons, gs_Nil, v_Call, t_Call, v_CallK, t_CallK, a_Cons, a_Nil, v_Var, t_Var, v_C, t_C, v_Bin, t_Bin, v_Un, t_Un, v_Bi, t_Bi, v_Not, t_Not, v_And, t_And, v_Or, t_Or, v_If, t_If, v_Tup, v_Lst, v_Slc, o_Yes, o_No, toO_int, v_Meth, v_Comp, v_Chain, t_Chain, chain2_t, chain2_f, i_Seq, seqW_tup, i_Rg1, rg1W_ok, i_Rg2, rg2W_ok, goWk_its, wkS_its, wipeE_nil, wipeE_cons, List.set_cons_zero, List.set_cons_succ, List.getElem?_cons_zero, List.getElem?_cons_succ, getV_some, truth_bl, Bool.not_true, Bool.not_false, add_ii, sub_ii, ltI_ii, neg_i, ix_t, okO_some, len_tup, Int.toNat_natCast, par2_ok, bodyF_eq, turnC_none, turnC_some, isBl_bb, isnBl_bb, abs_i, int_i, eqD_ii, neD_ii, v_Chain3, t_Chain3, v_LenSet, v_Comp2, sz0, sz1, sz2, sz3, sz4, sz5, sz6, sz7, sz8, sz9, sz10, sz11, sz12, e1, e2, hLd, e3, e4, e5, p1, e6, e7, e8, e9, e10, e11, e12, e13]
theorem law_true (ns : List Int) (hn : ns.length ≤ 63) : ∃ s', m_law [.fix (ns.map .int)] Sto.new = .ok (.bl true) s' := by
  obtain ⟨m, hm, em⟩ : ∃ m : Nat, m ≤ 4 ∧ ∀ s, (max2B [.int 1, .int (if (ns.length : Int) < 4 then (ns.length : Int) else 4)] s) = .ok (.int (m : Int)) s := by
    refine ⟨max 1 (min 4 ns.length), by omega, fun s => ?_⟩
    rw [max2_ii]
    congr 2
    omega
  refine Exists.elim (forIts_inv (b := bodyF (gVar 1) b_law_1)
    (fun k env s' => ∃ z1 z, env = some (.fix (ns.map .int)) :: z1 :: z ∧ z.length = 12)
    (rgD 0 m) 0 [some (.fix (ns.map .int)), none, none, none, none, none, none, none, none, none, none, none, none, none] Sto.new ⟨none, _, rfl, rfl⟩ ?step) ?rest
  case rest =>
    rintro env ⟨s', e, z1, z, rfl, hz⟩
    have b1 : bigI (m : Int) = true := bigI_of (by omega)
    refine ⟨s', ?_⟩
    simp only [fnB_eq, List.length_cons, List.length_nil, List.map_cons, List.map_nil, List.cons_append, List.nil_append, Nat.reduceAdd, Nat.reduceSub, List.replicate, if_true, Bool.false_eq_true, if_false, s_Cons, s_Nil, s_Ret, s_RetN, s_If, s_Asg, s_Expr, s_For, s_Par, then_nx, then_rt, st_ok', bind_ok', fnR_rt, fnR_nx, g_Var, g_Tup, gs_Cons, gs_Nil, v_Call, t_Call, v_CallK, t_CallK, a_Cons, a_Nil, v_Var, t_Var, v_C, t_C, v_Bin, t_Bin, v_Un, t_Un, v_Bi, t_Bi, v_Not, t_Not, v_And, t_And, v_Or, t_Or, v_If, t_If, v_Tup, v_Lst, v_Slc, o_Yes, o_No, toO_int, v_Meth, v_Comp, v_Chain, t_Chain, chain2_t, chain2_f, i_Seq, seqW_tup, i_Rg1, rg1W_ok, i_Rg2, rg2W_ok, goWk_its, wkS_its, wipeE_nil, wipeE_cons, List.set_cons_zero, List.set_cons_succ, List.getElem?_cons_zero, List.getElem?_cons_succ, getV_some, truth_bl, Bool.not_true, Bool.not_false, add_ii, sub_ii, ltI_ii, neg_i, ix_t, okO_some, len_tup, Int.toNat_natCast, par2_ok, bodyF_eq, turnC_none, turnC_some, isBl_bb, isnBl_bb, abs_i, int_i, eqD_ii, neD_ii, v_Chain3, t_Chain3, v_LenSet, v_Comp2, sz0, sz1, sz2, sz3, sz4, sz5, sz6, sz7, sz8, sz9, sz10, sz11, sz12, m_law, b_law, len_fix, List.length_map, min2_ii, em, b1, e]
  case step =>
    rintro i x env s1 hx ⟨z1, z, rfl, hz⟩
    obtain ⟨hi, rfl⟩ := rgD_at hx
    rw [Int.zero_add]
    obtain ⟨z', s2, e2, hz'⟩ := run_turn ns i s1 hn (by omega) z hz
    exact ⟨_, s2, .inl (by
      simp only [bodyF_eq, g_Var, st_ok', List.set_cons_zero, List.set_cons_succ, e2]
      rfl), _, _, rfl, hz'⟩
end K63

--END
open PySem PySem.W PyProof.Rows
set_option maxHeartbeats 0 in
theorem PySem.Challenge.cw_clubsturned_k63_products_and_derivatives_holds : PySem.Challenge.rw_clubsturned_k63_products_and_derivatives.Holds := by
  w_on; o_law; k_head; (case hw => w_witness2)
  k_fill
  refine L2.walk_of (l := PySem.Challenge.rw_clubsturned_k63_products_and_derivatives) (n := 63) (k := 10) (x := "script") (CX := fun _ => L2.CX0) (sp := fun w => Cs.spD _ 1 K63.m_law) rfl (by decide) rfl ⟨rfl, by decide, by decide⟩ (fun w h Y => PySem.W.kIn_of Y) ?F (fun _ H a ns hl ho hS => Cs.law_sp K63.law_true _ H a ns hl ho hS) (fun _ _ _ _ _ h => h)
  case F =>
    intro w mg fa h KX G hmg
    refine' K63.all_mk KX G hmg ?a0 ?l0 ?c0 ?k0 ?a1 ?l1 ?c1 ?k1 ?a2 ?l2 ?c2 ?k2 ?a3 ?l3 ?c3 ?k3 ?a4 ?l4 ?c4 ?k4 ?a5 ?l5 ?c5 ?k5 ?a6 ?l6 ?c6 ?k6 ?a7 ?l7 ?c7 ?k7 ?a8 ?l8 ?c8 ?k8 ?a9 ?l9 ?c9 ?k9 ?a10 ?l10 ?c10 ?k10 ?a11 ?l11 ?c11 ?k11 ?a12 ?l12 ?c12 ?k12 ?a13 ?l13 ?c13 ?k13 ?a14 ?l14 ?c14 ?k14 ?a15 ?l15 ?c15 ?k15 ?a16 ?l16 ?c16 ?k16 ?a17 ?l17 ?c17 ?k17 ?a18 ?l18 ?c18 ?k18 ?a19 ?l19 ?c19 ?k19 ?a20 ?l20 ?c20 ?k20 ?a21 ?l21 ?c21 ?k21 ?a22 ?l22 ?c22 ?k22 ?a23 ?l23 ?c23 ?k23 ?a24 ?l24 ?c24 ?k24 ?a25 ?l25 ?c25 ?k25 ?a26 ?l26 ?c26 ?k26 ?a27 ?l27 ?c27 ?k27 ?a28 ?l28 ?c28 ?k28 ?a29 ?l29 ?c29 ?k29 ?a30 ?l30 ?c30 ?k30 ?a31 ?l31 ?c31 ?k31 ?a32 ?l32 ?c32 ?k32 ?a33 ?l33 ?c33 ?k33 ?a34 ?l34 ?c34 ?k34 ?a35 ?l35 ?c35 ?k35 ?a36 ?l36 ?c36 ?k36 ?z0 ?z1 ?z2 ?z3 ?z4 ?z5 ?z6 ?z7 ?z8 ?z9 ?z10 ?z11 ?z12 ?z13 ?z14 ?q0
    (case a0 => k_is); (case l0 => k_is); (case c0 => k_is); (case k0 => k_is); (case a1 => k_is); (case l1 => k_is); (case c1 => k_is); (case k1 => k_is); (case a2 => k_is); (case l2 => k_is); (case c2 => k_is); (case k2 => k_is); (case a3 => k_is); (case l3 => k_is); (case c3 => k_is); (case k3 => k_is); (case a4 => k_is); (case l4 => k_is); (case c4 => k_is); (case k4 => k_is); (case a5 => k_is); (case l5 => k_is); (case c5 => k_is); (case k5 => k_is); (case a6 => k_is); (case l6 => k_is); (case c6 => k_is); (case k6 => k_is); (case a7 => k_is); (case l7 => k_is); (case c7 => k_is); (case k7 => k_is); (case a8 => k_is); (case l8 => k_is); (case c8 => k_is); (case k8 => k_is); (case a9 => k_is); (case l9 => k_is); (case c9 => k_is); (case k9 => k_is); (case a10 => k_is); (case l10 => k_is); (case c10 => k_is); (case k10 => k_is); (case a11 => k_is); (case l11 => k_is); (case c11 => k_is); (case k11 => k_is); (case a12 => k_is); (case l12 => k_is); (case c12 => k_is); (case k12 => k_is); (case a13 => k_is); (case l13 => k_is); (case c13 => k_is); (case k13 => k_is); (case a14 => k_is); (case l14 => k_is); (case c14 => k_is); (case k14 => k_is); (case a15 => k_is); (case l15 => k_is); (case c15 => k_is); (case k15 => k_is); (case a16 => k_is); (case l16 => k_is); (case c16 => k_is); (case k16 => k_is); (case a17 => k_is); (case l17 => k_is); (case c17 => k_is); (case k17 => k_is); (case a18 => k_is); (case l18 => k_is); (case c18 => k_is); (case k18 => k_is); (case a19 => k_is); (case l19 => k_is); (case c19 => k_is); (case k19 => k_is); (case a20 => k_is); (case l20 => k_is); (case c20 => k_is); (case k20 => k_is); (case a21 => k_is); (case l21 => k_is); (case c21 => k_is); (case k21 => k_is); (case a22 => k_is); (case l22 => k_is); (case c22 => k_is); (case k22 => k_is); (case a23 => k_is); (case l23 => k_is); (case c23 => k_is); (case k23 => k_is); (case a24 => k_is); (case l24 => k_is); (case c24 => k_is); (case k24 => k_is); (case a25 => k_is); (case l25 => k_is); (case c25 => k_is); (case k25 => k_is); (case a26 => k_is); (case l26 => k_is); (case c26 => k_is); (case k26 => k_is); (case a27 => k_is); (case l27 => k_is); (case c27 => k_is); (case k27 => k_is); (case a28 => k_is); (case l28 => k_is); (case c28 => k_is); (case k28 => k_is); (case a29 => k_is); (case l29 => k_is); (case c29 => k_is); (case k29 => k_is); (case a30 => k_is); (case l30 => k_is); (case c30 => k_is); (case k30 => k_is); (case a31 => k_is); (case l31 => k_is); (case c31 => k_is); (case k31 => k_is); (case a32 => k_is); (case l32 => k_is); (case c32 => k_is); (case k32 => k_is); (case a33 => k_is); (case l33 => k_is); (case c33 => k_is); (case k33 => k_is); (case a34 => k_is); (case l34 => k_is); (case c34 => k_is); (case k34 => k_is); (case a35 => k_is); (case l35 => k_is); (case c35 => k_is); (case k35 => k_is); (case a36 => k_is); (case l36 => k_is); (case c36 => k_is); (case k36 => k_is); (case z0 => k_is); (case z1 => k_is); (case z2 => k_is); (case z3 => k_is); (case z4 => k_is); (case z5 => k_is); (case z6 => k_is); (case z7 => k_is); (case z8 => k_is); (case z9 => k_is); (case z10 => k_is); (case z11 => k_is); (case z12 => k_is); (case z13 => k_is); (case z14 => k_is); (case q0 => k_is)

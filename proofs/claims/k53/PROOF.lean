import PyProof.Rows.All
import Wide.All
import OpenK.AllK
import Wide.FinOn
import HandS.ForMost
import HandS.Flow
import HandS.Style
import HandS.Wide
import HandS.TupAny
import HandS.TupMul
import HandS.IsInst
import HandS.Conv
import HandS.Iter
import KE.GoesEnum
import KE.GoesMore
import HandS.TupLe
import HandS.Dict
import HandS.SortKw
import KE.KMinKey
import HandS.SortInts
import HandS.Conv
import HandS.Zip
import KE.SortData
import KE.SortKeyHeap
import HandS.Exc
import PySem.Challenge.RW_clubsturned_k53_whole_rounds_moved
set_option Elab.async false
set_option linter.all false
set_option maxRecDepth 100000
set_option maxHeartbeats 4000000
/-! ## CsSem -/
/-! Plain values, a store of lists, results; what each construct means. No machine here. -/
namespace Cs
open PySem

/-- a value: tuples by value, a list that may change by its number in the store, a list that stays by value -/
inductive D where
  | non | bl (b : Bool) | int (i : Int) | str (x : Str) | tup (xs : List D) | fix (xs : List D) | ref (i : Nat)
  deriving Inhabited

/-- what stands in the store -/
inductive O where
  | lst (xs : List D)
  | dct (kvs : List (D × D))
  deriving Inhabited

/-! ### the store: a binary tree by number -/
inductive Tr where
  | lf
  | nd (v : Option O) (l r : Tr)
  deriving Inhabited
def Tr.get : Tr → Nat → Option O
  | .lf, _ => none
  | .nd v l r, n => if n = 0 then v else if n % 2 = 1 then l.get (n / 2) else r.get (n / 2 - 1)
def Tr.put : Nat → Tr → Nat → O → Tr
  | 0, t, _, _ => t
  | f + 1, .lf, n, o => if n = 0 then .nd (some o) .lf .lf else if n % 2 = 1 then .nd none (Tr.put f .lf (n / 2) o) .lf else .nd none .lf (Tr.put f .lf (n / 2 - 1) o)
  | f + 1, .nd v l r, n, o => if n = 0 then .nd (some o) l r else if n % 2 = 1 then .nd v (Tr.put f l (n / 2) o) r else .nd v l (Tr.put f r (n / 2 - 1) o)
theorem Tr.get_put : ∀ (f : Nat) (t : Tr) (n m : Nat) (o : O), n < f → (Tr.put f t n o).get m = if m = n then some o else t.get m := by
  intro f
  induction f with
  | zero => intro t n m o h; exact absurd h (Nat.not_lt_zero _)
  | succ f ih =>
    intro t n m o h
    cases t with
    | lf =>
      unfold Tr.put
      by_cases h0 : n = 0
      · rw [if_pos h0]
        by_cases hm : m = 0
        · rw [h0, hm]; rfl
        · show (if m = 0 then some o else if m % 2 = 1 then Tr.lf.get (m / 2) else Tr.lf.get (m / 2 - 1)) = if m = n then some o else none
          rw [if_neg hm, if_neg (show ¬ m = n by omega)]
          split <;> rfl
      · rw [if_neg h0]
        by_cases h1 : n % 2 = 1
        · rw [if_pos h1]
          show (if m = 0 then none else if m % 2 = 1 then (Tr.put f .lf (n / 2) o).get (m / 2) else Tr.lf.get (m / 2 - 1)) = _
          rw [ih _ _ _ _ (by omega)]
          show (if m = 0 then none else if m % 2 = 1 then (if m / 2 = n / 2 then some o else none) else none) = if m = n then some o else none
          by_cases hm : m = n
          · rw [if_pos hm, if_neg (by omega), if_pos (by omega), if_pos (by omega)]
          · rw [if_neg hm]
            by_cases hm0 : m = 0
            · rw [if_pos hm0]
            · rw [if_neg hm0]
              by_cases hm1 : m % 2 = 1
              · rw [if_pos hm1, if_neg (by omega)]
              · rw [if_neg hm1]
        · rw [if_neg h1]
          show (if m = 0 then none else if m % 2 = 1 then Tr.lf.get (m / 2) else (Tr.put f .lf (n / 2 - 1) o).get (m / 2 - 1)) = _
          rw [ih _ _ _ _ (by omega)]
          show (if m = 0 then none else if m % 2 = 1 then none else (if m / 2 - 1 = n / 2 - 1 then some o else none)) = if m = n then some o else none
          by_cases hm : m = n
          · rw [if_pos hm, if_neg (by omega), if_neg (by omega), if_pos (by omega)]
          · rw [if_neg hm]
            by_cases hm0 : m = 0
            · rw [if_pos hm0]
            · rw [if_neg hm0]
              by_cases hm1 : m % 2 = 1
              · rw [if_pos hm1]
              · rw [if_neg hm1, if_neg (by omega)]
    | nd v l r =>
      unfold Tr.put
      by_cases h0 : n = 0
      · rw [if_pos h0]
        show (if m = 0 then some o else if m % 2 = 1 then l.get (m / 2) else r.get (m / 2 - 1)) = if m = n then some o else (if m = 0 then v else if m % 2 = 1 then l.get (m / 2) else r.get (m / 2 - 1))
        by_cases hm : m = 0
        · rw [if_pos hm, if_pos (by omega)]
        · rw [if_neg hm, if_neg (show ¬ m = n by omega), if_neg hm]
      · rw [if_neg h0]
        by_cases h1 : n % 2 = 1
        · rw [if_pos h1]
          show (if m = 0 then v else if m % 2 = 1 then (Tr.put f l (n / 2) o).get (m / 2) else r.get (m / 2 - 1)) = if m = n then some o else (if m = 0 then v else if m % 2 = 1 then l.get (m / 2) else r.get (m / 2 - 1))
          rw [ih _ _ _ _ (by omega)]
          by_cases hm : m = n
          · rw [if_pos hm, if_neg (by omega), if_pos (by omega), if_pos (by omega)]
          · rw [if_neg hm]
            by_cases hm0 : m = 0
            · rw [if_pos hm0, if_pos hm0]
            · rw [if_neg hm0, if_neg hm0]
              by_cases hm1 : m % 2 = 1
              · rw [if_pos hm1, if_pos hm1, if_neg (by omega)]
              · rw [if_neg hm1, if_neg hm1]
        · rw [if_neg h1]
          show (if m = 0 then v else if m % 2 = 1 then l.get (m / 2) else (Tr.put f r (n / 2 - 1) o).get (m / 2 - 1)) = if m = n then some o else (if m = 0 then v else if m % 2 = 1 then l.get (m / 2) else r.get (m / 2 - 1))
          rw [ih _ _ _ _ (by omega)]
          by_cases hm : m = n
          · rw [if_pos hm, if_neg (by omega), if_neg (by omega), if_pos (by omega)]
          · rw [if_neg hm]
            by_cases hm0 : m = 0
            · rw [if_pos hm0, if_pos hm0]
            · rw [if_neg hm0, if_neg hm0]
              by_cases hm1 : m % 2 = 1
              · rw [if_pos hm1, if_pos hm1]
              · rw [if_neg hm1, if_neg hm1, if_neg (by omega)]

structure Sto where
  n : Nat
  t : Tr
def Sto.get (s : Sto) (i : Nat) : Option O := s.t.get i
def Sto.set (s : Sto) (i : Nat) (o : O) : Sto := ⟨s.n, Tr.put (i + 1) s.t i o⟩
def Sto.add (s : Sto) (o : O) : Sto := ⟨s.n + 1, Tr.put (s.n + 1) s.t s.n o⟩
def Sto.new : Sto := ⟨0, .lf⟩
theorem Sto.get_set (s : Sto) (i j : Nat) (o : O) : (s.set i o).get j = if j = i then some o else s.get j := Tr.get_put _ _ _ _ _ (Nat.lt_succ_self _)
theorem Sto.get_add (s : Sto) (j : Nat) (o : O) : (s.add o).get j = if j = s.n then some o else s.get j := Tr.get_put _ _ _ _ _ (Nat.lt_succ_self _)
theorem Sto.n_set (s : Sto) (i : Nat) (o : O) : (s.set i o).n = s.n := rfl
theorem Sto.n_add (s : Sto) (o : O) : (s.add o).n = s.n + 1 := rfl
theorem Sto.new_get (i : Nat) : Sto.new.get i = none := rfl

/-! ### results -/
inductive R (α : Type) where
  | ok (a : α) (s : Sto)
  | no
def R.bind {α β : Type} (r : R α) (f : α → Sto → R β) : R β := match r with
  | .ok a s => f a s
  | .no => .no
abbrev Env := List (Option D)
abbrev EvE := Env → Sto → R D
abbrev EvT := Env → Sto → R Bool
abbrev EvA := Env → Sto → R (List D)
/-- an expression: its value, its truth as a test -/
structure Sem where
  v : EvE
  t : EvT
/-- a statement's end -/
inductive RS where
  | nx (e : Env) (s : Sto)
  | rt (d : D) (s : Sto)
  | bk (e : Env) (s : Sto)
  | ct (e : Env) (s : Sto)
  | no
abbrev EvS := Env → Sto → RS
/-- a def -/
abbrev Fn := List D → Sto → R D

/-! ### truth -/
def truth (d : D) (s : Sto) : R Bool := match d with
  | .non => .ok false s
  | .bl b => .ok b s
  | .int i => .ok (i != 0) s
  | .str x => if x.length ≤ sizeLine then .ok (x.length != 0) s else .no
  | .tup xs => .ok (!xs.isEmpty) s
  | .fix xs => .ok (!xs.isEmpty) s
  | .ref i => match s.get i with
    | some (.lst xs) => .ok (!xs.isEmpty) s
    | _ => .no
def mk (v : EvE) : Sem := ⟨v, fun env s => (v env s).bind fun d s => truth d s⟩

/-! ### expressions -/
def xC (d : D) : Sem := mk fun _ s => .ok d s
def xVar (i : Nat) : Sem := mk fun env s => match env[i]? with
  | some (some d) => .ok d s
  | _ => .no
def xBin (f : D → D → Sto → R D) (a b : Sem) : Sem := mk fun env s => (a.v env s).bind fun x s => (b.v env s).bind fun y s => f x y s
def xUn (f : D → Sto → R D) (a : Sem) : Sem := mk fun env s => (a.v env s).bind fun x s => f x s
def xChain (f g : D → D → Sto → R D) (a b c : Sem) : Sem := mk fun env s => (a.v env s).bind fun x s => (b.v env s).bind fun y s => (f x y s).bind fun z s => match z with
  | .bl true => (c.v env s).bind fun w s => g y w s
  | .bl false => .ok (.bl false) s
  | _ => .no
def xNot (a : Sem) : Sem where
  v := fun env s => (a.v env s).bind fun x s => (truth x s).bind fun b s => .ok (.bl (!b)) s
  t := fun env s => (a.t env s).bind fun b s => .ok (!b) s
def xAnd (a b : Sem) : Sem where
  v := fun env s => (a.v env s).bind fun x s => (truth x s).bind fun k s => if k = true then b.v env s else .ok x s
  t := fun env s => (a.t env s).bind fun k s => if k = true then b.t env s else .ok false s
def xOr (a b : Sem) : Sem where
  v := fun env s => (a.v env s).bind fun x s => (truth x s).bind fun k s => if k = true then .ok x s else b.v env s
  t := fun env s => (a.t env s).bind fun k s => if k = true then .ok true s else b.t env s
def xIf (c a b : Sem) : Sem where
  v := fun env s => (c.t env s).bind fun k s => if k = true then a.v env s else b.v env s
  t := fun env s => (c.t env s).bind fun k s => if k = true then a.t env s else b.t env s
def aNil : EvA := fun _ s => .ok [] s
def aCons (a : Sem) (r : EvA) : EvA := fun env s => (a.v env s).bind fun x s => (r env s).bind fun xs s => .ok (x :: xs) s
def xTup (a : EvA) : Sem := mk fun env s => (a env s).bind fun xs s => if xs.length ≤ sizeLine then .ok (.tup xs) s else .no
def newL (xs : List D) (s : Sto) : R D := if xs.length ≤ sizeLine then .ok (.ref s.n) (s.add (.lst xs)) else .no
def xLst (a : EvA) : Sem := mk fun env s => (a env s).bind newL
def xCall (f : Fn) (a : EvA) : Sem := mk fun env s => (a env s).bind f
/-- keyword arguments: np positional values, nk keywords' values; the parameters' ones by their places among all -/
def gPerm {α : Type} (z : α) (np nk : Nat) (p : List Nat) (us ws : List α) : List α := if us.length = np ∧ ws.length = nk then p.map fun i => (us ++ ws).getD i z else []
def xCallK (f : Fn) (np nk : Nat) (p : List Nat) (a k : EvA) : Sem := mk fun env s => (a env s).bind fun us s => (k env s).bind fun ws s => f (gPerm .non np nk p us ws) s
def xBi (f : List D → Sto → R D) (a : EvA) : Sem := mk fun env s => (a env s).bind f
def isL (x : D) (s : Sto) : Bool := match x with
  | .ref i => match s.get i with
    | some (.lst _) => true
    | _ => false
  | _ => false
def xMeth (f : D → List D → Sto → R D) (o : Sem) (a : EvA) : Sem := mk fun env s => (o.v env s).bind fun x s => if isL x s = true then (a env s).bind fun xs s => f x xs s else .no

/-! ### operators -/
def lim4 : Nat := 2 ^ 4000
def addD (x y : D) (s : Sto) : R D := match x, y with
  | .int i, .int j => .ok (.int (i + j)) s
  | .tup xs, .tup ys => if xs.length + ys.length ≤ sizeLine then .ok (.tup (xs ++ ys)) s else .no
  | .str a, .str b => if a.length + b.length ≤ sizeLine then .ok (.str (a ++ b)) s else .no
  | .ref i, .ref j => match s.get i, s.get j with
    | some (.lst xs), some (.lst ys) => if xs.length + ys.length ≤ sizeLine then .ok (.ref s.n) (s.add (.lst (xs ++ ys))) else .no
    | _, _ => .no
  | _, _ => .no
def iaddD (x y : D) (s : Sto) : R D := match x, y with
  | .int i, .int j => .ok (.int (i + j)) s
  | _, _ => .no
def subD (x y : D) (s : Sto) : R D := match x, y with
  | .int i, .int j => .ok (.int (i - j)) s
  | _, _ => .no
def mulOk (i j : Int) : Bool := decide (i.natAbs < 2 ^ 64) || decide (j.natAbs < 2 ^ 64) || (decide (i.natAbs < lim4) && decide (j.natAbs < lim4))
def mulD (x y : D) (s : Sto) : R D := match x, y with
  | .int i, .int j => if mulOk i j = true then .ok (.int (i * j)) s else .no
  | .tup xs, .int k => if xs.length ≤ 1000 ∧ -1000 ≤ k ∧ k ≤ 1000 then .ok (.tup (List.replicate k.toNat xs).flatten) s else .no
  | .ref i, .int k => match s.get i with
    | some (.lst xs) => if -(2 ^ 62) ≤ k ∧ k < 2 ^ 62 ∧ xs.length * k.toNat ≤ sizeLine then .ok (.ref s.n) (s.add (.lst (List.replicate k.toNat xs).flatten)) else .no
    | _ => .no
  | _, _ => .no
def fdivD (x y : D) (s : Sto) : R D := match x, y with
  | .int i, .int j => if 0 < j ∧ j.natAbs < lim4 then .ok (.int (i / j)) s else .no
  | _, _ => .no
def modD (x y : D) (s : Sto) : R D := match x, y with
  | .int i, .int j => if 0 < j then .ok (.int (i % j)) s else .no
  | _, _ => .no
def powD (x y : D) (s : Sto) : R D := match x, y with
  | .int i, .int j => if 0 ≤ j ∧ j ≤ 1000 ∧ i.natAbs < lim4 then .ok (.int (i ^ j.toNat)) s else .no
  | _, _ => .no
def negD (x : D) (s : Sto) : R D := match x with
  | .int i => .ok (.int (-i)) s
  | _ => .no

/-! ### == at any depth -/
def mapO {α β : Type} (f : α → Option β) : List α → Option (List β)
  | [] => some []
  | x :: xs => match f x, mapO f xs with
    | some d, some ds => some (d :: ds)
    | _, _ => none
/-- as the library's plain data (lists of the store looked up; k: the depth) -/
def pyd (s : Sto) : Nat → D → Option PyData
  | 0 => fun d => match d with
    | .non => some .none
    | .bl b => some (.bool b)
    | .int i => some (.int i)
    | .str x => if PyData.strOk x = true then some (.str x) else none
    | _ => none
  | k + 1 => fun d => match d with
    | .non => some .none
    | .bl b => some (.bool b)
    | .int i => some (.int i)
    | .str x => if PyData.strOk x = true then some (.str x) else none
    | .tup xs => (mapO (pyd s k) xs).map .tuple
    | .fix xs => (mapO (pyd s k) xs).map .list
    | .ref i => match s.get i with
      | some (.lst xs) => (mapO (pyd s k) xs).map .list
      | _ => none
def eqD (x y : D) (s : Sto) : R D := match pyd s 12 x, pyd s 12 y with
  | some a, some b => .ok (.bl (PyData.eqv a b)) s
  | _, _ => .no
def neD (x y : D) (s : Sto) : R D := match pyd s 12 x, pyd s 12 y with
  | some a, some b => .ok (.bl (!PyData.eqv a b)) s
  | _, _ => .no
def ltI (f : Int → Int → Bool) (x y : D) (s : Sto) : R D := match x, y with
  | .int i, .int j => .ok (.bl (f i j)) s
  | _, _ => .no
def isNonD (x y : D) (s : Sto) : R D := match x, y with
  | .non, .non => .ok (.bl true) s
  | _, .non => .ok (.bl false) s
  | _, _ => .no
def isnNonD (x y : D) (s : Sto) : R D := match x, y with
  | .non, .non => .ok (.bl false) s
  | _, .non => .ok (.bl true) s
  | _, _ => .no
/-- None, ints, texts, truths: what `in` of a list looks through -/
def flat : D → Bool
  | .non => true
  | .bl _ => true
  | .int _ => true
  | .str _ => true
  | _ => false
def flatEq : D → D → Bool
  | .non, .non => true
  | .bl a, .bl b => a == b
  | .int i, .int j => i == j
  | .bl a, .int j => (if a then 1 else 0) == j
  | .int i, .bl b => i == (if b then 1 else 0)
  | .str a, .str b => a == b
  | _, _ => false
def items (d : D) (s : Sto) : Option (List D) := match d with
  | .tup xs => some xs
  | .fix xs => some xs
  | .ref i => match s.get i with
    | some (.lst xs) => some xs
    | _ => none
  | _ => none
def inD (neg : Bool) (x y : D) (s : Sto) : R D := match items y s with
  | some xs => if flat x && xs.all flat then .ok (.bl ((xs.any fun z => flatEq z x) ^^ neg)) s else .no
  | none => .no

/-! ### places -/
def ixD (x y : D) (s : Sto) : R D := match y with
  | .int i => match items x s with
    | some xs => match L2.atI xs i with
      | some d => .ok d s
      | none => .no
    | none => match x with
      | .str z => if z.length ≤ sizeLine then (match L2.atI z.cps.toList i with
        | some c => .ok (.str ⟨#[c]⟩) s
        | none => .no) else .no
      | _ => .no
  | _ => .no
def cutD (xs : List D) (lo hi : Option Int) : List D := (xs.drop (HT.sIx xs.length 0 lo)).take (HT.sIx xs.length xs.length hi - HT.sIx xs.length 0 lo)
abbrev EvO := Env → Sto → R (Option Int)
def oNo : EvO := fun _ s => .ok none s
def oYes (a : Sem) : EvO := fun env s => (a.v env s).bind fun x s => match x with
  | .int i => .ok (some i) s
  | _ => .no
def slcD (x : D) (lo hi : Option Int) (s : Sto) : R D := match x with
  | .tup xs => .ok (.tup (cutD xs lo hi)) s
  | .ref i => match s.get i with
    | some (.lst xs) => .ok (.ref s.n) (s.add (.lst (cutD xs lo hi)))
    | _ => .no
  | _ => .no
def xSlc (a : Sem) (lo hi : EvO) : Sem := mk fun env s => (a.v env s).bind fun x s => (lo env s).bind fun l s => (hi env s).bind fun h s => slcD x l h s

def revD (x : D) (s : Sto) : R D := match x with
  | .tup xs => .ok (.tup xs.reverse) s
  | .ref i => match s.get i with
    | some (.lst xs) => .ok (.ref s.n) (s.add (.lst xs.reverse))
    | _ => .no
  | _ => .no
/-! ### built-in functions -/
def lenB (xs : List D) (s : Sto) : R D := match xs with
  | [.str z] => if z.length ≤ sizeLine then .ok (.int z.length) s else .no
  | [.ref i] => match s.get i with
    | some (.lst xs) => .ok (.int xs.length) s
    | _ => .no
  | [d] => match items d s with
    | some xs => .ok (.int xs.length) s
    | none => .no
  | _ => .no
def absB (xs : List D) (s : Sto) : R D := match xs with
  | [.int i] => .ok (.int (if i < 0 then -i else i)) s
  | _ => .no
def max2B (xs : List D) (s : Sto) : R D := match xs with
  | [.int i, .int j] => .ok (.int (if j > i then j else i)) s
  | _ => .no
def min2B (xs : List D) (s : Sto) : R D := match xs with
  | [.int i, .int j] => .ok (.int (if j < i then j else i)) s
  | _ => .no
def intB (xs : List D) (s : Sto) : R D := match xs with
  | [.int i] => .ok (.int i) s
  | [.bl b] => .ok (.int (if b then 1 else 0)) s
  | _ => .no
def tupleB (xs : List D) (s : Sto) : R D := match xs with
  | [d] => match items d s with
    | some xs => .ok (.tup xs) s
    | none => .no
  | _ => .no
def listB (xs : List D) (s : Sto) : R D := match xs with
  | [d] => match items d s with
    | some xs => .ok (.ref s.n) (s.add (.lst xs))
    | none => .no
  | _ => .no
def bools : List D → Option (List Bool)
  | [] => some []
  | .bl b :: r => (bools r).map (b :: ·)
  | _ => none
def intsD : List D → Option (List Int)
  | [] => some []
  | .int i :: r => (intsD r).map (i :: ·)
  | _ => none
/-- a list (no tuple) -/
def litems (d : D) (s : Sto) : Option (List D) := match d with
  | .fix xs => some xs
  | .ref i => match s.get i with
    | some (.lst xs) => some xs
    | _ => none
  | _ => none
def allB (xs : List D) (s : Sto) : R D := match xs with
  | [d] => match (litems d s).bind bools with
    | some bs => .ok (.bl (bs.all id)) s
    | none => .no
  | _ => .no
def anyB (xs : List D) (s : Sto) : R D := match xs with
  | [d] => match (litems d s).bind bools with
    | some bs => .ok (.bl (bs.any id)) s
    | none => .no
  | _ => .no
def sumB (xs : List D) (s : Sto) : R D := match xs with
  | [d] => match (litems d s).bind intsD with
    | some ns => .ok (.int ns.sum) s
    | none => .no
  | _ => .no
/-- isinstance: by the names of built-in types -/
def tyName (d : D) (s : Sto) : Option String := match d with
  | .non => some "NoneType"
  | .bl _ => some "bool"
  | .int _ => some "int"
  | .str _ => some "str"
  | .tup _ => some "tuple"
  | .fix _ => some "list"
  | .ref i => match s.get i with
    | some (.lst _) => some "list"
    | some (.dct _) => some "dict"
    | none => none
inductive Ty where
  | int | bool | str | tuple | list
  deriving DecidableEq
def Ty.name : Ty → String
  | .int => "int"
  | .bool => "bool"
  | .str => "str"
  | .tuple => "tuple"
  | .list => "list"
def isTy (d : D) (s : Sto) (t : Ty) : Option Bool := match d with
  | .non => some false
  | .bl _ => some (t == .int || t == .bool)
  | .int _ => some (t == .int)
  | .str _ => some (t == .str)
  | .tup _ => some (t == .tuple)
  | .fix _ => some (t == .list)
  | .ref i => match s.get i with
    | some (.lst _) => some (t == .list)
    | some (.dct _) => some false
    | none => none
def isiD (ts : List Ty) (d : D) (s : Sto) : R D := match mapO (isTy d s) ts with
  | some bs => .ok (.bl (bs.any id)) s
  | none => .no

/-! ### methods of lists -/
def appendM (x : D) (vs : List D) (s : Sto) : R D := match x, vs with
  | .ref i, [y] => match s.get i with
    | some (.lst xs) => if xs.length < sizeLine then .ok .non (s.set i (.lst (xs ++ [y]))) else .no
    | _ => .no
  | _, _ => .no
def extendM (x : D) (vs : List D) (s : Sto) : R D := match x, vs with
  | .ref i, [.ref j] => match s.get i, s.get j with
    | some (.lst xs), some (.lst ys) => if xs.length + ys.length ≤ sizeLine then .ok .non (s.set i (.lst (xs ++ ys))) else .no
    | _, _ => .no
  | _, _ => .no
def popM (x : D) (vs : List D) (s : Sto) : R D := match x, vs with
  | .ref i, [] => match s.get i with
    | some (.lst xs) => match xs[xs.length - 1]? with
      | some y => .ok y (s.set i (.lst xs.dropLast))
      | none => .no
    | _ => .no
  | .ref i, [.int k] => match s.get i with
    | some (.lst xs) => if -(2 ^ 63) ≤ k ∧ k < 2 ^ 63 then (match seqIndex? k xs.length with
      | some j => match xs[j]? with
        | some y => .ok y (s.set i (.lst (xs.eraseIdx j)))
        | none => .no
      | none => .no) else .no
    | _ => .no
  | _, _ => .no
def clearM (x : D) (vs : List D) (s : Sto) : R D := match x, vs with
  | .ref i, [] => match s.get i with
    | some (.lst _) => .ok .non (s.set i (.lst []))
    | _ => .no
  | _, _ => .no
/-- o[i] = v -/
def setD (o i v : D) (s : Sto) : R Unit := match o, i with
  | .ref a, .int k => match s.get a with
    | some (.lst xs) => match L2.ixN xs.length k with
      | some j => .ok () (s.set a (.lst (xs.set j v)))
      | none => .no
    | _ => .no
  | _, _ => .no

/-! ### what is walked -/
inductive Wk where
  /-- a list of the store, as it stands at each turn -/
  | live (i : Nat)
  | its (xs : List D)
  /-- what a reader says of the store at each turn -/
  | rd (r : Sto → Nat → Option (Option D))
/-- the pair at n of two lists of the store -/
def zipAt (s : Sto) (i j n : Nat) : Option (Option D) := match s.get i, s.get j with
  | some (.lst xs), some (.lst ys) => match xs[n]?, ys[n]? with
    | some x, some y => some (some (.tup [x, y]))
    | _, _ => some none
  | _, _ => none
/-- the item at n of a list of the store, with n -/
def enlAt (s : Sto) (i n : Nat) : Option (Option D) := match s.get i with
  | some (.lst xs) => match xs[n]? with
    | some x => some (some (.tup [.int (n : Nat), x]))
    | none => some none
  | _ => none
def Wk.zip (i j : Nat) : Wk := .rd fun s n => zipAt s i j n
def Wk.enl (i : Nat) : Wk := .rd fun s n => enlAt s i n
abbrev EvI := Env → Sto → R Wk
def iSeq (a : Sem) : EvI := fun env s => (a.v env s).bind fun d s => match d with
  | .tup xs => .ok (.its xs) s
  | .fix xs => .ok (.its xs) s
  | .ref i => match s.get i with
    | some (.lst _) => .ok (.live i) s
    | _ => .no
  | _ => .no
def rgD (lo : Int) (n : Nat) : List D := (List.range n).map fun i => .int (lo + (i : Nat))
def bigI (i : Int) : Bool := Nat.blt i.natAbs 4611686018427387904
def iRg1 (a : EvA) : EvI := fun env s => (a env s).bind fun xs s => match xs with
  | [.int j] => if bigI j = true then .ok (.its (rgD 0 j.toNat)) s else .no
  | _ => .no
def iRg2 (a : EvA) : EvI := fun env s => (a env s).bind fun xs s => match xs with
  | [.int i, .int j] => if bigI i = true ∧ bigI j = true then .ok (.its (rgD i (j - i).toNat)) s else .no
  | _ => .no

/-! ### targets -/
abbrev EvG := D → Env → Sto → R Env
def gVar (i : Nat) : EvG := fun d env s => .ok (env.set i (some d)) s
def gsNil (ds : List D) (env : Env) (s : Sto) : R Env := match ds with
  | [] => .ok env s
  | _ => .no
def gsCons (g : EvG) (r : List D → Env → Sto → R Env) (ds : List D) (env : Env) (s : Sto) : R Env := match ds with
  | d :: ds => (g d env s).bind fun env s => r ds env s
  | [] => .no
def gTup (n : Nat) (r : List D → Env → Sto → R Env) : EvG := fun d env s => match d with
  | .tup xs => if xs.length = n then r xs env s else .no
  | _ => .no
def gSub (o i : Sem) : EvG := fun d env s => (o.v env s).bind fun x s => (i.v env s).bind fun y s => (setD x y d s).bind fun _ s => .ok env s

/-! ### comprehensions -/
def wipeE (env : Env) : List Nat → Env
  | [] => env
  | v :: vs => (wipeE env vs).set v none
/-- one turn: nothing, or a new item -/
abbrev Turn := D → Sto → R (Option D)
def conO (o : Option D) (ys : List D) : List D := match o with
  | some y => y :: ys
  | none => ys
def goIts (f : Turn) : List D → Sto → R (List D)
  | [], s => .ok [] s
  | x :: xs, s => (f x s).bind fun o s => (goIts f xs s).bind fun ys s => .ok (conO o ys) s
def goLive (f : Turn) (i : Nat) : Nat → Nat → Sto → R (List D)
  | 0, _, _ => .no
  | k + 1, j, s => match s.get i with
    | some (.lst xs) => match xs[j]? with
      | some x => (f x s).bind fun o s => (goLive f i k (j + 1) s).bind fun ys s => .ok (conO o ys) s
      | none => .ok [] s
    | _ => .no
def goRd (f : Turn) (r : Sto → Nat → Option (Option D)) : Nat → Nat → Sto → R (List D)
  | 0, _, _ => .no
  | k + 1, n, s => match r s n with
    | some (some x) => (f x s).bind fun o s => (goRd f r k (n + 1) s).bind fun ys s => .ok (conO o ys) s
    | some none => .ok [] s
    | none => .no
def goWk (f : Turn) (w : Wk) (s : Sto) : R (List D) := match w with
  | .its xs => goIts f xs s
  | .live i => goLive f i 1000000 0 s
  | .rd r => goRd f r 1000000 0 s
def turnC (g : EvG) (c : Option Sem) (e : Sem) (env : Env) : Turn := fun x s => (g x env s).bind fun env s => match c with
  | none => (e.v env s).bind fun y s => .ok (some y) s
  | some c => (c.t env s).bind fun b s => if b = true then (e.v env s).bind fun y s => .ok (some y) s else .ok none s
def xComp (own : List Nat) (g : EvG) (it : EvI) (c : Option Sem) (e : Sem) : Sem := mk fun env s => (it env s).bind fun w s => (goWk (turnC g c e (wipeE env own)) w s).bind newL

/-! ### statements -/
def RS.then (r : RS) (f : Env → Sto → RS) : RS := match r with
  | .nx e s => f e s
  | r => r
def sNil : EvS := fun env s => .nx env s
def sCons (a b : EvS) : EvS := fun env s => (a env s).then b
def R.st {α : Type} (r : R α) (f : α → Sto → RS) : RS := match r with
  | .ok a s => f a s
  | .no => .no
def sExpr (a : Sem) : EvS := fun env s => (a.v env s).st fun _ s => .nx env s
def sAsg (g : EvG) (a : Sem) : EvS := fun env s => (a.v env s).st fun d s => (g d env s).st fun env s => .nx env s
def sPar (i j : Nat) (a : EvA) : EvS := fun env s => (a env s).st fun xs s => match xs with
  | [x, y] => .nx ((env.set i (some x)).set j (some y)) s
  | _ => .no
def sAug (i : Nat) (f : D → D → Sto → R D) (a : Sem) : EvS := fun env s => match env[i]? with
  | some (some x) => (a.v env s).st fun y s => (f x y s).st fun z s => .nx (env.set i (some z)) s
  | _ => .no
def sRet (a : Sem) : EvS := fun env s => (a.v env s).st fun d s => .rt d s
def sRetN : EvS := fun _ s => .rt .non s
def sIf (c : Sem) (a b : EvS) : EvS := fun env s => (c.t env s).st fun k s => if k = true then a env s else b env s
def sPass : EvS := fun env s => .nx env s
def sBrk : EvS := fun env s => .bk env s
def sCt : EvS := fun env s => .ct env s
def sNo : EvS := fun _ _ => .no
/-- a loop's turn is over -/
def RS.turn (r : RS) (f : Env → Sto → RS) : RS := match r with
  | .nx e s => f e s
  | .ct e s => f e s
  | .bk e s => .nx e s
  | r => r
def whl (c : Sem) (b : EvS) : Nat → EvS
  | 0 => fun _ _ => .no
  | k + 1 => fun env s => (c.t env s).st fun v s => if v = true then (b env s).turn (whl c b k) else .nx env s
def sWhl (c : Sem) (b : EvS) : EvS := whl c b 1000000
def forIts (b : D → Env → Sto → RS) : List D → Env → Sto → RS
  | [], env, s => .nx env s
  | x :: xs, env, s => (b x env s).turn (forIts b xs)
def forLive (b : D → Env → Sto → RS) (i : Nat) : Nat → Nat → Env → Sto → RS
  | 0, _, _, _ => .no
  | k + 1, j, env, s => match s.get i with
    | some (.lst xs) => match xs[j]? with
      | some x => (b x env s).turn (forLive b i k (j + 1))
      | none => .nx env s
    | _ => .no
def forRd (b : D → Env → Sto → RS) (r : Sto → Nat → Option (Option D)) : Nat → Nat → Env → Sto → RS
  | 0, _, _, _ => .no
  | k + 1, n, env, s => match r s n with
    | some (some x) => (b x env s).turn (forRd b r k (n + 1))
    | some none => .nx env s
    | none => .no
def bodyF (g : EvG) (b : EvS) (d : D) (env : Env) (s : Sto) : RS := (g d env s).st fun env s => b env s
def sFor (g : EvG) (it : EvI) (b : EvS) : EvS := fun env s => (it env s).st fun w s => match w with
  | .its xs => forIts (bodyF g b) xs env s
  | .live i => forLive (bodyF g b) i 1000000 0 env s
  | .rd r => forRd (bodyF g b) r 1000000 0 env s
/-- a def of np parameters and n names, its body -/
def fnB (np n : Nat) (b : EvS) : Fn := fun ds s => if ds.length = np then (match b (ds.map some ++ List.replicate (n - ds.length) none) s with
  | .rt d s => .ok d s
  | .nx _ s => .ok .non s
  | _ => .no) else .no
def fnNo : Fn := fun _ _ => .no
end Cs

/-! ## CsSem2 -/
/-! More of the plain meaning. -/
namespace Cs
open PySem
def sPar3 (i j l : Nat) (a : EvA) : EvS := fun env s => (a env s).st fun xs s => match xs with
  | [x, y, z] => .nx (((env.set i (some x)).set j (some y)).set l (some z)) s
  | _ => .no
/-- i, i - 1, ..: n of them -/
def rgdD (i : Int) (n : Nat) : List D := (List.range n).map fun k => .int (i - (k : Nat))
/-- range(i, j, -1) -/
def iRg3 (a : EvA) : EvI := fun env s => (a env s).bind fun xs s => match xs with
  | [.int i, .int j, .int c] => if c = -1 ∧ bigI i = true ∧ bigI j = true then .ok (.its (rgdD i (i - j).toNat)) s else .no
  | _ => .no
def enumD (xs : List D) : List D := xs.zipIdx.map fun p => .tup [.int (p.2 : Nat), p.1]
/-- enumerate(a tuple) -/
def iEnum (a : EvA) : EvI := fun env s => (a env s).bind fun ds s => match ds with
  | [.tup xs] => .ok (.its (enumD xs)) s
  | _ => .no
/-- l.index(x), ints only -/
def indexM (x : D) (xs : List D) (s : Sto) : R D := match x with
  | .ref k => match s.get k with
    | some (.lst ys) => match intsD ys with
      | some ns => match xs with
        | [.int i] => match ns.findIdx? (· == i) with
          | some j => .ok (.int (j : Nat)) s
          | none => .no
        | _ => .no
      | none => .no
    | _ => .no
  | _ => .no
/-- x is True, x is False -/
def isBlD (x y : D) (s : Sto) : R D := match x, y with
  | .bl a, .bl b => .ok (.bl (decide (a = b))) s
  | _, _ => .no
def isnBlD (x y : D) (s : Sto) : R D := match x, y with
  | .bl a, .bl b => .ok (.bl (!decide (a = b))) s
  | _, _ => .no
/-! ### min(list, key=f, default=d) -/
def lexD : List Int → List Int → Bool
  | [], [] => false
  | [], _ :: _ => true
  | _ :: _, [] => false
  | x :: xs, y :: ys => if x = y then lexD xs ys else decide (x < y)
/-- a key below another: whole numbers, or a pair of a whole number and a tuple of them -/
def keyLt (x y : D) : Option Bool := match x, y with
  | .int a, .int b => some (decide (a < b))
  | .tup [.int a, .tup xs], .tup [.int b, .tup ys] => match intsD xs, intsD ys with
    | some ns, some ms => some (if a = b then lexD ns ms else decide (a < b))
    | _, _ => none
  | _, _ => none
def minGo (f : Fn) (i : Nat) : Nat → Nat → D → D → Sto → R D
  | 0, _, _, _, _ => .no
  | k + 1, j, b, kb, s => match s.get i with
    | some (.lst xs) => match xs[j]? with
      | some x => (f [x] s).bind fun kx s => match keyLt kx kb with
        | some true => minGo f i k (j + 1) x kx s
        | some false => minGo f i k (j + 1) b kb s
        | none => .no
      | none => .ok b s
    | _ => .no
def minK (f : Fn) (d : D) (x : D) (s : Sto) : R D := match x with
  | .ref i => match s.get i with
    | some (.lst []) => .ok d s
    | some (.lst (x :: _)) => (f [x] s).bind fun kx s => minGo f i 1000000 1 x kx s
    | _ => .no
  | _ => .no
def xMinK (f : Fn) (e d : Sem) : Sem := mk fun env s => (e.v env s).bind fun x s => (d.v env s).bind fun y s => minK f y x s
/-- {} -/
def xDict0 : Sem := mk fun _ s => .ok (.ref s.n) (s.add (.dct []))
/-- a key below another one -/
def ltK (x y : D) (s : Sto) : R D := match keyLt x y with
  | some b => .ok (.bl b) s
  | none => .no
end Cs

/-! ## CsSem3 -/
/-! More of the plain meaning: sorting. -/
namespace Cs
open PySem PySem.W
/-- a key as plain data: a whole number, or a pair of one and a tuple of them -/
def kpd : D → Option PyData
  | .int n => some (.int n)
  | .tup [.int a, .tup xs] => (intsD xs).map fun ns => .tuple [.int a, .tuple (ns.map .int)]
  | _ => none
def isTupD : PyData → Bool
  | .tuple (_ :: _) => true
  | _ => false
def isAtm : PyData → Bool
  | .int _ => true
  | _ => false
/-- keys that can be compared -/
def okKeys (ds : List PyData) : Bool := (ds.all fun d => ds.all fun e => alike d e) && (ds.all isTupD || ds.all isAtm)
/-- the keys of items -/
def keysGo (f : Fn) : List D → Sto → R (List PyData)
  | [], s => .ok [] s
  | x :: xs, s => (f [x] s).bind fun k s => match kpd k with
    | some d => (keysGo f xs s).bind fun ds s => .ok (d :: ds) s
    | none => .no
/-- items by their keys, upwards, stably -/
def sortBy (ds : List PyData) (xs : List D) : List D := ((xs.zip ds).mergeSort (dataLe false fun p => p.2)).map (·.1)
def sortK (f : Fn) (x : D) (s : Sto) : R D := match x with
  | .ref i => match s.get i with
    | some (.lst xs) => (keysGo f xs s).bind fun ds s => if okKeys ds = true then newL (sortBy ds xs) s else .no
    | _ => .no
  | _ => .no
/-- sorted(list, key=f) -/
def xSortK (f : Fn) (e : Sem) : Sem := mk fun env s => (e.v env s).bind fun x s => sortK f x s
/-- sorted(a list of whole numbers) -/
def sortedB (xs : List D) (s : Sto) : R D := match xs with
  | [.ref i] => match s.get i with
    | some (.lst ys) => match intsD ys with
      | some ns => newL ((ns.mergeSort (fun a b => decide (a ≤ b))).map .int) s
      | none => .no
    | _ => .no
  | _ => .no
/-- a range taken whole -/
def rgW (x y : D) (s : Sto) (k : List D → Sto → R D) : R D := match x, y with
  | .int i, .int j => if bigI i = true ∧ bigI j = true ∧ (j - i).toNat ≤ 16777216 then k (rgD i (j - i).toNat) s else .no
  | _, _ => .no
/-- list(range(..)), tuple(range(..)) -/
def xLstR1 (a : Sem) : Sem := mk fun env s => (a.v env s).bind fun x s => rgW (.int 0) x s newL
def xLstR2 (a b : Sem) : Sem := mk fun env s => (a.v env s).bind fun x s => (b.v env s).bind fun y s => rgW x y s newL
def xTupR1 (a : Sem) : Sem := mk fun env s => (a.v env s).bind fun x s => rgW (.int 0) x s fun xs s => .ok (.tup xs) s
def xTupR2 (a b : Sem) : Sem := mk fun env s => (a.v env s).bind fun x s => (b.v env s).bind fun y s => rgW x y s fun xs s => .ok (.tup xs) s
/-- zip of two lists of the store -/
def zipW (xs : List D) (s : Sto) : R Wk := match xs with
  | [.ref i, .ref j] => match s.get i, s.get j with
    | some (.lst _), some (.lst _) => .ok (Wk.zip i j) s
    | _, _ => .no
  | _ => .no
def iZip2 (a : EvA) : EvI := fun env s => (a env s).bind zipW
/-- enumerate of a tuple, of a list -/
def enW2 (xs : List D) (s : Sto) : R Wk := match xs with
  | [.tup xs] => .ok (.its (enumD xs)) s
  | [.ref i] => match s.get i with
    | some (.lst _) => .ok (Wk.enl i) s
    | _ => .no
  | _ => .no
def iEnum2 (a : EvA) : EvI := fun env s => (a env s).bind enW2
/-- l.extend(a list or a tuple) -/
def extendM2 (x : D) (vs : List D) (s : Sto) : R D := match x, vs with
  | .ref i, [.ref j] => match s.get i, s.get j with
    | some (.lst xs), some (.lst ys) => if xs.length + ys.length ≤ sizeLine then .ok .non (s.set i (.lst (xs ++ ys))) else .no
    | _, _ => .no
  | .ref i, [.tup ys] => match s.get i with
    | some (.lst xs) => if xs.length + ys.length ≤ sizeLine then .ok .non (s.set i (.lst (xs ++ ys))) else .no
    | _ => .no
  | _, _ => .no
end Cs

/-! ## CsSim -/
namespace Cs
open PySem PySem.Spec PyProof.Rows L2

/-! ### what a value of the machine stands for -/
/-- a list that stays: locked, or of the written part -/
def SqF (K : PySem.W.Frag) (H : Hp) (a : Addr) (xs : List V) : Prop :=
  (∃ o, H a = some (.frz o (.lst xs))) ∨
    ∃ (o : Obj) (its : Array Value) (n : Nat), K.lookup a = some o ∧ o.cls = .type "list" ∧ o.dict = none ∧ o.data = .seq its n ∧ its.size ≤ sizeLine ∧ Vals xs its.toList
theorem SqF.sq {K : PySem.W.Frag} {H : Hp} {a : Addr} {xs : List V} (h : SqF K H a xs) : SqL K H a xs := by
  rcases h with h | h
  · exact .inl (.inr h)
  · exact .inr h
mutual
inductive Rep (K : PySem.W.Frag) (H : Hp) (μ : List Addr) : V → D → Prop
  | non : Rep K H μ .non .non
  | bl (b : Bool) : Rep K H μ (.bl b) (.bl b)
  | int (i : Int) : Rep K H μ (.int i) (.int i)
  | str (x : Str) : Rep K H μ (.str x) (.str x)
  | tup {a : Addr} {xs : List V} {ds : List D} : SqT K H a xs → Reps K H μ xs ds → Rep K H μ (.ref a) (.tup ds)
  | fix {a : Addr} {xs : List V} {ds : List D} : SqF K H a xs → Reps K H μ xs ds → Rep K H μ (.ref a) (.fix ds)
  | ref {i : Nat} {a : Addr} : μ[i]? = some a → Rep K H μ (.ref a) (.ref i)
inductive Reps (K : PySem.W.Frag) (H : Hp) (μ : List Addr) : List V → List D → Prop
  | nil : Reps K H μ [] []
  | cons {v : V} {vs : List V} {d : D} {ds : List D} : Rep K H μ v d → Reps K H μ vs ds → Reps K H μ (v :: vs) (d :: ds)
end
def RepO (K : PySem.W.Frag) (H : Hp) (μ : List Addr) (a : Addr) : O → Prop
  | .lst ds => ∃ xs, H a = some (.lst xs) ∧ Reps K H μ xs ds
  | .dct kvs => kvs = [] ∧ H a = some (.dK [])
structure Sim (K : PySem.W.Frag) (μ : List Addr) (H : Hp) (s : Sto) : Prop where
  nx : μ.length = s.n
  nd : μ.Nodup
  ob : ∀ (i : Nat) (a : Addr), μ[i]? = some a → ∃ o, s.get i = some o ∧ RepO K H μ a o
  up : ∀ i, s.n ≤ i → s.get i = none
/-- later: only the listed objects changed, new ones were new -/
structure Ext (μ : List Addr) (H : Hp) (μ' : List Addr) (H' : Hp) : Prop where
  pre : ∀ (i : Nat) (a : Addr), μ[i]? = some a → μ'[i]? = some a
  keep : ∀ a o, H a = some o → a ∉ μ → H' a = some o
  fresh : ∀ a, a ∈ μ' → a ∉ μ → H a = none
def EnvR (K : PySem.W.Frag) (H : Hp) (μ : List Addr) (σ : L2.St) (env : Env) : Prop :=
  σ.length = env.length ∧ ∀ (i : Nat) (d : D), env[i]? = some (some d) → ∃ v, σ[i]? = some (some v) ∧ Rep K H μ v d

section
variable {K : PySem.W.Frag} {μ μ' μ'' : List Addr} {H H' H'' : Hp} {s s' : Sto} {σ : L2.St} {env : Env}
theorem Ext.refl : Ext μ H μ H := ⟨fun _ _ h => h, fun _ _ h _ => h, fun _ h n => absurd h n⟩
theorem Ext.sub (e : Ext μ H μ' H') {a : Addr} (h : a ∈ μ) : a ∈ μ' := by
  obtain ⟨i, hi⟩ := List.getElem?_of_mem h
  exact List.mem_of_getElem? (e.pre i a hi)
theorem Ext.trans (e : Ext μ H μ' H') (f : Ext μ' H' μ'' H'') : Ext μ H μ'' H'' where
  pre := fun i a h => f.pre i a (e.pre i a h)
  keep := fun a o h n => by
    refine f.keep a o (e.keep a o h n) fun z => ?_
    have := e.fresh a z n
    rw [h] at this; cases this
  fresh := fun a h n => by
    by_cases z : a ∈ μ'
    · exact e.fresh a z n
    · have q := f.fresh a h z
      cases q' : H a with
      | none => rfl
      | some o =>
        have := e.keep a o q' n
        rw [q] at this; cases this
theorem Ext.same (h : Same H H') : Ext μ H μ H' := ⟨fun _ _ h => h, fun a o q _ => h a o q, fun _ h n => absurd h n⟩
def muO : List V ⊕ List (Key × V) → HO
  | .inl xs => .lst xs
  | .inr kvs => .dK kvs
theorem Sim.mem (S : Sim K μ H s) {a : Addr} (h : a ∈ μ) : ∃ z, H a = some (muO z) := by
  obtain ⟨i, hi, e⟩ := List.getElem_of_mem h
  obtain ⟨o, _, q⟩ := S.ob i a (by rw [List.getElem?_eq_getElem hi, e])
  cases o with
  | lst ds => obtain ⟨xs, hx, _⟩ := q; exact ⟨.inl xs, hx⟩
  | dct kvs => exact ⟨.inr [], q.2⟩
theorem Sim.nomem (S : Sim K μ H s) {a : Addr} (h : ∀ z, H a ≠ some (muO z)) : a ∉ μ := fun z => by
  obtain ⟨xs, e⟩ := S.mem z
  exact h xs e
theorem Sim.at (S : Sim K μ H s) {i : Nat} {o : O} (h : s.get i = some o) : ∃ a, μ[i]? = some a ∧ RepO K H μ a o := by
  by_cases hi : i < μ.length
  · obtain ⟨o', e, r⟩ := S.ob i μ[i] (List.getElem?_eq_getElem hi)
    rw [h] at e; cases e
    exact ⟨μ[i], List.getElem?_eq_getElem hi, r⟩
  · rw [S.up i (by rw [← S.nx]; omega)] at h; cases h
theorem sqT_keep (k : ∀ a xs, H a = some (.tup xs) → H' a = some (.tup xs)) (kf : ∀ a o u, H a = some (.frz o u) → H' a = some (.frz o u)) {a : Addr} {xs : List V} (h : SqT K H a xs) : SqT K H' a xs := by
  rcases h with (h | ⟨o, h⟩) | h
  · exact .inl (.inl (k _ _ h))
  · exact .inl (.inr ⟨o, kf _ _ _ h⟩)
  · exact .inr h
theorem sqF_keep (kf : ∀ a o u, H a = some (.frz o u) → H' a = some (.frz o u)) {a : Addr} {xs : List V} (h : SqF K H a xs) : SqF K H' a xs := by
  rcases h with ⟨o, h⟩ | h
  · exact .inl ⟨o, kf _ _ _ h⟩
  · exact .inr h
mutual
theorem Rep.keep (k : ∀ a xs, H a = some (.tup xs) → H' a = some (.tup xs)) (kf : ∀ a o u, H a = some (.frz o u) → H' a = some (.frz o u)) (km : ∀ (i : Nat) (a : Addr), μ[i]? = some a → μ'[i]? = some a) :
    ∀ (d : D) (v : V), Rep K H μ v d → Rep K H' μ' v d
  | .non, _, h => by cases h; exact .non
  | .bl b, _, h => by cases h; exact .bl b
  | .int i, _, h => by cases h; exact .int i
  | .str x, _, h => by cases h; exact .str x
  | .tup ds, _, h => by
    cases h with
    | tup q r => exact .tup (sqT_keep k kf q) (Reps.keep k kf km ds _ r)
  | .fix ds, _, h => by
    cases h with
    | fix q r => exact .fix (sqF_keep kf q) (Reps.keep k kf km ds _ r)
  | .ref i, _, h => by
    cases h with
    | ref q => exact .ref (km _ _ q)
theorem Reps.keep (k : ∀ a xs, H a = some (.tup xs) → H' a = some (.tup xs)) (kf : ∀ a o u, H a = some (.frz o u) → H' a = some (.frz o u)) (km : ∀ (i : Nat) (a : Addr), μ[i]? = some a → μ'[i]? = some a) :
    ∀ (ds : List D) (vs : List V), Reps K H μ vs ds → Reps K H' μ' vs ds
  | [], _, h => by cases h; exact .nil
  | d :: ds, _, h => by
    cases h with
    | cons r q => exact .cons (Rep.keep k kf km d _ r) (Reps.keep k kf km ds _ q)
end
theorem Rep.mono (S : Sim K μ H s) (e : Ext μ H μ' H') {v : V} {d : D} (r : Rep K H μ v d) : Rep K H' μ' v d :=
  Rep.keep (fun a xs h => e.keep a _ h (S.nomem fun ys z => by rw [h] at z; cases ys <;> cases z)) (fun a o u h => e.keep a _ h (S.nomem fun ys z => by rw [h] at z; cases ys <;> cases z)) e.pre d v r
theorem Reps.mono (S : Sim K μ H s) (e : Ext μ H μ' H') {v : List V} {d : List D} (r : Reps K H μ v d) : Reps K H' μ' v d :=
  Reps.keep (fun a xs h => e.keep a _ h (S.nomem fun ys z => by rw [h] at z; cases ys <;> cases z)) (fun a o u h => e.keep a _ h (S.nomem fun ys z => by rw [h] at z; cases ys <;> cases z)) e.pre d v r
theorem EnvR.mono (S : Sim K μ H s) (e : Ext μ H μ' H') (r : EnvR K H μ σ env) : EnvR K H' μ' σ env :=
  ⟨r.1, fun i d h => let ⟨v, h1, h2⟩ := r.2 i d h; ⟨v, h1, h2.mono S e⟩⟩
theorem Reps.length : ∀ {ds : List D} {vs : List V}, Reps K H μ vs ds → vs.length = ds.length
  | [], _, h => by cases h; rfl
  | d :: ds, _, h => by
    cases h with
    | cons r q => rw [List.length_cons, List.length_cons, q.length]
theorem Reps.get : ∀ {ds : List D} {vs : List V} {i : Nat} {d : D}, Reps K H μ vs ds → ds[i]? = some d → ∃ v, vs[i]? = some v ∧ Rep K H μ v d
  | [], _, _, _, _, h => by simp at h
  | d :: ds, _, 0, _, r, h => by
    cases r with
    | cons r q => simp at h; subst h; exact ⟨_, rfl, r⟩
  | d :: ds, _, i + 1, e, r, h => by
    cases r with
    | cons r q =>
      obtain ⟨v, h1, h2⟩ := Reps.get (i := i) q (by simpa using h)
      exact ⟨v, by simpa using h1, h2⟩
theorem Reps.none_of {ds : List D} {vs : List V} {i : Nat} (r : Reps K H μ vs ds) (h : ds[i]? = none) : vs[i]? = none := by
  rw [List.getElem?_eq_none_iff] at h ⊢
  rw [r.length]; exact h
theorem Reps.append : ∀ {ds es : List D} {vs ws : List V}, Reps K H μ vs ds → Reps K H μ ws es → Reps K H μ (vs ++ ws) (ds ++ es)
  | [], _, _, _, h, q => by cases h; exact q
  | d :: ds, _, _, _, h, q => by
    cases h with
    | cons r t => exact .cons r (t.append q)
theorem Reps.take : ∀ {ds : List D} {vs : List V} (n : Nat), Reps K H μ vs ds → Reps K H μ (vs.take n) (ds.take n)
  | _, _, 0, _ => .nil
  | [], _, n + 1, h => by cases h; exact .nil
  | d :: ds, _, n + 1, h => by
    cases h with
    | cons r t => exact .cons r (t.take n)
theorem Reps.drop : ∀ {ds : List D} {vs : List V} (n : Nat), Reps K H μ vs ds → Reps K H μ (vs.drop n) (ds.drop n)
  | _, _, 0, h => h
  | [], _, n + 1, h => by cases h; exact .nil
  | d :: ds, _, n + 1, h => by
    cases h with
    | cons r t => exact t.drop n
theorem Reps.set {v : V} {d : D} (r : Rep K H μ v d) : ∀ {ds : List D} {vs : List V} (i : Nat), Reps K H μ vs ds → Reps K H μ (vs.set i v) (ds.set i d)
  | [], _, _, h => by cases h; exact .nil
  | _ :: _, _, 0, h => by
    cases h with
    | cons _ t => exact .cons r t
  | _ :: _, _, i + 1, h => by
    cases h with
    | cons q t => exact .cons q (Reps.set r i t)
theorem Reps.dropLast {ds : List D} {vs : List V} (h : Reps K H μ vs ds) : Reps K H μ vs.dropLast ds.dropLast := by
  rw [List.dropLast_eq_take, List.dropLast_eq_take, h.length]
  exact h.take _
theorem Reps.eraseIdx : ∀ {ds : List D} {vs : List V} (i : Nat), Reps K H μ vs ds → Reps K H μ (vs.eraseIdx i) (ds.eraseIdx i)
  | [], _, _, h => by cases h; exact .nil
  | _ :: _, _, 0, h => by
    cases h with
    | cons _ t => exact t
  | _ :: _, _, i + 1, h => by
    cases h with
    | cons q t => exact .cons q (t.eraseIdx i)
theorem Reps.rep {ds : List D} {vs : List V} (h : Reps K H μ vs ds) : ∀ k : Nat, Reps K H μ (List.replicate k vs).flatten (List.replicate k ds).flatten
  | 0 => .nil
  | k + 1 => by
    rw [List.replicate_succ, List.replicate_succ, List.flatten_cons, List.flatten_cons]
    exact h.append (h.rep k)
theorem Reps.isEmpty {ds : List D} {vs : List V} (h : Reps K H μ vs ds) : vs.isEmpty = ds.isEmpty := by
  cases h <;> rfl
theorem Reps.cut {ds : List D} {vs : List V} (h : Reps K H μ vs ds) (lo hi : Option Int) : Reps K H μ (cutV vs lo hi) (cutD ds lo hi) := by
  unfold cutV cutD
  rw [h.length]
  exact (h.drop _).take _
/-- a new tuple -/
theorem rep_tup {p : Addr} {xs : List V} {ds : List D} (S : Sim K μ H s) (hp : H p = none) (r : Reps K H μ xs ds) : Ext μ H μ (upd H p (.tup xs)) ∧ Sim K μ (upd H p (.tup xs)) s ∧ Rep K (upd H p (.tup xs)) μ (.ref p) (.tup ds) := by
  have sm : Same H (upd H p (.tup xs)) := fun b x e => by
    rw [upd_ne (ne_of_none e hp)]; exact e
  have ex : Ext μ H μ (upd H p (.tup xs)) := .same sm
  refine ⟨ex, ⟨S.nx, S.nd, fun i a h => ?_, S.up⟩, .tup (.of upd_same) (r.mono S ex)⟩
  obtain ⟨o, e, q⟩ := S.ob i a h
  refine ⟨o, e, ?_⟩
  cases o with
  | lst ds => obtain ⟨ys, e1, r1⟩ := q; exact ⟨ys, sm _ _ e1, r1.mono S ex⟩
  | dct kvs => exact ⟨q.1, sm _ _ q.2⟩
theorem Sim.same (S : Sim K μ H s) (sm : Same H H') : Sim K μ H' s := by
  have ex : Ext μ H μ H' := .same sm
  refine ⟨S.nx, S.nd, fun i a h => ?_, S.up⟩
  obtain ⟨o, e, q⟩ := S.ob i a h
  refine ⟨o, e, ?_⟩
  cases o with
  | lst ds => obtain ⟨ys, e1, r1⟩ := q; exact ⟨ys, sm _ _ e1, r1.mono S ex⟩
  | dct kvs => exact ⟨q.1, sm _ _ q.2⟩
/-- a new list -/
theorem rep_lst {p : Addr} {xs : List V} {ds : List D} (S : Sim K μ H s) (hp : H p = none) (r : Reps K H μ xs ds) :
    Ext μ H (μ ++ [p]) (upd H p (.lst xs)) ∧ Sim K (μ ++ [p]) (upd H p (.lst xs)) (s.add (.lst ds)) ∧ Rep K (upd H p (.lst xs)) (μ ++ [p]) (.ref p) (.ref s.n) := by
  have sm : Same H (upd H p (.lst xs)) := fun b x e => by
    rw [upd_ne (ne_of_none e hp)]; exact e
  have np : p ∉ μ := S.nomem fun ys z => by rw [hp] at z; cases z
  have pre : ∀ (i : Nat) (a : Addr), μ[i]? = some a → (μ ++ [p])[i]? = some a := fun i a h => by
    rw [List.getElem?_append_left]
    · exact h
    · exact (List.getElem?_eq_some_iff.mp h).1
  have ex : Ext μ H (μ ++ [p]) (upd H p (.lst xs)) := ⟨pre, fun a o h _ => sm a o h, fun a h n => by
    rcases List.mem_append.mp h with h | h
    · exact absurd h n
    · rw [List.mem_singleton.mp h]; exact hp⟩
  refine ⟨ex, ⟨?_, ?_, fun i a h => ?_, fun i hi => ?_⟩, .ref ?_⟩
  · rw [List.length_append, S.nx]; rfl
  · rw [List.nodup_append]
    exact ⟨S.nd, by simp, fun a ha b hb e => np (by rw [List.mem_singleton.mp hb] at e; rw [← e]; exact ha)⟩
  · rw [Sto.get_add]
    by_cases hi : i = s.n
    · rw [if_pos hi]
      rw [hi, ← S.nx, List.getElem?_append_right (Nat.le_refl _), Nat.sub_self] at h
      have e : p = a := by simpa using h
      subst e
      exact ⟨_, rfl, xs, upd_same, r.mono S ex⟩
    · rw [if_neg hi]
      have hl : i < μ.length := by
        have := (List.getElem?_eq_some_iff.mp h).1
        rw [List.length_append, S.nx] at this
        have e1 : ([p] : List Addr).length = 1 := rfl
        rw [S.nx]; omega
      rw [List.getElem?_append_left hl] at h
      obtain ⟨o, e, q⟩ := S.ob i a h
      refine ⟨o, e, ?_⟩
      cases o with
      | lst ds => obtain ⟨ys, e1, r1⟩ := q; exact ⟨ys, sm _ _ e1, r1.mono S ex⟩
      | dct kvs => exact ⟨q.1, sm _ _ q.2⟩
  · rw [Sto.get_add, if_neg (by rw [Sto.n_add] at hi; omega)]
    exact S.up i (by rw [Sto.n_add] at hi; omega)
  · rw [← S.nx, List.getElem?_append_right (Nat.le_refl _), Nat.sub_self]; rfl
/-- a list changed -/
theorem rep_set {i : Nat} {a : Addr} {xs : List V} {ds : List D} {o : O} (S : Sim K μ H s) (ha : μ[i]? = some a) (r : Reps K H μ xs ds) :
    Ext μ H μ (upd H a (.lst xs)) ∧ Sim K μ (upd H a (.lst xs)) (s.set i (.lst ds)) := by
  have ex : Ext μ H μ (upd H a (.lst xs)) := ⟨fun _ _ h => h, fun b o h n => by
    rw [upd_ne (fun z => n (by rw [z]; exact List.mem_of_getElem? ha))]; exact h, fun _ h n => absurd h n⟩
  refine ⟨ex, S.nx, S.nd, fun j b h => ?_, fun j hj => ?_⟩
  · rw [Sto.get_set]
    by_cases hj : j = i
    · rw [if_pos hj]
      rw [hj, ha] at h
      have e : a = b := Option.some.inj h
      subst e
      exact ⟨_, rfl, xs, upd_same, r.mono S ex⟩
    · rw [if_neg hj]
      obtain ⟨o, e, q⟩ := S.ob j b h
      refine ⟨o, e, ?_⟩
      have nb : b ≠ a := fun z => by
        subst z
        exact hj ((List.getElem?_inj (List.getElem?_eq_some_iff.mp h).1 S.nd).mp (h.trans ha.symm))
      cases o with
      | lst ds => obtain ⟨ys, e1, r1⟩ := q; exact ⟨ys, by rw [upd_ne nb]; exact e1, r1.mono S ex⟩
      | dct kvs => exact ⟨q.1, by rw [upd_ne nb]; exact q.2⟩
  · rw [Sto.get_set, if_neg ?_]
    · exact S.up j hj
    · have := (List.getElem?_eq_some_iff.mp ha).1
      rw [S.nx] at this
      rw [Sto.n_set] at hj
      omega
end
end Cs

/-! ## CsSim2 -/
namespace Cs
open PySem PySem.Spec PyProof.Rows L2

/-! ### judgements -/
structure Gb where
  P : Program
  w : World
  K : PySem.W.Frag
  mg : Str → Option Value
  base : Heap
structure Cc where
  N : List Str
  sc : Scope
  fn : Str → Bool
  lv : Nat
structure Cc.Ok (g : Gb) (c : Cc) (X : Cx) : Prop where
  prog : X.prog = g.P
  w : X.w = g.w
  K : X.K = g.K
  mg : X.mg = g.mg
  base : X.base = g.base
  N : X.N = c.N
  sc : X.env.scope = c.sc
  nd : c.N.Nodup
  fn : ∀ x, c.fn x = true → X.fn x = true
  calm : X.calm = true
  xe : X.xe = fun _ _ => False
  room : Room c.lv X.A
def RdE (K : PySem.W.Frag) (m : EvE) : TE := fun σ H Q => ∃ μ s env d s', Sim K μ H s ∧ EnvR K H μ σ env ∧ m env s = .ok d s' ∧
  ∀ v H' μ', Ext μ H μ' H' → Sim K μ' H' s' → Rep K H' μ' v d → Q v H'
def RdT (K : PySem.W.Frag) (m : EvT) : TT := fun σ H Q => ∃ μ s env b s', Sim K μ H s ∧ EnvR K H μ σ env ∧ m env s = .ok b s' ∧
  ∀ H' μ', Ext μ H μ' H' → Sim K μ' H' s' → Q b H'
def RdA (K : PySem.W.Frag) (m : EvA) : TA := fun σ H Q => ∃ μ s env ds s', Sim K μ H s ∧ EnvR K H μ σ env ∧ m env s = .ok ds s' ∧
  ∀ vs H' μ', Ext μ H μ' H' → Sim K μ' H' s' → Reps K H' μ' vs ds → Q vs H'
def RdO (K : PySem.W.Frag) (m : EvO) : TO := fun σ H Q => ∃ μ s env d s', Sim K μ H s ∧ EnvR K H μ σ env ∧ m env s = .ok d s' ∧
  ∀ H' μ', Ext μ H μ' H' → Sim K μ' H' s' → Q d H'
/-- two values in, one out -/
def R2D (K : PySem.W.Frag) (f : D → D → Sto → R D) : R2 := fun x y H Q => ∃ μ s dx dy d s', Sim K μ H s ∧ Rep K H μ x dx ∧ Rep K H μ y dy ∧ f dx dy s = .ok d s' ∧
  ∀ v H' μ', Ext μ H μ' H' → Sim K μ' H' s' → Rep K H' μ' v d → Q v H'
def R1D (K : PySem.W.Frag) (f : D → Sto → R D) : V → Hp → VK → Prop := fun x H Q => ∃ μ s dx d s', Sim K μ H s ∧ Rep K H μ x dx ∧ f dx s = .ok d s' ∧
  ∀ v H' μ', Ext μ H μ' H' → Sim K μ' H' s' → Rep K H' μ' v d → Q v H'
def RnD (K : PySem.W.Frag) (f : List D → Sto → R D) : List V → Hp → VK → Prop := fun xs H Q => ∃ μ s ds d s', Sim K μ H s ∧ Reps K H μ xs ds ∧ f ds s = .ok d s' ∧
  ∀ v H' μ', Ext μ H μ' H' → Sim K μ' H' s' → Rep K H' μ' v d → Q v H'
def RmD (K : PySem.W.Frag) (f : D → List D → Sto → R D) : V → List V → Hp → VK → Prop := fun x xs H Q => ∃ μ s dx ds d s', Sim K μ H s ∧ Rep K H μ x dx ∧ Reps K H μ xs ds ∧ f dx ds s = .ok d s' ∧
  ∀ v H' μ', Ext μ H μ' H' → Sim K μ' H' s' → Rep K H' μ' v d → Q v H'

variable (g : Gb) (c : Cc)
def JE (m : Sem) (e : Expr) : Prop := ∀ X : Cx, c.Ok g X → PE X e (RdE g.K m.v) ∧ PT X e (RdT g.K m.t)
def JA (m : EvA) (es : List Expr) : Prop := ∀ X : Cx, c.Ok g X → PA X es (RdA g.K m)
def JO (m : EvO) (e : Option Expr) : Prop := ∀ X : Cx, c.Ok g X → PO X e (RdO g.K m)
variable {g c}

theorem bind_ok {α β : Type} {r : R α} {f : α → Sto → R β} {b : β} {s' : Sto} (h : r.bind f = .ok b s') : ∃ a s, r = .ok a s ∧ f a s = .ok b s' := by
  cases r with
  | ok a s => exact ⟨a, s, rfl, h⟩
  | no => cases h

theorem PE.imp {X : Cx} {e : Expr} {t t' : TE} (h : PE X e t) (f : ∀ σ H Q, t' σ H Q → t σ H Q) : PE X e t' := ⟨fun pins s σ H Q I q => h.run pins s σ H Q I (f σ H Q q)⟩
theorem PT.imp {X : Cx} {e : Expr} {t t' : TT} (h : PT X e t) (f : ∀ σ H Q, t' σ H Q → t σ H Q) : PT X e t' := ⟨fun pins s σ H Q I q => h.run pins s σ H Q I (f σ H Q q)⟩
theorem PW.imp {X : Cx} {e : Expr} {t t' : TT} (h : PW X e t) (f : ∀ σ H Q, t' σ H Q → t σ H Q) : PW X e t' := ⟨fun wh pins s σ H Q I q => h.run wh pins s σ H Q I (f σ H Q q)⟩
theorem PA.imp {X : Cx} {e : List Expr} {t t' : TA} (h : PA X e t) (f : ∀ σ H Q, t' σ H Q → t σ H Q) : PA X e t' := ⟨fun p pins s σ H Q I q => h.run p pins s σ H Q I (f σ H Q q)⟩
theorem PO.imp {X : Cx} {e : Option Expr} {t t' : TO} (h : PO X e t) (f : ∀ σ H Q, t' σ H Q → t σ H Q) : PO X e t' := ⟨fun pins s σ H Q I q => h.run pins s σ H Q I (f σ H Q q)⟩
theorem OpR.imp {X : Cx} {f : Value → Value → PySem.Sem Value} {r r' : R2} (h : OpR X f r) (i : ∀ x y H Q, r' x y H Q → r x y H Q) : OpR X f r' := fun pins s σ H x y v u Q I rx ry q => h pins s σ H x y v u Q I rx ry (i x y H Q q)
theorem UnR.imp {X : Cx} {f : Value → PySem.Sem Value} {r r' : V → Hp → VK → Prop} (h : UnR X f r) (i : ∀ x H Q, r' x H Q → r x H Q) : UnR X f r' := fun pins s σ H x v Q I rx q => h pins s σ H x v Q I rx (i x H Q q)
theorem CallR.imp {X : Cx} {f : Value} {r r' : List V → Hp → VK → Prop} (h : CallR X f r) (i : ∀ x H Q, r' x H Q → r x H Q) : CallR X f r' := fun pins s σ H x v Q I rx q => h pins s σ H x v Q I rx (i x H Q q)

section
variable {K : PySem.W.Frag} {μ : List Addr} {H : Hp} {s s' : Sto} {v : V} {d : D}
theorem truth_tru {b : Bool} (S : Sim K μ H s) (r : Rep K H μ v d) (h : truth d s = .ok b s') : s' = s ∧ TruV K v H b := by
  cases r with
  | non => cases h; exact ⟨rfl, rfl⟩
  | bl b => cases h; exact ⟨rfl, rfl⟩
  | int i => cases h; exact ⟨rfl, rfl⟩
  | str x =>
    unfold truth at h
    dsimp only at h
    split at h
    · rename_i hl
      cases h
      refine ⟨rfl, hl, ?_⟩
      by_cases z : x.length = 0
      · rw [z]; rfl
      · have z' : ¬ ((x.length : Int) = 0) := by omega
        show (!(x.length == 0)) = !((x.length : Int) == 0)
        rw [beq_eq_false_iff_ne.mpr z, beq_eq_false_iff_ne.mpr z']
    · cases h
  | tup q r => cases h; exact ⟨rfl, .inr (.inl ⟨_, q, by rw [r.isEmpty]⟩)⟩
  | fix q r => cases h; exact ⟨rfl, .inl ⟨_, q.sq, by rw [r.isEmpty]⟩⟩
  | @ref i a q =>
    obtain ⟨o, e, ro⟩ := S.ob i a q
    unfold truth at h
    dsimp only at h
    rw [e] at h
    cases o with
    | lst ds =>
      cases h
      obtain ⟨xs, e1, r1⟩ := ro
      exact ⟨rfl, .inl ⟨xs, .of e1, by rw [r1.isEmpty]⟩⟩
    | dct kvs => cases h
end

section
variable {X : Cx} {e a b : Expr} {pos : Pos}
/-- an expression's test is its value's truth -/
theorem pt_mk {K : PySem.W.Frag} (hK : X.K = K) {v : EvE} (h : PE X e (RdE K v)) (he : ∀ whole, isTrue e X.env whole = (do let v ← whole; standAt e.pos; holding [v] (truthy v))) : PT X e (RdT K (mk v).t) := by
  refine PT.imp (pt_truth h he) fun σ H Q q => ?_
  obtain ⟨μ, s, env, b, s', S, E, hv, q⟩ := q
  obtain ⟨d, s1, h1, h2⟩ := bind_ok hv
  refine ⟨μ, s, env, d, s1, S, E, h1, fun v H' μ' ex S' r => ?_⟩
  obtain ⟨rfl, t⟩ := truth_tru S' r h2
  exact ⟨b, by rw [hK]; exact t, q H' μ' ex S'⟩
/-- .. of a comparison -/
theorem pt_mkB {K : PySem.W.Frag} {v : EvE} (hb : ∀ env s d s', v env s = .ok d s' → ∃ b, d = .bl b) (h : PT X e (fun σ H Q => RdE K v σ H fun x H' => ∃ k, x = .bl k ∧ Q k H')) : PT X e (RdT K (mk v).t) := by
  refine PT.imp h fun σ H Q q => ?_
  obtain ⟨μ, s, env, b, s', S, E, hv, q⟩ := q
  obtain ⟨d, s1, h1, h2⟩ := bind_ok hv
  obtain ⟨k, rfl⟩ := hb _ _ _ _ h1
  obtain ⟨rfl, rfl⟩ : k = b ∧ s1 = s' := by
    have e2 : R.ok k s1 = .ok b s' := h2
    injection e2 with e3 e4
    exact ⟨e3, e4⟩
  refine ⟨μ, s, env, .bl k, s1, S, E, h1, fun v H' μ' ex S' r => ?_⟩
  cases r
  exact ⟨k, rfl, q H' μ' ex S'⟩
end

section
variable {m ma mb mc : Sem} {e a b d : Expr} {pos : Pos}
theorem je_mk {v : EvE} (h : ∀ X : Cx, c.Ok g X → PE X e (RdE g.K v)) (he : ∀ env whole, isTrue e env whole = (do let v ← whole; standAt e.pos; holding [v] (truthy v))) : JE g c (mk v) e := fun X ok =>
  ⟨h X ok, pt_mk ok.K (h X ok) (he X.env)⟩
theorem rdE_const {K : PySem.W.Frag} {v : V} {d : D} (r : ∀ H μ, Rep K H μ v d) {σ : L2.St} {H : Hp} {Q : VK} (h : RdE K (fun _ s => .ok d s) σ H Q) : Q v H := by
  obtain ⟨μ, s, env, d', s', S, E, hv, q⟩ := h
  cases hv
  exact q v H μ .refl S (r H μ)
theorem je_int {i j pos} : JE g c (xC (.int i)) (.Constant (.int i) j pos) := je_mk (fun X ok => PE.imp pe_int fun σ H Q h => rdE_const (fun _ _ => .int i) h) (by intro _ _; rfl)
theorem je_bl {i j pos} : JE g c (xC (.bl i)) (.Constant (.bool i) j pos) := je_mk (fun X ok => PE.imp pe_bl fun σ H Q h => rdE_const (fun _ _ => .bl i) h) (by intro _ _; rfl)
theorem je_str {i j pos} : JE g c (xC (.str i)) (.Constant (.str i) j pos) := je_mk (fun X ok => PE.imp pe_str fun σ H Q h => rdE_const (fun _ _ => .str i) h) (by intro _ _; rfl)
theorem je_non {j pos} : JE g c (xC .non) (.Constant .none j pos) := je_mk (fun X ok => PE.imp pe_non fun σ H Q h => rdE_const (fun _ _ => .non) h) (by intro _ _; rfl)
/-- a module's constant: an int, a text -/
theorem je_glob {x : Str} {v : V} {u : Value} {k : D} (hs : c.sc.names.lookup x = some .globalImplicit) (hm : g.mg x = some u) (r : RelV v u) (rk : ∀ H μ, Rep g.K H μ v k) (hd : (x == ("__debug__" : Str)) = false := by decide) : JE g c (xC k) (.Name x pos) :=
  je_mk (fun X ok => PE.imp (pe_glob (by show X.env.scope.names.lookup x = _; rw [ok.sc]; exact hs) (by rw [ok.mg]; exact hm) r hd) fun σ H Q h => rdE_const rk h) (by intro _ _; rfl)
/-- a name of the def -/
def Cc.vis (c : Cc) (x : Str) : Prop := c.sc.names.lookup x = some .local ∨ c.sc.names.lookup x = some .cell ∨ c.sc.names.lookup x = some .free
theorem je_var {x : Str} (i : Nat) (hN : c.N[i]? = some x := by rfl) (hv : c.vis x := by first | exact Or.inl rfl | exact Or.inr (Or.inl rfl) | exact Or.inr (Or.inr rfl)) (hd : (x == ("__debug__" : Str)) = false := by decide)
    (hcd : (x == ("__classdict__" : Str)) = false := by decide) : JE g c (xVar i) (.Name x pos) := by
  refine je_mk (fun X ok => PE.imp (pe_var (i := i) (by rw [ok.N]; exact hN) (by unfold Vis; rw [ok.sc]; exact hv) hd hcd) fun σ H Q h => ?_) (by intro _ _; rfl)
  obtain ⟨μ, s, env, d', s', S, E, hv, q⟩ := h
  dsimp only at hv
  split at hv
  · rename_i d'' he
    cases hv
    obtain ⟨v, h1, h2⟩ := E.2 i _ he
    exact ⟨v, h1, q v H μ .refl S h2⟩
  · cases hv
/-- two in a row -/
theorem rd_two {K : PySem.W.Frag} {ma mb : EvE} {f : D → D → Sto → R D} {σ : L2.St} {H : Hp} {Q : VK} (h : RdE K (fun env s => (ma env s).bind fun x s => (mb env s).bind fun y s => f x y s) σ H Q) :
    tOp (R2D K f) (RdE K ma) (RdE K mb) σ H Q := by
  obtain ⟨μ, s, env, d, s', S, E, hv, q⟩ := h
  obtain ⟨d1, s1, h1, hv⟩ := bind_ok hv
  obtain ⟨d2, s2, h2, hv⟩ := bind_ok hv
  refine ⟨μ, s, env, d1, s1, S, E, h1, fun v1 H1 μ1 x1 S1 r1 => ?_⟩
  refine ⟨μ1, s1, env, d2, s2, S1, E.mono S x1, h2, fun v2 H2 μ2 x2 S2 r2 => ?_⟩
  exact ⟨μ2, s2, d1, d2, d, s', S2, r1.mono S1 x2, r2, hv, fun v H' μ' x3 S3 r3 => q v H' μ' (x1.trans (x2.trans x3)) S3 r3⟩
theorem je_bin {op : Operator} {f : D → D → Sto → R D} (ho : ∀ X : Cx, c.Ok g X → OpR X (binaryOp op) (R2D g.K f)) (ha : JE g c ma a) (hb : JE g c mb b) : JE g c (xBin f ma mb) (.BinOp a op b pos) :=
  je_mk (fun X ok => PE.imp (pe_op (ho X ok) (ha X ok).1 (hb X ok).1) fun σ H Q h => rd_two h) (by intro _ _; rfl)
theorem je_un {op : UnaryOp} {f : D → Sto → R D} (ho : ∀ X : Cx, c.Ok g X → UnR X (unaryOp op) (R1D g.K f)) (ha : JE g c ma a) (he : ∀ env whole, isTrue (.UnaryOp op a pos) env whole = (do let v ← whole; standAt pos; holding [v] (truthy v)) := by intro _ _; rfl) : JE g c (xUn f ma) (.UnaryOp op a pos) := by
  refine je_mk (fun X ok => PE.imp (pe_un (ho X ok) (ha X ok).1) fun σ H Q h => ?_) he
  obtain ⟨μ, s, env, d, s', S, E, hv, q⟩ := h
  obtain ⟨d1, s1, h1, hv⟩ := bind_ok hv
  exact ⟨μ, s, env, d1, s1, S, E, h1, fun v1 H1 μ1 x1 S1 r1 => ⟨μ1, s1, d1, d, s', S1, r1, hv, fun v H' μ' x3 S3 r3 => q v H' μ' (x1.trans x3) S3 r3⟩⟩
theorem je_cmp {op : CmpOp} {f : D → D → Sto → R D} (ho : ∀ X : Cx, c.Ok g X → OpR X (compareOp op) (R2D g.K f)) (hf : ∀ x y s d s', f x y s = .ok d s' → ∃ b, d = .bl b) (ha : JE g c ma a) (hb : JE g c mb b) (hm : behindInMarks op b = false := by first | exact nomark _ | rfl) :
    JE g c (xBin f ma mb) (.Compare a [op] [b] pos) := fun X ok =>
  ⟨PE.imp (pe_cmpR (ho X ok) (ha X ok).1 (hb X ok).1 hm) fun σ H Q h => rd_two h,
   pt_mkB (fun env s d s' h => by
      obtain ⟨d1, s1, _, h⟩ := bind_ok h
      obtain ⟨d2, s2, _, h⟩ := bind_ok h
      exact hf _ _ _ _ _ h) (PT.imp (pt_cmpR (ho X ok) (ha X ok).1 (hb X ok).1 hm) fun σ H Q h => rd_two h)⟩
theorem rd_chain {K : PySem.W.Frag} {ma mb mc : EvE} {f f' : D → D → Sto → R D} (hf : ∀ x y s d s', f x y s = .ok d s' → ∃ b, d = .bl b) {σ : L2.St} {H : Hp} {Q : VK}
    (h : RdE K (fun env s => (ma env s).bind fun x s => (mb env s).bind fun y s => (f x y s).bind fun z s => match z with
      | .bl true => (mc env s).bind fun w s => f' y w s
      | .bl false => .ok (.bl false) s
      | _ => .no) σ H Q) : tChain (R2D K f) (R2D K f') (RdE K ma) (RdE K mb) (RdE K mc) σ H Q := by
  obtain ⟨μ, s, env, d, s', S, E, hv, q⟩ := h
  obtain ⟨d1, s1, h1, hv⟩ := bind_ok hv
  obtain ⟨d2, s2, h2, hv⟩ := bind_ok hv
  obtain ⟨d3, s3, h3, hv⟩ := bind_ok hv
  refine ⟨μ, s, env, d1, s1, S, E, h1, fun v1 H1 μ1 x1 S1 r1 => ?_⟩
  refine ⟨μ1, s1, env, d2, s2, S1, E.mono S x1, h2, fun v2 H2 μ2 x2 S2 r2 => ?_⟩
  refine ⟨μ2, s2, d1, d2, d3, s3, S2, r1.mono S1 x2, r2, h3, fun v3 H3 μ3 x3 S3 r3 => ?_⟩
  obtain ⟨k, rfl⟩ := hf _ _ _ _ _ h3
  cases r3
  refine ⟨k, rfl, ?_⟩
  cases k with
  | true =>
    obtain ⟨d4, s4, h4, hv⟩ := bind_ok hv
    refine iteT ⟨μ3, s3, env, d4, s4, S3, (E.mono S x1).mono S1 (x2.trans x3), h4, fun v4 H4 μ4 x4 S4 r4 => ?_⟩
    exact ⟨μ4, s4, d2, d4, d, s', S4, r2.mono S2 (x3.trans x4), r4, hv, fun v H' μ' x5 S5 r5 => q v H' μ' (x1.trans (x2.trans (x3.trans (x4.trans x5)))) S5 r5⟩
  | false =>
    cases hv
    exact iteF (q _ H3 μ3 (x1.trans (x2.trans x3)) S3 (.bl false))
theorem je_chain {op op' : CmpOp} {f f' : D → D → Sto → R D} (ho : ∀ X : Cx, c.Ok g X → OpR X (compareOp op) (R2D g.K f)) (ho' : ∀ X : Cx, c.Ok g X → OpR X (compareOp op') (R2D g.K f'))
    (hf : ∀ x y s d s', f x y s = .ok d s' → ∃ b, d = .bl b) (hf' : ∀ x y s d s', f' x y s = .ok d s' → ∃ b, d = .bl b) (ha : JE g c ma a) (hb : JE g c mb b) (hc : JE g c mc d)
    (hm : lastMarks [op, op'] [b, d] = false := by with_unfolding_all rfl) : JE g c (xChain f f' ma mb mc) (.Compare a [op, op'] [b, d] pos) := fun X ok =>
  ⟨PE.imp (pe_chain (ho X ok) (ho' X ok) (ha X ok).1 (hb X ok).1 (hc X ok).1 hm) fun σ H Q h => rd_chain hf h,
   pt_mkB (fun env s d s' h => by
      obtain ⟨d1, s1, _, h⟩ := bind_ok h
      obtain ⟨d2, s2, _, h⟩ := bind_ok h
      obtain ⟨d3, s3, h3, h⟩ := bind_ok h
      obtain ⟨k, rfl⟩ := hf _ _ _ _ _ h3
      cases k with
      | true =>
        obtain ⟨d4, s4, _, h⟩ := bind_ok h
        exact hf' _ _ _ _ _ h
      | false => cases h; exact ⟨_, rfl⟩) (PT.imp (pt_chain (ho X ok) (ho' X ok) (ha X ok).1 (hb X ok).1 (hc X ok).1 hm) fun σ H Q h => rd_chain hf h)⟩
/-! ### and, or, not, if -/
theorem rdT_not {K : PySem.W.Frag} {ma : EvT} {σ : L2.St} {H : Hp} {Q : Bool → Hp → Prop} (h : RdT K (fun env s => (ma env s).bind fun b s => .ok (!b) s) σ H Q) : tNot (RdT K ma) σ H Q := by
  obtain ⟨μ, s, env, d, s', S, E, hv, q⟩ := h
  obtain ⟨d1, s1, h1, hv⟩ := bind_ok hv
  cases hv
  exact ⟨μ, s, env, d1, s', S, E, h1, fun H1 μ1 x1 S1 => q H1 μ1 x1 S1⟩
theorem je_not (ha : JE g c ma a) : JE g c (xNot ma) (.UnaryOp .Not a pos) := fun X ok => by
  refine ⟨PE.imp (pe_notT (ha X ok).1) fun σ H Q h => ?_, PT.imp (pt_not (ha X ok).2) fun σ H Q h => rdT_not h⟩
  obtain ⟨μ, s, env, d, s', S, E, hv, q⟩ := h
  obtain ⟨d1, s1, h1, hv⟩ := bind_ok hv
  obtain ⟨k, s2, h2, hv⟩ := bind_ok hv
  cases hv
  refine ⟨μ, s, env, d1, s1, S, E, h1, fun v H1 μ1 x1 S1 r1 => ?_⟩
  obtain ⟨rfl, t⟩ := truth_tru S1 r1 h2
  exact ⟨k, by rw [ok.K]; exact t, q _ H1 μ1 x1 S1 (.bl _)⟩
/-- a chain of and | or: all its parts -/
def JW (g : Gb) (c : Cc) (op : BoolOp) (m : Sem) (es : List Expr) : Prop := ∀ (pos : Pos) (X : Cx), c.Ok g X → PE X (.BoolOp op es pos) (RdE g.K m.v) ∧ PW X (.BoolOp op es pos) (RdT g.K m.t)
theorem je_bool {op : BoolOp} {es : List Expr} (h : JW g c op m es) : JE g c m (.BoolOp op es pos) := fun X ok => ⟨(h pos X ok).1, (h pos X ok).2.pt⟩
theorem jw_and1 (ha : JE g c ma a) : JW g c .And ma [a] := fun pos X ok => ⟨pe_one (ha X ok).1, pw_and1 (ha X ok).2⟩
theorem jw_or1 (ha : JE g c ma a) : JW g c .Or ma [a] := fun pos X ok => ⟨pe_one (ha X ok).1, pw_or1 (ha X ok).2⟩
theorem jw_and {es : List Expr} (ha : JE g c ma a) (hb : JW g c .And mb (b :: es)) : JW g c .And (xAnd ma mb) (a :: b :: es) := fun pos X ok => by
  refine ⟨PE.imp (pe_andT (ha X ok).1 (hb pos X ok).1) fun σ H Q h => ?_, PW.imp (pw_and (ha X ok).2 (hb pos X ok).2) fun σ H Q h => ?_⟩
  · obtain ⟨μ, s, env, d, s', S, E, hv, q⟩ := h
    obtain ⟨d1, s1, h1, hv⟩ := bind_ok hv
    obtain ⟨k, s2, h2, hv⟩ := bind_ok hv
    refine ⟨μ, s, env, d1, s1, S, E, h1, fun v H1 μ1 x1 S1 r1 => ?_⟩
    obtain ⟨rfl, t⟩ := truth_tru S1 r1 h2
    refine ⟨k, by rw [ok.K]; exact t, ?_⟩
    cases k with
    | true => exact iteT ⟨μ1, s2, env, d, s', S1, E.mono S x1, hv, fun v H2 μ2 x2 S2 r2 => q v H2 μ2 (x1.trans x2) S2 r2⟩
    | false => cases hv; exact iteF (q v H1 μ1 x1 S1 r1)
  · obtain ⟨μ, s, env, d, s', S, E, hv, q⟩ := h
    obtain ⟨k, s1, h1, hv⟩ := bind_ok hv
    refine ⟨μ, s, env, k, s1, S, E, h1, fun H1 μ1 x1 S1 => ?_⟩
    cases k with
    | true => exact iteT ⟨μ1, s1, env, d, s', S1, E.mono S x1, hv, fun H2 μ2 x2 S2 => q H2 μ2 (x1.trans x2) S2⟩
    | false => cases hv; exact iteF (q H1 μ1 x1 S1)
theorem jw_or {es : List Expr} (ha : JE g c ma a) (hb : JW g c .Or mb (b :: es)) : JW g c .Or (xOr ma mb) (a :: b :: es) := fun pos X ok => by
  refine ⟨PE.imp (pe_orT (ha X ok).1 (hb pos X ok).1) fun σ H Q h => ?_, PW.imp (pw_or (ha X ok).2 (hb pos X ok).2) fun σ H Q h => ?_⟩
  · obtain ⟨μ, s, env, d, s', S, E, hv, q⟩ := h
    obtain ⟨d1, s1, h1, hv⟩ := bind_ok hv
    obtain ⟨k, s2, h2, hv⟩ := bind_ok hv
    refine ⟨μ, s, env, d1, s1, S, E, h1, fun v H1 μ1 x1 S1 r1 => ?_⟩
    obtain ⟨rfl, t⟩ := truth_tru S1 r1 h2
    refine ⟨k, by rw [ok.K]; exact t, ?_⟩
    cases k with
    | false => exact iteF ⟨μ1, s2, env, d, s', S1, E.mono S x1, hv, fun v H2 μ2 x2 S2 r2 => q v H2 μ2 (x1.trans x2) S2 r2⟩
    | true => cases hv; exact iteT (q v H1 μ1 x1 S1 r1)
  · obtain ⟨μ, s, env, d, s', S, E, hv, q⟩ := h
    obtain ⟨k, s1, h1, hv⟩ := bind_ok hv
    refine ⟨μ, s, env, k, s1, S, E, h1, fun H1 μ1 x1 S1 => ?_⟩
    cases k with
    | false => exact iteF ⟨μ1, s1, env, d, s', S1, E.mono S x1, hv, fun H2 μ2 x2 S2 => q H2 μ2 (x1.trans x2) S2⟩
    | true => cases hv; exact iteT (q H1 μ1 x1 S1)
theorem je_if (hc : JE g c mc d) (ha : JE g c ma a) (hb : JE g c mb b) : JE g c (xIf mc ma mb) (.IfExp d a b pos) := fun X ok => by
  refine ⟨PE.imp (pe_ifExp (hc X ok).2 (ha X ok).1 (hb X ok).1) fun σ H Q h => ?_, ⟨fun pins s σ H Q I h => ?_⟩⟩
  · obtain ⟨μ, s, env, d, s', S, E, hv, q⟩ := h
    obtain ⟨k, s1, h1, hv⟩ := bind_ok hv
    refine ⟨μ, s, env, k, s1, S, E, h1, fun H1 μ1 x1 S1 => ?_⟩
    cases k with
    | true => exact iteT ⟨μ1, s1, env, d, s', S1, E.mono S x1, hv, fun v H2 μ2 x2 S2 r2 => q v H2 μ2 (x1.trans x2) S2 r2⟩
    | false => exact iteF ⟨μ1, s1, env, d, s', S1, E.mono S x1, hv, fun v H2 μ2 x2 S2 r2 => q v H2 μ2 (x1.trans x2) S2 r2⟩
  · obtain ⟨μ, s0, env, b, s', S, E, hv, q⟩ := h
    obtain ⟨k, s1, h1, hv⟩ := bind_ok hv
    refine isTrue_IfExp (thn ((hc X ok).2.run pins s σ H (fun b H1 => (if b = true then RdT g.K ma.t σ H1 Q else RdT g.K mb.t σ H1 Q)) I ⟨μ, s0, env, k, s1, S, E, h1, fun H1 μ1 x1 S1 => ?_⟩) fun b s2 h2 => ?_)
    · cases k with
      | true => exact iteT ⟨μ1, s1, env, b, s', S1, E.mono S x1, hv, fun H2 μ2 x2 S2 => q H2 μ2 (x1.trans x2) S2⟩
      | false => exact iteF ⟨μ1, s1, env, b, s', S1, E.mono S x1, hv, fun H2 μ2 x2 S2 => q H2 μ2 (x1.trans x2) S2⟩
    · obtain ⟨H1, I1, q1⟩ := h2
      cases b with
      | true => exact (ha X ok).2.run pins s2 σ H1 Q I1 q1
      | false => exact (hb X ok).2.run pins s2 σ H1 Q I1 q1
/-! ### argument lists, displays, calls -/
theorem ja_nil : JA g c aNil [] := fun X ok => PA.imp pa_nil fun σ H Q h => by
  obtain ⟨μ, s, env, d, s', S, E, hv, q⟩ := h
  cases hv
  exact q [] H μ .refl S .nil
/-- no star -/
def noStar : Expr → Bool
  | .Starred _ _ => false
  | _ => true
theorem star_cons {e : Expr} {es : List Expr} (h : noStar e = true) (env : PySem.Env) : starEach (e :: es) env = (false, eval e env) :: starEach es env := by
  cases e <;> first | rfl | (cases h)
theorem ja_cons {r : EvA} {es : List Expr} (ha : JE g c ma a) (hr : JA g c r es) (hs : noStar a = true := by rfl) : JA g c (aCons ma r) (a :: es) := fun X ok =>
  PA.imp (pa_cons (ha X ok).1 (hr X ok) (star_cons hs _)) fun σ H Q h => by
    obtain ⟨μ, s, env, d, s', S, E, hv, q⟩ := h
    obtain ⟨d1, s1, h1, hv⟩ := bind_ok hv
    obtain ⟨d2, s2, h2, hv⟩ := bind_ok hv
    cases hv
    refine ⟨μ, s, env, d1, s1, S, E, h1, fun v1 H1 μ1 x1 S1 r1 => ?_⟩
    refine ⟨μ1, s1, env, d2, s', S1, E.mono S x1, h2, fun v2 H2 μ2 x2 S2 r2 => ?_⟩
    exact q _ H2 μ2 (x1.trans x2) S2 (.cons (r1.mono S1 x2) r2)
theorem je_tup {r : EvA} {es : List Expr} {k : Nat} (h : JA g c r es) : JE g c (xTup r) (.Tuple es k pos) :=
  je_mk (fun X ok => PE.imp (pe_tup (h X ok)) fun σ H Q h => by
    obtain ⟨μ, s, env, d, s', S, E, hv, q⟩ := h
    obtain ⟨ds, s1, h1, hv⟩ := bind_ok hv
    refine ⟨μ, s, env, ds, s1, S, E, h1, fun vs H1 μ1 x1 S1 r1 => ?_⟩
    split at hv
    · rename_i hl
      cases hv
      refine ⟨by rw [r1.length]; exact hl, fun p hp => ?_⟩
      obtain ⟨x2, S2, r2⟩ := rep_tup S1 hp r1
      exact q _ _ μ1 (x1.trans x2) S2 r2
    · cases hv) (by intro _ _; rfl)
theorem newL_ok {K : PySem.W.Frag} {μ : List Addr} {H : Hp} {s s' : Sto} {ds : List D} {d : D} {vs : List V} (S : Sim K μ H s) (r : Reps K H μ vs ds) (h : newL ds s = .ok d s') {p : Addr} (hp : H p = none) :
    vs.length ≤ sizeLine ∧ Ext μ H (μ ++ [p]) (upd H p (.lst vs)) ∧ Sim K (μ ++ [p]) (upd H p (.lst vs)) s' ∧ Rep K (upd H p (.lst vs)) (μ ++ [p]) (.ref p) d := by
  unfold newL at h
  split at h
  · rename_i hl
    cases h
    exact ⟨by rw [r.length]; exact hl, rep_lst S hp r⟩
  · cases h
theorem je_lst {r : EvA} {es : List Expr} (h : JA g c r es) : JE g c (xLst r) (.List es pos) :=
  je_mk (fun X ok => PE.imp (pe_lst (h X ok)) fun σ H Q h => by
    obtain ⟨μ, s, env, d, s', S, E, hv, q⟩ := h
    obtain ⟨ds, s1, h1, hv⟩ := bind_ok hv
    refine ⟨μ, s, env, ds, s1, S, E, h1, fun vs H1 μ1 x1 S1 r1 => ?_⟩
    have z : vs.length ≤ sizeLine := by
      rw [r1.length]
      unfold newL at hv
      split at hv
      · assumption
      · cases hv
    refine ⟨z, fun p hp => ?_⟩
    obtain ⟨_, x2, S2, r2⟩ := newL_ok S1 r1 hv hp
    exact q _ _ _ (x1.trans x2) S2 r2) (by intro _ _; rfl)
/-- what a def of n parameters promises -/
def spD (K : PySem.W.Frag) (n : Nat) (m : Fn) : Sp := fun vs H Q _ => vs.length = n ∧ RnD K m vs H Q
/-- a def that stands under the name x: its meaning m -/
structure FnS (g : Gb) (lv : Nat) (x : Str) (ps : List Str) (m : Fn) : Prop where
  len : ∀ ds s d s', m ds s = .ok d s' → ds.length = ps.length
  ex : ∃ f fd, g.mg x = some (.ref f) ∧ PySem.W.keepIn g.K (.ref f) = true ∧ Binds g.K fd ps [] ∧ FnOk g.P g.w g.K g.mg g.base CX0 lv f fd ps (spD g.K ps.length m)
theorem star_any {es : List Expr} (h : es.all noStar = true) (pos : Pos) (env : PySem.Env) : (backTo pos (starEach es env)).any (·.1) = false := by
  induction es with
  | nil => rfl
  | cons e es ih =>
    rw [List.all_cons, Bool.and_eq_true] at h
    rw [star_cons h.1]
    show (false || (backTo pos (starEach es env)).any (·.1)) = false
    rw [ih h.2]; rfl
theorem je_call {lv : Nat} {x : Str} {ps : List Str} {f : Fn} {r : EvA} {p : Pos} {es : List Expr} (F : FnS g lv x ps f) (hl : lv ≤ c.lv) (hs : c.sc.names.lookup x = some .globalImplicit) (ha : JA g c r (a :: es)) (hst : (a :: es).all noStar = true := by rfl)
    (hdb : (x == ("__debug__" : Str)) = false := by decide) : JE g c (xCall f r) (.Call (.Name x p) (a :: es) [] pos) := by
  obtain ⟨fa, fd, hm, hk, hb, hF⟩ := F.ex
  have h2 := hst
  rw [List.all_cons, Bool.and_eq_true] at h2
  refine je_mk (fun X ok => ?_) (by intro _ _; rfl)
  have hF' : FnOk X.prog X.w X.K X.mg X.base CX0 lv fa fd ps (spD g.K ps.length f) := by
    rw [ok.prog, ok.w, ok.K, ok.mg, ok.base]; exact hF
  refine PE.imp (pe_call hF' (ok.room.mono hl) (by show X.env.scope.names.lookup x = _; rw [ok.sc]; exact hs) (by rw [ok.mg]; exact hm) (by rw [ok.K]; exact hk) (by rw [ok.K]; exact hb) .nil pass0 (ha X ok) hdb (star_cons h2.1 _) (star_any h2.2 _ _)) fun σ H Q h => ?_
  obtain ⟨μ, s, env, d, s', S, E, hv, q⟩ := h
  obtain ⟨ds, s1, h1, hv⟩ := bind_ok hv
  refine ⟨μ, s, env, ds, s1, S, E, h1, fun vs H1 μ1 x1 S1 r1 => ?_⟩
  show spD g.K ps.length f (vs ++ []) H1 Q E0
  rw [List.append_nil]
  exact ⟨by rw [r1.length]; exact F.len _ _ _ _ hv, μ1, s1, ds, d, s', S1, r1, hv, fun v H2 μ2 x2 S2 r2 => q v H2 μ2 (x1.trans x2) S2 r2⟩
/-- a built-in function, a built-in type -/
theorem je_bi {id : String} {x : Str} {f : List D → Sto → R D} {r : EvA} {p : Pos} {es : List Expr} (hf : ∀ X : Cx, c.Ok g X → CallR X (.builtin id) (RnD g.K f)) (hs : c.sc.names.lookup x = some .globalImplicit) (hm : g.mg x = none) (hv : bootBuiltins x = some (.builtin id))
    (ha : JA g c r (a :: es)) (hst : (a :: es).all noStar = true := by rfl) (hn : x ≠ "__name__" := by decide) (hdb : (x == ("__debug__" : Str)) = false := by decide) : JE g c (xBi f r) (.Call (.Name x p) (a :: es) [] pos) := by
  have h2 := hst
  rw [List.all_cons, Bool.and_eq_true] at h2
  refine je_mk (fun X ok => PE.imp (pe_callB (hf X ok) (by show X.env.scope.names.lookup x = _; rw [ok.sc]; exact hs) (by rw [ok.mg]; exact hm) hv (ha X ok) hn hdb (star_cons h2.1 _) (star_any h2.2 _ _)) fun σ H Q h => ?_) (by intro _ _; rfl)
  obtain ⟨μ, s, env, d, s', S, E, hv, q⟩ := h
  obtain ⟨ds, s1, h1, hv⟩ := bind_ok hv
  refine ⟨μ, s, env, ds, s1, S, E, h1, fun vs H1 μ1 x1 S1 r1 => ?_⟩
  exact ⟨μ1, s1, ds, d, s', S1, r1, hv, fun v H2 μ2 x2 S2 r2 => q v H2 μ2 (x1.trans x2) S2 r2⟩
theorem je_ty {T : String} {x : Str} {f : List D → Sto → R D} {r : EvA} {p : Pos} {es : List Expr} (hf : ∀ X : Cx, c.Ok g X → CallR X (.type T) (RnD g.K f)) (hs : c.sc.names.lookup x = some .globalImplicit) (hm : g.mg x = none) (hv : bootBuiltins x = some (.type T))
    (ha : JA g c r (a :: es)) (hst : (a :: es).all noStar = true := by rfl) (hn : x ≠ "__name__" := by decide) (hdb : (x == ("__debug__" : Str)) = false := by decide) : JE g c (xBi f r) (.Call (.Name x p) (a :: es) [] pos) := by
  have h2 := hst
  rw [List.all_cons, Bool.and_eq_true] at h2
  refine je_mk (fun X ok => PE.imp (pe_callTy (hf X ok) (by show X.env.scope.names.lookup x = _; rw [ok.sc]; exact hs) (by rw [ok.mg]; exact hm) hv (ha X ok) hn hdb (star_cons h2.1 _) (star_any h2.2 _ _)) fun σ H Q h => ?_) (by intro _ _; rfl)
  obtain ⟨μ, s, env, d, s', S, E, hv, q⟩ := h
  obtain ⟨ds, s1, h1, hv⟩ := bind_ok hv
  refine ⟨μ, s, env, ds, s1, S, E, h1, fun vs H1 μ1 x1 S1 r1 => ?_⟩
  exact ⟨μ1, s1, ds, d, s', S1, r1, hv, fun v H2 μ2 x2 S2 r2 => q v H2 μ2 (x1.trans x2) S2 r2⟩
end
end Cs

/-! ## CsSim3 -/
namespace Cs
open PySem PySem.Spec PyProof.Rows L2
/-! ### operators -/
section
variable {K : PySem.W.Frag} {μ : List Addr} {H : Hp} {s s' : Sto} {g : Gb} {c : Cc} {X : Cx}
theorem Rep.lst_at (S : Sim K μ H s) {a : Addr} {i : Nat} {xs : List D} (h : Rep K H μ (.ref a) (.ref i)) (e : s.get i = some (.lst xs)) : μ[i]? = some a ∧ ∃ vs, H a = some (.lst vs) ∧ Reps K H μ vs xs := by
  cases h with
  | ref q =>
    refine ⟨q, ?_⟩
    obtain ⟨o, e1, r⟩ := S.ob i a q
    rw [e] at e1; cases e1
    exact r
theorem op_addD (hK : X.K = K) : OpR X (binaryOp .Add) (R2D K addD) := by
  subst hK
  refine OpR.imp (op_add.or (op_catA.or (op_add_str.or op_cat))) fun x y H Q h => ?_
  obtain ⟨μ, s, dx, dy, d, s', S, rx, ry, h, q⟩ := h
  unfold addD at h
  split at h
  · cases h; cases rx; cases ry
    exact .inl ⟨_, _, rfl, rfl, q _ H μ .refl S (.int _)⟩
  · split at h
    · rename_i hz
      cases h
      cases rx with
      | tup tx px =>
      cases ry with
      | tup ty py =>
      refine .inr (.inl ⟨_, _, _, _, rfl, rfl, tx, ty, by rw [px.length, py.length]; exact hz, fun e => ?_, fun e1 e2 => ?_, fun _ _ p hp => ?_⟩)
      · subst e
        cases px
        exact q _ H μ .refl S (.tup ty py)
      · subst e2
        cases py
        rw [List.append_nil] at q
        exact q _ H μ .refl S (.tup tx px)
      · obtain ⟨x2, S2, r2⟩ := rep_tup S hp (px.append py)
        exact q _ _ μ x2 S2 r2
    · cases h
  · split at h
    · cases h; cases rx; cases ry
      exact .inr (.inr (.inl ⟨_, _, rfl, rfl, by assumption, q _ H μ .refl S (.str _)⟩))
    · cases h
  · split at h
    · rename_i ex ey
      split at h
      · rename_i hz
        cases h
        cases rx with
        | ref rx =>
        cases ry with
        | ref ry =>
        obtain ⟨_, vx, hx, px⟩ := Rep.lst_at S (.ref rx) ex
        obtain ⟨_, vy, hy, py⟩ := Rep.lst_at S (.ref ry) ey
        refine .inr (.inr (.inr ⟨_, _, vx, vy, rfl, rfl, hx, hy, by rw [px.length, py.length]; exact hz, fun p hp => ?_⟩))
        obtain ⟨x2, S2, r2⟩ := rep_lst S hp (px.append py)
        exact q _ _ _ x2 S2 r2
      · cases h
    · cases h
  · cases h
theorem op_subD (hK : X.K = K) : OpR X (binaryOp .Sub) (R2D K subD) := by
  subst hK
  refine OpR.imp op_sub fun x y H Q h => ?_
  obtain ⟨μ, s, dx, dy, d, s', S, rx, ry, h, q⟩ := h
  unfold subD at h
  split at h
  · cases h; cases rx; cases ry
    exact ⟨_, _, rfl, rfl, q _ H μ .refl S (.int _)⟩
  · cases h
theorem iop_addD (hK : X.K = K) : OpR X (inplaceOp .Add) (R2D K iaddD) := by
  subst hK
  refine OpR.imp iop_add fun x y H Q h => ?_
  obtain ⟨μ, s, dx, dy, d, s', S, rx, ry, h, q⟩ := h
  unfold iaddD at h
  split at h
  · cases h; cases rx; cases ry
    exact ⟨_, _, rfl, rfl, q _ H μ .refl S (.int _)⟩
  · cases h
theorem iop_subD (hK : X.K = K) : OpR X (inplaceOp .Sub) (R2D K subD) := by
  subst hK
  refine OpR.imp iop_sub fun x y H Q h => ?_
  obtain ⟨μ, s, dx, dy, d, s', S, rx, ry, h, q⟩ := h
  unfold subD at h
  split at h
  · cases h; cases rx; cases ry
    exact ⟨_, _, rfl, rfl, q _ H μ .refl S (.int _)⟩
  · cases h
theorem log2_4000 {i : Int} (h : i.natAbs < lim4) : i.natAbs.log2 < 4000 := PySem.Flt.log2_lt_of (by decide) h
theorem mulOk_ok {i j : Int} (h : mulOk i j = true) : CMul i j ∨ CMulW i j := by
  unfold mulOk at h
  simp only [Bool.or_eq_true, Bool.and_eq_true, decide_eq_true_eq] at h
  rcases h with (h | h) | ⟨h1, h2⟩
  · exact .inl (.inl (by omega))
  · exact .inl (.inr (by omega))
  · refine .inr ?_
    have a := log2_4000 h1
    have b := log2_4000 h2
    show _ + _ < 1000000
    omega
/-- t * k where nothing is repeated -/
theorem tuple_mul_same (l : Addr) (items : Array Value) (n : Nat) (dd : Option Addr) (sl : Array (Option Value)) (x : Int) (u : Tok) (c0 : (decide (x < -(2 ^ 63)) || decide (x ≥ 2 ^ 63)) = false) (c1 : (items.isEmpty || x == 1) = true) :
    Meets (Builtin.«tuple.__mul__» ⟨[.ref l, .int x u], []⟩) (fun _ R s => s.heap.get? l = some { cls := .type "tuple", dict := dd, data := .seq items n, slots := sl } ∧ R (.ok (.ret (Value.ref l))) s) :=
  .of_wp fun prog w A R s h => by
    obtain ⟨hp, g, d, tk, os⟩ := s
    obtain ⟨hl, h⟩ := h
    have f1 := AutoSeq1.idx_int
    wp_walk using wpAny_loadPart' hl
    repeat (first
      | (refine wpAny_ite_false (decide_eq_false (by rw [c0]; exact Bool.false_ne_true)) ?_; wp_walk using wpAny_loadPart' hl)
      | (refine wpAny_ite_true (decide_eq_true c1) ?_; wp_walk using wpAny_loadPart' hl))
    exact ⟨_, rfl, h⟩
theorem tuple_mul_none (l : Addr) (items : Array Value) (n : Nat) (dd : Option Addr) (sl : Array (Option Value)) (x : Int) (u : Tok) (c0 : (decide (x < -(2 ^ 63)) || decide (x ≥ 2 ^ 63)) = false) (c1 : (items.isEmpty || x == 1) = false) (c2 : (decide (x ≤ 0) || items.isEmpty) = true) :
    Meets (Builtin.«tuple.__mul__» ⟨[.ref l, .int x u], []⟩) (fun _ R s => s.heap.get? l = some { cls := .type "tuple", dict := dd, data := .seq items n, slots := sl } ∧
      R (.ok (.ret (Value.ref s.heap.objs.size))) { s with heap := s.heap.push { cls := Value.type "tuple", data := Data.seq #[] }, toks := s.toks }) :=
  .of_wp fun prog w A R s h => by
    obtain ⟨hp, g, d, tk, os⟩ := s
    obtain ⟨hl, h⟩ := h
    have f1 := AutoSeq1.idx_int
    wp_walk using wpAny_loadPart' hl
    repeat (first
      | (refine wpAny_ite_false (decide_eq_false (by rw [c0]; exact Bool.false_ne_true)) ?_; wp_walk using wpAny_loadPart' hl)
      | (refine wpAny_ite_false (decide_eq_false (by rw [c1]; exact Bool.false_ne_true)) ?_; wp_walk using wpAny_loadPart' hl)
      | (refine wpAny_ite_true (decide_eq_true c2) ?_; wp_walk using wpAny_loadPart' hl))
    exact ⟨_, rfl, h⟩
def rRepN (K : PySem.W.Frag) : R2 := fun x y H Q => ∃ l k xs, x = .ref l ∧ y = .int k ∧ SqT K H l xs ∧ -1000 ≤ k ∧ k ≤ 1000 ∧ ((xs = [] ∨ k = 1) ∧ Q (.ref l) H ∨ (xs ≠ [] ∧ k ≤ 0) ∧ ∀ p, H p = none → Q (.ref p) (upd H p (.tup [])))
theorem op_repN : OpR X (binaryOp .Mult) (rRepN X.K) := by
  intro pins s σ H x y v u Q I rx ry h
  obtain ⟨l, k, xs, rfl, rfl, hT, h1, h2, q⟩ := h
  cases rx
  obtain ⟨t, rfl⟩ := ry
  obtain ⟨its, r, ⟨⟨cls, dd, data, sl⟩, ho, hc, n, hd⟩, hs⟩ := I.tuple hT
  simp only at hc hd
  subst hc hd
  have hle : its.length = xs.length := r.length.symm
  have c0 : (decide (k < -(2 ^ 63)) || decide (k ≥ 2 ^ 63)) = false := by
    rw [decide_eq_false (by omega), decide_eq_false (by omega)] <;> rfl
  have emp : its.toArray.isEmpty = xs.isEmpty := by cases r <;> simp
  rcases q with ⟨hq, q⟩ | ⟨⟨hq, hk⟩, q⟩
  · have c1 : (its.toArray.isEmpty || k == 1) = true := by
      rw [emp]
      rcases hq with rfl | rfl
      · rfl
      · simp
    exact wpAny_binaryOp_repeat_ref (T := "tuple") (U := "int") (by decide) ⟨_, ho, rfl⟩ (fun s' => typeIs_int s' k t) noFill_tuple_mul F.fills_int_mul F.slot_int_rmul repeat_tuple F.slot_int_index.lookup
      (call_meets F.slot_int_rmul (typeIs_int s k t) F.entry_int_rmul (F.args_int_rmul_2 _ _) (int_rmul_tuple k t l its.toArray n dd sl)
        ⟨ho, rfl, ⟨_, ho, rfl⟩, call_meets F.slot_tuple_mul ⟨_, ho, rfl⟩ F.entry_tuple_mul (F.args_tuple_mul_2 _ _) (tuple_mul_same l its.toArray n dd sl k t c0 c1) ⟨ho, ⟨.ref l, H, I, rfl, q⟩⟩⟩)
  · have c1 : (its.toArray.isEmpty || k == 1) = false := by
      rw [emp]
      cases xs with
      | nil => exact absurd rfl hq
      | cons a b =>
        show (false || k == 1) = false
        rw [Bool.false_or]
        exact beq_eq_false_iff_ne.mpr (by omega)
    have c2 : (decide (k ≤ 0) || its.toArray.isEmpty) = true := by rw [decide_eq_true hk]; rfl
    refine wpAny_binaryOp_repeat_ref (T := "tuple") (U := "int") (by decide) ⟨_, ho, rfl⟩ (fun s' => typeIs_int s' k t) noFill_tuple_mul F.fills_int_mul F.slot_int_rmul repeat_tuple F.slot_int_index.lookup
      (call_meets F.slot_int_rmul (typeIs_int s k t) F.entry_int_rmul (F.args_int_rmul_2 _ _) (int_rmul_tuple k t l its.toArray n dd sl)
        ⟨ho, rfl, ⟨_, ho, rfl⟩, call_meets F.slot_tuple_mul ⟨_, ho, rfl⟩ F.entry_tuple_mul (F.args_tuple_mul_2 _ _) (tuple_mul_none l its.toArray n dd sl k t c0 c1 c2) ⟨ho, ?_⟩⟩)
    refine ⟨.ref s.heap.objs.size, _, I.laid (t' := s.toks) (o := .tup []) (fun b ob q => Heap.get?_push_of_some _ q) (Nat.le_refl _) ?_, rfl, q _ (I.hok.fresh (Nat.le_refl _))⟩
    exact ⟨Nat.zero_le _, [], .nil, IsTup.new s.heap ([] : List Value).toArray⟩
theorem flat_one {α : Type} (xs : List α) : (List.replicate (1 : Int).toNat xs).flatten = xs := by
  show (List.replicate 1 xs).flatten = xs
  simp
theorem op_mulD (hK : X.K = K) : OpR X (binaryOp .Mult) (R2D K mulD) := by
  subst hK
  refine OpR.imp (op_mul.or (op_mulW.or (op_repT.or (op_repN.or op_rep)))) fun x y H Q h => ?_
  obtain ⟨μ, s, dx, dy, d, s', S, rx, ry, h, q⟩ := h
  unfold mulD at h
  split at h
  · split at h
    · rename_i hm
      cases h; cases rx; cases ry
      rcases mulOk_ok hm with e | e
      · exact .inl ⟨_, _, rfl, rfl, e, q _ H μ .refl S (.int _)⟩
      · exact .inr (.inl ⟨_, _, rfl, rfl, e, q _ H μ .refl S (.int _)⟩)
    · cases h
  · split at h
    · rename_i xs k hz
      cases h
      cases ry
      cases rx with
      | @tup a vs _ tx px =>
      obtain ⟨z1, z2, z3⟩ := hz
      by_cases h1 : vs = [] ∨ k = 1
      · refine .inr (.inr (.inr (.inl ⟨a, k, vs, rfl, rfl, tx, z2, z3, .inl ⟨h1, ?_⟩⟩)))
        have e : (List.replicate k.toNat xs).flatten = xs := by
          rcases h1 with rfl | rfl
          · cases px
            simp
          · exact flat_one xs
        rw [e] at q
        exact q _ H μ .refl S (.tup tx px)
      · by_cases h2 : k ≤ 0
        · refine .inr (.inr (.inr (.inl ⟨a, k, vs, rfl, rfl, tx, z2, z3, .inr ⟨⟨fun e => h1 (.inl e), h2⟩, fun p hp => ?_⟩⟩)))
          have e : (List.replicate k.toNat xs).flatten = [] := by
            rw [show k.toNat = 0 by omega]; rfl
          rw [e] at q
          obtain ⟨x2, S2, r2⟩ := rep_tup (xs := []) (ds := []) S hp .nil
          exact q _ _ μ x2 S2 r2
        · refine .inr (.inr (.inl ⟨a, k, vs, rfl, rfl, tx, fun e => h1 (.inl e), by have : ¬ k = 1 := fun e => h1 (.inr e); omega, z3, by rw [px.length]; exact z1, fun p hp => ?_⟩))
          obtain ⟨x2, S2, r2⟩ := rep_tup S hp (px.rep k.toNat)
          exact q _ _ μ x2 S2 r2
    · cases h
  · split at h
    · rename_i ex
      split at h
      · rename_i hz
        cases h
        cases ry
        cases rx with
        | ref rx =>
        obtain ⟨_, vx, hx, px⟩ := Rep.lst_at S (.ref rx) ex
        refine .inr (.inr (.inr (.inr ⟨_, _, vx, rfl, rfl, hx, by omega, by omega, by rw [px.length]; exact hz.2.2, fun p hp => ?_⟩)))
        obtain ⟨x2, S2, r2⟩ := rep_lst S hp (px.rep _)
        exact q _ _ _ x2 S2 r2
      · cases h
    · cases h
  · cases h
theorem op_fdivD (hK : X.K = K) : OpR X (binaryOp .FloorDiv) (R2D K fdivD) := by
  subst hK
  refine OpR.imp op_fdivW fun x y H Q h => ?_
  obtain ⟨μ, s, dx, dy, d, s', S, rx, ry, h, q⟩ := h
  unfold fdivD at h
  split at h
  · split at h
    · rename_i hz
      cases h; cases rx; cases ry
      exact ⟨_, _, rfl, rfl, ⟨hz.1, Nat.lt_trans (log2_4000 hz.2) (by decide)⟩, q _ H μ .refl S (.int _)⟩
    · cases h
  · cases h
theorem op_modD (hK : X.K = K) : OpR X (binaryOp .Mod) (R2D K modD) := by
  subst hK
  refine OpR.imp op_mod fun x y H Q h => ?_
  obtain ⟨μ, s, dx, dy, d, s', S, rx, ry, h, q⟩ := h
  unfold modD at h
  split at h
  · split at h
    · cases h; cases rx; cases ry
      exact ⟨_, _, rfl, rfl, by assumption, q _ H μ .refl S (.int _)⟩
    · cases h
  · cases h
theorem op_powD (hK : X.K = K) : OpR X (binaryOp .Pow) (R2D K powD) := by
  subst hK
  refine OpR.imp (opI (C := fun i j => 0 ≤ j ∧ j ≤ 1000 ∧ i.natAbs < lim4) (g := fun i j => i ^ j.toNat) fun i j t u Q E s hc q => pow_int hc.1 ?_ q) fun x y H Q h => ?_
  · obtain ⟨h0, h1, h2⟩ := hc
    have b := (intBits_le_iff (m := 4000) (x := i)).mpr h2
    have a1 : (Builtin.Int.intBits i : Int) * j ≤ 4000 * j := Int.mul_le_mul_of_nonneg_right (by omega) h0
    omega
  · obtain ⟨μ, s, dx, dy, d, s', S, rx, ry, h, q⟩ := h
    unfold powD at h
    split at h
    · split at h
      · cases h; cases rx; cases ry
        exact ⟨_, _, rfl, rfl, by assumption, q _ H μ .refl S (.int _)⟩
      · cases h
    · cases h
theorem op_negD (hK : X.K = K) : UnR X (unaryOp .USub) (R1D K negD) := by
  subst hK
  refine UnR.imp un_neg fun x H Q h => ?_
  obtain ⟨μ, s, dx, d, s', S, rx, h, q⟩ := h
  unfold negD at h
  split at h
  · cases h; cases rx
    exact ⟨_, rfl, q _ H μ .refl S (.int _)⟩
  · cases h
theorem op_ltI {op : CmpOp} {f : Int → Int → Bool} (hK : X.K = K) (ho : OpR X (compareOp op) (rI0 fun i j => .bl (f i j))) : OpR X (compareOp op) (R2D K (ltI f)) := by
  subst hK
  refine OpR.imp ho fun x y H Q h => ?_
  obtain ⟨μ, s, dx, dy, d, s', S, rx, ry, h, q⟩ := h
  unfold ltI at h
  split at h
  · cases h; cases rx; cases ry
    exact ⟨_, _, rfl, rfl, q _ H μ .refl S (.bl _)⟩
  · cases h
theorem ltI_bl {f : Int → Int → Bool} : ∀ x y s d s', ltI f x y s = .ok d s' → ∃ b, d = .bl b := by
  intro x y s d s' h
  unfold ltI at h
  split at h
  · cases h; exact ⟨_, rfl⟩
  · cases h
theorem op_isNonD (hK : X.K = K) : OpR X (compareOp .Is) (R2D K isNonD) := by
  subst hK
  refine OpR.imp op_isN fun x y H Q h => ?_
  obtain ⟨μ, s, dx, dy, d, s', S, rx, ry, h, q⟩ := h
  unfold isNonD at h
  split at h
  · cases h; cases rx; cases ry
    exact ⟨rfl, q _ H μ .refl S (.bl _)⟩
  · rename_i hn
    cases h; cases ry
    refine ⟨rfl, ?_⟩
    have e : decide (x = V.non) = false := decide_eq_false fun e => by
      subst e; cases rx; exact hn rfl
    rw [e]
    exact q _ H μ .refl S (.bl _)
  · cases h
theorem op_isnNonD (hK : X.K = K) : OpR X (compareOp .IsNot) (R2D K isnNonD) := by
  subst hK
  refine OpR.imp op_notN fun x y H Q h => ?_
  obtain ⟨μ, s, dx, dy, d, s', S, rx, ry, h, q⟩ := h
  unfold isnNonD at h
  split at h
  · cases h; cases rx; cases ry
    exact ⟨rfl, q _ H μ .refl S (.bl _)⟩
  · rename_i hn
    cases h; cases ry
    refine ⟨rfl, ?_⟩
    have e : decide (x = V.non) = false := decide_eq_false fun e => by
      subst e; cases rx; exact hn rfl
    rw [e]
    exact q _ H μ .refl S (.bl _)
  · cases h
theorem isNonD_bl : ∀ x y s d s', isNonD x y s = .ok d s' → ∃ b, d = .bl b := by
  intro x y s d s' h
  unfold isNonD at h
  split at h <;> first | (cases h; exact ⟨_, rfl⟩) | cases h
theorem isnNonD_bl : ∀ x y s d s', isnNonD x y s = .ok d s' → ∃ b, d = .bl b := by
  intro x y s d s' h
  unfold isnNonD at h
  split at h <;> first | (cases h; exact ⟨_, rfl⟩) | cases h
/-! ### == -/
theorem mapO_some {α β : Type} {f : α → Option β} : ∀ {xs : List α} {ys : List β}, mapO f xs = some ys → Paired (fun x y => f x = some y) xs ys
  | [], _, h => by cases h; exact .nil
  | x :: xs, ys, h => by
    unfold mapO at h
    split at h
    · rename_i d ds h1 h2
      cases h
      exact .cons h1 (mapO_some h2)
    · cases h
theorem rep_dp (S : Sim K μ H s) : ∀ (k : Nat) (d : D) (v : V) (p : PyData), Rep K H μ v d → pyd s k d = some p → Dp K H v p := by
  intro k
  induction k with
  | zero =>
    intro d v p r h
    cases r with
    | non => cases h; exact .non
    | bl b => cases h; exact .bl b
    | int i => cases h; exact .int i
    | str x =>
      have h : (if PyData.strOk x = true then some (PyData.str x) else none) = some p := h
      split at h
      · cases h; exact .str x
      · cases h
    | tup _ _ => cases h
    | fix _ _ => cases h
    | ref _ => cases h
  | succ k ih =>
    have all : ∀ (ds : List D) (vs : List V) (ps : List PyData), Reps K H μ vs ds → mapO (pyd s k) ds = some ps → DpAll K H vs ps := by
      intro ds
      induction ds with
      | nil => intro vs ps r h; cases r; cases h; exact .nil
      | cons d ds ih2 =>
        intro vs ps r h
        cases r with
        | cons r1 r2 =>
        unfold mapO at h
        split at h
        · rename_i p ps h1 h2
          cases h
          exact .cons (ih _ _ _ r1 h1) (ih2 _ _ r2 h2)
        · cases h
    intro d v p r h
    cases r with
    | non => cases h; exact .non
    | bl b => cases h; exact .bl b
    | int i => cases h; exact .int i
    | str x =>
      have h : (if PyData.strOk x = true then some (PyData.str x) else none) = some p := h
      split at h
      · cases h; exact .str x
      · cases h
    | tup q r =>
      obtain ⟨ps, h1, rfl⟩ := Option.map_eq_some_iff.mp h
      exact .tup q (all _ _ _ r h1)
    | fix q r =>
      obtain ⟨ps, h1, rfl⟩ := Option.map_eq_some_iff.mp h
      exact .lst q.sq (all _ _ _ r h1)
    | @ref i a q =>
      obtain ⟨o, e, ro⟩ := S.ob i a q
      unfold pyd at h
      dsimp only at h
      rw [e] at h
      cases o with
      | lst ds =>
        obtain ⟨xs, e1, r1⟩ := ro
        obtain ⟨ps, h1, rfl⟩ := Option.map_eq_some_iff.mp h
        exact .lst (.of e1) (all _ _ _ r1 h1)
      | dct kvs => cases h
theorem pyd_fit : ∀ (k : Nat) (s : Sto) (d : D) (p : PyData), pyd s k d = some p → p.canLay0 = true ∧ p.depth ≤ k := by
  intro k
  induction k with
  | zero =>
    intro s d p h
    cases d with
    | non => cases h; exact ⟨rfl, Nat.le_refl _⟩
    | bl b => cases h; exact ⟨rfl, Nat.le_refl _⟩
    | int i => cases h; exact ⟨rfl, Nat.le_refl _⟩
    | str x =>
      have h : (if PyData.strOk x = true then some (PyData.str x) else none) = some p := h
      split at h
      · rename_i hx
        cases h; exact ⟨by unfold PyData.canLay0; exact hx, by unfold PyData.depth; exact Nat.le_refl _⟩
      · cases h
    | tup _ => cases h
    | fix _ => cases h
    | ref _ => cases h
  | succ k ih =>
    have all : ∀ (s : Sto) (ds : List D) (ps : List PyData), mapO (pyd s k) ds = some ps → PyData.canLayAll0 ps = true ∧ PyData.depthAll ps ≤ k := by
      intro s ds
      induction ds with
      | nil => intro ps h; cases h; exact ⟨by unfold PyData.canLayAll0; rfl, by unfold PyData.depthAll; exact Nat.zero_le _⟩
      | cons d ds ih2 =>
        intro ps h
        unfold mapO at h
        split at h
        · rename_i p ps h1 h2
          cases h
          obtain ⟨a1, a2⟩ := ih s _ _ h1
          obtain ⟨b1, b2⟩ := ih2 _ h2
          exact ⟨by unfold PyData.canLayAll0; rw [a1, b1]; rfl, by unfold PyData.depthAll; exact Nat.max_le.mpr ⟨a2, b2⟩⟩
        · cases h
    have tl : ∀ (s : Sto) (ds : List D) (p : PyData), (mapO (pyd s k) ds).map PyData.tuple = some p → p.canLay0 = true ∧ p.depth ≤ k + 1 := fun s ds p h => by
      obtain ⟨ps, h1, rfl⟩ := Option.map_eq_some_iff.mp h
      obtain ⟨a1, a2⟩ := all s _ _ h1
      exact ⟨by unfold PyData.canLay0; exact a1, by unfold PyData.depth; omega⟩
    have ll : ∀ (s : Sto) (ds : List D) (p : PyData), (mapO (pyd s k) ds).map PyData.list = some p → p.canLay0 = true ∧ p.depth ≤ k + 1 := fun s ds p h => by
      obtain ⟨ps, h1, rfl⟩ := Option.map_eq_some_iff.mp h
      obtain ⟨a1, a2⟩ := all s _ _ h1
      exact ⟨by unfold PyData.canLay0; exact a1, by unfold PyData.depth; omega⟩
    intro s d p h
    cases d with
    | non => cases h; exact ⟨rfl, Nat.zero_le _⟩
    | bl b => cases h; exact ⟨rfl, Nat.zero_le _⟩
    | int i => cases h; exact ⟨rfl, Nat.zero_le _⟩
    | str x =>
      have h : (if PyData.strOk x = true then some (PyData.str x) else none) = some p := h
      split at h
      · rename_i hx
        cases h; exact ⟨by unfold PyData.canLay0; exact hx, by unfold PyData.depth; exact Nat.zero_le _⟩
      · cases h
    | tup ds => exact tl s ds p h
    | fix ds => exact ll s ds p h
    | ref i =>
      unfold pyd at h
      dsimp only at h
      split at h
      · exact ll s _ p h
      · cases h
theorem pyd_shaped {d : D} {p : PyData} (h : pyd s 12 d = some p) : SeqAt.shaped p = true := by
  obtain ⟨a, b⟩ := pyd_fit 12 s d p h
  unfold SeqAt.shaped
  rw [a, decide_eq_true (show p.depth ≤ 64 by omega)]; rfl
theorem op_eqDD (hK : X.K = K) (hu : X.A.units + 64 < cLine) : OpR X (compareOp .Eq) (R2D K eqD) := by
  subst hK
  refine OpR.imp (op_eqD hu) fun x y H Q h => ?_
  obtain ⟨μ, s, dx, dy, d, s', S, rx, ry, h, q⟩ := h
  unfold eqD at h
  split at h
  · rename_i a b h1 h2
    cases h
    exact ⟨a, b, rep_dp S 12 _ _ _ rx h1, rep_dp S 12 _ _ _ ry h2, pyd_shaped h1, pyd_shaped h2, q _ H μ .refl S (.bl _)⟩
  · cases h
theorem op_neDD (hK : X.K = K) (hu : X.A.units + 64 < cLine) : OpR X (compareOp .NotEq) (R2D K neD) := by
  subst hK
  refine OpR.imp (op_neD hu) fun x y H Q h => ?_
  obtain ⟨μ, s, dx, dy, d, s', S, rx, ry, h, q⟩ := h
  unfold neD at h
  split at h
  · rename_i a b h1 h2
    cases h
    exact ⟨a, b, rep_dp S 12 _ _ _ rx h1, rep_dp S 12 _ _ _ ry h2, pyd_shaped h1, pyd_shaped h2, q _ H μ .refl S (.bl _)⟩
  · cases h
theorem eqD_bl : ∀ x y s d s', eqD x y s = .ok d s' → ∃ b, d = .bl b := by
  intro x y s d s' h
  unfold eqD at h
  split at h <;> first | (cases h; exact ⟨_, rfl⟩) | cases h
theorem neD_bl : ∀ x y s d s', neD x y s = .ok d s' → ∃ b, d = .bl b := by
  intro x y s d s' h
  unfold neD at h
  split at h <;> first | (cases h; exact ⟨_, rfl⟩) | cases h
/-! ### what stands in a list or a tuple -/
theorem items_rep (S : Sim K μ H s) {v : V} {d : D} {xs : List D} (r : Rep K H μ v d) (h : items d s = some xs) : ∃ a vs, v = .ref a ∧ (SqL K H a vs ∨ SqT K H a vs) ∧ Reps K H μ vs xs := by
  cases r with
  | non => cases h
  | bl b => cases h
  | int i => cases h
  | str x => cases h
  | tup q r => cases h; exact ⟨_, _, rfl, .inr q, r⟩
  | fix q r => cases h; exact ⟨_, _, rfl, .inl q.sq, r⟩
  | @ref i a q =>
    obtain ⟨o, e, ro⟩ := S.ob i a q
    unfold items at h
    dsimp only at h
    rw [e] at h
    cases o with
    | lst ds => cases h; obtain ⟨vs, e1, r1⟩ := ro; exact ⟨a, vs, rfl, .inl (.of e1), r1⟩
    | dct kvs => cases h
theorem litems_rep (S : Sim K μ H s) {v : V} {d : D} {xs : List D} (r : Rep K H μ v d) (h : litems d s = some xs) : ∃ a vs, v = .ref a ∧ SqL K H a vs ∧ Reps K H μ vs xs := by
  cases r with
  | non => cases h
  | bl b => cases h
  | int i => cases h
  | str x => cases h
  | tup q r => cases h
  | fix q r => cases h; exact ⟨_, _, rfl, q.sq, r⟩
  | @ref i a q =>
    obtain ⟨o, e, ro⟩ := S.ob i a q
    unfold litems at h
    dsimp only at h
    rw [e] at h
    cases o with
    | lst ds => cases h; obtain ⟨vs, e1, r1⟩ := ro; exact ⟨a, vs, rfl, .of e1, r1⟩
    | dct kvs => cases h
theorem flat_rep {v : V} {d : D} (r : Rep K H μ v d) (h : flat d = true) : flatV v = true := by
  cases r <;> first | rfl | cases h
theorem flats_rep : ∀ {ds : List D} {vs : List V}, Reps K H μ vs ds → ds.all flat = true → vs.all flatV = true
  | [], _, h, _ => by cases h; rfl
  | d :: ds, _, h, f => by
    cases h with
    | cons r q =>
      rw [List.all_cons, Bool.and_eq_true] at f ⊢
      exact ⟨flat_rep r f.1, flats_rep q f.2⟩
theorem flatEq_rep {v w : V} {d e : D} (r : Rep K H μ v d) (q : Rep K H μ w e) (h : flat d = true) (h2 : flat e = true) : eqV v w = flatEq d e := by
  cases r <;> cases q <;> first | rfl | cases h | cases h2
theorem anyEq_rep {w : V} {e : D} (q : Rep K H μ w e) (h2 : flat e = true) : ∀ {ds : List D} {vs : List V}, Reps K H μ vs ds → ds.all flat = true → (vs.any fun z => eqV z w) = ds.any fun z => flatEq z e
  | [], _, h, _ => by cases h; rfl
  | d :: ds, _, h, f => by
    cases h with
    | cons r t =>
      rw [List.all_cons, Bool.and_eq_true] at f
      rw [List.any_cons, List.any_cons, flatEq_rep r q f.1 h2, anyEq_rep q h2 t f.2]
theorem op_inDD (neg : Bool) (hK : X.K = K) : OpR X (compareOp (if neg then .NotIn else .In)) (R2D K (inD neg)) := by
  subst hK
  refine OpR.imp (r := rIn X.K neg) (by cases neg; exact op_in_seq; exact op_notIn_seq) fun x y H Q h => ?_
  obtain ⟨μ, s, dx, dy, d, s', S, rx, ry, h, q⟩ := h
  unfold inD at h
  split at h
  · rename_i xs hx
    split at h
    · rename_i hf
      rw [Bool.and_eq_true] at hf
      cases h
      obtain ⟨a, vs, rfl, sq, r⟩ := items_rep S ry hx
      refine ⟨a, vs, rfl, sq, flat_rep rx hf.1, flats_rep r hf.2, ?_⟩
      have e : (if neg = true then !inV x vs else inV x vs) = ((xs.any fun z => flatEq z dx) ^^ neg) := by
        unfold inV
        rw [anyEq_rep rx hf.1 r hf.2]
        cases neg <;> simp
      rw [e]
      exact q _ H μ .refl S (.bl _)
    · cases h
  · cases h
theorem op_inD (hK : X.K = K) : OpR X (compareOp .In) (R2D K (inD false)) := op_inDD false hK
theorem op_notInD (hK : X.K = K) : OpR X (compareOp .NotIn) (R2D K (inD true)) := op_inDD true hK
theorem inD_bl {neg : Bool} : ∀ x y s d s', inD neg x y s = .ok d s' → ∃ b, d = .bl b := by
  intro x y s d s' h
  unfold inD at h
  split at h
  · split at h
    · cases h; exact ⟨_, rfl⟩
    · cases h
  · cases h
end
end Cs

/-! ## CsSim4 -/
namespace Cs
open PySem PySem.Spec PyProof.Rows L2
/-! ### t[::-1] of a tuple -/
section
variable {prog : Program} {w : World} {A : Around} {E : Value → Shared → Prop} {s : Shared}
theorem places_back (n : Nat) : Builtin.Slice.slicePlaces ((n : Int) - 1) (-1) (-1) = n := by
  unfold Builtin.Slice.slicePlaces
  by_cases h : n = 0
  · subst h; rfl
  · rw [if_neg (by decide), if_pos (by omega)]
    have e : ((n : Int) - 1 - -1 - 1) / (- -1) + 1 = (n : Int) := by
      rw [show (- -1 : Int) = 1 by decide, Int.ediv_one]
      omega
    rw [e]
    exact Int.toNat_natCast n
theorem sliceApplied_back {sl : Addr} {vl vu vk : Value} {n : Nat} {Q : Int × Int × Nat → Shared → Prop} (hs : s.heap.IsSliceOf sl vl vu vk) (pl : IsPart vl none) (pu : IsPart vu none) (pk : IsPart vk (some (-1)))
    (h : Q ((n : Int) - 1, -1, n) s) : wpAny (model prog w) A (Builtin.Slice.sliceApplied (.ref sl) (pure (n : Int))) Q E s := by
  obtain ⟨os, hos, hcs, hds⟩ := id hs
  unfold Builtin.Slice.sliceApplied Builtin.Slice.sliceFields
  refine wpAny_bind (wpAny_bind (wpAny_field hos hds (x := vl) rfl (wpAny_bind (wpAny_field hos hds (x := vu) rfl (wpAny_bind (wpAny_field hos hds (x := vk) rfl (wpAny_pure ?_)))))))
  refine wpAny_bind (HT.slicePart_ pk ?_)
  show wpAny _ _ (if ((-1 : Int) == 0) = true then _ else _) _ _ s
  rw [if_neg (by decide)]
  refine wpAny_bind (HT.slicePart_ pl (wpAny_bind (HT.slicePart_ pu (wpAny_bind (wpAny_pure ?_)))))
  show wpAny _ _ (match Builtin.Slice.sliceAdjust none none (-1) (n : Int) with | (lo, hi) => pure (lo, (-1 : Int), Builtin.Slice.slicePlaces lo hi (-1))) _ _ s
  have e : Builtin.Slice.sliceAdjust none none (-1) (n : Int) = ((n : Int) - 1, -1) := by
    unfold Builtin.Slice.sliceAdjust
    simp
  rw [e]
  show wpAny _ _ (pure (((n : Int) - 1), (-1 : Int), Builtin.Slice.slicePlaces ((n : Int) - 1) (-1) (-1))) _ _ s
  rw [places_back]
  exact wpAny_pure h
theorem filterMap_cg {α β : Type} {f g : α → Option β} : ∀ l : List α, (∀ x ∈ l, f x = g x) → l.filterMap f = l.filterMap g
  | [], _ => rfl
  | x :: l, h => by
    rw [List.filterMap_cons, List.filterMap_cons, h x List.mem_cons_self, filterMap_cg l fun y hy => h y (List.mem_cons_of_mem _ hy)]
theorem pick_back (xs : Array Value) : ((List.range xs.size).filterMap fun (k : Nat) => xs[(((xs.size : Nat) : Int) - 1 + (k : Int) * (-1)).toNat]?).toArray = xs.toList.reverse.toArray := by
  have e : (List.range xs.size).filterMap (fun (k : Nat) => xs[(((xs.size : Nat) : Int) - 1 + (k : Int) * (-1)).toNat]?) = ((List.range xs.size).map fun k => xs.size - 1 - k).filterMap (xs[·]?) := by
    rw [List.filterMap_map]
    refine filterMap_cg _ fun k hk => ?_
    have := List.mem_range.mp hk
    have e : (((xs.size : Nat) : Int) - 1 + (k : Int) * (-1)).toNat = xs.size - 1 - k := by omega
    show xs[(((xs.size : Nat) : Int) - 1 + (k : Int) * (-1)).toNat]? = xs[xs.size - 1 - k]?
    rw [e]
  rw [e, PySem.W.krv_range, List.filterMap_reverse, PySem.W.krv_all]
theorem getItem_tuple_back {t sl : Addr} {items : Array Value} {vl vu vk : Value} {Q : Value → Shared → Prop} (ht : IsTup s.heap t items) (hs : s.heap.IsSliceOf sl vl vu vk) (pl : IsPart vl none) (pu : IsPart vu none) (pk : IsPart vk (some (-1)))
    (h : Q (.ref s.heap.objs.size) { s with heap := s.heap.push { cls := .type "tuple", data := .seq items.toList.reverse.toArray } })
    (hsz : items.size ≤ sizeLine) : wpAny (model prog w) A (getItem (.ref t) (.ref sl)) Q E s := by
  have htake : sizeOk (.seq items.toList.reverse.toArray) := by
    show items.toList.reverse.toArray.size ≤ sizeLine
    rw [List.size_toArray, List.length_reverse, Array.length_toList]
    exact hsz
  obtain ⟨os, hos, hcs, hds⟩ := id hs
  have hTs : s.TypeIs (.ref sl) "slice" := ⟨os, hos, hcs⟩
  unfold getItem
  try with_reducible refine wpAny_holding ?_
  first | refine wpAny_bind (wpAny_pure ?_) | skip
  refine wpAny_bind (wpAny_sequenceKey ht.typeIs (by decide) ?_)
  refine wpAny_bind (wpAny_callSpecial?_slot (name := Str.ofString "__getitem__") ht.typeIs PyProof.Rows.slot_tuple_getitem
    (wpAny_call_entry PyProof.Rows.slot_tuple_getitem ht.typeIs entry_tuple_getitem ?_ (args_tuple_getitem _ _)))
  show wpAny _ _ (Builtin.Tuple.tupleItemsOf (.ref t) >>= _) _ _ s
  refine wpAny_bind (tupleItemsOf_ ht ?_)
  refine wpAny_bind (wpAny_typeOf hTs ?_)
  rw [if_pos (by decide)]
  refine wpAny_bind (sliceApplied_back (n := items.size) hs pl pu pk ?_)
  have hno : ¬ ((((items.size : Nat) : Int) - 1 == 0 && (-1 : Int) == 1 && items.size == items.size) = true) := by
    intro q
    rw [Bool.and_eq_true, Bool.and_eq_true] at q
    exact absurd q.1.2 (by decide)
  show wpAny _ _ (if (((items.size : Nat) : Int) - 1 == 0 && (-1 : Int) == 1 && items.size == items.size) = true then _ else _) _ _ s
  rw [if_neg hno, pick_back]
  first
    | exact wpAny_bind (m := Builtin.Tuple.tupleExact _) (wpAny_newObj_type (wpAny_pure ⟨_, rfl, wpAny_pure h⟩) htake)
    | exact wpAny_bind (m := Builtin.Tuple.tupleExact _) (wpAny_newObj_type (wpAny_bind (wpAny_pure (wpAny_pure ⟨_, rfl, wpAny_pure h⟩))) htake)
    | exact wpAny_bind (wpAny_bind (m := Builtin.Tuple.tupleExact _) (wpAny_newObj_type (wpAny_pure (wpAny_pure ⟨_, rfl, wpAny_pure h⟩)) htake))
    | exact wpAny_bind (wpAny_bind (m := Builtin.Tuple.tupleExact _) (wpAny_newObj_type (wpAny_pure ⟨_, rfl, wpAny_pure h⟩) htake))
end
section
variable {X : Cx}
def tRevA (K : PySem.W.Frag) (te : TE) : TE := fun σ H Q => te σ H fun x H1 => ∃ a xs, x = .ref a ∧
  ((SqL K H1 a xs ∧ ∀ p, H1 p = none → Q (.ref p) (upd H1 p (.lst xs.reverse))) ∨ (SqT K H1 a xs ∧ ∀ p, H1 p = none → Q (.ref p) (upd H1 p (.tup xs.reverse))))
theorem pe_revA {e : Expr} {te : TE} {k : Nat} {p1 p2 p3 pos : Pos} (he : PE X e te) : PE X (.Subscript e (.Slice none none (some (.UnaryOp .USub (.Constant (.int 1) k p1) p2)) p3) pos) (tRevA X.K te) := by
  refine ⟨fun pins s σ H Q I h => ?_⟩
  refine Subscript_ (thn (he.run pins s σ H _ I h) fun v s1 ⟨x, H1, I1, r1, q1⟩ => ?_)
  obtain ⟨a, xs, ex, hx⟩ := q1
  subst ex
  cases r1
  have hst : PO X (some (.UnaryOp .USub (.Constant (.int 1) k p1) p2)) (tPart (tUn (rU fun i => .int (-i)) (tC (.int 1)))) := po_some (pe_un un_neg pe_int)
  refine wpAny_Slice (thn (po_none.run pins s1 σ H1 (fun o H2 => o = none ∧ H2 = H1) I1 ⟨rfl, rfl⟩) fun vl s2 ⟨l, H2, I2, pl, el, e2⟩ => ?_)
  subst el e2
  refine thn (po_none.run pins s2 σ H2 (fun o H3 => o = none ∧ H3 = H2) I2 ⟨rfl, rfl⟩) fun vu s3 ⟨u, H3, I3, pu, eu, e3⟩ => ?_
  subst eu e3
  refine thn (hst.run pins s3 σ H3 (fun o H4 => o = some (-1) ∧ H4 = H3) I3 ⟨1, rfl, -1, rfl, rfl, rfl⟩) fun vs s4 ⟨o, H4, I4, ps, eo, e4⟩ => ?_
  subst eo e4
  have I5 : Inv X pins σ H4 { s4 with heap := s4.heap.push { cls := .type "slice", data := .fields #[vl, vu, vs] } } := I4.kept (t' := s4.toks) fun b ob q => Heap.get?_push_of_some _ q
  rcases hx with ⟨hx, q⟩ | ⟨hx, q⟩
  · obtain ⟨its, r, ht, hz⟩ := I5.list hx
    have hlen := r.length
    show wpAny (model X.prog X.w) X.A (subscriptTail e (.Slice none none (some (.UnaryOp .USub (.Constant (.int 1) k p1) p2)) p3) (.ref a) (.ref s4.heap.objs.size)) (EP X pins σ Q) X.xe { s4 with heap := s4.heap.push { cls := .type "slice", data := .fields #[vl, vu, vs] } }
    refine tail_any (ops := [.ref a, .ref s4.heap.objs.size]) ht.isList.typeIs (PySem.slot_list_getitem.lookup) ?_ (by with_unfolding_all rfl)
    refine wpAny_getItem_list_slice ht.isList (Heap.IsSliceOf.new _ vl vu vs) pl pu ps (by decide) ?_ (by rw [List.size_toArray]; omega)
    rw [PySem.W.krv_pick]
    refine ⟨.ref _, _, I5.laid (t' := s4.toks) (o := .lst xs.reverse) (fun b ob q => Heap.get?_push_of_some _ q) (Nat.le_refl _) ?_, rfl, q _ (I5.hok.fresh (Nat.le_refl _))⟩
    exact ⟨by rw [List.length_reverse]; exact hz, _, 0, r.reverse, Heap.get?_push_size _ rfl⟩
  · obtain ⟨its, r, ht, hz⟩ := I5.tuple hx
    have hlen := r.length
    show wpAny (model X.prog X.w) X.A (subscriptTail e (.Slice none none (some (.UnaryOp .USub (.Constant (.int 1) k p1) p2)) p3) (.ref a) (.ref s4.heap.objs.size)) (EP X pins σ Q) X.xe { s4 with heap := s4.heap.push { cls := .type "slice", data := .fields #[vl, vu, vs] } }
    refine tail_any (ops := [.ref a, .ref s4.heap.objs.size]) ht.typeIs PyProof.Rows.slot_tuple_getitem.lookup ?_ (by with_unfolding_all rfl)
    refine getItem_tuple_back ht (Heap.IsSliceOf.new _ vl vu vs) pl pu ps ?_ (by rw [List.size_toArray]; omega)
    refine ⟨.ref _, _, I5.laid (t' := s4.toks) (o := .tup xs.reverse) (fun b ob q => Heap.get?_push_of_some _ q) (Nat.le_refl _) ?_, rfl, q _ (I5.hok.fresh (Nat.le_refl _))⟩
    exact ⟨by rw [List.length_reverse]; exact hz, its.reverse, r.reverse, IsTup.new _ _⟩
end
/-! ### places, slices -/
section
variable {K : PySem.W.Frag} {μ : List Addr} {H : Hp} {s s' : Sto} {g : Gb} {c : Cc} {X : Cx} {m ma mb mc : Sem} {e a b d : Expr} {pos : Pos}
theorem Reps.reverse {ds : List D} {vs : List V} (h : Reps K H μ vs ds) : Reps K H μ vs.reverse ds.reverse := by
  induction ds generalizing vs with
  | nil => cases h; exact .nil
  | cons d ds ih =>
    cases h with
    | cons r q =>
      rw [List.reverse_cons, List.reverse_cons]
      exact (ih q).append (.cons r .nil)
theorem je_rev {e : Expr} {k : Nat} {p1 p2 p3 : Pos} (he : JE g c m e) : JE g c (xUn revD m) (.Subscript e (.Slice none none (some (.UnaryOp .USub (.Constant (.int 1) k p1) p2)) p3) pos) := by
  refine je_mk (fun X ok => PE.imp (pe_revA (he X ok).1) fun σ H Q h => ?_) (by intro _ _; rfl)
  rw [ok.K]
  obtain ⟨μ, s, env, d, s', S, E, hv, q⟩ := h
  obtain ⟨d1, s1, h1, hv⟩ := bind_ok hv
  refine ⟨μ, s, env, d1, s1, S, E, h1, fun v1 H1 μ1 x1 S1 r1 => ?_⟩
  unfold revD at hv
  split at hv
  · cases hv
    cases r1 with
    | @tup a vs _ tx px =>
    refine ⟨a, vs, rfl, .inr ⟨tx, fun p hp => ?_⟩⟩
    obtain ⟨x2, S2, r2⟩ := rep_tup S1 hp px.reverse
    exact q _ _ μ1 (x1.trans x2) S2 r2
  · split at hv
    · rename_i ex
      cases hv
      cases r1 with
      | ref rx =>
      obtain ⟨_, vx, hx, px⟩ := Rep.lst_at S1 (.ref rx) ex
      refine ⟨_, vx, rfl, .inl ⟨.of hx, fun p hp => ?_⟩⟩
      obtain ⟨x2, S2, r2⟩ := rep_lst S1 hp px.reverse
      exact q _ _ _ (x1.trans x2) S2 r2
    · cases hv
  · cases hv
theorem atI_rep {ds : List D} {vs : List V} {i : Int} {d : D} (r : Reps K H μ vs ds) (h : atI ds i = some d) : ∃ v, atI vs i = some v ∧ Rep K H μ v d := by
  unfold atI at h ⊢
  rw [r.length]
  obtain ⟨j, h1, h2⟩ := Option.bind_eq_some_iff.mp h
  obtain ⟨v, e, q⟩ := r.get h2
  exact ⟨v, by rw [h1]; exact e, q⟩
def plainIx : Expr → Bool
  | .Slice _ _ _ _ => false
  | _ => true
theorem je_ix (ha : JE g c ma a) (hb : JE g c mb b) (hs : PlainIx b := by exact fun _ _ => rfl) : JE g c (xBin ixD ma mb) (.Subscript a b pos) := by
  refine je_mk (fun X ok => PE.imp (pe_ix ix_seq (ha X ok).1 (hb X ok).1 hs) fun σ H Q h => ?_) (by intro _ _; rfl)
  obtain ⟨μ0, s0, env0, d1, s1, S0, E0, h1, qa⟩ := rd_two h
  refine ⟨μ0, s0, env0, d1, s1, S0, E0, h1, fun v1 H1 μ1 x1 S1 r1 => ?_⟩
  obtain ⟨μa, sa, env, d2, s2, Sa, E, h2, qb⟩ := qa v1 H1 μ1 x1 S1 r1
  refine ⟨μa, sa, env, d2, s2, Sa, E, h2, fun v2 H2 μ2 x2 S2 r2 => ?_⟩
  obtain ⟨μ, s, dx, dy, d, s', S, rx, ry, h, q⟩ := qb v2 H2 μ2 x2 S2 r2
  rw [ok.K]
  unfold ixD at h
  split at h
  · cases ry
    split at h
    · rename_i xs hx
      split at h
      · rename_i d hd
        cases h
        obtain ⟨p, vs, rfl, sq, r⟩ := items_rep S rx hx
        obtain ⟨v, hv, rv⟩ := atI_rep r hd
        rcases sq with sq | sq
        · exact .inl ⟨p, vs, _, v, rfl, rfl, sq, hv, q _ _ _ .refl S rv⟩
        · exact .inr (.inl ⟨p, vs, _, v, rfl, rfl, sq, hv, q _ _ _ .refl S rv⟩)
      · cases h
    · split at h
      · split at h
        · rename_i hz
          split at h
          · rename_i c hc
            cases h
            cases rx
            exact .inr (.inr ⟨_, _, c, rfl, rfl, hz, hc, q _ _ _ .refl S (.str _)⟩)
          · cases h
        · cases h
      · cases h
  · cases h
theorem jo_no : JO g c oNo none := fun X ok => PO.imp po_none fun σ H Q h => by
  obtain ⟨μ, s, env, d, s', S, E, hv, q⟩ := h
  cases hv
  exact q H μ .refl S
theorem jo_yes (ha : JE g c ma a) : JO g c (oYes ma) (some a) := fun X ok => PO.imp (po_some (ha X ok).1) fun σ H Q h => by
  obtain ⟨μ, s, env, d, s', S, E, hv, q⟩ := h
  obtain ⟨d1, s1, h1, hv⟩ := bind_ok hv
  refine ⟨μ, s, env, d1, s1, S, E, h1, fun v1 H1 μ1 x1 S1 r1 => ?_⟩
  split at hv
  · cases hv
    cases r1
    exact ⟨_, rfl, q H1 μ1 x1 S1⟩
  · cases hv
theorem sIx_le' (n d : Nat) (hd : d ≤ n) (o : Option Int) : HT.sIx n d o ≤ n := HT.sIx_le n d hd o
theorem je_slc {lo hi : Option Expr} {ml mh : EvO} {p2 : Pos} (ha : JE g c ma a) (hl : JO g c ml lo) (hh : JO g c mh hi) : JE g c (xSlc ma ml mh) (.Subscript a (.Slice lo hi none p2) pos) := by
  refine je_mk (fun X ok => PE.imp (pe_slice (sl_tupA.or sl_list) (ha X ok).1 (hl X ok) (hh X ok)) fun σ H Q h => ?_) (by intro _ _; rfl)
  rw [ok.K]
  obtain ⟨μ, s, env, d, s', S, E, hv, q⟩ := h
  obtain ⟨d1, s1, h1, hv⟩ := bind_ok hv
  obtain ⟨l, s2, h2, hv⟩ := bind_ok hv
  obtain ⟨u, s3, h3, hv⟩ := bind_ok hv
  refine ⟨μ, s, env, d1, s1, S, E, h1, fun v1 H1 μ1 x1 S1 r1 => ?_⟩
  refine ⟨μ1, s1, env, l, s2, S1, E.mono S x1, h2, fun H2 μ2 x2 S2 => ?_⟩
  refine ⟨μ2, s2, env, u, s3, S2, (E.mono S x1).mono S1 x2, h3, fun H3 μ3 x3 S3 => ?_⟩
  have r3 := r1.mono S1 (x2.trans x3)
  unfold slcD at hv
  split at hv
  · cases hv
    cases r3 with
    | @tup a vs _ tx px =>
    have xx := x1.trans (x2.trans x3)
    refine .inl ⟨a, vs, rfl, tx, fun hw => ?_, fun hw p hp => ?_⟩
    · refine q _ _ μ3 xx S3 (.tup tx ?_)
      have pc := px.cut l u
      have e : cutV vs l u = vs := by
        unfold cutV
        rw [hw.1, hw.2]
        simp
      rw [e] at pc
      exact pc
    · obtain ⟨x4, S4, r4⟩ := rep_tup S3 hp (px.cut l u)
      exact q _ _ μ3 (xx.trans x4) S4 r4
  · split at hv
    · rename_i ex
      cases hv
      cases r3 with
      | ref rx =>
      obtain ⟨_, vx, hx, px⟩ := Rep.lst_at S3 (.ref rx) ex
      refine .inr ⟨_, vx, rfl, .of hx, fun p hp => ?_⟩
      obtain ⟨x4, S4, r4⟩ := rep_lst S3 hp (px.cut l u)
      exact q _ _ _ ((x1.trans (x2.trans x3)).trans x4) S4 r4
    · cases hv
  · cases hv
/-! ### built-in functions -/
theorem cr_absD (hK : X.K = K) : CallR X (.builtin "abs") (RnD K absB) := by
  subst hK
  refine CallR.imp call_abs fun xs H Q h => ?_
  obtain ⟨μ, s, ds, d, s', S, r, h, q⟩ := h
  unfold absB at h
  split at h
  · cases h
    cases r with
    | cons r1 r2 =>
    cases r2; cases r1
    exact ⟨_, rfl, q _ H μ .refl S (.int _)⟩
  · cases h
theorem cr_max2D (hK : X.K = K) (hc : X.calm = true) : CallR X (.builtin "max") (RnD K max2B) := by
  subst hK
  refine CallR.imp (call_max2 hc) fun xs H Q h => ?_
  obtain ⟨μ, s, ds, d, s', S, r, h, q⟩ := h
  unfold max2B at h
  split at h
  · cases h
    cases r with
    | cons r1 r2 =>
    cases r2 with
    | cons r2 r3 =>
    cases r3; cases r1; cases r2
    exact ⟨_, _, rfl, q _ H μ .refl S (.int _)⟩
  · cases h
theorem cr_min2D (hK : X.K = K) (hc : X.calm = true) : CallR X (.builtin "min") (RnD K min2B) := by
  subst hK
  refine CallR.imp (call_min2 hc) fun xs H Q h => ?_
  obtain ⟨μ, s, ds, d, s', S, r, h, q⟩ := h
  unfold min2B at h
  split at h
  · cases h
    cases r with
    | cons r1 r2 =>
    cases r2 with
    | cons r2 r3 =>
    cases r3; cases r1; cases r2
    exact ⟨_, _, rfl, q _ H μ .refl S (.int _)⟩
  · cases h
theorem cr_intD (hK : X.K = K) : CallR X (.type "int") (RnD K intB) := by
  subst hK
  refine CallR.imp call_int1 fun xs H Q h => ?_
  obtain ⟨μ, s, ds, d, s', S, r, h, q⟩ := h
  unfold intB at h
  split at h
  · cases h
    cases r with
    | cons r1 r2 =>
    cases r2; cases r1
    exact .inl ⟨_, rfl, q _ H μ .refl S (.int _)⟩
  · cases h
    cases r with
    | cons r1 r2 =>
    cases r2; cases r1
    exact .inr ⟨_, rfl, q _ H μ .refl S (.int _)⟩
  · cases h
theorem cr_lenD (hK : X.K = K) : CallR X (.builtin "len") (RnD K lenB) := by
  subst hK
  refine CallR.imp call_len fun xs H Q h => ?_
  obtain ⟨μ, s, ds, d, s', S, r, h, q⟩ := h
  have sq : ∀ (x : D) (ys : List D) (v : V), Rep X.K H μ v x → items x s = some ys → ∃ n, LenV X.K v H n ∧ n = ys.length := fun x ys v rv hx => by
    obtain ⟨a, vs, rfl, q, r⟩ := items_rep S rv hx
    refine ⟨ys.length, ?_, rfl⟩
    rcases q with q | q
    · exact .inl ⟨vs, q, r.length.symm⟩
    · exact .inr ⟨vs, q, r.length.symm⟩
  unfold lenB at h
  split at h
  · split at h
    · rename_i hz
      cases h
      cases r with
      | cons r1 r2 =>
      cases r2; cases r1
      exact ⟨_, _, rfl, ⟨hz, rfl⟩, q _ H μ .refl S (.int _)⟩
    · cases h
  · split at h
    · rename_i ys ex
      cases h
      cases r with
      | cons r1 r2 =>
      cases r2
      obtain ⟨n, a, b⟩ := sq _ ys _ r1 (by unfold items; dsimp only; rw [ex])
      subst b
      exact ⟨_, _, rfl, a, q _ H μ .refl S (.int _)⟩
    · cases h
  · split at h
    · rename_i ys hx
      cases h
      cases r with
      | cons r1 r2 =>
      cases r2
      obtain ⟨n, a, b⟩ := sq _ ys _ r1 hx
      subst b
      exact ⟨_, _, rfl, a, q _ H μ .refl S (.int _)⟩
    · cases h
  · cases h
theorem cr_tupleD (hK : X.K = K) : CallR X (.type "tuple") (RnD K tupleB) := by
  subst hK
  refine CallR.imp call_tuple_of fun xs H Q h => ?_
  obtain ⟨μ, s, ds, d, s', S, r, h, q⟩ := h
  unfold tupleB at h
  split at h
  · split at h
    · rename_i ys hx
      cases h
      cases r with
      | cons r1 r2 =>
      cases r2
      obtain ⟨a, vs, rfl, sq, rr⟩ := items_rep S r1 hx
      refine ⟨a, vs, rfl, ?_⟩
      rcases sq with sq | sq
      · refine .inl ⟨sq, fun p hp => ?_⟩
        obtain ⟨x2, S2, r2⟩ := rep_tup S hp rr
        exact q _ _ μ x2 S2 r2
      · exact .inr ⟨sq, q _ H μ .refl S (.tup sq rr)⟩
    · cases h
  · cases h
theorem cr_listD (hK : X.K = K) : CallR X (.type "list") (RnD K listB) := by
  subst hK
  refine CallR.imp call_list_of fun xs H Q h => ?_
  obtain ⟨μ, s, ds, d, s', S, r, h, q⟩ := h
  unfold listB at h
  split at h
  · split at h
    · rename_i ys hx
      cases h
      cases r with
      | cons r1 r2 =>
      cases r2
      obtain ⟨a, vs, rfl, sq, rr⟩ := items_rep S r1 hx
      refine ⟨a, vs, rfl, sq, fun p hp => ?_⟩
      obtain ⟨x2, S2, r2⟩ := rep_lst S hp rr
      exact q _ _ _ x2 S2 r2
    · cases h
  · cases h
theorem bools_rep : ∀ {ds : List D} {vs : List V} {bs : List Bool}, Reps K H μ vs ds → bools ds = some bs → vs = bs.map V.bl
  | [], _, _, r, h => by cases r; cases h; rfl
  | .bl b :: ds, _, bs, r, h => by
    obtain ⟨cs, h1, rfl⟩ := Option.map_eq_some_iff.mp (show (bools ds).map (b :: ·) = some bs from h)
    cases r with
    | cons r1 r2 =>
      cases r1
      rw [bools_rep r2 h1]; rfl
  | .non :: _, _, _, _, h => by cases h
  | .int _ :: _, _, _, _, h => by cases h
  | .str _ :: _, _, _, _, h => by cases h
  | .tup _ :: _, _, _, _, h => by cases h
  | .fix _ :: _, _, _, _, h => by cases h
  | .ref _ :: _, _, _, _, h => by cases h
theorem ints_rep : ∀ {ds : List D} {vs : List V} {bs : List Int}, Reps K H μ vs ds → intsD ds = some bs → vs = bs.map V.int
  | [], _, _, r, h => by cases r; cases h; rfl
  | .int b :: ds, _, bs, r, h => by
    obtain ⟨cs, h1, rfl⟩ := Option.map_eq_some_iff.mp (show (intsD ds).map (b :: ·) = some bs from h)
    cases r with
    | cons r1 r2 =>
      cases r1
      rw [ints_rep r2 h1]; rfl
  | .non :: _, _, _, _, h => by cases h
  | .bl _ :: _, _, _, _, h => by cases h
  | .str _ :: _, _, _, _, h => by cases h
  | .tup _ :: _, _, _, _, h => by cases h
  | .fix _ :: _, _, _, _, h => by cases h
  | .ref _ :: _, _, _, _, h => by cases h
theorem cr_allD (hK : X.K = K) (hc : X.calm = true) : CallR X (.builtin "all") (RnD K allB) := by
  subst hK
  refine CallR.imp (cr_all hc) fun xs H Q h => ?_
  obtain ⟨μ, s, ds, d, s', S, r, h, q⟩ := h
  unfold allB at h
  split at h
  · split at h
    · rename_i bs hx
      cases h
      cases r with
      | cons r1 r2 =>
      cases r2
      obtain ⟨ys, h1, h2⟩ := Option.bind_eq_some_iff.mp hx
      obtain ⟨a, vs, rfl, sq, rr⟩ := litems_rep S r1 h1
      exact ⟨a, bs, rfl, by rw [← bools_rep rr h2]; exact sq, q _ H μ .refl S (.bl _)⟩
    · cases h
  · cases h
theorem cr_anyD (hK : X.K = K) (hc : X.calm = true) : CallR X (.builtin "any") (RnD K anyB) := by
  subst hK
  refine CallR.imp (cr_any hc) fun xs H Q h => ?_
  obtain ⟨μ, s, ds, d, s', S, r, h, q⟩ := h
  unfold anyB at h
  split at h
  · split at h
    · rename_i bs hx
      cases h
      cases r with
      | cons r1 r2 =>
      cases r2
      obtain ⟨ys, h1, h2⟩ := Option.bind_eq_some_iff.mp hx
      obtain ⟨a, vs, rfl, sq, rr⟩ := litems_rep S r1 h1
      exact ⟨a, bs, rfl, by rw [← bools_rep rr h2]; exact sq, q _ H μ .refl S (.bl _)⟩
    · cases h
  · cases h
theorem cr_sumD (hK : X.K = K) (hc : X.calm = true) : CallR X (.builtin "sum") (RnD K sumB) := by
  subst hK
  refine CallR.imp (cr_sum hc) fun xs H Q h => ?_
  obtain ⟨μ, s, ds, d, s', S, r, h, q⟩ := h
  unfold sumB at h
  split at h
  · split at h
    · rename_i bs hx
      cases h
      cases r with
      | cons r1 r2 =>
      cases r2
      obtain ⟨ys, h1, h2⟩ := Option.bind_eq_some_iff.mp hx
      obtain ⟨a, vs, rfl, sq, rr⟩ := litems_rep S r1 h1
      exact ⟨a, bs, rfl, by rw [← ints_rep rr h2]; exact sq, q _ H μ .refl S (.int _)⟩
    · cases h
  · cases h
/-! ### isinstance -/
theorem ty_of (S : Sim K μ H s) {v : V} {d : D} {n : String} (r : Rep K H μ v d) (h : tyName d s = some n) : TyX K H v (.type n) := by
  cases r with
  | non => cases h; exact .base .non
  | bl b => cases h; exact .base (.bl b)
  | int i => cases h; exact .base (.int i)
  | str x => cases h; exact .base (.str x)
  | tup q r =>
    cases h
    rcases q with (q | ⟨o, q⟩) | ⟨o, its, n, e, hc, _⟩
    · exact .base (.tup q)
    · exact .fTuple q
    · exact .kTuple e hc
  | fix q r =>
    cases h
    rcases q with ⟨o, q⟩ | ⟨o, its, n, e, hc, _⟩
    · exact .base (.frz q)
    · exact .kList e hc
  | @ref i a q =>
    obtain ⟨o, e, ro⟩ := S.ob i a q
    unfold tyName at h
    dsimp only at h
    rw [e] at h
    cases o with
    | lst ds => cases h; obtain ⟨vs, e1, r1⟩ := ro; exact .base (.lst e1)
    | dct kvs => cases h; exact .base (.dK ro.2)
theorem isTy_kit {d : D} {t : Ty} {b : Bool} (h : isTy d s t = some b) : ∃ n, tyName d s = some n ∧ PySem.W.kitOne K (.type n) (.type t.name) = some b := by
  have key : ∀ n : String, kitB n t.name = some b → PySem.W.kitOne K (.type n) (.type t.name) = some b := fun n h => kit_ty h
  cases d with
  | non => refine ⟨_, rfl, key _ ?_⟩; cases h; cases t <;> decide +kernel
  | bl _ => refine ⟨_, rfl, key _ ?_⟩; cases h; cases t <;> decide +kernel
  | int _ => refine ⟨_, rfl, key _ ?_⟩; cases h; cases t <;> decide +kernel
  | str _ => refine ⟨_, rfl, key _ ?_⟩; cases h; cases t <;> decide +kernel
  | tup _ => refine ⟨_, rfl, key _ ?_⟩; cases h; cases t <;> decide +kernel
  | fix _ => refine ⟨_, rfl, key _ ?_⟩; cases h; cases t <;> decide +kernel
  | ref i =>
    unfold isTy at h
    unfold tyName
    dsimp only at h ⊢
    cases e : s.get i with
    | none => rw [e] at h; cases h
    | some o =>
      rw [e] at h
      cases o with
      | lst ds => refine ⟨_, rfl, key _ ?_⟩; cases h; cases t <;> decide +kernel
      | dct kvs => refine ⟨_, rfl, key _ ?_⟩; cases h; cases t <;> decide +kernel
/-- isinstance(e, T) -/
theorem je_isi {t : Ty} {e : Expr} {p p2 : Pos} {x : Str} (hx : x = Str.ofString t.name) (hs : c.sc.names.lookup ("isinstance" : Str) = some .globalImplicit) (hm : g.mg ("isinstance" : Str) = none) (hs2 : c.sc.names.lookup x = some .globalImplicit) (hm2 : g.mg x = none)
    (he : JE g c m e) (hst : noStar e = true := by rfl) : JE g c (xUn (isiD [t]) m) (.Call (.Name "isinstance" p) [e, .Name x p2] [] pos) := by
  have hb : bootBuiltins x = some (.type t.name) := by subst hx; cases t <;> decide +kernel
  have hn : x ≠ "__name__" := by subst hx; cases t <;> decide +kernel
  have hd : (x == ("__debug__" : Str)) = false := by subst hx; cases t <;> decide +kernel
  refine je_mk (fun X ok => ?_) (by intro _ _; rfl)
  have pt : PE X (.Name x p2) (tC (.ty t.name)) := pe_bltn (by show X.env.scope.names.lookup x = _; rw [ok.sc]; exact hs2) (by rw [ok.mg]; exact hm2) hb rfl hn hd
  refine PE.imp (pe_callB call_isi (by show X.env.scope.names.lookup _ = _; rw [ok.sc]; exact hs) (by rw [ok.mg]; exact hm) (by decide +kernel) (pa_cons (he X ok).1 (pa_cons pt pa_nil) (star_cons hst _)) (by decide) (by decide) (star_cons hst _)) fun σ H Q h => ?_
  obtain ⟨μ, s, env, d, s', S, E, hv, q⟩ := h
  obtain ⟨d1, s1, h1, hv⟩ := bind_ok hv
  refine ⟨μ, s, env, d1, s1, S, E, h1, fun v1 H1 μ1 x1 S1 r1 => ?_⟩
  unfold isiD at hv
  split at hv
  · rename_i bs hbs
    cases hv
    obtain ⟨b, hb2⟩ : ∃ b, isTy d1 s' t = some b ∧ bs = [b] := by
      unfold mapO at hbs
      split at hbs
      · rename_i b ds e1 e2
        cases hbs
        cases e2
        exact ⟨b, e1, rfl⟩
      · cases hbs
    obtain ⟨hb2, rfl⟩ := hb2
    obtain ⟨n, hn2, hk⟩ := isTy_kit (K := X.K) hb2
    refine ⟨v1, .ty t.name, .type n, .type t.name, b, rfl, .ty _, ?_, hk, ?_⟩
    · rw [ok.K]; exact ty_of S1 r1 hn2
    · have e3 : ([b].any id) = b := by cases b <;> rfl
      rw [e3] at q
      exact q _ H1 μ1 x1 S1 (.bl b)
  · cases hv
theorem kitAny_two {K : PySem.W.Frag} {t c1 c2 : Value} {b1 b2 : Bool} (h1 : PySem.W.kitOne K t c1 = some b1) (h2 : PySem.W.kitOne K t c2 = some b2) : PySem.W.kitAny K t [c1, c2] = some ([b1, b2].any id) :=
  kitAny_cons h1 (fun e => kitAny_cons h2 (fun e2 => by subst e e2; exact kitAny_nil) fun e2 => by subst e e2; rfl) fun e => by subst e; rfl
/-- isinstance(e, (T, U)) -/
theorem je_isi2 {t u : Ty} {e : Expr} {p p2 p3 p4 : Pos} {k : Nat} {x y : Str} (hx : x = Str.ofString t.name) (hy : y = Str.ofString u.name) (hs : c.sc.names.lookup ("isinstance" : Str) = some .globalImplicit) (hm : g.mg ("isinstance" : Str) = none) (hs2 : c.sc.names.lookup x = some .globalImplicit) (hm2 : g.mg x = none)
    (hs3 : c.sc.names.lookup y = some .globalImplicit) (hm3 : g.mg y = none) (he : JE g c m e) (hst : noStar e = true := by rfl) : JE g c (xUn (isiD [t, u]) m) (.Call (.Name "isinstance" p) [e, .Tuple [.Name x p2, .Name y p3] k p4] [] pos) := by
  have hb : bootBuiltins x = some (.type t.name) := by subst hx; cases t <;> decide +kernel
  have hn : x ≠ "__name__" := by subst hx; cases t <;> decide +kernel
  have hd : (x == ("__debug__" : Str)) = false := by subst hx; cases t <;> decide +kernel
  have hb' : bootBuiltins y = some (.type u.name) := by subst hy; cases u <;> decide +kernel
  have hn' : y ≠ "__name__" := by subst hy; cases u <;> decide +kernel
  have hd' : (y == ("__debug__" : Str)) = false := by subst hy; cases u <;> decide +kernel
  refine je_mk (fun X ok => ?_) (by intro _ _; rfl)
  have pt : PE X (.Name x p2) (tC (.ty t.name)) := pe_bltn (by show X.env.scope.names.lookup x = _; rw [ok.sc]; exact hs2) (by rw [ok.mg]; exact hm2) hb rfl hn hd
  have pu : PE X (.Name y p3) (tC (.ty u.name)) := pe_bltn (by show X.env.scope.names.lookup y = _; rw [ok.sc]; exact hs3) (by rw [ok.mg]; exact hm3) hb' rfl hn' hd'
  refine PE.imp (pe_callB call_isiT (by show X.env.scope.names.lookup _ = _; rw [ok.sc]; exact hs) (by rw [ok.mg]; exact hm) (by decide +kernel) (pa_cons (he X ok).1 (pa_cons (pe_tup (pa_cons pt (pa_cons pu pa_nil))) pa_nil) (star_cons hst _)) (by decide) (by decide) (star_cons hst _)) fun σ H Q h => ?_
  obtain ⟨μ, s, env, d, s', S, E, hv, q⟩ := h
  obtain ⟨d1, s1, h1, hv⟩ := bind_ok hv
  refine ⟨μ, s, env, d1, s1, S, E, h1, fun v1 H1 μ1 x1 S1 r1 => ?_⟩
  unfold isiD at hv
  split at hv
  · rename_i bs hbs
    cases hv
    refine ⟨by show 2 ≤ sizeLine; decide, fun tp htp => ?_⟩
    obtain ⟨b1, b2, hb1, hb2, rfl⟩ : ∃ b1 b2, isTy d1 s' t = some b1 ∧ isTy d1 s' u = some b2 ∧ bs = [b1, b2] := by
      unfold mapO at hbs
      split at hbs
      · rename_i b ds e1 e2
        cases hbs
        unfold mapO at e2
        split at e2
        · rename_i b' ds' e3 e4
          cases e2; cases e4
          exact ⟨b, b', e1, e3, rfl⟩
        · cases e2
      · cases hbs
    obtain ⟨n, hn2, hk⟩ := isTy_kit (K := X.K) hb1
    obtain ⟨n', hn3, hk'⟩ := isTy_kit (K := X.K) hb2
    rw [hn2] at hn3; cases hn3
    have sm : Same H1 (upd H1 tp (.tup [V.ty t.name, V.ty u.name])) := fun b x e => by
      rw [upd_ne (ne_of_none e htp)]; exact e
    have S2 := S1.same sm
    have r2 := r1.mono S1 (.same sm)
    refine ⟨v1, tp, _, .type n, [.type t.name, .type u.name], [b1, b2].any id, rfl, upd_same, .cons (.ty _) (.cons (.ty _) .nil), ?_, kitAny_two hk hk', ?_⟩
    · rw [ok.K]; exact ty_of S2 r2 hn2
    · exact q _ _ μ1 (x1.trans (.same sm)) S2 (.bl _)
  · cases hv
/-! ### methods of lists -/
theorem isL_ty (S : Sim K μ H s) {v : V} {d : D} (r : Rep K H μ v d) (h : isL d s = true) : tyV K "list" v H := by
  unfold isL at h
  split at h
  · split at h
    · rename_i ex
      cases r with
      | ref q =>
      obtain ⟨_, vs, hx, _⟩ := Rep.lst_at S (.ref q) ex
      exact .inl ⟨rfl, vs, .of hx⟩
    · cases h
  · cases h
theorem je_bm {id : String} {name : Str} {f : D → List D → Sto → R D} {ra : EvA} {o : Expr} {es : List Expr} {apos : Pos} (slot : Slot "list" name id) (hty : typeOf (.builtin id) = pure (.type "method_descriptor")) (hf : ∀ X : Cx, c.Ok g X → MtR X id (RmD g.K f))
    (ho : JE g c m o) (ha : JA g c ra (a :: es)) (hst : (a :: es).all noStar = true := by rfl)
    (hbase : ∀ env, attributeBase o name env (eval o env) = eval o env := by intro _; rfl)
    (hfew : ∀ env, ((backTo pos (starEach (a :: es) env)).all (fun x => !x.1) && (backToKw pos (keywordEach [] env)).all (fun x => x.1.isSome)
      && decide ((a :: es).length + ([] : List Keyword).length + (if ([] : List Keyword).isEmpty then 0 else 1) < 30)) = true := by intro _; rfl)
    (hline : (apos.endLine == pos.line) = true := by rfl) : JE g c (xMeth f m ra) (.Call (.Attribute o name apos) (a :: es) [] pos) := by
  have h2 := hst
  rw [List.all_cons, Bool.and_eq_true] at h2
  refine je_mk (fun X ok => PE.imp (pe_bm PySem.F.plainAttrs_list slot hty (hf X ok) (ho X ok).1 (ha X ok) (hbase _) (hfew _) hline (star_cons h2.1 _) (star_any h2.2 _ _)) fun σ H Q h => ?_) (by intro _ _; rfl)
  obtain ⟨μ, s, env, d, s', S, E, hv, q⟩ := h
  obtain ⟨d1, s1, h1, hv⟩ := bind_ok hv
  refine ⟨μ, s, env, d1, s1, S, E, h1, fun v1 H1 μ1 x1 S1 r1 => ?_⟩
  split at hv
  · rename_i hl
    obtain ⟨ds, s2, h2', hv⟩ := bind_ok hv
    refine ⟨by rw [ok.K]; exact isL_ty S1 r1 hl, μ1, s1, env, ds, s2, S1, E.mono S x1, h2', fun vs H2 μ2 x2 S2 r2 => ?_⟩
    exact ⟨μ2, s2, d1, ds, d, s', S2, r1.mono S1 x2, r2, hv, fun v H' μ' x3 S3 r3 => q v H' μ' (x1.trans (x2.trans x3)) S3 r3⟩
  · cases hv
theorem je_bm0 {id : String} {name : Str} {f : D → List D → Sto → R D} {o : Expr} {apos : Pos} (slot : Slot "list" name id) (hty : typeOf (.builtin id) = pure (.type "method_descriptor")) (hf : ∀ X : Cx, c.Ok g X → MtR X id (RmD g.K f))
    (ho : JE g c m o) (hbase : ∀ env, attributeBase o name env (eval o env) = eval o env := by intro _; rfl)
    (hline : (apos.endLine == pos.line) = true := by rfl) : JE g c (xMeth f m aNil) (.Call (.Attribute o name apos) [] [] pos) := by
  refine je_mk (fun X ok => PE.imp (pe_bm0 PySem.F.plainAttrs_list slot hty (hf X ok) (ho X ok).1 (hbase _) hline) fun σ H Q h => ?_) (by intro _ _; rfl)
  obtain ⟨μ, s, env, d, s', S, E, hv, q⟩ := h
  obtain ⟨d1, s1, h1, hv⟩ := bind_ok hv
  refine ⟨μ, s, env, d1, s1, S, E, h1, fun v1 H1 μ1 x1 S1 r1 => ?_⟩
  split at hv
  · rename_i hl
    have hv : f d1 [] s1 = .ok d s' := hv
    exact ⟨by rw [ok.K]; exact isL_ty S1 r1 hl, μ1, s1, d1, [], d, s', S1, r1, .nil, hv, fun v H' μ' x3 S3 r3 => q v H' μ' (x1.trans x3) S3 r3⟩
  · cases hv
theorem MtR.imp {id : String} {r r' : V → List V → Hp → VK → Prop} (h : MtR X id r) (i : ∀ x xs H Q, r' x xs H Q → r x xs H Q) : MtR X id r' := fun pins s σ H x xs v us Q I rx rs q => h pins s σ H x xs v us Q I rx rs (i x xs H Q q)
theorem mt_appendD (hK : X.K = K) : MtR X "list.append" (RmD K appendM) := by
  subst hK
  refine MtR.imp mt_append fun x xs H Q h => ?_
  obtain ⟨μ, s, dx, ds, d, s', S, rx, rs, h, q⟩ := h
  unfold appendM at h
  split at h
  · split at h
    · rename_i ex
      split at h
      · rename_i hz
        cases h
        cases rx with
        | ref rx =>
        cases rs with
        | cons r1 r2 =>
        cases r2
        obtain ⟨hm, vx, hx, px⟩ := Rep.lst_at S (.ref rx) ex
        obtain ⟨x2, S2⟩ := rep_set (o := .lst []) S hm (px.append (.cons r1 .nil))
        exact ⟨_, vx, _, rfl, rfl, hx, by rw [px.length]; exact hz, q _ _ μ x2 S2 .non⟩
      · cases h
    · cases h
  · cases h
theorem mt_extendD (hK : X.K = K) : MtR X "list.extend" (RmD K extendM) := by
  subst hK
  refine MtR.imp mt_extend fun x xs H Q h => ?_
  obtain ⟨μ, s, dx, ds, d, s', S, rx, rs, h, q⟩ := h
  unfold extendM at h
  split at h
  · split at h
    · rename_i ex ey
      split at h
      · rename_i hz
        cases h
        cases rx with
        | ref rx =>
        cases rs with
        | cons r1 r2 =>
        cases r2
        cases r1 with
        | ref ry =>
        obtain ⟨hm, vx, hx, px⟩ := Rep.lst_at S (.ref rx) ex
        obtain ⟨_, vy, hy, py⟩ := Rep.lst_at S (.ref ry) ey
        obtain ⟨x2, S2⟩ := rep_set (o := .lst []) S hm (px.append py)
        exact ⟨_, _, vx, vy, rfl, rfl, hx, hy, by rw [px.length, py.length]; exact hz, q _ _ μ x2 S2 .non⟩
      · cases h
    · cases h
  · cases h
theorem mt_popD (hK : X.K = K) : MtR X "list.pop" (RmD K popM) := by
  subst hK
  refine MtR.imp (MtR.or mt_pop mt_popAt) fun x xs H Q h => ?_
  obtain ⟨μ, s, dx, ds, d, s', S, rx, rs, h, q⟩ := h
  unfold popM at h
  split at h
  · split at h
    · rename_i ex
      split at h
      · rename_i y hy
        cases h
        cases rx with
        | ref rx =>
        cases rs
        obtain ⟨hm, vx, hx, px⟩ := Rep.lst_at S (.ref rx) ex
        obtain ⟨v, hv, rv⟩ := px.get hy
        obtain ⟨x2, S2⟩ := rep_set (o := .lst []) S hm px.dropLast
        exact .inl ⟨_, vx, v, rfl, rfl, hx, by rw [px.length]; exact hv, q _ _ μ x2 S2 (rv.mono S x2)⟩
      · cases h
    · cases h
  · split at h
    · rename_i ex
      split at h
      · rename_i hz
        split at h
        · rename_i j hj
          split at h
          · rename_i y hy
            cases h
            cases rx with
            | ref rx =>
            cases rs with
            | cons r1 r2 =>
            cases r2
            cases r1
            obtain ⟨hm, vx, hx, px⟩ := Rep.lst_at S (.ref rx) ex
            obtain ⟨v, hv, rv⟩ := px.get hy
            obtain ⟨x2, S2⟩ := rep_set (o := .lst []) S hm (px.eraseIdx j)
            exact .inr ⟨_, vx, _, j, v, rfl, rfl, hx, hz.1, hz.2, by rw [px.length]; exact hj, hv, q _ _ μ x2 S2 (rv.mono S x2)⟩
          · cases h
        · cases h
      · cases h
    · cases h
  · cases h
theorem mt_clearD (hK : X.K = K) : MtR X "list.clear" (RmD K clearM) := by
  subst hK
  refine MtR.imp mt_clear fun x xs H Q h => ?_
  obtain ⟨μ, s, dx, ds, d, s', S, rx, rs, h, q⟩ := h
  unfold clearM at h
  split at h
  · split at h
    · rename_i ex
      cases h
      cases rx with
      | ref rx =>
      cases rs
      obtain ⟨hm, vx, hx, px⟩ := Rep.lst_at S (.ref rx) ex
      obtain ⟨x2, S2⟩ := rep_set (o := .lst []) S hm (xs := []) (ds := []) .nil
      exact ⟨_, vx, rfl, rfl, hx, q _ _ μ x2 S2 .non⟩
    · cases h
  · cases h
end
end Cs

/-! ## CsSim5 -/
namespace Cs
open PySem PySem.Spec PyProof.Rows L2
section
variable {K : PySem.W.Frag} {μ μ' : List Addr} {H H' : Hp} {s s' : Sto} {g : Gb} {c : Cc} {X : Cx} {m ma mb mc : Sem} {e a b d : Expr} {pos : Pos}
/-! ### keyword calls -/
def JK (g : Gb) (c : Cc) (m : EvA) (kws : List Keyword) : Prop := ∀ X : Cx, c.Ok g X → PK X kws (RdA g.K m)
theorem PK.imp {X : Cx} {e : List Keyword} {t t' : TA} (h : PK X e t) (f : ∀ σ H Q, t' σ H Q → t σ H Q) : PK X e t' := ⟨fun p pins s σ H Q I q => h.run p pins s σ H Q I (f σ H Q q)⟩
theorem jk_nil : JK g c aNil [] := fun X ok => PK.imp pk_nil fun σ H Q h => by
  obtain ⟨μ, s, env, d, s', S, E, hv, q⟩ := h
  cases hv
  exact q [] H μ .refl S .nil
theorem jk_cons {r : EvA} {nm : Option Str} {kpos : Pos} {kws : List Keyword} (ha : JE g c ma a) (hr : JK g c r kws) : JK g c (aCons ma r) (⟨nm, a, kpos⟩ :: kws) := fun X ok =>
  PK.imp (pk_cons (ha X ok).1 (hr X ok)) fun σ H Q h => by
    obtain ⟨μ, s, env, d, s', S, E, hv, q⟩ := h
    obtain ⟨d1, s1, h1, hv⟩ := bind_ok hv
    obtain ⟨d2, s2, h2, hv⟩ := bind_ok hv
    cases hv
    refine ⟨μ, s, env, d1, s1, S, E, h1, fun v1 H1 μ1 x1 S1 r1 => ?_⟩
    refine ⟨μ1, s1, env, d2, s', S1, E.mono S x1, h2, fun v2 H2 μ2 x2 S2 r2 => ?_⟩
    exact q _ H2 μ2 (x1.trans x2) S2 (.cons (r1.mono S1 x2) r2)
theorem Reps.getD : ∀ {ds : List D} {vs : List V} (i : Nat), Reps K H μ vs ds → Rep K H μ (vs.getD i .non) (ds.getD i .non)
  | [], _, _, h => by cases h; exact .non
  | d :: ds, _, 0, h => by
    cases h with
    | cons r _ => exact r
  | d :: ds, _, i + 1, h => by
    cases h with
    | cons _ q => exact q.getD i
theorem Reps.perm {np nk : Nat} {p : List Nat} {us ws : List D} {vs zs : List V} (r : Reps K H μ vs us) (q : Reps K H μ zs ws) : Reps K H μ (gPerm .non np nk p vs zs) (gPerm .non np nk p us ws) := by
  unfold gPerm
  rw [r.length, q.length]
  split
  · induction p with
    | nil => exact .nil
    | cons i p ih => exact .cons ((r.append q).getD i) ih
  · exact .nil
theorem Vals.getD' : ∀ {vs : List V} {us : List Value} (i : Nat), Vals vs us → RelV (vs.getD i .non) (us.getD i .none)
  | _, _, _, .nil => rfl
  | _, _, 0, .cons r _ => r
  | _, _, i + 1, .cons _ q => Cs.Vals.getD' i q
theorem Vals.perm {np nk : Nat} {p : List Nat} {us ws : List Value} {vs zs : List V} (r : Vals vs us) (q : Vals zs ws) : Vals (gPerm .non np nk p vs zs) (gPerm .none np nk p us ws) := by
  unfold gPerm
  rw [r.length, q.length]
  split
  · induction p with
    | nil => exact .nil
    | cons i p ih => exact .cons (Cs.Vals.getD' i (L2.Vals.append r q)) ih
  · exact .nil
/-- how a def takes keywords -/
def FnK (g : Gb) (lv : Nat) (x : Str) (ps ks : List Str) (np : Nat) (p : List Nat) (m : Fn) : Prop :=
  (∀ ds s d s', m ds s = .ok d s' → ds.length = ps.length) ∧
  ∃ f fd, g.mg x = some (.ref f) ∧ PySem.W.keepIn g.K (.ref f) = true ∧ KBinds g.K fd ps ks (gPerm .none np ks.length p) (gPerm .non np ks.length p) ∧ FnOk g.P g.w g.K g.mg g.base CX0 lv f fd ps (spD g.K ps.length m)
theorem je_callk {lv np : Nat} {x : Str} {ps ks : List Str} {pm : List Nat} {f : Fn} {ra rk : EvA} {p : Pos} {es : List Expr} {kws : List Keyword} (F : FnK g lv x ps ks np pm f) (hl : lv ≤ c.lv) (hs : c.sc.names.lookup x = some .globalImplicit)
    (ha : JA g c ra (a :: es)) (hk : JK g c rk kws) (hst : (a :: es).all noStar = true := by rfl)
    (hall : ∀ env, (backToKw pos (keywordEach kws env)).all (·.1.isSome) = true := by intro _; rfl) (hks : ∀ env, (backToKw pos (keywordEach kws env)).filterMap (·.1) = ks := by intro _; rfl)
    (hpl : ∀ env, ((backTo pos (starEach (a :: es) env)).any (·.1) || (backToKw pos (keywordEach kws env)).any (·.1.isNone)) = false := by intro _; rfl)
    (hdb : (x == ("__debug__" : Str)) = false := by decide) : JE g c (xCallK f np ks.length pm ra rk) (.Call (.Name x p) (a :: es) kws pos) := by
  obtain ⟨hlen, fa, fd, hm, hkk, hb, hF⟩ := F
  have h2 := hst
  rw [List.all_cons, Bool.and_eq_true] at h2
  refine je_mk (fun X ok => ?_) (by intro _ _; rfl)
  have hF' : FnOk X.prog X.w X.K X.mg X.base CX0 lv fa fd ps (spD g.K ps.length f) := by
    rw [ok.prog, ok.w, ok.K, ok.mg, ok.base]; exact hF
  refine PE.imp (pe_callK hF' (ok.room.mono hl) (by show X.env.scope.names.lookup x = _; rw [ok.sc]; exact hs) (by rw [ok.mg]; exact hm) (by rw [ok.K]; exact hkk) (by rw [ok.K]; exact hb) pass0 (ha X ok) (hk X ok) (hall _) (hks _) hdb (star_cons h2.1 _) (hpl _)) fun σ H Q h => ?_
  obtain ⟨μ, s, env, d, s', S, E, hv, q⟩ := h
  obtain ⟨us, s1, h1, hv⟩ := bind_ok hv
  obtain ⟨ws, s2, h2', hv⟩ := bind_ok hv
  refine ⟨μ, s, env, us, s1, S, E, h1, fun vs H1 μ1 x1 S1 r1 => ?_⟩
  refine ⟨μ1, s1, env, ws, s2, S1, E.mono S x1, h2', fun zs H2 μ2 x2 S2 r2 => ?_⟩
  have rp := (r1.mono S1 x2).perm (np := np) (nk := ks.length) (p := pm) r2
  exact ⟨by rw [rp.length]; exact hlen _ _ _ _ hv, μ2, s2, _, d, s', S2, rp, hv, fun v H' μ' x3 S3 r3 => q v H' μ' (x1.trans (x2.trans x3)) S3 r3⟩
theorem pe_callK0 {CX : CXT} {k : Nat} {f : Addr} {fd : FuncData} {ps ks : List Str} {sp : Sp} {E : XK} {x : Str} {p pos : Pos} {kws : List Keyword} {tk : TA} {gg : List Value → List Value → List Value} {gV : List V → List V → List V}
    (F : FnOk X.prog X.w X.K X.mg X.base CX k f fd ps sp) (hr : Room k X.A) (hg : Gl X x) (hm : X.mg x = some (.ref f)) (hk : PySem.W.keepIn X.K (.ref f) = true) (hb : KBinds X.K fd ps ks gg gV) (hx : Passes CX X E)
    (hkw : PK X kws tk) (hall : (backToKw pos (keywordEach kws X.env)).all (·.1.isSome) = true) (hks : (backToKw pos (keywordEach kws X.env)).filterMap (·.1) = ks)
    (hdb : (x == ("__debug__" : Str)) = false)
    (hpl : ((backTo pos (starEach [] X.env)).any (·.1) || (backToKw pos (keywordEach kws X.env)).any (·.1.isNone)) = false) :
    PE X (.Call (.Name x p) [] kws pos) (fun σ H Q => tk σ H fun zs H2 => sp (gV [] zs) H2 Q E) := by
  refine ⟨fun pins s σ H Q I h => ?_⟩
  refine wpAny_Call_Name_kw (ld_glob I hg hm ?_ hdb)
  refine PySem.W.callWith_KW0 (h₀ := X.base) I.ok.mod.kin hk hall ?_ hpl
  refine thn (hkw.run pos pins s σ H _ I h) fun ws s2 ⟨zs, H2, I2, rz, q2⟩ => ⟨I2.kIn, ?_⟩
  rw [hks]
  exact run_fnk (us := []) (vs := []) F hr hb hx I2 .nil rz q2
theorem je_callk0 {lv : Nat} {x : Str} {ps ks : List Str} {pm : List Nat} {f : Fn} {rk : EvA} {p : Pos} {kws : List Keyword} (F : FnK g lv x ps ks 0 pm f) (hl : lv ≤ c.lv) (hs : c.sc.names.lookup x = some .globalImplicit)
    (hk : JK g c rk kws) (hall : ∀ env, (backToKw pos (keywordEach kws env)).all (·.1.isSome) = true := by intro _; rfl) (hks : ∀ env, (backToKw pos (keywordEach kws env)).filterMap (·.1) = ks := by intro _; rfl)
    (hpl : ∀ env, ((backTo pos (starEach [] env)).any (·.1) || (backToKw pos (keywordEach kws env)).any (·.1.isNone)) = false := by intro _; rfl)
    (hdb : (x == ("__debug__" : Str)) = false := by decide) : JE g c (xCallK f 0 ks.length pm aNil rk) (.Call (.Name x p) [] kws pos) := by
  obtain ⟨hlen, fa, fd, hm, hkk, hb, hF⟩ := F
  refine je_mk (fun X ok => ?_) (by intro _ _; rfl)
  have hF' : FnOk X.prog X.w X.K X.mg X.base CX0 lv fa fd ps (spD g.K ps.length f) := by
    rw [ok.prog, ok.w, ok.K, ok.mg, ok.base]; exact hF
  refine PE.imp (pe_callK0 hF' (ok.room.mono hl) (by show X.env.scope.names.lookup x = _; rw [ok.sc]; exact hs) (by rw [ok.mg]; exact hm) (by rw [ok.K]; exact hkk) (by rw [ok.K]; exact hb) pass0 (hk X ok) (hall _) (hks _) hdb (hpl _)) fun σ H Q h => ?_
  obtain ⟨μ, s, env, d, s', S, E, hv, q⟩ := h
  have hv : (rk env s).bind (fun ws s => f (gPerm .non 0 ks.length pm [] ws) s) = .ok d s' := hv
  obtain ⟨ws, s2, h2', hv⟩ := bind_ok hv
  refine ⟨μ, s, env, ws, s2, S, E, h2', fun zs H2 μ2 x2 S2 r2 => ?_⟩
  have rp := Reps.perm (np := 0) (nk := ks.length) (p := pm) (us := []) (vs := []) .nil r2
  exact ⟨by rw [rp.length]; exact hlen _ _ _ _ hv, μ2, s2, _, d, s', S2, rp, hv, fun v H' μ' x3 S3 r3 => q v H' μ' (x2.trans x3) S3 r3⟩
/-! ### targets -/
def RdG (K : PySem.W.Frag) (vs : List Nat) (m : EvG) : TG := fun v σ H Q => ∃ μ s env d env' s', Sim K μ H s ∧ EnvR K H μ σ env ∧ Rep K H μ v d ∧ m d env s = .ok env' s' ∧
  ∀ σ' H' μ', Ext μ H μ' H' → Sim K μ' H' s' → EnvR K H' μ' σ' env' → (∀ ws : List Nat, (∀ i ∈ vs, i ∈ ws) → wipe σ' ws = wipe σ ws) → Q σ' H'
def RdGs (K : PySem.W.Frag) (vs : List Nat) (m : List D → Env → Sto → R Env) : TGs := fun xs σ H Q => ∃ μ s env ds env' s', Sim K μ H s ∧ EnvR K H μ σ env ∧ Reps K H μ xs ds ∧ m ds env s = .ok env' s' ∧
  ∀ σ' H' μ', Ext μ H μ' H' → Sim K μ' H' s' → EnvR K H' μ' σ' env' → (∀ ws : List Nat, (∀ i ∈ vs, i ∈ ws) → wipe σ' ws = wipe σ ws) → Q σ' H'
def JG (g : Gb) (c : Cc) (vs : List Nat) (m : EvG) (t : Expr) : Prop := ∀ X : Cx, c.Ok g X → PG X t (RdG g.K vs m)
def JGs (g : Gb) (c : Cc) (vs : List Nat) (m : List D → Env → Sto → R Env) (ts : List Expr) : Prop := ∀ X : Cx, c.Ok g X → PGs X ts (RdGs g.K vs m)
theorem PG.imp {X : Cx} {e : Expr} {t t' : TG} (h : PG X e t) (f : ∀ v σ H Q, t' v σ H Q → t v σ H Q) : PG X e t' := ⟨fun pins s σ H v u Q I r q => h.run pins s σ H v u Q I r (f v σ H Q q)⟩
theorem PGs.imp {X : Cx} {e : List Expr} {t t' : TGs} (h : PGs X e t) (f : ∀ v σ H Q, t' v σ H Q → t v σ H Q) : PGs X e t' := ⟨fun pins s σ H v u Q I r q => h.run pins s σ H v u Q I r (f v σ H Q q)⟩
theorem EnvR.set {σ : L2.St} {env : Env} {v : V} {d : D} (E : EnvR K H μ σ env) (r : Rep K H μ v d) (i : Nat) : EnvR K H μ (σ.set i (some v)) (env.set i (some d)) := by
  refine ⟨by rw [List.length_set, List.length_set]; exact E.1, fun j d' h => ?_⟩
  by_cases hj : i = j
  · subst hj
    have hl : i < env.length := by
      have := (List.getElem?_eq_some_iff.mp h).1
      rwa [List.length_set] at this
    rw [List.getElem?_set_self hl] at h
    cases h
    exact ⟨v, List.getElem?_set_self (by rw [E.1]; exact hl), r⟩
  · rw [List.getElem?_set_ne hj] at h
    obtain ⟨v', h1, h2⟩ := E.2 j d' h
    exact ⟨v', by rw [List.getElem?_set_ne hj]; exact h1, h2⟩
theorem wipe_set {σ : L2.St} {i : Nat} {v : Option V} : ∀ {ws : List Nat}, i ∈ ws → wipe (σ.set i v) ws = wipe σ ws
  | [], h => by cases h
  | w :: ws, h => by
    unfold wipe
    by_cases hw : i ∈ ws
    · rw [wipe_set hw]
    · have e : i = w := by
        rcases List.mem_cons.mp h with h | h
        · exact h
        · exact absurd h hw
      subst e
      have out : ∀ (ws : List Nat), i ∉ ws → wipe (σ.set i v) ws = (wipe σ ws).set i v := by
        intro ws
        induction ws with
        | nil => intro _; rfl
        | cons w ws ih =>
          intro hn
          unfold wipe
          rw [ih fun z => hn (List.mem_cons_of_mem _ z), List.set_comm _ _ (fun z => hn (by rw [z]; exact List.mem_cons_self))]
      rw [out ws hw, List.set_set]
theorem jg_var {x : Str} (i : Nat) (hN : c.N[i]? = some x := by rfl) (hx : c.sc.names.lookup x = some .local ∨ c.sc.names.lookup x = some .cell := by first | exact Or.inl rfl | exact Or.inr rfl)
    (hf : c.fn x = true ∨ c.sc.names.lookup x = some .local := by first | exact .inl rfl | exact .inr rfl) : JG g c [i] (gVar i) (.Name x pos) := fun X ok =>
  PG.imp (pg_name (i := i) (by rw [ok.N]; exact ok.nd) (by rw [ok.N]; exact hN) (by unfold L2.Loc; rw [ok.sc]; exact hx) (by rw [ok.sc]; exact hf.imp (ok.fn x) id)) fun v σ H Q h => by
    obtain ⟨μ, s, env, d, env', s', S, E, r, hv, q⟩ := h
    cases hv
    exact q _ H μ .refl S (E.set r i) fun ws hw => wipe_set (hw i (by simp))
theorem jgs_nil : JGs g c [] gsNil [] := fun X ok => PGs.imp pgs_nil fun v σ H Q h => by
  obtain ⟨μ, s, env, ds, env', s', S, E, r, hv, q⟩ := h
  unfold gsNil at hv
  split at hv
  · cases hv
    cases r
    exact ⟨rfl, q σ H μ .refl S E fun _ _ => rfl⟩
  · cases hv
theorem assign_cons {e : Expr} {es : List Expr} (h : noStar e = true) (env : PySem.Env) : (assignEach (e :: es) env).map (·.2) = assign e env :: (assignEach es env).map (·.2) := by
  cases e <;> first | rfl | (cases h)
theorem assign_len {es : List Expr} (h : es.all noStar = true) (env : PySem.Env) : (assignEach es env).length = es.length ∧ (assignEach es env).findIdx? (·.1) = none := by
  induction es with
  | nil => exact ⟨rfl, rfl⟩
  | cons e es ih =>
    rw [List.all_cons, Bool.and_eq_true] at h
    obtain ⟨h1, h2⟩ := ih h.2
    have e1 : assignEach (e :: es) env = (false, assign e env) :: assignEach es env := by
      have := h.1
      cases e <;> first | rfl | (cases this)
    rw [e1]
    exact ⟨by rw [List.length_cons, List.length_cons, h1], by rw [List.findIdx?_cons, h2]; rfl⟩
theorem jgs_cons {t : Expr} {ts : List Expr} {vs ws : List Nat} {mg : EvG} {mr : List D → Env → Sto → R Env} (h1 : JG g c vs mg t) (h2 : JGs g c ws mr ts) (hs : noStar t = true := by rfl) : JGs g c (vs ++ ws) (gsCons mg mr) (t :: ts) := fun X ok =>
  PGs.imp (pgs_cons (h1 X ok) (h2 X ok) (assign_cons hs _)) fun v σ H Q h => by
    obtain ⟨μ, s, env, ds, env', s', S, E, r, hv, q⟩ := h
    unfold gsCons at hv
    split at hv
    · rename_i d ds
      obtain ⟨env1, s1, hv1, hv2⟩ := bind_ok hv
      cases r with
      | cons r rr =>
      refine ⟨_, _, rfl, μ, s, env, d, env1, s1, S, E, r, hv1, fun σ1 H1 μ1 x1 S1 E1 w1 => ?_⟩
      exact ⟨μ1, s1, env1, ds, env', s', S1, E1, rr.mono S x1, hv2, fun σ2 H2 μ2 x2 S2 E2 w2 => q σ2 H2 μ2 (x1.trans x2) S2 E2 fun us hu => (w2 us fun i hi => hu i (List.mem_append_right _ hi)).trans (w1 us fun i hi => hu i (List.mem_append_left _ hi))⟩
    · cases hv
theorem jg_tup {ts : List Expr} {vs : List Nat} {mr : List D → Env → Sto → R Env} {k n : Nat} (h : JGs g c vs mr ts) (hn : ts.length = n := by rfl) (hst : ts.all noStar = true := by rfl) : JG g c vs (gTup n mr) (.Tuple ts k pos) := fun X ok =>
  PG.imp (pg_tup ok.calm (h X ok) ((assign_len hst _).1.trans hn) (assign_len hst _).2) fun v σ H Q h => by
    rw [ok.K]
    obtain ⟨μ, s, env, d, env', s', S, E, r, hv, q⟩ := h
    unfold gTup at hv
    split at hv
    · split at hv
      · rename_i hl
        cases r with
        | tup tx px =>
        exact ⟨_, _, rfl, tx, by rw [px.length]; exact hl, μ, s, env, _, env', s', S, E, px, hv, q⟩
      · cases hv
    · cases hv
/-- o[i] = v of a list -/
theorem jg_sub {o i : Expr} {mo mi : Sem} (ho : JE g c mo o) (hi : JE g c mi i)
    (ha : ∀ env v, assign (.Subscript o i pos) env v = (do
      let ov ← holding [v] (eval o env)
      let iv ← holding [v, ov] (eval i env)
      standAt pos
      holding [v, ov, iv] (setItem ov iv v)
      release [v, ov, iv] []) := by intro _ _; rfl) : JG g c [] (gSub mo mi) (.Subscript o i pos) := fun X ok =>
  PG.imp (pg_sub (ho X ok).1 (hi X ok).1 set_list (ha _)) fun v σ H Q h => by
    obtain ⟨μ, s, env, d, env', s', S, E, r, hv, q⟩ := h
    obtain ⟨d1, s1, h1, hv⟩ := bind_ok hv
    obtain ⟨d2, s2, h2, hv⟩ := bind_ok hv
    obtain ⟨_, s3, h3, hv⟩ := bind_ok hv
    cases hv
    refine ⟨μ, s, env, d1, s1, S, E, h1, fun v1 H1 μ1 x1 S1 r1 => ?_⟩
    refine ⟨μ1, s1, env, d2, s2, S1, E.mono S x1, h2, fun v2 H2 μ2 x2 S2 r2 => ?_⟩
    have x12 := x1.trans x2
    have r1' := r1.mono S1 x2
    have rv := r.mono S x12
    have E2 := E.mono S x12
    unfold setD at h3
    split at h3
    · split at h3
      · rename_i ex
        split at h3
        · rename_i j hj
          cases h3
          cases r2
          cases r1' with
          | ref rx =>
          obtain ⟨hm, vx, hx, px⟩ := Rep.lst_at S2 (.ref rx) ex
          obtain ⟨x3, S3⟩ := rep_set (o := .lst []) S2 hm (px.set rv j)
          exact ⟨_, vx, _, j, rfl, rfl, hx, by rw [px.length]; exact hj, q σ _ μ2 (x12.trans x3) S3 (E2.mono S2 x3) fun _ _ => rfl⟩
        · cases h3
      · cases h3
    · cases h3
end
end Cs

/-! ## CsSim6 -/
namespace Cs
open PySem PySem.Spec PyProof.Rows L2
section
variable {K : PySem.W.Frag} {μ μ' : List Addr} {H H' : Hp} {s s' : Sto} {g : Gb} {c : Cc} {X : Cx} {m ma mb mc : Sem} {e a b d : Expr} {pos : Pos}
/-! ### what is walked -/
def wkAt (w : Wk) (s : Sto) (j : Nat) : Option (Option D) := match w with
  | .its xs => some xs[j]?
  | .live i => match s.get i with
    | some (.lst xs) => some xs[j]?
    | _ => none
  | .rd r => r s j
/-- the iterator J gives out what w says, at every later state -/
def WkOk (K : PySem.W.Frag) (J : It) (w : Wk) (μ : List Addr) (H : Hp) : Prop := ∀ μ' H' s', Ext μ H μ' H' → Sim K μ' H' s' → ∀ j,
  (∀ d, wkAt w s' j = some (some d) → J.go j H' ∧ ∀ x H'', J.yld j H' x H'' → Same H' H'' ∧ Rep K H'' μ' x d) ∧ (wkAt w s' j = some none → J.stop j H')
def RdI (K : PySem.W.Frag) (m : EvI) : TI := fun σ H R => ∃ μ s env w s', Sim K μ H s ∧ EnvR K H μ σ env ∧ m env s = .ok w s' ∧
  ∀ J H' μ', Ext μ H μ' H' → Sim K μ' H' s' → WkOk K J w μ' H' → R J H'
def JI (g : Gb) (c : Cc) (m : EvI) (e : Expr) : Prop := ∀ X : Cx, c.Ok g X → ∀ tg, PI X tg e (RdI g.K m)
/-- for one target -/
def JIt (g : Gb) (c : Cc) (tg : Expr) (m : EvI) (e : Expr) : Prop := ∀ X : Cx, c.Ok g X → PI X tg e (RdI g.K m)
theorem JI.t {g : Gb} {c : Cc} {tg : Expr} {m : EvI} {e : Expr} (h : JI g c m e) : JIt g c tg m e := fun X ok => h X ok tg
theorem PI.imp {X : Cx} {tg e : Expr} {t t' : TI} (h : PI X tg e t) (f : ∀ σ H R, t' σ H R → t σ H R) : PI X tg e t' := ⟨fun pins s σ H R I q => h.run pins s σ H R I (f σ H R q)⟩
/-- a list or a tuple -/
theorem pi_seqA {tg l : Expr} {tl : TE} (hl : PE X l tl) : PI X tg l (fun σ H R => tl σ H fun x H1 => ∃ a, x = .ref a ∧ (((∃ xs, SqL X.K H1 a xs) ∧ R (Itl X.K a) H1) ∨ ((∃ xs, SqT X.K H1 a xs) ∧ R (Itt X.K a) H1))) := by
  refine ⟨fun pins s σ H R I h => ?_⟩
  refine thn (hl.run pins s σ H _ I h) fun v s1 ⟨x, H1, I1, r1, q1⟩ => ?_
  obtain ⟨a, e, q1⟩ := q1
  subst e
  cases r1
  rcases q1 with ⟨⟨xs, hq⟩, q⟩ | ⟨⟨xs, hq⟩, q⟩
  · obtain ⟨its, rv, p, hz⟩ := I1.list hq
    refine wpAny_pyIter_list p.isList ?_
    refine ⟨s1.heap.objs.size, [s1.heap.objs.size], _, _, H1, rfl, I1.kept (t' := s1.toks) fun b o e => Heap.get?_push_of_some _ e, turn_list a _, ⟨_, Heap.get?_push_size _ rfl, rfl, rfl⟩, fun b hb => ?_, q⟩
    have e : b = s1.heap.objs.size := by simpa using hb
    subst e
    exact I1.fpOk (Nat.le_refl _) (I1.hok.fresh (Nat.le_refl _))
  · obtain ⟨its, rv, p, hz⟩ := I1.tuple hq
    refine wpAny_pyIter_tuple (show s1.heap.IsTuple a its.toArray from p) ?_
    refine ⟨s1.heap.objs.size, [s1.heap.objs.size], _, _, H1, rfl, I1.kept (t' := s1.toks) fun b o e => Heap.get?_push_of_some _ e, turn_tuple a _, ⟨_, Heap.get?_push_size _ rfl, rfl, rfl⟩, fun b hb => ?_, q⟩
    have e : b = s1.heap.objs.size := by simpa using hb
    subst e
    exact I1.fpOk (Nat.le_refl _) (I1.hok.fresh (Nat.le_refl _))
theorem wk_tup {a : Addr} {xs : List V} {ds : List D} (S : Sim K μ H s) (tx : SqT K H a xs) (r : Reps K H μ xs ds) : WkOk K (Itt K a) (.its ds) μ H := fun μ' H' s' ex S' j => by
  have rep := Rep.mono S ex (.tup tx r)
  cases rep with
  | @tup _ ys _ ty ry =>
  refine ⟨fun d hd => ?_, fun hd => ?_⟩
  · have hd : ds[j]? = some d := Option.some.inj hd
    obtain ⟨v, hv, rv⟩ := ry.get hd
    refine ⟨⟨ys, v, ty, hv⟩, fun x H'' hy => ?_⟩
    obtain ⟨rfl, hy⟩ := hy
    have e : v = x := Option.some.inj (hv.symm.trans (hy ys ty))
    subst e
    exact ⟨.refl _, rv⟩
  · have hd : ds[j]? = none := Option.some.inj hd
    exact ⟨ys, ty, by rw [ry.length]; exact List.getElem?_eq_none_iff.mp hd⟩
theorem wk_fix {a : Addr} {xs : List V} {ds : List D} (S : Sim K μ H s) (tx : SqF K H a xs) (r : Reps K H μ xs ds) : WkOk K (Itl K a) (.its ds) μ H := fun μ' H' s' ex S' j => by
  have rep := Rep.mono S ex (.fix tx r)
  cases rep with
  | @fix _ ys _ ty ry =>
  refine ⟨fun d hd => ?_, fun hd => ?_⟩
  · have hd : ds[j]? = some d := Option.some.inj hd
    obtain ⟨v, hv, rv⟩ := ry.get hd
    refine ⟨⟨ys, v, ty.sq, hv⟩, fun x H'' hy => ?_⟩
    obtain ⟨rfl, hy⟩ := hy
    have e : v = x := Option.some.inj (hv.symm.trans (hy ys ty.sq))
    subst e
    exact ⟨.refl _, rv⟩
  · have hd : ds[j]? = none := Option.some.inj hd
    exact ⟨ys, ty.sq, by rw [ry.length]; exact List.getElem?_eq_none_iff.mp hd⟩
theorem wk_live {a : Addr} {i : Nat} (hm : μ[i]? = some a) : WkOk K (Itl K a) (.live i) μ H := fun μ' H' s' ex S' j => by
  have hm' := ex.pre i a hm
  obtain ⟨o, e, ro⟩ := S'.ob i a hm'
  cases o with
  | dct kvs =>
    have ew : wkAt (.live i) s' j = none := by unfold wkAt; dsimp only; rw [e]
    rw [ew]
    exact ⟨fun d hd => (nomatch hd), fun hd => (nomatch hd)⟩
  | lst ds =>
  obtain ⟨ys, ey, ry⟩ := ro
  refine ⟨fun d hd => ?_, fun hd => ?_⟩
  · have hd : ds[j]? = some d := by
      unfold wkAt at hd
      dsimp only at hd
      rw [e] at hd
      exact Option.some.inj hd
    obtain ⟨v, hv, rv⟩ := ry.get hd
    refine ⟨⟨ys, v, .of ey, hv⟩, fun x H'' hy => ?_⟩
    obtain ⟨rfl, hy⟩ := hy
    have e : v = x := Option.some.inj (hv.symm.trans (hy ys (.of ey)))
    subst e
    exact ⟨.refl _, rv⟩
  · have hd : ds[j]? = none := by
      unfold wkAt at hd
      dsimp only at hd
      rw [e] at hd
      exact Option.some.inj hd
    exact ⟨ys, .of ey, by rw [ry.length]; exact List.getElem?_eq_none_iff.mp hd⟩
theorem ji_seq (he : JE g c m e) : JI g c (iSeq m) e := fun X ok tg => PI.imp (pi_seqA (he X ok).1) fun σ H R h => by
  rw [ok.K]
  obtain ⟨μ, s, env, w, s', S, E, hv, q⟩ := h
  obtain ⟨d1, s1, h1, hv⟩ := bind_ok hv
  refine ⟨μ, s, env, d1, s1, S, E, h1, fun v1 H1 μ1 x1 S1 r1 => ?_⟩
  split at hv
  · cases hv
    cases r1 with
    | tup tx px => exact ⟨_, rfl, .inr ⟨⟨_, tx⟩, q _ H1 μ1 x1 S1 (wk_tup S1 tx px)⟩⟩
  · cases hv
    cases r1 with
    | fix tx px => exact ⟨_, rfl, .inl ⟨⟨_, tx.sq⟩, q _ H1 μ1 x1 S1 (wk_fix S1 tx px)⟩⟩
  · split at hv
    · rename_i ex
      cases hv
      cases r1 with
      | ref rx =>
      obtain ⟨hm, vx, hx, px⟩ := Rep.lst_at S1 (.ref rx) ex
      exact ⟨_, rfl, .inl ⟨⟨_, .of hx⟩, q _ H1 μ1 x1 S1 (wk_live hm)⟩⟩
    · cases hv
  · cases hv
theorem rgD_get {lo : Int} {n j : Nat} : (rgD lo n)[j]? = if j < n then some (.int (lo + (j : Nat))) else none := by
  unfold rgD
  rw [List.getElem?_map]
  by_cases h : j < n
  · rw [if_pos h, List.getElem?_range h]; rfl
  · rw [if_neg h, List.getElem?_eq_none (by simpa using h)]; rfl
theorem wk_rg {lo : Int} {n : Nat} : WkOk K (Itr lo n) (.its (rgD lo n)) μ H := fun μ' H' s' ex S' j => by
  refine ⟨fun d hd => ?_, fun hd => ?_⟩
  · have hd : (rgD lo n)[j]? = some d := Option.some.inj hd
    rw [rgD_get] at hd
    split at hd
    · rename_i hj
      cases hd
      refine ⟨hj, fun x H'' hy => ?_⟩
      obtain ⟨rfl, rfl⟩ := hy
      exact ⟨.refl _, .int _⟩
    · cases hd
  · have hd : (rgD lo n)[j]? = none := Option.some.inj hd
    rw [rgD_get] at hd
    split at hd
    · cases hd
    · rename_i hj
      exact Nat.le_of_not_lt hj
theorem bigI_ok {i : Int} (h : bigI i = true) : -(2 ^ 62) ≤ i ∧ i < 2 ^ 62 := by
  have := Nat.blt_eq.mp h
  omega
theorem ji_rg1 {p : Pos} {ra : EvA} (hs : c.sc.names.lookup ("range" : Str) = some .globalImplicit) (hm : g.mg ("range" : Str) = none) (ha : JA g c ra [a]) (hst : noStar a = true := by rfl) : JI g c (iRg1 ra) (.Call (.Name "range" p) [a] [] pos) := fun X ok tg =>
  PI.imp (pi_range1 (by show X.env.scope.names.lookup _ = _; rw [ok.sc]; exact hs) (by rw [ok.mg]; exact hm) (ha X ok) (star_cons hst _)) fun σ H R h => by
    obtain ⟨μ, s, env, w, s', S, E, hv, q⟩ := h
    obtain ⟨ds, s1, h1, hv⟩ := bind_ok hv
    refine ⟨μ, s, env, ds, s1, S, E, h1, fun vs H1 μ1 x1 S1 r1 => ?_⟩
    split at hv
    · split at hv
      · rename_i hb
        cases hv
        cases r1 with
        | cons r r2 =>
        cases r2; cases r
        exact ⟨_, rfl, (bigI_ok hb).1, (bigI_ok hb).2, q _ H1 μ1 x1 S1 wk_rg⟩
      · cases hv
    · cases hv
theorem ji_rg2 {p : Pos} {ra : EvA} (hs : c.sc.names.lookup ("range" : Str) = some .globalImplicit) (hm : g.mg ("range" : Str) = none) (ha : JA g c ra [a, b]) (hst : noStar a = true := by rfl) (hst2 : noStar b = true := by rfl) : JI g c (iRg2 ra) (.Call (.Name "range" p) [a, b] [] pos) := fun X ok tg =>
  PI.imp (pi_range2 (by show X.env.scope.names.lookup _ = _; rw [ok.sc]; exact hs) (by rw [ok.mg]; exact hm) (ha X ok) (by rw [star_cons hst, star_cons hst2]; rfl) (star_cons hst2 _)) fun σ H R h => by
    obtain ⟨μ, s, env, w, s', S, E, hv, q⟩ := h
    obtain ⟨ds, s1, h1, hv⟩ := bind_ok hv
    refine ⟨μ, s, env, ds, s1, S, E, h1, fun vs H1 μ1 x1 S1 r1 => ?_⟩
    split at hv
    · split at hv
      · rename_i hb
        cases hv
        cases r1 with
        | cons r r2 =>
        cases r2 with
        | cons r2 r3 =>
        cases r3; cases r; cases r2
        exact ⟨_, _, rfl, ⟨(bigI_ok hb.1).1, (bigI_ok hb.1).2, (bigI_ok hb.2).1, (bigI_ok hb.2).2⟩, q _ H1 μ1 x1 S1 wk_rg⟩
      · cases hv
    · cases hv
/-! ### list comprehensions -/
/-- a list that stands beside the store -/
theorem Sim.beside {p : Addr} {xs ys : List V} (S : Sim K μ H s) (hp : H p = some (.lst xs)) (np : p ∉ μ) : Sim K μ (upd H p (.lst ys)) s ∧ ∀ v d, Rep K H μ v d → Rep K (upd H p (.lst ys)) μ v d := by
  have k1 : ∀ a xs', H a = some (.tup xs') → (upd H p (.lst ys)) a = some (.tup xs') := fun a xs' h => by
    rw [upd_ne (fun e => by rw [e, hp] at h; cases h)]; exact h
  have k2 : ∀ a o u, H a = some (.frz o u) → (upd H p (.lst ys)) a = some (.frz o u) := fun a o u h => by
    rw [upd_ne (fun e => by rw [e, hp] at h; cases h)]; exact h
  refine ⟨⟨S.nx, S.nd, fun i a h => ?_, S.up⟩, fun v d r => Rep.keep k1 k2 (fun _ _ h => h) d v r⟩
  obtain ⟨o, e, q⟩ := S.ob i a h
  refine ⟨o, e, ?_⟩
  cases o with
  | lst ds =>
    obtain ⟨zs, e1, r1⟩ := q
    exact ⟨zs, by rw [upd_ne (fun e => np (by rw [← e]; exact List.mem_of_getElem? h))]; exact e1, Reps.keep k1 k2 (fun _ _ h => h) ds zs r1⟩
  | dct kvs => exact ⟨q.1, by rw [upd_ne (fun e => np (by rw [← e]; exact List.mem_of_getElem? h))]; exact q.2⟩
/-- it is taken into the store -/
theorem Sim.adopt {p : Addr} {xs : List V} {ds : List D} (S : Sim K μ H s) (hp : H p = some (.lst xs)) (np : p ∉ μ) (r : Reps K H μ xs ds) :
    Sim K (μ ++ [p]) H (s.add (.lst ds)) ∧ Rep K H (μ ++ [p]) (.ref p) (.ref s.n) ∧ ∀ (i : Nat) (a : Addr), μ[i]? = some a → (μ ++ [p])[i]? = some a := by
  have pre : ∀ (i : Nat) (a : Addr), μ[i]? = some a → (μ ++ [p])[i]? = some a := fun i a h => by
    rw [List.getElem?_append_left]
    · exact h
    · exact (List.getElem?_eq_some_iff.mp h).1
  have km : ∀ {v : List V} {d : List D}, Reps K H μ v d → Reps K H (μ ++ [p]) v d := fun {v d} r => Reps.keep (fun _ _ h => h) (fun _ _ _ h => h) pre d v r
  refine ⟨⟨?_, ?_, fun i a h => ?_, fun i hi => ?_⟩, .ref ?_, pre⟩
  · rw [List.length_append, S.nx]; rfl
  · rw [List.nodup_append]
    exact ⟨S.nd, by simp, fun a ha b hb e => np (by rw [List.mem_singleton.mp hb] at e; rw [← e]; exact ha)⟩
  · rw [Sto.get_add]
    by_cases hi : i = s.n
    · rw [if_pos hi]
      rw [hi, ← S.nx, List.getElem?_append_right (Nat.le_refl _), Nat.sub_self] at h
      have e : p = a := by simpa using h
      subst e
      exact ⟨_, rfl, xs, hp, km r⟩
    · rw [if_neg hi]
      have hl : i < μ.length := by
        have := (List.getElem?_eq_some_iff.mp h).1
        rw [List.length_append, S.nx] at this
        have e1 : ([p] : List Addr).length = 1 := rfl
        rw [S.nx]; omega
      rw [List.getElem?_append_left hl] at h
      obtain ⟨o, e, q⟩ := S.ob i a h
      refine ⟨o, e, ?_⟩
      cases o with
      | lst ds => obtain ⟨ys, e1, r1⟩ := q; exact ⟨ys, e1, km r1⟩
      | dct kvs => exact q
  · rw [Sto.get_add, if_neg (by rw [Sto.n_add] at hi; omega)]
    exact S.up i (by rw [Sto.n_add] at hi; omega)
  · rw [← S.nx, List.getElem?_append_right (Nat.le_refl _), Nat.sub_self]; rfl
/-- a clause's test -/
def JT (g : Gb) (c : Cc) (o : Option Sem) (ifs : List Expr) : Prop := match o with
  | none => ifs = []
  | some m => ∃ e, ifs = [e] ∧ JE g c m e
theorem jt_no : JT g c none [] := rfl
theorem jt_one (h : JE g c m e) : JT g c (some m) [e] := ⟨e, rfl, h⟩
def RdC (K : PySem.W.Frag) (o : Option Sem) : TT := match o with
  | none => tYes
  | some m => RdT K m.t
theorem jt_pts {o : Option Sem} {ifs : List Expr} (h : JT g c o ifs) (ok : c.Ok g X) : PTs X ifs (RdC g.K o) := by
  cases o with
  | none => cases h; exact pts_nil
  | some m =>
    obtain ⟨e, rfl, h⟩ := h
    exact pts_one (h X ok).2
theorem wipe_env {σ : L2.St} {env : Env} (E : EnvR K H μ σ env) : ∀ vs : List Nat, EnvR K H μ (wipe σ vs) (wipeE env vs)
  | [] => E
  | v :: vs => by
    have ih := wipe_env E vs
    unfold wipe wipeE
    refine ⟨by rw [List.length_set, List.length_set]; exact ih.1, fun j d h => ?_⟩
    by_cases hj : v = j
    · subst hj
      have hl : v < (wipeE env vs).length := by
        have := (List.getElem?_eq_some_iff.mp h).1
        rwa [List.length_set] at this
      rw [List.getElem?_set_self hl] at h
      cases h
    · rw [List.getElem?_set_ne hj] at h
      obtain ⟨v', h1, h2⟩ := ih.2 j d h
      exact ⟨v', by rw [List.getElem?_set_ne hj]; exact h1, h2⟩
/-- the turns that are left -/
def goFrom (f : Turn) (w : Wk) (k j : Nat) (s : Sto) : R (List D) := match w with
  | .its xs => goIts f (xs.drop j) s
  | .live i => goLive f i k j s
  | .rd r => goRd f r k j s
theorem goFrom_step {f : Turn} {w : Wk} {k j : Nat} {s s' : Sto} {ys : List D} (h : goFrom f w k j s = .ok ys s') :
    (wkAt w s j = some none ∧ ys = [] ∧ s' = s) ∨ ∃ x o s1 zs k', wkAt w s j = some (some x) ∧ f x s = .ok o s1 ∧ goFrom f w k' (j + 1) s1 = .ok zs s' ∧ ys = conO o zs ∧ (match w with | .its xs => xs.length - (j + 1) < xs.length - j | .live _ => k' < k | .rd _ => k' < k) := by
  cases w with
  | its xs =>
    have h : goIts f (xs.drop j) s = .ok ys s' := h
    by_cases hj : j < xs.length
    · rw [List.drop_eq_getElem_cons hj] at h
      obtain ⟨o, s1, h1, h2⟩ := bind_ok h
      obtain ⟨zs, s2, h3, h4⟩ := bind_ok h2
      cases h4
      exact .inr ⟨xs[j], o, s1, zs, k, by show some xs[j]? = _; rw [List.getElem?_eq_getElem hj], h1, h3, rfl, by show xs.length - (j + 1) < xs.length - j; omega⟩
    · rw [List.drop_eq_nil_of_le (by omega)] at h
      cases h
      exact .inl ⟨by show some xs[j]? = _; rw [List.getElem?_eq_none (by omega)], rfl, rfl⟩
  | live i =>
    have h : goLive f i k j s = .ok ys s' := h
    cases k with
    | zero => cases h
    | succ k =>
      unfold goLive at h
      split at h
      · rename_i xs ex
        split at h
        · rename_i x hx
          obtain ⟨o, s1, h1, h2⟩ := bind_ok h
          obtain ⟨zs, s2, h3, h4⟩ := bind_ok h2
          cases h4
          exact .inr ⟨x, o, s1, zs, k, by unfold wkAt; dsimp only; rw [ex]; show some xs[j]? = _; rw [hx], h1, h3, rfl, Nat.lt_succ_self _⟩
        · rename_i hx
          cases h
          exact .inl ⟨by unfold wkAt; dsimp only; rw [ex]; show some xs[j]? = _; rw [hx], rfl, rfl⟩
      · cases h
  | rd r =>
    have h : goRd f r k j s = .ok ys s' := h
    cases k with
    | zero => cases h
    | succ k =>
      unfold goRd at h
      split at h
      · rename_i x hx
        obtain ⟨o, s1, h1, h2⟩ := bind_ok h
        obtain ⟨zs, s2, h3, h4⟩ := bind_ok h2
        cases h4
        exact .inr ⟨x, o, s1, zs, k, hx, h1, h3, rfl, Nat.lt_succ_self _⟩
      · rename_i hx
        cases h
        exact .inl ⟨hx, rfl, rfl⟩
      · cases h
def wkMes (w : Wk) (k j : Nat) : Nat := match w with
  | .its xs => xs.length - j
  | .live _ => k
  | .rd _ => k
/-- the inner context of a comprehension -/
def Cc.blk (c : Cc) (scope : Scope) : Cc := ⟨c.N, relS scope c.sc, fun x => scope.names.lookup x == some .cell, c.lv⟩
theorem blk_ok {scope : Scope} (ok : c.Ok g X) (s : Shared) (H : Hp) (C : Addr) (cl : List (Str × Addr)) (fp : List Addr) : (c.blk scope).Ok g (X.blk s H scope (compEnvC scope cl C X.env) fp) where
  prog := ok.prog
  w := ok.w
  K := ok.K
  mg := ok.mg
  base := ok.base
  N := ok.N
  sc := by
    show relS scope X.env.scope = relS scope c.sc
    rw [ok.sc]
  nd := ok.nd
  fn := fun _ h => h
  calm := ok.calm
  xe := rfl
  room := ok.room
def noSet : Expr → Bool
  | .Set _ _ _ => false
  | _ => true
theorem noSet_ok {e : Expr} (h : noSet e = true) (env : PySem.Env) (x : Value) : foldedSetIterable e env x = pure x := by
  cases e <;> first | rfl | (cases h)
theorem rd_comp {own vs : List Nat} {mg : EvG} {it : EvI} {o : Option Sem} {σ : L2.St} {H : Hp} {Q : VK} (hvs : ∀ i ∈ vs, i ∈ own)
    (h : RdE K (fun env s => (it env s).bind fun w s => (goWk (turnC mg o m (wipeE env own)) w s).bind newL) σ H Q) : tLc (RdI K it) (RdG K vs mg) (RdC K o) (RdE K m.v) own σ H Q := by
  obtain ⟨μ, s, env, d, s', S, E, hv, q⟩ := h
  obtain ⟨w, s1, h1, hv⟩ := bind_ok hv
  obtain ⟨ys, s2, h2, hv⟩ := bind_ok hv
  refine ⟨μ, s, env, w, s1, S, E, h1, fun J H1 μ1 x1 S1 wk D hD => ?_⟩
  have h2 : goFrom (turnC mg o m (wipeE env own)) w 1000000 0 s1 = .ok ys s2 := by
    cases w <;> exact h2
  have hz : ys.length ≤ sizeLine := by
    unfold newL at hv
    split at hv
    · assumption
    · cases hv
  have nD : ∀ {μ' : List Addr} {H' : Hp}, Ext μ1 H1 μ' H' → D ∉ μ1 := fun _ => S1.nomem fun zs z => by rw [hD] at z; cases zs <;> cases z
  refine ⟨fun i mm H => ∃ μ' s' acc vacc k rest, Ext μ1 H1 μ' H ∧ Sim K μ' H s' ∧ D ∉ μ' ∧ H D = some (.lst vacc) ∧ Reps K H μ' vacc acc ∧ goFrom (turnC mg o m (wipeE env own)) w k i s' = .ok rest s2 ∧ acc ++ rest = ys ∧ mm = wkMes w k i, ⟨wkMes w 1000000 0, ?_⟩, ?_⟩
  · have sm : Same H1 (upd H1 D (.lst [])) := fun b x e => by
      rw [upd_ne (ne_of_none e hD)]; exact e
    exact ⟨μ1, s1, [], [], 1000000, ys, .same sm, S1.same sm, nD .refl, upd_same, .nil, h2, rfl, rfl⟩
  · rintro i mm H2 ⟨μ2, s3, acc, vacc, k, rest, x2, S2, nD2, hD2, ra, hg, hy, rfl⟩
    rcases goFrom_step hg with ⟨ha, rfl, rfl⟩ | ⟨x, oo, s4, zs, k', ha, hf, hg2, rfl, hk⟩
    · refine .inl ⟨(wk μ2 H2 s2 x2 S2 i).2 ha, ?_⟩
      rw [List.append_nil] at hy
      subst hy
      obtain ⟨S3, r3, pre⟩ := S2.adopt hD2 nD2 ra
      unfold newL at hv
      rw [if_pos hz] at hv
      cases hv
      refine q _ H2 (μ2 ++ [D]) (x1.trans ⟨fun i a h => pre i a (x2.pre i a h), x2.keep, fun a ha hn => ?_⟩) S3 r3
      rcases List.mem_append.mp ha with ha | ha
      · exact x2.fresh a ha hn
      · rw [List.mem_singleton.mp ha]; exact hD
    · obtain ⟨go, yld⟩ := (wk μ2 H2 s3 x2 S2 i).1 x ha
      refine .inr ⟨go, fun H' => ∃ m', m' < wkMes w k i ∧ ∃ μ' s' acc vacc k rest, Ext μ1 H1 μ' H' ∧ Sim K μ' H' s' ∧ D ∉ μ' ∧ H' D = some (.lst vacc) ∧ Reps K H' μ' vacc acc ∧ goFrom (turnC mg o m (wipeE env own)) w k (i + 1) s' = .ok rest s2 ∧ acc ++ rest = ys ∧ m' = wkMes w k (i + 1), fun H' h => h, fun v H3 hyl => ?_⟩
      obtain ⟨sm, rv⟩ := yld v H3 hyl
      have hlt : wkMes w k' (i + 1) < wkMes w k i := by
        cases w <;> exact hk
      have S3 := S2.same sm
      have x3 := x2.trans (.same sm)
      have E3 : EnvR K H3 μ2 σ env := ((E.mono S x1).mono S1 x3)
      -- what is later than H3 keeps D
      have keepD : ∀ {μ' : List Addr} {H' : Hp}, Ext μ2 H3 μ' H' → D ∉ μ' ∧ H' D = some (.lst vacc) := fun ex => by
        have h3 := sm D _ hD2
        exact ⟨fun z => (by have := ex.fresh D z nD2; rw [h3] at this; cases this), ex.keep D _ h3 nD2⟩
      unfold turnC at hf
      obtain ⟨env4, s5, hg4, hf⟩ := bind_ok hf
      refine ⟨μ2, s3, wipeE env own, x, env4, s5, S3, wipe_env E3 own, rv, hg4, fun σ4 H4 μ4 x4 S4 E4 hw4 => ⟨?_, ?_⟩⟩
      · have e := hw4 own hvs
        rw [e]
        have idem : ∀ (τ : L2.St), wipe (wipe τ own) own = wipe τ own := by
          intro τ
          have out : ∀ (us ws : List Nat), (∀ i ∈ us, i ∈ ws) → wipe (wipe τ us) ws = wipe τ ws := by
            intro us
            induction us with
            | nil => intro ws _; rfl
            | cons u us ih =>
              intro ws hu
              show wipe ((wipe τ us).set u none) ws = _
              rw [wipe_set (hu u List.mem_cons_self)]
              exact ih ws fun i hi => hu i (List.mem_cons_of_mem _ hi)
          exact out own own fun _ h => h
        exact idem σ
      · -- the test, then the element
        have fin1 : ∀ {H5 : Hp} {μ5 : List Addr} {s6 : Sto}, Ext μ2 H3 μ5 H5 → Sim K μ5 H5 s6 → EnvR K H5 μ5 σ4 env4 → ((m.v env4 s6).bind fun y s => .ok (some y) s) = .ok oo s4 →
            RdE K m.v σ4 H5 fun y H6 => ∃ acc, H6 D = some (.lst acc) ∧ acc.length < sizeLine ∧ ∃ m', m' < wkMes w k i ∧ ∃ μ' s' acc' vacc k rest, Ext μ1 H1 μ' (upd H6 D (.lst (acc ++ [y]))) ∧ Sim K μ' (upd H6 D (.lst (acc ++ [y]))) s' ∧ D ∉ μ' ∧ (upd H6 D (.lst (acc ++ [y]))) D = some (.lst vacc) ∧ Reps K (upd H6 D (.lst (acc ++ [y]))) μ' vacc acc' ∧ goFrom (turnC mg o m (wipeE env own)) w k (i + 1) s' = .ok rest s2 ∧ acc' ++ rest = ys ∧ m' = wkMes w k (i + 1) := by
          intro H5 μ5 s6 x5 S5 E5 hm
          obtain ⟨y, s7, hm1, hm2⟩ := bind_ok hm
          cases hm2
          refine ⟨μ5, s6, env4, y, s4, S5, E5, hm1, fun vy H6 μ6 x6 S6 r6 => ?_⟩
          have x26 := x5.trans x6
          obtain ⟨nD6, hD6⟩ := keepD x26
          have ra6 : Reps K H6 μ6 vacc acc := (ra.mono S2 (.same sm)).mono S3 x26
          obtain ⟨S7, keepR⟩ := S6.beside (ys := vacc ++ [vy]) hD6 nD6
          refine ⟨vacc, hD6, ?_, wkMes w k' (i + 1), hlt, μ6, s4, acc ++ [y], vacc ++ [vy], k', zs, ?_, S7, nD6, upd_same, ?_, hg2, ?_, rfl⟩
          · have : (acc ++ conO (some y) zs).length ≤ sizeLine := by rw [hy]; exact hz
            rw [List.length_append] at this
            have e2 : (conO (some y) zs).length = zs.length + 1 := rfl
            rw [ra.length]; omega
          · have x16 := x3.trans x26
            exact ⟨x16.pre, fun a o' ha hn => by rw [upd_ne (ne_of_none ha hD)]; exact x16.keep a o' ha hn, x16.fresh⟩
          · have : ∀ {ds : List Cs.D} {vs : List V}, Reps K H6 μ6 vs ds → Reps K (upd H6 D (.lst (vacc ++ [vy]))) μ6 vs ds := by
              intro ds
              induction ds with
              | nil => intro vs h; cases h; exact .nil
              | cons d ds ih =>
                intro vs h
                cases h with
                | cons r q => exact .cons (keepR _ _ r) (ih q)
            exact this (ra6.append (.cons r6 .nil))
          · rw [← hy, List.append_assoc]; rfl
        cases o with
        | none => exact fin1 x4 S4 E4 hf
        | some mt =>
          obtain ⟨b, s6, hb1, hb2⟩ := bind_ok hf
          refine ⟨μ4, s5, env4, b, s6, S4, E4, hb1, fun H5 μ5 x5 S5 => ?_⟩
          cases b with
          | true => exact iteT (fin1 (x4.trans x5) S5 (E4.mono S4 x5) hb2)
          | false =>
            cases hb2
            have x25 := x4.trans x5
            obtain ⟨nD5, hD5⟩ := keepD x25
            refine iteF ⟨wkMes w k' (i + 1), hlt, μ5, s4, acc, vacc, k', zs, x3.trans x25, S5, nD5, hD5, (ra.mono S2 (.same sm)).mono S3 x25, hg2, ?_, rfl⟩
            rw [← hy]; rfl
theorem je_comp {elt tg iter : Expr} {ifs : List Expr} {scope : Scope} {vs : List Nat} {mg : EvG} {it : EvI} {o : Option Sem} (own : List (Str × Nat)) (hb : blkC c.N c.sc scope own = true) (hi : JIt g c tg it iter) (hg : JG g (c.blk scope) vs mg tg) (hvs : ∀ i ∈ vs, i ∈ own.map (·.2))
    (ht : JT g (c.blk scope) o ifs) (he : JE g (c.blk scope) m elt) (hs : noSet iter = true := by rfl) : JE g c (xComp (own.map (·.2)) mg it o m) (.ListComp elt [⟨tg, iter, ifs, 0⟩] scope pos) :=
  je_mk (fun X ok => PE.imp (pe_lc (own := own) ok.calm (by rw [ok.N]; exact ok.nd) (hi X ok) (blkOk_by (by rw [ok.N, ok.sc]; exact hb)) (fun s H C cl fp => hg _ (blk_ok ok s H C cl fp)) (fun s H C cl fp => jt_pts ht (blk_ok ok s H C cl fp)) (fun s H C cl fp => (he _ (blk_ok ok s H C cl fp)).1) (noSet_ok hs _))
    fun σ H Q h => rd_comp hvs h) (by intro _ _; rfl)
end
end Cs

/-! ## CsSim7 -/
namespace Cs
open PySem PySem.Spec PyProof.Rows L2
section
variable {K : PySem.W.Frag} {μ μ' : List Addr} {H H' : Hp} {s s' : Sto} {g : Gb} {c : Cc} {X : Cx} {m ma mb mc : Sem} {e a b d : Expr} {pos : Pos}
/-! ### statements -/
def RsOk (K : PySem.W.Frag) (μ : List Addr) (H : Hp) (r : RS) (En : Ends) : Prop := match r with
  | .nx env s => ∀ σ H' μ', Ext μ H μ' H' → Sim K μ' H' s → EnvR K H' μ' σ env → En.nx σ H'
  | .rt d s => ∀ v H' μ', Ext μ H μ' H' → Sim K μ' H' s → Rep K H' μ' v d → En.rt v H'
  | .bk env s => ∀ σ H' μ', Ext μ H μ' H' → Sim K μ' H' s → EnvR K H' μ' σ env → En.bk σ H'
  | .ct env s => ∀ σ H' μ', Ext μ H μ' H' → Sim K μ' H' s → EnvR K H' μ' σ env → En.ct σ H'
  | .no => False
theorem RsOk.mono {r : RS} {En : Ends} (h : RsOk K μ H r En) (x : Ext μ H μ' H') : RsOk K μ' H' r En := by
  cases r with
  | nx env s => exact fun σ H2 μ2 x2 => h σ H2 μ2 (x.trans x2)
  | rt d s => exact fun v H2 μ2 x2 => h v H2 μ2 (x.trans x2)
  | bk env s => exact fun σ H2 μ2 x2 => h σ H2 μ2 (x.trans x2)
  | ct env s => exact fun σ H2 μ2 x2 => h σ H2 μ2 (x.trans x2)
  | no => exact h
def RdS (K : PySem.W.Frag) (m : EvS) : TS := fun En σ H => ∃ μ s env, Sim K μ H s ∧ EnvR K H μ σ env ∧ RsOk K μ H (m env s) En
def JS (g : Gb) (c : Cc) (m : EvS) (st : Stmt) : Prop := ∀ X : Cx, c.Ok g X → PS X st (RdS g.K m)
def JSs (g : Gb) (c : Cc) (m : EvS) (sts : List Stmt) : Prop := ∀ X : Cx, c.Ok g X → PSs X sts (RdS g.K m)
theorem PS.imp {X : Cx} {e : Stmt} {t t' : TS} (h : PS X e t) (f : ∀ D σ H, t' D σ H → t D σ H) : PS X e t' := ⟨fun pins s σ H D I q => h.run pins s σ H D I (f D σ H q)⟩
theorem PSs.imp {X : Cx} {e : List Stmt} {t t' : TS} (h : PSs X e t) (f : ∀ D σ H, t' D σ H → t D σ H) : PSs X e t' := ⟨fun pins s σ H D I q => h.run pins s σ H D I (f D σ H q)⟩
theorem js_nil : JSs g c sNil [] := fun X ok => PSs.imp pss_nil fun En σ H h => by
  obtain ⟨μ, s, env, S, E, q⟩ := h
  exact q σ H μ .refl S E
theorem js_cons {st : Stmt} {sts : List Stmt} {p q : EvS} (h1 : JS g c p st) (h2 : JSs g c q sts) : JSs g c (sCons p q) (st :: sts) := fun X ok => PSs.imp (pss_cons (h1 X ok) (h2 X ok)) fun En σ H h => by
  obtain ⟨μ, s, env, S, E, r⟩ := h
  refine ⟨μ, s, env, S, E, ?_⟩
  unfold sCons at r
  generalize p env s = z at r ⊢
  cases z with
  | nx env1 s1 => exact fun σ1 H1 μ1 x1 S1 E1 => ⟨μ1, s1, env1, S1, E1, RsOk.mono r x1⟩
  | rt d s => exact r
  | bk env s => exact r
  | ct env s => exact r
  | no => exact r
theorem st_ok {α : Type} {r : R α} {f : α → Sto → RS} {En : Ends} (h : RsOk K μ H (r.st f) En) : ∃ a s, r = .ok a s ∧ RsOk K μ H (f a s) En := by
  cases r with
  | ok a s => exact ⟨a, s, rfl, h⟩
  | no => exact h.elim
theorem js_pass : JS g c sPass (.Pass pos) := fun X ok => PS.imp ps_pass fun En σ H h => by
  obtain ⟨μ, s, env, S, E, q⟩ := h
  exact q σ H μ .refl S E
theorem js_brk : JS g c sBrk (.Break pos) := fun X ok => PS.imp ps_break fun En σ H h => by
  obtain ⟨μ, s, env, S, E, q⟩ := h
  exact q σ H μ .refl S E
theorem js_ct : JS g c sCt (.Continue pos) := fun X ok => PS.imp ps_continue fun En σ H h => by
  obtain ⟨μ, s, env, S, E, q⟩ := h
  exact q σ H μ .refl S E
/-- a statement that is never met (a raise) -/
theorem js_no {st : Stmt} : JS g c sNo st := fun X ok => PS.imp ps_never fun En σ H h => by
  obtain ⟨μ, s, env, S, E, q⟩ := h
  exact q
theorem js_ret (he : JE g c m e) : JS g c (sRet m) (.Return (some e) pos) := fun X ok => PS.imp (ps_ret (he X ok).1) fun En σ H h => by
  obtain ⟨μ, s, env, S, E, q⟩ := h
  obtain ⟨d, s1, h1, q⟩ := st_ok q
  exact ⟨μ, s, env, d, s1, S, E, h1, fun v H1 μ1 x1 S1 r1 => q v H1 μ1 x1 S1 r1⟩
theorem js_retN : JS g c sRetN (.Return none pos) := fun X ok => PS.imp ps_retN fun En σ H h => by
  obtain ⟨μ, s, env, S, E, q⟩ := h
  exact q .non H μ .refl S .non
theorem js_expr (he : JE g c m e) (hs : ∀ env, swapsWith e none pos.line env = pure false := by intro _; rfl) : JS g c (sExpr m) (.Expr e pos) := fun X ok => PS.imp (ps_expr (he X ok).1 (hs _)) fun En σ H h => by
  obtain ⟨μ, s, env, S, E, q⟩ := h
  obtain ⟨d, s1, h1, q⟩ := st_ok q
  exact ⟨μ, s, env, d, s1, S, E, h1, fun v H1 μ1 x1 S1 r1 => q σ H1 μ1 x1 S1 (E.mono S x1)⟩
theorem js_if {p q : List Stmt} {mp mq : EvS} (hc : JE g c mc d) (h1 : JSs g c mp p) (h2 : JSs g c mq q) : JS g c (sIf mc mp mq) (.If d p q pos) := fun X ok => PS.imp (ps_if (hc X ok).2 (h1 X ok) (h2 X ok)) fun En σ H h => by
  obtain ⟨μ, s, env, S, E, r⟩ := h
  obtain ⟨k, s1, h1, r⟩ := st_ok r
  refine ⟨μ, s, env, k, s1, S, E, h1, fun H1 μ1 x1 S1 => ?_⟩
  cases k with
  | true => exact iteT ⟨μ1, s1, env, S1, E.mono S x1, r.mono x1⟩
  | false => exact iteF ⟨μ1, s1, env, S1, E.mono S x1, r.mono x1⟩
theorem rd_asg {vs : List Nat} {mg : EvG} {En : Ends} {σ : L2.St} {H : Hp} (h : RdS K (sAsg mg m) En σ H) : tAsg (RdE K m.v) (RdG K vs mg) En σ H := by
  obtain ⟨μ, s, env, S, E, q⟩ := h
  obtain ⟨d, s1, h1, q⟩ := st_ok q
  obtain ⟨env2, s2, h2, q⟩ := st_ok q
  refine ⟨μ, s, env, d, s1, S, E, h1, fun v H1 μ1 x1 S1 r1 => ?_⟩
  exact ⟨μ1, s1, env, d, env2, s2, S1, E.mono S x1, r1, h2, fun σ2 H2 μ2 x2 S2 E2 _ => q σ2 H2 μ2 (x1.trans x2) S2 E2⟩
/-- target = value, where the machine does not swap -/
theorem js_asg {vs : List Nat} {mg : EvG} {tg : Expr} (he : JE g c m e) (hg : JG g c vs mg tg) (hst : noStar tg = true := by rfl)
    (hs : ∀ env : PySem.Env, env.scope = c.sc → swapsWithSole [tg] e pos.line env = pure false := by intro _ _; rfl) (hw : ∀ env : PySem.Env, env.scope = c.sc → swappedStores [tg] e env = pure none := by intro _ _; rfl) : JS g c (sAsg mg m) (.Assign [tg] e pos) := fun X ok =>
  PS.imp (ps_asg (he X ok).1 (hg X ok) (hs _ ok.sc) (hw _ ok.sc) (by rw [assign_cons hst]; rfl)) fun En σ H h => rd_asg h
/-- x, y = e, f -/
theorem js_par {ra : EvA} {i j : Nat} {x y : Str} {px py pt : Pos} {kt k2 pt2} (hi : c.N[i]? = some x) (hj : c.N[j]? = some y) (hij : i ≠ j) (hx : c.sc.names.lookup x = some .local) (hy : c.sc.names.lookup y = some .local) (ha : JA g c ra [a, b])
    (hw : ∀ env : PySem.Env, env.scope = c.sc → swappedStores [.Tuple [.Name x px, .Name y py] kt pt] (.Tuple [a, b] k2 pt2) env = pure (some [x, y]))
    (hs : ∀ env : PySem.Env, env.scope = c.sc → swapsWithSole [.Tuple [.Name x px, .Name y py] kt pt] (.Tuple [a, b] k2 pt2) pos.line env = pure false := by intro _ _; rfl) : JS g c (sPar i j ra) (.Assign [.Tuple [.Name x px, .Name y py] kt pt] (.Tuple [a, b] k2 pt2) pos) := fun X ok =>
  PS.imp (ps_par ok.calm (by rw [ok.N]; exact ok.nd) (by rw [ok.N]; exact hi) (by rw [ok.N]; exact hj) hij (by rw [ok.sc]; exact hx) (by rw [ok.sc]; exact hy) (ha X ok) (hw _ ok.sc) (hs _ ok.sc)) fun En σ H h => by
    obtain ⟨μ, s, env, S, E, q⟩ := h
    obtain ⟨ds, s1, h1, q⟩ := st_ok q
    refine ⟨μ, s, env, ds, s1, S, E, h1, fun vs H1 μ1 x1 S1 r1 => ?_⟩
    split at q
    · cases r1 with
      | cons r r2 =>
      cases r2 with
      | cons r2 r3 =>
      cases r3
      exact ⟨_, _, rfl, q _ H1 μ1 x1 S1 (((E.mono S x1).set r i).set r2 j)⟩
    · exact q.elim
/-- x op= e -/
theorem js_aug {op : Operator} {f : D → D → Sto → R D} {x : Str} {p : Pos} (i : Nat) (hf : ∀ X : Cx, c.Ok g X → OpR X (inplaceOp op) (R2D g.K f)) (he : JE g c m e) (hN : c.N[i]? = some x := by rfl)
    (hx : c.sc.names.lookup x = some .local ∨ c.sc.names.lookup x = some .cell := by first | exact Or.inl rfl | exact Or.inr rfl) (hfn : c.fn x = true ∨ c.sc.names.lookup x = some .local := by first | exact .inl rfl | exact .inr rfl) : JS g c (sAug i f m) (.AugAssign (.Name x p) op e pos) := fun X ok =>
  PS.imp (ps_aug (i := i) (by rw [ok.N]; exact ok.nd) (by rw [ok.N]; exact hN) (by unfold L2.Loc; rw [ok.sc]; exact hx) (he X ok).1 (hf X ok) (by rw [ok.sc]; exact hfn.imp (ok.fn x) id)) fun En σ H h => by
    obtain ⟨μ, s, env, S, E, q⟩ := h
    unfold sAug at q
    split at q
    · rename_i dx hx
      obtain ⟨dy, s1, h1, q⟩ := st_ok q
      obtain ⟨dz, s2, h2, q⟩ := st_ok q
      obtain ⟨vx, hv, rx⟩ := E.2 i _ hx
      refine ⟨vx, hv, μ, s, env, dy, s1, S, E, h1, fun vy H1 μ1 x1 S1 ry => ?_⟩
      exact ⟨μ1, s1, dx, dy, dz, s2, S1, rx.mono S x1, ry, h2, fun vz H2 μ2 x2 S2 rz => q _ H2 μ2 (x1.trans x2) S2 ((((E.mono S x1)).mono S1 x2).set rz i)⟩
    · exact q.elim
/-- y = [..] on one line, y a local -/
theorem js_setLc {elt tg iter : Expr} {ifs : List Expr} {scope : Scope} {vs : List Nat} {mg : EvG} {it : EvI} {o : Option Sem} {y : Str} {py spos : Pos} (i : Nat) (own : List (Str × Nat)) (hb : blkC c.N c.sc scope own = true) (hi : JIt g c tg it iter) (hg : JG g (c.blk scope) vs mg tg) (hvs : ∀ i ∈ vs, i ∈ own.map (·.2))
    (ht : JT g (c.blk scope) o ifs) (he : JE g (c.blk scope) m elt) (hy : c.N[i]? = some y) (hyl : c.sc.names.lookup y = some .local) (hk : c.sc.kind = .function) (hl : (py.line == pos.line) = true) (hl2 : spos.line = spos.line := by rfl)
    (hn : (scope.names.any fun (n, k) => n == y && (k == .local || k == .cell)) = false) (hs : noSet iter = true := by rfl) : JS g c (sAsg (gVar i) (xComp (own.map (·.2)) mg it o m)) (.Assign [.Name y py] (.ListComp elt [⟨tg, iter, ifs, 0⟩] scope pos) spos) := fun X ok =>
  PS.imp (ps_setLc (i := i) (own := own) ok.calm (by rw [ok.N]; exact ok.nd) (by rw [ok.N]; exact hy) (by rw [ok.sc]; exact hyl) (sw_true (by rw [ok.sc]; exact hk) (by rw [ok.sc]; exact hyl) hl hn) (hi X ok) (blkOk_by (by rw [ok.N, ok.sc]; exact hb))
    (fun s H C cl fp => hg _ (blk_ok ok s H C cl fp)) (fun s H C cl fp => jt_pts ht (blk_ok ok s H C cl fp)) (fun s H C cl fp => (he _ (blk_ok ok s H C cl fp)).1) (noSet_ok hs _)) fun En σ H h => by
    obtain ⟨μ, s, env, S, E, q⟩ := h
    obtain ⟨d, s1, h1, q⟩ := st_ok q
    obtain ⟨env2, s2, h2, q⟩ := st_ok q
    cases h2
    exact rd_comp hvs ⟨μ, s, env, d, _, S, E, h1, fun v H1 μ1 x1 S1 r1 => q _ H1 μ1 x1 S1 ((E.mono S x1).set r1 i)⟩
/-! ### loops -/
theorem js_while {p : List Stmt} {mp : EvS} (hc : JE g c mc d) (hb : JSs g c mp p) : JS g c (sWhl mc mp) (.While d p [] pos) := fun X ok =>
  PS.imp (ps_while (by rw [ok.xe]; exact PassesOwn.never) (hc X ok).2 (hb X ok)) fun En σ H h => by
    obtain ⟨μ, s, env, S, E, q⟩ := h
    refine ⟨fun k σ H => ∃ μ s env, Sim g.K μ H s ∧ EnvR g.K H μ σ env ∧ RsOk g.K μ H (whl mc mp k env s) En, ⟨1000000, μ, s, env, S, E, q⟩, ?_⟩
    rintro k σ1 H1 ⟨μ1, s1, env1, S1, E1, q1⟩
    cases k with
    | zero => exact q1.elim
    | succ k =>
    obtain ⟨v, s2, h2, q2⟩ := st_ok q1
    refine ⟨μ1, s1, env1, v, s2, S1, E1, h2, fun H2 μ2 x2 S2 => ?_⟩
    cases v with
    | false => exact iteF (q2 σ1 H2 μ2 x2 S2 (E1.mono S1 x2))
    | true =>
      have q2 : RsOk g.K μ1 H1 ((mp env1 s2).turn (whl mc mp k)) En := q2
      refine iteT ⟨fun σ' H' => ∃ μ s env, Sim g.K μ H' s ∧ EnvR g.K H' μ σ' env ∧ RsOk g.K μ H' (whl mc mp k env s) En, fun σ' H' h => ⟨k, Nat.lt_succ_self _, h⟩, μ2, s2, env1, S2, E1.mono S1 x2, ?_⟩
      generalize mp env1 s2 = z at q2 ⊢
      cases z with
      | nx env3 s3 => exact fun σ3 H3 μ3 x3 S3 E3 => ⟨μ3, s3, env3, S3, E3, RsOk.mono q2 (x2.trans x3)⟩
      | ct env3 s3 => exact fun σ3 H3 μ3 x3 S3 E3 => ⟨μ3, s3, env3, S3, E3, RsOk.mono q2 (x2.trans x3)⟩
      | bk env3 s3 => exact fun σ3 H3 μ3 x3 S3 E3 => q2 σ3 H3 μ3 (x2.trans x3) S3 E3
      | rt d3 s3 => exact fun σ3 H3 μ3 x3 S3 E3 => q2 σ3 H3 μ3 (x2.trans x3) S3 E3
      | no => exact q2
def forFrom (b : D → Env → Sto → RS) (w : Wk) (k j : Nat) (env : Env) (s : Sto) : RS := match w with
  | .its xs => forIts b (xs.drop j) env s
  | .live i => forLive b i k j env s
  | .rd r => forRd b r k j env s
theorem forFrom_step {b : D → Env → Sto → RS} {w : Wk} {k j : Nat} {env : Env} {s : Sto} : forFrom b w k j env s = .no ∨ (wkAt w s j = some none ∧ forFrom b w k j env s = .nx env s) ∨
    ∃ x k', wkAt w s j = some (some x) ∧ forFrom b w k j env s = (b x env s).turn (forFrom b w k' (j + 1)) ∧ wkMes w k' (j + 1) < wkMes w k j := by
  cases w with
  | its xs =>
    by_cases hj : j < xs.length
    · refine .inr (.inr ⟨xs[j], k, by show some xs[j]? = _; rw [List.getElem?_eq_getElem hj], ?_, by show xs.length - (j + 1) < xs.length - j; omega⟩)
      show forIts b (xs.drop j) env s = _
      rw [List.drop_eq_getElem_cons hj]
      rfl
    · refine .inr (.inl ⟨by show some xs[j]? = _; rw [List.getElem?_eq_none (by omega)], ?_⟩)
      show forIts b (xs.drop j) env s = _
      rw [List.drop_eq_nil_of_le (by omega)]
      rfl
  | live i =>
    cases k with
    | zero => exact .inl rfl
    | succ k =>
      show forLive b i (k + 1) j env s = .no ∨ _
      cases e : s.get i with
      | none => refine .inl ?_; unfold forLive; rw [e]
      | some o =>
        cases o with
        | dct kvs => refine .inl ?_; unfold forLive; rw [e]
        | lst xs =>
          cases hx : xs[j]? with
          | none =>
            refine .inr (.inl ⟨by unfold wkAt; dsimp only; rw [e]; show some xs[j]? = _; rw [hx], ?_⟩)
            show forLive b i (k + 1) j env s = _
            unfold forLive
            rw [e]
            dsimp only
            rw [hx]
          | some x =>
            refine .inr (.inr ⟨x, k, by unfold wkAt; dsimp only; rw [e]; show some xs[j]? = _; rw [hx], ?_, Nat.lt_succ_self _⟩)
            show forLive b i (k + 1) j env s = (b x env s).turn (forLive b i k (j + 1))
            conv => lhs; unfold forLive
            rw [e]
            dsimp only
            rw [hx]
  | rd r =>
    cases k with
    | zero => exact .inl rfl
    | succ k =>
      show forRd b r (k + 1) j env s = .no ∨ _
      cases e : r s j with
      | none => refine .inl ?_; unfold forRd; rw [e]
      | some o =>
        cases o with
        | none => exact .inr (.inl ⟨e, by show forRd b r (k + 1) j env s = _; unfold forRd; rw [e]⟩)
        | some x => exact .inr (.inr ⟨x, k, e, by show forRd b r (k + 1) j env s = (b x env s).turn (forRd b r k (j + 1)); conv => lhs; unfold forRd
                                                  rw [e], Nat.lt_succ_self _⟩)
theorem js_for {tg iter : Expr} {p : List Stmt} {mp : EvS} {vs : List Nat} {mg : EvG} {it : EvI} (hi : JIt g c tg it iter) (hg : JG g c vs mg tg) (hb : JSs g c mp p) (hs : noSet iter = true := by rfl) : JS g c (sFor mg it mp) (.For tg iter p [] pos) := fun X ok =>
  PS.imp (ps_for (by rw [ok.xe]; exact PassesOwn.never) ok.calm (hi X ok) (hg X ok) (hb X ok) (noSet_ok hs _)) fun En σ H h => by
    obtain ⟨μ, s, env, S, E, q⟩ := h
    obtain ⟨w, s1, h1, q⟩ := st_ok q
    refine ⟨μ, s, env, w, s1, S, E, h1, fun J H1 μ1 x1 S1 wk => ?_⟩
    have q : RsOk g.K μ H (forFrom (bodyF mg mp) w 1000000 0 env s1) En := by
      cases w <;> exact q
    refine ⟨fun i k σ H => ∃ μ' s' env' k', Ext μ1 H1 μ' H ∧ Sim g.K μ' H s' ∧ EnvR g.K H μ' σ env' ∧ RsOk g.K μ' H (forFrom (bodyF mg mp) w k' i env' s') En ∧ k = wkMes w k' i, ⟨wkMes w 1000000 0, μ1, s1, env, 1000000, .refl, S1, E.mono S x1, q.mono x1, rfl⟩, ?_⟩
    rintro i k σ2 H2 ⟨μ2, s2, env2, k2, x2, S2, E2, q2, rfl⟩
    rcases forFrom_step (b := bodyF mg mp) (w := w) (k := k2) (j := i) (env := env2) (s := s2) with e | ⟨hw, e⟩ | ⟨x, k', hw, e, hk⟩
    · rw [e] at q2; exact q2.elim
    · rw [e] at q2
      exact .inl ⟨(wk μ2 H2 s2 x2 S2 i).2 hw, q2 σ2 H2 μ2 .refl S2 E2⟩
    · rw [e] at q2
      obtain ⟨go, yld⟩ := (wk μ2 H2 s2 x2 S2 i).1 x hw
      refine .inr ⟨go, fun σ' H' => ∃ m', m' < wkMes w k2 i ∧ ∃ μ' s' env' k', Ext μ1 H1 μ' H' ∧ Sim g.K μ' H' s' ∧ EnvR g.K H' μ' σ' env' ∧ RsOk g.K μ' H' (forFrom (bodyF mg mp) w k' (i + 1) env' s') En ∧ m' = wkMes w k' (i + 1), fun σ' H' h => h, fun v H3 hy => ?_⟩
      obtain ⟨sm, rv⟩ := yld v H3 hy
      have S3 := S2.same sm
      have x23 : Ext μ2 H2 μ2 H3 := .same sm
      have E3 := E2.mono S2 x23
      unfold bodyF at q2
      cases hg4 : mg x env2 s2 with
      | no => rw [hg4] at q2; exact q2.elim
      | ok env4 s4 =>
        rw [hg4] at q2
        have q2 : RsOk g.K μ2 H2 ((mp env4 s4).turn (forFrom (bodyF mg mp) w k' (i + 1))) En := q2
        refine ⟨μ2, s2, env2, x, env4, s4, S3, E3, rv, hg4, fun σ4 H4 μ4 x4 S4 E4 _ => ⟨μ4, s4, env4, S4, E4, ?_⟩⟩
        have x24 := x23.trans x4
        generalize mp env4 s4 = z at q2 ⊢
        cases z with
        | nx env5 s5 => exact fun σ5 H5 μ5 x5 S5 E5 => ⟨_, hk, μ5, s5, env5, k', x2.trans (x24.trans x5), S5, E5, RsOk.mono q2 (x24.trans x5), rfl⟩
        | ct env5 s5 => exact fun σ5 H5 μ5 x5 S5 E5 => ⟨_, hk, μ5, s5, env5, k', x2.trans (x24.trans x5), S5, E5, RsOk.mono q2 (x24.trans x5), rfl⟩
        | bk env5 s5 => exact fun σ5 H5 μ5 x5 S5 E5 => q2 σ5 H5 μ5 (x24.trans x5) S5 E5
        | rt d5 s5 => exact fun σ5 H5 μ5 x5 S5 E5 => q2 σ5 H5 μ5 (x24.trans x5) S5 E5
        | no => exact q2
/-! ### defs -/
theorem fnB_len {np n : Nat} {b : EvS} {ds : List D} {d : D} (h : fnB np n b ds s = .ok d s') : ds.length = np := by
  unfold fnB at h
  split at h
  · assumption
  · cases h
theorem start_env {N : List Str} {vs : List V} {ds : List D} (r : Reps K H μ vs ds) : EnvR K H μ (L2.start N vs) (ds.map some ++ List.replicate (N.length - ds.length) none) := by
  unfold L2.start
  rw [r.length]
  refine ⟨by simp [r.length], fun j d h => ?_⟩
  by_cases hj : j < ds.length
  · rw [List.getElem?_append_left (by simpa using hj), List.getElem?_map] at h
    obtain ⟨d', h1, h2⟩ := Option.map_eq_some_iff.mp h
    cases h2
    obtain ⟨v, hv, rv⟩ := r.get h1
    refine ⟨v, ?_, rv⟩
    rw [List.getElem?_append_left (by rw [List.length_map, r.length]; exact hj), List.getElem?_map, hv]; rfl
  · rw [List.getElem?_append_right (by simpa using hj), List.getElem?_replicate] at h
    split at h <;> cases h
/-- a def of the text -/
theorem fn_ok {x qual : Str} {st : Stmt} {f : Addr} {fd : FuncData} {N ps : List Str} {lv : Nat} {b : EvS} (F : Fun g.K x qual st f fd) (S : FnScope N ps (defScope st)) (hb : JSs g ⟨N, defScope st, fun _ => true, lv⟩ b (defBody st)) :
    FnOk g.P g.w g.K g.mg g.base CX0 (lv + 1) f fd ps (spD g.K ps.length (fnB ps.length N.length b)) := by
  refine F.ok S (fun vs H Q E h => h.1) fun cdv A outer s H vs Q E hr h => ?_
  obtain ⟨hl, μ, st', ds, d, s', Sm, r, hv, q⟩ := h
  refine ⟨_, hb _ ⟨rfl, rfl, rfl, rfl, rfl, rfl, rfl, S.nd, fun _ h => h, rfl, rfl, hr⟩, μ, st', _, Sm, start_env r, ?_⟩
  unfold fnB at hv
  have hl2 : ds.length = ps.length := by rw [← r.length]; exact hl
  rw [if_pos hl2] at hv
  generalize b (ds.map some ++ List.replicate (N.length - ds.length) none) st' = z at hv ⊢
  cases z with
  | rt d1 s1 => cases hv; exact fun v H1 μ1 x1 S1 r1 => q v H1 μ1 x1 S1 r1
  | nx env1 s1 => cases hv; exact fun σ1 H1 μ1 x1 S1 _ => q .non H1 μ1 x1 S1 .non
  | bk _ _ => cases hv
  | ct _ _ => cases hv
  | no => cases hv
theorem fnS_of {x : Str} {ps : List Str} {lv np n : Nat} {b : EvS} {f : Addr} {fd : FuncData} (hn : np = ps.length) (hm : g.mg x = some (.ref f)) (hk : PySem.W.keepIn g.K (.ref f) = true) (hb : Binds g.K fd ps []) (h : FnOk g.P g.w g.K g.mg g.base CX0 lv f fd ps (spD g.K ps.length (fnB np n b))) : FnS g lv x ps (fnB np n b) :=
  ⟨fun ds s d s' q => by rw [← hn]; exact fnB_len q, f, fd, hm, hk, hb, h⟩
theorem fnK_of {x : Str} {ps ks : List Str} {lv np n nq : Nat} {p : List Nat} {b : EvS} {f : Addr} {fd : FuncData} (hn : np = ps.length) (hm : g.mg x = some (.ref f)) (hk : PySem.W.keepIn g.K (.ref f) = true)
    (hb : ∀ (s : Shared) (us ws : List Value), us.length = nq → ws.length = ks.length → BindsTo s fd ⟨us, ks.zip ws⟩ (ps.zip (gPerm .none nq ks.length p us ws))) (h0 : 0 < ps.length)
    (h : FnOk g.P g.w g.K g.mg g.base CX0 lv f fd ps (spD g.K ps.length (fnB np n b))) : FnK g lv x ps ks nq p (fnB np n b) :=
  ⟨fun ds s d s' q => by rw [← hn]; exact fnB_len q, f, fd, hm, hk, ⟨fun s us ws _ hl => by
    have : us.length = nq ∧ ws.length = ks.length := by
      unfold gPerm at hl
      split at hl
      · assumption
      · rw [List.length_nil] at hl; omega
    exact hb s us ws this.1 this.2, fun r q => Cs.Vals.perm r q⟩, h⟩
/-- no turn left -/
theorem fnNo_ok {x qual : Str} {st : Stmt} {f : Addr} {fd : FuncData} {ps : List Str} (F : Fun g.K x qual st f fd) : FnOk g.P g.w g.K g.mg g.base CX0 0 f fd ps (spD g.K ps.length fnNo) :=
  ⟨fun vs H Q E h => h.1, fun A outer s H args us vs Q E hr he hb hv h => by
    obtain ⟨hl, μ, st', ds, d, s', Sm, r, hv, q⟩ := h
    cases hv⟩
theorem fnNoS {x : Str} {ps : List Str} {f : Addr} {fd : FuncData} (hm : g.mg x = some (.ref f)) (hk : PySem.W.keepIn g.K (.ref f) = true) (hb : Binds g.K fd ps []) (h : FnOk g.P g.w g.K g.mg g.base CX0 0 f fd ps (spD g.K ps.length fnNo)) : FnS g 0 x ps fnNo :=
  ⟨fun ds s d s' q => (by cases q), f, fd, hm, hk, hb, h⟩
theorem FnS.mono {x : Str} {ps : List Str} {lv lv' : Nat} {f : Fn} (h : FnS g lv x ps f) (hl : lv ≤ lv') : FnS g lv' x ps f :=
  ⟨h.len, let ⟨a, b, h1, h2, h3, h4⟩ := h.ex; ⟨a, b, h1, h2, h3, h4.mono hl⟩⟩
/-! ### the law -/
theorem law_sp {f : Fn} {n : Nat} (hf : ∀ ns : List Int, ns.length ≤ n → ∃ s', f [.fix (ns.map .int)] Sto.new = .ok (.bl true) s') (K : PySem.W.Frag) (H : Hp) (a : Addr) (ns : List Int) (hn : ns.length ≤ n) (ho : Only H) (h : SqL K H a (ns.map V.int)) :
    spD K 1 f [.ref a] H (fun v _ => v = .bl true) fun _ _ _ => False := by
  obtain ⟨s', e⟩ := hf ns hn
  have intz : ∀ l : List Int, Reps K H [] (l.map V.int) (l.map D.int) := by
    intro l
    induction l with
    | nil => exact .nil
    | cons i l ih => exact .cons (.int i) ih
  have sf : SqF K H a (ns.map V.int) := by
    rcases h with (h | ⟨o, h⟩) | h
    · rcases ho a with z | ⟨o, xs, z⟩ <;> rw [h] at z <;> cases z
    · exact .inl ⟨o, h⟩
    · exact .inr h
  refine ⟨rfl, [], Sto.new, [.fix (ns.map .int)], .bl true, s', ⟨rfl, List.nodup_nil, fun i a h => by simp at h, fun i _ => Sto.new_get i⟩, .cons (.fix sf (intz ns)) .nil, e, fun v H' μ' x S r => ?_⟩
  cases r
  rfl
end
end Cs

/-! ## CsEnum -/
/-! enumerate of a tuple. -/
namespace Cs
open PySem PySem.Spec PyProof.Rows L2
theorem newT_enum (l : Addr) (items : Array Value) (n : Nat) (dct : Option Addr) (sl : Array (Option Value)) :
    Meets (Builtin.«enumerate.__new__» ⟨[.type "enumerate", .ref l], []⟩) (fun _ R s => s.heap.get? l = some { cls := .type "tuple", dict := dct, data := .seq items n, slots := sl } ∧
      R (.ok (.ret (.ref (s.heap.push { cls := .type "tuple_iterator", data := .fields #[.ref l, .int 0 0] }).objs.size)))
        { s with heap := (s.heap.push { cls := .type "tuple_iterator", data := .fields #[.ref l, .int 0 0] }).push { cls := .type "enumerate", data := .fields #[.none, .bool false, .ref s.heap.objs.size, rawInt 0, .none, .none] } }) :=
  .of_wp fun prog w A R s h => by
    obtain ⟨hp, g, d, tk, os⟩ := s; obtain ⟨hl, h⟩ := h
    have hsub := sub_enumerate
    have hL : Heap.IsTuple (Shared.heap ⟨hp, g, d, tk, os⟩) l items := ⟨_, hl, rfl, n, rfl⟩
    wp_walk using AutoSeq1.wpAny_loadPart' hl
    refine wpAny_stack_any fun st => wpAny_pure ?_
    split
    · rename_i c _ _ _ _ _
      cases (c == Value.type "enumerate")
      · wp_walk using AutoSeq1.wpAny_loadPart' hl, wpAny_pyIter_tuple hL
        exact ⟨_, rfl, h⟩
      · wp_walk using AutoSeq1.wpAny_loadPart' hl, wpAny_pyIter_tuple hL
        exact ⟨_, rfl, h⟩
    · wp_walk using AutoSeq1.wpAny_loadPart' hl, wpAny_pyIter_tuple hL
      exact ⟨_, rfl, h⟩
theorem call_enumT {prog : Program} {w : World} {A : Around} {E : Value → Shared → Prop} {s : Shared} {l : Addr} {items : Array Value} {Q : Value → Shared → Prop} (hL : s.heap.IsTuple l items)
    (h : ∀ h', IsEnum h' (s.heap.objs.size + 1) s.heap.objs.size 0 .none → h'.IsTupleIter s.heap.objs.size l 0 → h'.objs.size = s.heap.objs.size + 2 →
      (∀ b o, s.heap.get? b = some o → h'.get? b = some o) → Q (.ref (s.heap.objs.size + 1)) { s with heap := h' }) :
    wpAny (model prog w) A (call (.type "enumerate") [.ref l]) Q E s := by
  obtain ⟨⟨c, dct, dt, sl⟩, hl, hc, n, hd⟩ := hL
  replace hc : c = .type "tuple" := hc
  replace hd : dt = .seq items n := hd
  subst hc hd
  refine callType_new F.called_enumerate (by decide) (F.typeCall_enumerate_1 _) (F.newCall_enumerate_1 _) (fun obj => F.args_object_init_2 obj _) F.entry_enumerate_new
    (newT_enum l items n dct sl) ⟨hl, ?_⟩
  have hz : (s.heap.push { cls := .type "tuple_iterator", data := .fields #[.ref l, .int 0 0] }).objs.size = s.heap.objs.size + 1 := Heap.size_push ..
  show _ ∧ _
  rw [hz]
  have he : IsEnum ((s.heap.push { cls := .type "tuple_iterator", data := .fields #[.ref l, .int 0 0] }).push
      { cls := .type "enumerate", data := .fields #[.none, .bool false, .ref s.heap.objs.size, rawInt 0, .none, .none] }) (s.heap.objs.size + 1) s.heap.objs.size 0 .none := by
    have := Heap.get?_push_size (s.heap.push { cls := .type "tuple_iterator", data := .fields #[.ref l, .int 0 0] })
      (o := { cls := .type "enumerate", data := .fields #[.none, .bool false, .ref s.heap.objs.size, rawInt 0, .none, .none] }) rfl
    rw [hz] at this; exact this
  refine ⟨⟨_, he, rfl⟩, h _ he ⟨_, Heap.get?_push_of_some _ (Heap.get?_push_size _ rfl), rfl, rfl⟩ (by rw [Heap.size_push, hz]) fun b o x => Heap.get?_push_of_some _ (Heap.get?_push_of_some _ x)⟩
/-- the tuple at a, each item in a new pair -/
def IteT (K : PySem.W.Frag) (a : Addr) : It :=
  ⟨fun i H => ∃ (xs : List V) (x : V), SqT K H a xs ∧ xs[i]? = some x, fun i H v H' => ∃ T x, v = .ref T ∧ H T = none ∧ H' = upd H T (.tup [.int (i : Nat), x]) ∧ ∀ xs, SqT K H a xs → xs[i]? = some x, fun i H => ∃ xs : List V, SqT K H a xs ∧ xs.length ≤ i⟩
theorem turn_enumT {P : Program} {w : World} {K : PySem.W.Frag} {elts : List Expr} {kk : Nat} {tpos : Pos} (a e it : Addr) (hai : a ≠ it) :
    L2.Turn P w K (.Tuple elts kk tpos) (IteT K a) [e, it] e (fun i h => (∃ old, IsEnum h e it ((i : Nat) : Int) old) ∧ h.IsTupleIter it a i ∧ e ≠ it) where
  mem := by simp
  obj := fun i h st b hb => by
    obtain ⟨⟨old, he⟩, ⟨o, ho, hc, hd⟩, _⟩ := st
    have e' : b = e ∨ b = it := by simpa using hb
    rcases e' with z | z
    · rw [z]; exact ⟨_, he, fun v q => nomatch q⟩
    · rw [z]; exact ⟨o, ho, fun v q => by rw [hd] at q; cases q⟩
  keep := fun i h h' st k => let ⟨⟨old, he⟩, hi, hne⟩ := st; ⟨⟨old, k e (by simp) _ he⟩, hi.at fun o q => k it (by simp) o q, hne⟩
  item := by
    intro X hP hw hK hc i pins s σ H E I hf st hg
    subst hP hw hK
    obtain ⟨⟨old, he⟩, hit, hne⟩ := st
    obtain ⟨xs, x, hq, hx⟩ := hg
    obtain ⟨its, rv, p, hz⟩ := I.tuple hq
    obtain ⟨u, hu, ru⟩ := rv.get hx
    have hel : e < s.heap.objs.size := Heap.lt_size he
    have hil : it < s.heap.objs.size := by obtain ⟨_, q, _⟩ := hit; exact Heap.lt_size q
    have pT : s.heap.IsTuple a its.toArray := p
    -- the inner iterator's own turn, the tuple as it stands
    by_cases hea : e = a
    · exfalso
      obtain ⟨o, ho, hoc, _⟩ := id pT
      rw [← hea, he] at ho
      cases ho
      exact absurd (Value.type.inj hoc) (by decide)
    have D : Draws X.prog X.w X.A.in1 it [it, a] its.toArray.size (fun i v => its.toArray[i]? = some v) (fun i h => h.IsTupleIter it a i ∧ h.IsTuple a its.toArray) := Draws.tuple (A := X.A.in1) (I.ok.hd hc) it a hai its.toArray
    refine wpAny_pyNext_enum_itemD D he ⟨hit, pT⟩ (by have := (List.getElem?_eq_some_iff.mp hu).1; simpa using this) hne (by simpa using ⟨hne, hea⟩) fun u' h' tk hP ho hit' hT hsz hk => ?_
    have hu' : its.toArray[i]? = some u' := hP
    have hu2 : u' = u := by
      have : its.toArray[i]? = some u := by simpa using hu
      rw [this] at hu'; exact (Option.some.inj hu').symm
    subst hu2
    refine ⟨_, rfl, wpAny_letOwnedTupleGo_enum (s := { s with heap := h', toks := tk + 1 }) ho fun h'' he' sb => ?_⟩
    have hT2 : h''.get? s.heap.objs.size = some { cls := .type "tuple", data := .seq #[.int i tk, u'] } := (sb.2 _ (Nat.ne_of_gt hel)).trans hT
    have new : ObjOk X.prog X.w (upd H s.heap.objs.size (.tup [.int (i : Nat), x])) h'' s.heap.objs.size (.tup [.int (i : Nat), x]) :=
      ⟨by show 2 ≤ sizeLine; decide, [.int i tk, u'], .cons ⟨_, rfl⟩ (.cons ru .nil), ⟨_, hT2, rfl, _, rfl⟩⟩
    have I1 : Inv X pins σ (upd H s.heap.objs.size (.tup [.int (i : Nat), x])) { s with heap := h'', toks := tk + 1 } :=
      I.turnedNew (ch := [e, it]) (fun b ob hb q => (sb.2 b (fun z => hb (by simp [z]))).trans (hk b ob (fun z => hb (by simp [z])) (fun z => hb (by simp [z])) q)) hf (Nat.le_refl _) new
    refine ⟨.ref s.heap.objs.size, _, I1, rfl, ⟨_, x, rfl, I.hok.fresh (Nat.le_refl _), rfl, fun ys hy => by rw [I.tuple_inj hy hq]; exact hx⟩, ⟨⟨u', ?_⟩, hit'.1.at fun o q => (sb.2 it (Ne.symm hne)).trans q, hne⟩, fun b hb => ?_⟩
    · have e1 : ((i + 1 : Nat) : Int) = (i : Int) + 1 := by omega
      rw [e1]; exact he'
    · have hb' : b < s.heap.objs.size := by
        have e' : b = e ∨ b = it := by simpa using hb
        rcases e' with z | z
        · rw [z]; exact hel
        · rw [z]; exact hil
      rw [upd_ne (Nat.ne_of_lt hb')]
      exact (hf b hb).1
  done := by
    intro X hP hw hK hc i pins s σ H E I hf st hg
    subst hP hw hK
    obtain ⟨⟨old, he⟩, hit, hne⟩ := st
    obtain ⟨xs, hq, hx⟩ := hg
    obtain ⟨its, rv, p, hz⟩ := I.tuple hq
    obtain ⟨f0, f1, f2, f3, f4, f5⟩ := hf it (by simp)
    have hl := rv.length
    have pT : s.heap.IsTuple a its.toArray := p
    have hT : s.TypeIs (.ref e) "enumerate" := ⟨_, he, rfl⟩
    unfold pyNext
    refine wpAny_bind (wpAny_attempt (wpAny_callSpecial?_slot (name := Str.ofString "__next__") hT F.slot_enumerate_next
      (wpAny_call_entry F.slot_enumerate_next hT F.entry_enumerate_next ?_ (F.args_enumerate_next_1 _))))
    show wpAny _ _ (field (.ref e) 2 >>= _) _ _ _
    refine wpAny_bind (wpAny_field he rfl (x := .ref it) rfl ?_)
    refine wpAny_bind (wpAny_nextOf_tuple_end (I.ok.hd hc) hit pT (by simp; omega) fun h' x he' hx' => ?_)
    obtain ⟨o, ho, hc'⟩ := hx'
    refine wpAny_bind (wpAny_isInstance (T := "StopIteration") (b := true) ⟨o, ho, hc'⟩ isSubtype_stop ?_)
    exact wpAny_pure ⟨rfl, I.turned (t' := s.toks) (fun b o hb q => he' b o hb q) f0 f1 f3 f4 f5⟩
  self := fun A i s Q E st h => let ⟨⟨_, he⟩, _⟩ := st; wpAny_pyIter_enum he h
end Cs

/-! ## CsSim8 -/
namespace Cs
open PySem PySem.Spec PyProof.Rows L2
section
variable {K : PySem.W.Frag} {μ μ' : List Addr} {H H' : Hp} {s s' : Sto} {g : Gb} {c : Cc} {X : Cx} {m ma mb mc : Sem} {e a b d : Expr} {pos : Pos}
/-! ### x, y, z = .. -/
theorem js_par3 {ra : EvA} {i j l : Nat} {x y z : Str} {a b d : Expr} {px py pz pt : Pos} {kt k2 pt2} (hi : c.N[i]? = some x) (hj : c.N[j]? = some y) (hl : c.N[l]? = some z) (hij : i ≠ j) (hil : i ≠ l) (hjl : j ≠ l)
    (hx : c.sc.names.lookup x = some .local) (hy : c.sc.names.lookup y = some .local) (hz : c.sc.names.lookup z = some .local) (ha : JA g c ra [a, b, d])
    (hw : ∀ env : PySem.Env, env.scope = c.sc → swappedStores [.Tuple [.Name x px, .Name y py, .Name z pz] kt pt] (.Tuple [a, b, d] k2 pt2) env = pure (some [x, y, z]))
    (hs : ∀ env : PySem.Env, env.scope = c.sc → swapsWithSole [.Tuple [.Name x px, .Name y py, .Name z pz] kt pt] (.Tuple [a, b, d] k2 pt2) pos.line env = pure false := by intro _ _; rfl) :
    JS g c (sPar3 i j l ra) (.Assign [.Tuple [.Name x px, .Name y py, .Name z pz] kt pt] (.Tuple [a, b, d] k2 pt2) pos) := fun X ok =>
  PS.imp (ps_par3 ok.calm (by rw [ok.N]; exact ok.nd) (by rw [ok.N]; exact hi) (by rw [ok.N]; exact hj) (by rw [ok.N]; exact hl) hij hil hjl (by rw [ok.sc]; exact hx) (by rw [ok.sc]; exact hy) (by rw [ok.sc]; exact hz) (ha X ok) (hw _ ok.sc) (hs _ ok.sc)) fun En σ H h => by
    obtain ⟨μ, s, env, S, E, q⟩ := h
    obtain ⟨ds, s1, h1, q⟩ := st_ok q
    refine ⟨μ, s, env, ds, s1, S, E, h1, fun vs H1 μ1 x1 S1 r1 => ?_⟩
    split at q
    · cases r1 with
      | cons r r2 =>
      cases r2 with
      | cons r2 r3 =>
      cases r3 with
      | cons r3 r4 =>
      cases r4
      exact ⟨_, _, _, rfl, q _ H1 μ1 x1 S1 ((((E.mono S x1).set r i).set r2 j).set r3 l)⟩
    · exact q.elim
/-! ### range(i, j, -1) -/
theorem rgdD_get {i : Int} {n j : Nat} : (rgdD i n)[j]? = if j < n then some (.int (i - (j : Nat))) else none := by
  unfold rgdD
  rw [List.getElem?_map]
  by_cases h : j < n
  · rw [if_pos h, List.getElem?_range h]; rfl
  · rw [if_neg h, List.getElem?_eq_none (by simpa using h)]; rfl
theorem wk_rgd {i : Int} {n : Nat} : WkOk K (Itc i (-1) n) (.its (rgdD i n)) μ H := fun μ' H' s' ex S' j => by
  refine ⟨fun d hd => ?_, fun hd => ?_⟩
  · have hd : (rgdD i n)[j]? = some d := Option.some.inj hd
    rw [rgdD_get] at hd
    split at hd
    · rename_i hj
      cases hd
      refine ⟨hj, fun x H'' hy => ?_⟩
      obtain ⟨rfl, rfl⟩ := hy
      have e : i + (j : Int) * -1 = i - (j : Nat) := by omega
      rw [e]
      exact ⟨.refl _, .int _⟩
    · cases hd
  · have hd : (rgdD i n)[j]? = none := Option.some.inj hd
    rw [rgdD_get] at hd
    split at hd
    · cases hd
    · rename_i hj
      exact Nat.le_of_not_lt hj
theorem ji_rg3 {p : Pos} {ra : EvA} (hs : c.sc.names.lookup ("range" : Str) = some .globalImplicit) (hm : g.mg ("range" : Str) = none) (ha : JA g c ra [a, b, d]) (hst : noStar a = true := by rfl) (hst2 : noStar b = true := by rfl) (hst3 : noStar d = true := by rfl) : JI g c (iRg3 ra) (.Call (.Name "range" p) [a, b, d] [] pos) := fun X ok tg =>
  PI.imp (pi_range3 (by show X.env.scope.names.lookup _ = _; rw [ok.sc]; exact hs) (by rw [ok.mg]; exact hm) (ha X ok) (star_cons hst _) (by rw [star_cons hst2, star_cons hst3]; rfl)) fun σ H R h => by
    obtain ⟨μ, s, env, w, s', S, E, hv, q⟩ := h
    obtain ⟨ds, s1, h1, hv⟩ := bind_ok hv
    refine ⟨μ, s, env, ds, s1, S, E, h1, fun vs H1 μ1 x1 S1 r1 => ?_⟩
    split at hv
    · split at hv
      · rename_i hb
        cases hv
        cases r1 with
        | cons r r2 =>
        cases r2 with
        | cons r2 r3 =>
        cases r3 with
        | cons r3 r4 =>
        cases r4; cases r; cases r2; cases r3
        obtain ⟨rfl, hb1, hb2⟩ := hb
        exact ⟨_, _, _, _, rfl, RgC.neg (bigI_ok hb1).1 (bigI_ok hb1).2 (bigI_ok hb2).1 (bigI_ok hb2).2, q _ H1 μ1 x1 S1 wk_rgd⟩
      · cases hv
    · cases hv
/-! ### enumerate -/
theorem pi_enumT {X : Cx} {e : Expr} {ta : TA} {p pos tpos : Pos} {elts : List Expr} {kk : Nat} (hg : Gl X "enumerate") (hm : X.mg "enumerate" = none) (ha : PA X [e] ta) (hs : starEach [e] X.env = [(false, eval e X.env)] := by rfl) :
    PI X (.Tuple elts kk tpos) (.Call (.Name "enumerate" p) [e] [] pos) (fun σ H R => ta σ H fun vs H1 => ∃ a xs, vs = [.ref a] ∧ SqT X.K H1 a xs ∧ R (IteT X.K a) H1) := by
  refine ⟨fun pins s σ H R I h => ?_⟩
  refine Call_ (ld_blt I hg hm boot_enumerate (PyProof.Rows.callWith_type1 (thn (ha.run pos pins s σ H _ I h) fun us s1 ⟨vs, H1, I1, r1, q1⟩ => ?_) hs rfl))
  obtain ⟨a, xs, ex, hq, q⟩ := q1
  subst ex
  cases r1 with
  | cons r rr =>
    cases rr
    cases r
    obtain ⟨its, rv, p', hz⟩ := I1.tuple hq
    have pT : s1.heap.IsTuple a its.toArray := p'
    have hal : a < s1.heap.objs.size := by obtain ⟨_, q, _⟩ := id pT; exact Heap.lt_size q
    refine call_enumT pT fun h' he hit hsz hk => wpAny_pyIter_enum he ?_
    have I2 : Inv X pins σ H1 { s1 with heap := h' } := I1.kept (t' := s1.toks) hk
    refine ⟨s1.heap.objs.size + 1, [s1.heap.objs.size + 1, s1.heap.objs.size], _, _, H1, rfl, I2, turn_enumT a (s1.heap.objs.size + 1) s1.heap.objs.size (Nat.ne_of_lt hal), ⟨⟨.none, he⟩, hit, Nat.succ_ne_self _⟩, fun b hb => ?_, q⟩
    have e' : b = s1.heap.objs.size + 1 ∨ b = s1.heap.objs.size := by simpa using hb
    have hle : s1.heap.objs.size ≤ b := by
      rcases e' with z | z
      · rw [z]; exact Nat.le_add_right _ _
      · rw [z]; exact Nat.le_refl _
    exact I1.fpOk hle (I1.hok.fresh hle)
theorem enumD_get {ds : List D} {j : Nat} : (enumD ds)[j]? = (ds[j]?).map fun x => .tup [.int (j : Nat), x] := by
  unfold enumD
  rw [List.getElem?_map, List.getElem?_zipIdx]
  cases ds[j]? <;> simp
theorem wk_enumT {a : Addr} {xs : List V} {ds : List D} (S : Sim K μ H s) (tx : SqT K H a xs) (r : Reps K H μ xs ds) : WkOk K (IteT K a) (.its (enumD ds)) μ H := fun μ' H' s' ex S' j => by
  have tx' : SqT K H' a xs := sqT_keep (fun a xs h => ex.keep a _ h (S.nomem fun xs e => by rw [h] at e; cases xs <;> cases e)) (fun a o u h => ex.keep a _ h (S.nomem fun xs e => by rw [h] at e; cases xs <;> cases e)) tx
  have r' := r.mono S ex
  refine ⟨fun d hd => ?_, fun hd => ?_⟩
  · have hd : (enumD ds)[j]? = some d := Option.some.inj hd
    rw [enumD_get] at hd
    obtain ⟨y, hy, rfl⟩ := Option.map_eq_some_iff.mp hd
    obtain ⟨v, hv, rv⟩ := r'.get hy
    refine ⟨⟨xs, v, tx', hv⟩, fun x H'' hyl => ?_⟩
    obtain ⟨T, z, rfl, hT, rfl, hz⟩ := hyl
    have ez : z = v := by have := hz xs tx'; rw [hv] at this; exact (Option.some.inj this).symm
    subst ez
    obtain ⟨_, _, rp⟩ := rep_tup S' hT (Reps.cons (.int _) (Reps.cons rv .nil))
    exact ⟨fun b o hb => by rw [upd_ne (fun q => by rw [q, hT] at hb; cases hb)]; exact hb, rp⟩
  · have hd : (enumD ds)[j]? = none := Option.some.inj hd
    rw [enumD_get] at hd
    have : ds[j]? = none := by
      cases h : ds[j]? with
      | none => rfl
      | some y => rw [h] at hd; cases hd
    exact ⟨xs, tx', List.getElem?_eq_none_iff.mp (r'.none_of this)⟩
theorem ji_enum {p tpos : Pos} {ra : EvA} {elts : List Expr} {kk : Nat} (hs : c.sc.names.lookup ("enumerate" : Str) = some .globalImplicit) (hm : g.mg ("enumerate" : Str) = none) (ha : JA g c ra [a]) (hst : noStar a = true := by rfl) : JIt g c (.Tuple elts kk tpos) (iEnum ra) (.Call (.Name "enumerate" p) [a] [] pos) := fun X ok =>
  PI.imp (pi_enumT (by show X.env.scope.names.lookup _ = _; rw [ok.sc]; exact hs) (by rw [ok.mg]; exact hm) (ha X ok) (star_cons hst _)) fun σ H R h => by
    obtain ⟨μ, s, env, w, s', S, E, hv, q⟩ := h
    obtain ⟨ds, s1, h1, hv⟩ := bind_ok hv
    refine ⟨μ, s, env, ds, s1, S, E, h1, fun vs H1 μ1 x1 S1 r1 => ?_⟩
    split at hv
    · cases hv
      cases r1 with
      | cons r r2 =>
      cases r2
      cases r with
      | tup tx rx =>
        exact ⟨_, _, rfl, by rw [ok.K]; exact tx, by rw [ok.K]; exact q _ H1 μ1 x1 S1 (wk_enumT S1 tx rx)⟩
    · cases hv
/-! ### l.index(x) -/
theorem mt_indexI (hK : X.K = K) : MtR X "list.index" (RmD K indexM) := by
  subst hK
  refine MtR.imp mt_index fun x xs H Q h => ?_
  obtain ⟨μ, s, dx, ds, d, s', S, rx, rs, h, q⟩ := h
  unfold indexM at h
  split at h
  · split at h
    · rename_i ex
      split at h
      · rename_i ns hns
        split at h
        · rename_i i
          split at h
          · rename_i j hj
            cases h
            cases rx with
            | ref rx =>
            cases rs with
            | cons r1 r2 =>
            cases r2
            cases r1
            obtain ⟨hm, vx, hx, px⟩ := Rep.lst_at S (.ref rx) ex
            have ev := ints_rep px hns
            subst ev
            obtain ⟨hj1, hj2, hj3⟩ := List.findIdx?_eq_some_iff_getElem.mp hj
            refine ⟨_, _, _, j, V.int ns[j], rfl, rfl, .of hx, rfl, ?_, ?_, ?_, ?_, q _ _ μ .refl S (.int _)⟩
            · rw [List.all_map]; exact List.all_eq_true.mpr fun _ _ => rfl
            · rw [List.getElem?_map, List.getElem?_eq_getElem hj1]; rfl
            · simpa [eqV] using hj2
            · intro m z hm' hz
              rw [List.getElem?_map, List.getElem?_eq_getElem (by omega)] at hz
              cases hz
              simpa [eqV] using hj3 m hm'
          · cases h
        · cases h
      · cases h
    · cases h
  · cases h
/-! ### x is True -/
theorem op_isBlD (hK : X.K = K) : OpR X (compareOp .Is) (R2D K isBlD) := by
  subst hK
  refine OpR.imp op_is_bl fun x y H Q h => ?_
  obtain ⟨μ, s, dx, dy, d, s', S, rx, ry, h, q⟩ := h
  unfold isBlD at h
  split at h
  · cases h; cases rx; cases ry
    exact ⟨_, _, rfl, rfl, q _ H μ .refl S (.bl _)⟩
  · cases h
theorem op_isnBlD (hK : X.K = K) : OpR X (compareOp .IsNot) (R2D K isnBlD) := by
  subst hK
  refine OpR.imp op_isnot_bl fun x y H Q h => ?_
  obtain ⟨μ, s, dx, dy, d, s', S, rx, ry, h, q⟩ := h
  unfold isnBlD at h
  split at h
  · cases h; cases rx; cases ry
    exact ⟨_, _, rfl, rfl, q _ H μ .refl S (.bl _)⟩
  · cases h
theorem isBlD_bl : ∀ x y s d s', isBlD x y s = .ok d s' → ∃ b, d = .bl b := by
  intro x y s d s' h
  unfold isBlD at h
  split at h
  · cases h; exact ⟨_, rfl⟩
  · cases h
theorem isnBlD_bl : ∀ x y s d s', isnBlD x y s = .ok d s' → ∃ b, d = .bl b := by
  intro x y s d s' h
  unfold isnBlD at h
  split at h
  · cases h; exact ⟨_, rfl⟩
  · cases h
end
end Cs

/-! ## CsMin -/
/-! min(list, key=a def, default=..). -/
namespace Cs
open PySem PySem.Spec PyProof.Rows L2
section
variable {X : Cx}
/-- a def run from inside a built-in -/
theorem run_fn1 {k : Nat} {f : Addr} {fd : FuncData} {ps : List Str} {sp : Sp} {pins : List (Addr × Obj)} {σ : L2.St} {H : Hp} {s : Shared} {Q : VK} {us : List Value} {vs : List V} (F : FnOk X.prog X.w X.K X.mg X.base CX0 k f fd ps sp) (hr : Room k X.A.in1) (hb : Binds X.K fd ps [])
    (I : Inv X pins σ H s) (r : Vals vs us) (h : sp vs H Q E0) : wpAny (model X.prog X.w) X.A.in1 (call (.ref f) us) (EP X pins σ Q) (fun _ _ => False) s := by
  have hl : us.length = ps.length := by rw [← r.length]; exact F.len _ _ _ _ h
  have hl' : (us ++ []).length = ps.length := by rw [List.append_nil]; exact hl
  have hbb := hb s us I.kIn hl'
  rw [List.append_nil] at hbb
  refine wpAny_call (codeAny_mono (F.run X.A.in1 X.stack s H ⟨us, []⟩ us vs Q E0 hr I.env0.in1 hbb r h) fun r s' hq => ?_)
  cases r with
  | error e => exact hq
  | ok fl =>
    cases fl with
    | ret u => exact I.after hq
    | next => exact False.elim hq
    | brk => exact False.elim hq
    | cont => exact False.elim hq
/-- the key's order at H -/
def LtA (X : Cx) (A : Around) (H : Hp) (x y : V) (b : Bool) : Prop := ∀ (pins : List (Addr × Obj)) (σ : L2.St) (s : Shared) (u v : Value), Inv X pins σ H s → RelV x u → RelV y v → Ob.RcOp .Lt A s u v b
def LtAt (X : Cx) (H : Hp) (x y : V) (b : Bool) : Prop := LtA X X.A.in1 H x y b
/-- one turn and all that come: n turns left at the most; b is the best item so far, kb its key -/
def MinStep (X : Cx) (l q : Addr) (Q : VK) : Nat → Nat → Hp → V → V → Prop
  | 0, _, _, _, _ => False
  | n + 1, j, H, b, kb => (∃ xs, SqL X.K H l xs ∧ xs.length ≤ j ∧ Q b H) ∨
    ∃ xs x, SqL X.K H l xs ∧ xs[j]? = some x ∧ ∀ (pins : List (Addr × Obj)) (σ : L2.St) (s : Shared) (u : Value), Inv X pins σ H s → RelV x u →
      wpAny (model X.prog X.w) X.A.in1 (call (.ref q) [u]) (fun w s' => ∃ (kx : V) (H' : Hp) (bb : Bool), Inv X pins σ H' s' ∧ RelV kx w ∧ LtAt X H' kx kb bb ∧
        (if bb = true then MinStep X l q Q n (j + 1) H' x kx else MinStep X l q Q n (j + 1) H' b kb)) (fun _ _ => False) s
theorem fpOk_after {pins pl : List (Addr × Obj)} {σ : L2.St} {H H' : Hp} {s' : Shared} {a : Addr} {o : Obj} (f : FpOk X pins H a) (I : Inv X (pins ++ pl) σ H' s') (hp : (a, o) ∈ pl) : FpOk X pins H' a ∧ s'.heap.get? a = some o := by
  obtain ⟨f0, f1, f2, f3, f4, f5⟩ := f
  obtain ⟨p0, p1, _⟩ := I.pin (a, o) (List.mem_append_right _ (List.mem_append_right _ hp))
  exact ⟨⟨p1, f1, f2, f3, f4, f5⟩, p0⟩
theorem min_loop {l q I S : Addr} {kw : List (Str × Value)} {Q : VK} (hc : X.calm = true) (hlI : l ≠ I) (hlS : l ≠ S) (hSI : S ≠ I) : ∀ (n j : Nat) (pins : List (Addr × Obj)) (σ : L2.St) (H : Hp) (s : Shared) (b kb : V) (vb vkb : Value) (c : Nat),
    MinStep X l q Q n j H b kb → Inv X pins σ H s → FpOk X pins H I → FpOk X pins H S → s.heap.IsListIter I l j → s.heap.get? S = some (seqObj "list" #[vb, vkb] c) → RelV b vb → RelV kb vkb →
    codeAny (model X.prog X.w) X.A (.builtin "min.loop" ⟨[.ref I, .ref q, .ref S], kw⟩) (fun r s' => match r with | .ok (.ret v) => EP X pins σ Q v s' | .ok _ => False | .error e => X.xe e s') s := by
  have hname : (toString "min" ++ toString ".loop" : String) = "min.loop" := by decide
  intro n
  induction n with
  | zero => intro j pins σ H s b kb vb vkb c h; exact h.elim
  | succ n ih =>
    intro j pins σ H s b kb vb vkb c h Iv fI fS hit hS rb rkb
    have nI := fI
    obtain ⟨i0, i1, i2, i3, i4, i5⟩ := fI
    obtain ⟨t0, t1, t2, t3, t4, t5⟩ := fS
    refine codeAny_builtin PySem.F.entry_min_loop ?_
    rw [Around.under_plainId PySem.F.plain_min_loop _]
    show wpAny _ X.A.in1 (seqItems? (.ref S) >>= _) _ _ _
    refine wpAny_bind (wpAny_seqItems hS rfl ?_)
    show wpAny _ X.A.in1 (tryCatch (pyNext (.ref I)) _ >>= _) _ _ _
    rcases h with ⟨xs, hq, hx, hQ⟩ | ⟨xs, x, hq, hx, turn⟩
    · -- the end
      obtain ⟨its, rv, p, hz⟩ := Iv.list hq
      have hl := rv.length
      refine wpAny_bind (wpAny_tryCatch (wpAny_pyNext_list_end (Iv.ok.hd hc) hit p.isList (by simp; omega) fun h' eb => ?_))
      have I1 : Inv X pins σ H { s with heap := h' } := Iv.turned (t' := s.toks) (fun b o hb e => eb b o hb e) i0 i1 i3 i4 i5
      have hS' : h'.get? S = some (seqObj "list" #[vb, vkb] c) := eb S _ hSI hS
      show wpAny _ X.A.in1 (updateSeq S (fun _ => #[]) >>= _) _ _ _
      refine wpAny_bind ?_
      refine wpAny_updateSeq hS' rfl (wpAny_bind (wpAny_letGo (wpAny_pure ?_)))
      have I2 : Inv X pins σ H { s with heap := h'.update S (Obj.mapSeq fun _ => (#[] : Array Value)) } := I1.turned (t' := s.toks) (fun b o hb e => (Heap.SameBut.update h' S _).2 b hb ▸ e) t0 t1 t3 t4 t5
      exact ⟨b, H, I2, rb, hQ⟩
    · -- one more item
      obtain ⟨its, rv, p, hz⟩ := Iv.list hq
      obtain ⟨u, hu, ru⟩ := rv.get hx
      refine wpAny_bind (wpAny_tryCatch (wpAny_pyNext_list_item hit p.isList (x := u) (by simpa using hu) fun h' hit' sb => ?_))
      have I1 : Inv X pins σ H { s with heap := h' } := Iv.turned (t' := s.toks) (fun b o hb e => (sb.2 b hb).trans e) i0 i1 i3 i4 i5
      have hS' : h'.get? S = some (seqObj "list" #[vb, vkb] c) := (sb.2 S hSI).trans hS
      obtain ⟨oI, hoI, hcI, hdI⟩ := id hit'
      have hpS : (S, seqObj "list" #[vb, vkb] c) ∈ pinsAt [S, I] h' := mem_pinsAt (by simp) hS'
      have hpI : (I, oI) ∈ pinsAt [S, I] h' := mem_pinsAt (by simp) hoI
      have IP : Inv X (pins ++ pinsAt [S, I] h') σ H { s with heap := h' } := I1.pinned (fp := [S, I]) (fun b hb => by
        have e : b = S ∨ b = I := by simpa using hb
        rcases e with rfl | rfl
        · exact ⟨t0, t1, t2, t3, t4, t5⟩
        · exact ⟨i0, i1, i2, i3, i4, i5⟩) (fun b hb => by
        have e : b = S ∨ b = I := by simpa using hb
        rcases e with rfl | rfl
        · exact ⟨_, hS', fun v z => nomatch z⟩
        · exact ⟨oI, hoI, fun v z => by rw [hdI] at z; cases z⟩)
      show wpAny _ X.A.in1 (tryCatch (holding [u] (call (.ref q) [u])) _ >>= _) _ _ _
      refine wpAny_bind (wpAny_tryCatch (wpAny_holding (wpAny_mono (turn _ σ _ u IP ru) (fun w s2 he => ?_) fun _ _ hF => hF.elim)))
      obtain ⟨kx, H', bb, I3, rk, lt, nxt⟩ := he
      obtain ⟨fS', gS⟩ := fpOk_after (a := S) ⟨t0, t1, t2, t3, t4, t5⟩ I3 hpS
      obtain ⟨fI', gI⟩ := fpOk_after (a := I) ⟨i0, i1, i2, i3, i4, i5⟩ I3 hpI
      have I4 := I3.unpinned
      have hit2 : s2.heap.IsListIter I l (j + 1) := ⟨oI, gI, hcI, hdI⟩
      show wpAny _ X.A.in1 (tryCatch (holding [u, w] (richCompare .Lt w vkb >>= _)) _ >>= _) _ _ _
      refine wpAny_bind (wpAny_tryCatch (wpAny_holding (wpAny_bind (lt pins σ s2 w vkb I4 rk rkb _ _ _ _ ?_))))
      refine wpAny_bind (wpAny_holding (wpAny_truthy_bool ?_))
      refine wpAny_bind (wpAny_letGo (wpAny_pure ?_))
      cases bb with
      | true =>
        simp only [if_true] at nxt ⊢
        refine wpAny_bind ?_
        refine wpAny_updateSeq gS rfl (wpAny_bind (wpAny_letGo ?_))
        rw [hname]
        obtain ⟨t0', t1', t2', t3', t4', t5'⟩ := id fS'
        have sb2 := Heap.SameBut.update s2.heap S (Obj.mapSeq fun _ => #[u, w])
        have I5 : Inv X pins σ H' { s2 with heap := s2.heap.update S (Obj.mapSeq fun _ => #[u, w]) } := I4.turned (t' := s2.toks) (fun b o hb e => (sb2.2 b hb).trans e) t0' t1' t3' t4' t5'
        refine wpAny_pure ⟨plainId_quiet PySem.F.plain_min_loop _, ih (j + 1) pins σ H' _ x kx u w _ nxt I5 fI' fS' (hit2.at fun o e => (sb2.2 I (Ne.symm hSI)).trans e) (get?_update_seq gS fun _ => #[u, w]) ru rk⟩
      | false =>
        simp only [Bool.false_eq_true, if_false] at nxt ⊢
        refine wpAny_bind (wpAny_letGo ?_)
        rw [hname]
        exact wpAny_pure ⟨plainId_quiet PySem.F.plain_min_loop _, ih (j + 1) pins σ H' _ b kb vb vkb c nxt I4 fI' fS' hit2 gS rb rkb⟩
def MinStart (X : Cx) (l q : Addr) (Q : VK) (n : Nat) (H : Hp) (dv : V) : Prop := (SqL X.K H l [] ∧ Q dv H) ∨
    ∃ xs x, SqL X.K H l xs ∧ xs[0]? = some x ∧ ∀ (pins : List (Addr × Obj)) (σ : L2.St) (s : Shared) (u : Value), Inv X pins σ H s → RelV x u →
      wpAny (model X.prog X.w) X.A.in1 (call (.ref q) [u]) (fun w s' => ∃ (kx : V) (H' : Hp), Inv X pins σ H' s' ∧ RelV kx w ∧ MinStep X l q Q n 1 H' x kx) (fun _ _ => False) s
theorem args_min (a v u : Value) : argsOk "min" ⟨[a], [(Str.ofString "key", v), (Str.ofString "default", u)]⟩ := by unfold argsOk; kernel_rfl
theorem min_run {l q : Addr} {Q : VK} {n : Nat} {pins : List (Addr × Obj)} {σ : L2.St} {H : Hp} {s : Shared} {dv : V} {ud : Value} (hc : X.calm = true) (h : MinStart X l q Q n H dv) (Iv : Inv X pins σ H s) (rd : RelV dv ud) :
    wpAny (model X.prog X.w) X.A (call (.builtin "min") [.ref l] [(Str.ofString "key", .ref q), (Str.ofString "default", ud)]) (EP X pins σ Q) X.xe s := by
  have hname : (toString "min" ++ toString ".loop" : String) = "min.loop" := by decide
  have hsq : ∃ xs, SqL X.K H l xs := by
    rcases h with ⟨h, _⟩ | ⟨xs, x, h, _⟩
    · exact ⟨_, h⟩
    · exact ⟨_, h⟩
  obtain ⟨xs0, hq0⟩ := hsq
  obtain ⟨its, rv, p, hz⟩ := Iv.list hq0
  have hll : l < s.heap.objs.size := by obtain ⟨_, q, _⟩ := id p.isList; exact Heap.lt_size q
  refine kmk_tree PySem.F.kind_min PySem.F.plain_min PySem.F.entry_min (args_min _ _ _) ?_
  show wpAny _ X.A.in1 (Builtin.Builtins.bindParams "min" ["key", "default"] 0 ⟨[], [(Str.ofString "key", .ref q), (Str.ofString "default", ud)]⟩ >>= _) _ _ s
  refine wpAny_bind (wpAny_of_eq (show Builtin.Builtins.bindParams "min" ["key", "default"] 0 ⟨[], [(Str.ofString "key", .ref q), (Str.ofString "default", ud)]⟩ = pure [some (.ref q), some ud] from rfl) ?_)
  refine wpAny_bind (wpAny_pure ?_)
  refine wpAny_bind (wpAny_pyIter_list p.isList ?_)
  refine wpAny_bind (wpAny_newList ?_ (Nat.zero_le _))
  rw [hname]
  have hS : (s.heap.push { cls := .type "list_iterator", data := .fields #[.ref l, .int 0 0] }).objs.size = s.heap.objs.size + 1 := size_push' ..
  refine wpAny_pure ⟨plainId_quiet PySem.F.plain_min_loop _, ?_⟩
  have gI : ((s.heap.push { cls := .type "list_iterator", data := .fields #[.ref l, .int 0 0] }).push (seqObj "list" #[] 0)).get? s.heap.objs.size = some { cls := .type "list_iterator", data := .fields #[.ref l, .int 0 0] } :=
    Heap.get?_push_of_some _ (Heap.get?_push_size _ rfl)
  have gS : ((s.heap.push { cls := .type "list_iterator", data := .fields #[.ref l, .int 0 0] }).push (seqObj "list" #[] 0)).get? (s.heap.objs.size + 1) = some (seqObj "list" #[] 0) := by
    rw [← hS]; exact Heap.get?_push_size _ rfl
  have I1 : Inv X pins σ H { s with heap := (s.heap.push { cls := .type "list_iterator", data := .fields #[.ref l, .int 0 0] }).push (seqObj "list" #[] 0) } := Iv.kept (t' := s.toks) fun b o e => Heap.get?_push_of_some _ (Heap.get?_push_of_some _ e)
  have fI : FpOk X pins H s.heap.objs.size := Iv.fpOk (Nat.le_refl _) (Iv.hok.fresh (Nat.le_refl _))
  have fS : FpOk X pins H (s.heap.objs.size + 1) := Iv.fpOk (Nat.le_succ _) (Iv.hok.fresh (Nat.le_succ _))
  rw [hS]
  have hSI : s.heap.objs.size + 1 ≠ s.heap.objs.size := Nat.succ_ne_self _
  have hlI : l ≠ s.heap.objs.size := Nat.ne_of_lt hll
  have hlS : l ≠ s.heap.objs.size + 1 := Nat.ne_of_lt (Nat.lt_succ_of_lt hll)
  have hit : ((s.heap.push { cls := .type "list_iterator", data := .fields #[.ref l, .int 0 0] }).push (seqObj "list" #[] 0)).IsListIter s.heap.objs.size l 0 := ⟨_, gI, rfl, rfl⟩
  generalize (s.heap.push { cls := .type "list_iterator", data := .fields #[.ref l, .int 0 0] }).push (seqObj "list" #[] 0) = h0 at gI gS I1 hit ⊢
  generalize s.heap.objs.size = I at *
  clear p rv hq0 its xs0 hz
  obtain ⟨i0, i1, i2, i3, i4, i5⟩ := id fI
  obtain ⟨t0, t1, t2, t3, t4, t5⟩ := id fS
  refine codeAny_builtin PySem.F.entry_min_loop ?_
  rw [Around.under_plainId PySem.F.plain_min_loop _]
  show wpAny _ X.A.in1 (seqItems? (.ref (I + 1)) >>= _) _ _ _
  refine wpAny_bind (wpAny_seqItems gS rfl ?_)
  show wpAny _ X.A.in1 (tryCatch (pyNext (.ref I)) _ >>= _) _ _ _
  rcases h with ⟨hq, hQ⟩ | ⟨xs, x, hq, hx, turn⟩
  · obtain ⟨its, rv, p, hz⟩ := I1.list hq
    have hl := rv.length
    refine wpAny_bind (wpAny_tryCatch (wpAny_pyNext_list_end (Iv.ok.hd hc) hit p.isList (by simp at hl; simp [hl]) fun h' eb => ?_))
    have I2 : Inv X pins σ H { s with heap := h' } := I1.turned (t' := s.toks) (fun b o hb e => eb b o hb e) i0 i1 i3 i4 i5
    refine wpAny_bind (wpAny_rule (wpAny_pure ?_))
    exact ⟨dv, H, I2, rd, hQ⟩
  · obtain ⟨its, rv, p, hz⟩ := I1.list hq
    obtain ⟨u, hu, ru⟩ := rv.get hx
    refine wpAny_bind (wpAny_tryCatch (wpAny_pyNext_list_item hit p.isList (x := u) (by simpa using hu) fun h' hit' sb => ?_))
    have I2 : Inv X pins σ H { s with heap := h' } := I1.turned (t' := s.toks) (fun b o hb e => (sb.2 b hb).trans e) i0 i1 i3 i4 i5
    have hS' : h'.get? (I + 1) = some (seqObj "list" #[] 0) := (sb.2 _ hSI).trans gS
    obtain ⟨oI, hoI, hcI, hdI⟩ := id hit'
    have hpS : (I + 1, seqObj "list" #[] 0) ∈ pinsAt [I + 1, I] h' := mem_pinsAt (by simp) hS'
    have hpI : (I, oI) ∈ pinsAt [I + 1, I] h' := mem_pinsAt (by simp) hoI
    have IP : Inv X (pins ++ pinsAt [I + 1, I] h') σ H { s with heap := h' } := I2.pinned (fp := [I + 1, I]) (fun b hb => by
      have e : b = I + 1 ∨ b = I := by simpa using hb
      rcases e with rfl | rfl
      · exact fS
      · exact fI) (fun b hb => by
      have e : b = I + 1 ∨ b = I := by simpa using hb
      rcases e with rfl | rfl
      · exact ⟨_, hS', fun v z => nomatch z⟩
      · exact ⟨oI, hoI, fun v z => by rw [hdI] at z; cases z⟩)
    show wpAny _ X.A.in1 (tryCatch (holding [u] (call (.ref q) [u])) _ >>= _) _ _ _
    refine wpAny_bind (wpAny_tryCatch (wpAny_holding (wpAny_mono (turn _ σ _ u IP ru) (fun w s2 he => ?_) fun _ _ hF => hF.elim)))
    obtain ⟨kx, H', I3, rk, nxt⟩ := he
    obtain ⟨fS', gS'⟩ := fpOk_after (a := I + 1) fS I3 hpS
    obtain ⟨fI', gI'⟩ := fpOk_after (a := I) fI I3 hpI
    have I4 := I3.unpinned
    have hit2 : s2.heap.IsListIter I l 1 := ⟨oI, gI', hcI, hdI⟩
    have sb2 := Heap.SameBut.update s2.heap (I + 1) (Obj.mapSeq fun _ => #[u, w])
    obtain ⟨t0', t1', t2', t3', t4', t5'⟩ := id fS'
    have I5 : Inv X pins σ H' { s2 with heap := s2.heap.update (I + 1) (Obj.mapSeq fun _ => #[u, w]) } := I4.turned (t' := s2.toks) (fun b o hb e => (sb2.2 b hb).trans e) t0' t1' t3' t4' t5'
    show wpAny _ X.A.in1 (updateSeq (I + 1) (fun _ => #[u, w]) >>= _) _ _ _
    refine wpAny_bind ?_
    refine wpAny_updateSeq gS' rfl ?_
    rw [hname]
    exact wpAny_pure ⟨plainId_quiet PySem.F.plain_min_loop _, min_loop hc hlI hlS hSI n 1 pins σ H' _ x kx u w _ nxt I5 fI' fS' (hit2.at fun o e => (sb2.2 I (Ne.symm hSI)).trans e) (get?_update_seq gS' fun _ => #[u, w]) ru rk⟩
end
end Cs

/-! ## CsSim9 -/
namespace Cs
open PySem PySem.Spec PyProof.Rows L2
section
variable {K : PySem.W.Frag} {μ μ' : List Addr} {H H' : Hp} {s s' : Sto} {g : Gb} {c : Cc} {X : Cx} {m ma mb mc : Sem} {e a b d : Expr} {pos : Pos}
theorem lexD_eq : ∀ ns ms : List Int, lexD ns ms = HT.lexLt ns ms
  | [], [] => rfl
  | [], _ :: _ => rfl
  | _ :: _, [] => rfl
  | x :: xs, y :: ys => by
    show (if x = y then lexD xs ys else decide (x < y)) = if x = y then HT.lexLt xs ys else decide (x < y)
    rw [lexD_eq xs ys]
theorem lex_self : ∀ ns : List Int, HT.lexLt ns ns = false
  | [] => rfl
  | x :: xs => by
    show (if x = x then HT.lexLt xs xs else decide (x < x)) = false
    rw [if_pos rfl, lex_self xs]
theorem Vals.two {x y : V} {us : List Value} (r : Vals [x, y] us) : ∃ u v, us = [u, v] ∧ RelV x u ∧ RelV y v := by
  cases r with
  | cons p q =>
    cases q with
    | cons p' q' =>
      cases q'
      exact ⟨_, _, rfl, p, p'⟩
theorem Reps.two {vs : List V} {d e : D} (r : Reps K H μ vs [d, e]) : ∃ x y, vs = [x, y] ∧ Rep K H μ x d ∧ Rep K H μ y e := by
  cases r with
  | cons p q =>
    cases q with
    | cons p' q' =>
      cases q'
      exact ⟨_, _, rfl, p, p'⟩
theorem ints_pyd (s : Sto) (k : Nat) : ∀ {xs : List D} {ns : List Int}, intsD xs = some ns → mapO (pyd s k) xs = some (ns.map PyData.int) := by
  intro xs
  induction xs with
  | nil => intro ns h; cases h; rfl
  | cons x xs ih =>
    intro ns h
    cases x with
    | int i =>
      obtain ⟨cs, h1, rfl⟩ := Option.map_eq_some_iff.mp (show (intsD xs).map (i :: ·) = some ns from h)
      have e : pyd s k (.int i) = some (.int i) := by cases k <;> rfl
      simp only [mapO, e, ih h1, List.map_cons]
    | _ => cases h
theorem eqv_ints' : ∀ (w v : List Int), PyData.eqvAll (w.map .int) (v.map .int) = decide (w = v)
  | [], [] => by simp [PyData.eqvAll]
  | [], y :: v => by simp [PyData.eqvAll]
  | x :: w, [] => by simp [PyData.eqvAll]
  | x :: w, y :: v => by
    have ih := eqv_ints' w v
    simp only [List.map_cons, PyData.eqvAll, PyData.eqv, ih]
    by_cases h : x = y
    · subst h; simp
    · simp [h]
theorem lt_of_repA {A : Around} {x y : V} {dx dy : D} {b : Bool} (hK : X.K = K) (S : Sim K μ H s) (rx : Rep K H μ x dx) (ry : Rep K H μ y dy) (h : keyLt dx dy = some b) (hr : A.units + 64 < cLine) : LtA X A H x y b := by
  subst hK
  unfold keyLt at h
  split at h
  · cases h; cases rx; cases ry
    intro pins σ st u v I ru rv
    obtain ⟨t, rfl⟩ := ru
    obtain ⟨t', rfl⟩ := rv
    exact Ob.RcOp.lt_int _ _ _ _
  · rename_i a xs b' ys
    split at h
    · rename_i ns ms h1 h2
      cases h
      cases rx with
      | tup tx px =>
      cases ry with
      | tup ty py =>
      obtain ⟨x1, x2, rfl, q1, q2⟩ := Reps.two px
      obtain ⟨y1, y2, rfl, w1, w2⟩ := Reps.two py
      have pq : pyd s 12 (.tup xs) = some (.tuple (ns.map .int)) := by show (mapO (pyd s 11) xs).map PyData.tuple = _; rw [ints_pyd s 11 h1]; rfl
      have pw : pyd s 12 (.tup ys) = some (.tuple (ms.map .int)) := by show (mapO (pyd s 11) ys).map PyData.tuple = _; rw [ints_pyd s 11 h2]; rfl
      obtain ⟨l1, b1⟩ := pyd_fit 12 s _ _ pq
      obtain ⟨l2, b2⟩ := pyd_fit 12 s _ _ pw
      have dq : Dp X.K H x2 (.tuple (ns.map .int)) := rep_dp S 12 _ _ _ q2 (by show (mapO (pyd s 11) xs).map PyData.tuple = _; rw [ints_pyd s 11 h1]; rfl)
      have dw : Dp X.K H y2 (.tuple (ms.map .int)) := rep_dp S 12 _ _ _ w2 (by show (mapO (pyd s 11) ys).map PyData.tuple = _; rw [ints_pyd s 11 h2]; rfl)
      cases q1; cases w1
      cases q2 with
      | tup tx2 px2 =>
      cases w2 with
      | tup ty2 py2 =>
      have ex := ints_rep px2 h1
      have ey := ints_rep py2 h2
      subst ex; subst ey
      intro pins σ st u v I ru rv
      cases ru; cases rv
      obtain ⟨its, r1, p1, _⟩ := I.tuple tx
      obtain ⟨its2, r2, p2, _⟩ := I.tuple ty
      obtain ⟨u1, u2, rfl, ra, rb⟩ := Vals.two r1
      obtain ⟨v1, v2, rfl, rc, rd⟩ := Vals.two r2
      obtain ⟨as, rs1⟩ := Dp.reads I _ _ _ dq rb
      obtain ⟨bs, rs2⟩ := Dp.reads I _ _ _ dw rd
      obtain ⟨t, rfl⟩ := ra
      obtain ⟨t', rfl⟩ := rc
      cases rb; cases rd
      obtain ⟨jts, r3, p3, _⟩ := I.tuple tx2
      obtain ⟨jts2, r4, p4, _⟩ := I.tuple ty2
      have hu1 : A.units < cLine := by omega
      have hu2 := hr
      have e3 : IntsAre jts ns := Vals.ints r3
      have e4 : IntsAre jts2 ms := Vals.ints r4
      have R := Ob.RcOp.tuples_lt (A := A) (s := st) (items := #[.int a t, .ref _]) (items2 := #[.int b' t', .ref _]) (e := fun j => if j = 0 then (a == b') else PyData.eqv (.tuple (ns.map .int)) (.tuple (ms.map .int))) (r := fun j => if j = 0 then decide (a < b') else HT.lexLt ns ms) p1 p2 hu1 (fun j q1 q2 => by
        rcases j with _ | _ | j
        · exact SeqAt.EqAt.int_int _ _ _ _
        · exact SeqAt.eqAt_reads _ _ _ _ _ _ _ _ rs1 rs2 l1 l2 (by show A.units + 1 + _ < cLine; omega)
        · exact absurd q1 (by simp)) (fun j q1 q2 _ => by
        rcases j with _ | _ | j
        · exact Ob.RcOp.lt_int _ _ _ _
        · intro prog w E Q hq
          exact HT.lt_tupInts (A := A.in1) p3 p4 e3 e4 (by show A.units + 1 < cLine; omega) hq
        · exact absurd q1 (by simp))
      have ez : Ob.lexAt (fun j => if j = 0 then (a == b') else PyData.eqv (.tuple (ns.map .int)) (.tuple (ms.map .int))) (fun j => if j = 0 then decide (a < b') else HT.lexLt ns ms) (decide (2 < 2)) 0 (min 2 2) = (if a = b' then lexD ns ms else decide (a < b')) := by
        show (if (a == b') = true then (if PyData.eqv (.tuple (ns.map .int)) (.tuple (ms.map .int)) = true then decide (2 < 2) else HT.lexLt ns ms) else decide (a < b')) = _
        rw [show PyData.eqv (.tuple (ns.map PyData.int)) (.tuple (ms.map PyData.int)) = PyData.eqvAll (ns.map .int) (ms.map .int) by simp [PyData.eqv], eqv_ints', lexD_eq]
        by_cases q : a = b'
        · subst q
          rw [if_pos (by simp), if_pos rfl]
          by_cases z : ns = ms
          · subst z
            rw [if_pos (by simp), lex_self]; rfl
          · rw [if_neg (by simpa using z)]
        · rw [if_neg (by simpa using q), if_neg q]
      rw [← ez]
      exact R
    · cases h
  · cases h
theorem lt_of_rep {k : Nat} {x y : V} {dx dy : D} {b : Bool} (hK : X.K = K) (S : Sim K μ H s) (rx : Rep K H μ x dx) (ry : Rep K H μ y dy) (h : keyLt dx dy = some b) (hr : Room k X.A.in1) : LtAt X H x y b := lt_of_repA hK S rx ry h hr.units
/-! ### key < key -/
theorem op_ltK (hK : X.K = K) (hu : X.A.units + 64 < cLine) : OpR X (compareOp .Lt) (R2D K ltK) := by
  intro pins st σ H x y v u Q I rx ry h
  obtain ⟨μ, s, dx, dy, d, s', S, qx, qy, h, q⟩ := h
  unfold ltK at h
  split at h
  · rename_i b hb
    cases h
    exact (lt_of_repA hK S qx qy hb hu) pins σ st v u I rx ry X.prog X.w X.xe (EP X pins σ Q) ⟨.bl b, H, I, rfl, q _ H μ .refl S (.bl _)⟩
  · cases h
theorem ltK_bl : ∀ x y s d s', ltK x y s = .ok d s' → ∃ b, d = .bl b := by
  intro x y s d s' h
  unfold ltK at h
  split at h
  · cases h; exact ⟨_, rfl⟩
  · cases h
/-! ### from the plain meaning to the machine's turns -/
theorem minStep_of {lv : Nat} {fa : Addr} {fd : FuncData} {ps : List Str} {f : Fn} {i : Nat} {l : Addr} {Q : VK} {d : D} (hK : X.K = K) (F : FnOk X.prog X.w X.K X.mg X.base CX0 lv fa fd ps (spD K ps.length f)) (hps : ps.length = 1) (hr : Room lv X.A.in1) (hb : Binds X.K fd ps []) :
    ∀ (n j : Nat) (μ : List Addr) (H : Hp) (s s' : Sto) (b kb : V) (db dkb : D), Sim K μ H s → Rep K H μ b db → Rep K H μ kb dkb → μ[i]? = some l → minGo f i n j db dkb s = .ok d s' →
      (∀ v H' μ', Ext μ H μ' H' → Sim K μ' H' s' → Rep K H' μ' v d → Q v H') → MinStep X l fa Q n j H b kb := by
  subst hK
  intro n
  induction n with
  | zero => intro j μ H s s' b kb db dkb S rb rk hi h; cases h
  | succ n ih =>
    intro j μ H s s' b kb db dkb S rb rk hi h hQ
    unfold minGo at h
    split at h
    · rename_i xs ex
      obtain ⟨hm, vx, hx, px⟩ := Rep.lst_at S (.ref hi) ex
      split at h
      · rename_i x hxj
        obtain ⟨v, hv, rv⟩ := px.get hxj
        obtain ⟨dk, s1, h1, h⟩ := bind_ok h
        refine .inr ⟨vx, v, .of hx, hv, fun pins σ st u Iv ru => ?_⟩
        refine wpAny_mono (run_fn1 (Q := fun kx H' => ∃ bb : Bool, LtAt X H' kx kb bb ∧ (if bb = true then MinStep X l fa Q n (j + 1) H' v kx else MinStep X l fa Q n (j + 1) H' b kb)) F hr hb Iv (.cons ru .nil) ⟨by rw [hps]; rfl, μ, s, [x], dk, s1, S, .cons rv .nil, h1, fun kx H1 μ1 x1 S1 rkx => ?_⟩) (fun w s2 he => ?_) fun _ _ hF => hF
        · have hi1 := x1.pre i l hi
          split at h
          · rename_i hlt
            exact ⟨true, lt_of_rep rfl S1 rkx (rk.mono S x1) hlt hr, by rw [if_pos rfl]; exact ih (j + 1) μ1 H1 s1 s' v kx x dk S1 (rv.mono S x1) rkx hi1 h fun v H' μ' x2 => hQ v H' μ' (x1.trans x2)⟩
          · rename_i hlt
            exact ⟨false, lt_of_rep rfl S1 rkx (rk.mono S x1) hlt hr, by rw [if_neg (by decide)]; exact ih (j + 1) μ1 H1 s1 s' b kb db dkb S1 (rb.mono S x1) (rk.mono S x1) hi1 h fun v H' μ' x2 => hQ v H' μ' (x1.trans x2)⟩
          · cases h
        · obtain ⟨kx, H1, I1, rkx, bb, lt, nx⟩ := he
          exact ⟨kx, H1, bb, I1, rkx, lt, nx⟩
      · rename_i hxj
        cases h
        exact .inl ⟨vx, .of hx, List.getElem?_eq_none_iff.mp (px.none_of hxj), hQ b H μ .refl S rb⟩
    · cases h
theorem je_min {lv : Nat} {x : Str} {ps : List Str} {f : Fn} {me md : Sem} {e d : Expr} {p p2 kp kp2 : Pos} (F : FnS g lv x ps f) (hl : lv + 1 ≤ c.lv) (hps : ps.length = 1) (hx : c.sc.names.lookup x = some .globalImplicit) (hs : c.sc.names.lookup ("min" : Str) = some .globalImplicit) (hm : g.mg ("min" : Str) = none)
    (he : JE g c me e) (hd : JE g c md d) (hst : noStar e = true := by rfl) (hdb : (x == ("__debug__" : Str)) = false := by decide)
    (hks : ∀ X : Cx, (backToKw pos (keywordEach [⟨some "key", .Name x p2, kp⟩, ⟨some "default", d, kp2⟩] X.env)).filterMap (·.1) = [Str.ofString "key", Str.ofString "default"] := by intro _; rfl)
    (hall : ∀ X : Cx, (backToKw pos (keywordEach [⟨some "key", .Name x p2, kp⟩, ⟨some "default", d, kp2⟩] X.env)).all (·.1.isSome) = true := by intro _; rfl)
    (hnone : ∀ X : Cx, (backToKw pos (keywordEach [⟨some "key", .Name x p2, kp⟩, ⟨some "default", d, kp2⟩] X.env)).any (·.1.isNone) = false := by intro _; rfl) :
    JE g c (xMinK f me md) (.Call (.Name "min" p) [e] [⟨some "key", .Name x p2, kp⟩, ⟨some "default", d, kp2⟩] pos) := by
  obtain ⟨fa, fd, hmf, hk, hb, hF⟩ := F.ex
  refine je_mk (fun X ok => ?_) (by intro _ _; rfl)
  have hF' : FnOk X.prog X.w X.K X.mg X.base CX0 lv fa fd ps (spD g.K ps.length f) := by
    rw [ok.prog, ok.w, ok.K, ok.mg, ok.base]; exact hF
  have hr : Room lv X.A.in1 := (ok.room.mono hl).in1
  have cr : CallRK X (.builtin "min") [Str.ofString "key", Str.ofString "default"] (fun vs zs H Q => ∃ l dv n, vs = [.ref l] ∧ zs = [.ref fa, dv] ∧ MinStart X l fa Q n H dv) := by
    intro pins s σ H xs zs us ws Q I rx rz h
    obtain ⟨l, dv, n, rfl, rfl, h⟩ := h
    obtain ⟨u, w, rfl, rf, rd⟩ := Vals.two rz
    cases rx with
    | cons r rr =>
    cases rr
    cases r
    cases rf
    exact min_run ok.calm h I rd
  have ha : JA g c (aCons me aNil) [e] := ja_cons he ja_nil hst
  refine PE.imp (pe_callBK cr (by show X.env.scope.names.lookup _ = _; rw [ok.sc]; exact hs) (by rw [ok.mg]; exact hm) (by decide +kernel) (ha X ok)
    (pk_cons (pe_glob (v := V.ref fa) (by show X.env.scope.names.lookup x = _; rw [ok.sc]; exact hx) (by rw [ok.mg]; exact hmf) rfl hdb) (pk_cons (hd X ok).1 pk_nil)) (by decide) (by decide) (by rw [star_cons hst]; rfl) (by rw [star_cons hst]; rfl) (hall X) (hnone X) (hks X)) fun σ H Q h => ?_
  obtain ⟨μ, s, env, dd, s', S, E, hv0, q⟩ := h
  obtain ⟨dx, s1, h1, hv1⟩ := bind_ok hv0
  obtain ⟨dy, s2, h2, hv2⟩ := bind_ok hv1
  have hbX : Binds X.K fd ps [] := by rw [ok.K]; exact hb
  refine ⟨μ, s, env, [dx], s1, S, E, by show (me.v env s).bind _ = _; rw [h1]; rfl, fun vs H1 μ1 x1 S1 r1 => ?_⟩
  refine ⟨μ1, s1, env, dy, s2, S1, E.mono S x1, h2, fun vy H2 μ2 x2 S2 r2 => ?_⟩
  clear hv0 hv1
  cases r1 with
  | cons r rr =>
  cases rr
  cases dx with
  | ref i =>
    have hv2 : (match s2.get i with
      | some (.lst []) => R.ok dy s2
      | some (.lst (x :: _)) => (f [x] s2).bind fun kx s => minGo f i 1000000 1 x kx s
      | _ => R.no) = .ok dd s' := hv2
    cases r with
    | @ref _ l hi =>
    have hi2 := x2.pre i l hi
    cases ho : s2.get i with
    | none => rw [ho] at hv2; cases hv2
    | some o =>
      rw [ho] at hv2
      cases o with
      | dct _ => cases hv2
      | lst xs =>
        obtain ⟨hm', vx, hx', px⟩ := Rep.lst_at S2 (.ref hi2) ho
        cases xs with
        | nil =>
          cases hv2
          cases px
          exact ⟨l, vy, 0, rfl, rfl, .inl ⟨.of hx', q vy H2 μ2 (x1.trans x2) S2 r2⟩⟩
        | cons x0 xs0 =>
          cases px with
          | @cons v vs' _ _ rv rest =>
          obtain ⟨dk, s3, h3, hv3⟩ := bind_ok hv2
          refine ⟨l, vy, 1000000, rfl, rfl, .inr ⟨_, v, .of hx', rfl, fun pins σ st u Iv ru => ?_⟩⟩
          refine wpAny_mono (run_fn1 (Q := fun kx H' => MinStep X l fa Q 1000000 1 H' v kx) hF' hr hbX Iv (.cons ru .nil) ⟨by rw [hps]; rfl, μ2, s2, [x0], dk, s3, S2, .cons rv .nil, h3, fun kx H3 μ3 x3 S3 rkx => ?_⟩) (fun w st2 he => he) fun _ _ hF => hF
          exact minStep_of ok.K hF' hps hr hbX 1000000 1 μ3 H3 s3 s' v kx x0 dk S3 (rv.mono S2 x3) rkx (x3.pre i l hi2) hv3 fun v H' μ' x4 => q v H' μ' (((x1.trans x2).trans x3).trans x4)
  | _ => cases hv2
/-! ### {} -/
theorem rep_dct {p : Addr} (S : Sim K μ H s) (hp : H p = none) :
    Ext μ H (μ ++ [p]) (upd H p (.dK [])) ∧ Sim K (μ ++ [p]) (upd H p (.dK [])) (s.add (.dct [])) ∧ Rep K (upd H p (.dK [])) (μ ++ [p]) (.ref p) (.ref s.n) := by
  have sm : Same H (upd H p (.dK [])) := fun b x e => by
    rw [upd_ne (ne_of_none e hp)]; exact e
  have np : p ∉ μ := S.nomem fun ys z => by rw [hp] at z; cases z
  have pre : ∀ (i : Nat) (a : Addr), μ[i]? = some a → (μ ++ [p])[i]? = some a := fun i a h => by
    rw [List.getElem?_append_left]
    · exact h
    · exact (List.getElem?_eq_some_iff.mp h).1
  have ex : Ext μ H (μ ++ [p]) (upd H p (.dK [])) := ⟨pre, fun a o h _ => sm a o h, fun a h n => by
    rcases List.mem_append.mp h with h | h
    · exact absurd h n
    · rw [List.mem_singleton.mp h]; exact hp⟩
  refine ⟨ex, ⟨?_, ?_, fun i a h => ?_, fun i hi => ?_⟩, .ref ?_⟩
  · rw [List.length_append, S.nx]; rfl
  · rw [List.nodup_append]
    exact ⟨S.nd, by simp, fun a ha b hb e => np (by rw [List.mem_singleton.mp hb] at e; rw [← e]; exact ha)⟩
  · rw [Sto.get_add]
    by_cases hi : i = s.n
    · rw [if_pos hi]
      rw [hi, ← S.nx, List.getElem?_append_right (Nat.le_refl _), Nat.sub_self] at h
      have e : p = a := by simpa using h
      subst e
      exact ⟨_, rfl, rfl, upd_same⟩
    · rw [if_neg hi]
      have hl : i < μ.length := by
        have := (List.getElem?_eq_some_iff.mp h).1
        rw [List.length_append, S.nx] at this
        have e1 : ([p] : List Addr).length = 1 := rfl
        rw [S.nx]; omega
      rw [List.getElem?_append_left hl] at h
      obtain ⟨o, e, q⟩ := S.ob i a h
      refine ⟨o, e, ?_⟩
      cases o with
      | lst ds => obtain ⟨ys, e1, r1⟩ := q; exact ⟨ys, sm _ _ e1, r1.mono S ex⟩
      | dct kvs => exact ⟨q.1, sm _ _ q.2⟩
  · rw [Sto.get_add, if_neg (by rw [Sto.n_add] at hi; omega)]
    exact S.up i (by rw [Sto.n_add] at hi; omega)
  · rw [← S.nx, List.getElem?_append_right (Nat.le_refl _), Nat.sub_self]; rfl
theorem je_dict0 : JE g c xDict0 (.Dict [] [] pos) := je_mk (fun X ok => PE.imp pe_dnewK fun σ H Q h => by
  obtain ⟨μ, s, env, d, s', S, E, hv, q⟩ := h
  cases hv
  intro p hp
  obtain ⟨x1, S1, r1⟩ := rep_dct S hp
  exact q _ _ _ x1 S1 r1) (by intro _ _; rfl)
end
end Cs

/-! ## CsSort -/
/-! sorted(list, key=a def). -/
namespace Cs
open PySem PySem.Spec PyProof.Rows L2 PySem.W
section
variable {X : Cx}
/-- a def run from inside a built-in that a built-in called -/
theorem run_fn2 {k : Nat} {f : Addr} {fd : FuncData} {ps : List Str} {sp : Sp} {pins : List (Addr × Obj)} {σ : L2.St} {H : Hp} {s : Shared} {Q : VK} {us : List Value} {vs : List V} (F : FnOk X.prog X.w X.K X.mg X.base CX0 k f fd ps sp) (hr : Room k X.A.in1.in1) (hb : Binds X.K fd ps [])
    (I : Inv X pins σ H s) (r : Vals vs us) (h : sp vs H Q E0) : wpAny (model X.prog X.w) X.A.in1.in1 (call (.ref f) us) (EP X pins σ Q) (fun _ _ => False) s := by
  have hl : us.length = ps.length := by rw [← r.length]; exact F.len _ _ _ _ h
  have hl' : (us ++ []).length = ps.length := by rw [List.append_nil]; exact hl
  have hbb := hb s us I.kIn hl'
  rw [List.append_nil] at hbb
  refine wpAny_call (codeAny_mono (F.run X.A.in1.in1 X.stack s H ⟨us, []⟩ us vs Q E0 hr I.env0.in1.in1 hbb r h) fun r s' hq => ?_)
  cases r with
  | error e => exact hq
  | ok fl =>
    cases fl with
    | ret u => exact I.after hq
    | next => exact False.elim hq
    | brk => exact False.elim hq
    | cont => exact False.elim hq
/-- two records of ours have changed, one of them is tracked from now on -/
theorem Inv.track {pins : List (Addr × Obj)} {σ : L2.St} {H : Hp} {s : Shared} {h' : Heap} {a b : Addr} {o : HO} {t' : Nat} (I : Inv X pins σ H s) (fa : FpOk X pins H a) (fb : FpOk X pins H b)
    (k : ∀ c u, c ≠ a → c ≠ b → s.heap.get? c = some u → h'.get? c = some u) (new : ObjOk X.prog X.w (upd H a o) h' a o) : Inv X pins σ (upd H a o) { s with heap := h', toks := t' } := by
  obtain ⟨a0, a1, a2, a3, a4, a5⟩ := fa
  obtain ⟨b0, b1, b2, b3, b4, b5⟩ := fb
  have nc : ∀ c : Addr, c ∉ [a, b] → c ≠ a ∧ c ≠ b := fun c h => ⟨fun e => h (by simp [e]), fun e => h (by simp [e])⟩
  refine I.step (g' := s.gens) (d' := s.drawn) (ch := [a, b]) (fun c hc => ?_) (fun c u _ _ hc e _ => k c u (nc c hc).1 (nc c hc).2 e) (fun c u _ _ hc e _ => ⟨u.slots, k c u (nc c hc).1 (nc c hc).2 e⟩) (fun c u hc _ n => by rw [upd_ne (nc c hc).1]; exact n)
    (fun c u hc e => ⟨u, k c u (nc c hc).1 (nc c hc).2 e⟩) (fun c xs q => by rw [upd_ne (ne_of_none q a0)]; exact q) (fun c u xs q => by rw [upd_ne (ne_of_none q a0)]; exact q) (fun c ps e => ⟨#[], by rw [upd_ne (ne_of_none e a0), e]; simp⟩) (fun m hm => ?_) (fun c u e => ?_) I.bare
  · have e : c = a ∨ c = b := by simpa using hc
    rcases e with rfl | rfl
    · exact ⟨a3, a1, a4, a5⟩
    · exact ⟨b3, b1, b4, b5⟩
  · obtain ⟨u, es, ep, hu, r⟩ := hm
    exact ⟨u, es, ep, k _ u (Ne.symm a1) (Ne.symm b1) hu, r⟩
  · by_cases hc : c = a
    · subst hc
      rw [upd_same] at e
      cases e
      exact new
    · rw [upd_ne hc] at e
      have nb : ∀ d w, H d = some w → d ≠ a ∧ d ≠ b := fun d w z => ⟨ne_of_none z a0, ne_of_none z b0⟩
      refine (I.hok c u e).stay (fun d v hd q => ?_) (fun d q => by rw [upd_ne (ne_of_none q a0)]; exact q) fun d xs q => by rw [upd_ne (ne_of_none q a0)]; exact q
      rcases hd with z | z
      · rw [z] at q ⊢; exact k c v (nb c u e).1 (nb c u e).2 q
      · exact k d v (nb d _ z).1 (nb d _ z).2 q
end
section
variable {X : Cx} {K : PySem.W.Frag} {μ : List Addr} {H : Hp}
theorem kpd_pyd (s : Sto) {d : D} {p : PyData} (h : kpd d = some p) : pyd s 12 d = some p ∧ p.depth ≤ 2 := by
  unfold kpd at h
  split at h
  · cases h; exact ⟨rfl, Nat.zero_le _⟩
  · rename_i a xs
    obtain ⟨ns, h1, rfl⟩ := Option.map_eq_some_iff.mp h
    refine ⟨?_, ?_⟩
    · show (mapO (pyd s 11) [.int a, .tup xs]).map PyData.tuple = _
      have e1 : pyd s 11 (.tup xs) = some (.tuple (ns.map .int)) := by show (mapO (pyd s 10) xs).map PyData.tuple = _; rw [ints_pyd s 10 h1]; rfl
      have e2 : pyd s 11 (.int a) = some (.int a) := rfl
      simp only [mapO, e1, e2]
      rfl
    · have e : ∀ l : List Int, PyData.depthAll (l.map .int) = 0 := by
        intro l
        induction l with
        | nil => rfl
        | cons x l ih => show max 0 (PyData.depthAll (l.map .int)) = 0; rw [ih]; rfl
      show max 0 (max (PyData.depthAll (ns.map .int) + 1) 0) + 1 ≤ 2
      rw [e]
      decide
  · cases h
theorem okKeys_all {ds : List PyData} (h : okKeys ds = true) : AllAlike ds ∧ Sortable ds := by
  unfold okKeys at h
  rw [Bool.and_eq_true, Bool.or_eq_true] at h
  obtain ⟨h1, h2⟩ := h
  refine ⟨fun d hd e he => List.all_eq_true.mp (List.all_eq_true.mp h1 d hd) e he, ?_⟩
  rcases h2 with h2 | h2
  · left
    intro d hd
    have q := List.all_eq_true.mp h2 d hd
    unfold isTupD at q
    split at q
    · rename_i x r; exact ⟨x, r, rfl⟩
    · cases q
  · right
    intro d hd
    have q := List.all_eq_true.mp h2 d hd
    unfold isAtm at q
    split at q
    · exact ⟨(fun z => nomatch z), (fun xs z => nomatch z)⟩
    · cases q
theorem keysGo_len {f : Fn} : ∀ {xs : List D} {s s' : Sto} {ds : List PyData}, keysGo f xs s = .ok ds s' → ds.length = xs.length
  | [], s, s', ds, h => by cases h; rfl
  | x :: xs, s, s', ds, h => by
    obtain ⟨k, s1, h1, h⟩ := bind_ok h
    split at h
    · obtain ⟨es, s2, h2, h⟩ := bind_ok h
      cases h
      rw [List.length_cons, List.length_cons, keysGo_len h2]
    · cases h
/-- the key dk at H, told as p -/
def KeyR (K : PySem.W.Frag) (H : Hp) (μ : List Addr) (v : Value) (p : PyData) : Prop := ∃ (kx : V) (dk : D), RelV kx v ∧ Rep K H μ kx dk ∧ kpd dk = some p
theorem KeyR.mono {s : Sto} {μ' : List Addr} {H' : Hp} (S : Sim K μ H s) (x : Ext μ H μ' H') {v : Value} {p : PyData} (h : KeyR K H μ v p) : KeyR K H' μ' v p :=
  let ⟨kx, dk, r, q, e⟩ := h; ⟨kx, dk, r, q.mono S x, e⟩
theorem each_map' {α β : Type} {R R' : α → β → Prop} (f : ∀ a b, R a b → R' a b) : ∀ {as : List α} {bs : List β}, EachIs R as bs → EachIs R' as bs
  | _, _, .nil => .nil
  | _, _, .cons h t => .cons (f _ _ h) (each_map' f t)
theorem each_one {α β : Type} {R : α → β → Prop} {x : α} {y : β} (hxy : R x y) : ∀ {as : List α} {bs : List β}, EachIs R as bs → EachIs R (as ++ [x]) (bs ++ [y])
  | _, _, .nil => .cons hxy .nil
  | _, _, .cons h t => .cons h (each_one hxy t)
theorem each_right {α β : Type} {R : α → β → Prop} : ∀ {as : List α} {bs : List β}, EachIs R as bs → ∀ b ∈ bs, ∃ a, R a b
  | _, _, .nil, b, hb => by simp at hb
  | _, _, .cons h t, b, hb => by
    rcases List.mem_cons.mp hb with rfl | hb
    · exact ⟨_, h⟩
    · exact each_right t b hb
/-- an item: what it is, with its key -/
def ItR (K : PySem.W.Frag) (H : Hp) (μ : List Addr) (v : Value) (p : D × PyData) : Prop := ∃ x : V, RelV x v ∧ Rep K H μ x p.1
theorem items_each : ∀ {vx : List V} {vs : List Value} {xs : List D} {ds : List PyData}, Vals vx vs → Reps K H μ vx xs → ds.length = xs.length → EachIs (ItR K H μ) vs (xs.zip ds)
  | _, _, _, ds, .nil, .nil, _ => by rw [List.zip_nil_left]; exact .nil
  | _, _, _, [], .cons r rs, .cons p ps, h => by simp at h
  | _, _, _, d :: ds, .cons r rs, .cons p ps, h => by
    rw [List.zip_cons_cons]
    exact .cons ⟨_, r, p⟩ (items_each rs ps (by simpa using h))
theorem each_items : ∀ {vs : List Value} {bs : List (D × PyData)}, EachIs (ItR K H μ) vs bs → ∃ vx : List V, Vals vx vs ∧ Reps K H μ vx (bs.map (·.1))
  | _, _, .nil => ⟨[], .nil, .nil⟩
  | _, _, .cons h t => by
    obtain ⟨x, r, p⟩ := h
    obtain ⟨vx, rs, ps⟩ := each_items t
    exact ⟨x :: vx, .cons r rs, .cons p ps⟩
theorem zip_snd : ∀ {xs : List D} {ds : List PyData}, ds.length = xs.length → (xs.zip ds).map (fun p => p.2) = ds
  | [], [], _ => rfl
  | x :: xs, d :: ds, h => by
    rw [List.zip_cons_cons, List.map_cons, zip_snd (by simpa using h)]
theorem sort_run {l fa : Addr} {lv : Nat} {fd : FuncData} {ps : List Str} {f : Fn} (hK : X.K = K) (F : FnOk X.prog X.w X.K X.mg X.base CX0 lv fa fd ps (spD K ps.length f)) (hps : ps.length = 1) (hr : Room lv X.A.in1.in1) (hb : Binds X.K fd ps [])
    {pins : List (Addr × Obj)} {σ : L2.St} {s : Shared} (Iv : Inv X pins σ H s) {vx : List V} (hl : SqL X.K H l vx) {st st' : Sto} (S : Sim K μ H st) {xs : List D} (px : Reps K H μ vx xs) {kz : List PyData} (hk : keysGo f xs st = .ok kz st') (hok : okKeys kz = true) {Q : VK}
    (q : ∀ ys p H' μ', Ext μ H μ' H' → Sim K μ' H' st' → Reps K H' μ' ys (sortBy kz xs) → H' p = none → Q (.ref p) (upd H' p (.lst ys))) :
    wpAny (model X.prog X.w) X.A (call (.builtin "sorted") [.ref l] [(Str.ofString "key", .ref fa)]) (EP X pins σ Q) X.xe s := by
  subst hK
  obtain ⟨vs, rv, p, hz⟩ := Iv.list hl
  have hlen : vs.length = vx.length := rv.length.symm
  have hxl : vx.length = xs.length := px.length
  have hkl := keysGo_len hk
  have hL : vs.length ≤ sizeLine := by omega
  refine sorted_of_sort p.isList hL (ksk_s1 _ _) (fun _ => ksk_l1 _ _) fun E' => ?_
  rw [ksk_t1]
  have fA : FpOk X pins H (s.heap.objs.size + 1) := Iv.fpOk (Nat.le_succ _) (Iv.hok.fresh (Nat.le_succ _))
  have I1 : Inv X pins σ H { s with heap := sortingHeap (copyHeap s.heap vs) (s.heap.objs.size + 1) vs } := Iv.kept (t' := s.toks) fun b o e => sorting_copy_old e
  have hoA := copyHeap_at s.heap vs
  obtain ⟨e1, ho1⟩ : ∃ e1, ((copyHeap s.heap vs).update (s.heap.objs.size + 1) (Obj.mapSeq fun _ => (#[] : Array Value))).get? (s.heap.objs.size + 1) = some (seqObj "list" #[] e1) := ⟨_, get?_update_seq hoA fun _ => #[]⟩
  have hcs1 : s.heap.objs.size + 1 < (copyHeap s.heap vs).objs.size := Heap.lt_size hoA
  have hcs : s.heap.objs.size ≤ (copyHeap s.heap vs).objs.size := Nat.le_of_lt (Nat.lt_of_succ_lt hcs1)
  generalize hAdef : s.heap.objs.size + 1 = A at *
  generalize copyHeap s.heap vs = h0 at *
  unfold ksk_tree
  refine wpAny_bind (listItems_at hoA rfl ?_)
  refine wpAny_bind (listUpdate_at hoA rfl ?_ (by rw [List.size_toArray]; exact hL) (Nat.zero_le _))
  refine wpAny_bind (seqEpoch_at ho1 rfl ?_)
  refine wpAny_bind (wpAny_newTuple ?_ (by show vs.length ≤ _; exact hL))
  refine wpAny_bind (wpAny_newList ?_ (Nat.zero_le _))
  refine wpAny_holding ?_
  have hkS : ((h0.update A (Obj.mapSeq fun _ => (#[] : Array Value))).push (seqObj "tuple" vs.toArray 0)).objs.size = h0.objs.size + 1 := by rw [size_push', Heap.size_update]
  have hoA3 : (((h0.update A (Obj.mapSeq fun _ => (#[] : Array Value))).push (seqObj "tuple" vs.toArray 0)).push (seqObj "list" #[] 0)).get? A = some (seqObj "list" #[] e1) := Heap.get?_push_of_some _ (Heap.get?_push_of_some _ ho1)
  have hoS3 : (((h0.update A (Obj.mapSeq fun _ => (#[] : Array Value))).push (seqObj "tuple" vs.toArray 0)).push (seqObj "list" #[] 0)).get? (h0.objs.size + 1) = some (seqObj "list" #[] 0) := by rw [← hkS]; exact Heap.get?_push_size _ rfl
  show wpAny _ X.A.in1.in1 (ksk_rest A (.ref fa) false vs.toArray e1 (.ref ((h0.update A (Obj.mapSeq fun _ => (#[] : Array Value))).push (seqObj "tuple" vs.toArray 0)).objs.size)) _ E' { s with heap := ((h0.update A (Obj.mapSeq fun _ => (#[] : Array Value))).push (seqObj "tuple" vs.toArray 0)).push (seqObj "list" #[] 0) }
  rw [hkS]
  have fS : FpOk X pins H (h0.objs.size + 1) := Iv.fpOk (by omega) (Iv.hok.fresh (by omega))
  have I3 : Inv X pins σ H { s with heap := ((h0.update A (Obj.mapSeq fun _ => (#[] : Array Value))).push (seqObj "tuple" vs.toArray 0)).push (seqObj "list" #[] 0) } := I1
  have hSA : h0.objs.size + 1 ≠ A := by omega
  generalize ((h0.update A (Obj.mapSeq fun _ => (#[] : Array Value))).push (seqObj "tuple" vs.toArray 0)).push (seqObj "list" #[] 0) = h3 at *
  generalize h0.objs.size + 1 = B at *
  clear hoA ho1 hkS hcs hcs1 hAdef I1 p
  unfold ksk_rest
  refine wpAny_bind (wpAny_rule ?_)
  rw [List.forIn_toArray]
  refine wpAny_bind (ksk_fold (fun i s' => ∃ (H' : Hp) (μ' : List Addr) (sj : Sto) (kA : Array Value) (e : Nat) (don rest : List PyData), Inv X pins σ H' s' ∧ FpOk X pins H' A ∧ FpOk X pins H' B ∧ s'.heap.get? B = some (seqObj "list" kA e) ∧ s'.heap.get? A = some (seqObj "list" #[] e1) ∧
      Ext μ H μ' H' ∧ Sim X.K μ' H' sj ∧ EachIs (KeyR X.K H' μ') kA.toList don ∧ don.length = i ∧ kz = don ++ rest ∧ keysGo f (xs.drop i) sj = .ok rest st') vs 0 _
    ⟨H, μ, st, #[], 0, [], kz, I3, fA, fS, hoS3, hoA3, .refl, S, .nil, rfl, rfl, hk⟩ ?step ?done)
  case step =>
    rintro j u s' hu ⟨H', μ', sj, kA, e, don, rest, I, fa', fb', nB, nA, ex, Sj, hkA, hdl, hkz, hgo⟩
    simp only [Nat.zero_add] at *
    have hj : j < vs.length := (List.getElem?_eq_some_iff.mp hu).1
    have hjx : j < xs.length := by omega
    obtain ⟨x, hx, hrx⟩ := px.get (List.getElem?_eq_getElem hjx)
    have hru : RelV x u := by
      obtain ⟨u', hu', r'⟩ := rv.get hx
      rw [hu] at hu'; cases hu'
      exact r'
    rw [List.drop_eq_getElem_cons hjx] at hgo
    obtain ⟨dk, s1, h1, hgo⟩ := bind_ok hgo
    split at hgo
    · rename_i pk hpk
      obtain ⟨rest', s2, h2, hgo⟩ := bind_ok hgo
      cases hgo
      have hpB : (B, seqObj "list" kA e) ∈ pinsAt [B, A] s'.heap := mem_pinsAt (by simp) nB
      have hpA : (A, seqObj "list" #[] e1) ∈ pinsAt [B, A] s'.heap := mem_pinsAt (by simp) nA
      have IP : Inv X (pins ++ pinsAt [B, A] s'.heap) σ H' s' := I.pinned (fp := [B, A]) (fun b hb => by
        have e : b = B ∨ b = A := by simpa using hb
        rcases e with rfl | rfl
        · exact fb'
        · exact fa') (fun b hb => by
        have e : b = B ∨ b = A := by simpa using hb
        rcases e with rfl | rfl
        · exact ⟨_, nB, fun v z => nomatch z⟩
        · exact ⟨_, nA, fun v z => nomatch z⟩)
      refine wpAny_bind (wpAny_attempt (wpAny_mono (run_fn2 (Q := fun kx H2 => ∃ μ2, Ext μ' H' μ2 H2 ∧ Sim X.K μ2 H2 s1 ∧ Rep X.K H2 μ2 kx dk) F hr hb IP (.cons hru .nil) ⟨by rw [hps]; rfl, μ', sj, [xs[j]], dk, s1, Sj, .cons (hrx.mono S ex) .nil, h1, fun kx H2 μ2 x2 S2 r2 => ⟨μ2, x2, S2, r2⟩⟩) (fun w s2' he => ?_) fun _ _ hF => hF.elim))
      obtain ⟨kx, H2, I4, rk, μ2, x2, S2, r2⟩ := he
      obtain ⟨fB2, gB⟩ := fpOk_after (a := B) fb' I4 hpB
      obtain ⟨fA2, gA⟩ := fpOk_after (a := A) fa' I4 hpA
      have I5 := I4.unpinned
      have hkl2 : kA.size = j := by
        have := hkA.length
        rw [Array.length_toList] at this
        omega
      have sB := Heap.SameBut.update s2'.heap B (Obj.mapSeq (·.push w))
      obtain ⟨c2, hc2⟩ : ∃ c2, (s2'.heap.update B (Obj.mapSeq (·.push w))).get? B = some (seqObj "list" (kA.push w) c2) := ⟨_, get?_update_seq gB (·.push w)⟩
      have hs1 : kA.size ≤ sizeLine := by omega
      refine wpAny_bind (listUpdate_at gB rfl ?_ hs1 (Nat.le_trans (Nat.le_of_eq (Array.size_push ..)) (Nat.succ_le_succ hs1)))
      obtain ⟨b0, b1, b2, b3, b4, b5⟩ := id fB2
      have I6 : Inv X pins σ H2 { s2' with heap := s2'.heap.update B (Obj.mapSeq (·.push w)) } := I5.turned (t' := s2'.toks) (fun b o hb e => (sB.2 b hb).trans e) b0 b1 b3 b4 b5
      refine wpAny_pure ⟨rfl, H2, μ2, s1, kA.push w, c2, don ++ [pk], rest', I6, fA2, fB2, hc2, (sB.2 A (Ne.symm hSA)).trans gA, ex.trans x2, S2, ?_, by rw [List.length_append, hdl]; rfl, by rw [hkz, List.append_assoc]; rfl, h2⟩
      rw [Array.toList_push]
      exact each_one (R := KeyR X.K H2 μ2) ⟨kx, dk, rk, r2, hpk⟩ (each_map' (fun v d h => KeyR.mono Sj x2 h) hkA)
    · cases hgo
  case done =>
    rintro s' ⟨H', μ', sj, kA, e, don, rest, I, fa', fb', nB, nA, ex, Sj, hkA, hdl, hkz, hgo⟩
    rw [Nat.zero_add] at *
    rw [List.drop_eq_nil_of_le (by omega)] at hgo
    cases hgo
    rw [List.append_nil] at hkz
    subst hkz
    obtain ⟨hal, hsk⟩ := okKeys_all hok
    have hk' : EachIs (fun v d => ∃ as, Reads s'.heap v d as) kA.toList kz := each_map' (fun v d h => by
      obtain ⟨kx, dk, r, rp, e⟩ := h
      exact Dp.reads I _ _ _ (rep_dp Sj 12 _ _ _ rp (kpd_pyd st' e).1) r) hkA
    have hdep : ∀ d, d ∈ kz → d.depth ≤ 2 := by
      intro d hd
      obtain ⟨v, kx, dk, r, rp, e⟩ := each_right hkA d hd
      exact (kpd_pyd st' e).2
    have hu := hr.units
    have hsz : kA.size = vs.length := by
      have := hkA.length
      rw [Array.length_toList] at this
      omega
    refine wpAny_bind (listItems_at nB rfl ?_)
    obtain ⟨G, g1, g2⟩ := restrict s'.heap fun b => decide (b ≠ B)
    have gB : G.get? B = none := g2 B (decide_eq_false fun z => z rfl)
    have kp : KeepsBut A G s'.heap := fun b o hb e => by
      by_cases hbB : b = B
      · rw [hbB, gB] at e; cases e
      · rw [← g1 b (decide_eq_true hbB)]; exact e
    have Srt := SortsAt.data (prog := X.prog) (w := X.w) (A := X.A.in1.in1) (s := s') hk' hal hsk (fun d hd => by have := hdep d hd; omega)
    refine keyH_end (κ := dataKind s'.heap kz) (h₁ := G) (b := false) kp gB nB nA hSA Srt hsz hL fun h' tk c kp' hA' => ⟨rfl, ?_⟩
    have hE : EachIs (ItR X.K H' μ') vs (xs.zip kz) := items_each rv (px.mono S ex) (by omega)
    have hOut : EachIs (ItR X.K H' μ') (sortVals (dataKind s'.heap kz) false kA.toList vs) ((xs.zip kz).mergeSort (dataLe false fun p => p.2)) := by
      have ez := zip_snd (xs := xs) (ds := kz) (by omega)
      refine keyedOut_each (rev := false) (fun p : D × PyData => p.2) (vs := vs) ?_ hE
      rw [ez]
      exact ⟨s'.heap, kA.toList, hal, rfl, hk'⟩
    obtain ⟨ys, ry, py⟩ := each_items hOut
    have hyl : ys.length ≤ sizeLine := by
      have h1 := py.length
      rw [List.length_map, List.length_mergeSort, List.length_zip] at h1
      omega
    have I7 : Inv X pins σ (upd H' A (.lst ys)) { s' with heap := h', toks := tk } := Inv.track I fa' fb' (fun d u hd hdB e => kp' d u hd (by rw [g1 d (decide_eq_true hdB)]; exact e)) ⟨hyl, _, c, ry, hA'⟩
    exact ⟨.ref A, _, I7, rfl, q ys A H' μ' ex Sj py fa'.1⟩
end
end Cs

/-! ## CsSim10 -/
/-! sorted, list(range(..)), zip. -/
namespace Cs
open PySem PySem.Spec PyProof.Rows L2
section
variable {K : PySem.W.Frag} {μ μ' : List Addr} {H H' : Hp} {s s' : Sto} {g : Gb} {c : Cc} {X : Cx} {m ma mb mc : Sem} {e a b d : Expr} {pos : Pos}
/-! ### sorted(list, key=f) -/
theorem je_sortK {lv : Nat} {x : Str} {ps : List Str} {f : Fn} {me : Sem} {e : Expr} {p p2 kp : Pos} (F : FnS g lv x ps f) (hl : lv + 2 ≤ c.lv) (hps : ps.length = 1) (hx : c.sc.names.lookup x = some .globalImplicit) (hs : c.sc.names.lookup ("sorted" : Str) = some .globalImplicit) (hm : g.mg ("sorted" : Str) = none)
    (he : JE g c me e) (hst : noStar e = true := by rfl) (hdb : (x == ("__debug__" : Str)) = false := by decide)
    (hks : ∀ X : Cx, (backToKw pos (keywordEach [⟨some "key", .Name x p2, kp⟩] X.env)).filterMap (·.1) = [Str.ofString "key"] := by intro _; rfl)
    (hall : ∀ X : Cx, (backToKw pos (keywordEach [⟨some "key", .Name x p2, kp⟩] X.env)).all (·.1.isSome) = true := by intro _; rfl)
    (hnone : ∀ X : Cx, (backToKw pos (keywordEach [⟨some "key", .Name x p2, kp⟩] X.env)).any (·.1.isNone) = false := by intro _; rfl) :
    JE g c (xSortK f me) (.Call (.Name "sorted" p) [e] [⟨some "key", .Name x p2, kp⟩] pos) := by
  obtain ⟨fa, fd, hmf, hk, hb, hF⟩ := F.ex
  refine je_mk (fun X ok => ?_) (by intro _ _; rfl)
  have hF' : FnOk X.prog X.w X.K X.mg X.base CX0 lv fa fd ps (spD X.K ps.length f) := by
    rw [ok.prog, ok.w, ok.K, ok.mg, ok.base]; exact hF
  have hr : Room lv X.A.in1.in1 := (ok.room.mono hl).in1.in1
  have hbX : Binds X.K fd ps [] := by rw [ok.K]; exact hb
  have cr : CallRK X (.builtin "sorted") [Str.ofString "key"] (fun vs zs H Q => ∃ (l : Addr) (vx : List V) (μ : List Addr) (st st' : Sto) (xs : List D) (kz : List PyData), vs = [.ref l] ∧ zs = [.ref fa] ∧ SqL X.K H l vx ∧ Sim X.K μ H st ∧ Reps X.K H μ vx xs ∧ keysGo f xs st = .ok kz st' ∧ okKeys kz = true ∧
      ∀ ys p H' μ', Ext μ H μ' H' → Sim X.K μ' H' st' → Reps X.K H' μ' ys (sortBy kz xs) → H' p = none → Q (.ref p) (upd H' p (.lst ys))) := by
    intro pins s σ H xs zs us ws Q I rx rz h
    obtain ⟨l, vx, μ, st, st', ds, kz, rfl, rfl, hl, S, px, hgo, hok, q⟩ := h
    obtain rfl := Vals.ref1 rx
    obtain rfl := Vals.ref1 rz
    exact sort_run rfl hF' hps hr hbX I hl S px hgo hok q
  have ha : JA g c (aCons me aNil) [e] := ja_cons he ja_nil hst
  refine PE.imp (pe_callBK cr (by show X.env.scope.names.lookup _ = _; rw [ok.sc]; exact hs) (by rw [ok.mg]; exact hm) (by decide +kernel) (ha X ok)
    (pk_cons (pe_glob (v := V.ref fa) (by show X.env.scope.names.lookup x = _; rw [ok.sc]; exact hx) (by rw [ok.mg]; exact hmf) rfl hdb) pk_nil) (by decide) (by decide) (by rw [star_cons hst]; rfl) (by rw [star_cons hst]; rfl) (hall X) (hnone X) (hks X)) fun σ H Q h => ?_
  obtain ⟨μ, s, env, dd, s', S, E, hv0, q⟩ := h
  obtain ⟨dx, s1, h1, hv1⟩ := bind_ok hv0
  refine ⟨μ, s, env, [dx], s1, S, E, by show (me.v env s).bind _ = _; rw [h1]; rfl, fun vs H1 μ1 x1 S1 r1 => ?_⟩
  cases r1 with
  | cons r rr =>
  cases rr
  unfold sortK at hv1
  split at hv1
  · split at hv1
    · rename_i ex
      obtain ⟨kz, s2, h2, hv2⟩ := bind_ok hv1
      split at hv2
      · rename_i hok
        cases r with
        | ref hi =>
        obtain ⟨hm', vx, hx', px⟩ := Rep.lst_at S1 (.ref hi) ex
        refine ⟨_, vx, μ1, s1, s2, _, kz, rfl, rfl, .of hx', by rw [ok.K]; exact S1, by rw [ok.K]; exact px, h2, hok, fun ys p H' μ' x2 S2 ry hp => ?_⟩
        obtain ⟨_, x3, S3, r3⟩ := newL_ok S2 ry hv2 hp
        rw [ok.K] at S3 r3
        exact q _ _ _ (x1.trans (x2.trans x3)) S3 r3
      · cases hv2
    · cases hv1
  · cases hv1
/-! ### sorted(a list of whole numbers) -/
theorem sorted_one : ∀ {xs ys : List Int}, xs.Perm ys → xs.Pairwise (· ≤ ·) → ys.Pairwise (· ≤ ·) → xs = ys := by
  intro xs ys p h1 h2
  exact p.eq_of_pairwise (fun a b _ _ => Int.le_antisymm) h1 h2
theorem sorted_ms (ns : List Int) : (ns.mergeSort fun a b => decide (a ≤ b)).Pairwise (· ≤ ·) := by
  have := List.pairwise_mergeSort (le := fun a b : Int => decide (a ≤ b)) (fun a b c h1 h2 => by simp at *; omega) (fun a b => by simp; omega) ns
  exact this.imp fun h => by simpa using h
theorem cr_sortedD (hK : X.K = K) : CallR X (.builtin "sorted") (RnD K sortedB) := by
  subst hK
  refine CallR.imp cr_sortedI fun xs H Q h => ?_
  obtain ⟨μ, s, ds, d, s', S, r, h, q⟩ := h
  unfold sortedB at h
  split at h
  · split at h
    · rename_i ex
      split at h
      · rename_i ns hns
        cases r with
        | cons r rr =>
        cases rr
        cases r with
        | ref hi =>
        obtain ⟨hm', vx, hx', px⟩ := Rep.lst_at S (.ref hi) ex
        have ev := ints_rep px hns
        subst ev
        refine ⟨_, ns, rfl, .of hx', fun ns' p hp hs hH => ?_⟩
        have e : ns' = ns.mergeSort fun a b => decide (a ≤ b) := sorted_one (hp.trans (List.mergeSort_perm ns _).symm) hs (sorted_ms ns)
        have ri : ∀ l : List Int, Reps X.K H μ (l.map V.int) (l.map D.int) := by
          intro l
          induction l with
          | nil => exact .nil
          | cons x l ih => exact .cons (.int x) ih
        obtain ⟨_, x2, S2, r2⟩ := newL_ok S (ri _) h hH
        rw [← e] at x2 S2 r2
        exact q _ _ _ x2 S2 r2
      · cases h
    · cases h
  · cases h
/-! ### list(range(..)), tuple(range(..)) -/
theorem rg_reps {i j : Int} : Reps K H μ (rgV i j) (rgD i (j - i).toNat) := by
  unfold rgV rgD
  generalize List.range (j - i).toNat = l
  induction l with
  | nil => exact .nil
  | cons x l ih => exact .cons (.int _) ih
theorem rg_ok {i j : Int} (h : bigI i = true ∧ bigI j = true ∧ (j - i).toNat ≤ 16777216) : RgOk i j :=
  ⟨(bigI_ok h.1).1, (bigI_ok h.1).2, (bigI_ok h.2.1).1, (bigI_ok h.2.1).2, h.2.2⟩
theorem je_lstR1 {p pr rp : Pos} (hs : c.sc.names.lookup ("list" : Str) = some .globalImplicit) (hm : g.mg ("list" : Str) = none) (hs2 : c.sc.names.lookup ("range" : Str) = some .globalImplicit) (hm2 : g.mg ("range" : Str) = none) (ha : JE g c ma a) (hst : noStar a = true := by rfl) :
    JE g c (xLstR1 ma) (.Call (.Name "list" p) [.Call (.Name "range" pr) [a] [] rp] [] pos) := je_mk (fun X ok => PE.imp
    (pe_listRg ok.calm (by show X.env.scope.names.lookup _ = _; rw [ok.sc]; exact hs) (by rw [ok.mg]; exact hm) (prg_1 (by show X.env.scope.names.lookup _ = _; rw [ok.sc]; exact hs2) (by rw [ok.mg]; exact hm2) (ha X ok).1 (star_cons hst _))) fun σ H Q h => by
      obtain ⟨μ, s, env, d, s', S, E, hv, q⟩ := h
      obtain ⟨x, s1, h1, hv⟩ := bind_ok hv
      refine ⟨μ, s, env, x, s1, S, E, h1, fun v H1 μ1 x1 S1 r1 => ?_⟩
      unfold rgW at hv
      split at hv
      · rename_i i j e1
        cases e1
        split at hv
        · rename_i hc
          cases r1
          refine ⟨_, rfl, rg_ok hc, fun p hp => ?_⟩
          obtain ⟨_, x2, S2, r2⟩ := newL_ok S1 rg_reps hv hp
          exact q _ _ _ (x1.trans x2) S2 r2
        · cases hv
      · cases hv) (by intro _ _; rfl)
theorem je_lstR2 {p pr rp : Pos} (hs : c.sc.names.lookup ("list" : Str) = some .globalImplicit) (hm : g.mg ("list" : Str) = none) (hs2 : c.sc.names.lookup ("range" : Str) = some .globalImplicit) (hm2 : g.mg ("range" : Str) = none) (ha : JE g c ma a) (hb : JE g c mb b) (hst : noStar a = true := by rfl) (hst2 : noStar b = true := by rfl) :
    JE g c (xLstR2 ma mb) (.Call (.Name "list" p) [.Call (.Name "range" pr) [a, b] [] rp] [] pos) := je_mk (fun X ok => PE.imp
    (pe_listRg ok.calm (by show X.env.scope.names.lookup _ = _; rw [ok.sc]; exact hs) (by rw [ok.mg]; exact hm) (prg_2 (by show X.env.scope.names.lookup _ = _; rw [ok.sc]; exact hs2) (by rw [ok.mg]; exact hm2) (ha X ok).1 (hb X ok).1 (star_cons hst _) (star_cons hst2 _) (by rw [star_cons hst2]; rfl))) fun σ H Q h => by
      obtain ⟨μ, s, env, d, s', S, E, hv, q⟩ := h
      obtain ⟨x, s1, h1, hv⟩ := bind_ok hv
      obtain ⟨y, s2, h2, hv⟩ := bind_ok hv
      refine ⟨μ, s, env, x, s1, S, E, h1, fun v H1 μ1 x1 S1 r1 => ?_⟩
      refine ⟨μ1, s1, env, y, s2, S1, E.mono S x1, h2, fun w H2 μ2 x2 S2 r2 => ?_⟩
      unfold rgW at hv
      split at hv
      · split at hv
        · rename_i hc
          cases r1; cases r2
          refine ⟨_, _, rfl, rfl, rg_ok hc, fun p hp => ?_⟩
          obtain ⟨_, x3, S3, r3⟩ := newL_ok S2 rg_reps hv hp
          exact q _ _ _ ((x1.trans x2).trans x3) S3 r3
        · cases hv
      · cases hv) (by intro _ _; rfl)
theorem je_tupR1 {p pr rp : Pos} (hs : c.sc.names.lookup ("tuple" : Str) = some .globalImplicit) (hm : g.mg ("tuple" : Str) = none) (hs2 : c.sc.names.lookup ("range" : Str) = some .globalImplicit) (hm2 : g.mg ("range" : Str) = none) (ha : JE g c ma a) (hst : noStar a = true := by rfl) :
    JE g c (xTupR1 ma) (.Call (.Name "tuple" p) [.Call (.Name "range" pr) [a] [] rp] [] pos) := je_mk (fun X ok => PE.imp
    (pe_tupRg ok.calm (by show X.env.scope.names.lookup _ = _; rw [ok.sc]; exact hs) (by rw [ok.mg]; exact hm) (prg_1 (by show X.env.scope.names.lookup _ = _; rw [ok.sc]; exact hs2) (by rw [ok.mg]; exact hm2) (ha X ok).1 (star_cons hst _))) fun σ H Q h => by
      obtain ⟨μ, s, env, d, s', S, E, hv, q⟩ := h
      obtain ⟨x, s1, h1, hv⟩ := bind_ok hv
      refine ⟨μ, s, env, x, s1, S, E, h1, fun v H1 μ1 x1 S1 r1 => ?_⟩
      unfold rgW at hv
      split at hv
      · rename_i i j e1
        cases e1
        split at hv
        · rename_i hc
          cases r1
          cases hv
          refine ⟨_, rfl, rg_ok hc, fun p hp => ?_⟩
          obtain ⟨x2, S2, r2⟩ := rep_tup S1 hp rg_reps
          exact q _ _ _ (x1.trans x2) S2 r2
        · cases hv
      · cases hv) (by intro _ _; rfl)
theorem je_tupR2 {p pr rp : Pos} (hs : c.sc.names.lookup ("tuple" : Str) = some .globalImplicit) (hm : g.mg ("tuple" : Str) = none) (hs2 : c.sc.names.lookup ("range" : Str) = some .globalImplicit) (hm2 : g.mg ("range" : Str) = none) (ha : JE g c ma a) (hb : JE g c mb b) (hst : noStar a = true := by rfl) (hst2 : noStar b = true := by rfl) :
    JE g c (xTupR2 ma mb) (.Call (.Name "tuple" p) [.Call (.Name "range" pr) [a, b] [] rp] [] pos) := je_mk (fun X ok => PE.imp
    (pe_tupRg ok.calm (by show X.env.scope.names.lookup _ = _; rw [ok.sc]; exact hs) (by rw [ok.mg]; exact hm) (prg_2 (by show X.env.scope.names.lookup _ = _; rw [ok.sc]; exact hs2) (by rw [ok.mg]; exact hm2) (ha X ok).1 (hb X ok).1 (star_cons hst _) (star_cons hst2 _) (by rw [star_cons hst2]; rfl))) fun σ H Q h => by
      obtain ⟨μ, s, env, d, s', S, E, hv, q⟩ := h
      obtain ⟨x, s1, h1, hv⟩ := bind_ok hv
      obtain ⟨y, s2, h2, hv⟩ := bind_ok hv
      refine ⟨μ, s, env, x, s1, S, E, h1, fun v H1 μ1 x1 S1 r1 => ?_⟩
      refine ⟨μ1, s1, env, y, s2, S1, E.mono S x1, h2, fun w H2 μ2 x2 S2 r2 => ?_⟩
      unfold rgW at hv
      split at hv
      · split at hv
        · rename_i hc
          cases r1; cases r2
          cases hv
          refine ⟨_, _, rfl, rfl, rg_ok hc, fun p hp => ?_⟩
          obtain ⟨x3, S3, r3⟩ := rep_tup S2 hp rg_reps
          exact q _ _ _ ((x1.trans x2).trans x3) S3 r3
        · cases hv
      · cases hv) (by intro _ _; rfl)
/-! ### zip -/
theorem wk_zip {a b : Addr} {i j : Nat} (hm : μ[i]? = some a) (hm2 : μ[j]? = some b) : WkOk K (Itz K a b) (Wk.zip i j) μ H := fun μ' H' s' ex S' n => by
  obtain ⟨o, e, ro⟩ := S'.ob i a (ex.pre i a hm)
  obtain ⟨o2, e2, ro2⟩ := S'.ob j b (ex.pre j b hm2)
  have hw : wkAt (Wk.zip i j) s' n = zipAt s' i j n := rfl
  rw [hw]
  unfold zipAt
  rw [e, e2]
  cases o with
  | dct _ => exact ⟨fun d hd => (nomatch hd), fun hd => (nomatch hd)⟩
  | lst ds =>
  cases o2 with
  | dct _ => exact ⟨fun d hd => (nomatch hd), fun hd => (nomatch hd)⟩
  | lst es =>
  obtain ⟨xs, ex1, rx⟩ := ro
  obtain ⟨ys, ey1, ry⟩ := ro2
  dsimp only
  cases h1 : ds[n]? with
  | none =>
    have hn1 : xs.length ≤ n := by rw [rx.length]; exact List.getElem?_eq_none_iff.mp h1
    cases h3 : es[n]? <;> exact ⟨fun d hd => (nomatch hd), fun _ => ⟨xs, ys, .of ex1, .of ey1, .inl hn1⟩⟩
  | some x =>
    cases h2 : es[n]? with
    | none =>
      have hn1 : ys.length ≤ n := by rw [ry.length]; exact List.getElem?_eq_none_iff.mp h2
      exact ⟨fun d hd => (nomatch hd), fun _ => ⟨xs, ys, .of ex1, .of ey1, .inr hn1⟩⟩
    | some y =>
      obtain ⟨v, hv, rv⟩ := rx.get h1
      obtain ⟨w, hw2, rw2⟩ := ry.get h2
      refine ⟨fun d hd => ?_, fun hd => (nomatch hd)⟩
      cases hd
      refine ⟨⟨xs, ys, v, w, .of ex1, .of ey1, hv, hw2⟩, fun z H'' hy => ?_⟩
      obtain ⟨T, z1, z2, rfl, hT, rfl, hz1, hz2⟩ := hy
      have q1 : z1 = v := by have := hz1 xs (.of ex1); rw [hv] at this; exact (Option.some.inj this).symm
      have q2 : z2 = w := by have := hz2 ys (.of ey1); rw [hw2] at this; exact (Option.some.inj this).symm
      subst q1; subst q2
      obtain ⟨_, _, rp⟩ := rep_tup S' hT (Reps.cons rv (Reps.cons rw2 .nil))
      exact ⟨fun b o e => by rw [upd_ne (ne_of_none e hT)]; exact e, rp⟩
theorem ji_zip {p tpos : Pos} {ra : EvA} {elts : List Expr} {kk : Nat} (hs : c.sc.names.lookup ("zip" : Str) = some .globalImplicit) (hm : g.mg ("zip" : Str) = none) (ha : JA g c ra [a, b]) (hst : noStar a = true := by rfl) (hst2 : noStar b = true := by rfl) : JIt g c (.Tuple elts kk tpos) (iZip2 ra) (.Call (.Name "zip" p) [a, b] [] pos) := fun X ok =>
  PI.imp (pi_zip (by show X.env.scope.names.lookup _ = _; rw [ok.sc]; exact hs) (by rw [ok.mg]; exact hm) (ha X ok) (by rw [star_cons hst, star_cons hst2]) (by rw [star_cons hst2]; rfl)) fun σ H R h => by
    obtain ⟨μ, s, env, w, s', S, E, hv, q⟩ := h
    obtain ⟨ds, s1, h1, hv⟩ := bind_ok hv
    refine ⟨μ, s, env, ds, s1, S, E, h1, fun vs H1 μ1 x1 S1 r1 => ?_⟩
    unfold zipW at hv
    split at hv
    · split at hv
      · rename_i e1 e2
        cases hv
        cases r1 with
        | cons r r2 =>
        cases r2 with
        | cons r2 r3 =>
        cases r3
        cases r with
        | ref hi =>
        cases r2 with
        | ref hj =>
        obtain ⟨_, vx, hx', px⟩ := Rep.lst_at S1 (.ref hi) e1
        obtain ⟨_, vy, hy', py⟩ := Rep.lst_at S1 (.ref hj) e2
        exact ⟨_, _, _, _, rfl, .of hx', .of hy', by rw [ok.K]; exact q _ H1 μ1 x1 S1 (wk_zip hi hj)⟩
      · cases hv
    · cases hv
end
end Cs

/-! ## CsSim11 -/
/-! extend by a tuple, enumerate of a list. -/
namespace Cs
open PySem PySem.Spec PyProof.Rows L2
theorem extend_T (l : Addr) (items : Array Value) (n : Nat) (b : Addr) (items2 : Array Value) (n2 : Nat) (dct : Option Addr) (sl : Array (Option Value)) (hs0 : ¬(!items.isEmpty && Builtin.List.listTooLong (items.size + items2.size)) = true) (hs1 : items.size ≤ sizeLine) (hs2 : items.size + items2.size ≤ sizeLine + 1) :
    Meets (Builtin.«list.extend» ⟨[.ref l, .ref b], []⟩) (fun _ R s => s.heap.get? l = some { cls := .type "list", dict := none, data := .seq items n, slots := #[] } ∧
      s.heap.get? b = some { cls := .type "tuple", dict := dct, data := .seq items2 n2, slots := sl } ∧ R (.ok (.ret Value.none)) { s with heap := s.heap.update l (Obj.mapSeq fun x => x ++ items2), toks := s.toks }) :=
  .of_wp fun prog w A R s h => by
    obtain ⟨hp, g, d, tk, os⟩ := s
    obtain ⟨hl, hb, h⟩ := h
    have t1 := AutoSeq1.idx_int
    have t2 := AutoSeq1.sub_tuple_tuple
    have t3 := AutoSeq1.sub_list_list
    have t4 := AutoSeq1.sub_tuple_list
    have t5 := AutoSeq1.sub_list_tuple
    have hz' : (items ++ items2).size ≤ sizeLine + 1 := by
      rw [Array.size_append]; exact hs2
    wp_walk using (wpAny_updateSeq hl rfl (hz := hs1) (_hz' := hz')), AutoSeq1.wpAny_loadPart' hl, AutoSeq1.wpAny_loadPart' hb
    exact ⟨_, rfl, h⟩
section
variable {K : PySem.W.Frag} {μ μ' : List Addr} {H H' : Hp} {s s' : Sto} {g : Gb} {c : Cc} {X : Cx} {m ma mb mc : Sem} {e a b d : Expr} {pos : Pos}
def rExtA (K : PySem.W.Frag) : V → List V → Hp → VK → Prop := fun x vs H Q => rExtend x vs H Q ∨ ∃ l b xs zs, x = .ref l ∧ vs = [.ref b] ∧ H l = some (.lst xs) ∧ SqT K H b zs ∧ xs.length + zs.length ≤ sizeLine ∧ Q .non (upd H l (.lst (xs ++ zs)))
theorem mt_extA : MtM X "list.extend" (rExtA X.K) := by
  intro pins s σ H x vs v us Q I rx rv h
  rcases h with h | ⟨l, b, xs, zs, rfl, rfl, hH, hB, hz, q⟩
  · exact mt_extend pins s σ H x vs v us Q I rx rv h
  cases rx
  obtain ⟨u, rfl, ru⟩ := rv.one
  cases ru
  obtain ⟨z, its, n, r, hl, e⟩ := I.lstM hH
  obtain ⟨its2, r2, p2, _⟩ := I.tuple hB
  have pT : s.heap.IsTuple b its2.toArray := p2
  obtain ⟨⟨c2, dct, dt, sl⟩, hb2, hc2, n2, hd2⟩ := pT
  replace hc2 : c2 = .type "tuple" := hc2
  replace hd2 : dt = .seq its2.toArray n2 := hd2
  subst hc2 hd2
  have l1 := r.length
  have l2 := r2.length
  have hsz : its.toArray.size + its2.toArray.size ≤ sizeLine := by
    simp only [List.size_toArray]; omega
  have hlong : ¬ (!its.toArray.isEmpty && Builtin.List.listTooLong (its.toArray.size + its2.toArray.size)) = true := by
    rw [notLongL hsz]
    simp
  refine call_meets F.slot_list_extend ⟨_, e, rfl⟩ F.entry_list_extend (F.args_list_extend_2 _ _)
    (extend_T l its.toArray n b its2.toArray n2 dct sl hlong (by omega) (by omega)) ⟨e, hb2, ?_⟩
  exact ⟨.non, _, I.lset (its' := its ++ its2) hH e (by simp) (r.append r2) (by rw [List.length_append]; omega), rfl, q⟩
theorem mt_extendD2 (hK : X.K = K) : MtR X "list.extend" (RmD K extendM2) := by
  subst hK
  refine MtR.imp mt_extA fun x xs H Q h => ?_
  obtain ⟨μ, s, dx, ds, d, s', S, rx, rs, h, q⟩ := h
  unfold extendM2 at h
  split at h
  · split at h
    · rename_i ex ey
      split at h
      · rename_i hz
        cases h
        cases rx with
        | ref rx =>
        cases rs with
        | cons r1 r2 =>
        cases r2
        cases r1 with
        | ref ry =>
        obtain ⟨hm, vx, hx, px⟩ := Rep.lst_at S (.ref rx) ex
        obtain ⟨_, vy, hy, py⟩ := Rep.lst_at S (.ref ry) ey
        obtain ⟨x2, S2⟩ := rep_set (o := .lst []) S hm (px.append py)
        exact .inl ⟨_, _, vx, vy, rfl, rfl, hx, hy, by rw [px.length, py.length]; exact hz, q _ _ μ x2 S2 .non⟩
      · cases h
    · cases h
  · split at h
    · rename_i ex
      split at h
      · rename_i hz
        cases h
        cases rx with
        | ref rx =>
        cases rs with
        | cons r1 r2 =>
        cases r2
        cases r1 with
        | tup ty py =>
        obtain ⟨hm, vx, hx, px⟩ := Rep.lst_at S (.ref rx) ex
        obtain ⟨x2, S2⟩ := rep_set (o := .lst []) S hm (px.append py)
        exact .inr ⟨_, _, vx, _, rfl, rfl, hx, ty, by rw [px.length, py.length]; exact hz, q _ _ μ x2 S2 .non⟩
      · cases h
    · cases h
  · cases h
/-! ### enumerate of a tuple or a list -/
theorem pi_enumA {X : Cx} {e : Expr} {ta : TA} {p pos tpos : Pos} {elts : List Expr} {kk : Nat} (hg : Gl X "enumerate") (hm : X.mg "enumerate" = none) (ha : PA X [e] ta) (hs : starEach [e] X.env = [(false, eval e X.env)] := by rfl) :
    PI X (.Tuple elts kk tpos) (.Call (.Name "enumerate" p) [e] [] pos) (fun σ H R => ta σ H fun vs H1 => ∃ a xs, vs = [.ref a] ∧ ((SqT X.K H1 a xs ∧ R (IteT X.K a) H1) ∨ (SqL X.K H1 a xs ∧ R (Ite X.K a) H1))) := by
  refine ⟨fun pins s σ H R I h => ?_⟩
  refine Call_ (ld_blt I hg hm boot_enumerate (PyProof.Rows.callWith_type1 (thn (ha.run pos pins s σ H _ I h) fun us s1 ⟨vs, H1, I1, r1, q1⟩ => ?_) hs rfl))
  obtain ⟨a, xs, ex, q1⟩ := q1
  subst ex
  cases r1 with
  | cons r rr =>
    cases rr
    cases r
    have hfp : ∀ b, b ∈ [s1.heap.objs.size + 1, s1.heap.objs.size] → FpOk X pins H1 b := fun b hb => by
      have e' : b = s1.heap.objs.size + 1 ∨ b = s1.heap.objs.size := by simpa using hb
      have hle : s1.heap.objs.size ≤ b := by
        rcases e' with z | z
        · rw [z]; exact Nat.le_add_right _ _
        · rw [z]; exact Nat.le_refl _
      exact I1.fpOk hle (I1.hok.fresh hle)
    rcases q1 with ⟨hq, q⟩ | ⟨hq, q⟩
    · obtain ⟨its, rv, p', hz⟩ := I1.tuple hq
      have pT : s1.heap.IsTuple a its.toArray := p'
      have hal : a < s1.heap.objs.size := by obtain ⟨_, q, _⟩ := id pT; exact Heap.lt_size q
      refine call_enumT pT fun h' he hit hsz hk => wpAny_pyIter_enum he ?_
      exact ⟨s1.heap.objs.size + 1, [s1.heap.objs.size + 1, s1.heap.objs.size], _, _, H1, rfl, I1.kept (t' := s1.toks) hk, turn_enumT a (s1.heap.objs.size + 1) s1.heap.objs.size (Nat.ne_of_lt hal), ⟨⟨.none, he⟩, hit, Nat.succ_ne_self _⟩, hfp, q⟩
    · obtain ⟨its, rv, p', hz⟩ := I1.list hq
      refine call_enumerate_list p'.isList fun h' he hit hsz hk => wpAny_pyIter_enum he ?_
      exact ⟨s1.heap.objs.size + 1, [s1.heap.objs.size + 1, s1.heap.objs.size], _, _, H1, rfl, I1.kept (t' := s1.toks) hk, turn_enum a (s1.heap.objs.size + 1) s1.heap.objs.size, ⟨⟨.none, he⟩, hit, Nat.succ_ne_self _⟩, hfp, q⟩
theorem wk_enl {a : Addr} {i : Nat} (hm : μ[i]? = some a) : WkOk K (Ite K a) (Wk.enl i) μ H := fun μ' H' s' ex S' n => by
  obtain ⟨o, e, ro⟩ := S'.ob i a (ex.pre i a hm)
  have hw : wkAt (Wk.enl i) s' n = enlAt s' i n := rfl
  rw [hw]
  unfold enlAt
  rw [e]
  cases o with
  | dct _ => exact ⟨fun d hd => (nomatch hd), fun hd => (nomatch hd)⟩
  | lst ds =>
  obtain ⟨xs, ex1, rx⟩ := ro
  dsimp only
  cases h1 : ds[n]? with
  | none =>
    have hn1 : xs.length ≤ n := by rw [rx.length]; exact List.getElem?_eq_none_iff.mp h1
    exact ⟨fun d hd => (nomatch hd), fun _ => ⟨xs, .of ex1, hn1⟩⟩
  | some x =>
    obtain ⟨v, hv, rv⟩ := rx.get h1
    refine ⟨fun d hd => ?_, fun hd => (nomatch hd)⟩
    cases hd
    refine ⟨⟨xs, v, .of ex1, hv⟩, fun z H'' hy => ?_⟩
    obtain ⟨T, z1, rfl, hT, rfl, hz1⟩ := hy
    have q1 : z1 = v := by have := hz1 xs (.of ex1); rw [hv] at this; exact (Option.some.inj this).symm
    subst q1
    obtain ⟨_, _, rp⟩ := rep_tup S' hT (Reps.cons (.int _) (Reps.cons rv .nil))
    exact ⟨fun b o e => by rw [upd_ne (ne_of_none e hT)]; exact e, rp⟩
theorem ji_enum2 {p tpos : Pos} {ra : EvA} {elts : List Expr} {kk : Nat} (hs : c.sc.names.lookup ("enumerate" : Str) = some .globalImplicit) (hm : g.mg ("enumerate" : Str) = none) (ha : JA g c ra [a]) (hst : noStar a = true := by rfl) : JIt g c (.Tuple elts kk tpos) (iEnum2 ra) (.Call (.Name "enumerate" p) [a] [] pos) := fun X ok =>
  PI.imp (pi_enumA (by show X.env.scope.names.lookup _ = _; rw [ok.sc]; exact hs) (by rw [ok.mg]; exact hm) (ha X ok) (star_cons hst _)) fun σ H R h => by
    obtain ⟨μ, s, env, w, s', S, E, hv, q⟩ := h
    obtain ⟨ds, s1, h1, hv⟩ := bind_ok hv
    refine ⟨μ, s, env, ds, s1, S, E, h1, fun vs H1 μ1 x1 S1 r1 => ?_⟩
    unfold enW2 at hv
    split at hv
    · cases hv
      cases r1 with
      | cons r r2 =>
      cases r2
      cases r with
      | tup tx rx => exact ⟨_, _, rfl, .inl ⟨by rw [ok.K]; exact tx, by rw [ok.K]; exact q _ H1 μ1 x1 S1 (wk_enumT S1 tx rx)⟩⟩
    · split at hv
      · rename_i e1
        cases hv
        cases r1 with
        | cons r r2 =>
        cases r2
        cases r with
        | ref hi =>
        obtain ⟨_, vx, hx', px⟩ := Rep.lst_at S1 (.ref hi) e1
        exact ⟨_, vx, rfl, .inr ⟨.of hx', by rw [ok.K]; exact q _ H1 μ1 x1 S1 (wk_enl hi)⟩⟩
      · cases hv
    · cases hv
end
end Cs

/-! ## CsRun -/
/-! How the plain meaning is computed: rules for simp, loops, comprehensions. -/
namespace Cs
open PySem
/-! ### results -/
@[simp] theorem bind_ok' {α β : Type} (a : α) (s : Sto) (f : α → Sto → R β) : (R.ok a s).bind f = f a s := id rfl
@[simp] theorem bind_no {α β : Type} (f : α → Sto → R β) : (R.no : R α).bind f = .no := id rfl
@[simp] theorem st_ok' {α : Type} (a : α) (s : Sto) (f : α → Sto → RS) : (R.ok a s).st f = f a s := id rfl
@[simp] theorem st_no {α : Type} (f : α → Sto → RS) : (R.no : R α).st f = .no := id rfl
@[simp] theorem then_nx (e : Env) (s : Sto) (f : Env → Sto → RS) : (RS.nx e s).then f = f e s := id rfl
@[simp] theorem then_rt (d : D) (s : Sto) (f : Env → Sto → RS) : (RS.rt d s).then f = .rt d s := id rfl
@[simp] theorem then_bk (e : Env) (s : Sto) (f : Env → Sto → RS) : (RS.bk e s).then f = .bk e s := id rfl
@[simp] theorem then_ct (e : Env) (s : Sto) (f : Env → Sto → RS) : (RS.ct e s).then f = .ct e s := id rfl
@[simp] theorem turn_nx (e : Env) (s : Sto) (f : Env → Sto → RS) : (RS.nx e s).turn f = f e s := id rfl
@[simp] theorem turn_rt (d : D) (s : Sto) (f : Env → Sto → RS) : (RS.rt d s).turn f = .rt d s := id rfl
@[simp] theorem turn_bk (e : Env) (s : Sto) (f : Env → Sto → RS) : (RS.bk e s).turn f = .nx e s := id rfl
@[simp] theorem turn_ct (e : Env) (s : Sto) (f : Env → Sto → RS) : (RS.ct e s).turn f = f e s := id rfl
/-! ### expressions -/
section
variable (env : Env) (s : Sto)
@[simp] theorem v_mk (v : EvE) : (mk v).v env s = v env s := id rfl
@[simp] theorem t_mk (v : EvE) : (mk v).t env s = (v env s).bind fun d s => truth d s := id rfl
@[simp] theorem v_C (d : D) : (xC d).v env s = .ok d s := id rfl
@[simp] theorem t_C (d : D) : (xC d).t env s = truth d s := id rfl
def getV (o : Option (Option D)) (s : Sto) : R D := match o with
  | some (some d) => .ok d s
  | _ => .no
@[simp] theorem getV_some (d : D) (s : Sto) : getV (some (some d)) s = .ok d s := id rfl
@[simp] theorem v_Var (i : Nat) : (xVar i).v env s = getV env[i]? s := id rfl
@[simp] theorem t_Var (i : Nat) : (xVar i).t env s = (getV env[i]? s).bind fun d s => truth d s := id rfl
@[simp] theorem v_Bin (f : D → D → Sto → R D) (a b : Sem) : (xBin f a b).v env s = (a.v env s).bind fun x s => (b.v env s).bind fun y s => f x y s := id rfl
@[simp] theorem t_Bin (f : D → D → Sto → R D) (a b : Sem) : (xBin f a b).t env s = ((a.v env s).bind fun x s => (b.v env s).bind fun y s => f x y s).bind fun d s => truth d s := id rfl
@[simp] theorem v_Un (f : D → Sto → R D) (a : Sem) : (xUn f a).v env s = (a.v env s).bind fun x s => f x s := id rfl
@[simp] theorem t_Un (f : D → Sto → R D) (a : Sem) : (xUn f a).t env s = ((a.v env s).bind fun x s => f x s).bind fun d s => truth d s := id rfl
def chain2 (k : D → Sto → R D) (z : D) (s : Sto) : R D := match z with
  | .bl true => k z s
  | .bl false => .ok (.bl false) s
  | _ => .no
@[simp] theorem chain2_t (k : D → Sto → R D) (s : Sto) : chain2 k (.bl true) s = k (.bl true) s := id rfl
@[simp] theorem chain2_f (k : D → Sto → R D) (s : Sto) : chain2 k (.bl false) s = .ok (.bl false) s := id rfl
@[simp] theorem v_Chain (f g : D → D → Sto → R D) (a b c : Sem) : (xChain f g a b c).v env s = (a.v env s).bind fun x s => (b.v env s).bind fun y s => (f x y s).bind (chain2 fun _ s => (c.v env s).bind fun w s => g y w s) := id rfl
@[simp] theorem t_Chain (f g : D → D → Sto → R D) (a b c : Sem) : (xChain f g a b c).t env s = ((xChain f g a b c).v env s).bind fun d s => truth d s := id rfl
@[simp] theorem v_Not (a : Sem) : (xNot a).v env s = (a.v env s).bind fun x s => (truth x s).bind fun b s => .ok (.bl (!b)) s := id rfl
@[simp] theorem t_Not (a : Sem) : (xNot a).t env s = (a.t env s).bind fun b s => .ok (!b) s := id rfl
@[simp] theorem v_And (a b : Sem) : (xAnd a b).v env s = (a.v env s).bind fun x s => (truth x s).bind fun k s => if k = true then b.v env s else .ok x s := id rfl
@[simp] theorem t_And (a b : Sem) : (xAnd a b).t env s = (a.t env s).bind fun k s => if k = true then b.t env s else .ok false s := id rfl
@[simp] theorem v_Or (a b : Sem) : (xOr a b).v env s = (a.v env s).bind fun x s => (truth x s).bind fun k s => if k = true then .ok x s else b.v env s := id rfl
@[simp] theorem t_Or (a b : Sem) : (xOr a b).t env s = (a.t env s).bind fun k s => if k = true then .ok true s else b.t env s := id rfl
@[simp] theorem v_If (c a b : Sem) : (xIf c a b).v env s = (c.t env s).bind fun k s => if k = true then a.v env s else b.v env s := id rfl
@[simp] theorem t_If (c a b : Sem) : (xIf c a b).t env s = (c.t env s).bind fun k s => if k = true then a.t env s else b.t env s := id rfl
@[simp] theorem a_Nil : aNil env s = .ok [] s := id rfl
@[simp] theorem a_Cons (a : Sem) (r : EvA) : aCons a r env s = (a.v env s).bind fun x s => (r env s).bind fun xs s => .ok (x :: xs) s := id rfl
@[simp] theorem v_Tup (a : EvA) : (xTup a).v env s = (a env s).bind fun xs s => if xs.length ≤ sizeLine then .ok (.tup xs) s else .no := id rfl
@[simp] theorem t_Tup (a : EvA) : (xTup a).t env s = ((xTup a).v env s).bind fun d s => truth d s := id rfl
@[simp] theorem v_Lst (a : EvA) : (xLst a).v env s = (a env s).bind newL := id rfl
@[simp] theorem t_Lst (a : EvA) : (xLst a).t env s = ((a env s).bind newL).bind fun d s => truth d s := id rfl
@[simp] theorem v_Call (f : Fn) (a : EvA) : (xCall f a).v env s = (a env s).bind f := id rfl
@[simp] theorem t_Call (f : Fn) (a : EvA) : (xCall f a).t env s = ((a env s).bind f).bind fun d s => truth d s := id rfl
@[simp] theorem v_CallK (f : Fn) (np nk : Nat) (p : List Nat) (a k : EvA) : (xCallK f np nk p a k).v env s = (a env s).bind fun us s => (k env s).bind fun ws s => f (gPerm .non np nk p us ws) s := id rfl
@[simp] theorem t_CallK (f : Fn) (np nk : Nat) (p : List Nat) (a k : EvA) : (xCallK f np nk p a k).t env s = ((xCallK f np nk p a k).v env s).bind fun d s => truth d s := id rfl
@[simp] theorem v_Bi (f : List D → Sto → R D) (a : EvA) : (xBi f a).v env s = (a env s).bind f := id rfl
@[simp] theorem t_Bi (f : List D → Sto → R D) (a : EvA) : (xBi f a).t env s = ((a env s).bind f).bind fun d s => truth d s := id rfl
@[simp] theorem v_Meth (f : D → List D → Sto → R D) (o : Sem) (a : EvA) : (xMeth f o a).v env s = (o.v env s).bind fun x s => if isL x s = true then (a env s).bind fun xs s => f x xs s else .no := id rfl
@[simp] theorem o_No : oNo env s = .ok none s := id rfl
def toO (x : D) (s : Sto) : R (Option Int) := match x with
  | .int i => .ok (some i) s
  | _ => .no
@[simp] theorem toO_int (i : Int) (s : Sto) : toO (.int i) s = .ok (some i) s := id rfl
@[simp] theorem o_Yes (a : Sem) : oYes a env s = (a.v env s).bind toO := by
  show R.bind _ _ = R.bind _ _
  congr 1
@[simp] theorem v_Slc (a : Sem) (lo hi : EvO) : (xSlc a lo hi).v env s = (a.v env s).bind fun x s => (lo env s).bind fun l s => (hi env s).bind fun h s => slcD x l h s := id rfl
@[simp] theorem v_Comp (own : List Nat) (g : EvG) (it : EvI) (c : Option Sem) (e : Sem) : (xComp own g it c e).v env s = (it env s).bind fun w s => (goWk (turnC g c e (wipeE env own)) w s).bind newL := id rfl
/-! ### truth -/
@[simp] theorem truth_non : truth .non s = .ok false s := id rfl
@[simp] theorem truth_bl (b : Bool) : truth (.bl b) s = .ok b s := id rfl
@[simp] theorem truth_int (i : Int) : truth (.int i) s = .ok (i != 0) s := id rfl
@[simp] theorem truth_tup (xs : List D) : truth (.tup xs) s = .ok (!xs.isEmpty) s := id rfl
@[simp] theorem truth_fix (xs : List D) : truth (.fix xs) s = .ok (!xs.isEmpty) s := id rfl
/-! ### statements -/
@[simp] theorem s_Nil : sNil env s = .nx env s := id rfl
@[simp] theorem s_Cons (a b : EvS) : sCons a b env s = (a env s).then b := id rfl
@[simp] theorem s_Expr (a : Sem) : sExpr a env s = (a.v env s).st fun _ s => .nx env s := id rfl
@[simp] theorem s_Asg (g : EvG) (a : Sem) : sAsg g a env s = (a.v env s).st fun d s => (g d env s).st fun env s => .nx env s := id rfl
def par2 (i j : Nat) (env : Env) (xs : List D) (s : Sto) : RS := match xs with
  | [x, y] => .nx ((env.set i (some x)).set j (some y)) s
  | _ => .no
@[simp] theorem par2_ok (i j : Nat) (x y : D) : par2 i j env [x, y] s = .nx ((env.set i (some x)).set j (some y)) s := id rfl
@[simp] theorem s_Par (i j : Nat) (a : EvA) : sPar i j a env s = (a env s).st (par2 i j env) := by
  show R.st _ _ = R.st _ _
  congr 1
def augV (i : Nat) (f : D → D → Sto → R D) (a : Sem) (env : Env) (o : Option (Option D)) (s : Sto) : RS := match o with
  | some (some x) => (a.v env s).st fun y s => (f x y s).st fun z s => .nx (env.set i (some z)) s
  | _ => .no
@[simp] theorem augV_ok (i : Nat) (f : D → D → Sto → R D) (a : Sem) (x : D) : augV i f a env (some (some x)) s = (a.v env s).st fun y s => (f x y s).st fun z s => .nx (env.set i (some z)) s := id rfl
@[simp] theorem s_Aug (i : Nat) (f : D → D → Sto → R D) (a : Sem) : sAug i f a env s = augV i f a env env[i]? s := id rfl
@[simp] theorem s_Ret (a : Sem) : sRet a env s = (a.v env s).st fun d s => .rt d s := id rfl
@[simp] theorem s_RetN : sRetN env s = .rt .non s := id rfl
@[simp] theorem s_If (c : Sem) (a b : EvS) : sIf c a b env s = (c.t env s).st fun k s => if k = true then a env s else b env s := id rfl
@[simp] theorem s_Pass : sPass env s = .nx env s := id rfl
@[simp] theorem s_Brk : sBrk env s = .bk env s := id rfl
@[simp] theorem s_Ct : sCt env s = .ct env s := id rfl
@[simp] theorem s_No : sNo env s = .no := id rfl
@[simp] theorem g_Var (i : Nat) (d : D) : gVar i d env s = .ok (env.set i (some d)) s := id rfl
@[simp] theorem gs_Nil : gsNil [] env s = .ok env s := id rfl
@[simp] theorem gs_Cons (g : EvG) (r : List D → Env → Sto → R Env) (d : D) (ds : List D) : gsCons g r (d :: ds) env s = (g d env s).bind fun env s => r ds env s := id rfl
@[simp] theorem g_Tup (n : Nat) (r : List D → Env → Sto → R Env) (xs : List D) : gTup n r (.tup xs) env s = if xs.length = n then r xs env s else .no := id rfl
@[simp] theorem g_Sub (o i : Sem) (d : D) : gSub o i d env s = (o.v env s).bind fun x s => (i.v env s).bind fun y s => (setD x y d s).bind fun _ s => .ok env s := id rfl
def wkS (g : EvG) (b : EvS) (env : Env) (w : Wk) (s : Sto) : RS := match w with
  | .its xs => forIts (bodyF g b) xs env s
  | .live i => forLive (bodyF g b) i 1000000 0 env s
  | .rd r => forRd (bodyF g b) r 1000000 0 env s
@[simp] theorem wkS_its (g : EvG) (b : EvS) (xs : List D) : wkS g b env (.its xs) s = forIts (bodyF g b) xs env s := id rfl
@[simp] theorem s_For (g : EvG) (it : EvI) (b : EvS) : sFor g it b env s = (it env s).st (wkS g b env) := by
  show R.st _ _ = R.st _ _
  congr 1
@[simp] theorem bodyF_eq (g : EvG) (b : EvS) (d : D) : bodyF g b d env s = (g d env s).st fun env s => b env s := id rfl
def fnR (r : RS) : R D := match r with
  | .rt d s => .ok d s
  | .nx _ s => .ok .non s
  | _ => .no
@[simp] theorem fnR_rt (d : D) (s : Sto) : fnR (.rt d s) = .ok d s := id rfl
@[simp] theorem fnR_nx (s : Sto) : fnR (.nx env s) = .ok .non s := id rfl
theorem fnB_eq (np n : Nat) (b : EvS) (ds : List D) : fnB np n b ds s = if ds.length = np then fnR (b (ds.map some ++ List.replicate (n - ds.length) none) s) else .no := rfl
def seqW (d : D) (s : Sto) : R Wk := match d with
  | .tup xs => .ok (.its xs) s
  | .fix xs => .ok (.its xs) s
  | .ref i => match s.get i with
    | some (.lst _) => .ok (.live i) s
    | _ => .no
  | _ => .no
@[simp] theorem seqW_tup (xs : List D) : seqW (.tup xs) s = .ok (.its xs) s := id rfl
@[simp] theorem seqW_fix (xs : List D) : seqW (.fix xs) s = .ok (.its xs) s := id rfl
@[simp] theorem i_Seq (a : Sem) : iSeq a env s = (a.v env s).bind seqW := id rfl
def rg1W (xs : List D) (s : Sto) : R Wk := match xs with
  | [.int j] => if bigI j = true then .ok (.its (rgD 0 j.toNat)) s else .no
  | _ => .no
@[simp] theorem rg1W_ok (j : Int) : rg1W [.int j] s = if bigI j = true then .ok (.its (rgD 0 j.toNat)) s else .no := id rfl
@[simp] theorem i_Rg1 (a : EvA) : iRg1 a env s = (a env s).bind rg1W := id rfl
def rg2W (xs : List D) (s : Sto) : R Wk := match xs with
  | [.int i, .int j] => if bigI i = true ∧ bigI j = true then .ok (.its (rgD i (j - i).toNat)) s else .no
  | _ => .no
@[simp] theorem rg2W_ok (i j : Int) : rg2W [.int i, .int j] s = if bigI i = true ∧ bigI j = true then .ok (.its (rgD i (j - i).toNat)) s else .no := id rfl
@[simp] theorem i_Rg2 (a : EvA) : iRg2 a env s = (a env s).bind rg2W := id rfl
/-! ### operators -/
theorem bigI_of {i : Int} (h : i.natAbs < 4611686018427387904) : bigI i = true := Nat.blt_eq.mpr h
theorem lim_lt {n : Nat} (h : n < 2 ^ 200) : n < lim4 := Nat.lt_of_lt_of_le h (Nat.pow_le_pow_right (by decide) (by decide))
@[simp] theorem lim_simp {n : Nat} (h : n < 2 ^ 200) : (n < lim4) = True := eq_true (lim_lt h)
theorem mulOk_l {i j : Int} (h : i.natAbs < 2 ^ 64) : mulOk i j = true := by unfold mulOk; rw [decide_eq_true h]; rfl
theorem mulOk_r {i j : Int} (h : j.natAbs < 2 ^ 64) : mulOk i j = true := by unfold mulOk; rw [decide_eq_true h, Bool.or_true]; rfl
theorem mulOk_b {i j : Int} (h : i.natAbs < 2 ^ 200) (h2 : j.natAbs < 2 ^ 200) : mulOk i j = true := by
  unfold mulOk; rw [decide_eq_true (lim_lt h), decide_eq_true (lim_lt h2), Bool.and_true, Bool.or_true]
@[simp] theorem add_ii (i j : Int) : addD (.int i) (.int j) s = .ok (.int (i + j)) s := id rfl
@[simp] theorem add_tt (xs ys : List D) : addD (.tup xs) (.tup ys) s = if xs.length + ys.length ≤ sizeLine then .ok (.tup (xs ++ ys)) s else .no := id rfl
@[simp] theorem sub_ii (i j : Int) : subD (.int i) (.int j) s = .ok (.int (i - j)) s := id rfl
@[simp] theorem iadd_ii (i j : Int) : iaddD (.int i) (.int j) s = .ok (.int (i + j)) s := id rfl
@[simp] theorem mul_ii (i j : Int) : mulD (.int i) (.int j) s = if mulOk i j = true then .ok (.int (i * j)) s else .no := id rfl
@[simp] theorem mul_ti (xs : List D) (k : Int) : mulD (.tup xs) (.int k) s = if xs.length ≤ 1000 ∧ -1000 ≤ k ∧ k ≤ 1000 then .ok (.tup (List.replicate k.toNat xs).flatten) s else .no := id rfl
@[simp] theorem fdiv_ii (i j : Int) : fdivD (.int i) (.int j) s = if 0 < j ∧ j.natAbs < lim4 then .ok (.int (i / j)) s else .no := id rfl
@[simp] theorem mod_ii (i j : Int) : modD (.int i) (.int j) s = if 0 < j then .ok (.int (i % j)) s else .no := id rfl
@[simp] theorem pow_ii (i j : Int) : powD (.int i) (.int j) s = if 0 ≤ j ∧ j ≤ 1000 ∧ i.natAbs < lim4 then .ok (.int (i ^ j.toNat)) s else .no := id rfl
@[simp] theorem neg_i (i : Int) : negD (.int i) s = .ok (.int (-i)) s := id rfl
@[simp] theorem ltI_ii (f : Int → Int → Bool) (i j : Int) : ltI f (.int i) (.int j) s = .ok (.bl (f i j)) s := id rfl
@[simp] theorem len_tup (xs : List D) : lenB [.tup xs] s = .ok (.int xs.length) s := id rfl
@[simp] theorem len_fix (xs : List D) : lenB [.fix xs] s = .ok (.int xs.length) s := id rfl
@[simp] theorem abs_i (i : Int) : absB [.int i] s = .ok (.int (if i < 0 then -i else i)) s := id rfl
@[simp] theorem max2_ii (i j : Int) : max2B [.int i, .int j] s = .ok (.int (if j > i then j else i)) s := id rfl
@[simp] theorem min2_ii (i j : Int) : min2B [.int i, .int j] s = .ok (.int (if j < i then j else i)) s := id rfl
@[simp] theorem int_i (i : Int) : intB [.int i] s = .ok (.int i) s := id rfl
@[simp] theorem int_b (b : Bool) : intB [.bl b] s = .ok (.int (if b then 1 else 0)) s := id rfl
@[simp] theorem tuple_t (xs : List D) : tupleB [.tup xs] s = .ok (.tup xs) s := id rfl
@[simp] theorem rev_t (xs : List D) : revD (.tup xs) s = .ok (.tup xs.reverse) s := id rfl
@[simp] theorem slc_t (xs : List D) (lo hi : Option Int) : slcD (.tup xs) lo hi s = .ok (.tup (cutD xs lo hi)) s := id rfl
/-! ### lists of the store -/
def okO (o : Option D) (s : Sto) : R D := match o with
  | some d => .ok d s
  | none => .no
@[simp] theorem okO_some (d : D) : okO (some d) s = .ok d s := id rfl
@[simp] theorem okO_none : okO none s = .no := id rfl
@[simp] theorem ix_t (xs : List D) (i : Int) : ixD (.tup xs) (.int i) s = okO (L2.atI xs i) s := by
  unfold ixD items
  dsimp only
  cases L2.atI xs i <;> rfl
@[simp] theorem ix_f (xs : List D) (i : Int) : ixD (.fix xs) (.int i) s = okO (L2.atI xs i) s := by
  unfold ixD items
  dsimp only
  cases L2.atI xs i <;> rfl
def lstO (k : List D → R D) (o : Option O) : R D := match o with
  | some (.lst xs) => k xs
  | _ => .no
@[simp] theorem lstO_some (k : List D → R D) (xs : List D) : lstO k (some (.lst xs)) = k xs := id rfl
theorem ix_r {j : Nat} {xs : List D} (h : s.get j = some (.lst xs)) (i : Int) : ixD (.ref j) (.int i) s = okO (L2.atI xs i) s := by
  unfold ixD items
  dsimp only
  rw [h]
  dsimp only
  cases L2.atI xs i <;> rfl
theorem len_r {j : Nat} {xs : List D} (h : s.get j = some (.lst xs)) : lenB [.ref j] s = .ok (.int xs.length) s := by
  unfold lenB
  dsimp only
  rw [h]
theorem tuple_r {j : Nat} {xs : List D} (h : s.get j = some (.lst xs)) : tupleB [.ref j] s = .ok (.tup xs) s := by
  unfold tupleB items
  dsimp only
  rw [h]
theorem truth_r {j : Nat} {xs : List D} (h : s.get j = some (.lst xs)) : truth (.ref j) s = .ok (!xs.isEmpty) s := by
  unfold truth
  dsimp only
  rw [h]
theorem list_t (xs : List D) : listB [.tup xs] s = .ok (.ref s.n) (s.add (.lst xs)) := rfl
theorem list_r {j : Nat} {xs : List D} (h : s.get j = some (.lst xs)) : listB [.ref j] s = .ok (.ref s.n) (s.add (.lst xs)) := by
  unfold listB items
  dsimp only
  rw [h]
theorem isL_r {j : Nat} {xs : List D} (h : s.get j = some (.lst xs)) : isL (.ref j) s = true := by
  unfold isL
  dsimp only
  rw [h]
theorem append_r {j : Nat} {xs : List D} (h : s.get j = some (.lst xs)) (y : D) (hz : xs.length < sizeLine) : appendM (.ref j) [y] s = .ok .non (s.set j (.lst (xs ++ [y]))) := by
  unfold appendM
  dsimp only
  rw [h]
  dsimp only
  rw [if_pos hz]
theorem extend_r {j k : Nat} {xs ys : List D} (h : s.get j = some (.lst xs)) (h2 : s.get k = some (.lst ys)) (hz : xs.length + ys.length ≤ sizeLine) : extendM (.ref j) [.ref k] s = .ok .non (s.set j (.lst (xs ++ ys))) := by
  unfold extendM
  dsimp only
  rw [h, h2]
  dsimp only
  rw [if_pos hz]
theorem pop_r {j : Nat} {xs : List D} {y : D} (h : s.get j = some (.lst (xs ++ [y]))) : popM (.ref j) [] s = .ok y (s.set j (.lst xs)) := by
  unfold popM
  dsimp only
  rw [h]
  dsimp only
  have e : (xs ++ [y])[(xs ++ [y]).length - 1]? = some y := by simp
  rw [e]
  dsimp only
  rw [List.dropLast_concat]
theorem slc_r {j : Nat} {xs : List D} (h : s.get j = some (.lst xs)) (lo hi : Option Int) : slcD (.ref j) lo hi s = .ok (.ref s.n) (s.add (.lst (cutD xs lo hi))) := by
  unfold slcD
  dsimp only
  rw [h]
theorem rev_r {j : Nat} {xs : List D} (h : s.get j = some (.lst xs)) : revD (.ref j) s = .ok (.ref s.n) (s.add (.lst xs.reverse)) := by
  unfold revD
  dsimp only
  rw [h]
theorem add_rr {i j : Nat} {xs ys : List D} (h : s.get i = some (.lst xs)) (h2 : s.get j = some (.lst ys)) (hz : xs.length + ys.length ≤ sizeLine) : addD (.ref i) (.ref j) s = .ok (.ref s.n) (s.add (.lst (xs ++ ys))) := by
  unfold addD
  dsimp only
  rw [h, h2]
  dsimp only
  rw [if_pos hz]
theorem mul_ri {i : Nat} {xs : List D} {k : Int} (h : s.get i = some (.lst xs)) (h1 : -(2 ^ 62) ≤ k) (h2 : k < 2 ^ 62) (hz : xs.length * k.toNat ≤ sizeLine) : mulD (.ref i) (.int k) s = .ok (.ref s.n) (s.add (.lst (List.replicate k.toNat xs).flatten)) := by
  unfold mulD
  dsimp only
  rw [h]
  dsimp only
  rw [if_pos ⟨h1, h2, hz⟩]
theorem set_r {j k : Nat} {xs : List D} {i : Int} (h : s.get j = some (.lst xs)) (hk : L2.ixN xs.length i = some k) (v : D) : setD (.ref j) (.int i) v s = .ok () (s.set j (.lst (xs.set k v))) := by
  unfold setD
  dsimp only
  rw [h]
  dsimp only
  rw [hk]
theorem newL_ok' {xs : List D} (hz : xs.length ≤ sizeLine) : newL xs s = .ok (.ref s.n) (s.add (.lst xs)) := if_pos hz
theorem all_r {j : Nat} {bs : List Bool} (h : s.get j = some (.lst (bs.map .bl))) : allB [.ref j] s = .ok (.bl (bs.all id)) s := by
  have e : bools (bs.map D.bl) = some bs := by
    induction bs with
    | nil => rfl
    | cons b bs ih =>
      have ih' : bools (bs.map D.bl) = some bs := by
        clear h ih
        induction bs with
        | nil => rfl
        | cons b bs ih => show (bools (bs.map D.bl)).map _ = _; rw [ih]; rfl
      show (bools (bs.map D.bl)).map _ = _
      rw [ih']; rfl
  unfold allB litems
  dsimp only
  rw [h]
  dsimp only
  rw [Option.bind_some, e]
theorem bools_map (bs : List Bool) : bools (bs.map D.bl) = some bs := by
  induction bs with
  | nil => rfl
  | cons b bs ih => show (bools (bs.map D.bl)).map _ = _; rw [ih]; rfl
theorem ints_map (bs : List Int) : intsD (bs.map D.int) = some bs := by
  induction bs with
  | nil => rfl
  | cons b bs ih => show (intsD (bs.map D.int)).map _ = _; rw [ih]; rfl
theorem any_r {j : Nat} {bs : List Bool} (h : s.get j = some (.lst (bs.map .bl))) : anyB [.ref j] s = .ok (.bl (bs.any id)) s := by
  unfold anyB litems
  dsimp only
  rw [h]
  dsimp only
  rw [Option.bind_some, bools_map]
theorem sum_r {j : Nat} {bs : List Int} (h : s.get j = some (.lst (bs.map .int))) : sumB [.ref j] s = .ok (.int bs.sum) s := by
  unfold sumB litems
  dsimp only
  rw [h]
  dsimp only
  rw [Option.bind_some, ints_map]
end
/-! ### what stood stands -/
structure Le (s s' : Sto) : Prop where
  n : s.n ≤ s'.n
  get : ∀ i, i < s.n → s'.get i = s.get i
theorem Le.refl (s : Sto) : Le s s := ⟨Nat.le_refl _, fun _ _ => rfl⟩
theorem Le.trans {s s1 s2 : Sto} (a : Le s s1) (b : Le s1 s2) : Le s s2 := ⟨Nat.le_trans a.n b.n, fun i h => (b.get i (Nat.lt_of_lt_of_le h a.n)).trans (a.get i h)⟩
theorem Le.add (s : Sto) (o : O) : Le s (s.add o) := ⟨Nat.le_succ _, fun i h => by rw [Sto.get_add, if_neg (by omega)]⟩
/-- a later object may change -/
theorem Le.set {s s' : Sto} (a : Le s s') {j : Nat} (h : s.n ≤ j) (o : O) : Le s (s'.set j o) := ⟨a.n, fun i hi => by rw [Sto.get_set, if_neg (by omega)]; exact a.get i hi⟩
theorem get_add_same (s : Sto) (o : O) : (s.add o).get s.n = some o := by rw [Sto.get_add, if_pos rfl]
theorem get_add_ne {s : Sto} {o : O} {j : Nat} (h : j ≠ s.n) : (s.add o).get j = s.get j := by rw [Sto.get_add, if_neg h]
theorem get_set_same (s : Sto) (j : Nat) (o : O) : (s.set j o).get j = some o := by rw [Sto.get_set, if_pos rfl]
theorem get_set_ne {s : Sto} {i j : Nat} {o : O} (h : j ≠ i) : (s.set i o).get j = s.get j := by rw [Sto.get_set, if_neg h]
/-- r gives a, old objects stay -/
def Ev {α : Type} (r : R α) (s : Sto) (a : α) : Prop := ∃ s', r = .ok a s' ∧ Le s s'
theorem Ev.ok {α : Type} (a : α) (s : Sto) : Ev (.ok a s) s a := ⟨s, rfl, .refl s⟩
theorem Ev.later {α : Type} {r : R α} {s s1 : Sto} {a : α} (h : Ev r s1 a) (l : Le s s1) : Ev r s a := let ⟨s', e, l'⟩ := h; ⟨s', e, l.trans l'⟩
/-! ### loops -/
theorem forIts_inv {b : D → Env → Sto → RS} (P : Nat → Env → Sto → Prop) : ∀ (xs : List D) (k : Nat) (env : Env) (s : Sto), P k env s →
    (∀ i x env s, xs[i]? = some x → P (k + i) env s → ∃ env' s', (b x env s = .nx env' s' ∨ b x env s = .ct env' s') ∧ P (k + i + 1) env' s') →
    ∃ env' s', forIts b xs env s = .nx env' s' ∧ P (k + xs.length) env' s'
  | [], k, env, s, h, _ => ⟨env, s, rfl, h⟩
  | x :: xs, k, env, s, h, hs => by
    obtain ⟨e1, s1, h1, p1⟩ := hs 0 x env s rfl h
    obtain ⟨e2, s2, h2, p2⟩ := forIts_inv P xs (k + 1) e1 s1 p1 fun i y env s hy p => by
      have := hs (i + 1) y env s (by simpa using hy) (by rw [show k + (i + 1) = k + 1 + i by omega]; exact p)
      rw [show k + 1 + i + 1 = k + (i + 1) + 1 by omega]; exact this
    refine ⟨e2, s2, ?_, by rw [List.length_cons, show k + (xs.length + 1) = k + 1 + xs.length by omega]; exact p2⟩
    show (b x env s).turn (forIts b xs) = _
    rcases h1 with h1 | h1 <;> rw [h1] <;> exact h2
/-- a loop that may return -/
theorem forIts_ret {b : D → Env → Sto → RS} (P : Nat → Env → Sto → Prop) (Q : D → Sto → Prop) : ∀ (xs : List D) (k : Nat) (env : Env) (s : Sto), P k env s →
    (∀ i x env s, xs[i]? = some x → P (k + i) env s → (∃ env' s', (b x env s = .nx env' s' ∨ b x env s = .ct env' s') ∧ P (k + i + 1) env' s') ∨ ∃ d s', b x env s = .rt d s' ∧ Q d s') →
    (∃ env' s', forIts b xs env s = .nx env' s' ∧ P (k + xs.length) env' s') ∨ ∃ d s', forIts b xs env s = .rt d s' ∧ Q d s'
  | [], k, env, s, h, _ => .inl ⟨env, s, rfl, h⟩
  | x :: xs, k, env, s, h, hs => by
    rcases hs 0 x env s rfl h with ⟨e1, s1, h1, p1⟩ | ⟨d, s1, h1, q1⟩
    · have go : forIts b (x :: xs) env s = forIts b xs e1 s1 := by
        show (b x env s).turn (forIts b xs) = _
        rcases h1 with h1 | h1 <;> rw [h1] <;> rfl
      rw [go]
      rcases forIts_ret P Q xs (k + 1) e1 s1 p1 fun i y env s hy p => by
        have := hs (i + 1) y env s (by simpa using hy) (by rw [show k + (i + 1) = k + 1 + i by omega]; exact p)
        rw [show k + 1 + i + 1 = k + (i + 1) + 1 by omega]; exact this with ⟨e2, s2, h2, p2⟩ | h2
      · exact .inl ⟨e2, s2, h2, by rw [List.length_cons, show k + (xs.length + 1) = k + 1 + xs.length by omega]; exact p2⟩
      · exact .inr h2
    · refine .inr ⟨d, s1, ?_, q1⟩
      show (b x env s).turn (forIts b xs) = _
      rw [h1]; rfl
/-- a while, by an invariant and a measure -/
theorem whl_inv {c : Sem} {b : EvS} (P : Env → Sto → Prop) (Q : Env → Sto → Prop) (mes : Env → Nat) : ∀ (k : Nat) (env : Env) (s : Sto), P env s → mes env < k →
    (∀ env s, P env s → (∃ s1, c.t env s = .ok false s1 ∧ Q env s1) ∨ ∃ s1 env' s', c.t env s = .ok true s1 ∧ (b env s1 = .nx env' s' ∨ b env s1 = .ct env' s') ∧ P env' s' ∧ mes env' < mes env) →
    ∃ env' s', whl c b k env s = .nx env' s' ∧ Q env' s'
  | 0, env, s, h, hk, _ => absurd hk (Nat.not_lt_zero _)
  | k + 1, env, s, h, hk, hs => by
    rcases hs env s h with ⟨s1, h1, q⟩ | ⟨s1, env', s', h1, h2, p, hm⟩
    · refine ⟨env, s1, ?_, q⟩
      show (c.t env s).st _ = _
      rw [h1]; rfl
    · obtain ⟨e2, s2, h3, q⟩ := whl_inv P Q mes k env' s' p (by omega) hs
      refine ⟨e2, s2, ?_, q⟩
      show (c.t env s).st _ = _
      rw [h1]
      show (b env s1).turn (whl c b k) = _
      rcases h2 with h2 | h2 <;> rw [h2] <;> exact h3
/-! ### comprehensions: each turn's item by a function of the item -/
theorem goIts_fun {f : Turn} (F : D → Option D) : ∀ (xs : List D) (s : Sto), (∀ x ∈ xs, ∀ s', Le s s' → Ev (f x s') s' (F x)) → Ev (goIts f xs s) s (xs.filterMap F)
  | [], s, _ => .ok _ _
  | x :: xs, s, h => by
    obtain ⟨s1, e1, l1⟩ := h x List.mem_cons_self s (.refl s)
    obtain ⟨s2, e2, l2⟩ := goIts_fun F xs s1 fun y hy s' hl => h y (List.mem_cons_of_mem _ hy) s' (l1.trans hl)
    refine ⟨s2, ?_, l1.trans l2⟩
    show (f x s).bind _ = _
    rw [e1]
    show (goIts f xs s1).bind _ = _
    rw [e2]
    show R.ok (conO (F x) (xs.filterMap F)) s2 = _
    rw [List.filterMap_cons]
    cases F x <;> rfl
/-- without a test -/
theorem goIts_map {f : Turn} (F : D → D) (xs : List D) (s : Sto) (h : ∀ x ∈ xs, ∀ s', Le s s' → Ev (f x s') s' (some (F x))) : Ev (goIts f xs s) s (xs.map F) := by
  have := goIts_fun (f := f) (fun x => some (F x)) xs s h
  rw [List.filterMap_eq_map'] at this
  exact this
/-- the turns' states told: an invariant over the number of turns -/
theorem goIts_inv {f : Turn} (P : Nat → List D → Sto → Prop) : ∀ (xs : List D) (k : Nat) (acc : List D) (s : Sto), P k acc s →
    (∀ i x acc s, xs[i]? = some x → P (k + i) acc s → ∃ o s', f x s = .ok o s' ∧ P (k + i + 1) (acc ++ conO o []) s') →
    ∃ ys s', goIts f xs s = .ok ys s' ∧ P (k + xs.length) (acc ++ ys) s'
  | [], k, acc, s, h, _ => ⟨[], s, rfl, by rw [List.append_nil]; exact h⟩
  | x :: xs, k, acc, s, h, hs => by
    obtain ⟨o, s1, e1, p1⟩ := hs 0 x acc s rfl h
    obtain ⟨ys, s2, e2, p2⟩ := goIts_inv P xs (k + 1) _ s1 p1 fun i y acc s hy p => by
      have := hs (i + 1) y acc s (by simpa using hy) (by rw [show k + (i + 1) = k + 1 + i by omega]; exact p)
      rw [show k + 1 + i + 1 = k + (i + 1) + 1 by omega]; exact this
    refine ⟨conO o ys, s2, ?_, ?_⟩
    · show (f x s).bind _ = _
      rw [e1]
      show (goIts f xs s1).bind _ = _
      rw [e2]; rfl
    · rw [List.length_cons, show k + (xs.length + 1) = k + 1 + xs.length by omega]
      have e : acc ++ conO o ys = acc ++ conO o [] ++ ys := by cases o <;> simp [conO]
      rw [e]; exact p2
theorem goWk_its (f : Turn) (xs : List D) (s : Sto) : goWk f (.its xs) s = goIts f xs s := rfl
end Cs
namespace Cs
@[simp] theorem turnC_none (g : EvG) (e : Sem) (env : Env) (x : D) (s : Sto) : turnC g none e env x s = (g x env s).bind fun env s => (e.v env s).bind fun y s => .ok (some y) s := id rfl
@[simp] theorem turnC_some (g : EvG) (c e : Sem) (env : Env) (x : D) (s : Sto) : turnC g (some c) e env x s = (g x env s).bind fun env s => (c.t env s).bind fun b s => if b = true then (e.v env s).bind fun y s => .ok (some y) s else .ok none s := id rfl
@[simp] theorem wipeE_nil (env : Env) : wipeE env [] = env := id rfl
@[simp] theorem wipeE_cons (env : Env) (v : Nat) (vs : List Nat) : wipeE env (v :: vs) = (wipeE env vs).set v none := id rfl
end Cs

/-! ## CsRun2 -/
/-! Walking a list that stands in the store. -/
namespace Cs
open PySem
theorem seqW_ref {s : Sto} {i : Nat} {xs : List D} (h : s.get i = some (.lst xs)) : seqW (.ref i) s = .ok (.live i) s := by
  unfold seqW
  dsimp only
  rw [h]
theorem goLive_fun {f : Turn} (F : D → Option D) {i : Nat} {xs : List D} : ∀ (k j : Nat) (s : Sto), i < s.n → s.get i = some (.lst xs) → xs.length - j < k → (∀ x ∈ xs, ∀ s', Le s s' → Ev (f x s') s' (F x)) → Ev (goLive f i k j s) s ((xs.drop j).filterMap F)
  | 0, j, s, _, _, hk, _ => absurd hk (Nat.not_lt_zero _)
  | k + 1, j, s, hi, hg, hk, h => by
    by_cases hj : j < xs.length
    · obtain ⟨s1, e1, l1⟩ := h xs[j] (List.getElem_mem hj) s (.refl s)
      obtain ⟨s2, e2, l2⟩ := goLive_fun F k (j + 1) s1 (Nat.lt_of_lt_of_le hi l1.n) (by rw [l1.get i hi, hg]) (by omega) fun y hy s' hl => h y hy s' (l1.trans hl)
      refine ⟨s2, ?_, l1.trans l2⟩
      unfold goLive
      rw [hg]
      dsimp only
      rw [List.getElem?_eq_getElem hj]
      dsimp only
      rw [e1]
      show (goLive f i k (j + 1) s1).bind _ = _
      rw [e2]
      show R.ok (conO (F xs[j]) ((xs.drop (j + 1)).filterMap F)) s2 = _
      rw [List.drop_eq_getElem_cons hj, List.filterMap_cons]
      cases F xs[j] <;> rfl
    · refine ⟨s, ?_, .refl s⟩
      unfold goLive
      rw [hg]
      dsimp only
      rw [List.getElem?_eq_none (by omega)]
      dsimp only
      rw [List.drop_eq_nil_of_le (by omega)]
      rfl
theorem goWk_live {f : Turn} (F : D → D) {i : Nat} {xs : List D} (s : Sto) (hi : i < s.n) (hg : s.get i = some (.lst xs)) (hk : xs.length < 1000000) (h : ∀ x ∈ xs, ∀ s', Le s s' → Ev (f x s') s' (some (F x))) : Ev (goWk f (.live i) s) s (xs.map F) := by
  have := goLive_fun (f := f) (fun x => some (F x)) 1000000 0 s hi hg (by omega) h
  rw [List.drop_zero, List.filterMap_eq_map'] at this
  exact this
theorem goWk_live_fun {f : Turn} (F : D → Option D) {i : Nat} {xs : List D} (s : Sto) (hi : i < s.n) (hg : s.get i = some (.lst xs)) (hk : xs.length < 1000000) (h : ∀ x ∈ xs, ∀ s', Le s s' → Ev (f x s') s' (F x)) : Ev (goWk f (.live i) s) s (xs.filterMap F) := by
  have := goLive_fun (f := f) F 1000000 0 s hi hg (by omega) h
  rw [List.drop_zero] at this
  exact this
@[simp] theorem wkS_live (g : EvG) (b : EvS) (i : Nat) (env : Env) (s : Sto) : wkS g b env (.live i) s = forLive (bodyF g b) i 1000000 0 env s := id rfl
theorem forLive_inv {b : D → Env → Sto → RS} (P : Nat → Env → Sto → Prop) {i : Nat} {xs : List D} (hP : ∀ k env s, P k env s → s.get i = some (.lst xs)) : ∀ (f k : Nat) (env : Env) (s : Sto), P k env s → xs.length - k < f → k ≤ xs.length →
    (∀ k x env s, xs[k]? = some x → P k env s → ∃ env' s', (b x env s = .nx env' s' ∨ b x env s = .ct env' s') ∧ P (k + 1) env' s') →
    ∃ env' s', forLive b i f k env s = .nx env' s' ∧ P xs.length env' s'
  | 0, k, env, s, _, hf, _, _ => absurd hf (Nat.not_lt_zero _)
  | f + 1, k, env, s, h, hf, hk, hs => by
    by_cases hj : k < xs.length
    · obtain ⟨e1, s1, h1, p1⟩ := hs k xs[k] env s (List.getElem?_eq_getElem hj) h
      obtain ⟨e2, s2, h2, p2⟩ := forLive_inv P hP f (k + 1) e1 s1 p1 (by omega) (by omega) hs
      refine ⟨e2, s2, ?_, p2⟩
      unfold forLive
      rw [hP _ _ _ h]
      dsimp only
      rw [List.getElem?_eq_getElem hj]
      dsimp only
      rcases h1 with h1 | h1 <;> rw [h1] <;> exact h2
    · refine ⟨env, s, ?_, by rw [show xs.length = k by omega]; exact h⟩
      unfold forLive
      rw [hP _ _ _ h]
      dsimp only
      rw [List.getElem?_eq_none (by omega)]
theorem forLive_ret {b : D → Env → Sto → RS} (P : Nat → Env → Sto → Prop) (Q : D → Sto → Prop) {i : Nat} {xs : List D} (hP : ∀ k env s, P k env s → s.get i = some (.lst xs)) : ∀ (f k : Nat) (env : Env) (s : Sto), P k env s → xs.length - k < f → k ≤ xs.length →
    (∀ k x env s, xs[k]? = some x → P k env s → (∃ env' s', (b x env s = .nx env' s' ∨ b x env s = .ct env' s') ∧ P (k + 1) env' s') ∨ ∃ d s', b x env s = .rt d s' ∧ Q d s') →
    (∃ env' s', forLive b i f k env s = .nx env' s' ∧ P xs.length env' s') ∨ ∃ d s', forLive b i f k env s = .rt d s' ∧ Q d s'
  | 0, k, env, s, _, hf, _, _ => absurd hf (Nat.not_lt_zero _)
  | f + 1, k, env, s, h, hf, hk, hs => by
    by_cases hj : k < xs.length
    · have go : ∀ r, (b xs[k] env s).turn (forLive b i f (k + 1)) = r → forLive b i (f + 1) k env s = r := by
        intro r hr
        unfold forLive
        rw [hP _ _ _ h]
        dsimp only
        rw [List.getElem?_eq_getElem hj]
        exact hr
      rcases hs k xs[k] env s (List.getElem?_eq_getElem hj) h with ⟨e1, s1, h1, p1⟩ | ⟨d, s1, h1, q1⟩
      · have go2 : (b xs[k] env s).turn (forLive b i f (k + 1)) = forLive b i f (k + 1) e1 s1 := by
          rcases h1 with h1 | h1 <;> rw [h1] <;> rfl
        rcases forLive_ret P Q hP f (k + 1) e1 s1 p1 (by omega) (by omega) hs with ⟨e2, s2, h2, p2⟩ | ⟨d, s2, h2, q2⟩
        · exact .inl ⟨e2, s2, go _ (go2.trans h2), p2⟩
        · exact .inr ⟨d, s2, go _ (go2.trans h2), q2⟩
      · exact .inr ⟨d, s1, go _ (by rw [h1]; rfl), q1⟩
    · refine .inl ⟨env, s, ?_, by rw [show xs.length = k by omega]; exact h⟩
      unfold forLive
      rw [hP _ _ _ h]
      dsimp only
      rw [List.getElem?_eq_none (by omega)]
end Cs

/-! ## CsRun3 -/
/-! Evaluation of what CsSem2 adds. -/
namespace Cs
open PySem
section
variable (env : Env) (s : Sto)
def par3 (i j l : Nat) (env : Env) (xs : List D) (s : Sto) : RS := match xs with
  | [x, y, z] => .nx (((env.set i (some x)).set j (some y)).set l (some z)) s
  | _ => .no
@[simp] theorem par3_ok (i j l : Nat) (x y z : D) : par3 i j l env [x, y, z] s = .nx (((env.set i (some x)).set j (some y)).set l (some z)) s := id rfl
@[simp] theorem s_Par3 (i j l : Nat) (a : EvA) : sPar3 i j l a env s = (a env s).st (par3 i j l env) := by
  show R.st _ _ = R.st _ _
  congr 1
def rg3W (xs : List D) (s : Sto) : R Wk := match xs with
  | [.int i, .int j, .int c] => if c = -1 ∧ bigI i = true ∧ bigI j = true then .ok (.its (rgdD i (i - j).toNat)) s else .no
  | _ => .no
@[simp] theorem rg3W_ok (i j : Int) : rg3W [.int i, .int j, .int (-1)] s = if bigI i = true ∧ bigI j = true then .ok (.its (rgdD i (i - j).toNat)) s else .no := by
  show (if (-1 : Int) = -1 ∧ _ then _ else _) = _
  simp
@[simp] theorem i_Rg3 (a : EvA) : iRg3 a env s = (a env s).bind rg3W := id rfl
def enW (xs : List D) (s : Sto) : R Wk := match xs with
  | [.tup xs] => .ok (.its (enumD xs)) s
  | _ => .no
@[simp] theorem enW_ok (xs : List D) : enW [.tup xs] s = .ok (.its (enumD xs)) s := id rfl
@[simp] theorem i_Enum (a : EvA) : iEnum a env s = (a env s).bind enW := id rfl
theorem index_r {s : Sto} {j k : Nat} {ns : List Int} {i : Int} (h : s.get j = some (.lst (ns.map .int))) (hk : ns.findIdx? (· == i) = some k) : indexM (.ref j) [.int i] s = .ok (.int (k : Nat)) s := by
  unfold indexM
  dsimp only
  rw [h]
  dsimp only
  rw [ints_map]
  dsimp only
  rw [hk]
theorem enumD_at {xs : List D} {j : Nat} {x : D} (h : (enumD xs)[j]? = some x) : ∃ y, xs[j]? = some y ∧ x = .tup [.int (j : Nat), y] := by
  unfold enumD at h
  rw [List.getElem?_map, List.getElem?_zipIdx] at h
  cases hx : xs[j]? with
  | none => rw [hx] at h; cases h
  | some y =>
    rw [hx] at h
    refine ⟨y, rfl, ?_⟩
    have := Option.some.inj h
    rw [← this]
    simp
theorem rgdD_at {i : Int} {n j : Nat} {x : D} (h : (rgdD i n)[j]? = some x) : j < n ∧ x = .int (i - (j : Nat)) := by
  unfold rgdD at h
  rw [List.getElem?_map] at h
  obtain ⟨k, h1, h2⟩ := Option.map_eq_some_iff.mp h
  have hi : j < n := by
    have := (List.getElem?_eq_some_iff.mp h1).1
    simpa using this
  rw [List.getElem?_range hi] at h1
  cases h1
  exact ⟨hi, h2.symm⟩
end
end Cs

/-! ## CsWalk -/
/-! Walks as lists of ints; what the pieces give on them. -/
namespace Cs
open PySem
theorem size_eq : sizeLine = 16777216 := sizeLine_eq
abbrev tw (w : List Int) : D := .tup (w.map .int)
theorem map_at {w : List Int} {i : Nat} {x : D} (h : (w.map D.int)[i]? = some x) : ∃ n, w[i]? = some n ∧ x = .int n := by
  rw [List.getElem?_map] at h
  obtain ⟨n, h1, h2⟩ := Option.map_eq_some_iff.mp h
  exact ⟨n, h1, h2.symm⟩
theorem take_fold {α β : Type} (f : β → α → β) (b : β) {w : List α} {i : Nat} {n : α} (h : w[i]? = some n) : (w.take (i + 1)).foldl f b = f ((w.take i).foldl f b) n := by
  rw [List.take_add_one, h, List.foldl_append]; rfl
theorem atI_last' (xs : List D) (y : D) : L2.atI (xs ++ [y]) (-1) = some y := L2.atI_last xs y
theorem atI_nat' {xs : List D} {j : Nat} {v : D} (h : xs[j]? = some v) : L2.atI xs (j : Int) = some v := L2.atI_nat h
theorem atI_at {w : List Int} {i : Int} {j : Nat} {n : Int} (hi : i = (j : Int)) (h : w[j]? = some n) : L2.atI (w.map D.int) i = some (.int n) := by
  subst hi
  exact L2.atI_nat (by rw [List.getElem?_map, h]; rfl)
@[simp] theorem eqD_ii (i j : Int) (s : Sto) : eqD (.int i) (.int j) s = .ok (.bl (i == j)) s := by
  unfold eqD
  simp [pyd, PyData.eqv]
@[simp] theorem neD_ii (i j : Int) (s : Sto) : neD (.int i) (.int j) s = .ok (.bl (!(i == j))) s := by
  unfold neD
  simp [pyd, PyData.eqv]
theorem pyd_ints (s : Sto) (k : Nat) (w : List Int) : mapO (pyd s k) (w.map D.int) = some (w.map PyData.int) := by
  induction w with
  | nil => rfl
  | cons x w ih =>
    have e : pyd s k (.int x) = some (.int x) := by cases k <;> rfl
    simp only [List.map_cons, mapO, e, ih]
theorem pyd_tw (s : Sto) (k : Nat) (w : List Int) : pyd s (k + 1) (tw w) = some (.tuple (w.map PyData.int)) := by
  show (mapO (pyd s k) (w.map D.int)).map PyData.tuple = _
  rw [pyd_ints]; rfl
theorem eqv_ints : ∀ (w v : List Int), PyData.eqvAll (w.map .int) (v.map .int) = decide (w = v)
  | [], [] => by simp [PyData.eqvAll]
  | [], y :: v => by simp [PyData.eqvAll]
  | x :: w, [] => by simp [PyData.eqvAll]
  | x :: w, y :: v => by
    have ih := eqv_ints w v
    simp only [List.map_cons, PyData.eqvAll, PyData.eqv, ih]
    by_cases h : x = y
    · subst h; simp
    · simp [h]
theorem eqD_tw (w v : List Int) (s : Sto) : eqD (tw w) (tw v) s = .ok (.bl (decide (w = v))) s := by
  unfold eqD
  rw [pyd_tw, pyd_tw]
  show R.ok (D.bl (PyData.eqv _ _)) s = _
  rw [show PyData.eqv (.tuple (w.map PyData.int)) (.tuple (v.map PyData.int)) = PyData.eqvAll (w.map .int) (v.map .int) by simp [PyData.eqv], eqv_ints]
theorem neD_tw (w v : List Int) (s : Sto) : neD (tw w) (tw v) s = .ok (.bl (!decide (w = v))) s := by
  unfold neD
  rw [pyd_tw, pyd_tw]
  show R.ok (D.bl (!PyData.eqv _ _)) s = _
  rw [show PyData.eqv (.tuple (w.map PyData.int)) (.tuple (v.map PyData.int)) = PyData.eqvAll (w.map .int) (v.map .int) by simp [PyData.eqv], eqv_ints]
/-! ### slices -/
def cutI (xs : List Int) (lo hi : Option Int) : List Int := (xs.drop (HT.sIx xs.length 0 lo)).take (HT.sIx xs.length xs.length hi - HT.sIx xs.length 0 lo)
theorem cut_map (w : List Int) (lo hi : Option Int) : cutD (w.map D.int) lo hi = (cutI w lo hi).map D.int := by
  unfold cutD cutI
  rw [List.length_map, List.map_take, List.map_drop]
theorem sIx_of {n d k : Nat} {i : Int} (h : i = (k : Int)) : HT.sIx n d (some i) = min k n := by subst h; exact HT.sIx_nat n d k
theorem cut_to {w : List Int} {k : Nat} {i : Int} (h : i = (k : Int)) : cutI w none (some i) = w.take k := by
  unfold cutI
  rw [sIx_of h, HT.sIx_none]
  simp
theorem cut_from {w : List Int} {k : Nat} {i : Int} (h : i = (k : Int)) : cutI w (some i) none = w.drop k := by
  unfold cutI
  rw [sIx_of h, HT.sIx_none]
  by_cases hk : k ≤ w.length
  · rw [Nat.min_eq_left hk]
    exact List.take_of_length_le (by rw [List.length_drop]; exact Nat.le_refl _)
  · rw [Nat.min_eq_right (by omega)]
    simp [List.drop_eq_nil_of_le (show w.length ≤ k by omega)]
theorem cut_mid {w : List Int} {k m : Nat} {i j : Int} (h : i = (k : Int)) (h2 : j = (m : Int)) : cutI w (some i) (some j) = (w.drop k).take (m - k) := by
  unfold cutI
  rw [sIx_of h, sIx_of h2]
  by_cases hk : k ≤ w.length
  · rw [Nat.min_eq_left hk]
    by_cases hm : m ≤ w.length
    · rw [Nat.min_eq_left hm]
    · rw [Nat.min_eq_right (show w.length ≤ m by omega)]
      rw [List.take_of_length_le (by rw [List.length_drop]; exact Nat.le_refl _), List.take_of_length_le (by rw [List.length_drop]; omega)]
  · rw [Nat.min_eq_right (show w.length ≤ k by omega)]
    rw [List.drop_eq_nil_of_le (Nat.le_refl _), List.drop_eq_nil_of_le (show w.length ≤ k by omega)]
    simp
theorem rep_map (k : Nat) (w : List Int) : (List.replicate k (w.map D.int)).flatten = ((List.replicate k w).flatten).map D.int := by
  rw [List.map_flatten, List.map_replicate]
/-! ### free reduction -/
/-- one step upon a straight walk, its last step first -/
def push : List Int → Int → List Int
  | y :: r, x => if y = -x then r else x :: y :: r
  | [], x => [x]
theorem push_cons (y : Int) (r : List Int) (x : Int) : push (y :: r) x = if y = -x then r else x :: y :: r := rfl
theorem push_nil (x : Int) : push [] x = [x] := rfl
def redS (w : List Int) : List Int := w.foldl push []
def red (w : List Int) : List Int := (redS w).reverse
theorem push_len (r : List Int) (x : Int) : (push r x).length ≤ r.length + 1 := by
  unfold push
  split
  · split <;> simp <;> omega
  · simp
theorem foldl_push_len (w : List Int) : ∀ r : List Int, (w.foldl push r).length ≤ r.length + w.length := by
  induction w with
  | nil => intro r; simp
  | cons x w ih =>
    intro r
    have := ih (push r x)
    have := push_len r x
    simp only [List.foldl_cons, List.length_cons]
    omega
theorem red_len (w : List Int) : (red w).length ≤ w.length := by
  have := foldl_push_len w []
  unfold red redS
  simpa using this
/-- no step stands next to its opposite one -/
def Rdc : List Int → Prop
  | x :: y :: r => x ≠ -y ∧ Rdc (y :: r)
  | _ => True
theorem Rdc.tail {x : Int} {r : List Int} (h : Rdc (x :: r)) : Rdc r := by
  cases r with
  | nil => trivial
  | cons y r => exact h.2
theorem push_str {r : List Int} (h : Rdc r) (x : Int) : Rdc (push r x) := by
  cases r with
  | nil => trivial
  | cons y r =>
    rw [push_cons]
    by_cases e : y = -x
    · rw [if_pos e]; exact h.tail
    · rw [if_neg e]
      exact ⟨fun z => e (by omega), h⟩
theorem foldl_str (w : List Int) : ∀ r : List Int, Rdc r → Rdc (w.foldl push r) := by
  induction w with
  | nil => intro r h; exact h
  | cons x w ih => intro r h; exact ih _ (push_str h x)
theorem redS_str (w : List Int) : Rdc (redS w) := foldl_str w [] trivial
/-- a step and its opposite one, upon a straight walk, are nothing -/
theorem push_back {r : List Int} (h : Rdc r) (x : Int) (hx : x ≠ 0) : push (push r x) (-x) = r := by
  cases r with
  | nil => simp [push]
  | cons y r =>
    by_cases e : y = -x
    · have e1 : push (y :: r) x = r := by simp [push, e]
      rw [e1]
      cases r with
      | nil => simp [push, e]
      | cons z r =>
        have : z ≠ x := fun q => h.1 (by rw [e, q])
        have n : ¬ z = - -x := by omega
        simp [push, e, this]
    · have e1 : push (y :: r) x = x :: y :: r := by simp [push, e]
      rw [e1]
      simp [push]
def bk (w : List Int) : List Int := (w.map fun x => -x).reverse
theorem bk_len (w : List Int) : (bk w).length = w.length := by simp [bk]
theorem bk_bk (w : List Int) : bk (bk w) = w := by
  unfold bk
  rw [List.map_reverse, List.reverse_reverse, List.map_map]
  have e : ((fun x : Int => -x) ∘ fun x => -x) = id := by funext x; show - -x = x; omega
  rw [e, List.map_id]
/-- pushing a walk is pushing its straight form -/
theorem push_red {r : List Int} (hr : Rdc r) : ∀ (w st : List Int), (∀ x ∈ w, x ≠ 0) → (∀ x ∈ st, x ≠ 0) → Rdc st → (w.foldl push st).reverse.foldl push r = w.foldl push (st.reverse.foldl push r) := by
  intro w
  induction w with
  | nil => intro st _ _ _; rfl
  | cons x w ih =>
    intro st hw hst hs
    have hx := hw x List.mem_cons_self
    have hw' : ∀ y ∈ w, y ≠ 0 := fun y hy => hw y (List.mem_cons_of_mem _ hy)
    rw [List.foldl_cons, List.foldl_cons]
    have hst' : ∀ y ∈ push st x, y ≠ 0 := by
      intro y hy
      cases st with
      | nil => simp [push] at hy; omega
      | cons z st =>
        rw [push_cons] at hy
        split at hy
        · exact hst y (List.mem_cons_of_mem _ hy)
        · rcases List.mem_cons.mp hy with rfl | hy
          · exact hx
          · exact hst y hy
    rw [ih (push st x) hw' hst' (push_str hs x)]
    congr 1
    cases st with
    | nil => rfl
    | cons z st =>
      by_cases e : z = -x
      · have e1 : push (z :: st) x = st := by simp [push, e]
        rw [e1, List.reverse_cons, List.foldl_append]
        show _ = push (push (st.reverse.foldl push r) z) x
        rw [e]
        have := push_back (foldl_str st.reverse r hr) (-x) (by omega)
        rw [show - -x = x by omega] at this
        rw [this]
      · have e1 : push (z :: st) x = x :: z :: st := by simp [push, e]
        rw [e1]
        simp [List.foldl_append]
theorem redS_app {u v : List Int} (hv : ∀ x ∈ v, x ≠ 0) : redS (u ++ v) = (red v).foldl push (redS u) := by
  have := push_red (redS_str u) v [] hv (fun _ h => nomatch h) trivial
  unfold red
  unfold redS at *
  rw [List.foldl_append]
  rw [this]; rfl
theorem foldl_push_str : ∀ (w r : List Int), Rdc (w.reverse ++ r) → w.foldl push r = w.reverse ++ r := by
  intro w
  induction w with
  | nil => intro r _; rfl
  | cons x w ih =>
    intro r h
    rw [List.reverse_cons, List.append_assoc] at h
    have suf : ∀ (a b : List Int), Rdc (a ++ b) → Rdc b := by
      intro a
      induction a with
      | nil => intro b h; exact h
      | cons y ys ih => intro b h; exact ih b h.tail
    have hxr : Rdc (x :: r) := suf _ _ h
    have e : push r x = x :: r := by
      cases r with
      | nil => rfl
      | cons y r =>
        have : ¬ y = -x := fun q => hxr.1 (by omega)
        simp [push, this]
    rw [List.foldl_cons, e, ih (x :: r) h]
    simp
theorem Rdc.rev {w : List Int} (h : Rdc w) : Rdc w.reverse := by
  have gen : ∀ (w r : List Int), Rdc w → Rdc r → (∀ x y, w.head? = some x → r.head? = some y → x ≠ -y) → Rdc (w.reverse ++ r) := by
    intro w
    induction w with
    | nil => intro r _ hr _; exact hr
    | cons x w ih =>
      intro r hw hr hj
      rw [List.reverse_cons, List.append_assoc]
      refine ih (x :: r) hw.tail ?_ ?_
      · cases r with
        | nil => trivial
        | cons y r => exact ⟨hj x y rfl rfl, hr⟩
      · intro a b ha hb
        cases w with
        | nil => cases ha
        | cons z w =>
          have e1 : z = a := Option.some.inj ha
          have e2 : x = b := Option.some.inj hb
          subst e1 e2
          have := hw.1
          omega
  have := gen w [] h trivial (fun x y _ hy => nomatch hy)
  simpa using this
theorem red_of_str {w : List Int} (h : Rdc w) : red w = w := by
  unfold red redS
  rw [foldl_push_str w [] (by rw [List.append_nil]; exact h.rev), List.append_nil, List.reverse_reverse]
theorem red_str (w : List Int) : Rdc (red w) := (redS_str w).rev
theorem red_red (w : List Int) : red (red w) = red w := red_of_str (red_str w)
theorem push_mem {r : List Int} {x y : Int} (h : y ∈ push r x) : y = x ∨ y ∈ r := by
  cases r with
  | nil => simp [push] at h; exact .inl h
  | cons z r =>
    rw [push_cons] at h
    split at h
    · exact .inr (List.mem_cons_of_mem _ h)
    · exact List.mem_cons.mp h
theorem foldl_push_mem : ∀ (w r : List Int) (y : Int), y ∈ w.foldl push r → y ∈ w ∨ y ∈ r
  | [], r, y, h => .inr h
  | x :: w, r, y, h => by
    rcases foldl_push_mem w (push r x) y h with h | h
    · exact .inl (List.mem_cons_of_mem _ h)
    · rcases push_mem h with rfl | h
      · exact .inl List.mem_cons_self
      · exact .inr h
theorem red_mem {w : List Int} {y : Int} (h : y ∈ red w) : y ∈ w := by
  unfold red redS at h
  rcases foldl_push_mem w [] y (List.mem_reverse.mp h) with h | h
  · exact h
  · cases h
theorem rgD_at {lo : Int} {n i : Nat} {x : D} (h : (rgD lo n)[i]? = some x) : i < n ∧ x = .int (lo + (i : Int)) := by
  unfold rgD at h
  rw [List.getElem?_map] at h
  obtain ⟨k, h1, h2⟩ := Option.map_eq_some_iff.mp h
  have hi : i < n := by
    have := (List.getElem?_eq_some_iff.mp h1).1
    simpa using this
  rw [List.getElem?_range hi] at h1
  cases h1
  exact ⟨hi, h2.symm⟩
end Cs

/-! ## CsRun4 -/
/-! min with a key, keys compared. -/
namespace Cs
open PySem
section
variable (env : Env) (s : Sto)
@[simp] theorem v_MinK (f : Fn) (e d : Sem) : (xMinK f e d).v env s = (e.v env s).bind fun x s => (d.v env s).bind fun y s => minK f y x s := id rfl
@[simp] theorem v_Dict0 : xDict0.v env s = .ok (.ref s.n) (s.add (.dct [])) := id rfl
@[simp] theorem isBl_bb (a b : Bool) : isBlD (.bl a) (.bl b) s = .ok (.bl (decide (a = b))) s := id rfl
@[simp] theorem isnBl_bb (a b : Bool) : isnBlD (.bl a) (.bl b) s = .ok (.bl (!decide (a = b))) s := id rfl
/-- the key of a walk: its length and its steps' places -/
def keyD (o : Int → Int) (w : List Int) : D := .tup [.int w.length, tw (w.map o)]
theorem keyLt_w (o : Int → Int) (x y : List Int) : keyLt (keyD o x) (keyD o y) = some (if x.length = y.length then lexD (x.map o) (y.map o) else decide (x.length < y.length)) := by
  show (match intsD ((x.map o).map .int), intsD ((y.map o).map .int) with
    | some ns, some ms => some (if (x.length : Int) = (y.length : Int) then lexD ns ms else decide ((x.length : Int) < (y.length : Int)))
    | _, _ => none) = _
  rw [ints_map, ints_map]
  dsimp only
  by_cases h : x.length = y.length
  · rw [if_pos (by omega), if_pos h]
  · rw [if_neg (by omega), if_neg h]
    congr 1
    exact decide_eq_decide.mpr (by omega)
@[simp] theorem ltK_w (o : Int → Int) (x y : List Int) : ltK (keyD o x) (keyD o y) s = .ok (.bl (if x.length = y.length then lexD (x.map o) (y.map o) else decide (x.length < y.length))) s := by
  unfold ltK
  rw [keyLt_w]
end
/-- the better of two by key -/
def minW (o : Int → Int) (b x : List Int) : List Int := if (if x.length = b.length then lexD (x.map o) (b.map o) else decide (x.length < b.length)) = true then x else b
theorem minGo_run {f : Fn} {o : Int → Int} {i : Nat} {ws : List (List Int)} (hf : ∀ w ∈ ws, ∀ s, Ev (f [tw w] s) s (keyD o w)) : ∀ (k j : Nat) (b : List Int) (s : Sto), i < s.n → s.get i = some (.lst (ws.map tw)) → ws.length - j < k →
    Ev (minGo f i k j (tw b) (keyD o b) s) s (tw ((ws.drop j).foldl (minW o) b))
  | 0, j, b, s, _, _, hk => absurd hk (Nat.not_lt_zero _)
  | k + 1, j, b, s, hi, hg, hk => by
    by_cases hj : j < ws.length
    · obtain ⟨s1, e1, l1⟩ := hf ws[j] (List.getElem_mem hj) s
      have go : ∀ b', Ev (minGo f i k (j + 1) (tw b') (keyD o b') s1) s1 (tw ((ws.drop (j + 1)).foldl (minW o) b')) := fun b' => minGo_run hf k (j + 1) b' s1 (Nat.lt_of_lt_of_le hi l1.n) (by rw [l1.get i hi, hg]) (by omega)
      have hx : (ws.map tw)[j]? = some (tw ws[j]) := by rw [List.getElem?_map, List.getElem?_eq_getElem hj]; rfl
      rw [List.drop_eq_getElem_cons hj, List.foldl_cons]
      have hu : minGo f i (k + 1) j (tw b) (keyD o b) s = (match keyLt (keyD o ws[j]) (keyD o b) with
          | some true => minGo f i k (j + 1) (tw ws[j]) (keyD o ws[j]) s1
          | some false => minGo f i k (j + 1) (tw b) (keyD o b) s1
          | none => .no) := by
        conv => lhs; unfold minGo
        rw [hg]
        dsimp only
        rw [hx]
        dsimp only
        rw [e1]
        rfl
      rw [hu, keyLt_w]
      unfold minW
      cases hb : (if ws[j].length = b.length then lexD (ws[j].map o) (b.map o) else decide (ws[j].length < b.length)) with
      | true =>
        rw [if_pos rfl]
        exact (go ws[j]).later l1
      | false =>
        rw [if_neg (by decide)]
        exact (go b).later l1
    · refine ⟨s, ?_, .refl s⟩
      have hx : (ws.map tw)[j]? = none := List.getElem?_eq_none (by rw [List.length_map]; omega)
      rw [List.drop_eq_nil_of_le (by omega)]
      unfold minGo
      rw [hg]
      dsimp only
      rw [hx]
      rfl
end Cs

/-! ## CsRun5 -/
/-! Evaluation of sorting, ranges taken whole, zip. -/
namespace Cs
open PySem PySem.W
section
variable (env : Env) (s : Sto)
@[simp] theorem v_SortK (f : Fn) (e : Sem) : (xSortK f e).v env s = (e.v env s).bind fun x s => sortK f x s := id rfl
@[simp] theorem rgW_ii (i j : Int) (k : List D → Sto → R D) : rgW (.int i) (.int j) s k = if bigI i = true ∧ bigI j = true ∧ (j - i).toNat ≤ 16777216 then k (rgD i (j - i).toNat) s else .no := id rfl
@[simp] theorem v_LstR1 (a : Sem) : (xLstR1 a).v env s = (a.v env s).bind fun x s => rgW (.int 0) x s newL := id rfl
@[simp] theorem v_LstR2 (a b : Sem) : (xLstR2 a b).v env s = (a.v env s).bind fun x s => (b.v env s).bind fun y s => rgW x y s newL := id rfl
@[simp] theorem v_TupR1 (a : Sem) : (xTupR1 a).v env s = (a.v env s).bind fun x s => rgW (.int 0) x s fun xs s => .ok (.tup xs) s := id rfl
@[simp] theorem v_TupR2 (a b : Sem) : (xTupR2 a b).v env s = (a.v env s).bind fun x s => (b.v env s).bind fun y s => rgW x y s fun xs s => .ok (.tup xs) s := id rfl
@[simp] theorem i_Zip2 (a : EvA) : iZip2 a env s = (a env s).bind zipW := id rfl
end
theorem zipW_rr {s : Sto} {i j : Nat} {xs ys : List D} (h1 : s.get i = some (.lst xs)) (h2 : s.get j = some (.lst ys)) : zipW [.ref i, .ref j] s = .ok (Wk.zip i j) s := by
  unfold zipW
  dsimp only
  rw [h1, h2]
theorem goZip_fun {f : Turn} (F : D → D → D) {i j : Nat} {xs ys : List D} : ∀ (k n : Nat) (s : Sto), i < s.n → j < s.n → s.get i = some (.lst xs) → s.get j = some (.lst ys) → xs.length - n < k →
    (∀ x y s', Le s s' → (x, y) ∈ xs.zip ys → Ev (f (.tup [x, y]) s') s' (some (F x y))) → Ev (goRd f (fun s n => zipAt s i j n) k n s) s (((xs.zip ys).drop n).map fun p => F p.1 p.2)
  | 0, n, s, _, _, _, _, hk, _ => absurd hk (Nat.not_lt_zero _)
  | k + 1, n, s, hi, hj, h1, h2, hk, h => by
    by_cases hn : n < xs.length ∧ n < ys.length
    · have hl : n < (xs.zip ys).length := by rw [List.length_zip]; omega
      have hg : (xs.zip ys)[n] = (xs[n], ys[n]) := List.getElem_zip
      have hm : (xs[n], ys[n]) ∈ xs.zip ys := by rw [← hg]; exact List.getElem_mem hl
      obtain ⟨s1, e1, l1⟩ := h xs[n] ys[n] s (.refl s) hm
      obtain ⟨s2, e2, l2⟩ := goZip_fun F k (n + 1) s1 (Nat.lt_of_lt_of_le hi l1.n) (Nat.lt_of_lt_of_le hj l1.n) (by rw [l1.get i hi, h1]) (by rw [l1.get j hj, h2]) (by omega) fun x y s' hl' hm' => h x y s' (l1.trans hl') hm'
      refine ⟨s2, ?_, l1.trans l2⟩
      have hz : zipAt s i j n = some (some (.tup [xs[n], ys[n]])) := by
        unfold zipAt
        rw [h1, h2]
        dsimp only
        rw [List.getElem?_eq_getElem hn.1, List.getElem?_eq_getElem hn.2]
      unfold goRd
      rw [hz]
      dsimp only
      rw [e1]
      show (goRd f (fun s n => zipAt s i j n) k (n + 1) s1).bind _ = _
      rw [e2]
      show R.ok (F xs[n] ys[n] :: _) s2 = _
      rw [List.drop_eq_getElem_cons hl, List.map_cons, hg]
    · refine ⟨s, ?_, .refl s⟩
      have hl : (xs.zip ys).length ≤ n := by rw [List.length_zip]; omega
      have hz2 : zipAt s i j n = some none := by
        unfold zipAt
        rw [h1, h2]
        dsimp only
        by_cases q : n < xs.length
        · rw [List.getElem?_eq_none (show ys.length ≤ n by omega), List.getElem?_eq_getElem q]
        · rw [List.getElem?_eq_none (show xs.length ≤ n by omega)]
      unfold goRd
      rw [hz2]
      dsimp only
      rw [List.drop_eq_nil_of_le hl]
      rfl
theorem goWk_zip {f : Turn} (F : D → D → D) {i j : Nat} {xs ys : List D} (s : Sto) (hi : i < s.n) (hj : j < s.n) (h1 : s.get i = some (.lst xs)) (h2 : s.get j = some (.lst ys)) (hk : xs.length < 1000000)
    (h : ∀ x y s', Le s s' → (x, y) ∈ xs.zip ys → Ev (f (.tup [x, y]) s') s' (some (F x y))) : Ev (goWk f (Wk.zip i j) s) s ((xs.zip ys).map fun p => F p.1 p.2) := by
  have := goZip_fun (f := f) F 1000000 0 s hi hj h1 h2 (by omega) h
  rw [List.drop_zero] at this
  exact this
/-! ### sorting ints by an int key -/
theorem keysGo_ints {f : Fn} {o : Int → Int} (h : ∀ x s, f [.int x] s = .ok (.int (o x)) s) : ∀ (xs : List Int) (s : Sto), keysGo f (xs.map .int) s = .ok (xs.map fun x => PyData.int (o x)) s
  | [], s => rfl
  | x :: xs, s => by
    show (f [.int x] s).bind _ = _
    rw [h]
    show (keysGo f (xs.map .int) s).bind _ = _
    rw [keysGo_ints h xs s]
    rfl
theorem okKeys_ints (o : Int → Int) (xs : List Int) : okKeys (xs.map fun x => PyData.int (o x)) = true := by
  unfold okKeys
  rw [Bool.and_eq_true, Bool.or_eq_true]
  refine ⟨List.all_eq_true.mpr fun d hd => List.all_eq_true.mpr fun e he => ?_, .inr (List.all_eq_true.mpr fun d hd => ?_)⟩
  · obtain ⟨x, _, rfl⟩ := List.mem_map.mp hd
    obtain ⟨y, _, rfl⟩ := List.mem_map.mp he
    rfl
  · obtain ⟨x, _, rfl⟩ := List.mem_map.mp hd
    rfl
/-- what stands sorted by o, each once, and holds the same: that is it -/
theorem sortBy_ints {o : Int → Int} {xs ys : List Int} (hx : xs.Nodup) (hp : ys.Pairwise fun a b => o a < o b) (hm : ∀ x, x ∈ ys ↔ x ∈ xs) : sortBy (xs.map fun x => PyData.int (o x)) (xs.map .int) = ys.map .int := by
  unfold sortBy
  have ez : (xs.map D.int).zip (xs.map fun x => PyData.int (o x)) = xs.map fun x => (D.int x, PyData.int (o x)) := by
    rw [List.zip_map']
  rw [ez]
  have hpw := sort_pairwise (sortLe_total (PyProof.Rows.listOrd PyProof.Rows.itemOrd) false fun p : D × PyData => keyToks p.2) (xs.map fun x => (D.int x, PyData.int (o x)))
  have hpm := List.mergeSort_perm (xs.map fun x => (D.int x, PyData.int (o x))) (dataLe false fun p : D × PyData => p.2)
  have hpw : ((xs.map fun x => (D.int x, PyData.int (o x))).mergeSort (dataLe false fun p : D × PyData => p.2)).Pairwise (fun a b => dataLe false (fun p : D × PyData => p.2) a b = true) := hpw
  generalize (xs.map fun x => (D.int x, PyData.int (o x))).mergeSort (dataLe false fun p : D × PyData => p.2) = z at hpw hpm
  -- z holds pairs of ints
  obtain ⟨w, rfl⟩ : ∃ w : List Int, z = w.map fun x => (D.int x, PyData.int (o x)) := by
    have hmem : ∀ p ∈ z, ∃ x, p = (D.int x, PyData.int (o x)) := fun p hp' => by
      obtain ⟨x, _, e⟩ := List.mem_map.mp (hpm.mem_iff.mp hp')
      exact ⟨x, e.symm⟩
    clear hpw hpm
    induction z with
    | nil => exact ⟨[], rfl⟩
    | cons p z ih =>
      obtain ⟨w, rfl⟩ := ih fun q hq => hmem q (List.mem_cons_of_mem _ hq)
      obtain ⟨x, rfl⟩ := hmem p List.mem_cons_self
      exact ⟨x :: w, rfl⟩
  have hle : ∀ x y : Int, dataLe false (fun p : D × PyData => p.2) (D.int x, PyData.int (o x)) (D.int y, PyData.int (o y)) = decide (o x ≤ o y) := fun x y => by
    show (!dataLt (.int (o y)) (.int (o x))) = _
    rw [dataLt_int, not_lt_int]
  have hw : w.Pairwise fun a b => o a ≤ o b := by
    rw [List.pairwise_map] at hpw
    exact hpw.imp fun {a b} h => by rw [hle] at h; exact of_decide_eq_true h
  have hwx : w.Perm xs := by
    have h1 := hpm.map (fun p : D × PyData => match p.1 with | .int x => x | _ => 0)
    rw [List.map_map, List.map_map] at h1
    have e : ((fun p : D × PyData => match p.1 with | .int x => x | _ => 0) ∘ fun x : Int => (D.int x, PyData.int (o x))) = id := rfl
    rw [e, List.map_id, List.map_id] at h1
    exact h1
  have hyn : ys.Nodup := hp.imp fun {a b} h e => by subst e; omega
  have hyx : ys.Perm xs := (List.perm_ext_iff_of_nodup hyn hx).mpr hm
  have hwy : w.Perm ys := hwx.trans hyx.symm
  -- unique
  have e : w = ys := by
    have inj : ∀ a b, a ∈ ys → b ∈ ys → o a = o b → a = b := by
      intro a b ha hb hab
      clear hwy hyx hm hyn
      induction hp with
      | nil => simp at ha
      | cons h t ih =>
        rcases List.mem_cons.mp ha with e1 | ha1
        · rcases List.mem_cons.mp hb with e2 | hb1
          · rw [e1, e2]
          · have := h _ hb1; rw [← e1] at this; omega
        · rcases List.mem_cons.mp hb with e2 | hb1
          · have := h _ ha1; rw [← e2] at this; omega
          · exact ih ha1 hb1
    exact hwy.eq_of_pairwise (fun a b ha hb h1 h2 => inj a b (hwy.mem_iff.mp ha) hb (Int.le_antisymm h1 h2)) hw (hp.imp fun {a b} h => Int.le_of_lt h)
  subst e
  rw [List.map_map]
  rfl
theorem sortK_ints {f : Fn} {o : Int → Int} (h : ∀ x s, f [.int x] s = .ok (.int (o x)) s) {i : Nat} {xs ys : List Int} {s : Sto} (hg : s.get i = some (.lst (xs.map .int))) (hx : xs.Nodup) (hp : ys.Pairwise fun a b => o a < o b) (hm : ∀ x, x ∈ ys ↔ x ∈ xs) :
    sortK f (.ref i) s = newL (ys.map .int) s := by
  unfold sortK
  dsimp only
  rw [hg]
  dsimp only
  rw [keysGo_ints h]
  show (if okKeys _ = true then _ else _) = _
  rw [if_pos (okKeys_ints o xs), sortBy_ints hx hp hm]
theorem sorted_ints {i : Nat} {xs ys : List Int} {s : Sto} (hg : s.get i = some (.lst (xs.map .int))) (hp : ys.Pairwise (· ≤ ·)) (hm : xs.Perm ys) : sortedB [.ref i] s = newL (ys.map .int) s := by
  unfold sortedB
  dsimp only
  rw [hg]
  dsimp only
  rw [ints_map]
  dsimp only
  congr 2
  have h1 : (xs.mergeSort fun a b => decide (a ≤ b)).Pairwise (· ≤ ·) := by
    have := List.pairwise_mergeSort (le := fun a b : Int => decide (a ≤ b)) (fun a b c h1 h2 => by simp at *; omega) (fun a b => by simp; omega) xs
    exact this.imp fun h => by simpa using h
  exact ((List.mergeSort_perm xs _).trans hm).eq_of_pairwise (fun a b _ _ => Int.le_antisymm) h1 hp
/-! ### in -/
theorem in_tw (neg : Bool) (x : Int) (w : List Int) (s : Sto) : inD neg (.int x) (tw w) s = .ok (.bl (w.contains x ^^ neg)) s := by
  unfold inD
  have e : items (tw w) s = some (w.map .int) := rfl
  rw [e]
  dsimp only
  have f : (flat (.int x) && (w.map D.int).all flat) = true := by
    rw [List.all_map]
    show (true && _) = true
    rw [Bool.true_and]
    exact List.all_eq_true.mpr fun _ _ => rfl
  have a : ((w.map D.int).any fun z => flatEq z (.int x)) = w.contains x := by
    rw [List.any_map, List.contains_eq_any_beq]
    congr 1
    funext z
    show (z == x) = (x == z)
    rw [Bool.eq_iff_iff, beq_iff_eq, beq_iff_eq]
    exact ⟨Eq.symm, Eq.symm⟩
  rw [f, a]
  rfl
theorem eqD_str (x y : Str) (s : Sto) (hx : PyData.strOk x = true) (hy : PyData.strOk y = true) : eqD (.str x) (.str y) s = .ok (.bl (PyData.eqv (.str x) (.str y))) s := by
  unfold eqD
  have e1 : pyd s 12 (.str x) = some (.str x) := by show (if PyData.strOk x = true then some (PyData.str x) else none) = _; rw [if_pos hx]
  have e2 : pyd s 12 (.str y) = some (.str y) := by show (if PyData.strOk y = true then some (PyData.str y) else none) = _; rw [if_pos hy]
  rw [e1, e2]
theorem neD_str (x y : Str) (s : Sto) (hx : PyData.strOk x = true) (hy : PyData.strOk y = true) : neD (.str x) (.str y) s = .ok (.bl (!PyData.eqv (.str x) (.str y))) s := by
  unfold neD
  have e1 : pyd s 12 (.str x) = some (.str x) := by show (if PyData.strOk x = true then some (PyData.str x) else none) = _; rw [if_pos hx]
  have e2 : pyd s 12 (.str y) = some (.str y) := by show (if PyData.strOk y = true then some (PyData.str y) else none) = _; rw [if_pos hy]
  rw [e1, e2]
end Cs
namespace Cs
open PySem PySem.W
section
variable (env : Env) (s : Sto)
@[simp] theorem i_Enum2 (a : EvA) : iEnum2 a env s = (a env s).bind enW2 := id rfl
@[simp] theorem enW2_t (xs : List D) : enW2 [.tup xs] s = .ok (.its (enumD xs)) s := id rfl
theorem enW2_r {i : Nat} {xs : List D} {s : Sto} (h : s.get i = some (.lst xs)) : enW2 [.ref i] s = .ok (Wk.enl i) s := by
  unfold enW2
  dsimp only
  rw [h]
@[simp] theorem wkS_enl (g : EvG) (b : EvS) (i : Nat) : wkS g b env (Wk.enl i) s = forRd (bodyF g b) (fun s n => enlAt s i n) 1000000 0 env s := id rfl
theorem extend_t {j : Nat} {xs ys : List D} (h : s.get j = some (.lst xs)) (hz : xs.length + ys.length ≤ sizeLine) : extendM2 (.ref j) [.tup ys] s = .ok .non (s.set j (.lst (xs ++ ys))) := by
  unfold extendM2
  dsimp only
  rw [h]
  dsimp only
  rw [if_pos hz]
end
theorem forEnl_inv {b : D → Env → Sto → RS} (P : Nat → Env → Sto → Prop) {i : Nat} {xs : List D} (hP : ∀ k env s, P k env s → s.get i = some (.lst xs)) : ∀ (f k : Nat) (env : Env) (s : Sto), P k env s → xs.length - k < f → k ≤ xs.length →
    (∀ k x env s, xs[k]? = some x → P k env s → ∃ env' s', (b (.tup [.int (k : Nat), x]) env s = .nx env' s' ∨ b (.tup [.int (k : Nat), x]) env s = .ct env' s') ∧ P (k + 1) env' s') →
    ∃ env' s', forRd b (fun s n => enlAt s i n) f k env s = .nx env' s' ∧ P xs.length env' s'
  | 0, k, env, s, _, hf, _, _ => absurd hf (Nat.not_lt_zero _)
  | f + 1, k, env, s, h, hf, hk, hs => by
    by_cases hj : k < xs.length
    · obtain ⟨e1, s1, h1, p1⟩ := hs k xs[k] env s (List.getElem?_eq_getElem hj) h
      obtain ⟨e2, s2, h2, p2⟩ := forEnl_inv P hP f (k + 1) e1 s1 p1 (by omega) (by omega) hs
      refine ⟨e2, s2, ?_, p2⟩
      have hz : enlAt s i k = some (some (.tup [.int (k : Nat), xs[k]])) := by
        unfold enlAt
        rw [hP _ _ _ h]
        dsimp only
        rw [List.getElem?_eq_getElem hj]
      unfold forRd
      rw [hz]
      dsimp only
      rcases h1 with h1 | h1 <;> rw [h1] <;> exact h2
    · refine ⟨env, s, ?_, by rw [show xs.length = k by omega]; exact h⟩
      have hz : enlAt s i k = some none := by
        unfold enlAt
        rw [hP _ _ _ h]
        dsimp only
        rw [List.getElem?_eq_none (by omega)]
      unfold forRd
      rw [hz]
end Cs

namespace K53
open PySem PySem.Spec PyProof.Rows L2 Cs
/-! ### the text -/
def topS (i : Nat) : Stmt := PySem.Challenge.pw_clubsturned_k53_whole_rounds_moved.main.body.getD i (.Pass ⟨0, 0, 0, 0⟩)
abbrev s__law_same : Stmt := topS 58
abbrev s_step_order : Stmt := topS 7
abbrev s_walk_key : Stmt := topS 8
abbrev s_least_turn : Stmt := topS 29
abbrev s_parted : Stmt := topS 24
abbrev s_straightened : Stmt := topS 9
abbrev s_round_from : Stmt := topS 30
abbrev s_turned_back : Stmt := topS 10
abbrev s_put_for : Stmt := topS 20
abbrev s_led_walk : Stmt := topS 22
abbrev s_turned_rounds : Stmt := topS 41
abbrev s_led_letter : Stmt := topS 39
abbrev s_turning_of : Stmt := topS 40
abbrev s_moved_rounds : Stmt := topS 42
abbrev s_is_integer : Stmt := topS 13
abbrev s_is_step : Stmt := topS 16
abbrev s_is_a_walk : Stmt := topS 17
abbrev s_is_a_round : Stmt := topS 31
abbrev s_are_rounds : Stmt := topS 32
abbrev s_need_rounds : Stmt := topS 33
abbrev s_is_lot : Stmt := topS 35
abbrev s_is_a_move : Stmt := topS 36
abbrev s_need_moves : Stmt := topS 38
abbrev s_is_letters : Stmt := topS 15
abbrev s_need_letters : Stmt := topS 18
abbrev s_moved_by : Stmt := topS 46
abbrev s_length : Stmt := topS 34
abbrev s_length_of : Stmt := topS 44
abbrev s__law_order : Stmt := topS 53
abbrev s__law_move_back : Stmt := topS 61
abbrev s__law_key : Stmt := topS 54
abbrev s__law_straight : Stmt := topS 51
abbrev s__law_round : Stmt := topS 57
abbrev s__law_back : Stmt := topS 52
abbrev s__law_led : Stmt := topS 56
abbrev s__law_take : Stmt := topS 49
abbrev s_need_move : Stmt := topS 37
abbrev s_moved : Stmt := topS 45
abbrev s__law_turned : Stmt := topS 60
abbrev s__law_moved : Stmt := topS 62
abbrev s__law_steps : Stmt := topS 50
abbrev s__law_move : Stmt := topS 59
abbrev s__law_walk : Stmt := topS 55
abbrev s__law_well : Stmt := topS 48
abbrev s_law : Stmt := topS 63
/-! ### what each def means -/
def e__law_same_1 (r : Fn) : Sem :=
  (xCall r (aCons (xBin ixD (xVar 0) (xVar 2)) (aCons (xBin ixD (xVar 1) (xVar 2)) aNil)))
def b__law_same (r : Fn) : EvS :=
  (sCons (sIf (xUn (isiD [.list, .tuple]) (xVar 1)) (sCons (sIf (xOr (xBin neD (xUn (isiD [.list]) (xVar 0)) (xUn (isiD [.list]) (xVar 1))) (xBin neD (xUn (isiD [.tuple]) (xVar 0)) (xUn (isiD [.tuple]) (xVar 1)))) (sCons (sRet (xC (.bl false)))
  sNil) sNil)
  (sCons (sIf (xBin neD (xBi lenB (aCons (xVar 0) aNil)) (xBi lenB (aCons (xVar 1) aNil))) (sCons (sRet (xC (.bl false)))
  sNil) sNil)
  (sCons (sRet (xBi allB (aCons (xComp [2] (gVar 2) (iRg1 (aCons (xBi lenB (aCons (xVar 1) aNil)) aNil)) none (e__law_same_1 r)) aNil)))
  sNil))) sNil)
  (sCons (sIf (xBin isNonD (xVar 1) (xC .non)) (sCons (sRet (xBin isNonD (xVar 0) (xC .non)))
  sNil) sNil)
  (sCons (sIf (xUn (isiD [.str]) (xVar 1)) (sCons (sRet (xAnd (xUn (isiD [.str]) (xVar 0)) (xBin eqD (xVar 0) (xVar 1))))
  sNil) sNil)
  (sCons (sRet (xAnd (xUn (isiD [.int]) (xVar 0)) (xAnd (xBin eqD (xUn (isiD [.bool]) (xVar 0)) (xUn (isiD [.bool]) (xVar 1))) (xBin eqD (xVar 0) (xVar 1)))))
  sNil))))
def ms__law_same : Nat → Fn
  | 0 => fnNo
  | k + 1 => fnB 2 3 (b__law_same (ms__law_same k))
def m__law_same : Fn := ms__law_same 8
def b_step_order : EvS :=
  (sCons (sIf (xBin (ltI fun i j => decide (j < i)) (xVar 0) (xC (.int 0))) (sCons (sRet (xBin subD (xBin mulD (xC (.int 2)) (xVar 0)) (xC (.int 2))))
  sNil) sNil)
  (sCons (sRet (xBin subD (xBin mulD (xUn negD (xC (.int 2))) (xVar 0)) (xC (.int 1))))
  sNil))
def m_step_order : Fn := fnB 1 1 b_step_order
def e_walk_key_1 : Sem :=
  (xCall m_step_order (aCons (xVar 1) aNil))
def b_walk_key : EvS :=
  (sCons (sRet (xTup (aCons (xBi lenB (aCons (xVar 0) aNil)) (aCons (xBi tupleB (aCons (xComp [1] (gVar 1) (iSeq (xVar 0)) none e_walk_key_1) aNil)) aNil))))
  sNil)
def m_walk_key : Fn := fnB 1 2 b_walk_key
def e_least_turn_1 : Sem :=
  (xBin addD (xSlc (xVar 0) (oYes (xVar 1)) oNo) (xSlc (xVar 0) oNo (oYes (xVar 1))))
def b_least_turn : EvS :=
  (sCons (sRet (xMinK m_walk_key (xComp [1] (gVar 1) (iRg1 (aCons (xBi lenB (aCons (xVar 0) aNil)) aNil)) none e_least_turn_1) (xTup aNil)))
  sNil)
def m_least_turn : Fn := fnB 1 2 b_least_turn
def c_parted_1 : Sem :=
  (xAnd (xBin (ltI fun i j => decide (j < i)) (xBin subD (xVar 2) (xVar 1)) (xC (.int 1))) (xBin eqD (xBin ixD (xVar 0) (xVar 1)) (xUn negD (xBin ixD (xVar 0) (xBin subD (xVar 2) (xC (.int 1)))))))
def b_parted_1 : EvS :=
  (sCons (sPar 1 2 (aCons (xBin addD (xVar 1) (xC (.int 1))) (aCons (xBin subD (xVar 2) (xC (.int 1))) aNil)))
  sNil)
def b_parted : EvS :=
  (sCons (sPar 1 2 (aCons (xC (.int 0)) (aCons (xBi lenB (aCons (xVar 0) aNil)) aNil)))
  (sCons (sWhl c_parted_1 b_parted_1)
  (sCons (sRet (xTup (aCons (xSlc (xVar 0) oNo (oYes (xVar 1))) (aCons (xSlc (xVar 0) (oYes (xVar 1)) (oYes (xVar 2))) aNil))))
  sNil)))
def m_parted : Fn := fnB 1 3 b_parted
def b_straightened_1 : EvS :=
  (sCons (sIf (xAnd (xBin (ltI fun i j => decide (j < i)) (xBi lenB (aCons (xVar 1) aNil)) (xC (.int 0))) (xBin eqD (xBin ixD (xVar 1) (xUn negD (xC (.int 1)))) (xUn negD (xVar 2)))) (sCons (sExpr (xMeth popM (xVar 1) aNil))
  sNil) (sCons (sExpr (xMeth appendM (xVar 1) (aCons (xVar 2) aNil)))
  sNil))
  sNil)
def b_straightened : EvS :=
  (sCons (sAsg (gVar 1) (xLst aNil))
  (sCons (sFor (gVar 2) (iSeq (xVar 0)) b_straightened_1)
  (sCons (sRet (xBi tupleB (aCons (xVar 1) aNil)))
  sNil)))
def m_straightened : Fn := fnB 1 3 b_straightened
def b_round_from : EvS :=
  (sCons (sRet (xCall m_least_turn (aCons (xBin ixD (xCall m_parted (aCons (xCall m_straightened (aCons (xVar 0) aNil)) aNil)) (xC (.int 1))) aNil)))
  sNil)
def m_round_from : Fn := fnB 1 1 b_round_from
def e_turned_back_1 : Sem :=
  (xUn negD (xVar 1))
def b_turned_back : EvS :=
  (sCons (sRet (xBi tupleB (aCons (xComp [1] (gVar 1) (iSeq (xUn revD (xVar 0))) none e_turned_back_1) aNil)))
  sNil)
def m_turned_back : Fn := fnB 1 2 b_turned_back
def b_put_for_1 : EvS :=
  (sCons (sExpr (xMeth extendM2 (xVar 2) (aCons (xIf (xBin (ltI fun i j => decide (j < i)) (xVar 3) (xC (.int 0))) (xBin ixD (xVar 0) (xBin subD (xVar 3) (xC (.int 1)))) (xCall m_turned_back (aCons (xBin ixD (xVar 0) (xBin subD (xUn negD (xVar 3)) (xC (.int 1)))) aNil))) aNil)))
  sNil)
def b_put_for : EvS :=
  (sCons (sAsg (gVar 2) (xLst aNil))
  (sCons (sFor (gVar 3) (iSeq (xVar 1)) b_put_for_1)
  (sCons (sRet (xCall m_straightened (aCons (xVar 2) aNil)))
  sNil)))
def m_put_for : Fn := fnB 2 4 b_put_for
def b_led_walk : EvS :=
  (sCons (sRet (xCall m_put_for (aCons (xBin ixD (xVar 0) (xC (.int 1))) (aCons (xVar 1) aNil))))
  sNil)
def m_led_walk : Fn := fnB 2 2 b_led_walk
def e_turned_rounds_1 : Sem :=
  (xCall m_round_from (aCons (xCall m_led_walk (aCons (xVar 0) (aCons (xVar 2) aNil))) aNil))
def b_turned_rounds : EvS :=
  (sCons (sRet (xBi tupleB (aCons (xComp [2] (gVar 2) (iSeq (xVar 1)) none e_turned_rounds_1) aNil)))
  sNil)
def m_turned_rounds : Fn := fnB 2 3 b_turned_rounds
def b_led_letter : EvS :=
  (sCons (sIf (xBin eqD (xBin ixD (xVar 0) (xC (.int 0))) (xC (.str "names"))) (sCons (sRet (xTup (aCons (xBin ixD (xBin ixD (xVar 0) (xC (.int 1))) (xBin subD (xVar 1) (xC (.int 1)))) aNil)))
  sNil) sNil)
  (sCons (sPar 2 3 (aCons (xBin ixD (xVar 0) (xC (.int 1))) (aCons (xBin ixD (xVar 0) (xC (.int 2))) aNil)))
  (sCons (sIf (xBin eqD (xBi absB (aCons (xVar 2) aNil)) (xVar 1)) (sCons (sRet (xTup (aCons (xVar 1) aNil)))
  sNil) sNil)
  (sCons (sAsg (gVar 4) (xIf (xBin (inD false) (xUn negD (xVar 1)) (xVar 3)) (xTup (aCons (xUn negD (xVar 2)) aNil)) (xTup aNil)))
  (sCons (sRet (xBin addD (xBin addD (xVar 4) (xTup (aCons (xVar 1) aNil))) (xIf (xBin (inD false) (xVar 1) (xVar 3)) (xTup (aCons (xVar 2) aNil)) (xTup aNil))))
  sNil)))))
def m_led_letter : Fn := fnB 2 5 b_led_letter
def e_turning_of_1 : Sem :=
  (xCall m_led_letter (aCons (xVar 1) (aCons (xVar 2) aNil)))
def b_turning_of : EvS :=
  (sCons (sRet (xTup (aCons (xVar 0) (aCons (xBi tupleB (aCons (xComp [2] (gVar 2) (iRg2 (aCons (xC (.int 1)) (aCons (xBin addD (xVar 0) (xC (.int 1))) aNil))) none e_turning_of_1) aNil)) aNil))))
  sNil)
def m_turning_of : Fn := fnB 2 3 b_turning_of
def b_moved_rounds : EvS :=
  (sCons (sRet (xCall m_turned_rounds (aCons (xCall m_turning_of (aCons (xVar 0) (aCons (xVar 1) aNil))) (aCons (xVar 2) aNil))))
  sNil)
def m_moved_rounds : Fn := fnB 3 3 b_moved_rounds
def b_is_integer : EvS :=
  (sCons (sRet (xAnd (xUn (isiD [.int]) (xVar 0)) (xNot (xUn (isiD [.bool]) (xVar 0)))))
  sNil)
def m_is_integer : Fn := fnB 1 1 b_is_integer
def b_is_step : EvS :=
  (sCons (sRet (xAnd (xCall m_is_integer (aCons (xVar 0) aNil)) (xChain (ltI fun i j => decide (i ≤ j)) (ltI fun i j => decide (i ≤ j)) (xC (.int 1)) (xBi absB (aCons (xVar 0) aNil)) (xVar 1))))
  sNil)
def m_is_step : Fn := fnB 2 2 b_is_step
def e_is_a_walk_1 : Sem :=
  (xCall m_is_step (aCons (xVar 2) (aCons (xVar 1) aNil)))
def b_is_a_walk : EvS :=
  (sCons (sRet (xAnd (xUn (isiD [.tuple]) (xVar 0)) (xBi allB (aCons (xComp [2] (gVar 2) (iSeq (xVar 0)) none e_is_a_walk_1) aNil))))
  sNil)
def m_is_a_walk : Fn := fnB 2 3 b_is_a_walk
def b_is_a_round : EvS :=
  (sCons (sRet (xAnd (xCall m_is_a_walk (aCons (xVar 1) (aCons (xVar 0) aNil))) (xBin eqD (xCall m_round_from (aCons (xVar 1) aNil)) (xVar 1))))
  sNil)
def m_is_a_round : Fn := fnB 2 2 b_is_a_round
def e_are_rounds_1 : Sem :=
  (xCall m_is_a_round (aCons (xVar 0) (aCons (xVar 2) aNil)))
def b_are_rounds : EvS :=
  (sCons (sIf (xOr (xNot (xUn (isiD [.tuple]) (xVar 1))) (xNot (xChain (ltI fun i j => decide (i ≤ j)) (ltI fun i j => decide (i ≤ j)) (xC (.int 1)) (xBi lenB (aCons (xVar 1) aNil)) (xC (.int 4))))) (sCons (sRet (xC (.bl false)))
  sNil) sNil)
  (sCons (sRet (xBi allB (aCons (xComp [2] (gVar 2) (iSeq (xVar 1)) none e_are_rounds_1) aNil)))
  sNil))
def m_are_rounds : Fn := fnB 2 3 b_are_rounds
def b_need_rounds : EvS :=
  (sCons (sIf (xNot (xCall m_are_rounds (aCons (xVar 0) (aCons (xVar 1) aNil)))) (sCons sNo
  sNil) sNil)
  sNil)
def m_need_rounds : Fn := fnB 2 2 b_need_rounds
def e_is_lot_3 : Sem :=
  (xBin (ltI fun i j => decide (i < j)) (xVar 6) (xVar 7))
def e_is_lot_2 : Sem :=
  (xCall m_step_order (aCons (xVar 3) aNil))
def e_is_lot_1 : Sem :=
  (xCall m_is_step (aCons (xVar 3) (aCons (xVar 0) aNil)))
def b_is_lot : EvS :=
  (sCons (sIf (xOr (xNot (xUn (isiD [.tuple]) (xVar 2))) (xOr (xBin (ltI fun i j => decide (i < j)) (xBi lenB (aCons (xVar 2) aNil)) (xC (.int 2))) (xNot (xBi allB (aCons (xComp [3] (gVar 3) (iSeq (xVar 2)) none e_is_lot_1) aNil))))) (sCons (sRet (xC (.bl false)))
  sNil) sNil)
  (sCons (sAsg (gVar 4) (xComp [3] (gVar 3) (iSeq (xVar 2)) none e_is_lot_2))
  (sCons (sAsg (gVar 5) (xBi allB (aCons (xComp [6, 7] (gTup 2 (gsCons (gVar 6) (gsCons (gVar 7) gsNil))) (iZip2 (aCons (xVar 4) (aCons (xSlc (xVar 4) (oYes (xC (.int 1))) oNo) aNil))) none e_is_lot_3) aNil)))
  (sCons (sRet (xAnd (xVar 5) (xAnd (xBin (inD false) (xVar 1) (xVar 2)) (xBin (inD true) (xUn negD (xVar 1)) (xVar 2)))))
  sNil))))
def m_is_lot : Fn := fnB 3 8 b_is_lot
def e_is_a_move_2 : Sem :=
  (xBi absB (aCons (xVar 2) aNil))
def e_is_a_move_1 : Sem :=
  (xCall m_is_step (aCons (xVar 2) (aCons (xVar 0) aNil)))
def b_is_a_move : EvS :=
  (sCons (sIf (xOr (xNot (xUn (isiD [.tuple]) (xVar 1))) (xOr (xNot (xChain (ltI fun i j => decide (i ≤ j)) (ltI fun i j => decide (i ≤ j)) (xC (.int 2)) (xBi lenB (aCons (xVar 1) aNil)) (xC (.int 3)))) (xNot (xUn (isiD [.str]) (xBin ixD (xVar 1) (xC (.int 0))))))) (sCons (sRet (xC (.bl false)))
  sNil) sNil)
  (sCons (sIf (xBin eqD (xBin ixD (xVar 1) (xC (.int 0))) (xC (.str "lot"))) (sCons (sRet (xAnd (xBin eqD (xBi lenB (aCons (xVar 1) aNil)) (xC (.int 3))) (xAnd (xCall m_is_step (aCons (xBin ixD (xVar 1) (xC (.int 1))) (aCons (xVar 0) aNil))) (xCall m_is_lot (aCons (xVar 0) (aCons (xBin ixD (xVar 1) (xC (.int 1))) (aCons (xBin ixD (xVar 1) (xC (.int 2))) aNil)))))))
  sNil) sNil)
  (sCons (sIf (xOr (xBin neD (xBin ixD (xVar 1) (xC (.int 0))) (xC (.str "names"))) (xOr (xBin neD (xBi lenB (aCons (xVar 1) aNil)) (xC (.int 2))) (xOr (xNot (xUn (isiD [.tuple]) (xBin ixD (xVar 1) (xC (.int 1))))) (xBin neD (xBi lenB (aCons (xBin ixD (xVar 1) (xC (.int 1))) aNil)) (xVar 0))))) (sCons (sRet (xC (.bl false)))
  sNil) sNil)
  (sCons (sIf (xNot (xBi allB (aCons (xComp [2] (gVar 2) (iSeq (xBin ixD (xVar 1) (xC (.int 1)))) none e_is_a_move_1) aNil))) (sCons (sRet (xC (.bl false)))
  sNil) sNil)
  (sCons (sAsg (gVar 3) (xBin eqD (xBi sortedB (aCons (xComp [2] (gVar 2) (iSeq (xBin ixD (xVar 1) (xC (.int 1)))) none e_is_a_move_2) aNil)) (xLstR2 (xC (.int 1)) (xBin addD (xVar 0) (xC (.int 1))))))
  (sCons (sRet (xAnd (xVar 3) (xBin neD (xBin ixD (xVar 1) (xC (.int 1))) (xTupR2 (xC (.int 1)) (xBin addD (xVar 0) (xC (.int 1)))))))
  sNil))))))
def m_is_a_move : Fn := fnB 2 4 b_is_a_move
def b_need_moves_1 : EvS :=
  (sCons (sIf (xNot (xCall m_is_a_move (aCons (xVar 0) (aCons (xVar 3) aNil)))) (sCons sNo
  sNil) sNil)
  sNil)
def b_need_moves : EvS :=
  (sCons (sIf (xNot (xUn (isiD [.list]) (xVar 1))) (sCons sNo
  sNil) sNil)
  (sCons (sFor (gTup 2 (gsCons (gVar 2) (gsCons (gVar 3) gsNil))) (iEnum2 (aCons (xVar 1) aNil)) b_need_moves_1)
  sNil))
def m_need_moves : Fn := fnB 2 4 b_need_moves
def b_is_letters : EvS :=
  (sCons (sRet (xAnd (xCall m_is_integer (aCons (xVar 0) aNil)) (xChain (ltI fun i j => decide (i ≤ j)) (ltI fun i j => decide (i ≤ j)) (xC (.int 1)) (xVar 0) (xC (.int 4)))))
  sNil)
def m_is_letters : Fn := fnB 1 1 b_is_letters
def b_need_letters : EvS :=
  (sCons (sIf (xNot (xCall m_is_letters (aCons (xVar 0) aNil))) (sCons sNo
  sNil) sNil)
  sNil)
def m_need_letters : Fn := fnB 1 1 b_need_letters
def b_moved_by_1 : EvS :=
  (sCons (sAsg (gVar 2) (xCall m_moved_rounds (aCons (xVar 0) (aCons (xVar 3) (aCons (xVar 2) aNil)))))
  sNil)
def b_moved_by : EvS :=
  (sCons (sExpr (xCall m_need_letters (aCons (xVar 0) aNil)))
  (sCons (sExpr (xCall m_need_moves (aCons (xVar 0) (aCons (xVar 1) aNil))))
  (sCons (sExpr (xCall m_need_rounds (aCons (xVar 0) (aCons (xVar 2) aNil))))
  (sCons (sFor (gVar 3) (iSeq (xVar 1)) b_moved_by_1)
  (sCons (sRet (xVar 2))
  sNil)))))
def m_moved_by : Fn := fnB 3 4 b_moved_by
def e_length_1 : Sem :=
  (xBi lenB (aCons (xVar 1) aNil))
def b_length : EvS :=
  (sCons (sRet (xBi sumB (aCons (xComp [1] (gVar 1) (iSeq (xVar 0)) none e_length_1) aNil)))
  sNil)
def m_length : Fn := fnB 1 2 b_length
def b_length_of : EvS :=
  (sCons (sExpr (xCall m_need_letters (aCons (xVar 0) aNil)))
  (sCons (sExpr (xCall m_need_rounds (aCons (xVar 0) (aCons (xVar 1) aNil))))
  (sCons (sRet (xCall m_length (aCons (xVar 1) aNil)))
  sNil)))
def m_length_of : Fn := fnB 2 2 b_length_of
def b__law_order : EvS :=
  (sCons (sRet (xIf (xBin (ltI fun i j => decide (j < i)) (xVar 0) (xC (.int 0))) (xBin subD (xBin mulD (xC (.int 2)) (xVar 0)) (xC (.int 2))) (xBin subD (xBin mulD (xUn negD (xC (.int 2))) (xVar 0)) (xC (.int 1)))))
  sNil)
def m__law_order : Fn := fnB 1 1 b__law_order
def e__law_move_back_3 : Sem :=
  (xIf (xBin (ltI fun i j => decide (j < i)) (xBin ixD (xBin ixD (xVar 0) (xC (.int 1))) (xVar 6)) (xC (.int 0))) (xBin addD (xVar 6) (xC (.int 1))) (xBin subD (xUn negD (xVar 6)) (xC (.int 1))))
def c__law_move_back_3 : Sem :=
  (xBin eqD (xBi absB (aCons (xBin ixD (xBin ixD (xVar 0) (xC (.int 1))) (xVar 6)) aNil)) (xVar 4))
def b__law_move_back_2 : EvS :=
  (sCons (sAsg (gVar 5) (xComp [6] (gVar 6) (iRg1 (aCons (xBi lenB (aCons (xBin ixD (xVar 0) (xC (.int 1))) aNil)) aNil)) (some c__law_move_back_3) e__law_move_back_3))
  (sCons (sExpr (xMeth appendM (xVar 3) (aCons (xBin ixD (xVar 5) (xC (.int 0))) aNil)))
  sNil))
def e__law_move_back_1 : Sem :=
  (xIf (xBin eqD (xVar 2) (xBin ixD (xVar 0) (xC (.int 1)))) (xUn negD (xVar 2)) (xVar 2))
def b__law_move_back : EvS :=
  (sCons (sIf (xBin eqD (xBin ixD (xVar 0) (xC (.int 0))) (xC (.str "lot"))) (sCons (sAsg (gVar 1) (xComp [2] (gVar 2) (iSeq (xBin ixD (xVar 0) (xC (.int 2)))) none e__law_move_back_1))
  (sCons (sRet (xTup (aCons (xC (.str "lot")) (aCons (xUn negD (xBin ixD (xVar 0) (xC (.int 1)))) (aCons (xBi tupleB (aCons (xSortK m__law_order (xVar 1)) aNil)) aNil)))))
  sNil)) sNil)
  (sCons (sAsg (gVar 3) (xLst aNil))
  (sCons (sFor (gVar 4) (iRg2 (aCons (xC (.int 1)) (aCons (xBin addD (xBi lenB (aCons (xBin ixD (xVar 0) (xC (.int 1))) aNil)) (xC (.int 1))) aNil))) b__law_move_back_2)
  (sCons (sRet (xTup (aCons (xC (.str "names")) (aCons (xBi tupleB (aCons (xVar 3) aNil)) aNil))))
  sNil))))
def m__law_move_back : Fn := fnB 1 7 b__law_move_back
def e__law_key_1 : Sem :=
  (xCall m__law_order (aCons (xVar 1) aNil))
def b__law_key : EvS :=
  (sCons (sRet (xTup (aCons (xBi lenB (aCons (xVar 0) aNil)) (aCons (xBi tupleB (aCons (xComp [1] (gVar 1) (iSeq (xVar 0)) none e__law_key_1) aNil)) aNil))))
  sNil)
def m__law_key : Fn := fnB 1 2 b__law_key
def b__law_straight_1 : EvS :=
  (sCons (sIf (xAnd (xBin neD (xVar 1) (xLst aNil)) (xBin eqD (xBin ixD (xVar 1) (xUn negD (xC (.int 1)))) (xUn negD (xVar 2)))) (sCons (sExpr (xMeth popM (xVar 1) aNil))
  sNil) (sCons (sExpr (xMeth appendM (xVar 1) (aCons (xVar 2) aNil)))
  sNil))
  sNil)
def b__law_straight : EvS :=
  (sCons (sAsg (gVar 1) (xLst aNil))
  (sCons (sFor (gVar 2) (iSeq (xVar 0)) b__law_straight_1)
  (sCons (sRet (xBi tupleB (aCons (xVar 1) aNil)))
  sNil)))
def m__law_straight : Fn := fnB 1 3 b__law_straight
def b__law_round_2 : EvS :=
  (sCons (sAsg (gVar 7) (xBi tupleB (aCons (xBin addD (xSlc (xVar 1) (oYes (xVar 6)) oNo) (xSlc (xVar 1) oNo (oYes (xVar 6)))) aNil)))
  (sCons (sIf (xBin ltK (xCall m__law_key (aCons (xVar 7) aNil)) (xCall m__law_key (aCons (xVar 5) aNil))) (sCons (sAsg (gVar 5) (xVar 7))
  sNil) sNil)
  sNil))
def b__law_round_1 : EvS :=
  (sCons (sIf (xAnd (xBin (ltI fun i j => decide (j < i)) (xBin subD (xVar 3) (xVar 2)) (xC (.int 1))) (xBin eqD (xBin ixD (xVar 1) (xVar 2)) (xUn negD (xBin ixD (xVar 1) (xBin subD (xVar 3) (xC (.int 1))))))) (sCons (sPar 2 3 (aCons (xBin addD (xVar 2) (xC (.int 1))) (aCons (xBin subD (xVar 3) (xC (.int 1))) aNil)))
  sNil) sNil)
  sNil)
def b__law_round : EvS :=
  (sCons (sAsg (gVar 1) (xBi listB (aCons (xCall m__law_straight (aCons (xVar 0) aNil)) aNil)))
  (sCons (sPar 2 3 (aCons (xC (.int 0)) (aCons (xBi lenB (aCons (xVar 1) aNil)) aNil)))
  (sCons (sFor (gVar 4) (iRg1 (aCons (xBin fdivD (xBi lenB (aCons (xVar 1) aNil)) (xC (.int 2))) aNil)) b__law_round_1)
  (sCons (sAsg (gVar 1) (xSlc (xVar 1) (oYes (xVar 2)) (oYes (xVar 3))))
  (sCons (sAsg (gVar 5) (xBi tupleB (aCons (xVar 1) aNil)))
  (sCons (sFor (gVar 6) (iRg1 (aCons (xBi lenB (aCons (xVar 1) aNil)) aNil)) b__law_round_2)
  (sCons (sRet (xVar 5))
  sNil)))))))
def m__law_round : Fn := fnB 1 8 b__law_round
def e__law_back_1 : Sem :=
  (xUn negD (xVar 1))
def b__law_back : EvS :=
  (sCons (sRet (xBi tupleB (aCons (xComp [1] (gVar 1) (iSeq (xUn revD (xVar 0))) none e__law_back_1) aNil)))
  sNil)
def m__law_back : Fn := fnB 1 2 b__law_back
def b__law_led_2 : EvS :=
  (sCons (sIf (xAnd (xBin neD (xVar 2) (xLst aNil)) (xBin eqD (xBin ixD (xVar 2) (xUn negD (xC (.int 1)))) (xUn negD (xVar 5)))) (sCons (sExpr (xMeth popM (xVar 2) aNil))
  sNil) (sCons (sExpr (xMeth appendM (xVar 2) (aCons (xVar 5) aNil)))
  sNil))
  sNil)
def b__law_led_1 : EvS :=
  (sCons (sAsg (gVar 4) (xIf (xBin (ltI fun i j => decide (j < i)) (xVar 3) (xC (.int 0))) (xBin ixD (xVar 0) (xBin subD (xVar 3) (xC (.int 1)))) (xCall m__law_back (aCons (xBin ixD (xVar 0) (xBin subD (xUn negD (xVar 3)) (xC (.int 1)))) aNil))))
  (sCons (sFor (gVar 5) (iSeq (xVar 4)) b__law_led_2)
  sNil))
def b__law_led : EvS :=
  (sCons (sAsg (gVar 2) (xLst aNil))
  (sCons (sFor (gVar 3) (iSeq (xVar 1)) b__law_led_1)
  (sCons (sRet (xBi tupleB (aCons (xVar 2) aNil)))
  sNil)))
def m__law_led : Fn := fnB 2 6 b__law_led
def b__law_take : EvS :=
  (sCons (sIf (xBin (ltI fun i j => decide (j < i)) (xBin ixD (xVar 0) (xC (.int 0))) (xC (.int 1))) (sCons (sAsg (gVar 2) (xBin modD (xBi intB (aCons (xBin ixD (xVar 0) (xC (.int 0))) aNil)) (xVar 1)))
  (sCons (sAsg (gSub (xVar 0) (xC (.int 0))) (xBin fdivD (xBin ixD (xVar 0) (xC (.int 0))) (xVar 1)))
  (sCons (sRet (xVar 2))
  sNil))) sNil)
  (sCons (sAsg (gSub (xVar 0) (xC (.int 2))) (xBin addD (xBin ixD (xVar 0) (xC (.int 2))) (xC (.int 1))))
  (sCons (sAsg (gVar 3) (xBin modD (xBi intB (aCons (xBin addD (xBin mulD (xBin ixD (xVar 0) (xC (.int 1))) (xC (.int 6364136223846793005))) (xBin mulD (xBin ixD (xVar 0) (xC (.int 2))) (xC (.int 2862933555777941757)))) aNil)) (xBin addD (xBin powD (xC (.int 10)) (xC (.int 29))) (xC (.int 319)))))
  (sCons (sAsg (gVar 3) (xBin modD (xBi intB (aCons (xBin addD (xBin addD (xBin mulD (xVar 3) (xVar 3)) (xBin mulD (xC (.int 1181783497276652981)) (xBin ixD (xVar 0) (xC (.int 2))))) (xBin ixD (xVar 0) (xC (.int 1)))) aNil)) (xBin addD (xBin powD (xC (.int 10)) (xC (.int 31))) (xC (.int 33)))))
  (sCons (sAsg (gVar 3) (xBin fdivD (xBin modD (xBi intB (aCons (xBin addD (xBin mulD (xVar 3) (xVar 3)) (xC (.int 7))) aNil)) (xBin addD (xBin powD (xC (.int 10)) (xC (.int 33))) (xC (.int 61)))) (xC (.int 7919))))
  (sCons (sRet (xBin modD (xBi intB (aCons (xVar 3) aNil)) (xVar 1)))
  sNil))))))
def m__law_take : Fn := fnB 2 4 b__law_take
def b_need_move : EvS :=
  (sCons (sIf (xNot (xCall m_is_a_move (aCons (xVar 0) (aCons (xVar 1) aNil)))) (sCons sNo
  sNil) sNil)
  sNil)
def m_need_move : Fn := fnB 2 2 b_need_move
def b_moved : EvS :=
  (sCons (sExpr (xCall m_need_letters (aCons (xVar 0) aNil)))
  (sCons (sExpr (xCall m_need_move (aCons (xVar 0) (aCons (xVar 1) aNil))))
  (sCons (sExpr (xCall m_need_rounds (aCons (xVar 0) (aCons (xVar 2) aNil))))
  (sCons (sRet (xCall m_moved_rounds (aCons (xVar 0) (aCons (xVar 1) (aCons (xVar 2) aNil)))))
  sNil))))
def m_moved : Fn := fnB 3 3 b_moved
def b__law_turned_2 : EvS :=
  (sCons (sAsg (gVar 5) (xTup (aCons (xVar 4) aNil)))
  (sCons (sIf (xAnd (xBin neD (xBi absB (aCons (xBin ixD (xVar 1) (xC (.int 1))) aNil)) (xVar 4)) (xBin (inD false) (xVar 4) (xBin ixD (xVar 1) (xC (.int 2))))) (sCons (sAsg (gVar 5) (xBin addD (xVar 5) (xTup (aCons (xBin ixD (xVar 1) (xC (.int 1))) aNil))))
  sNil) sNil)
  (sCons (sIf (xAnd (xBin neD (xBi absB (aCons (xBin ixD (xVar 1) (xC (.int 1))) aNil)) (xVar 4)) (xBin (inD false) (xUn negD (xVar 4)) (xBin ixD (xVar 1) (xC (.int 2))))) (sCons (sAsg (gVar 5) (xBin addD (xTup (aCons (xUn negD (xBin ixD (xVar 1) (xC (.int 1)))) aNil)) (xVar 5)))
  sNil) sNil)
  (sCons (sExpr (xMeth appendM (xVar 3) (aCons (xVar 5) aNil)))
  sNil))))
def e__law_turned_1 : Sem :=
  (xTup (aCons (xVar 2) aNil))
def b__law_turned : EvS :=
  (sCons (sIf (xBin eqD (xBin ixD (xVar 1) (xC (.int 0))) (xC (.str "names"))) (sCons (sRet (xComp [2] (gVar 2) (iSeq (xBin ixD (xVar 1) (xC (.int 1)))) none e__law_turned_1))
  sNil) sNil)
  (sCons (sAsg (gVar 3) (xLst aNil))
  (sCons (sFor (gVar 4) (iRg2 (aCons (xC (.int 1)) (aCons (xBin addD (xVar 0) (xC (.int 1))) aNil))) b__law_turned_2)
  (sCons (sRet (xVar 3))
  sNil))))
def m__law_turned : Fn := fnB 2 6 b__law_turned
def e__law_moved_1 : Sem :=
  (xCall m__law_round (aCons (xCall m__law_led (aCons (xVar 3) (aCons (xVar 4) aNil))) aNil))
def b__law_moved : EvS :=
  (sCons (sAsg (gVar 3) (xCall m__law_turned (aCons (xVar 0) (aCons (xVar 1) aNil))))
  (sCons (sRet (xBi tupleB (aCons (xComp [4] (gVar 4) (iSeq (xVar 2)) none e__law_moved_1) aNil)))
  sNil))
def m__law_moved : Fn := fnB 3 5 b__law_moved
def b__law_steps_1 : EvS :=
  (sCons (sAsg (gVar 1) (xBin addD (xVar 1) (xLst (aCons (xVar 2) (aCons (xUn negD (xVar 2)) aNil)))))
  sNil)
def b__law_steps : EvS :=
  (sCons (sAsg (gVar 1) (xLst aNil))
  (sCons (sFor (gVar 2) (iRg2 (aCons (xC (.int 1)) (aCons (xBin addD (xVar 0) (xC (.int 1))) aNil))) b__law_steps_1)
  (sCons (sRet (xVar 1))
  sNil)))
def m__law_steps : Fn := fnB 1 3 b__law_steps
def e__law_move_3 : Sem :=
  (xVar 9)
def c__law_move_3 : Sem :=
  (xBin eqD (xCall m__law_take (aCons (xVar 0) (aCons (xC (.int 2)) aNil))) (xC (.int 0)))
def e__law_move_2 : Sem :=
  (xVar 9)
def c__law_move_2 : Sem :=
  (xBin neD (xBi absB (aCons (xVar 9) aNil)) (xBi absB (aCons (xVar 7) aNil)))
def b__law_move_1 : EvS :=
  (sCons (sAsg (gVar 6) (xMeth popM (xVar 3) (aCons (xCall m__law_take (aCons (xVar 0) (aCons (xBi lenB (aCons (xVar 3) aNil)) aNil))) aNil)))
  (sCons (sExpr (xMeth appendM (xVar 4) (aCons (xBin ixD (xLst (aCons (xVar 6) (aCons (xUn negD (xVar 6)) aNil))) (xCall m__law_take (aCons (xVar 0) (aCons (xC (.int 2)) aNil)))) aNil)))
  sNil))
def b__law_move : EvS :=
  (sCons (sAsg (gVar 2) (xCall m__law_steps (aCons (xVar 1) aNil)))
  (sCons (sIf (xOr (xBin eqD (xVar 1) (xC (.int 1))) (xBin eqD (xCall m__law_take (aCons (xVar 0) (aCons (xC (.int 3)) aNil))) (xC (.int 0)))) (sCons (sPar 3 4 (aCons (xLstR2 (xC (.int 1)) (xBin addD (xVar 1) (xC (.int 1)))) (aCons (xLst aNil) aNil)))
  (sCons (sFor (gVar 5) (iRg1 (aCons (xVar 1) aNil)) b__law_move_1)
  (sCons (sIf (xBin eqD (xVar 4) (xLstR2 (xC (.int 1)) (xBin addD (xVar 1) (xC (.int 1))))) (sCons (sAsg (gSub (xVar 4) (xUn negD (xC (.int 1)))) (xUn negD (xVar 1)))
  sNil) sNil)
  (sCons (sRet (xTup (aCons (xC (.str "names")) (aCons (xBi tupleB (aCons (xVar 4) aNil)) aNil))))
  sNil)))) sNil)
  (sCons (sAsg (gVar 7) (xBin ixD (xVar 2) (xCall m__law_take (aCons (xVar 0) (aCons (xBi lenB (aCons (xVar 2) aNil)) aNil)))))
  (sCons (sAsg (gVar 8) (xComp [9] (gVar 9) (iSeq (xVar 2)) (some c__law_move_2) e__law_move_2))
  (sCons (sAsg (gVar 10) (xBin addD (xLst (aCons (xVar 7) (aCons (xMeth popM (xVar 8) (aCons (xCall m__law_take (aCons (xVar 0) (aCons (xBi lenB (aCons (xVar 8) aNil)) aNil))) aNil)) aNil))) (xComp [9] (gVar 9) (iSeq (xVar 8)) (some c__law_move_3) e__law_move_3)))
  (sCons (sRet (xTup (aCons (xC (.str "lot")) (aCons (xVar 7) (aCons (xBi tupleB (aCons (xSortK m__law_order (xVar 10)) aNil)) aNil)))))
  sNil))))))
def m__law_move : Fn := fnB 2 11 b__law_move
def e__law_walk_1 : Sem :=
  (xBin ixD (xVar 3) (xCall m__law_take (aCons (xVar 0) (aCons (xBi lenB (aCons (xVar 3) aNil)) aNil))))
def b__law_walk : EvS :=
  (sCons (sAsg (gVar 3) (xCall m__law_steps (aCons (xVar 1) aNil)))
  (sCons (sRet (xBi tupleB (aCons (xComp [4] (gVar 4) (iRg1 (aCons (xVar 2) aNil)) none e__law_walk_1) aNil)))
  sNil))
def m__law_walk : Fn := fnB 3 5 b__law_walk
def b__law_well_1 : EvS :=
  (sCons (sAsg (gVar 3) (xBin modD (xBi intB (aCons (xBin addD (xBin mulD (xVar 3) (xC (.int 48611))) (xBin modD (xBi intB (aCons (xVar 4) aNil)) (xBin addD (xBin powD (xC (.int 10)) (xC (.int 23))) (xC (.int 117))))) aNil)) (xBin addD (xBin powD (xC (.int 10)) (xC (.int 27))) (xC (.int 103)))))
  sNil)
def b__law_well : EvS :=
  (sCons (sAsg (gVar 2) (xBin addD (xBin mulD (xC (.int 13)) (xVar 1)) (xC (.int 7))))
  (sCons (sIf (xBin (ltI fun i j => decide (i < j)) (xVar 1) (xBi lenB (aCons (xVar 0) aNil))) (sCons (sAsg (gVar 2) (xBin ixD (xVar 0) (xVar 1)))
  sNil) sNil)
  (sCons (sAsg (gVar 3) (xBin addD (xC (.int 101)) (xBi lenB (aCons (xVar 0) aNil))))
  (sCons (sFor (gVar 4) (iSeq (xVar 0)) b__law_well_1)
  (sCons (sAsg (gVar 5) (xBin modD (xBi intB (aCons (xBin addD (xBin addD (xBin mulD (xBin modD (xBi intB (aCons (xVar 2) aNil)) (xBin addD (xBin powD (xC (.int 10)) (xC (.int 25))) (xC (.int 13)))) (xC (.int 7793))) (xBin mulD (xC (.int 3)) (xVar 3))) (xVar 1)) aNil)) (xBin addD (xBin powD (xC (.int 10)) (xC (.int 29))) (xC (.int 319)))))
  (sCons (sRet (xLst (aCons (xBi max2B (aCons (xC (.int 1)) (aCons (xBin subD (xVar 2) (xBin powD (xC (.int 10)) (xC (.int 18)))) aNil))) (aCons (xVar 5) (aCons (xC (.int 0)) aNil)))))
  sNil))))))
def m__law_well : Fn := fnB 2 6 b__law_well
def e_law_11 : Sem :=
  (xBi lenB (aCons (xVar 15) aNil))
def e_law_10 : Sem :=
  (xBi lenB (aCons (xVar 15) aNil))
def e_law_9 : Sem :=
  (xCall m__law_move_back (aCons (xVar 11) aNil))
def e_law_8 : Sem :=
  (xCall m__law_round (aCons (xCall m__law_led (aCons (xVar 9) (aCons (xVar 15) aNil))) aNil))
def e_law_7 : Sem :=
  (xBi lenB (aCons (xVar 14) aNil))
def e_law_6 : Sem :=
  (xBi lenB (aCons (xVar 15) aNil))
def e_law_5 : Sem :=
  (xCall m__law_led (aCons (xCall m__law_turned (aCons (xVar 3) (aCons (xVar 11) aNil))) (aCons (xVar 14) aNil)))
def b_law_4 : EvS :=
  (sCons (sAsg (gVar 11) (xCall m__law_move (aCons (xVar 2) (aCons (xVar 3) aNil))))
  (sCons (sAsg (gVar 12) (xCall m__law_moved (aCons (xVar 3) (aCons (xVar 11) (aCons (xVar 7) aNil)))))
  (sCons (sAsg (gVar 13) (xComp [14] (gVar 14) (iSeq (xVar 9)) none e_law_5))
  (sCons (sIf (xAnd (xBin (ltI fun i j => decide (i ≤ j)) (xBi sumB (aCons (xComp [15] (gVar 15) (iSeq (xVar 12)) none e_law_6) aNil)) (xC (.int 60))) (xBin (ltI fun i j => decide (i ≤ j)) (xBi sumB (aCons (xComp [14] (gVar 14) (iSeq (xVar 13)) none e_law_7) aNil)) (xC (.int 600)))) (sCons (sIf (xNot (xCall m__law_same (aCons (xCall m_moved (aCons (xVar 3) (aCons (xVar 11) (aCons (xVar 7) aNil)))) (aCons (xVar 12) aNil)))) (sCons (sRet (xC (.bl false)))
  sNil) sNil)
  (sCons (sIf (xBin neD (xCallK m_moved 0 3 [2, 1, 0] aNil (aCons (xVar 7) (aCons (xVar 11) (aCons (xVar 3) aNil)))) (xVar 12)) (sCons (sRet (xC (.bl false)))
  sNil) sNil)
  (sCons (sAsg (gTup 2 (gsCons (gVar 9) (gsCons (gVar 7) gsNil))) (xTup (aCons (xVar 13) (aCons (xVar 12) aNil))))
  (sCons (sExpr (xMeth appendM (xVar 8) (aCons (xVar 11) aNil)))
  sNil)))) sNil)
  sNil))))
def e_law_3 : Sem :=
  (xTup (aCons (xVar 10) aNil))
def e_law_2 : Sem :=
  (xCall m__law_round (aCons (xCall m__law_walk (aCons (xVar 2) (aCons (xVar 3) (aCons (xCall m__law_take (aCons (xVar 2) (aCons (xC (.int 11)) aNil))) aNil)))) aNil))
def b_law_1 : EvS :=
  (sCons (sAsg (gVar 2) (xCall m__law_well (aCons (xVar 0) (aCons (xVar 1) aNil))))
  (sCons (sAsg (gVar 3) (xBin addD (xC (.int 1)) (xCall m__law_take (aCons (xVar 2) (aCons (xC (.int 4)) aNil)))))
  (sCons (sAsg (gVar 4) (xBin addD (xC (.int 1)) (xCall m__law_take (aCons (xVar 2) (aCons (xC (.int 4)) aNil)))))
  (sCons (sAsg (gVar 5) (xBi tupleB (aCons (xComp [6] (gVar 6) (iRg1 (aCons (xVar 4) aNil)) none e_law_2) aNil)))
  (sCons (sAsg (gTup 3 (gsCons (gVar 7) (gsCons (gVar 8) (gsCons (gVar 9) gsNil)))) (xTup (aCons (xVar 5) (aCons (xLst aNil) (aCons (xComp [10] (gVar 10) (iRg2 (aCons (xC (.int 1)) (aCons (xBin addD (xVar 3) (xC (.int 1))) aNil))) none e_law_3) aNil)))))
  (sCons (sFor (gVar 6) (iRg1 (aCons (xCall m__law_take (aCons (xVar 2) (aCons (xC (.int 9)) aNil))) aNil)) b_law_4)
  (sCons (sAsg (gVar 16) (xBi listB (aCons (xVar 8) aNil)))
  (sCons (sIf (xOr (xNot (xCall m__law_same (aCons (xCall m_moved_by (aCons (xVar 3) (aCons (xVar 16) (aCons (xVar 5) aNil)))) (aCons (xVar 7) aNil)))) (xBin neD (xVar 16) (xVar 8))) (sCons (sRet (xC (.bl false)))
  sNil) sNil)
  (sCons (sIf (xBin neD (xBi tupleB (aCons (xComp [15] (gVar 15) (iSeq (xVar 5)) none e_law_8) aNil)) (xVar 7)) (sCons (sRet (xC (.bl false)))
  sNil) sNil)
  (sCons (sAsg (gVar 17) (xComp [11] (gVar 11) (iSeq (xUn revD (xVar 8))) none e_law_9))
  (sCons (sIf (xNot (xCall m__law_same (aCons (xCallK m_moved_by 0 3 [2, 1, 0] aNil (aCons (xVar 7) (aCons (xVar 17) (aCons (xVar 3) aNil)))) (aCons (xVar 5) aNil)))) (sCons (sRet (xC (.bl false)))
  sNil) sNil)
  (sCons (sIf (xNot (xCall m__law_same (aCons (xCall m_length_of (aCons (xVar 3) (aCons (xVar 7) aNil))) (aCons (xBi sumB (aCons (xComp [15] (gVar 15) (iSeq (xVar 7)) none e_law_10) aNil)) aNil)))) (sCons (sRet (xC (.bl false)))
  sNil) sNil)
  (sCons (sIf (xNot (xCall m__law_same (aCons (xCallK m_length_of 0 2 [1, 0] aNil (aCons (xVar 5) (aCons (xVar 3) aNil))) (aCons (xBi sumB (aCons (xComp [15] (gVar 15) (iSeq (xVar 5)) none e_law_11) aNil)) aNil)))) (sCons (sRet (xC (.bl false)))
  sNil) sNil)
  (sCons (sIf (xNot (xCall m__law_same (aCons (xCall m_moved_by (aCons (xVar 3) (aCons (xLst aNil) (aCons (xVar 7) aNil)))) (aCons (xVar 7) aNil)))) (sCons (sRet (xC (.bl false)))
  sNil) sNil)
  sNil))))))))))))))
def b_law : EvS :=
  (sCons (sFor (gVar 1) (iRg1 (aCons (xBi max2B (aCons (xC (.int 1)) (aCons (xBi min2B (aCons (xC (.int 4)) (aCons (xBi lenB (aCons (xVar 0) aNil)) aNil))) aNil))) aNil)) b_law_1)
  (sCons (sRet (xC (.bl true)))
  sNil))
def m_law : Fn := fnB 1 18 b_law
/-! ### what the top owes -/
structure Tx (g : Gb) : Prop where
  b_abs : g.mg ("abs" : Str) = none
  b_all : g.mg ("all" : Str) = none
  b_bool : g.mg ("bool" : Str) = none
  b_enumerate : g.mg ("enumerate" : Str) = none
  b_int : g.mg ("int" : Str) = none
  b_isinstance : g.mg ("isinstance" : Str) = none
  b_len : g.mg ("len" : Str) = none
  b_list : g.mg ("list" : Str) = none
  b_max : g.mg ("max" : Str) = none
  b_min : g.mg ("min" : Str) = none
  b_range : g.mg ("range" : Str) = none
  b_sorted : g.mg ("sorted" : Str) = none
  b_str : g.mg ("str" : Str) = none
  b_sum : g.mg ("sum" : Str) = none
  b_tuple : g.mg ("tuple" : Str) = none
  b_zip : g.mg ("zip" : Str) = none
  k_LOT : ∃ t, g.mg ("LOT" : Str) = some (.str "lot" t)
  k_MOST_LETTERS : ∃ t, g.mg ("MOST_LETTERS" : Str) = some (.int 4 t)
  k_MOST_ROUNDS : ∃ t, g.mg ("MOST_ROUNDS" : Str) = some (.int 4 t)
  k_NAMES : ∃ t, g.mg ("NAMES" : Str) = some (.str "names" t)
  f__law_same : ∃ f fd, g.mg ("_law_same" : Str) = some (.ref f) ∧ Fun g.K "_law_same" "_law_same" s__law_same f fd
  f_step_order : ∃ f fd, g.mg ("step_order" : Str) = some (.ref f) ∧ Fun g.K "step_order" "step_order" s_step_order f fd
  f_walk_key : ∃ f fd, g.mg ("walk_key" : Str) = some (.ref f) ∧ Fun g.K "walk_key" "walk_key" s_walk_key f fd
  f_least_turn : ∃ f fd, g.mg ("least_turn" : Str) = some (.ref f) ∧ Fun g.K "least_turn" "least_turn" s_least_turn f fd
  f_parted : ∃ f fd, g.mg ("parted" : Str) = some (.ref f) ∧ Fun g.K "parted" "parted" s_parted f fd
  f_straightened : ∃ f fd, g.mg ("straightened" : Str) = some (.ref f) ∧ Fun g.K "straightened" "straightened" s_straightened f fd
  f_round_from : ∃ f fd, g.mg ("round_from" : Str) = some (.ref f) ∧ Fun g.K "round_from" "round_from" s_round_from f fd
  f_turned_back : ∃ f fd, g.mg ("turned_back" : Str) = some (.ref f) ∧ Fun g.K "turned_back" "turned_back" s_turned_back f fd
  f_put_for : ∃ f fd, g.mg ("put_for" : Str) = some (.ref f) ∧ Fun g.K "put_for" "put_for" s_put_for f fd
  f_led_walk : ∃ f fd, g.mg ("led_walk" : Str) = some (.ref f) ∧ Fun g.K "led_walk" "led_walk" s_led_walk f fd
  f_turned_rounds : ∃ f fd, g.mg ("turned_rounds" : Str) = some (.ref f) ∧ Fun g.K "turned_rounds" "turned_rounds" s_turned_rounds f fd
  f_led_letter : ∃ f fd, g.mg ("led_letter" : Str) = some (.ref f) ∧ Fun g.K "led_letter" "led_letter" s_led_letter f fd
  f_turning_of : ∃ f fd, g.mg ("turning_of" : Str) = some (.ref f) ∧ Fun g.K "turning_of" "turning_of" s_turning_of f fd
  f_moved_rounds : ∃ f fd, g.mg ("moved_rounds" : Str) = some (.ref f) ∧ Fun g.K "moved_rounds" "moved_rounds" s_moved_rounds f fd
  f_is_integer : ∃ f fd, g.mg ("is_integer" : Str) = some (.ref f) ∧ Fun g.K "is_integer" "is_integer" s_is_integer f fd
  f_is_step : ∃ f fd, g.mg ("is_step" : Str) = some (.ref f) ∧ Fun g.K "is_step" "is_step" s_is_step f fd
  f_is_a_walk : ∃ f fd, g.mg ("is_a_walk" : Str) = some (.ref f) ∧ Fun g.K "is_a_walk" "is_a_walk" s_is_a_walk f fd
  f_is_a_round : ∃ f fd, g.mg ("is_a_round" : Str) = some (.ref f) ∧ Fun g.K "is_a_round" "is_a_round" s_is_a_round f fd
  f_are_rounds : ∃ f fd, g.mg ("are_rounds" : Str) = some (.ref f) ∧ Fun g.K "are_rounds" "are_rounds" s_are_rounds f fd
  f_need_rounds : ∃ f fd, g.mg ("need_rounds" : Str) = some (.ref f) ∧ Fun g.K "need_rounds" "need_rounds" s_need_rounds f fd
  f_is_lot : ∃ f fd, g.mg ("is_lot" : Str) = some (.ref f) ∧ Fun g.K "is_lot" "is_lot" s_is_lot f fd
  f_is_a_move : ∃ f fd, g.mg ("is_a_move" : Str) = some (.ref f) ∧ Fun g.K "is_a_move" "is_a_move" s_is_a_move f fd
  f_need_moves : ∃ f fd, g.mg ("need_moves" : Str) = some (.ref f) ∧ Fun g.K "need_moves" "need_moves" s_need_moves f fd
  f_is_letters : ∃ f fd, g.mg ("is_letters" : Str) = some (.ref f) ∧ Fun g.K "is_letters" "is_letters" s_is_letters f fd
  f_need_letters : ∃ f fd, g.mg ("need_letters" : Str) = some (.ref f) ∧ Fun g.K "need_letters" "need_letters" s_need_letters f fd
  f_moved_by : ∃ f fd, g.mg ("moved_by" : Str) = some (.ref f) ∧ Fun g.K "moved_by" "moved_by" s_moved_by f fd
  f_length : ∃ f fd, g.mg ("length" : Str) = some (.ref f) ∧ Fun g.K "length" "length" s_length f fd
  f_length_of : ∃ f fd, g.mg ("length_of" : Str) = some (.ref f) ∧ Fun g.K "length_of" "length_of" s_length_of f fd
  f__law_order : ∃ f fd, g.mg ("_law_order" : Str) = some (.ref f) ∧ Fun g.K "_law_order" "_law_order" s__law_order f fd
  f__law_move_back : ∃ f fd, g.mg ("_law_move_back" : Str) = some (.ref f) ∧ Fun g.K "_law_move_back" "_law_move_back" s__law_move_back f fd
  f__law_key : ∃ f fd, g.mg ("_law_key" : Str) = some (.ref f) ∧ Fun g.K "_law_key" "_law_key" s__law_key f fd
  f__law_straight : ∃ f fd, g.mg ("_law_straight" : Str) = some (.ref f) ∧ Fun g.K "_law_straight" "_law_straight" s__law_straight f fd
  f__law_round : ∃ f fd, g.mg ("_law_round" : Str) = some (.ref f) ∧ Fun g.K "_law_round" "_law_round" s__law_round f fd
  f__law_back : ∃ f fd, g.mg ("_law_back" : Str) = some (.ref f) ∧ Fun g.K "_law_back" "_law_back" s__law_back f fd
  f__law_led : ∃ f fd, g.mg ("_law_led" : Str) = some (.ref f) ∧ Fun g.K "_law_led" "_law_led" s__law_led f fd
  f__law_take : ∃ f fd, g.mg ("_law_take" : Str) = some (.ref f) ∧ Fun g.K "_law_take" "_law_take" s__law_take f fd
  f_need_move : ∃ f fd, g.mg ("need_move" : Str) = some (.ref f) ∧ Fun g.K "need_move" "need_move" s_need_move f fd
  f_moved : ∃ f fd, g.mg ("moved" : Str) = some (.ref f) ∧ Fun g.K "moved" "moved" s_moved f fd
  f__law_turned : ∃ f fd, g.mg ("_law_turned" : Str) = some (.ref f) ∧ Fun g.K "_law_turned" "_law_turned" s__law_turned f fd
  f__law_moved : ∃ f fd, g.mg ("_law_moved" : Str) = some (.ref f) ∧ Fun g.K "_law_moved" "_law_moved" s__law_moved f fd
  f__law_steps : ∃ f fd, g.mg ("_law_steps" : Str) = some (.ref f) ∧ Fun g.K "_law_steps" "_law_steps" s__law_steps f fd
  f__law_move : ∃ f fd, g.mg ("_law_move" : Str) = some (.ref f) ∧ Fun g.K "_law_move" "_law_move" s__law_move f fd
  f__law_walk : ∃ f fd, g.mg ("_law_walk" : Str) = some (.ref f) ∧ Fun g.K "_law_walk" "_law_walk" s__law_walk f fd
  f__law_well : ∃ f fd, g.mg ("_law_well" : Str) = some (.ref f) ∧ Fun g.K "_law_well" "_law_well" s__law_well f fd
  f_law : ∃ f fd, g.mg ("law" : Str) = some (.ref f) ∧ Fun g.K "law" "law" s_law f fd
theorem Tx.c_LOT {g : Gb} (T : Tx g) {c : Cc} {pos : Pos} (h : c.sc.names.lookup ("LOT" : Str) = some .globalImplicit) : JE g c (xC (.str "lot")) (.Name "LOT" pos) := by
  obtain ⟨t, e⟩ := T.k_LOT
  exact je_glob (v := V.str "lot") h e ⟨t, rfl⟩ (fun _ _ => .str _)
theorem Tx.c_MOST_LETTERS {g : Gb} (T : Tx g) {c : Cc} {pos : Pos} (h : c.sc.names.lookup ("MOST_LETTERS" : Str) = some .globalImplicit) : JE g c (xC (.int 4)) (.Name "MOST_LETTERS" pos) := by
  obtain ⟨t, e⟩ := T.k_MOST_LETTERS
  exact je_glob (v := V.int 4) h e ⟨t, rfl⟩ (fun _ _ => .int _)
theorem Tx.c_MOST_ROUNDS {g : Gb} (T : Tx g) {c : Cc} {pos : Pos} (h : c.sc.names.lookup ("MOST_ROUNDS" : Str) = some .globalImplicit) : JE g c (xC (.int 4)) (.Name "MOST_ROUNDS" pos) := by
  obtain ⟨t, e⟩ := T.k_MOST_ROUNDS
  exact je_glob (v := V.int 4) h e ⟨t, rfl⟩ (fun _ _ => .int _)
theorem Tx.c_NAMES {g : Gb} (T : Tx g) {c : Cc} {pos : Pos} (h : c.sc.names.lookup ("NAMES" : Str) = some .globalImplicit) : JE g c (xC (.str "names")) (.Name "NAMES" pos) := by
  obtain ⟨t, e⟩ := T.k_NAMES
  exact je_glob (v := V.str "names") h e ⟨t, rfl⟩ (fun _ _ => .str _)
/-! ### the derivations -/
theorem j__law_same {g : Gb} {k : Nat} {r : Fn} (T : Tx g) (F_r : FnS g (0 + k) "_law_same" ["actual", "due"] r) : JSs g ⟨["actual", "due", "at"], defScope s__law_same, fun _ => true, 0 + k⟩ (b__law_same r) (defBody s__law_same) :=
  (js_cons (js_if (je_isi2 (t := .list) (u := .tuple) rfl rfl (by rfl) T.b_isinstance (by rfl) T.b_list (by rfl) T.b_tuple (je_var 1)) (js_cons (js_if (je_bool (jw_or (je_cmp (fun X ok => op_neDD ok.K ok.room.units) neD_bl (je_isi (t := .list) rfl (by rfl) T.b_isinstance (by rfl) T.b_list (je_var 0)) (je_isi (t := .list) rfl (by rfl) T.b_isinstance (by rfl) T.b_list (je_var 1))) (jw_or1 (je_cmp (fun X ok => op_neDD ok.K ok.room.units) neD_bl (je_isi (t := .tuple) rfl (by rfl) T.b_isinstance (by rfl) T.b_tuple (je_var 0)) (je_isi (t := .tuple) rfl (by rfl) T.b_isinstance (by rfl) T.b_tuple (je_var 1)))))) (js_cons (js_ret je_bl)
  js_nil) js_nil)
  (js_cons (js_if (je_cmp (fun X ok => op_neDD ok.K ok.room.units) neD_bl (je_bi (fun X ok => cr_lenD ok.K) (by rfl) T.b_len (by first | decide +kernel | (dsimp only; decide +kernel)) (ja_cons (je_var 0) ja_nil)) (je_bi (fun X ok => cr_lenD ok.K) (by rfl) T.b_len (by first | decide +kernel | (dsimp only; decide +kernel)) (ja_cons (je_var 1) ja_nil))) (js_cons (js_ret je_bl)
  js_nil) js_nil)
  (js_cons (js_ret (je_bi (fun X ok => cr_allD ok.K ok.calm) (by rfl) T.b_all (by first | decide +kernel | (dsimp only; decide +kernel)) (ja_cons (je_comp [(("at" : Str), 2)] (by first | decide +kernel | (dsimp only; decide +kernel)) (JI.t (ji_rg1 (by rfl) T.b_range (ja_cons (je_bi (fun X ok => cr_lenD ok.K) (by rfl) T.b_len (by first | decide +kernel | (dsimp only; decide +kernel)) (ja_cons (je_var 1) ja_nil)) ja_nil))) (jg_var 2) (by decide) jt_no (je_call F_r (Nat.le_refl _) (by rfl) (ja_cons (je_ix (je_var 0) (je_var 2)) (ja_cons (je_ix (je_var 1) (je_var 2)) ja_nil)))) ja_nil)))
  js_nil))) js_nil)
  (js_cons (js_if (je_cmp (fun X ok => op_isNonD ok.K) isNonD_bl (je_var 1) je_non) (js_cons (js_ret (je_cmp (fun X ok => op_isNonD ok.K) isNonD_bl (je_var 0) je_non))
  js_nil) js_nil)
  (js_cons (js_if (je_isi (t := .str) rfl (by rfl) T.b_isinstance (by rfl) T.b_str (je_var 1)) (js_cons (js_ret (je_bool (jw_and (je_isi (t := .str) rfl (by rfl) T.b_isinstance (by rfl) T.b_str (je_var 0)) (jw_and1 (je_cmp (fun X ok => op_eqDD ok.K ok.room.units) eqD_bl (je_var 0) (je_var 1))))))
  js_nil) js_nil)
  (js_cons (js_ret (je_bool (jw_and (je_isi (t := .int) rfl (by rfl) T.b_isinstance (by rfl) T.b_int (je_var 0)) (jw_and (je_cmp (fun X ok => op_eqDD ok.K ok.room.units) eqD_bl (je_isi (t := .bool) rfl (by rfl) T.b_isinstance (by rfl) T.b_bool (je_var 0)) (je_isi (t := .bool) rfl (by rfl) T.b_isinstance (by rfl) T.b_bool (je_var 1))) (jw_and1 (je_cmp (fun X ok => op_eqDD ok.K ok.room.units) eqD_bl (je_var 0) (je_var 1)))))))
  js_nil))))
theorem j_step_order {g : Gb} (T : Tx g) : JSs g ⟨["step"], defScope s_step_order, fun _ => true, 0⟩ b_step_order (defBody s_step_order) :=
  (js_cons (js_if (je_cmp (fun X ok => op_ltI ok.K op_gt) ltI_bl (je_var 0) je_int) (js_cons (js_ret (je_bin (fun X ok => op_subD ok.K) (je_bin (fun X ok => op_mulD ok.K) je_int (je_var 0)) je_int))
  js_nil) js_nil)
  (js_cons (js_ret (je_bin (fun X ok => op_subD ok.K) (je_bin (fun X ok => op_mulD ok.K) (je_un (fun X ok => op_negD ok.K) je_int) (je_var 0)) je_int))
  js_nil))
theorem j_walk_key {g : Gb} (T : Tx g) (F_step_order : FnS g 1 "step_order" ["step"] m_step_order) : JSs g ⟨["walk", "step"], defScope s_walk_key, fun _ => true, 1⟩ b_walk_key (defBody s_walk_key) :=
  (js_cons (js_ret (je_tup (ja_cons (je_bi (fun X ok => cr_lenD ok.K) (by rfl) T.b_len (by decide +kernel) (ja_cons (je_var 0) ja_nil)) (ja_cons (je_ty (fun X ok => cr_tupleD ok.K) (by rfl) T.b_tuple (by decide +kernel) (ja_cons (je_comp [(("step" : Str), 1)] (by decide +kernel) (JI.t (ji_seq (je_var 0))) (jg_var 1) (by decide) jt_no (je_call F_step_order (by decide) (by rfl) (ja_cons (je_var 1) ja_nil))) ja_nil)) ja_nil))))
  js_nil)
theorem j_least_turn {g : Gb} (T : Tx g) (F_walk_key : FnS g 2 "walk_key" ["walk"] m_walk_key) : JSs g ⟨["core", "at"], defScope s_least_turn, fun _ => true, 3⟩ b_least_turn (defBody s_least_turn) :=
  (js_cons (js_ret (je_min F_walk_key (by decide) rfl (by rfl) (by rfl) T.b_min (je_comp [(("at" : Str), 1)] (by decide +kernel) (JI.t (ji_rg1 (by rfl) T.b_range (ja_cons (je_bi (fun X ok => cr_lenD ok.K) (by rfl) T.b_len (by decide +kernel) (ja_cons (je_var 0) ja_nil)) ja_nil))) (jg_var 1) (by decide) jt_no (je_bin (fun X ok => op_addD ok.K) (je_slc (je_var 0) (jo_yes (je_var 1)) jo_no) (je_slc (je_var 0) jo_no (jo_yes (je_var 1))))) (je_tup ja_nil)))
  js_nil)
theorem j_parted {g : Gb} (T : Tx g) : JSs g ⟨["walk", "begin", "end"], defScope s_parted, fun _ => true, 0⟩ b_parted (defBody s_parted) :=
  (js_cons (js_par (i := 1) (j := 2) rfl rfl (by decide) (by rfl) (by rfl) (ja_cons je_int (ja_cons (je_bi (fun X ok => cr_lenD ok.K) (by rfl) T.b_len (by decide +kernel) (ja_cons (je_var 0) ja_nil)) ja_nil)) (by rintro ⟨⟩ rfl; rfl))
  (js_cons (js_while (je_bool (jw_and (je_cmp (fun X ok => op_ltI ok.K op_gt) ltI_bl (je_bin (fun X ok => op_subD ok.K) (je_var 2) (je_var 1)) je_int) (jw_and1 (je_cmp (fun X ok => op_eqDD ok.K ok.room.units) eqD_bl (je_ix (je_var 0) (je_var 1)) (je_un (fun X ok => op_negD ok.K) (je_ix (je_var 0) (je_bin (fun X ok => op_subD ok.K) (je_var 2) je_int))))))) (js_cons (js_par (i := 1) (j := 2) rfl rfl (by decide) (by rfl) (by rfl) (ja_cons (je_bin (fun X ok => op_addD ok.K) (je_var 1) je_int) (ja_cons (je_bin (fun X ok => op_subD ok.K) (je_var 2) je_int) ja_nil)) (by rintro ⟨⟩ rfl; rfl))
  js_nil))
  (js_cons (js_ret (je_tup (ja_cons (je_slc (je_var 0) jo_no (jo_yes (je_var 1))) (ja_cons (je_slc (je_var 0) (jo_yes (je_var 1)) (jo_yes (je_var 2))) ja_nil))))
  js_nil)))
theorem j_straightened {g : Gb} (T : Tx g) : JSs g ⟨["walk", "found", "step"], defScope s_straightened, fun _ => true, 0⟩ b_straightened (defBody s_straightened) :=
  (js_cons (js_asg (je_lst ja_nil) (jg_var 1))
  (js_cons (js_for (JI.t (ji_seq (je_var 0))) (jg_var 2) (js_cons (js_if (je_bool (jw_and (je_cmp (fun X ok => op_ltI ok.K op_gt) ltI_bl (je_bi (fun X ok => cr_lenD ok.K) (by rfl) T.b_len (by decide +kernel) (ja_cons (je_var 1) ja_nil)) je_int) (jw_and1 (je_cmp (fun X ok => op_eqDD ok.K ok.room.units) eqD_bl (je_ix (je_var 1) (je_un (fun X ok => op_negD ok.K) je_int)) (je_un (fun X ok => op_negD ok.K) (je_var 2)))))) (js_cons (js_expr (je_bm0 PySem.F.slot_list_pop PySem.F.type_list_pop (fun X ok => mt_popD ok.K) (je_var 1)))
  js_nil) (js_cons (js_expr (je_bm PySem.F.slot_list_append PySem.F.type_list_append (fun X ok => mt_appendD ok.K) (je_var 1) (ja_cons (je_var 2) ja_nil)))
  js_nil))
  js_nil))
  (js_cons (js_ret (je_ty (fun X ok => cr_tupleD ok.K) (by rfl) T.b_tuple (by decide +kernel) (ja_cons (je_var 1) ja_nil)))
  js_nil)))
theorem j_round_from {g : Gb} (T : Tx g) (F_least_turn : FnS g 4 "least_turn" ["core"] m_least_turn) (F_parted : FnS g 1 "parted" ["walk"] m_parted) (F_straightened : FnS g 1 "straightened" ["walk"] m_straightened) : JSs g ⟨["walk"], defScope s_round_from, fun _ => true, 4⟩ b_round_from (defBody s_round_from) :=
  (js_cons (js_ret (je_call F_least_turn (by decide) (by rfl) (ja_cons (je_ix (je_call F_parted (by decide) (by rfl) (ja_cons (je_call F_straightened (by decide) (by rfl) (ja_cons (je_var 0) ja_nil)) ja_nil)) je_int) ja_nil)))
  js_nil)
theorem j_turned_back {g : Gb} (T : Tx g) : JSs g ⟨["walk", "step"], defScope s_turned_back, fun _ => true, 0⟩ b_turned_back (defBody s_turned_back) :=
  (js_cons (js_ret (je_ty (fun X ok => cr_tupleD ok.K) (by rfl) T.b_tuple (by decide +kernel) (ja_cons (je_comp [(("step" : Str), 1)] (by decide +kernel) (JI.t (ji_seq (je_rev (je_var 0)))) (jg_var 1) (by decide) jt_no (je_un (fun X ok => op_negD ok.K) (je_var 1))) ja_nil)))
  js_nil)
theorem j_put_for {g : Gb} (T : Tx g) (F_straightened : FnS g 1 "straightened" ["walk"] m_straightened) (F_turned_back : FnS g 1 "turned_back" ["walk"] m_turned_back) : JSs g ⟨["walks", "walk", "steps", "step"], defScope s_put_for, fun _ => true, 1⟩ b_put_for (defBody s_put_for) :=
  (js_cons (js_asg (je_lst ja_nil) (jg_var 2))
  (js_cons (js_for (JI.t (ji_seq (je_var 1))) (jg_var 3) (js_cons (js_expr (je_bm PySem.F.slot_list_extend PySem.F.type_list_extend (fun X ok => mt_extendD2 ok.K) (je_var 2) (ja_cons (je_if (je_cmp (fun X ok => op_ltI ok.K op_gt) ltI_bl (je_var 3) je_int) (je_ix (je_var 0) (je_bin (fun X ok => op_subD ok.K) (je_var 3) je_int)) (je_call F_turned_back (by decide) (by rfl) (ja_cons (je_ix (je_var 0) (je_bin (fun X ok => op_subD ok.K) (je_un (fun X ok => op_negD ok.K) (je_var 3)) je_int)) ja_nil))) ja_nil)))
  js_nil))
  (js_cons (js_ret (je_call F_straightened (by decide) (by rfl) (ja_cons (je_var 2) ja_nil)))
  js_nil)))
theorem j_led_walk {g : Gb} (T : Tx g) (F_put_for : FnS g 2 "put_for" ["walks", "walk"] m_put_for) : JSs g ⟨["turning", "walk"], defScope s_led_walk, fun _ => true, 2⟩ b_led_walk (defBody s_led_walk) :=
  (js_cons (js_ret (je_call F_put_for (by decide) (by rfl) (ja_cons (je_ix (je_var 0) je_int) (ja_cons (je_var 1) ja_nil))))
  js_nil)
theorem j_turned_rounds {g : Gb} (T : Tx g) (F_round_from : FnS g 5 "round_from" ["walk"] m_round_from) (F_led_walk : FnS g 3 "led_walk" ["turning", "walk"] m_led_walk) : JSs g ⟨["turning", "rounds", "part"], defScope s_turned_rounds, fun _ => true, 5⟩ b_turned_rounds (defBody s_turned_rounds) :=
  (js_cons (js_ret (je_ty (fun X ok => cr_tupleD ok.K) (by rfl) T.b_tuple (by decide +kernel) (ja_cons (je_comp [(("part" : Str), 2)] (by decide +kernel) (JI.t (ji_seq (je_var 1))) (jg_var 2) (by decide) jt_no (je_call F_round_from (by decide) (by rfl) (ja_cons (je_call F_led_walk (by decide) (by rfl) (ja_cons (je_var 0) (ja_cons (je_var 2) ja_nil))) ja_nil))) ja_nil)))
  js_nil)
theorem j_led_letter {g : Gb} (T : Tx g) : JSs g ⟨["move", "letter", "step", "lot", "ahead"], defScope s_led_letter, fun _ => true, 0⟩ b_led_letter (defBody s_led_letter) :=
  (js_cons (js_if (je_cmp (fun X ok => op_eqDD ok.K ok.room.units) eqD_bl (je_ix (je_var 0) je_int) (T.c_NAMES (by rfl))) (js_cons (js_ret (je_tup (ja_cons (je_ix (je_ix (je_var 0) je_int) (je_bin (fun X ok => op_subD ok.K) (je_var 1) je_int)) ja_nil)))
  js_nil) js_nil)
  (js_cons (js_par (i := 2) (j := 3) rfl rfl (by decide) (by rfl) (by rfl) (ja_cons (je_ix (je_var 0) je_int) (ja_cons (je_ix (je_var 0) je_int) ja_nil)) (by rintro ⟨⟩ rfl; rfl))
  (js_cons (js_if (je_cmp (fun X ok => op_eqDD ok.K ok.room.units) eqD_bl (je_bi (fun X ok => cr_absD ok.K) (by rfl) T.b_abs (by decide +kernel) (ja_cons (je_var 2) ja_nil)) (je_var 1)) (js_cons (js_ret (je_tup (ja_cons (je_var 1) ja_nil)))
  js_nil) js_nil)
  (js_cons (js_asg (je_if (je_cmp (fun X ok => op_inD ok.K) inD_bl (je_un (fun X ok => op_negD ok.K) (je_var 1)) (je_var 3)) (je_tup (ja_cons (je_un (fun X ok => op_negD ok.K) (je_var 2)) ja_nil)) (je_tup ja_nil)) (jg_var 4))
  (js_cons (js_ret (je_bin (fun X ok => op_addD ok.K) (je_bin (fun X ok => op_addD ok.K) (je_var 4) (je_tup (ja_cons (je_var 1) ja_nil))) (je_if (je_cmp (fun X ok => op_inD ok.K) inD_bl (je_var 1) (je_var 3)) (je_tup (ja_cons (je_var 2) ja_nil)) (je_tup ja_nil))))
  js_nil)))))
theorem j_turning_of {g : Gb} (T : Tx g) (F_led_letter : FnS g 1 "led_letter" ["move", "letter"] m_led_letter) : JSs g ⟨["letters", "move", "letter"], defScope s_turning_of, fun _ => true, 1⟩ b_turning_of (defBody s_turning_of) :=
  (js_cons (js_ret (je_tup (ja_cons (je_var 0) (ja_cons (je_ty (fun X ok => cr_tupleD ok.K) (by rfl) T.b_tuple (by decide +kernel) (ja_cons (je_comp [(("letter" : Str), 2)] (by decide +kernel) (JI.t (ji_rg2 (by rfl) T.b_range (ja_cons je_int (ja_cons (je_bin (fun X ok => op_addD ok.K) (je_var 0) je_int) ja_nil)))) (jg_var 2) (by decide) jt_no (je_call F_led_letter (by decide) (by rfl) (ja_cons (je_var 1) (ja_cons (je_var 2) ja_nil)))) ja_nil)) ja_nil))))
  js_nil)
theorem j_moved_rounds {g : Gb} (T : Tx g) (F_turned_rounds : FnS g 6 "turned_rounds" ["turning", "rounds"] m_turned_rounds) (F_turning_of : FnS g 2 "turning_of" ["letters", "move"] m_turning_of) : JSs g ⟨["letters", "move", "rounds"], defScope s_moved_rounds, fun _ => true, 6⟩ b_moved_rounds (defBody s_moved_rounds) :=
  (js_cons (js_ret (je_call F_turned_rounds (by decide) (by rfl) (ja_cons (je_call F_turning_of (by decide) (by rfl) (ja_cons (je_var 0) (ja_cons (je_var 1) ja_nil))) (ja_cons (je_var 2) ja_nil))))
  js_nil)
theorem j_is_integer {g : Gb} (T : Tx g) : JSs g ⟨["value"], defScope s_is_integer, fun _ => true, 0⟩ b_is_integer (defBody s_is_integer) :=
  (js_cons (js_ret (je_bool (jw_and (je_isi (t := .int) rfl (by rfl) T.b_isinstance (by rfl) T.b_int (je_var 0)) (jw_and1 (je_not (je_isi (t := .bool) rfl (by rfl) T.b_isinstance (by rfl) T.b_bool (je_var 0)))))))
  js_nil)
theorem j_is_step {g : Gb} (T : Tx g) (F_is_integer : FnS g 1 "is_integer" ["value"] m_is_integer) : JSs g ⟨["value", "letters"], defScope s_is_step, fun _ => true, 1⟩ b_is_step (defBody s_is_step) :=
  (js_cons (js_ret (je_bool (jw_and (je_call F_is_integer (by decide) (by rfl) (ja_cons (je_var 0) ja_nil)) (jw_and1 (je_chain (fun X ok => op_ltI ok.K op_le) (fun X ok => op_ltI ok.K op_le) ltI_bl ltI_bl je_int (je_bi (fun X ok => cr_absD ok.K) (by rfl) T.b_abs (by decide +kernel) (ja_cons (je_var 0) ja_nil)) (je_var 1))))))
  js_nil)
theorem j_is_a_walk {g : Gb} (T : Tx g) (F_is_step : FnS g 2 "is_step" ["value", "letters"] m_is_step) : JSs g ⟨["value", "letters", "step"], defScope s_is_a_walk, fun _ => true, 2⟩ b_is_a_walk (defBody s_is_a_walk) :=
  (js_cons (js_ret (je_bool (jw_and (je_isi (t := .tuple) rfl (by rfl) T.b_isinstance (by rfl) T.b_tuple (je_var 0)) (jw_and1 (je_bi (fun X ok => cr_allD ok.K ok.calm) (by rfl) T.b_all (by decide +kernel) (ja_cons (je_comp [(("step" : Str), 2)] (by decide +kernel) (JI.t (ji_seq (je_var 0))) (jg_var 2) (by decide) jt_no (je_call F_is_step (by decide) (by rfl) (ja_cons (je_var 2) (ja_cons (je_var 1) ja_nil)))) ja_nil))))))
  js_nil)
theorem j_is_a_round {g : Gb} (T : Tx g) (F_is_a_walk : FnS g 3 "is_a_walk" ["value", "letters"] m_is_a_walk) (F_round_from : FnS g 5 "round_from" ["walk"] m_round_from) : JSs g ⟨["letters", "value"], defScope s_is_a_round, fun _ => true, 5⟩ b_is_a_round (defBody s_is_a_round) :=
  (js_cons (js_ret (je_bool (jw_and (je_call F_is_a_walk (by decide) (by rfl) (ja_cons (je_var 1) (ja_cons (je_var 0) ja_nil))) (jw_and1 (je_cmp (fun X ok => op_eqDD ok.K ok.room.units) eqD_bl (je_call F_round_from (by decide) (by rfl) (ja_cons (je_var 1) ja_nil)) (je_var 1))))))
  js_nil)
theorem j_are_rounds {g : Gb} (T : Tx g) (F_is_a_round : FnS g 6 "is_a_round" ["letters", "value"] m_is_a_round) : JSs g ⟨["letters", "value", "part"], defScope s_are_rounds, fun _ => true, 6⟩ b_are_rounds (defBody s_are_rounds) :=
  (js_cons (js_if (je_bool (jw_or (je_not (je_isi (t := .tuple) rfl (by rfl) T.b_isinstance (by rfl) T.b_tuple (je_var 1))) (jw_or1 (je_not (je_chain (fun X ok => op_ltI ok.K op_le) (fun X ok => op_ltI ok.K op_le) ltI_bl ltI_bl je_int (je_bi (fun X ok => cr_lenD ok.K) (by rfl) T.b_len (by decide +kernel) (ja_cons (je_var 1) ja_nil)) (T.c_MOST_ROUNDS (by rfl))))))) (js_cons (js_ret je_bl)
  js_nil) js_nil)
  (js_cons (js_ret (je_bi (fun X ok => cr_allD ok.K ok.calm) (by rfl) T.b_all (by decide +kernel) (ja_cons (je_comp [(("part" : Str), 2)] (by decide +kernel) (JI.t (ji_seq (je_var 1))) (jg_var 2) (by decide) jt_no (je_call F_is_a_round (by decide) (by rfl) (ja_cons (je_var 0) (ja_cons (je_var 2) ja_nil)))) ja_nil)))
  js_nil))
theorem j_need_rounds {g : Gb} (T : Tx g) (F_are_rounds : FnS g 7 "are_rounds" ["letters", "value"] m_are_rounds) : JSs g ⟨["letters", "rounds"], defScope s_need_rounds, fun _ => true, 7⟩ b_need_rounds (defBody s_need_rounds) :=
  (js_cons (js_if (je_not (je_call F_are_rounds (by decide) (by rfl) (ja_cons (je_var 0) (ja_cons (je_var 1) ja_nil)))) (js_cons js_no
  js_nil) js_nil)
  js_nil)
theorem j_is_lot {g : Gb} (T : Tx g) (F_step_order : FnS g 1 "step_order" ["step"] m_step_order) (F_is_step : FnS g 2 "is_step" ["value", "letters"] m_is_step) : JSs g ⟨["letters", "step", "value", "part", "places", "is_ascending", "one", "other"], defScope s_is_lot, fun _ => true, 2⟩ b_is_lot (defBody s_is_lot) :=
  (js_cons (js_if (je_bool (jw_or (je_not (je_isi (t := .tuple) rfl (by rfl) T.b_isinstance (by rfl) T.b_tuple (je_var 2))) (jw_or (je_cmp (fun X ok => op_ltI ok.K op_lt) ltI_bl (je_bi (fun X ok => cr_lenD ok.K) (by rfl) T.b_len (by decide +kernel) (ja_cons (je_var 2) ja_nil)) je_int) (jw_or1 (je_not (je_bi (fun X ok => cr_allD ok.K ok.calm) (by rfl) T.b_all (by decide +kernel) (ja_cons (je_comp [(("part" : Str), 3)] (by decide +kernel) (JI.t (ji_seq (je_var 2))) (jg_var 3) (by decide) jt_no (je_call F_is_step (by decide) (by rfl) (ja_cons (je_var 3) (ja_cons (je_var 0) ja_nil)))) ja_nil))))))) (js_cons (js_ret je_bl)
  js_nil) js_nil)
  (js_cons (js_setLc 4 [(("part" : Str), 3)] (by decide +kernel) (JI.t (ji_seq (je_var 2))) (jg_var 3) (by decide) jt_no (je_call F_step_order (by decide) (by rfl) (ja_cons (je_var 3) ja_nil)) rfl (by rfl) rfl (by rfl) rfl (by decide +kernel))
  (js_cons (js_asg (je_bi (fun X ok => cr_allD ok.K ok.calm) (by rfl) T.b_all (by decide +kernel) (ja_cons (je_comp [(("one" : Str), 6), (("other" : Str), 7)] (by decide +kernel) (ji_zip (by rfl) T.b_zip (ja_cons (je_var 4) (ja_cons (je_slc (je_var 4) (jo_yes je_int) jo_no) ja_nil))) (jg_tup (jgs_cons (jg_var 6) (jgs_cons (jg_var 7) jgs_nil))) (by decide) jt_no (je_cmp (fun X ok => op_ltI ok.K op_lt) ltI_bl (je_var 6) (je_var 7))) ja_nil)) (jg_var 5))
  (js_cons (js_ret (je_bool (jw_and (je_var 5) (jw_and (je_cmp (fun X ok => op_inD ok.K) inD_bl (je_var 1) (je_var 2)) (jw_and1 (je_cmp (fun X ok => op_notInD ok.K) inD_bl (je_un (fun X ok => op_negD ok.K) (je_var 1)) (je_var 2)))))))
  js_nil))))
theorem j_is_a_move {g : Gb} (T : Tx g) (F_is_step : FnS g 2 "is_step" ["value", "letters"] m_is_step) (F_is_lot : FnS g 3 "is_lot" ["letters", "step", "value"] m_is_lot) : JSs g ⟨["letters", "value", "part", "is_whole"], defScope s_is_a_move, fun _ => true, 3⟩ b_is_a_move (defBody s_is_a_move) :=
  (js_cons (js_if (je_bool (jw_or (je_not (je_isi (t := .tuple) rfl (by rfl) T.b_isinstance (by rfl) T.b_tuple (je_var 1))) (jw_or (je_not (je_chain (fun X ok => op_ltI ok.K op_le) (fun X ok => op_ltI ok.K op_le) ltI_bl ltI_bl je_int (je_bi (fun X ok => cr_lenD ok.K) (by rfl) T.b_len (by decide +kernel) (ja_cons (je_var 1) ja_nil)) je_int)) (jw_or1 (je_not (je_isi (t := .str) rfl (by rfl) T.b_isinstance (by rfl) T.b_str (je_ix (je_var 1) je_int))))))) (js_cons (js_ret je_bl)
  js_nil) js_nil)
  (js_cons (js_if (je_cmp (fun X ok => op_eqDD ok.K ok.room.units) eqD_bl (je_ix (je_var 1) je_int) (T.c_LOT (by rfl))) (js_cons (js_ret (je_bool (jw_and (je_cmp (fun X ok => op_eqDD ok.K ok.room.units) eqD_bl (je_bi (fun X ok => cr_lenD ok.K) (by rfl) T.b_len (by decide +kernel) (ja_cons (je_var 1) ja_nil)) je_int) (jw_and (je_call F_is_step (by decide) (by rfl) (ja_cons (je_ix (je_var 1) je_int) (ja_cons (je_var 0) ja_nil))) (jw_and1 (je_call F_is_lot (by decide) (by rfl) (ja_cons (je_var 0) (ja_cons (je_ix (je_var 1) je_int) (ja_cons (je_ix (je_var 1) je_int) ja_nil)))))))))
  js_nil) js_nil)
  (js_cons (js_if (je_bool (jw_or (je_cmp (fun X ok => op_neDD ok.K ok.room.units) neD_bl (je_ix (je_var 1) je_int) (T.c_NAMES (by rfl))) (jw_or (je_cmp (fun X ok => op_neDD ok.K ok.room.units) neD_bl (je_bi (fun X ok => cr_lenD ok.K) (by rfl) T.b_len (by decide +kernel) (ja_cons (je_var 1) ja_nil)) je_int) (jw_or (je_not (je_isi (t := .tuple) rfl (by rfl) T.b_isinstance (by rfl) T.b_tuple (je_ix (je_var 1) je_int))) (jw_or1 (je_cmp (fun X ok => op_neDD ok.K ok.room.units) neD_bl (je_bi (fun X ok => cr_lenD ok.K) (by rfl) T.b_len (by decide +kernel) (ja_cons (je_ix (je_var 1) je_int) ja_nil)) (je_var 0))))))) (js_cons (js_ret je_bl)
  js_nil) js_nil)
  (js_cons (js_if (je_not (je_bi (fun X ok => cr_allD ok.K ok.calm) (by rfl) T.b_all (by decide +kernel) (ja_cons (je_comp [(("part" : Str), 2)] (by decide +kernel) (JI.t (ji_seq (je_ix (je_var 1) je_int))) (jg_var 2) (by decide) jt_no (je_call F_is_step (by decide) (by rfl) (ja_cons (je_var 2) (ja_cons (je_var 0) ja_nil)))) ja_nil))) (js_cons (js_ret je_bl)
  js_nil) js_nil)
  (js_cons (js_asg (je_cmp (fun X ok => op_eqDD ok.K ok.room.units) eqD_bl (je_bi (fun X ok => cr_sortedD ok.K) (by rfl) T.b_sorted (by decide +kernel) (ja_cons (je_comp [(("part" : Str), 2)] (by decide +kernel) (JI.t (ji_seq (je_ix (je_var 1) je_int))) (jg_var 2) (by decide) jt_no (je_bi (fun X ok => cr_absD ok.K) (by rfl) T.b_abs (by decide +kernel) (ja_cons (je_var 2) ja_nil))) ja_nil)) (je_lstR2 (by rfl) T.b_list (by rfl) T.b_range je_int (je_bin (fun X ok => op_addD ok.K) (je_var 0) je_int))) (jg_var 3))
  (js_cons (js_ret (je_bool (jw_and (je_var 3) (jw_and1 (je_cmp (fun X ok => op_neDD ok.K ok.room.units) neD_bl (je_ix (je_var 1) je_int) (je_tupR2 (by rfl) T.b_tuple (by rfl) T.b_range je_int (je_bin (fun X ok => op_addD ok.K) (je_var 0) je_int)))))))
  js_nil))))))
theorem j_need_moves {g : Gb} (T : Tx g) (F_is_a_move : FnS g 4 "is_a_move" ["letters", "value"] m_is_a_move) : JSs g ⟨["letters", "moves", "index", "move"], defScope s_need_moves, fun _ => true, 4⟩ b_need_moves (defBody s_need_moves) :=
  (js_cons (js_if (je_not (je_isi (t := .list) rfl (by rfl) T.b_isinstance (by rfl) T.b_list (je_var 1))) (js_cons js_no
  js_nil) js_nil)
  (js_cons (js_for (ji_enum2 (by rfl) T.b_enumerate (ja_cons (je_var 1) ja_nil)) (jg_tup (jgs_cons (jg_var 2) (jgs_cons (jg_var 3) jgs_nil))) (js_cons (js_if (je_not (je_call F_is_a_move (by decide) (by rfl) (ja_cons (je_var 0) (ja_cons (je_var 3) ja_nil)))) (js_cons js_no
  js_nil) js_nil)
  js_nil))
  js_nil))
theorem j_is_letters {g : Gb} (T : Tx g) (F_is_integer : FnS g 1 "is_integer" ["value"] m_is_integer) : JSs g ⟨["value"], defScope s_is_letters, fun _ => true, 1⟩ b_is_letters (defBody s_is_letters) :=
  (js_cons (js_ret (je_bool (jw_and (je_call F_is_integer (by decide) (by rfl) (ja_cons (je_var 0) ja_nil)) (jw_and1 (je_chain (fun X ok => op_ltI ok.K op_le) (fun X ok => op_ltI ok.K op_le) ltI_bl ltI_bl je_int (je_var 0) (T.c_MOST_LETTERS (by rfl)))))))
  js_nil)
theorem j_need_letters {g : Gb} (T : Tx g) (F_is_letters : FnS g 2 "is_letters" ["value"] m_is_letters) : JSs g ⟨["letters"], defScope s_need_letters, fun _ => true, 2⟩ b_need_letters (defBody s_need_letters) :=
  (js_cons (js_if (je_not (je_call F_is_letters (by decide) (by rfl) (ja_cons (je_var 0) ja_nil))) (js_cons js_no
  js_nil) js_nil)
  js_nil)
theorem j_moved_by {g : Gb} (T : Tx g) (F_moved_rounds : FnS g 7 "moved_rounds" ["letters", "move", "rounds"] m_moved_rounds) (F_need_rounds : FnS g 8 "need_rounds" ["letters", "rounds"] m_need_rounds) (F_need_moves : FnS g 5 "need_moves" ["letters", "moves"] m_need_moves) (F_need_letters : FnS g 3 "need_letters" ["letters"] m_need_letters) : JSs g ⟨["letters", "moves", "rounds", "move"], defScope s_moved_by, fun _ => true, 8⟩ b_moved_by (defBody s_moved_by) :=
  (js_cons (js_expr (je_call F_need_letters (by decide) (by rfl) (ja_cons (je_var 0) ja_nil)))
  (js_cons (js_expr (je_call F_need_moves (by decide) (by rfl) (ja_cons (je_var 0) (ja_cons (je_var 1) ja_nil))))
  (js_cons (js_expr (je_call F_need_rounds (by decide) (by rfl) (ja_cons (je_var 0) (ja_cons (je_var 2) ja_nil))))
  (js_cons (js_for (JI.t (ji_seq (je_var 1))) (jg_var 3) (js_cons (js_asg (je_call F_moved_rounds (by decide) (by rfl) (ja_cons (je_var 0) (ja_cons (je_var 3) (ja_cons (je_var 2) ja_nil)))) (jg_var 2))
  js_nil))
  (js_cons (js_ret (je_var 2))
  js_nil)))))
theorem j_length {g : Gb} (T : Tx g) : JSs g ⟨["rounds", "part"], defScope s_length, fun _ => true, 0⟩ b_length (defBody s_length) :=
  (js_cons (js_ret (je_bi (fun X ok => cr_sumD ok.K ok.calm) (by rfl) T.b_sum (by decide +kernel) (ja_cons (je_comp [(("part" : Str), 1)] (by decide +kernel) (JI.t (ji_seq (je_var 0))) (jg_var 1) (by decide) jt_no (je_bi (fun X ok => cr_lenD ok.K) (by rfl) T.b_len (by decide +kernel) (ja_cons (je_var 1) ja_nil))) ja_nil)))
  js_nil)
theorem j_length_of {g : Gb} (T : Tx g) (F_length : FnS g 1 "length" ["rounds"] m_length) (F_need_rounds : FnS g 8 "need_rounds" ["letters", "rounds"] m_need_rounds) (F_need_letters : FnS g 3 "need_letters" ["letters"] m_need_letters) : JSs g ⟨["letters", "rounds"], defScope s_length_of, fun _ => true, 8⟩ b_length_of (defBody s_length_of) :=
  (js_cons (js_expr (je_call F_need_letters (by decide) (by rfl) (ja_cons (je_var 0) ja_nil)))
  (js_cons (js_expr (je_call F_need_rounds (by decide) (by rfl) (ja_cons (je_var 0) (ja_cons (je_var 1) ja_nil))))
  (js_cons (js_ret (je_call F_length (by decide) (by rfl) (ja_cons (je_var 1) ja_nil)))
  js_nil)))
theorem j__law_order {g : Gb} (T : Tx g) : JSs g ⟨["step"], defScope s__law_order, fun _ => true, 0⟩ b__law_order (defBody s__law_order) :=
  (js_cons (js_ret (je_if (je_cmp (fun X ok => op_ltI ok.K op_gt) ltI_bl (je_var 0) je_int) (je_bin (fun X ok => op_subD ok.K) (je_bin (fun X ok => op_mulD ok.K) je_int (je_var 0)) je_int) (je_bin (fun X ok => op_subD ok.K) (je_bin (fun X ok => op_mulD ok.K) (je_un (fun X ok => op_negD ok.K) je_int) (je_var 0)) je_int)))
  js_nil)
theorem j__law_move_back {g : Gb} (T : Tx g) (F__law_order : FnS g 1 "_law_order" ["step"] m__law_order) : JSs g ⟨["move", "lot", "step", "found", "letter", "places", "at"], defScope s__law_move_back, fun _ => true, 3⟩ b__law_move_back (defBody s__law_move_back) :=
  (js_cons (js_if (je_cmp (fun X ok => op_eqDD ok.K ok.room.units) eqD_bl (je_ix (je_var 0) je_int) je_str) (js_cons (js_setLc 1 [(("step" : Str), 2)] (by decide +kernel) (JI.t (ji_seq (je_ix (je_var 0) je_int))) (jg_var 2) (by decide) jt_no (je_if (je_cmp (fun X ok => op_eqDD ok.K ok.room.units) eqD_bl (je_var 2) (je_ix (je_var 0) je_int)) (je_un (fun X ok => op_negD ok.K) (je_var 2)) (je_var 2)) rfl (by rfl) rfl (by rfl) rfl (by decide +kernel))
  (js_cons (js_ret (je_tup (ja_cons je_str (ja_cons (je_un (fun X ok => op_negD ok.K) (je_ix (je_var 0) je_int)) (ja_cons (je_ty (fun X ok => cr_tupleD ok.K) (by rfl) T.b_tuple (by decide +kernel) (ja_cons (je_sortK F__law_order (by decide) rfl (by rfl) (by rfl) T.b_sorted (je_var 1)) ja_nil)) ja_nil)))))
  js_nil)) js_nil)
  (js_cons (js_asg (je_lst ja_nil) (jg_var 3))
  (js_cons (js_for (JI.t (ji_rg2 (by rfl) T.b_range (ja_cons je_int (ja_cons (je_bin (fun X ok => op_addD ok.K) (je_bi (fun X ok => cr_lenD ok.K) (by rfl) T.b_len (by decide +kernel) (ja_cons (je_ix (je_var 0) je_int) ja_nil)) je_int) ja_nil)))) (jg_var 4) (js_cons (js_setLc 5 [(("at" : Str), 6)] (by decide +kernel) (JI.t (ji_rg1 (by rfl) T.b_range (ja_cons (je_bi (fun X ok => cr_lenD ok.K) (by rfl) T.b_len (by decide +kernel) (ja_cons (je_ix (je_var 0) je_int) ja_nil)) ja_nil))) (jg_var 6) (by decide) (jt_one (je_cmp (fun X ok => op_eqDD ok.K ok.room.units) eqD_bl (je_bi (fun X ok => cr_absD ok.K) (by rfl) T.b_abs (by decide +kernel) (ja_cons (je_ix (je_ix (je_var 0) je_int) (je_var 6)) ja_nil)) (je_var 4))) (je_if (je_cmp (fun X ok => op_ltI ok.K op_gt) ltI_bl (je_ix (je_ix (je_var 0) je_int) (je_var 6)) je_int) (je_bin (fun X ok => op_addD ok.K) (je_var 6) je_int) (je_bin (fun X ok => op_subD ok.K) (je_un (fun X ok => op_negD ok.K) (je_var 6)) je_int)) rfl (by rfl) rfl (by rfl) rfl (by decide +kernel))
  (js_cons (js_expr (je_bm PySem.F.slot_list_append PySem.F.type_list_append (fun X ok => mt_appendD ok.K) (je_var 3) (ja_cons (je_ix (je_var 5) je_int) ja_nil)))
  js_nil)))
  (js_cons (js_ret (je_tup (ja_cons je_str (ja_cons (je_ty (fun X ok => cr_tupleD ok.K) (by rfl) T.b_tuple (by decide +kernel) (ja_cons (je_var 3) ja_nil)) ja_nil))))
  js_nil))))
theorem j__law_key {g : Gb} (T : Tx g) (F__law_order : FnS g 1 "_law_order" ["step"] m__law_order) : JSs g ⟨["walk", "step"], defScope s__law_key, fun _ => true, 1⟩ b__law_key (defBody s__law_key) :=
  (js_cons (js_ret (je_tup (ja_cons (je_bi (fun X ok => cr_lenD ok.K) (by rfl) T.b_len (by decide +kernel) (ja_cons (je_var 0) ja_nil)) (ja_cons (je_ty (fun X ok => cr_tupleD ok.K) (by rfl) T.b_tuple (by decide +kernel) (ja_cons (je_comp [(("step" : Str), 1)] (by decide +kernel) (JI.t (ji_seq (je_var 0))) (jg_var 1) (by decide) jt_no (je_call F__law_order (by decide) (by rfl) (ja_cons (je_var 1) ja_nil))) ja_nil)) ja_nil))))
  js_nil)
theorem j__law_straight {g : Gb} (T : Tx g) : JSs g ⟨["walk", "found", "step"], defScope s__law_straight, fun _ => true, 0⟩ b__law_straight (defBody s__law_straight) :=
  (js_cons (js_asg (je_lst ja_nil) (jg_var 1))
  (js_cons (js_for (JI.t (ji_seq (je_var 0))) (jg_var 2) (js_cons (js_if (je_bool (jw_and (je_cmp (fun X ok => op_neDD ok.K ok.room.units) neD_bl (je_var 1) (je_lst ja_nil)) (jw_and1 (je_cmp (fun X ok => op_eqDD ok.K ok.room.units) eqD_bl (je_ix (je_var 1) (je_un (fun X ok => op_negD ok.K) je_int)) (je_un (fun X ok => op_negD ok.K) (je_var 2)))))) (js_cons (js_expr (je_bm0 PySem.F.slot_list_pop PySem.F.type_list_pop (fun X ok => mt_popD ok.K) (je_var 1)))
  js_nil) (js_cons (js_expr (je_bm PySem.F.slot_list_append PySem.F.type_list_append (fun X ok => mt_appendD ok.K) (je_var 1) (ja_cons (je_var 2) ja_nil)))
  js_nil))
  js_nil))
  (js_cons (js_ret (je_ty (fun X ok => cr_tupleD ok.K) (by rfl) T.b_tuple (by decide +kernel) (ja_cons (je_var 1) ja_nil)))
  js_nil)))
theorem j__law_round {g : Gb} (T : Tx g) (F__law_key : FnS g 2 "_law_key" ["walk"] m__law_key) (F__law_straight : FnS g 1 "_law_straight" ["walk"] m__law_straight) : JSs g ⟨["walk", "core", "low", "high", "turn", "found", "at", "other"], defScope s__law_round, fun _ => true, 2⟩ b__law_round (defBody s__law_round) :=
  (js_cons (js_asg (je_ty (fun X ok => cr_listD ok.K) (by rfl) T.b_list (by decide +kernel) (ja_cons (je_call F__law_straight (by decide) (by rfl) (ja_cons (je_var 0) ja_nil)) ja_nil)) (jg_var 1))
  (js_cons (js_par (i := 2) (j := 3) rfl rfl (by decide) (by rfl) (by rfl) (ja_cons je_int (ja_cons (je_bi (fun X ok => cr_lenD ok.K) (by rfl) T.b_len (by decide +kernel) (ja_cons (je_var 1) ja_nil)) ja_nil)) (by rintro ⟨⟩ rfl; rfl))
  (js_cons (js_for (JI.t (ji_rg1 (by rfl) T.b_range (ja_cons (je_bin (fun X ok => op_fdivD ok.K) (je_bi (fun X ok => cr_lenD ok.K) (by rfl) T.b_len (by decide +kernel) (ja_cons (je_var 1) ja_nil)) je_int) ja_nil))) (jg_var 4) (js_cons (js_if (je_bool (jw_and (je_cmp (fun X ok => op_ltI ok.K op_gt) ltI_bl (je_bin (fun X ok => op_subD ok.K) (je_var 3) (je_var 2)) je_int) (jw_and1 (je_cmp (fun X ok => op_eqDD ok.K ok.room.units) eqD_bl (je_ix (je_var 1) (je_var 2)) (je_un (fun X ok => op_negD ok.K) (je_ix (je_var 1) (je_bin (fun X ok => op_subD ok.K) (je_var 3) je_int))))))) (js_cons (js_par (i := 2) (j := 3) rfl rfl (by decide) (by rfl) (by rfl) (ja_cons (je_bin (fun X ok => op_addD ok.K) (je_var 2) je_int) (ja_cons (je_bin (fun X ok => op_subD ok.K) (je_var 3) je_int) ja_nil)) (by rintro ⟨⟩ rfl; rfl))
  js_nil) js_nil)
  js_nil))
  (js_cons (js_asg (je_slc (je_var 1) (jo_yes (je_var 2)) (jo_yes (je_var 3))) (jg_var 1))
  (js_cons (js_asg (je_ty (fun X ok => cr_tupleD ok.K) (by rfl) T.b_tuple (by decide +kernel) (ja_cons (je_var 1) ja_nil)) (jg_var 5))
  (js_cons (js_for (JI.t (ji_rg1 (by rfl) T.b_range (ja_cons (je_bi (fun X ok => cr_lenD ok.K) (by rfl) T.b_len (by decide +kernel) (ja_cons (je_var 1) ja_nil)) ja_nil))) (jg_var 6) (js_cons (js_asg (je_ty (fun X ok => cr_tupleD ok.K) (by rfl) T.b_tuple (by decide +kernel) (ja_cons (je_bin (fun X ok => op_addD ok.K) (je_slc (je_var 1) (jo_yes (je_var 6)) jo_no) (je_slc (je_var 1) jo_no (jo_yes (je_var 6)))) ja_nil)) (jg_var 7))
  (js_cons (js_if (je_cmp (fun X ok => op_ltK ok.K ok.room.units) ltK_bl (je_call F__law_key (by decide) (by rfl) (ja_cons (je_var 7) ja_nil)) (je_call F__law_key (by decide) (by rfl) (ja_cons (je_var 5) ja_nil))) (js_cons (js_asg (je_var 7) (jg_var 5))
  js_nil) js_nil)
  js_nil)))
  (js_cons (js_ret (je_var 5))
  js_nil)))))))
theorem j__law_back {g : Gb} (T : Tx g) : JSs g ⟨["walk", "step"], defScope s__law_back, fun _ => true, 0⟩ b__law_back (defBody s__law_back) :=
  (js_cons (js_ret (je_ty (fun X ok => cr_tupleD ok.K) (by rfl) T.b_tuple (by decide +kernel) (ja_cons (je_comp [(("step" : Str), 1)] (by decide +kernel) (JI.t (ji_seq (je_rev (je_var 0)))) (jg_var 1) (by decide) jt_no (je_un (fun X ok => op_negD ok.K) (je_var 1))) ja_nil)))
  js_nil)
theorem j__law_led {g : Gb} (T : Tx g) (F__law_back : FnS g 1 "_law_back" ["walk"] m__law_back) : JSs g ⟨["walks", "walk", "found", "step", "part", "one"], defScope s__law_led, fun _ => true, 1⟩ b__law_led (defBody s__law_led) :=
  (js_cons (js_asg (je_lst ja_nil) (jg_var 2))
  (js_cons (js_for (JI.t (ji_seq (je_var 1))) (jg_var 3) (js_cons (js_asg (je_if (je_cmp (fun X ok => op_ltI ok.K op_gt) ltI_bl (je_var 3) je_int) (je_ix (je_var 0) (je_bin (fun X ok => op_subD ok.K) (je_var 3) je_int)) (je_call F__law_back (by decide) (by rfl) (ja_cons (je_ix (je_var 0) (je_bin (fun X ok => op_subD ok.K) (je_un (fun X ok => op_negD ok.K) (je_var 3)) je_int)) ja_nil))) (jg_var 4))
  (js_cons (js_for (JI.t (ji_seq (je_var 4))) (jg_var 5) (js_cons (js_if (je_bool (jw_and (je_cmp (fun X ok => op_neDD ok.K ok.room.units) neD_bl (je_var 2) (je_lst ja_nil)) (jw_and1 (je_cmp (fun X ok => op_eqDD ok.K ok.room.units) eqD_bl (je_ix (je_var 2) (je_un (fun X ok => op_negD ok.K) je_int)) (je_un (fun X ok => op_negD ok.K) (je_var 5)))))) (js_cons (js_expr (je_bm0 PySem.F.slot_list_pop PySem.F.type_list_pop (fun X ok => mt_popD ok.K) (je_var 2)))
  js_nil) (js_cons (js_expr (je_bm PySem.F.slot_list_append PySem.F.type_list_append (fun X ok => mt_appendD ok.K) (je_var 2) (ja_cons (je_var 5) ja_nil)))
  js_nil))
  js_nil))
  js_nil)))
  (js_cons (js_ret (je_ty (fun X ok => cr_tupleD ok.K) (by rfl) T.b_tuple (by decide +kernel) (ja_cons (je_var 2) ja_nil)))
  js_nil)))
theorem j__law_take {g : Gb} (T : Tx g) : JSs g ⟨["well", "many", "found", "number"], defScope s__law_take, fun _ => true, 0⟩ b__law_take (defBody s__law_take) :=
  (js_cons (js_if (je_cmp (fun X ok => op_ltI ok.K op_gt) ltI_bl (je_ix (je_var 0) je_int) je_int) (js_cons (js_asg (je_bin (fun X ok => op_modD ok.K) (je_ty (fun X ok => cr_intD ok.K) (by rfl) T.b_int (by decide +kernel) (ja_cons (je_ix (je_var 0) je_int) ja_nil)) (je_var 1)) (jg_var 2))
  (js_cons (js_asg (je_bin (fun X ok => op_fdivD ok.K) (je_ix (je_var 0) je_int) (je_var 1)) (jg_sub (je_var 0) je_int))
  (js_cons (js_ret (je_var 2))
  js_nil))) js_nil)
  (js_cons (js_asg (je_bin (fun X ok => op_addD ok.K) (je_ix (je_var 0) je_int) je_int) (jg_sub (je_var 0) je_int))
  (js_cons (js_asg (je_bin (fun X ok => op_modD ok.K) (je_ty (fun X ok => cr_intD ok.K) (by rfl) T.b_int (by decide +kernel) (ja_cons (je_bin (fun X ok => op_addD ok.K) (je_bin (fun X ok => op_mulD ok.K) (je_ix (je_var 0) je_int) je_int) (je_bin (fun X ok => op_mulD ok.K) (je_ix (je_var 0) je_int) je_int)) ja_nil)) (je_bin (fun X ok => op_addD ok.K) (je_bin (fun X ok => op_powD ok.K) je_int je_int) je_int)) (jg_var 3))
  (js_cons (js_asg (je_bin (fun X ok => op_modD ok.K) (je_ty (fun X ok => cr_intD ok.K) (by rfl) T.b_int (by decide +kernel) (ja_cons (je_bin (fun X ok => op_addD ok.K) (je_bin (fun X ok => op_addD ok.K) (je_bin (fun X ok => op_mulD ok.K) (je_var 3) (je_var 3)) (je_bin (fun X ok => op_mulD ok.K) je_int (je_ix (je_var 0) je_int))) (je_ix (je_var 0) je_int)) ja_nil)) (je_bin (fun X ok => op_addD ok.K) (je_bin (fun X ok => op_powD ok.K) je_int je_int) je_int)) (jg_var 3))
  (js_cons (js_asg (je_bin (fun X ok => op_fdivD ok.K) (je_bin (fun X ok => op_modD ok.K) (je_ty (fun X ok => cr_intD ok.K) (by rfl) T.b_int (by decide +kernel) (ja_cons (je_bin (fun X ok => op_addD ok.K) (je_bin (fun X ok => op_mulD ok.K) (je_var 3) (je_var 3)) je_int) ja_nil)) (je_bin (fun X ok => op_addD ok.K) (je_bin (fun X ok => op_powD ok.K) je_int je_int) je_int)) je_int) (jg_var 3))
  (js_cons (js_ret (je_bin (fun X ok => op_modD ok.K) (je_ty (fun X ok => cr_intD ok.K) (by rfl) T.b_int (by decide +kernel) (ja_cons (je_var 3) ja_nil)) (je_var 1)))
  js_nil))))))
theorem j_need_move {g : Gb} (T : Tx g) (F_is_a_move : FnS g 4 "is_a_move" ["letters", "value"] m_is_a_move) : JSs g ⟨["letters", "move"], defScope s_need_move, fun _ => true, 4⟩ b_need_move (defBody s_need_move) :=
  (js_cons (js_if (je_not (je_call F_is_a_move (by decide) (by rfl) (ja_cons (je_var 0) (ja_cons (je_var 1) ja_nil)))) (js_cons js_no
  js_nil) js_nil)
  js_nil)
theorem j_moved {g : Gb} (T : Tx g) (F_moved_rounds : FnS g 7 "moved_rounds" ["letters", "move", "rounds"] m_moved_rounds) (F_need_rounds : FnS g 8 "need_rounds" ["letters", "rounds"] m_need_rounds) (F_need_move : FnS g 5 "need_move" ["letters", "move"] m_need_move) (F_need_letters : FnS g 3 "need_letters" ["letters"] m_need_letters) : JSs g ⟨["letters", "move", "rounds"], defScope s_moved, fun _ => true, 8⟩ b_moved (defBody s_moved) :=
  (js_cons (js_expr (je_call F_need_letters (by decide) (by rfl) (ja_cons (je_var 0) ja_nil)))
  (js_cons (js_expr (je_call F_need_move (by decide) (by rfl) (ja_cons (je_var 0) (ja_cons (je_var 1) ja_nil))))
  (js_cons (js_expr (je_call F_need_rounds (by decide) (by rfl) (ja_cons (je_var 0) (ja_cons (je_var 2) ja_nil))))
  (js_cons (js_ret (je_call F_moved_rounds (by decide) (by rfl) (ja_cons (je_var 0) (ja_cons (je_var 1) (ja_cons (je_var 2) ja_nil)))))
  js_nil))))
theorem j__law_turned {g : Gb} (T : Tx g) : JSs g ⟨["letters", "move", "step", "found", "letter", "walk"], defScope s__law_turned, fun _ => true, 0⟩ b__law_turned (defBody s__law_turned) :=
  (js_cons (js_if (je_cmp (fun X ok => op_eqDD ok.K ok.room.units) eqD_bl (je_ix (je_var 1) je_int) je_str) (js_cons (js_ret (je_comp [(("step" : Str), 2)] (by decide +kernel) (JI.t (ji_seq (je_ix (je_var 1) je_int))) (jg_var 2) (by decide) jt_no (je_tup (ja_cons (je_var 2) ja_nil))))
  js_nil) js_nil)
  (js_cons (js_asg (je_lst ja_nil) (jg_var 3))
  (js_cons (js_for (JI.t (ji_rg2 (by rfl) T.b_range (ja_cons je_int (ja_cons (je_bin (fun X ok => op_addD ok.K) (je_var 0) je_int) ja_nil)))) (jg_var 4) (js_cons (js_asg (je_tup (ja_cons (je_var 4) ja_nil)) (jg_var 5))
  (js_cons (js_if (je_bool (jw_and (je_cmp (fun X ok => op_neDD ok.K ok.room.units) neD_bl (je_bi (fun X ok => cr_absD ok.K) (by rfl) T.b_abs (by decide +kernel) (ja_cons (je_ix (je_var 1) je_int) ja_nil)) (je_var 4)) (jw_and1 (je_cmp (fun X ok => op_inD ok.K) inD_bl (je_var 4) (je_ix (je_var 1) je_int))))) (js_cons (js_asg (je_bin (fun X ok => op_addD ok.K) (je_var 5) (je_tup (ja_cons (je_ix (je_var 1) je_int) ja_nil))) (jg_var 5))
  js_nil) js_nil)
  (js_cons (js_if (je_bool (jw_and (je_cmp (fun X ok => op_neDD ok.K ok.room.units) neD_bl (je_bi (fun X ok => cr_absD ok.K) (by rfl) T.b_abs (by decide +kernel) (ja_cons (je_ix (je_var 1) je_int) ja_nil)) (je_var 4)) (jw_and1 (je_cmp (fun X ok => op_inD ok.K) inD_bl (je_un (fun X ok => op_negD ok.K) (je_var 4)) (je_ix (je_var 1) je_int))))) (js_cons (js_asg (je_bin (fun X ok => op_addD ok.K) (je_tup (ja_cons (je_un (fun X ok => op_negD ok.K) (je_ix (je_var 1) je_int)) ja_nil)) (je_var 5)) (jg_var 5))
  js_nil) js_nil)
  (js_cons (js_expr (je_bm PySem.F.slot_list_append PySem.F.type_list_append (fun X ok => mt_appendD ok.K) (je_var 3) (ja_cons (je_var 5) ja_nil)))
  js_nil)))))
  (js_cons (js_ret (je_var 3))
  js_nil))))
theorem j__law_moved {g : Gb} (T : Tx g) (F__law_round : FnS g 3 "_law_round" ["walk"] m__law_round) (F__law_led : FnS g 2 "_law_led" ["walks", "walk"] m__law_led) (F__law_turned : FnS g 1 "_law_turned" ["letters", "move"] m__law_turned) : JSs g ⟨["letters", "move", "rows", "walks", "row"], defScope s__law_moved, fun _ => true, 3⟩ b__law_moved (defBody s__law_moved) :=
  (js_cons (js_asg (je_call F__law_turned (by decide) (by rfl) (ja_cons (je_var 0) (ja_cons (je_var 1) ja_nil))) (jg_var 3))
  (js_cons (js_ret (je_ty (fun X ok => cr_tupleD ok.K) (by rfl) T.b_tuple (by decide +kernel) (ja_cons (je_comp [(("row" : Str), 4)] (by decide +kernel) (JI.t (ji_seq (je_var 2))) (jg_var 4) (by decide) jt_no (je_call F__law_round (by decide) (by rfl) (ja_cons (je_call F__law_led (by decide) (by rfl) (ja_cons (je_var 3) (ja_cons (je_var 4) ja_nil))) ja_nil))) ja_nil)))
  js_nil))
theorem j__law_steps {g : Gb} (T : Tx g) : JSs g ⟨["letters", "found", "letter"], defScope s__law_steps, fun _ => true, 0⟩ b__law_steps (defBody s__law_steps) :=
  (js_cons (js_asg (je_lst ja_nil) (jg_var 1))
  (js_cons (js_for (JI.t (ji_rg2 (by rfl) T.b_range (ja_cons je_int (ja_cons (je_bin (fun X ok => op_addD ok.K) (je_var 0) je_int) ja_nil)))) (jg_var 2) (js_cons (js_asg (je_bin (fun X ok => op_addD ok.K) (je_var 1) (je_lst (ja_cons (je_var 2) (ja_cons (je_un (fun X ok => op_negD ok.K) (je_var 2)) ja_nil)))) (jg_var 1))
  js_nil))
  (js_cons (js_ret (je_var 1))
  js_nil)))
theorem j__law_move {g : Gb} (T : Tx g) (F__law_order : FnS g 1 "_law_order" ["step"] m__law_order) (F__law_take : FnS g 1 "_law_take" ["well", "many"] m__law_take) (F__law_steps : FnS g 1 "_law_steps" ["letters"] m__law_steps) : JSs g ⟨["well", "letters", "menu", "left", "row", "turn", "letter", "step", "others", "other", "lot"], defScope s__law_move, fun _ => true, 3⟩ b__law_move (defBody s__law_move) :=
  (js_cons (js_asg (je_call F__law_steps (by decide) (by rfl) (ja_cons (je_var 1) ja_nil)) (jg_var 2))
  (js_cons (js_if (je_bool (jw_or (je_cmp (fun X ok => op_eqDD ok.K ok.room.units) eqD_bl (je_var 1) je_int) (jw_or1 (je_cmp (fun X ok => op_eqDD ok.K ok.room.units) eqD_bl (je_call F__law_take (by decide) (by rfl) (ja_cons (je_var 0) (ja_cons je_int ja_nil))) je_int)))) (js_cons (js_par (i := 3) (j := 4) rfl rfl (by decide) (by rfl) (by rfl) (ja_cons (je_lstR2 (by rfl) T.b_list (by rfl) T.b_range je_int (je_bin (fun X ok => op_addD ok.K) (je_var 1) je_int)) (ja_cons (je_lst ja_nil) ja_nil)) (by rintro ⟨⟩ rfl; rfl))
  (js_cons (js_for (JI.t (ji_rg1 (by rfl) T.b_range (ja_cons (je_var 1) ja_nil))) (jg_var 5) (js_cons (js_asg (je_bm PySem.F.slot_list_pop PySem.F.type_list_pop (fun X ok => mt_popD ok.K) (je_var 3) (ja_cons (je_call F__law_take (by decide) (by rfl) (ja_cons (je_var 0) (ja_cons (je_bi (fun X ok => cr_lenD ok.K) (by rfl) T.b_len (by decide +kernel) (ja_cons (je_var 3) ja_nil)) ja_nil))) ja_nil)) (jg_var 6))
  (js_cons (js_expr (je_bm PySem.F.slot_list_append PySem.F.type_list_append (fun X ok => mt_appendD ok.K) (je_var 4) (ja_cons (je_ix (je_lst (ja_cons (je_var 6) (ja_cons (je_un (fun X ok => op_negD ok.K) (je_var 6)) ja_nil))) (je_call F__law_take (by decide) (by rfl) (ja_cons (je_var 0) (ja_cons je_int ja_nil)))) ja_nil)))
  js_nil)))
  (js_cons (js_if (je_cmp (fun X ok => op_eqDD ok.K ok.room.units) eqD_bl (je_var 4) (je_lstR2 (by rfl) T.b_list (by rfl) T.b_range je_int (je_bin (fun X ok => op_addD ok.K) (je_var 1) je_int))) (js_cons (js_asg (je_un (fun X ok => op_negD ok.K) (je_var 1)) (jg_sub (je_var 4) (je_un (fun X ok => op_negD ok.K) je_int)))
  js_nil) js_nil)
  (js_cons (js_ret (je_tup (ja_cons je_str (ja_cons (je_ty (fun X ok => cr_tupleD ok.K) (by rfl) T.b_tuple (by decide +kernel) (ja_cons (je_var 4) ja_nil)) ja_nil))))
  js_nil)))) js_nil)
  (js_cons (js_asg (je_ix (je_var 2) (je_call F__law_take (by decide) (by rfl) (ja_cons (je_var 0) (ja_cons (je_bi (fun X ok => cr_lenD ok.K) (by rfl) T.b_len (by decide +kernel) (ja_cons (je_var 2) ja_nil)) ja_nil)))) (jg_var 7))
  (js_cons (js_setLc 8 [(("other" : Str), 9)] (by decide +kernel) (JI.t (ji_seq (je_var 2))) (jg_var 9) (by decide) (jt_one (je_cmp (fun X ok => op_neDD ok.K ok.room.units) neD_bl (je_bi (fun X ok => cr_absD ok.K) (by rfl) T.b_abs (by decide +kernel) (ja_cons (je_var 9) ja_nil)) (je_bi (fun X ok => cr_absD ok.K) (by rfl) T.b_abs (by decide +kernel) (ja_cons (je_var 7) ja_nil)))) (je_var 9) rfl (by rfl) rfl (by rfl) rfl (by decide +kernel))
  (js_cons (js_asg (je_bin (fun X ok => op_addD ok.K) (je_lst (ja_cons (je_var 7) (ja_cons (je_bm PySem.F.slot_list_pop PySem.F.type_list_pop (fun X ok => mt_popD ok.K) (je_var 8) (ja_cons (je_call F__law_take (by decide) (by rfl) (ja_cons (je_var 0) (ja_cons (je_bi (fun X ok => cr_lenD ok.K) (by rfl) T.b_len (by decide +kernel) (ja_cons (je_var 8) ja_nil)) ja_nil))) ja_nil)) ja_nil))) (je_comp [(("other" : Str), 9)] (by decide +kernel) (JI.t (ji_seq (je_var 8))) (jg_var 9) (by decide) (jt_one (je_cmp (fun X ok => op_eqDD ok.K ok.room.units) eqD_bl (je_call F__law_take (by decide) (by rfl) (ja_cons (je_var 0) (ja_cons je_int ja_nil))) je_int)) (je_var 9))) (jg_var 10))
  (js_cons (js_ret (je_tup (ja_cons je_str (ja_cons (je_var 7) (ja_cons (je_ty (fun X ok => cr_tupleD ok.K) (by rfl) T.b_tuple (by decide +kernel) (ja_cons (je_sortK F__law_order (by decide) rfl (by rfl) (by rfl) T.b_sorted (je_var 10)) ja_nil)) ja_nil)))))
  js_nil))))))
theorem j__law_walk {g : Gb} (T : Tx g) (F__law_take : FnS g 1 "_law_take" ["well", "many"] m__law_take) (F__law_steps : FnS g 1 "_law_steps" ["letters"] m__law_steps) : JSs g ⟨["well", "letters", "size", "menu", "turn"], defScope s__law_walk, fun _ => true, 1⟩ b__law_walk (defBody s__law_walk) :=
  (js_cons (js_asg (je_call F__law_steps (by decide) (by rfl) (ja_cons (je_var 1) ja_nil)) (jg_var 3))
  (js_cons (js_ret (je_ty (fun X ok => cr_tupleD ok.K) (by rfl) T.b_tuple (by decide +kernel) (ja_cons (je_comp [(("turn" : Str), 4)] (by decide +kernel) (JI.t (ji_rg1 (by rfl) T.b_range (ja_cons (je_var 2) ja_nil))) (jg_var 4) (by decide) jt_no (je_ix (je_var 3) (je_call F__law_take (by decide) (by rfl) (ja_cons (je_var 0) (ja_cons (je_bi (fun X ok => cr_lenD ok.K) (by rfl) T.b_len (by decide +kernel) (ja_cons (je_var 3) ja_nil)) ja_nil))))) ja_nil)))
  js_nil))
theorem j__law_well {g : Gb} (T : Tx g) : JSs g ⟨["script", "k", "cell", "mixed", "other", "seed"], defScope s__law_well, fun _ => true, 0⟩ b__law_well (defBody s__law_well) :=
  (js_cons (js_asg (je_bin (fun X ok => op_addD ok.K) (je_bin (fun X ok => op_mulD ok.K) je_int (je_var 1)) je_int) (jg_var 2))
  (js_cons (js_if (je_cmp (fun X ok => op_ltI ok.K op_lt) ltI_bl (je_var 1) (je_bi (fun X ok => cr_lenD ok.K) (by rfl) T.b_len (by decide +kernel) (ja_cons (je_var 0) ja_nil))) (js_cons (js_asg (je_ix (je_var 0) (je_var 1)) (jg_var 2))
  js_nil) js_nil)
  (js_cons (js_asg (je_bin (fun X ok => op_addD ok.K) je_int (je_bi (fun X ok => cr_lenD ok.K) (by rfl) T.b_len (by decide +kernel) (ja_cons (je_var 0) ja_nil))) (jg_var 3))
  (js_cons (js_for (JI.t (ji_seq (je_var 0))) (jg_var 4) (js_cons (js_asg (je_bin (fun X ok => op_modD ok.K) (je_ty (fun X ok => cr_intD ok.K) (by rfl) T.b_int (by decide +kernel) (ja_cons (je_bin (fun X ok => op_addD ok.K) (je_bin (fun X ok => op_mulD ok.K) (je_var 3) je_int) (je_bin (fun X ok => op_modD ok.K) (je_ty (fun X ok => cr_intD ok.K) (by rfl) T.b_int (by decide +kernel) (ja_cons (je_var 4) ja_nil)) (je_bin (fun X ok => op_addD ok.K) (je_bin (fun X ok => op_powD ok.K) je_int je_int) je_int))) ja_nil)) (je_bin (fun X ok => op_addD ok.K) (je_bin (fun X ok => op_powD ok.K) je_int je_int) je_int)) (jg_var 3))
  js_nil))
  (js_cons (js_asg (je_bin (fun X ok => op_modD ok.K) (je_ty (fun X ok => cr_intD ok.K) (by rfl) T.b_int (by decide +kernel) (ja_cons (je_bin (fun X ok => op_addD ok.K) (je_bin (fun X ok => op_addD ok.K) (je_bin (fun X ok => op_mulD ok.K) (je_bin (fun X ok => op_modD ok.K) (je_ty (fun X ok => cr_intD ok.K) (by rfl) T.b_int (by decide +kernel) (ja_cons (je_var 2) ja_nil)) (je_bin (fun X ok => op_addD ok.K) (je_bin (fun X ok => op_powD ok.K) je_int je_int) je_int)) je_int) (je_bin (fun X ok => op_mulD ok.K) je_int (je_var 3))) (je_var 1)) ja_nil)) (je_bin (fun X ok => op_addD ok.K) (je_bin (fun X ok => op_powD ok.K) je_int je_int) je_int)) (jg_var 5))
  (js_cons (js_ret (je_lst (ja_cons (je_bi (fun X ok => cr_max2D ok.K ok.calm) (by rfl) T.b_max (by decide +kernel) (ja_cons je_int (ja_cons (je_bin (fun X ok => op_subD ok.K) (je_var 2) (je_bin (fun X ok => op_powD ok.K) je_int je_int)) ja_nil))) (ja_cons (je_var 5) (ja_cons je_int ja_nil)))))
  js_nil))))))
theorem j_law {g : Gb} (T : Tx g) (F__law_same : FnS g 8 "_law_same" ["actual", "due"] m__law_same) (F_moved_by : FnS g 9 "moved_by" ["letters", "moves", "rounds"] m_moved_by) (F_length_of : FnS g 9 "length_of" ["letters", "rounds"] m_length_of) (F__law_move_back : FnS g 4 "_law_move_back" ["move"] m__law_move_back) (F__law_round : FnS g 3 "_law_round" ["walk"] m__law_round) (F__law_led : FnS g 2 "_law_led" ["walks", "walk"] m__law_led) (F__law_take : FnS g 1 "_law_take" ["well", "many"] m__law_take) (F_moved : FnS g 9 "moved" ["letters", "move", "rounds"] m_moved) (F__law_turned : FnS g 1 "_law_turned" ["letters", "move"] m__law_turned) (F__law_moved : FnS g 4 "_law_moved" ["letters", "move", "rows"] m__law_moved) (F__law_move : FnS g 4 "_law_move" ["well", "letters"] m__law_move) (F__law_walk : FnS g 2 "_law_walk" ["well", "letters", "size"] m__law_walk) (F__law_well : FnS g 1 "_law_well" ["script", "k"] m__law_well) (Kw0_length_of : FnK g 9 "length_of" ["letters", "rounds"] ["rounds", "letters"] 0 [1, 0] m_length_of) (Kw1_moved_by : FnK g 9 "moved_by" ["letters", "moves", "rounds"] ["rounds", "moves", "letters"] 0 [2, 1, 0] m_moved_by) (Kw2_moved : FnK g 9 "moved" ["letters", "move", "rounds"] ["rounds", "move", "letters"] 0 [2, 1, 0] m_moved) : JSs g ⟨["script", "k", "well", "letters", "many", "first", "turn", "rows", "done", "walks", "letter", "step", "later", "further", "walk", "row", "given", "rest"], defScope s_law, fun _ => true, 9⟩ b_law (defBody s_law) :=
  (js_cons (js_for (JI.t (ji_rg1 (by rfl) T.b_range (ja_cons (je_bi (fun X ok => cr_max2D ok.K ok.calm) (by rfl) T.b_max (by decide +kernel) (ja_cons je_int (ja_cons (je_bi (fun X ok => cr_min2D ok.K ok.calm) (by rfl) T.b_min (by decide +kernel) (ja_cons je_int (ja_cons (je_bi (fun X ok => cr_lenD ok.K) (by rfl) T.b_len (by decide +kernel) (ja_cons (je_var 0) ja_nil)) ja_nil))) ja_nil))) ja_nil))) (jg_var 1) (js_cons (js_asg (je_call F__law_well (by decide) (by rfl) (ja_cons (je_var 0) (ja_cons (je_var 1) ja_nil))) (jg_var 2))
  (js_cons (js_asg (je_bin (fun X ok => op_addD ok.K) je_int (je_call F__law_take (by decide) (by rfl) (ja_cons (je_var 2) (ja_cons je_int ja_nil)))) (jg_var 3))
  (js_cons (js_asg (je_bin (fun X ok => op_addD ok.K) je_int (je_call F__law_take (by decide) (by rfl) (ja_cons (je_var 2) (ja_cons je_int ja_nil)))) (jg_var 4))
  (js_cons (js_asg (je_ty (fun X ok => cr_tupleD ok.K) (by rfl) T.b_tuple (by decide +kernel) (ja_cons (je_comp [(("turn" : Str), 6)] (by decide +kernel) (JI.t (ji_rg1 (by rfl) T.b_range (ja_cons (je_var 4) ja_nil))) (jg_var 6) (by decide) jt_no (je_call F__law_round (by decide) (by rfl) (ja_cons (je_call F__law_walk (by decide) (by rfl) (ja_cons (je_var 2) (ja_cons (je_var 3) (ja_cons (je_call F__law_take (by decide) (by rfl) (ja_cons (je_var 2) (ja_cons je_int ja_nil))) ja_nil)))) ja_nil))) ja_nil)) (jg_var 5))
  (js_cons (js_asg (je_tup (ja_cons (je_var 5) (ja_cons (je_lst ja_nil) (ja_cons (je_comp [(("letter" : Str), 10)] (by decide +kernel) (JI.t (ji_rg2 (by rfl) T.b_range (ja_cons je_int (ja_cons (je_bin (fun X ok => op_addD ok.K) (je_var 3) je_int) ja_nil)))) (jg_var 10) (by decide) jt_no (je_tup (ja_cons (je_var 10) ja_nil))) ja_nil)))) (jg_tup (jgs_cons (jg_var 7) (jgs_cons (jg_var 8) (jgs_cons (jg_var 9) jgs_nil)))) (by rfl) (by rintro ⟨⟩ rfl; rfl) (by rintro ⟨⟩ rfl; rfl))
  (js_cons (js_for (JI.t (ji_rg1 (by rfl) T.b_range (ja_cons (je_call F__law_take (by decide) (by rfl) (ja_cons (je_var 2) (ja_cons je_int ja_nil))) ja_nil))) (jg_var 6) (js_cons (js_asg (je_call F__law_move (by decide) (by rfl) (ja_cons (je_var 2) (ja_cons (je_var 3) ja_nil))) (jg_var 11))
  (js_cons (js_asg (je_call F__law_moved (by decide) (by rfl) (ja_cons (je_var 3) (ja_cons (je_var 11) (ja_cons (je_var 7) ja_nil)))) (jg_var 12))
  (js_cons (js_setLc 13 [(("walk" : Str), 14)] (by decide +kernel) (JI.t (ji_seq (je_var 9))) (jg_var 14) (by decide) jt_no (je_call F__law_led (by decide) (by rfl) (ja_cons (je_call F__law_turned (by decide) (by rfl) (ja_cons (je_var 3) (ja_cons (je_var 11) ja_nil))) (ja_cons (je_var 14) ja_nil))) rfl (by rfl) rfl (by rfl) rfl (by decide +kernel))
  (js_cons (js_if (je_bool (jw_and (je_cmp (fun X ok => op_ltI ok.K op_le) ltI_bl (je_bi (fun X ok => cr_sumD ok.K ok.calm) (by rfl) T.b_sum (by decide +kernel) (ja_cons (je_comp [(("row" : Str), 15)] (by decide +kernel) (JI.t (ji_seq (je_var 12))) (jg_var 15) (by decide) jt_no (je_bi (fun X ok => cr_lenD ok.K) (by rfl) T.b_len (by decide +kernel) (ja_cons (je_var 15) ja_nil))) ja_nil)) je_int) (jw_and1 (je_cmp (fun X ok => op_ltI ok.K op_le) ltI_bl (je_bi (fun X ok => cr_sumD ok.K ok.calm) (by rfl) T.b_sum (by decide +kernel) (ja_cons (je_comp [(("walk" : Str), 14)] (by decide +kernel) (JI.t (ji_seq (je_var 13))) (jg_var 14) (by decide) jt_no (je_bi (fun X ok => cr_lenD ok.K) (by rfl) T.b_len (by decide +kernel) (ja_cons (je_var 14) ja_nil))) ja_nil)) je_int)))) (js_cons (js_if (je_not (je_call F__law_same (by decide) (by rfl) (ja_cons (je_call F_moved (by decide) (by rfl) (ja_cons (je_var 3) (ja_cons (je_var 11) (ja_cons (je_var 7) ja_nil)))) (ja_cons (je_var 12) ja_nil)))) (js_cons (js_ret je_bl)
  js_nil) js_nil)
  (js_cons (js_if (je_cmp (fun X ok => op_neDD ok.K ok.room.units) neD_bl (je_callk0 Kw2_moved (by decide) (by rfl) (jk_cons (je_var 7) (jk_cons (je_var 11) (jk_cons (je_var 3) jk_nil)))) (je_var 12)) (js_cons (js_ret je_bl)
  js_nil) js_nil)
  (js_cons (js_asg (je_tup (ja_cons (je_var 13) (ja_cons (je_var 12) ja_nil))) (jg_tup (jgs_cons (jg_var 9) (jgs_cons (jg_var 7) jgs_nil))) (by rfl) (by rintro ⟨⟩ rfl; rfl) (by rintro ⟨⟩ rfl; rfl))
  (js_cons (js_expr (je_bm PySem.F.slot_list_append PySem.F.type_list_append (fun X ok => mt_appendD ok.K) (je_var 8) (ja_cons (je_var 11) ja_nil)))
  js_nil)))) js_nil)
  js_nil)))))
  (js_cons (js_asg (je_ty (fun X ok => cr_listD ok.K) (by rfl) T.b_list (by decide +kernel) (ja_cons (je_var 8) ja_nil)) (jg_var 16))
  (js_cons (js_if (je_bool (jw_or (je_not (je_call F__law_same (by decide) (by rfl) (ja_cons (je_call F_moved_by (by decide) (by rfl) (ja_cons (je_var 3) (ja_cons (je_var 16) (ja_cons (je_var 5) ja_nil)))) (ja_cons (je_var 7) ja_nil)))) (jw_or1 (je_cmp (fun X ok => op_neDD ok.K ok.room.units) neD_bl (je_var 16) (je_var 8))))) (js_cons (js_ret je_bl)
  js_nil) js_nil)
  (js_cons (js_if (je_cmp (fun X ok => op_neDD ok.K ok.room.units) neD_bl (je_ty (fun X ok => cr_tupleD ok.K) (by rfl) T.b_tuple (by decide +kernel) (ja_cons (je_comp [(("row" : Str), 15)] (by decide +kernel) (JI.t (ji_seq (je_var 5))) (jg_var 15) (by decide) jt_no (je_call F__law_round (by decide) (by rfl) (ja_cons (je_call F__law_led (by decide) (by rfl) (ja_cons (je_var 9) (ja_cons (je_var 15) ja_nil))) ja_nil))) ja_nil)) (je_var 7)) (js_cons (js_ret je_bl)
  js_nil) js_nil)
  (js_cons (js_setLc 17 [(("step" : Str), 11)] (by decide +kernel) (JI.t (ji_seq (je_rev (je_var 8)))) (jg_var 11) (by decide) jt_no (je_call F__law_move_back (by decide) (by rfl) (ja_cons (je_var 11) ja_nil)) rfl (by rfl) rfl (by rfl) rfl (by decide +kernel))
  (js_cons (js_if (je_not (je_call F__law_same (by decide) (by rfl) (ja_cons (je_callk0 Kw1_moved_by (by decide) (by rfl) (jk_cons (je_var 7) (jk_cons (je_var 17) (jk_cons (je_var 3) jk_nil)))) (ja_cons (je_var 5) ja_nil)))) (js_cons (js_ret je_bl)
  js_nil) js_nil)
  (js_cons (js_if (je_not (je_call F__law_same (by decide) (by rfl) (ja_cons (je_call F_length_of (by decide) (by rfl) (ja_cons (je_var 3) (ja_cons (je_var 7) ja_nil))) (ja_cons (je_bi (fun X ok => cr_sumD ok.K ok.calm) (by rfl) T.b_sum (by decide +kernel) (ja_cons (je_comp [(("row" : Str), 15)] (by decide +kernel) (JI.t (ji_seq (je_var 7))) (jg_var 15) (by decide) jt_no (je_bi (fun X ok => cr_lenD ok.K) (by rfl) T.b_len (by decide +kernel) (ja_cons (je_var 15) ja_nil))) ja_nil)) ja_nil)))) (js_cons (js_ret je_bl)
  js_nil) js_nil)
  (js_cons (js_if (je_not (je_call F__law_same (by decide) (by rfl) (ja_cons (je_callk0 Kw0_length_of (by decide) (by rfl) (jk_cons (je_var 5) (jk_cons (je_var 3) jk_nil))) (ja_cons (je_bi (fun X ok => cr_sumD ok.K ok.calm) (by rfl) T.b_sum (by decide +kernel) (ja_cons (je_comp [(("row" : Str), 15)] (by decide +kernel) (JI.t (ji_seq (je_var 5))) (jg_var 15) (by decide) jt_no (je_bi (fun X ok => cr_lenD ok.K) (by rfl) T.b_len (by decide +kernel) (ja_cons (je_var 15) ja_nil))) ja_nil)) ja_nil)))) (js_cons (js_ret je_bl)
  js_nil) js_nil)
  (js_cons (js_if (je_not (je_call F__law_same (by decide) (by rfl) (ja_cons (je_call F_moved_by (by decide) (by rfl) (ja_cons (je_var 3) (ja_cons (je_lst ja_nil) (ja_cons (je_var 7) ja_nil)))) (ja_cons (je_var 7) ja_nil)))) (js_cons (js_ret je_bl)
  js_nil) js_nil)
  js_nil)))))))))))))))
  (js_cons (js_ret je_bl)
  js_nil))
/-! ### each def keeps its meaning -/
theorem sc__law_same : FnScope ["actual", "due", "at"] ["actual", "due"] (defScope s__law_same) := ⟨rfl, rfl, rfl, by decide +kernel, rfl, by decide +kernel, by decide +kernel⟩
theorem sc_step_order : FnScope ["step"] ["step"] (defScope s_step_order) := ⟨rfl, rfl, rfl, by decide +kernel, rfl, by decide +kernel, by decide +kernel⟩
theorem sc_walk_key : FnScope ["walk", "step"] ["walk"] (defScope s_walk_key) := ⟨rfl, rfl, rfl, by decide +kernel, rfl, by decide +kernel, by decide +kernel⟩
theorem sc_least_turn : FnScope ["core", "at"] ["core"] (defScope s_least_turn) := ⟨rfl, rfl, rfl, by decide +kernel, rfl, by decide +kernel, by decide +kernel⟩
theorem sc_parted : FnScope ["walk", "begin", "end"] ["walk"] (defScope s_parted) := ⟨rfl, rfl, rfl, by decide +kernel, rfl, by decide +kernel, by decide +kernel⟩
theorem sc_straightened : FnScope ["walk", "found", "step"] ["walk"] (defScope s_straightened) := ⟨rfl, rfl, rfl, by decide +kernel, rfl, by decide +kernel, by decide +kernel⟩
theorem sc_round_from : FnScope ["walk"] ["walk"] (defScope s_round_from) := ⟨rfl, rfl, rfl, by decide +kernel, rfl, by decide +kernel, by decide +kernel⟩
theorem sc_turned_back : FnScope ["walk", "step"] ["walk"] (defScope s_turned_back) := ⟨rfl, rfl, rfl, by decide +kernel, rfl, by decide +kernel, by decide +kernel⟩
theorem sc_put_for : FnScope ["walks", "walk", "steps", "step"] ["walks", "walk"] (defScope s_put_for) := ⟨rfl, rfl, rfl, by decide +kernel, rfl, by decide +kernel, by decide +kernel⟩
theorem sc_led_walk : FnScope ["turning", "walk"] ["turning", "walk"] (defScope s_led_walk) := ⟨rfl, rfl, rfl, by decide +kernel, rfl, by decide +kernel, by decide +kernel⟩
theorem sc_turned_rounds : FnScope ["turning", "rounds", "part"] ["turning", "rounds"] (defScope s_turned_rounds) := ⟨rfl, rfl, rfl, by decide +kernel, rfl, by decide +kernel, by decide +kernel⟩
theorem sc_led_letter : FnScope ["move", "letter", "step", "lot", "ahead"] ["move", "letter"] (defScope s_led_letter) := ⟨rfl, rfl, rfl, by decide +kernel, rfl, by decide +kernel, by decide +kernel⟩
theorem sc_turning_of : FnScope ["letters", "move", "letter"] ["letters", "move"] (defScope s_turning_of) := ⟨rfl, rfl, rfl, by decide +kernel, rfl, by decide +kernel, by decide +kernel⟩
theorem sc_moved_rounds : FnScope ["letters", "move", "rounds"] ["letters", "move", "rounds"] (defScope s_moved_rounds) := ⟨rfl, rfl, rfl, by decide +kernel, rfl, by decide +kernel, by decide +kernel⟩
theorem sc_is_integer : FnScope ["value"] ["value"] (defScope s_is_integer) := ⟨rfl, rfl, rfl, by decide +kernel, rfl, by decide +kernel, by decide +kernel⟩
theorem sc_is_step : FnScope ["value", "letters"] ["value", "letters"] (defScope s_is_step) := ⟨rfl, rfl, rfl, by decide +kernel, rfl, by decide +kernel, by decide +kernel⟩
theorem sc_is_a_walk : FnScope ["value", "letters", "step"] ["value", "letters"] (defScope s_is_a_walk) := ⟨rfl, rfl, rfl, by decide +kernel, rfl, by decide +kernel, by decide +kernel⟩
theorem sc_is_a_round : FnScope ["letters", "value"] ["letters", "value"] (defScope s_is_a_round) := ⟨rfl, rfl, rfl, by decide +kernel, rfl, by decide +kernel, by decide +kernel⟩
theorem sc_are_rounds : FnScope ["letters", "value", "part"] ["letters", "value"] (defScope s_are_rounds) := ⟨rfl, rfl, rfl, by decide +kernel, rfl, by decide +kernel, by decide +kernel⟩
theorem sc_need_rounds : FnScope ["letters", "rounds"] ["letters", "rounds"] (defScope s_need_rounds) := ⟨rfl, rfl, rfl, by decide +kernel, rfl, by decide +kernel, by decide +kernel⟩
theorem sc_is_lot : FnScope ["letters", "step", "value", "part", "places", "is_ascending", "one", "other"] ["letters", "step", "value"] (defScope s_is_lot) := ⟨rfl, rfl, rfl, by decide +kernel, rfl, by decide +kernel, by decide +kernel⟩
theorem sc_is_a_move : FnScope ["letters", "value", "part", "is_whole"] ["letters", "value"] (defScope s_is_a_move) := ⟨rfl, rfl, rfl, by decide +kernel, rfl, by decide +kernel, by decide +kernel⟩
theorem sc_need_moves : FnScope ["letters", "moves", "index", "move"] ["letters", "moves"] (defScope s_need_moves) := ⟨rfl, rfl, rfl, by decide +kernel, rfl, by decide +kernel, by decide +kernel⟩
theorem sc_is_letters : FnScope ["value"] ["value"] (defScope s_is_letters) := ⟨rfl, rfl, rfl, by decide +kernel, rfl, by decide +kernel, by decide +kernel⟩
theorem sc_need_letters : FnScope ["letters"] ["letters"] (defScope s_need_letters) := ⟨rfl, rfl, rfl, by decide +kernel, rfl, by decide +kernel, by decide +kernel⟩
theorem sc_moved_by : FnScope ["letters", "moves", "rounds", "move"] ["letters", "moves", "rounds"] (defScope s_moved_by) := ⟨rfl, rfl, rfl, by decide +kernel, rfl, by decide +kernel, by decide +kernel⟩
theorem sc_length : FnScope ["rounds", "part"] ["rounds"] (defScope s_length) := ⟨rfl, rfl, rfl, by decide +kernel, rfl, by decide +kernel, by decide +kernel⟩
theorem sc_length_of : FnScope ["letters", "rounds"] ["letters", "rounds"] (defScope s_length_of) := ⟨rfl, rfl, rfl, by decide +kernel, rfl, by decide +kernel, by decide +kernel⟩
theorem sc__law_order : FnScope ["step"] ["step"] (defScope s__law_order) := ⟨rfl, rfl, rfl, by decide +kernel, rfl, by decide +kernel, by decide +kernel⟩
theorem sc__law_move_back : FnScope ["move", "lot", "step", "found", "letter", "places", "at"] ["move"] (defScope s__law_move_back) := ⟨rfl, rfl, rfl, by decide +kernel, rfl, by decide +kernel, by decide +kernel⟩
theorem sc__law_key : FnScope ["walk", "step"] ["walk"] (defScope s__law_key) := ⟨rfl, rfl, rfl, by decide +kernel, rfl, by decide +kernel, by decide +kernel⟩
theorem sc__law_straight : FnScope ["walk", "found", "step"] ["walk"] (defScope s__law_straight) := ⟨rfl, rfl, rfl, by decide +kernel, rfl, by decide +kernel, by decide +kernel⟩
theorem sc__law_round : FnScope ["walk", "core", "low", "high", "turn", "found", "at", "other"] ["walk"] (defScope s__law_round) := ⟨rfl, rfl, rfl, by decide +kernel, rfl, by decide +kernel, by decide +kernel⟩
theorem sc__law_back : FnScope ["walk", "step"] ["walk"] (defScope s__law_back) := ⟨rfl, rfl, rfl, by decide +kernel, rfl, by decide +kernel, by decide +kernel⟩
theorem sc__law_led : FnScope ["walks", "walk", "found", "step", "part", "one"] ["walks", "walk"] (defScope s__law_led) := ⟨rfl, rfl, rfl, by decide +kernel, rfl, by decide +kernel, by decide +kernel⟩
theorem sc__law_take : FnScope ["well", "many", "found", "number"] ["well", "many"] (defScope s__law_take) := ⟨rfl, rfl, rfl, by decide +kernel, rfl, by decide +kernel, by decide +kernel⟩
theorem sc_need_move : FnScope ["letters", "move"] ["letters", "move"] (defScope s_need_move) := ⟨rfl, rfl, rfl, by decide +kernel, rfl, by decide +kernel, by decide +kernel⟩
theorem sc_moved : FnScope ["letters", "move", "rounds"] ["letters", "move", "rounds"] (defScope s_moved) := ⟨rfl, rfl, rfl, by decide +kernel, rfl, by decide +kernel, by decide +kernel⟩
theorem sc__law_turned : FnScope ["letters", "move", "step", "found", "letter", "walk"] ["letters", "move"] (defScope s__law_turned) := ⟨rfl, rfl, rfl, by decide +kernel, rfl, by decide +kernel, by decide +kernel⟩
theorem sc__law_moved : FnScope ["letters", "move", "rows", "walks", "row"] ["letters", "move", "rows"] (defScope s__law_moved) := ⟨rfl, rfl, rfl, by decide +kernel, rfl, by decide +kernel, by decide +kernel⟩
theorem sc__law_steps : FnScope ["letters", "found", "letter"] ["letters"] (defScope s__law_steps) := ⟨rfl, rfl, rfl, by decide +kernel, rfl, by decide +kernel, by decide +kernel⟩
theorem sc__law_move : FnScope ["well", "letters", "menu", "left", "row", "turn", "letter", "step", "others", "other", "lot"] ["well", "letters"] (defScope s__law_move) := ⟨rfl, rfl, rfl, by decide +kernel, rfl, by decide +kernel, by decide +kernel⟩
theorem sc__law_walk : FnScope ["well", "letters", "size", "menu", "turn"] ["well", "letters", "size"] (defScope s__law_walk) := ⟨rfl, rfl, rfl, by decide +kernel, rfl, by decide +kernel, by decide +kernel⟩
theorem sc__law_well : FnScope ["script", "k", "cell", "mixed", "other", "seed"] ["script", "k"] (defScope s__law_well) := ⟨rfl, rfl, rfl, by decide +kernel, rfl, by decide +kernel, by decide +kernel⟩
theorem sc_law : FnScope ["script", "k", "well", "letters", "many", "first", "turn", "rows", "done", "walks", "letter", "step", "later", "further", "walk", "row", "given", "rest"] ["script"] (defScope s_law) := ⟨rfl, rfl, rfl, by decide +kernel, rfl, by decide +kernel, by decide +kernel⟩
theorem Fs__law_same {g : Gb} (T : Tx g) : ∀ k : Nat, FnS g (0 + k) "_law_same" ["actual", "due"] (ms__law_same k)
  | 0 => by
    obtain ⟨f, fd, h1, F⟩ := T.f__law_same
    exact (fnNoS h1 F.kp (F.binds (ps := ["actual", "due"]) fun _ _ _ _ _ _ us hl => match us, hl with | [_, _], _ => rfl) (fnNo_ok F)).mono (Nat.zero_le _)
  | k + 1 => by
    obtain ⟨f, fd, h1, F⟩ := T.f__law_same
    exact fnS_of (lv := 0 + k + 1) rfl h1 F.kp (F.binds (ps := ["actual", "due"]) fun _ _ _ _ _ _ us hl => match us, hl with | [_, _], _ => rfl) (fn_ok F sc__law_same (j__law_same T (Fs__law_same T k)))
theorem F__law_same {g : Gb} (T : Tx g) : FnS g 8 "_law_same" ["actual", "due"] m__law_same := Fs__law_same T 8
theorem ok_step_order {g : Gb} (T : Tx g) {f : Addr} {fd : FuncData} (F : Fun g.K "step_order" "step_order" s_step_order f fd) : FnOk g.P g.w g.K g.mg g.base CX0 1 f fd ["step"] (spD g.K 1 m_step_order) := fn_ok F sc_step_order (j_step_order T)
theorem F_step_order {g : Gb} (T : Tx g) : FnS g 1 "step_order" ["step"] m_step_order := by
  obtain ⟨f, fd, h1, F⟩ := T.f_step_order
  exact fnS_of rfl h1 F.kp (F.binds (ps := ["step"]) fun _ _ _ _ _ _ us hl => match us, hl with | [_], _ => rfl) (ok_step_order T F)
theorem ok_walk_key {g : Gb} (T : Tx g) {f : Addr} {fd : FuncData} (F : Fun g.K "walk_key" "walk_key" s_walk_key f fd) : FnOk g.P g.w g.K g.mg g.base CX0 2 f fd ["walk"] (spD g.K 1 m_walk_key) := fn_ok F sc_walk_key (j_walk_key T (F_step_order T))
theorem F_walk_key {g : Gb} (T : Tx g) : FnS g 2 "walk_key" ["walk"] m_walk_key := by
  obtain ⟨f, fd, h1, F⟩ := T.f_walk_key
  exact fnS_of rfl h1 F.kp (F.binds (ps := ["walk"]) fun _ _ _ _ _ _ us hl => match us, hl with | [_], _ => rfl) (ok_walk_key T F)
theorem ok_least_turn {g : Gb} (T : Tx g) {f : Addr} {fd : FuncData} (F : Fun g.K "least_turn" "least_turn" s_least_turn f fd) : FnOk g.P g.w g.K g.mg g.base CX0 4 f fd ["core"] (spD g.K 1 m_least_turn) := fn_ok F sc_least_turn (j_least_turn T (F_walk_key T))
theorem F_least_turn {g : Gb} (T : Tx g) : FnS g 4 "least_turn" ["core"] m_least_turn := by
  obtain ⟨f, fd, h1, F⟩ := T.f_least_turn
  exact fnS_of rfl h1 F.kp (F.binds (ps := ["core"]) fun _ _ _ _ _ _ us hl => match us, hl with | [_], _ => rfl) (ok_least_turn T F)
theorem ok_parted {g : Gb} (T : Tx g) {f : Addr} {fd : FuncData} (F : Fun g.K "parted" "parted" s_parted f fd) : FnOk g.P g.w g.K g.mg g.base CX0 1 f fd ["walk"] (spD g.K 1 m_parted) := fn_ok F sc_parted (j_parted T)
theorem F_parted {g : Gb} (T : Tx g) : FnS g 1 "parted" ["walk"] m_parted := by
  obtain ⟨f, fd, h1, F⟩ := T.f_parted
  exact fnS_of rfl h1 F.kp (F.binds (ps := ["walk"]) fun _ _ _ _ _ _ us hl => match us, hl with | [_], _ => rfl) (ok_parted T F)
theorem ok_straightened {g : Gb} (T : Tx g) {f : Addr} {fd : FuncData} (F : Fun g.K "straightened" "straightened" s_straightened f fd) : FnOk g.P g.w g.K g.mg g.base CX0 1 f fd ["walk"] (spD g.K 1 m_straightened) := fn_ok F sc_straightened (j_straightened T)
theorem F_straightened {g : Gb} (T : Tx g) : FnS g 1 "straightened" ["walk"] m_straightened := by
  obtain ⟨f, fd, h1, F⟩ := T.f_straightened
  exact fnS_of rfl h1 F.kp (F.binds (ps := ["walk"]) fun _ _ _ _ _ _ us hl => match us, hl with | [_], _ => rfl) (ok_straightened T F)
theorem ok_round_from {g : Gb} (T : Tx g) {f : Addr} {fd : FuncData} (F : Fun g.K "round_from" "round_from" s_round_from f fd) : FnOk g.P g.w g.K g.mg g.base CX0 5 f fd ["walk"] (spD g.K 1 m_round_from) := fn_ok F sc_round_from (j_round_from T (F_least_turn T) (F_parted T) (F_straightened T))
theorem F_round_from {g : Gb} (T : Tx g) : FnS g 5 "round_from" ["walk"] m_round_from := by
  obtain ⟨f, fd, h1, F⟩ := T.f_round_from
  exact fnS_of rfl h1 F.kp (F.binds (ps := ["walk"]) fun _ _ _ _ _ _ us hl => match us, hl with | [_], _ => rfl) (ok_round_from T F)
theorem ok_turned_back {g : Gb} (T : Tx g) {f : Addr} {fd : FuncData} (F : Fun g.K "turned_back" "turned_back" s_turned_back f fd) : FnOk g.P g.w g.K g.mg g.base CX0 1 f fd ["walk"] (spD g.K 1 m_turned_back) := fn_ok F sc_turned_back (j_turned_back T)
theorem F_turned_back {g : Gb} (T : Tx g) : FnS g 1 "turned_back" ["walk"] m_turned_back := by
  obtain ⟨f, fd, h1, F⟩ := T.f_turned_back
  exact fnS_of rfl h1 F.kp (F.binds (ps := ["walk"]) fun _ _ _ _ _ _ us hl => match us, hl with | [_], _ => rfl) (ok_turned_back T F)
theorem ok_put_for {g : Gb} (T : Tx g) {f : Addr} {fd : FuncData} (F : Fun g.K "put_for" "put_for" s_put_for f fd) : FnOk g.P g.w g.K g.mg g.base CX0 2 f fd ["walks", "walk"] (spD g.K 2 m_put_for) := fn_ok F sc_put_for (j_put_for T (F_straightened T) (F_turned_back T))
theorem F_put_for {g : Gb} (T : Tx g) : FnS g 2 "put_for" ["walks", "walk"] m_put_for := by
  obtain ⟨f, fd, h1, F⟩ := T.f_put_for
  exact fnS_of rfl h1 F.kp (F.binds (ps := ["walks", "walk"]) fun _ _ _ _ _ _ us hl => match us, hl with | [_, _], _ => rfl) (ok_put_for T F)
theorem ok_led_walk {g : Gb} (T : Tx g) {f : Addr} {fd : FuncData} (F : Fun g.K "led_walk" "led_walk" s_led_walk f fd) : FnOk g.P g.w g.K g.mg g.base CX0 3 f fd ["turning", "walk"] (spD g.K 2 m_led_walk) := fn_ok F sc_led_walk (j_led_walk T (F_put_for T))
theorem F_led_walk {g : Gb} (T : Tx g) : FnS g 3 "led_walk" ["turning", "walk"] m_led_walk := by
  obtain ⟨f, fd, h1, F⟩ := T.f_led_walk
  exact fnS_of rfl h1 F.kp (F.binds (ps := ["turning", "walk"]) fun _ _ _ _ _ _ us hl => match us, hl with | [_, _], _ => rfl) (ok_led_walk T F)
theorem ok_turned_rounds {g : Gb} (T : Tx g) {f : Addr} {fd : FuncData} (F : Fun g.K "turned_rounds" "turned_rounds" s_turned_rounds f fd) : FnOk g.P g.w g.K g.mg g.base CX0 6 f fd ["turning", "rounds"] (spD g.K 2 m_turned_rounds) := fn_ok F sc_turned_rounds (j_turned_rounds T (F_round_from T) (F_led_walk T))
theorem F_turned_rounds {g : Gb} (T : Tx g) : FnS g 6 "turned_rounds" ["turning", "rounds"] m_turned_rounds := by
  obtain ⟨f, fd, h1, F⟩ := T.f_turned_rounds
  exact fnS_of rfl h1 F.kp (F.binds (ps := ["turning", "rounds"]) fun _ _ _ _ _ _ us hl => match us, hl with | [_, _], _ => rfl) (ok_turned_rounds T F)
theorem ok_led_letter {g : Gb} (T : Tx g) {f : Addr} {fd : FuncData} (F : Fun g.K "led_letter" "led_letter" s_led_letter f fd) : FnOk g.P g.w g.K g.mg g.base CX0 1 f fd ["move", "letter"] (spD g.K 2 m_led_letter) := fn_ok F sc_led_letter (j_led_letter T)
theorem F_led_letter {g : Gb} (T : Tx g) : FnS g 1 "led_letter" ["move", "letter"] m_led_letter := by
  obtain ⟨f, fd, h1, F⟩ := T.f_led_letter
  exact fnS_of rfl h1 F.kp (F.binds (ps := ["move", "letter"]) fun _ _ _ _ _ _ us hl => match us, hl with | [_, _], _ => rfl) (ok_led_letter T F)
theorem ok_turning_of {g : Gb} (T : Tx g) {f : Addr} {fd : FuncData} (F : Fun g.K "turning_of" "turning_of" s_turning_of f fd) : FnOk g.P g.w g.K g.mg g.base CX0 2 f fd ["letters", "move"] (spD g.K 2 m_turning_of) := fn_ok F sc_turning_of (j_turning_of T (F_led_letter T))
theorem F_turning_of {g : Gb} (T : Tx g) : FnS g 2 "turning_of" ["letters", "move"] m_turning_of := by
  obtain ⟨f, fd, h1, F⟩ := T.f_turning_of
  exact fnS_of rfl h1 F.kp (F.binds (ps := ["letters", "move"]) fun _ _ _ _ _ _ us hl => match us, hl with | [_, _], _ => rfl) (ok_turning_of T F)
theorem ok_moved_rounds {g : Gb} (T : Tx g) {f : Addr} {fd : FuncData} (F : Fun g.K "moved_rounds" "moved_rounds" s_moved_rounds f fd) : FnOk g.P g.w g.K g.mg g.base CX0 7 f fd ["letters", "move", "rounds"] (spD g.K 3 m_moved_rounds) := fn_ok F sc_moved_rounds (j_moved_rounds T (F_turned_rounds T) (F_turning_of T))
theorem F_moved_rounds {g : Gb} (T : Tx g) : FnS g 7 "moved_rounds" ["letters", "move", "rounds"] m_moved_rounds := by
  obtain ⟨f, fd, h1, F⟩ := T.f_moved_rounds
  exact fnS_of rfl h1 F.kp (F.binds (ps := ["letters", "move", "rounds"]) fun _ _ _ _ _ _ us hl => match us, hl with | [_, _, _], _ => rfl) (ok_moved_rounds T F)
theorem ok_is_integer {g : Gb} (T : Tx g) {f : Addr} {fd : FuncData} (F : Fun g.K "is_integer" "is_integer" s_is_integer f fd) : FnOk g.P g.w g.K g.mg g.base CX0 1 f fd ["value"] (spD g.K 1 m_is_integer) := fn_ok F sc_is_integer (j_is_integer T)
theorem F_is_integer {g : Gb} (T : Tx g) : FnS g 1 "is_integer" ["value"] m_is_integer := by
  obtain ⟨f, fd, h1, F⟩ := T.f_is_integer
  exact fnS_of rfl h1 F.kp (F.binds (ps := ["value"]) fun _ _ _ _ _ _ us hl => match us, hl with | [_], _ => rfl) (ok_is_integer T F)
theorem ok_is_step {g : Gb} (T : Tx g) {f : Addr} {fd : FuncData} (F : Fun g.K "is_step" "is_step" s_is_step f fd) : FnOk g.P g.w g.K g.mg g.base CX0 2 f fd ["value", "letters"] (spD g.K 2 m_is_step) := fn_ok F sc_is_step (j_is_step T (F_is_integer T))
theorem F_is_step {g : Gb} (T : Tx g) : FnS g 2 "is_step" ["value", "letters"] m_is_step := by
  obtain ⟨f, fd, h1, F⟩ := T.f_is_step
  exact fnS_of rfl h1 F.kp (F.binds (ps := ["value", "letters"]) fun _ _ _ _ _ _ us hl => match us, hl with | [_, _], _ => rfl) (ok_is_step T F)
theorem ok_is_a_walk {g : Gb} (T : Tx g) {f : Addr} {fd : FuncData} (F : Fun g.K "is_a_walk" "is_a_walk" s_is_a_walk f fd) : FnOk g.P g.w g.K g.mg g.base CX0 3 f fd ["value", "letters"] (spD g.K 2 m_is_a_walk) := fn_ok F sc_is_a_walk (j_is_a_walk T (F_is_step T))
theorem F_is_a_walk {g : Gb} (T : Tx g) : FnS g 3 "is_a_walk" ["value", "letters"] m_is_a_walk := by
  obtain ⟨f, fd, h1, F⟩ := T.f_is_a_walk
  exact fnS_of rfl h1 F.kp (F.binds (ps := ["value", "letters"]) fun _ _ _ _ _ _ us hl => match us, hl with | [_, _], _ => rfl) (ok_is_a_walk T F)
theorem ok_is_a_round {g : Gb} (T : Tx g) {f : Addr} {fd : FuncData} (F : Fun g.K "is_a_round" "is_a_round" s_is_a_round f fd) : FnOk g.P g.w g.K g.mg g.base CX0 6 f fd ["letters", "value"] (spD g.K 2 m_is_a_round) := fn_ok F sc_is_a_round (j_is_a_round T (F_is_a_walk T) (F_round_from T))
theorem F_is_a_round {g : Gb} (T : Tx g) : FnS g 6 "is_a_round" ["letters", "value"] m_is_a_round := by
  obtain ⟨f, fd, h1, F⟩ := T.f_is_a_round
  exact fnS_of rfl h1 F.kp (F.binds (ps := ["letters", "value"]) fun _ _ _ _ _ _ us hl => match us, hl with | [_, _], _ => rfl) (ok_is_a_round T F)
theorem ok_are_rounds {g : Gb} (T : Tx g) {f : Addr} {fd : FuncData} (F : Fun g.K "are_rounds" "are_rounds" s_are_rounds f fd) : FnOk g.P g.w g.K g.mg g.base CX0 7 f fd ["letters", "value"] (spD g.K 2 m_are_rounds) := fn_ok F sc_are_rounds (j_are_rounds T (F_is_a_round T))
theorem F_are_rounds {g : Gb} (T : Tx g) : FnS g 7 "are_rounds" ["letters", "value"] m_are_rounds := by
  obtain ⟨f, fd, h1, F⟩ := T.f_are_rounds
  exact fnS_of rfl h1 F.kp (F.binds (ps := ["letters", "value"]) fun _ _ _ _ _ _ us hl => match us, hl with | [_, _], _ => rfl) (ok_are_rounds T F)
theorem ok_need_rounds {g : Gb} (T : Tx g) {f : Addr} {fd : FuncData} (F : Fun g.K "need_rounds" "need_rounds" s_need_rounds f fd) : FnOk g.P g.w g.K g.mg g.base CX0 8 f fd ["letters", "rounds"] (spD g.K 2 m_need_rounds) := fn_ok F sc_need_rounds (j_need_rounds T (F_are_rounds T))
theorem F_need_rounds {g : Gb} (T : Tx g) : FnS g 8 "need_rounds" ["letters", "rounds"] m_need_rounds := by
  obtain ⟨f, fd, h1, F⟩ := T.f_need_rounds
  exact fnS_of rfl h1 F.kp (F.binds (ps := ["letters", "rounds"]) fun _ _ _ _ _ _ us hl => match us, hl with | [_, _], _ => rfl) (ok_need_rounds T F)
theorem ok_is_lot {g : Gb} (T : Tx g) {f : Addr} {fd : FuncData} (F : Fun g.K "is_lot" "is_lot" s_is_lot f fd) : FnOk g.P g.w g.K g.mg g.base CX0 3 f fd ["letters", "step", "value"] (spD g.K 3 m_is_lot) := fn_ok F sc_is_lot (j_is_lot T (F_step_order T) (F_is_step T))
theorem F_is_lot {g : Gb} (T : Tx g) : FnS g 3 "is_lot" ["letters", "step", "value"] m_is_lot := by
  obtain ⟨f, fd, h1, F⟩ := T.f_is_lot
  exact fnS_of rfl h1 F.kp (F.binds (ps := ["letters", "step", "value"]) fun _ _ _ _ _ _ us hl => match us, hl with | [_, _, _], _ => rfl) (ok_is_lot T F)
theorem ok_is_a_move {g : Gb} (T : Tx g) {f : Addr} {fd : FuncData} (F : Fun g.K "is_a_move" "is_a_move" s_is_a_move f fd) : FnOk g.P g.w g.K g.mg g.base CX0 4 f fd ["letters", "value"] (spD g.K 2 m_is_a_move) := fn_ok F sc_is_a_move (j_is_a_move T (F_is_step T) (F_is_lot T))
theorem F_is_a_move {g : Gb} (T : Tx g) : FnS g 4 "is_a_move" ["letters", "value"] m_is_a_move := by
  obtain ⟨f, fd, h1, F⟩ := T.f_is_a_move
  exact fnS_of rfl h1 F.kp (F.binds (ps := ["letters", "value"]) fun _ _ _ _ _ _ us hl => match us, hl with | [_, _], _ => rfl) (ok_is_a_move T F)
theorem ok_need_moves {g : Gb} (T : Tx g) {f : Addr} {fd : FuncData} (F : Fun g.K "need_moves" "need_moves" s_need_moves f fd) : FnOk g.P g.w g.K g.mg g.base CX0 5 f fd ["letters", "moves"] (spD g.K 2 m_need_moves) := fn_ok F sc_need_moves (j_need_moves T (F_is_a_move T))
theorem F_need_moves {g : Gb} (T : Tx g) : FnS g 5 "need_moves" ["letters", "moves"] m_need_moves := by
  obtain ⟨f, fd, h1, F⟩ := T.f_need_moves
  exact fnS_of rfl h1 F.kp (F.binds (ps := ["letters", "moves"]) fun _ _ _ _ _ _ us hl => match us, hl with | [_, _], _ => rfl) (ok_need_moves T F)
theorem ok_is_letters {g : Gb} (T : Tx g) {f : Addr} {fd : FuncData} (F : Fun g.K "is_letters" "is_letters" s_is_letters f fd) : FnOk g.P g.w g.K g.mg g.base CX0 2 f fd ["value"] (spD g.K 1 m_is_letters) := fn_ok F sc_is_letters (j_is_letters T (F_is_integer T))
theorem F_is_letters {g : Gb} (T : Tx g) : FnS g 2 "is_letters" ["value"] m_is_letters := by
  obtain ⟨f, fd, h1, F⟩ := T.f_is_letters
  exact fnS_of rfl h1 F.kp (F.binds (ps := ["value"]) fun _ _ _ _ _ _ us hl => match us, hl with | [_], _ => rfl) (ok_is_letters T F)
theorem ok_need_letters {g : Gb} (T : Tx g) {f : Addr} {fd : FuncData} (F : Fun g.K "need_letters" "need_letters" s_need_letters f fd) : FnOk g.P g.w g.K g.mg g.base CX0 3 f fd ["letters"] (spD g.K 1 m_need_letters) := fn_ok F sc_need_letters (j_need_letters T (F_is_letters T))
theorem F_need_letters {g : Gb} (T : Tx g) : FnS g 3 "need_letters" ["letters"] m_need_letters := by
  obtain ⟨f, fd, h1, F⟩ := T.f_need_letters
  exact fnS_of rfl h1 F.kp (F.binds (ps := ["letters"]) fun _ _ _ _ _ _ us hl => match us, hl with | [_], _ => rfl) (ok_need_letters T F)
theorem ok_moved_by {g : Gb} (T : Tx g) {f : Addr} {fd : FuncData} (F : Fun g.K "moved_by" "moved_by" s_moved_by f fd) : FnOk g.P g.w g.K g.mg g.base CX0 9 f fd ["letters", "moves", "rounds"] (spD g.K 3 m_moved_by) := fn_ok F sc_moved_by (j_moved_by T (F_moved_rounds T) (F_need_rounds T) (F_need_moves T) (F_need_letters T))
theorem F_moved_by {g : Gb} (T : Tx g) : FnS g 9 "moved_by" ["letters", "moves", "rounds"] m_moved_by := by
  obtain ⟨f, fd, h1, F⟩ := T.f_moved_by
  exact fnS_of rfl h1 F.kp (F.binds (ps := ["letters", "moves", "rounds"]) fun _ _ _ _ _ _ us hl => match us, hl with | [_, _, _], _ => rfl) (ok_moved_by T F)
theorem Kw1_moved_by {g : Gb} (T : Tx g) : FnK g 9 "moved_by" ["letters", "moves", "rounds"] ["rounds", "moves", "letters"] 0 [2, 1, 0] m_moved_by := by
  obtain ⟨f, fd, h1, F⟩ := T.f_moved_by
  refine fnK_of rfl h1 F.kp ?_ (by decide) (ok_moved_by T F)
  obtain ⟨oc, od, kV, doc, pm, an, cdv, ct, osl, rfl, lk, hcd⟩ := F.ex
  intro s us ws h2 h3
  match us, ws, h2, h3 with
  | [], [_, _, _], _, _ => exact .of_eq rfl
theorem ok_length {g : Gb} (T : Tx g) {f : Addr} {fd : FuncData} (F : Fun g.K "length" "length" s_length f fd) : FnOk g.P g.w g.K g.mg g.base CX0 1 f fd ["rounds"] (spD g.K 1 m_length) := fn_ok F sc_length (j_length T)
theorem F_length {g : Gb} (T : Tx g) : FnS g 1 "length" ["rounds"] m_length := by
  obtain ⟨f, fd, h1, F⟩ := T.f_length
  exact fnS_of rfl h1 F.kp (F.binds (ps := ["rounds"]) fun _ _ _ _ _ _ us hl => match us, hl with | [_], _ => rfl) (ok_length T F)
theorem ok_length_of {g : Gb} (T : Tx g) {f : Addr} {fd : FuncData} (F : Fun g.K "length_of" "length_of" s_length_of f fd) : FnOk g.P g.w g.K g.mg g.base CX0 9 f fd ["letters", "rounds"] (spD g.K 2 m_length_of) := fn_ok F sc_length_of (j_length_of T (F_length T) (F_need_rounds T) (F_need_letters T))
theorem F_length_of {g : Gb} (T : Tx g) : FnS g 9 "length_of" ["letters", "rounds"] m_length_of := by
  obtain ⟨f, fd, h1, F⟩ := T.f_length_of
  exact fnS_of rfl h1 F.kp (F.binds (ps := ["letters", "rounds"]) fun _ _ _ _ _ _ us hl => match us, hl with | [_, _], _ => rfl) (ok_length_of T F)
theorem Kw0_length_of {g : Gb} (T : Tx g) : FnK g 9 "length_of" ["letters", "rounds"] ["rounds", "letters"] 0 [1, 0] m_length_of := by
  obtain ⟨f, fd, h1, F⟩ := T.f_length_of
  refine fnK_of rfl h1 F.kp ?_ (by decide) (ok_length_of T F)
  obtain ⟨oc, od, kV, doc, pm, an, cdv, ct, osl, rfl, lk, hcd⟩ := F.ex
  intro s us ws h2 h3
  match us, ws, h2, h3 with
  | [], [_, _], _, _ => exact .of_eq rfl
theorem ok__law_order {g : Gb} (T : Tx g) {f : Addr} {fd : FuncData} (F : Fun g.K "_law_order" "_law_order" s__law_order f fd) : FnOk g.P g.w g.K g.mg g.base CX0 1 f fd ["step"] (spD g.K 1 m__law_order) := fn_ok F sc__law_order (j__law_order T)
theorem F__law_order {g : Gb} (T : Tx g) : FnS g 1 "_law_order" ["step"] m__law_order := by
  obtain ⟨f, fd, h1, F⟩ := T.f__law_order
  exact fnS_of rfl h1 F.kp (F.binds (ps := ["step"]) fun _ _ _ _ _ _ us hl => match us, hl with | [_], _ => rfl) (ok__law_order T F)
theorem ok__law_move_back {g : Gb} (T : Tx g) {f : Addr} {fd : FuncData} (F : Fun g.K "_law_move_back" "_law_move_back" s__law_move_back f fd) : FnOk g.P g.w g.K g.mg g.base CX0 4 f fd ["move"] (spD g.K 1 m__law_move_back) := fn_ok F sc__law_move_back (j__law_move_back T (F__law_order T))
theorem F__law_move_back {g : Gb} (T : Tx g) : FnS g 4 "_law_move_back" ["move"] m__law_move_back := by
  obtain ⟨f, fd, h1, F⟩ := T.f__law_move_back
  exact fnS_of rfl h1 F.kp (F.binds (ps := ["move"]) fun _ _ _ _ _ _ us hl => match us, hl with | [_], _ => rfl) (ok__law_move_back T F)
theorem ok__law_key {g : Gb} (T : Tx g) {f : Addr} {fd : FuncData} (F : Fun g.K "_law_key" "_law_key" s__law_key f fd) : FnOk g.P g.w g.K g.mg g.base CX0 2 f fd ["walk"] (spD g.K 1 m__law_key) := fn_ok F sc__law_key (j__law_key T (F__law_order T))
theorem F__law_key {g : Gb} (T : Tx g) : FnS g 2 "_law_key" ["walk"] m__law_key := by
  obtain ⟨f, fd, h1, F⟩ := T.f__law_key
  exact fnS_of rfl h1 F.kp (F.binds (ps := ["walk"]) fun _ _ _ _ _ _ us hl => match us, hl with | [_], _ => rfl) (ok__law_key T F)
theorem ok__law_straight {g : Gb} (T : Tx g) {f : Addr} {fd : FuncData} (F : Fun g.K "_law_straight" "_law_straight" s__law_straight f fd) : FnOk g.P g.w g.K g.mg g.base CX0 1 f fd ["walk"] (spD g.K 1 m__law_straight) := fn_ok F sc__law_straight (j__law_straight T)
theorem F__law_straight {g : Gb} (T : Tx g) : FnS g 1 "_law_straight" ["walk"] m__law_straight := by
  obtain ⟨f, fd, h1, F⟩ := T.f__law_straight
  exact fnS_of rfl h1 F.kp (F.binds (ps := ["walk"]) fun _ _ _ _ _ _ us hl => match us, hl with | [_], _ => rfl) (ok__law_straight T F)
theorem ok__law_round {g : Gb} (T : Tx g) {f : Addr} {fd : FuncData} (F : Fun g.K "_law_round" "_law_round" s__law_round f fd) : FnOk g.P g.w g.K g.mg g.base CX0 3 f fd ["walk"] (spD g.K 1 m__law_round) := fn_ok F sc__law_round (j__law_round T (F__law_key T) (F__law_straight T))
theorem F__law_round {g : Gb} (T : Tx g) : FnS g 3 "_law_round" ["walk"] m__law_round := by
  obtain ⟨f, fd, h1, F⟩ := T.f__law_round
  exact fnS_of rfl h1 F.kp (F.binds (ps := ["walk"]) fun _ _ _ _ _ _ us hl => match us, hl with | [_], _ => rfl) (ok__law_round T F)
theorem ok__law_back {g : Gb} (T : Tx g) {f : Addr} {fd : FuncData} (F : Fun g.K "_law_back" "_law_back" s__law_back f fd) : FnOk g.P g.w g.K g.mg g.base CX0 1 f fd ["walk"] (spD g.K 1 m__law_back) := fn_ok F sc__law_back (j__law_back T)
theorem F__law_back {g : Gb} (T : Tx g) : FnS g 1 "_law_back" ["walk"] m__law_back := by
  obtain ⟨f, fd, h1, F⟩ := T.f__law_back
  exact fnS_of rfl h1 F.kp (F.binds (ps := ["walk"]) fun _ _ _ _ _ _ us hl => match us, hl with | [_], _ => rfl) (ok__law_back T F)
theorem ok__law_led {g : Gb} (T : Tx g) {f : Addr} {fd : FuncData} (F : Fun g.K "_law_led" "_law_led" s__law_led f fd) : FnOk g.P g.w g.K g.mg g.base CX0 2 f fd ["walks", "walk"] (spD g.K 2 m__law_led) := fn_ok F sc__law_led (j__law_led T (F__law_back T))
theorem F__law_led {g : Gb} (T : Tx g) : FnS g 2 "_law_led" ["walks", "walk"] m__law_led := by
  obtain ⟨f, fd, h1, F⟩ := T.f__law_led
  exact fnS_of rfl h1 F.kp (F.binds (ps := ["walks", "walk"]) fun _ _ _ _ _ _ us hl => match us, hl with | [_, _], _ => rfl) (ok__law_led T F)
theorem ok__law_take {g : Gb} (T : Tx g) {f : Addr} {fd : FuncData} (F : Fun g.K "_law_take" "_law_take" s__law_take f fd) : FnOk g.P g.w g.K g.mg g.base CX0 1 f fd ["well", "many"] (spD g.K 2 m__law_take) := fn_ok F sc__law_take (j__law_take T)
theorem F__law_take {g : Gb} (T : Tx g) : FnS g 1 "_law_take" ["well", "many"] m__law_take := by
  obtain ⟨f, fd, h1, F⟩ := T.f__law_take
  exact fnS_of rfl h1 F.kp (F.binds (ps := ["well", "many"]) fun _ _ _ _ _ _ us hl => match us, hl with | [_, _], _ => rfl) (ok__law_take T F)
theorem ok_need_move {g : Gb} (T : Tx g) {f : Addr} {fd : FuncData} (F : Fun g.K "need_move" "need_move" s_need_move f fd) : FnOk g.P g.w g.K g.mg g.base CX0 5 f fd ["letters", "move"] (spD g.K 2 m_need_move) := fn_ok F sc_need_move (j_need_move T (F_is_a_move T))
theorem F_need_move {g : Gb} (T : Tx g) : FnS g 5 "need_move" ["letters", "move"] m_need_move := by
  obtain ⟨f, fd, h1, F⟩ := T.f_need_move
  exact fnS_of rfl h1 F.kp (F.binds (ps := ["letters", "move"]) fun _ _ _ _ _ _ us hl => match us, hl with | [_, _], _ => rfl) (ok_need_move T F)
theorem ok_moved {g : Gb} (T : Tx g) {f : Addr} {fd : FuncData} (F : Fun g.K "moved" "moved" s_moved f fd) : FnOk g.P g.w g.K g.mg g.base CX0 9 f fd ["letters", "move", "rounds"] (spD g.K 3 m_moved) := fn_ok F sc_moved (j_moved T (F_moved_rounds T) (F_need_rounds T) (F_need_move T) (F_need_letters T))
theorem F_moved {g : Gb} (T : Tx g) : FnS g 9 "moved" ["letters", "move", "rounds"] m_moved := by
  obtain ⟨f, fd, h1, F⟩ := T.f_moved
  exact fnS_of rfl h1 F.kp (F.binds (ps := ["letters", "move", "rounds"]) fun _ _ _ _ _ _ us hl => match us, hl with | [_, _, _], _ => rfl) (ok_moved T F)
theorem Kw2_moved {g : Gb} (T : Tx g) : FnK g 9 "moved" ["letters", "move", "rounds"] ["rounds", "move", "letters"] 0 [2, 1, 0] m_moved := by
  obtain ⟨f, fd, h1, F⟩ := T.f_moved
  refine fnK_of rfl h1 F.kp ?_ (by decide) (ok_moved T F)
  obtain ⟨oc, od, kV, doc, pm, an, cdv, ct, osl, rfl, lk, hcd⟩ := F.ex
  intro s us ws h2 h3
  match us, ws, h2, h3 with
  | [], [_, _, _], _, _ => exact .of_eq rfl
theorem ok__law_turned {g : Gb} (T : Tx g) {f : Addr} {fd : FuncData} (F : Fun g.K "_law_turned" "_law_turned" s__law_turned f fd) : FnOk g.P g.w g.K g.mg g.base CX0 1 f fd ["letters", "move"] (spD g.K 2 m__law_turned) := fn_ok F sc__law_turned (j__law_turned T)
theorem F__law_turned {g : Gb} (T : Tx g) : FnS g 1 "_law_turned" ["letters", "move"] m__law_turned := by
  obtain ⟨f, fd, h1, F⟩ := T.f__law_turned
  exact fnS_of rfl h1 F.kp (F.binds (ps := ["letters", "move"]) fun _ _ _ _ _ _ us hl => match us, hl with | [_, _], _ => rfl) (ok__law_turned T F)
theorem ok__law_moved {g : Gb} (T : Tx g) {f : Addr} {fd : FuncData} (F : Fun g.K "_law_moved" "_law_moved" s__law_moved f fd) : FnOk g.P g.w g.K g.mg g.base CX0 4 f fd ["letters", "move", "rows"] (spD g.K 3 m__law_moved) := fn_ok F sc__law_moved (j__law_moved T (F__law_round T) (F__law_led T) (F__law_turned T))
theorem F__law_moved {g : Gb} (T : Tx g) : FnS g 4 "_law_moved" ["letters", "move", "rows"] m__law_moved := by
  obtain ⟨f, fd, h1, F⟩ := T.f__law_moved
  exact fnS_of rfl h1 F.kp (F.binds (ps := ["letters", "move", "rows"]) fun _ _ _ _ _ _ us hl => match us, hl with | [_, _, _], _ => rfl) (ok__law_moved T F)
theorem ok__law_steps {g : Gb} (T : Tx g) {f : Addr} {fd : FuncData} (F : Fun g.K "_law_steps" "_law_steps" s__law_steps f fd) : FnOk g.P g.w g.K g.mg g.base CX0 1 f fd ["letters"] (spD g.K 1 m__law_steps) := fn_ok F sc__law_steps (j__law_steps T)
theorem F__law_steps {g : Gb} (T : Tx g) : FnS g 1 "_law_steps" ["letters"] m__law_steps := by
  obtain ⟨f, fd, h1, F⟩ := T.f__law_steps
  exact fnS_of rfl h1 F.kp (F.binds (ps := ["letters"]) fun _ _ _ _ _ _ us hl => match us, hl with | [_], _ => rfl) (ok__law_steps T F)
theorem ok__law_move {g : Gb} (T : Tx g) {f : Addr} {fd : FuncData} (F : Fun g.K "_law_move" "_law_move" s__law_move f fd) : FnOk g.P g.w g.K g.mg g.base CX0 4 f fd ["well", "letters"] (spD g.K 2 m__law_move) := fn_ok F sc__law_move (j__law_move T (F__law_order T) (F__law_take T) (F__law_steps T))
theorem F__law_move {g : Gb} (T : Tx g) : FnS g 4 "_law_move" ["well", "letters"] m__law_move := by
  obtain ⟨f, fd, h1, F⟩ := T.f__law_move
  exact fnS_of rfl h1 F.kp (F.binds (ps := ["well", "letters"]) fun _ _ _ _ _ _ us hl => match us, hl with | [_, _], _ => rfl) (ok__law_move T F)
theorem ok__law_walk {g : Gb} (T : Tx g) {f : Addr} {fd : FuncData} (F : Fun g.K "_law_walk" "_law_walk" s__law_walk f fd) : FnOk g.P g.w g.K g.mg g.base CX0 2 f fd ["well", "letters", "size"] (spD g.K 3 m__law_walk) := fn_ok F sc__law_walk (j__law_walk T (F__law_take T) (F__law_steps T))
theorem F__law_walk {g : Gb} (T : Tx g) : FnS g 2 "_law_walk" ["well", "letters", "size"] m__law_walk := by
  obtain ⟨f, fd, h1, F⟩ := T.f__law_walk
  exact fnS_of rfl h1 F.kp (F.binds (ps := ["well", "letters", "size"]) fun _ _ _ _ _ _ us hl => match us, hl with | [_, _, _], _ => rfl) (ok__law_walk T F)
theorem ok__law_well {g : Gb} (T : Tx g) {f : Addr} {fd : FuncData} (F : Fun g.K "_law_well" "_law_well" s__law_well f fd) : FnOk g.P g.w g.K g.mg g.base CX0 1 f fd ["script", "k"] (spD g.K 2 m__law_well) := fn_ok F sc__law_well (j__law_well T)
theorem F__law_well {g : Gb} (T : Tx g) : FnS g 1 "_law_well" ["script", "k"] m__law_well := by
  obtain ⟨f, fd, h1, F⟩ := T.f__law_well
  exact fnS_of rfl h1 F.kp (F.binds (ps := ["script", "k"]) fun _ _ _ _ _ _ us hl => match us, hl with | [_, _], _ => rfl) (ok__law_well T F)
theorem ok_law {g : Gb} (T : Tx g) {f : Addr} {fd : FuncData} (F : Fun g.K "law" "law" s_law f fd) : FnOk g.P g.w g.K g.mg g.base CX0 10 f fd ["script"] (spD g.K 1 m_law) := fn_ok F sc_law (j_law T (F__law_same T) (F_moved_by T) (F_length_of T) (F__law_move_back T) (F__law_round T) (F__law_led T) (F__law_take T) (F_moved T) (F__law_turned T) (F__law_moved T) (F__law_move T) (F__law_walk T) (F__law_well T) (Kw0_length_of T) (Kw1_moved_by T) (Kw2_moved T))
theorem F_law {g : Gb} (T : Tx g) : FnS g 10 "law" ["script"] m_law := by
  obtain ⟨f, fd, h1, F⟩ := T.f_law
  exact fnS_of rfl h1 F.kp (F.binds (ps := ["script"]) fun _ _ _ _ _ _ us hl => match us, hl with | [_], _ => rfl) (ok_law T F)
/-! ### the end: what the top has left -/
theorem all_mk {l : PySem.W.OpenLaw} {w : World} {K : PySem.W.Frag} {h : Heap} {mg : Str → Option Value} {fa : Addr} (X : K.In h) (G : h.Ns mainGlobals mg) (hfa : mg "law" = some (.ref fa))
    {f0 : Addr} {od0 an0 : Option Addr} {sl0 : Array (Option Value)} {oc0 kV0 dc0 pm0 cd0 ct0 : Value}
    (a0 : PySem.W.nsIn K mainGlobals "_law_same" = some (some (.ref f0))) (l0 : K.lookup f0 = some ⟨oc0, od0, .func (PySem.W.fnOf "_law_same" "_law_same" (defArgs s__law_same) (defBody s__law_same) (defScope s__law_same) .none kV0 dc0 pm0 an0 cd0 ct0), sl0⟩) (c0 : PySem.W.codeIn K cd0 "_law_same" = true) (k0 : PySem.W.keepIn K (.ref f0) = true)
    {f1 : Addr} {od1 an1 : Option Addr} {sl1 : Array (Option Value)} {oc1 kV1 dc1 pm1 cd1 ct1 : Value}
    (a1 : PySem.W.nsIn K mainGlobals "step_order" = some (some (.ref f1))) (l1 : K.lookup f1 = some ⟨oc1, od1, .func (PySem.W.fnOf "step_order" "step_order" (defArgs s_step_order) (defBody s_step_order) (defScope s_step_order) .none kV1 dc1 pm1 an1 cd1 ct1), sl1⟩) (c1 : PySem.W.codeIn K cd1 "step_order" = true) (k1 : PySem.W.keepIn K (.ref f1) = true)
    {f2 : Addr} {od2 an2 : Option Addr} {sl2 : Array (Option Value)} {oc2 kV2 dc2 pm2 cd2 ct2 : Value}
    (a2 : PySem.W.nsIn K mainGlobals "walk_key" = some (some (.ref f2))) (l2 : K.lookup f2 = some ⟨oc2, od2, .func (PySem.W.fnOf "walk_key" "walk_key" (defArgs s_walk_key) (defBody s_walk_key) (defScope s_walk_key) .none kV2 dc2 pm2 an2 cd2 ct2), sl2⟩) (c2 : PySem.W.codeIn K cd2 "walk_key" = true) (k2 : PySem.W.keepIn K (.ref f2) = true)
    {f3 : Addr} {od3 an3 : Option Addr} {sl3 : Array (Option Value)} {oc3 kV3 dc3 pm3 cd3 ct3 : Value}
    (a3 : PySem.W.nsIn K mainGlobals "least_turn" = some (some (.ref f3))) (l3 : K.lookup f3 = some ⟨oc3, od3, .func (PySem.W.fnOf "least_turn" "least_turn" (defArgs s_least_turn) (defBody s_least_turn) (defScope s_least_turn) .none kV3 dc3 pm3 an3 cd3 ct3), sl3⟩) (c3 : PySem.W.codeIn K cd3 "least_turn" = true) (k3 : PySem.W.keepIn K (.ref f3) = true)
    {f4 : Addr} {od4 an4 : Option Addr} {sl4 : Array (Option Value)} {oc4 kV4 dc4 pm4 cd4 ct4 : Value}
    (a4 : PySem.W.nsIn K mainGlobals "parted" = some (some (.ref f4))) (l4 : K.lookup f4 = some ⟨oc4, od4, .func (PySem.W.fnOf "parted" "parted" (defArgs s_parted) (defBody s_parted) (defScope s_parted) .none kV4 dc4 pm4 an4 cd4 ct4), sl4⟩) (c4 : PySem.W.codeIn K cd4 "parted" = true) (k4 : PySem.W.keepIn K (.ref f4) = true)
    {f5 : Addr} {od5 an5 : Option Addr} {sl5 : Array (Option Value)} {oc5 kV5 dc5 pm5 cd5 ct5 : Value}
    (a5 : PySem.W.nsIn K mainGlobals "straightened" = some (some (.ref f5))) (l5 : K.lookup f5 = some ⟨oc5, od5, .func (PySem.W.fnOf "straightened" "straightened" (defArgs s_straightened) (defBody s_straightened) (defScope s_straightened) .none kV5 dc5 pm5 an5 cd5 ct5), sl5⟩) (c5 : PySem.W.codeIn K cd5 "straightened" = true) (k5 : PySem.W.keepIn K (.ref f5) = true)
    {f6 : Addr} {od6 an6 : Option Addr} {sl6 : Array (Option Value)} {oc6 kV6 dc6 pm6 cd6 ct6 : Value}
    (a6 : PySem.W.nsIn K mainGlobals "round_from" = some (some (.ref f6))) (l6 : K.lookup f6 = some ⟨oc6, od6, .func (PySem.W.fnOf "round_from" "round_from" (defArgs s_round_from) (defBody s_round_from) (defScope s_round_from) .none kV6 dc6 pm6 an6 cd6 ct6), sl6⟩) (c6 : PySem.W.codeIn K cd6 "round_from" = true) (k6 : PySem.W.keepIn K (.ref f6) = true)
    {f7 : Addr} {od7 an7 : Option Addr} {sl7 : Array (Option Value)} {oc7 kV7 dc7 pm7 cd7 ct7 : Value}
    (a7 : PySem.W.nsIn K mainGlobals "turned_back" = some (some (.ref f7))) (l7 : K.lookup f7 = some ⟨oc7, od7, .func (PySem.W.fnOf "turned_back" "turned_back" (defArgs s_turned_back) (defBody s_turned_back) (defScope s_turned_back) .none kV7 dc7 pm7 an7 cd7 ct7), sl7⟩) (c7 : PySem.W.codeIn K cd7 "turned_back" = true) (k7 : PySem.W.keepIn K (.ref f7) = true)
    {f8 : Addr} {od8 an8 : Option Addr} {sl8 : Array (Option Value)} {oc8 kV8 dc8 pm8 cd8 ct8 : Value}
    (a8 : PySem.W.nsIn K mainGlobals "put_for" = some (some (.ref f8))) (l8 : K.lookup f8 = some ⟨oc8, od8, .func (PySem.W.fnOf "put_for" "put_for" (defArgs s_put_for) (defBody s_put_for) (defScope s_put_for) .none kV8 dc8 pm8 an8 cd8 ct8), sl8⟩) (c8 : PySem.W.codeIn K cd8 "put_for" = true) (k8 : PySem.W.keepIn K (.ref f8) = true)
    {f9 : Addr} {od9 an9 : Option Addr} {sl9 : Array (Option Value)} {oc9 kV9 dc9 pm9 cd9 ct9 : Value}
    (a9 : PySem.W.nsIn K mainGlobals "led_walk" = some (some (.ref f9))) (l9 : K.lookup f9 = some ⟨oc9, od9, .func (PySem.W.fnOf "led_walk" "led_walk" (defArgs s_led_walk) (defBody s_led_walk) (defScope s_led_walk) .none kV9 dc9 pm9 an9 cd9 ct9), sl9⟩) (c9 : PySem.W.codeIn K cd9 "led_walk" = true) (k9 : PySem.W.keepIn K (.ref f9) = true)
    {f10 : Addr} {od10 an10 : Option Addr} {sl10 : Array (Option Value)} {oc10 kV10 dc10 pm10 cd10 ct10 : Value}
    (a10 : PySem.W.nsIn K mainGlobals "turned_rounds" = some (some (.ref f10))) (l10 : K.lookup f10 = some ⟨oc10, od10, .func (PySem.W.fnOf "turned_rounds" "turned_rounds" (defArgs s_turned_rounds) (defBody s_turned_rounds) (defScope s_turned_rounds) .none kV10 dc10 pm10 an10 cd10 ct10), sl10⟩) (c10 : PySem.W.codeIn K cd10 "turned_rounds" = true) (k10 : PySem.W.keepIn K (.ref f10) = true)
    {f11 : Addr} {od11 an11 : Option Addr} {sl11 : Array (Option Value)} {oc11 kV11 dc11 pm11 cd11 ct11 : Value}
    (a11 : PySem.W.nsIn K mainGlobals "led_letter" = some (some (.ref f11))) (l11 : K.lookup f11 = some ⟨oc11, od11, .func (PySem.W.fnOf "led_letter" "led_letter" (defArgs s_led_letter) (defBody s_led_letter) (defScope s_led_letter) .none kV11 dc11 pm11 an11 cd11 ct11), sl11⟩) (c11 : PySem.W.codeIn K cd11 "led_letter" = true) (k11 : PySem.W.keepIn K (.ref f11) = true)
    {f12 : Addr} {od12 an12 : Option Addr} {sl12 : Array (Option Value)} {oc12 kV12 dc12 pm12 cd12 ct12 : Value}
    (a12 : PySem.W.nsIn K mainGlobals "turning_of" = some (some (.ref f12))) (l12 : K.lookup f12 = some ⟨oc12, od12, .func (PySem.W.fnOf "turning_of" "turning_of" (defArgs s_turning_of) (defBody s_turning_of) (defScope s_turning_of) .none kV12 dc12 pm12 an12 cd12 ct12), sl12⟩) (c12 : PySem.W.codeIn K cd12 "turning_of" = true) (k12 : PySem.W.keepIn K (.ref f12) = true)
    {f13 : Addr} {od13 an13 : Option Addr} {sl13 : Array (Option Value)} {oc13 kV13 dc13 pm13 cd13 ct13 : Value}
    (a13 : PySem.W.nsIn K mainGlobals "moved_rounds" = some (some (.ref f13))) (l13 : K.lookup f13 = some ⟨oc13, od13, .func (PySem.W.fnOf "moved_rounds" "moved_rounds" (defArgs s_moved_rounds) (defBody s_moved_rounds) (defScope s_moved_rounds) .none kV13 dc13 pm13 an13 cd13 ct13), sl13⟩) (c13 : PySem.W.codeIn K cd13 "moved_rounds" = true) (k13 : PySem.W.keepIn K (.ref f13) = true)
    {f14 : Addr} {od14 an14 : Option Addr} {sl14 : Array (Option Value)} {oc14 kV14 dc14 pm14 cd14 ct14 : Value}
    (a14 : PySem.W.nsIn K mainGlobals "is_integer" = some (some (.ref f14))) (l14 : K.lookup f14 = some ⟨oc14, od14, .func (PySem.W.fnOf "is_integer" "is_integer" (defArgs s_is_integer) (defBody s_is_integer) (defScope s_is_integer) .none kV14 dc14 pm14 an14 cd14 ct14), sl14⟩) (c14 : PySem.W.codeIn K cd14 "is_integer" = true) (k14 : PySem.W.keepIn K (.ref f14) = true)
    {f15 : Addr} {od15 an15 : Option Addr} {sl15 : Array (Option Value)} {oc15 kV15 dc15 pm15 cd15 ct15 : Value}
    (a15 : PySem.W.nsIn K mainGlobals "is_step" = some (some (.ref f15))) (l15 : K.lookup f15 = some ⟨oc15, od15, .func (PySem.W.fnOf "is_step" "is_step" (defArgs s_is_step) (defBody s_is_step) (defScope s_is_step) .none kV15 dc15 pm15 an15 cd15 ct15), sl15⟩) (c15 : PySem.W.codeIn K cd15 "is_step" = true) (k15 : PySem.W.keepIn K (.ref f15) = true)
    {f16 : Addr} {od16 an16 : Option Addr} {sl16 : Array (Option Value)} {oc16 kV16 dc16 pm16 cd16 ct16 : Value}
    (a16 : PySem.W.nsIn K mainGlobals "is_a_walk" = some (some (.ref f16))) (l16 : K.lookup f16 = some ⟨oc16, od16, .func (PySem.W.fnOf "is_a_walk" "is_a_walk" (defArgs s_is_a_walk) (defBody s_is_a_walk) (defScope s_is_a_walk) .none kV16 dc16 pm16 an16 cd16 ct16), sl16⟩) (c16 : PySem.W.codeIn K cd16 "is_a_walk" = true) (k16 : PySem.W.keepIn K (.ref f16) = true)
    {f17 : Addr} {od17 an17 : Option Addr} {sl17 : Array (Option Value)} {oc17 kV17 dc17 pm17 cd17 ct17 : Value}
    (a17 : PySem.W.nsIn K mainGlobals "is_a_round" = some (some (.ref f17))) (l17 : K.lookup f17 = some ⟨oc17, od17, .func (PySem.W.fnOf "is_a_round" "is_a_round" (defArgs s_is_a_round) (defBody s_is_a_round) (defScope s_is_a_round) .none kV17 dc17 pm17 an17 cd17 ct17), sl17⟩) (c17 : PySem.W.codeIn K cd17 "is_a_round" = true) (k17 : PySem.W.keepIn K (.ref f17) = true)
    {f18 : Addr} {od18 an18 : Option Addr} {sl18 : Array (Option Value)} {oc18 kV18 dc18 pm18 cd18 ct18 : Value}
    (a18 : PySem.W.nsIn K mainGlobals "are_rounds" = some (some (.ref f18))) (l18 : K.lookup f18 = some ⟨oc18, od18, .func (PySem.W.fnOf "are_rounds" "are_rounds" (defArgs s_are_rounds) (defBody s_are_rounds) (defScope s_are_rounds) .none kV18 dc18 pm18 an18 cd18 ct18), sl18⟩) (c18 : PySem.W.codeIn K cd18 "are_rounds" = true) (k18 : PySem.W.keepIn K (.ref f18) = true)
    {f19 : Addr} {od19 an19 : Option Addr} {sl19 : Array (Option Value)} {oc19 kV19 dc19 pm19 cd19 ct19 : Value}
    (a19 : PySem.W.nsIn K mainGlobals "need_rounds" = some (some (.ref f19))) (l19 : K.lookup f19 = some ⟨oc19, od19, .func (PySem.W.fnOf "need_rounds" "need_rounds" (defArgs s_need_rounds) (defBody s_need_rounds) (defScope s_need_rounds) .none kV19 dc19 pm19 an19 cd19 ct19), sl19⟩) (c19 : PySem.W.codeIn K cd19 "need_rounds" = true) (k19 : PySem.W.keepIn K (.ref f19) = true)
    {f20 : Addr} {od20 an20 : Option Addr} {sl20 : Array (Option Value)} {oc20 kV20 dc20 pm20 cd20 ct20 : Value}
    (a20 : PySem.W.nsIn K mainGlobals "is_lot" = some (some (.ref f20))) (l20 : K.lookup f20 = some ⟨oc20, od20, .func (PySem.W.fnOf "is_lot" "is_lot" (defArgs s_is_lot) (defBody s_is_lot) (defScope s_is_lot) .none kV20 dc20 pm20 an20 cd20 ct20), sl20⟩) (c20 : PySem.W.codeIn K cd20 "is_lot" = true) (k20 : PySem.W.keepIn K (.ref f20) = true)
    {f21 : Addr} {od21 an21 : Option Addr} {sl21 : Array (Option Value)} {oc21 kV21 dc21 pm21 cd21 ct21 : Value}
    (a21 : PySem.W.nsIn K mainGlobals "is_a_move" = some (some (.ref f21))) (l21 : K.lookup f21 = some ⟨oc21, od21, .func (PySem.W.fnOf "is_a_move" "is_a_move" (defArgs s_is_a_move) (defBody s_is_a_move) (defScope s_is_a_move) .none kV21 dc21 pm21 an21 cd21 ct21), sl21⟩) (c21 : PySem.W.codeIn K cd21 "is_a_move" = true) (k21 : PySem.W.keepIn K (.ref f21) = true)
    {f22 : Addr} {od22 an22 : Option Addr} {sl22 : Array (Option Value)} {oc22 kV22 dc22 pm22 cd22 ct22 : Value}
    (a22 : PySem.W.nsIn K mainGlobals "need_moves" = some (some (.ref f22))) (l22 : K.lookup f22 = some ⟨oc22, od22, .func (PySem.W.fnOf "need_moves" "need_moves" (defArgs s_need_moves) (defBody s_need_moves) (defScope s_need_moves) .none kV22 dc22 pm22 an22 cd22 ct22), sl22⟩) (c22 : PySem.W.codeIn K cd22 "need_moves" = true) (k22 : PySem.W.keepIn K (.ref f22) = true)
    {f23 : Addr} {od23 an23 : Option Addr} {sl23 : Array (Option Value)} {oc23 kV23 dc23 pm23 cd23 ct23 : Value}
    (a23 : PySem.W.nsIn K mainGlobals "is_letters" = some (some (.ref f23))) (l23 : K.lookup f23 = some ⟨oc23, od23, .func (PySem.W.fnOf "is_letters" "is_letters" (defArgs s_is_letters) (defBody s_is_letters) (defScope s_is_letters) .none kV23 dc23 pm23 an23 cd23 ct23), sl23⟩) (c23 : PySem.W.codeIn K cd23 "is_letters" = true) (k23 : PySem.W.keepIn K (.ref f23) = true)
    {f24 : Addr} {od24 an24 : Option Addr} {sl24 : Array (Option Value)} {oc24 kV24 dc24 pm24 cd24 ct24 : Value}
    (a24 : PySem.W.nsIn K mainGlobals "need_letters" = some (some (.ref f24))) (l24 : K.lookup f24 = some ⟨oc24, od24, .func (PySem.W.fnOf "need_letters" "need_letters" (defArgs s_need_letters) (defBody s_need_letters) (defScope s_need_letters) .none kV24 dc24 pm24 an24 cd24 ct24), sl24⟩) (c24 : PySem.W.codeIn K cd24 "need_letters" = true) (k24 : PySem.W.keepIn K (.ref f24) = true)
    {f25 : Addr} {od25 an25 : Option Addr} {sl25 : Array (Option Value)} {oc25 kV25 dc25 pm25 cd25 ct25 : Value}
    (a25 : PySem.W.nsIn K mainGlobals "moved_by" = some (some (.ref f25))) (l25 : K.lookup f25 = some ⟨oc25, od25, .func (PySem.W.fnOf "moved_by" "moved_by" (defArgs s_moved_by) (defBody s_moved_by) (defScope s_moved_by) .none kV25 dc25 pm25 an25 cd25 ct25), sl25⟩) (c25 : PySem.W.codeIn K cd25 "moved_by" = true) (k25 : PySem.W.keepIn K (.ref f25) = true)
    {f26 : Addr} {od26 an26 : Option Addr} {sl26 : Array (Option Value)} {oc26 kV26 dc26 pm26 cd26 ct26 : Value}
    (a26 : PySem.W.nsIn K mainGlobals "length" = some (some (.ref f26))) (l26 : K.lookup f26 = some ⟨oc26, od26, .func (PySem.W.fnOf "length" "length" (defArgs s_length) (defBody s_length) (defScope s_length) .none kV26 dc26 pm26 an26 cd26 ct26), sl26⟩) (c26 : PySem.W.codeIn K cd26 "length" = true) (k26 : PySem.W.keepIn K (.ref f26) = true)
    {f27 : Addr} {od27 an27 : Option Addr} {sl27 : Array (Option Value)} {oc27 kV27 dc27 pm27 cd27 ct27 : Value}
    (a27 : PySem.W.nsIn K mainGlobals "length_of" = some (some (.ref f27))) (l27 : K.lookup f27 = some ⟨oc27, od27, .func (PySem.W.fnOf "length_of" "length_of" (defArgs s_length_of) (defBody s_length_of) (defScope s_length_of) .none kV27 dc27 pm27 an27 cd27 ct27), sl27⟩) (c27 : PySem.W.codeIn K cd27 "length_of" = true) (k27 : PySem.W.keepIn K (.ref f27) = true)
    {f28 : Addr} {od28 an28 : Option Addr} {sl28 : Array (Option Value)} {oc28 kV28 dc28 pm28 cd28 ct28 : Value}
    (a28 : PySem.W.nsIn K mainGlobals "_law_order" = some (some (.ref f28))) (l28 : K.lookup f28 = some ⟨oc28, od28, .func (PySem.W.fnOf "_law_order" "_law_order" (defArgs s__law_order) (defBody s__law_order) (defScope s__law_order) .none kV28 dc28 pm28 an28 cd28 ct28), sl28⟩) (c28 : PySem.W.codeIn K cd28 "_law_order" = true) (k28 : PySem.W.keepIn K (.ref f28) = true)
    {f29 : Addr} {od29 an29 : Option Addr} {sl29 : Array (Option Value)} {oc29 kV29 dc29 pm29 cd29 ct29 : Value}
    (a29 : PySem.W.nsIn K mainGlobals "_law_move_back" = some (some (.ref f29))) (l29 : K.lookup f29 = some ⟨oc29, od29, .func (PySem.W.fnOf "_law_move_back" "_law_move_back" (defArgs s__law_move_back) (defBody s__law_move_back) (defScope s__law_move_back) .none kV29 dc29 pm29 an29 cd29 ct29), sl29⟩) (c29 : PySem.W.codeIn K cd29 "_law_move_back" = true) (k29 : PySem.W.keepIn K (.ref f29) = true)
    {f30 : Addr} {od30 an30 : Option Addr} {sl30 : Array (Option Value)} {oc30 kV30 dc30 pm30 cd30 ct30 : Value}
    (a30 : PySem.W.nsIn K mainGlobals "_law_key" = some (some (.ref f30))) (l30 : K.lookup f30 = some ⟨oc30, od30, .func (PySem.W.fnOf "_law_key" "_law_key" (defArgs s__law_key) (defBody s__law_key) (defScope s__law_key) .none kV30 dc30 pm30 an30 cd30 ct30), sl30⟩) (c30 : PySem.W.codeIn K cd30 "_law_key" = true) (k30 : PySem.W.keepIn K (.ref f30) = true)
    {f31 : Addr} {od31 an31 : Option Addr} {sl31 : Array (Option Value)} {oc31 kV31 dc31 pm31 cd31 ct31 : Value}
    (a31 : PySem.W.nsIn K mainGlobals "_law_straight" = some (some (.ref f31))) (l31 : K.lookup f31 = some ⟨oc31, od31, .func (PySem.W.fnOf "_law_straight" "_law_straight" (defArgs s__law_straight) (defBody s__law_straight) (defScope s__law_straight) .none kV31 dc31 pm31 an31 cd31 ct31), sl31⟩) (c31 : PySem.W.codeIn K cd31 "_law_straight" = true) (k31 : PySem.W.keepIn K (.ref f31) = true)
    {f32 : Addr} {od32 an32 : Option Addr} {sl32 : Array (Option Value)} {oc32 kV32 dc32 pm32 cd32 ct32 : Value}
    (a32 : PySem.W.nsIn K mainGlobals "_law_round" = some (some (.ref f32))) (l32 : K.lookup f32 = some ⟨oc32, od32, .func (PySem.W.fnOf "_law_round" "_law_round" (defArgs s__law_round) (defBody s__law_round) (defScope s__law_round) .none kV32 dc32 pm32 an32 cd32 ct32), sl32⟩) (c32 : PySem.W.codeIn K cd32 "_law_round" = true) (k32 : PySem.W.keepIn K (.ref f32) = true)
    {f33 : Addr} {od33 an33 : Option Addr} {sl33 : Array (Option Value)} {oc33 kV33 dc33 pm33 cd33 ct33 : Value}
    (a33 : PySem.W.nsIn K mainGlobals "_law_back" = some (some (.ref f33))) (l33 : K.lookup f33 = some ⟨oc33, od33, .func (PySem.W.fnOf "_law_back" "_law_back" (defArgs s__law_back) (defBody s__law_back) (defScope s__law_back) .none kV33 dc33 pm33 an33 cd33 ct33), sl33⟩) (c33 : PySem.W.codeIn K cd33 "_law_back" = true) (k33 : PySem.W.keepIn K (.ref f33) = true)
    {f34 : Addr} {od34 an34 : Option Addr} {sl34 : Array (Option Value)} {oc34 kV34 dc34 pm34 cd34 ct34 : Value}
    (a34 : PySem.W.nsIn K mainGlobals "_law_led" = some (some (.ref f34))) (l34 : K.lookup f34 = some ⟨oc34, od34, .func (PySem.W.fnOf "_law_led" "_law_led" (defArgs s__law_led) (defBody s__law_led) (defScope s__law_led) .none kV34 dc34 pm34 an34 cd34 ct34), sl34⟩) (c34 : PySem.W.codeIn K cd34 "_law_led" = true) (k34 : PySem.W.keepIn K (.ref f34) = true)
    {f35 : Addr} {od35 an35 : Option Addr} {sl35 : Array (Option Value)} {oc35 kV35 dc35 pm35 cd35 ct35 : Value}
    (a35 : PySem.W.nsIn K mainGlobals "_law_take" = some (some (.ref f35))) (l35 : K.lookup f35 = some ⟨oc35, od35, .func (PySem.W.fnOf "_law_take" "_law_take" (defArgs s__law_take) (defBody s__law_take) (defScope s__law_take) .none kV35 dc35 pm35 an35 cd35 ct35), sl35⟩) (c35 : PySem.W.codeIn K cd35 "_law_take" = true) (k35 : PySem.W.keepIn K (.ref f35) = true)
    {f36 : Addr} {od36 an36 : Option Addr} {sl36 : Array (Option Value)} {oc36 kV36 dc36 pm36 cd36 ct36 : Value}
    (a36 : PySem.W.nsIn K mainGlobals "need_move" = some (some (.ref f36))) (l36 : K.lookup f36 = some ⟨oc36, od36, .func (PySem.W.fnOf "need_move" "need_move" (defArgs s_need_move) (defBody s_need_move) (defScope s_need_move) .none kV36 dc36 pm36 an36 cd36 ct36), sl36⟩) (c36 : PySem.W.codeIn K cd36 "need_move" = true) (k36 : PySem.W.keepIn K (.ref f36) = true)
    {f37 : Addr} {od37 an37 : Option Addr} {sl37 : Array (Option Value)} {oc37 kV37 dc37 pm37 cd37 ct37 : Value}
    (a37 : PySem.W.nsIn K mainGlobals "moved" = some (some (.ref f37))) (l37 : K.lookup f37 = some ⟨oc37, od37, .func (PySem.W.fnOf "moved" "moved" (defArgs s_moved) (defBody s_moved) (defScope s_moved) .none kV37 dc37 pm37 an37 cd37 ct37), sl37⟩) (c37 : PySem.W.codeIn K cd37 "moved" = true) (k37 : PySem.W.keepIn K (.ref f37) = true)
    {f38 : Addr} {od38 an38 : Option Addr} {sl38 : Array (Option Value)} {oc38 kV38 dc38 pm38 cd38 ct38 : Value}
    (a38 : PySem.W.nsIn K mainGlobals "_law_turned" = some (some (.ref f38))) (l38 : K.lookup f38 = some ⟨oc38, od38, .func (PySem.W.fnOf "_law_turned" "_law_turned" (defArgs s__law_turned) (defBody s__law_turned) (defScope s__law_turned) .none kV38 dc38 pm38 an38 cd38 ct38), sl38⟩) (c38 : PySem.W.codeIn K cd38 "_law_turned" = true) (k38 : PySem.W.keepIn K (.ref f38) = true)
    {f39 : Addr} {od39 an39 : Option Addr} {sl39 : Array (Option Value)} {oc39 kV39 dc39 pm39 cd39 ct39 : Value}
    (a39 : PySem.W.nsIn K mainGlobals "_law_moved" = some (some (.ref f39))) (l39 : K.lookup f39 = some ⟨oc39, od39, .func (PySem.W.fnOf "_law_moved" "_law_moved" (defArgs s__law_moved) (defBody s__law_moved) (defScope s__law_moved) .none kV39 dc39 pm39 an39 cd39 ct39), sl39⟩) (c39 : PySem.W.codeIn K cd39 "_law_moved" = true) (k39 : PySem.W.keepIn K (.ref f39) = true)
    {f40 : Addr} {od40 an40 : Option Addr} {sl40 : Array (Option Value)} {oc40 kV40 dc40 pm40 cd40 ct40 : Value}
    (a40 : PySem.W.nsIn K mainGlobals "_law_steps" = some (some (.ref f40))) (l40 : K.lookup f40 = some ⟨oc40, od40, .func (PySem.W.fnOf "_law_steps" "_law_steps" (defArgs s__law_steps) (defBody s__law_steps) (defScope s__law_steps) .none kV40 dc40 pm40 an40 cd40 ct40), sl40⟩) (c40 : PySem.W.codeIn K cd40 "_law_steps" = true) (k40 : PySem.W.keepIn K (.ref f40) = true)
    {f41 : Addr} {od41 an41 : Option Addr} {sl41 : Array (Option Value)} {oc41 kV41 dc41 pm41 cd41 ct41 : Value}
    (a41 : PySem.W.nsIn K mainGlobals "_law_move" = some (some (.ref f41))) (l41 : K.lookup f41 = some ⟨oc41, od41, .func (PySem.W.fnOf "_law_move" "_law_move" (defArgs s__law_move) (defBody s__law_move) (defScope s__law_move) .none kV41 dc41 pm41 an41 cd41 ct41), sl41⟩) (c41 : PySem.W.codeIn K cd41 "_law_move" = true) (k41 : PySem.W.keepIn K (.ref f41) = true)
    {f42 : Addr} {od42 an42 : Option Addr} {sl42 : Array (Option Value)} {oc42 kV42 dc42 pm42 cd42 ct42 : Value}
    (a42 : PySem.W.nsIn K mainGlobals "_law_walk" = some (some (.ref f42))) (l42 : K.lookup f42 = some ⟨oc42, od42, .func (PySem.W.fnOf "_law_walk" "_law_walk" (defArgs s__law_walk) (defBody s__law_walk) (defScope s__law_walk) .none kV42 dc42 pm42 an42 cd42 ct42), sl42⟩) (c42 : PySem.W.codeIn K cd42 "_law_walk" = true) (k42 : PySem.W.keepIn K (.ref f42) = true)
    {f43 : Addr} {od43 an43 : Option Addr} {sl43 : Array (Option Value)} {oc43 kV43 dc43 pm43 cd43 ct43 : Value}
    (a43 : PySem.W.nsIn K mainGlobals "_law_well" = some (some (.ref f43))) (l43 : K.lookup f43 = some ⟨oc43, od43, .func (PySem.W.fnOf "_law_well" "_law_well" (defArgs s__law_well) (defBody s__law_well) (defScope s__law_well) .none kV43 dc43 pm43 an43 cd43 ct43), sl43⟩) (c43 : PySem.W.codeIn K cd43 "_law_well" = true) (k43 : PySem.W.keepIn K (.ref f43) = true)
    {f44 : Addr} {od44 an44 : Option Addr} {sl44 : Array (Option Value)} {oc44 kV44 dc44 pm44 cd44 ct44 : Value}
    (a44 : PySem.W.nsIn K mainGlobals "law" = some (some (.ref f44))) (l44 : K.lookup f44 = some ⟨oc44, od44, .func (PySem.W.fnOf "law" "law" (defArgs s_law) (defBody s_law) (defScope s_law) .none kV44 dc44 pm44 an44 cd44 ct44), sl44⟩) (c44 : PySem.W.codeIn K cd44 "law" = true) (k44 : PySem.W.keepIn K (.ref f44) = true)
    (z0 : PySem.W.nsIn K mainGlobals "abs" = some none)
    (z1 : PySem.W.nsIn K mainGlobals "all" = some none)
    (z2 : PySem.W.nsIn K mainGlobals "bool" = some none)
    (z3 : PySem.W.nsIn K mainGlobals "enumerate" = some none)
    (z4 : PySem.W.nsIn K mainGlobals "int" = some none)
    (z5 : PySem.W.nsIn K mainGlobals "isinstance" = some none)
    (z6 : PySem.W.nsIn K mainGlobals "len" = some none)
    (z7 : PySem.W.nsIn K mainGlobals "list" = some none)
    (z8 : PySem.W.nsIn K mainGlobals "max" = some none)
    (z9 : PySem.W.nsIn K mainGlobals "min" = some none)
    (z10 : PySem.W.nsIn K mainGlobals "range" = some none)
    (z11 : PySem.W.nsIn K mainGlobals "sorted" = some none)
    (z12 : PySem.W.nsIn K mainGlobals "str" = some none)
    (z13 : PySem.W.nsIn K mainGlobals "sum" = some none)
    (z14 : PySem.W.nsIn K mainGlobals "tuple" = some none)
    (z15 : PySem.W.nsIn K mainGlobals "zip" = some none)
    {t0 : Tok} (q0 : PySem.W.nsIn K mainGlobals "LOT" = some (some (.str "lot" t0)))
    {t1 : Tok} (q1 : PySem.W.nsIn K mainGlobals "MOST_LETTERS" = some (some (.int 4 t1)))
    {t2 : Tok} (q2 : PySem.W.nsIn K mainGlobals "MOST_ROUNDS" = some (some (.int 4 t2)))
    {t3 : Tok} (q3 : PySem.W.nsIn K mainGlobals "NAMES" = some (some (.str "names" t3)))
    : ∃ fd : FuncData, (∀ (s : Shared) (v : Value), BindsTo s fd ⟨[v], []⟩ [("script", v)]) ∧ ∀ base : Heap, K.In base → base.Ns mainGlobals mg → FnOk l.prog w K mg base CX0 10 fa fd ["script"] (spD K 1 m_law) := by
  have e := hfa.symm.trans (PySem.W.mg_of X G a44)
  cases e
  refine ⟨PySem.W.fnOf "law" "law" (defArgs s_law) (defBody s_law) (defScope s_law) .none kV44 dc44 pm44 an44 cd44 ct44, fun s v => .of_eq rfl, fun base _ _ => ?_⟩
  have T : Tx ⟨l.prog, w, K, mg, base⟩ := {
    b_abs := PySem.W.mg_none_of X G z0
    b_all := PySem.W.mg_none_of X G z1
    b_bool := PySem.W.mg_none_of X G z2
    b_enumerate := PySem.W.mg_none_of X G z3
    b_int := PySem.W.mg_none_of X G z4
    b_isinstance := PySem.W.mg_none_of X G z5
    b_len := PySem.W.mg_none_of X G z6
    b_list := PySem.W.mg_none_of X G z7
    b_max := PySem.W.mg_none_of X G z8
    b_min := PySem.W.mg_none_of X G z9
    b_range := PySem.W.mg_none_of X G z10
    b_sorted := PySem.W.mg_none_of X G z11
    b_str := PySem.W.mg_none_of X G z12
    b_sum := PySem.W.mg_none_of X G z13
    b_tuple := PySem.W.mg_none_of X G z14
    b_zip := PySem.W.mg_none_of X G z15
    k_LOT := ⟨_, PySem.W.mg_of X G q0⟩
    k_MOST_LETTERS := ⟨_, PySem.W.mg_of X G q1⟩
    k_MOST_ROUNDS := ⟨_, PySem.W.mg_of X G q2⟩
    k_NAMES := ⟨_, PySem.W.mg_of X G q3⟩
    f__law_same := ⟨_, _, PySem.W.mg_of X G a0, fun_mk (st := s__law_same) l0 c0 k0⟩
    f_step_order := ⟨_, _, PySem.W.mg_of X G a1, fun_mk (st := s_step_order) l1 c1 k1⟩
    f_walk_key := ⟨_, _, PySem.W.mg_of X G a2, fun_mk (st := s_walk_key) l2 c2 k2⟩
    f_least_turn := ⟨_, _, PySem.W.mg_of X G a3, fun_mk (st := s_least_turn) l3 c3 k3⟩
    f_parted := ⟨_, _, PySem.W.mg_of X G a4, fun_mk (st := s_parted) l4 c4 k4⟩
    f_straightened := ⟨_, _, PySem.W.mg_of X G a5, fun_mk (st := s_straightened) l5 c5 k5⟩
    f_round_from := ⟨_, _, PySem.W.mg_of X G a6, fun_mk (st := s_round_from) l6 c6 k6⟩
    f_turned_back := ⟨_, _, PySem.W.mg_of X G a7, fun_mk (st := s_turned_back) l7 c7 k7⟩
    f_put_for := ⟨_, _, PySem.W.mg_of X G a8, fun_mk (st := s_put_for) l8 c8 k8⟩
    f_led_walk := ⟨_, _, PySem.W.mg_of X G a9, fun_mk (st := s_led_walk) l9 c9 k9⟩
    f_turned_rounds := ⟨_, _, PySem.W.mg_of X G a10, fun_mk (st := s_turned_rounds) l10 c10 k10⟩
    f_led_letter := ⟨_, _, PySem.W.mg_of X G a11, fun_mk (st := s_led_letter) l11 c11 k11⟩
    f_turning_of := ⟨_, _, PySem.W.mg_of X G a12, fun_mk (st := s_turning_of) l12 c12 k12⟩
    f_moved_rounds := ⟨_, _, PySem.W.mg_of X G a13, fun_mk (st := s_moved_rounds) l13 c13 k13⟩
    f_is_integer := ⟨_, _, PySem.W.mg_of X G a14, fun_mk (st := s_is_integer) l14 c14 k14⟩
    f_is_step := ⟨_, _, PySem.W.mg_of X G a15, fun_mk (st := s_is_step) l15 c15 k15⟩
    f_is_a_walk := ⟨_, _, PySem.W.mg_of X G a16, fun_mk (st := s_is_a_walk) l16 c16 k16⟩
    f_is_a_round := ⟨_, _, PySem.W.mg_of X G a17, fun_mk (st := s_is_a_round) l17 c17 k17⟩
    f_are_rounds := ⟨_, _, PySem.W.mg_of X G a18, fun_mk (st := s_are_rounds) l18 c18 k18⟩
    f_need_rounds := ⟨_, _, PySem.W.mg_of X G a19, fun_mk (st := s_need_rounds) l19 c19 k19⟩
    f_is_lot := ⟨_, _, PySem.W.mg_of X G a20, fun_mk (st := s_is_lot) l20 c20 k20⟩
    f_is_a_move := ⟨_, _, PySem.W.mg_of X G a21, fun_mk (st := s_is_a_move) l21 c21 k21⟩
    f_need_moves := ⟨_, _, PySem.W.mg_of X G a22, fun_mk (st := s_need_moves) l22 c22 k22⟩
    f_is_letters := ⟨_, _, PySem.W.mg_of X G a23, fun_mk (st := s_is_letters) l23 c23 k23⟩
    f_need_letters := ⟨_, _, PySem.W.mg_of X G a24, fun_mk (st := s_need_letters) l24 c24 k24⟩
    f_moved_by := ⟨_, _, PySem.W.mg_of X G a25, fun_mk (st := s_moved_by) l25 c25 k25⟩
    f_length := ⟨_, _, PySem.W.mg_of X G a26, fun_mk (st := s_length) l26 c26 k26⟩
    f_length_of := ⟨_, _, PySem.W.mg_of X G a27, fun_mk (st := s_length_of) l27 c27 k27⟩
    f__law_order := ⟨_, _, PySem.W.mg_of X G a28, fun_mk (st := s__law_order) l28 c28 k28⟩
    f__law_move_back := ⟨_, _, PySem.W.mg_of X G a29, fun_mk (st := s__law_move_back) l29 c29 k29⟩
    f__law_key := ⟨_, _, PySem.W.mg_of X G a30, fun_mk (st := s__law_key) l30 c30 k30⟩
    f__law_straight := ⟨_, _, PySem.W.mg_of X G a31, fun_mk (st := s__law_straight) l31 c31 k31⟩
    f__law_round := ⟨_, _, PySem.W.mg_of X G a32, fun_mk (st := s__law_round) l32 c32 k32⟩
    f__law_back := ⟨_, _, PySem.W.mg_of X G a33, fun_mk (st := s__law_back) l33 c33 k33⟩
    f__law_led := ⟨_, _, PySem.W.mg_of X G a34, fun_mk (st := s__law_led) l34 c34 k34⟩
    f__law_take := ⟨_, _, PySem.W.mg_of X G a35, fun_mk (st := s__law_take) l35 c35 k35⟩
    f_need_move := ⟨_, _, PySem.W.mg_of X G a36, fun_mk (st := s_need_move) l36 c36 k36⟩
    f_moved := ⟨_, _, PySem.W.mg_of X G a37, fun_mk (st := s_moved) l37 c37 k37⟩
    f__law_turned := ⟨_, _, PySem.W.mg_of X G a38, fun_mk (st := s__law_turned) l38 c38 k38⟩
    f__law_moved := ⟨_, _, PySem.W.mg_of X G a39, fun_mk (st := s__law_moved) l39 c39 k39⟩
    f__law_steps := ⟨_, _, PySem.W.mg_of X G a40, fun_mk (st := s__law_steps) l40 c40 k40⟩
    f__law_move := ⟨_, _, PySem.W.mg_of X G a41, fun_mk (st := s__law_move) l41 c41 k41⟩
    f__law_walk := ⟨_, _, PySem.W.mg_of X G a42, fun_mk (st := s__law_walk) l42 c42 k42⟩
    f__law_well := ⟨_, _, PySem.W.mg_of X G a43, fun_mk (st := s__law_well) l43 c43 k43⟩
    f_law := ⟨_, _, PySem.W.mg_of X G a44, fun_mk (st := s_law) l44 c44 k44⟩
  }
  exact ok_law T (fun_mk (st := s_law) l44 c44 k44)
end K53

namespace K53
open PySem Cs
theorem run_straightened (w : List Int) (s : Sto) (hw : w.length ≤ 100000) : Ev (m_straightened [tw w] s) s (tw (red w)) := by
  refine Exists.elim (forIts_inv (b := bodyF (gVar 2) b_straightened_1)
    (fun k env s' => (∃ z, env = [some (tw w), some (.ref s.n), z]) ∧ s'.get s.n = some (.lst ((((w.take k).foldl push []).reverse).map .int)) ∧ Le s s')
    (w.map .int) 0 [some (tw w), some (.ref s.n), none] (s.add (.lst []))
    ⟨⟨none, rfl⟩, by rw [get_add_same]; rfl, .add _ _⟩ ?step) ?rest
  case rest =>
    rintro env ⟨s', e, ⟨z, rfl⟩, hg, hl⟩
    refine ⟨s', ?_, hl⟩
    have e2 : (w.map D.int).length = w.length := by simp
    rw [e2, Nat.zero_add, List.take_length] at hg
    simp [m_straightened, b_straightened, fnB_eq, newL_ok', e, tuple_r _ hg, red, redS]
  case step =>
    rintro i x env s1 hx ⟨⟨z, rfl⟩, hg, hl⟩
    obtain ⟨n, hn, rfl⟩ := map_at hx
    rw [Nat.zero_add] at hg ⊢
    have hlen := foldl_push_len (w.take i) []
    rw [take_fold push [] hn]
    generalize (w.take i).foldl push [] = st at hg hlen ⊢
    have hst : st.length < sizeLine := by
      rw [size_eq]
      simp only [List.length_nil, List.length_take] at hlen
      omega
    cases st with
    | nil =>
      exact ⟨[some (tw w), some (.ref s.n), some (.int n)], _, .inl (by simp [b_straightened_1, len_r _ hg, isL_r _ hg, append_r _ hg, size_eq]; rfl), ⟨_, rfl⟩, by rw [get_set_same]; rfl, hl.set (Nat.le_refl _) _⟩
    | cons y r =>
      rw [List.reverse_cons, List.map_append] at hg
      rw [push_cons]
      by_cases hy : y = -n
      · rw [if_pos hy]
        exact ⟨[some (tw w), some (.ref s.n), some (.int n)], _, .inl (by simp [b_straightened_1, len_r _ hg, isL_r _ hg, ix_r _ hg, atI_last', hy, pop_r _ (show s1.get s.n = some (.lst (r.reverse.map D.int ++ [.int y])) from hg)]; rfl), ⟨_, rfl⟩, by rw [get_set_same, List.map_reverse], hl.set (Nat.le_refl _) _⟩
      · rw [if_neg hy]
        exact ⟨[some (tw w), some (.ref s.n), some (.int n)], _, .inl (by
          simp only [List.length_cons] at hst
          simp [b_straightened_1, len_r _ hg, isL_r _ hg, ix_r _ hg, atI_last', hy, append_r _ hg, hst]; rfl), ⟨_, rfl⟩, by rw [get_set_same]; simp, hl.set (Nat.le_refl _) _⟩
theorem run_law_back (w : List Int) (s : Sto) (hw : w.length ≤ 100000) : Ev (m__law_back [tw w] s) s (tw (bk w)) := by
  obtain ⟨s1, e, l⟩ := goIts_map (f := turnC (gVar 1) none e__law_back_1 [some (tw w), none]) (fun d => match d with | .int i => .int (-i) | d => d) (w.map .int).reverse s fun x hx s' hl => by
    obtain ⟨i, hi, rfl⟩ := List.mem_map.mp (List.mem_reverse.mp hx)
    exact ⟨s', by simp [e__law_back_1], .refl _⟩
  have e2 : ((w.map D.int).reverse.map fun d => match d with | .int i => .int (-i) | d => d) = (bk w).map D.int := by
    unfold bk
    rw [← List.map_reverse, List.map_map, ← List.map_reverse, List.map_map]
    rfl
  rw [e2] at e
  have hz : ((bk w).map D.int).length ≤ sizeLine := by rw [List.length_map, bk_len, size_eq]; omega
  exact ⟨s1.add (.lst ((bk w).map D.int)), by simp [m__law_back, b__law_back, fnB_eq, goWk_its, e, newL_ok' _ hz, tuple_r _ (get_add_same s1 _)], l.trans (.add _ _)⟩
theorem run_is_integer (i : Int) (s : Sto) : m_is_integer [.int i] s = .ok (.bl true) s := by
  simp [m_is_integer, b_is_integer, fnB_eq, isiD, mapO, isTy]
theorem run_is_step (i l : Int) (s : Sto) : m_is_step [.int i, .int l] s = .ok (.bl (decide (1 ≤ i.natAbs ∧ (i.natAbs : Int) ≤ l))) s := by
  have e : (if i < 0 then -i else i) = (i.natAbs : Int) := by split <;> omega
  simp [m_is_step, b_is_step, fnB_eq, run_is_integer, e]
  by_cases h : 1 ≤ (i.natAbs : Int)
  · simp [h]; omega
  · simp [h]; omega
def ck (w : List Int) : Nat → Nat → Nat
  | 0, k => k
  | f + 1, k => if 2 * k + 1 < w.length ∧ w.getD k 0 = -(w.getD (w.length - 1 - k) 0) then ck w f (k + 1) else k
def coreN (w : List Int) : Nat := ck w w.length 0
theorem ck_spec (w : List Int) : ∀ f k : Nat, w.length ≤ f + k → k ≤ ck w f k ∧ (∀ i, k ≤ i → i < ck w f k → 2 * i + 1 < w.length ∧ w.getD i 0 = -(w.getD (w.length - 1 - i) 0)) ∧
    ¬ (2 * ck w f k + 1 < w.length ∧ w.getD (ck w f k) 0 = -(w.getD (w.length - 1 - ck w f k) 0)) := by
  intro f
  induction f with
  | zero =>
    intro k h
    refine ⟨Nat.le_refl _, fun i h1 h2 => absurd h2 (by unfold ck; omega), fun q => ?_⟩
    unfold ck at q
    omega
  | succ f ih =>
    intro k h
    unfold ck
    by_cases c : 2 * k + 1 < w.length ∧ w.getD k 0 = -(w.getD (w.length - 1 - k) 0)
    · rw [if_pos c]
      obtain ⟨h1, h2, h3⟩ := ih (k + 1) (by omega)
      refine ⟨by omega, fun i a b => ?_, h3⟩
      by_cases e : i = k
      · subst e; exact c
      · exact h2 i (by omega) b
    · rw [if_neg c]
      exact ⟨Nat.le_refl _, fun i a b => absurd b (by omega), c⟩
theorem coreN_le (w : List Int) : 2 * coreN w ≤ w.length := by
  obtain ⟨_, h2, _⟩ := ck_spec w w.length 0 (by omega)
  by_cases e : ck w w.length 0 = 0
  · unfold coreN; omega
  · have := (h2 (ck w w.length 0 - 1) (by omega) (by omega)).1
    unfold coreN; omega
theorem getD_at {w : List Int} {i : Nat} (h : i < w.length) : w[i]? = some (w.getD i 0) := by
  rw [List.getD_eq_getElem?_getD, List.getElem?_eq_getElem h]; rfl
def coreD (w : List Int) (k : Nat) : D := .tup [tw (w.take k), tw ((w.drop k).take (w.length - k - k))]
theorem run_parted (w : List Int) (s : Sto) (hw : w.length ≤ 100000) : m_parted [tw w] s = .ok (coreD w (coreN w)) s := by
  refine Exists.elim (whl_inv (c := c_parted_1) (b := b_parted_1)
    (fun env s' => s' = s ∧ ∃ k f : Nat, 2 * k ≤ w.length ∧ w.length ≤ f + k ∧ coreN w = ck w f k ∧ env = [some (tw w), some (.int k), some (.int ((w.length : Int) - k))])
    (fun env s' => s' = s ∧ env = [some (tw w), some (.int (coreN w)), some (.int ((w.length : Int) - coreN w))])
    (fun env => match env with | [_, some (.int k), _] => w.length - k.toNat | _ => 0) 1000000
    [some (tw w), some (.int 0), some (.int w.length)] s ⟨rfl, 0, w.length, by omega, by omega, rfl, by simp⟩ (by show w.length - (0 : Int).toNat < 1000000; omega) ?step) ?rest
  case rest =>
    rintro env ⟨s', e, rfl, rfl⟩
    have hc := coreN_le w
    simp [m_parted, b_parted, fnB_eq, sWhl, e, cut_map, cut_to (w := w) (k := coreN w) rfl, cut_mid (w := w) (k := coreN w) (m := w.length - coreN w) rfl (show ((w.length : Int) - coreN w) = ((w.length - coreN w : Nat) : Int) by omega), coreD, size_eq]
  case step =>
    rintro env s1 ⟨rfl, k, f, h1, hf, h2, rfl⟩
    by_cases c1 : 2 * k + 1 < w.length
    · have a1 : L2.atI (w.map D.int) (k : Int) = some (.int (w.getD k 0)) := atI_at rfl (getD_at (by omega))
      have a2 : L2.atI (w.map D.int) ((w.length : Int) - k - 1) = some (.int (w.getD (w.length - 1 - k) 0)) := atI_at (by omega) (getD_at (by omega))
      have c1' : (1 : Int) < (w.length : Int) - k - k := by omega
      by_cases c2 : w.getD k 0 = -(w.getD (w.length - 1 - k) 0)
      · refine .inr ⟨s1, [some (tw w), some (.int ((k + 1 : Nat) : Int)), some (.int ((w.length : Int) - ((k + 1 : Nat) : Int)))], s1, ?_, .inl ?_, ⟨rfl, k + 1, f - 1, by omega, by omega, ?_, rfl⟩, ?_⟩
        · simp [c_parted_1, a1, a2, c1']; simpa using c2
        · simp [b_parted_1]; omega
        · rw [h2]
          cases f with
          | zero => omega
          | succ f => rw [show f + 1 - 1 = f by omega]; conv => lhs; unfold ck
                      rw [if_pos ⟨c1, c2⟩]
        · show w.length - (((k + 1 : Nat) : Int)).toNat < w.length - ((k : Int)).toNat
          omega
      · refine .inl ⟨s1, ?_, rfl, ?_⟩
        · simp [c_parted_1, a1, a2, c1']; simpa using c2
        · have e : coreN w = k := by
            rw [h2]
            cases f with
            | zero => rfl
            | succ f => unfold ck; rw [if_neg (fun q => c2 q.2)]
          rw [e]
    · refine .inl ⟨s1, ?_, rfl, ?_⟩
      · have c1' : ¬ (1 : Int) < (w.length : Int) - k - k := by omega
        simp [c_parted_1, c1']
      · have e : coreN w = k := by
          rw [h2]
          cases f with
          | zero => rfl
          | succ f => unfold ck; rw [if_neg (fun q => c1 q.1)]
        rw [e]
def WkL (L : Int) (w : List Int) : Prop := ∀ x ∈ w, x ≠ 0 ∧ (x.natAbs : Int) ≤ L
theorem run_is_a_walk {L : Int} (w : List Int) (s : Sto) (hw : w.length ≤ 100000) (h : WkL L w) : Ev (m_is_a_walk [tw w, .int L] s) s (.bl true) := by
  obtain ⟨s1, e, l⟩ := goIts_map (f := turnC (gVar 2) none e_is_a_walk_1 [some (tw w), some (.int L), none]) (fun d => .bl true) (w.map .int) s fun x hx s' hl => by
    obtain ⟨i, hi, rfl⟩ := List.mem_map.mp hx
    have := h i hi
    refine ⟨s', ?_, .refl _⟩
    simp [e_is_a_walk_1, run_is_step]
    omega
  have e2 : ((w.map D.int).map fun _ => D.bl true) = (w.map fun _ => true).map D.bl := by simp
  rw [e2] at e
  have hz : ((w.map fun _ => true).map D.bl).length ≤ sizeLine := by simp [size_eq]; omega
  refine ⟨s1.add (.lst ((w.map fun _ => true).map D.bl)), ?_, l.trans (.add _ _)⟩
  simp only [m_is_a_walk, b_is_a_walk, fnB_eq]
  simp [-List.map_map, isiD, mapO, isTy, goWk_its, e, newL_ok' _ hz, all_r _ (get_add_same s1 _)]
structure Well (s : Sto) (j : Nat) (c : Nat) : Prop where
  lt : j < s.n
  ex : ∃ (a b : Int) (k : Nat), s.get j = some (.lst [.int a, .int b, .int k]) ∧ b.natAbs < 2 ^ 110 ∧ k ≤ c
structure LeW (j : Nat) (s s' : Sto) : Prop where
  n : s.n ≤ s'.n
  get : ∀ i, i < s.n → i ≠ j → s'.get i = s.get i
theorem LeW.refl (j : Nat) (s : Sto) : LeW j s s := ⟨Nat.le_refl _, fun _ _ _ => rfl⟩
theorem LeW.trans {j : Nat} {s s1 s2 : Sto} (a : LeW j s s1) (b : LeW j s1 s2) : LeW j s s2 := ⟨Nat.le_trans a.n b.n, fun i h q => (b.get i (Nat.lt_of_lt_of_le h a.n) q).trans (a.get i h q)⟩
theorem LeW.of {j : Nat} {s s' : Sto} (a : Le s s') : LeW j s s' := ⟨a.n, fun i h _ => a.get i h⟩
theorem LeW.set {j : Nat} (s : Sto) (o : O) : LeW j s (s.set j o) := ⟨Nat.le_refl _, fun i _ q => get_set_ne q⟩
theorem Well.le {s s' : Sto} {j c : Nat} (h : Well s j c) (l : Le s s') : Well s' j c := ⟨Nat.lt_of_lt_of_le h.lt l.n, let ⟨a, b, k, e, q⟩ := h.ex; ⟨a, b, k, by rw [l.get j h.lt]; exact e, q⟩⟩
theorem Well.up {s : Sto} {j c c' : Nat} (h : Well s j c) (l : c ≤ c') : Well s j c' := ⟨h.lt, let ⟨a, b, k, e, q, r⟩ := h.ex; ⟨a, b, k, e, q, by omega⟩⟩
theorem mod_pos {a m : Int} (h : 0 < m) : 0 ≤ a % m ∧ a % m < m := ⟨Int.emod_nonneg _ (by omega), Int.emod_lt_of_pos _ h⟩
def St : Nat → List Int
  | 0 => []
  | n + 1 => St n ++ [((n + 1 : Nat) : Int), -((n + 1 : Nat) : Int)]
def LL (L : Nat) : Prop := L = 1 ∨ L = 2 ∨ L = 3 ∨ L = 4
theorem LL.pos {L : Nat} (h : LL L) : 1 ≤ L ∧ L ≤ 4 := by unfold LL at h; omega
def NewL (r : R D) (s : Sto) (xs : List Int) : Prop := ∃ j s', r = .ok (.ref j) s' ∧ s'.get j = some (.lst (xs.map .int)) ∧ Le s s' ∧ s.n ≤ j ∧ j < s'.n
theorem St_succ (n : Nat) : St (n + 1) = St n ++ [((n + 1 : Nat) : Int), -((n + 1 : Nat) : Int)] := rfl
theorem St_len (n : Nat) : (St n).length = 2 * n := by
  induction n with
  | zero => rfl
  | succ n ih => rw [St_succ, List.length_append, ih]; rfl
theorem run_law_steps (L : Nat) (s : Sto) (hL : LL L) : NewL (m__law_steps [.int L] s) s (St L) := by
  have hp := hL.pos
  refine Exists.elim (forIts_inv (b := bodyF (gVar 2) b__law_steps_1)
    (fun k env s' => ∃ j z, env = [some (.int L), some (.ref j), z] ∧ s'.get j = some (.lst ((St k).map .int)) ∧ Le s s' ∧ s.n ≤ j ∧ j < s'.n)
    (rgD 1 L) 0 [some (.int L), some (.ref s.n), none] (s.add (.lst []))
    ⟨s.n, none, rfl, get_add_same _ _, .add _ _, Nat.le_refl _, Nat.lt_succ_self _⟩ ?step) ?rest
  case rest =>
    rintro env ⟨s', e, j, z, rfl, hg, hl, hn, hn2⟩
    have el : (rgD 1 L).length = L := by simp [rgD]
    rw [el, Nat.zero_add] at hg
    have b1 : bigI 1 = true := bigI_of (by decide)
    have b2 : bigI ((L : Int) + 1) = true := bigI_of (by omega)
    have e3 : ((L : Int) + 1 - 1).toNat = L := by omega
    refine ⟨j, s', ?_, hg, hl, hn, hn2⟩
    simp [m__law_steps, b__law_steps, fnB_eq, newL_ok', b1, b2, e3, e]
  case step =>
    rintro k x env s1 hx ⟨j, z, rfl, hg, hl, hn, hn2⟩
    obtain ⟨hk, rfl⟩ := rgD_at hx
    rw [Nat.zero_add] at *
    have e1 : (1 + (k : Int)) = ((k + 1 : Nat) : Int) := by omega
    rw [e1]
    have n1 := newL_ok' s1 (xs := [D.int ((k + 1 : Nat) : Int), D.int (-((k + 1 : Nat) : Int))]) (by rw [size_eq]; simp)
    have g1 : (s1.add (.lst [D.int ((k + 1 : Nat) : Int), D.int (-((k + 1 : Nat) : Int))])).get s1.n = some (.lst [D.int ((k + 1 : Nat) : Int), D.int (-((k + 1 : Nat) : Int))]) := get_add_same _ _
    have g0 : (s1.add (.lst [D.int ((k + 1 : Nat) : Int), D.int (-((k + 1 : Nat) : Int))])).get j = some (.lst ((St k).map .int)) := by rw [get_add_ne (by omega)]; exact hg
    have ex := add_rr _ g0 g1 (by rw [List.length_map, St_len, size_eq]; simp only [List.length_cons, List.length_nil]; omega)
    have l2 : Le s1 (s1.add (.lst [D.int ((k + 1 : Nat) : Int), D.int (-((k + 1 : Nat) : Int))])) := .add _ _
    generalize s1.add (.lst [D.int ((k + 1 : Nat) : Int), D.int (-((k + 1 : Nat) : Int))]) = s2 at *
    refine ⟨[some (.int L), some (.ref s2.n), some (.int ((k + 1 : Nat) : Int))], _, .inl (by
      simp only [bodyF_eq, b__law_steps_1, g_Var, st_ok', s_Cons, s_Asg, v_Bin, v_Var, List.getElem?_cons_zero, List.getElem?_cons_succ, List.set_cons_zero, List.set_cons_succ, getV_some, bind_ok', a_Cons, a_Nil, v_Lst, v_Un, neg_i, n1, ex, then_nx, s_Nil]
      rfl), ⟨s2.n, _, rfl, ?_, (hl.trans l2).trans (.add _ _), ?_, Nat.lt_succ_self _⟩⟩
    · rw [get_add_same, St_succ, List.map_append]; rfl
    · exact Nat.le_trans hl.n l2.n
theorem run_need_letters (L : Nat) (s : Sto) (hL : LL L) : m_need_letters [.int L] s = .ok .non s := by
  have hp := hL.pos
  have h1 : (1 : Int) ≤ (L : Int) := by omega
  have h2 : (L : Int) ≤ 4 := by omega
  have h3 : 1 ≤ L := hp.1
  have h4 : L ≤ 4 := hp.2
  have e : m_is_letters [.int L] s = .ok (.bl true) s := by
    simp only [m_is_letters, b_is_letters, fnB_eq, List.length_cons, List.length_nil, List.map_cons, List.map_nil, List.cons_append, List.nil_append, Nat.reduceAdd, Nat.reduceSub, List.replicate, if_true, s_Cons, s_Ret, v_And, v_Call, a_Cons, a_Nil, v_Var, List.getElem?_cons_zero, List.getElem?_cons_succ, getV_some, bind_ok', run_is_integer, truth_bl, v_Chain, v_C, ltI_ii, h1, h2, decide_true, chain2_t, st_ok', then_rt, fnR_rt]
  simp [m_need_letters, b_need_letters, fnB_eq, e]
def ord (s : Int) : Int := if 0 < s then 2 * s - 2 else -2 * s - 1
def ords (w : List Int) : List Int := w.map ord
def rot (c : List Int) (i : Nat) : List Int := c.drop i ++ c.take i
def better (c b : List Int) (i : Nat) : List Int := if lexD (ords (rot c i)) (ords b) = true then rot c i else b
def lr (c : List Int) : List Int := (List.range c.length).foldl (better c) c
theorem rot_zero (c : List Int) : rot c 0 = c := by simp [rot]
theorem rot_len (c : List Int) (i : Nat) : (rot c i).length = c.length := by
  unfold rot
  rw [List.length_append, List.length_drop, List.length_take]; omega
theorem lexD_irr : ∀ a : List Int, lexD a a = false
  | [] => rfl
  | x :: xs => by
    show (if x = x then lexD xs xs else decide (x < x)) = false
    rw [if_pos rfl, lexD_irr xs]
theorem lexD_trans : ∀ {a b c : List Int}, lexD a b = true → lexD b c = true → lexD a c = true
  | [], [], c, h, _ => by cases h
  | [], _ :: _, [], _, h => by cases h
  | [], _ :: _, _ :: _, _, _ => rfl
  | _ :: _, [], c, h, _ => by cases h
  | _ :: _, _ :: _, [], _, h => by cases h
  | x :: xs, y :: ys, z :: zs, h1, h2 => by
    have h1 : (if x = y then lexD xs ys else decide (x < y)) = true := h1
    have h2 : (if y = z then lexD ys zs else decide (y < z)) = true := h2
    show (if x = z then lexD xs zs else decide (x < z)) = true
    by_cases e1 : x = y
    · subst e1
      rw [if_pos rfl] at h1
      by_cases e2 : x = z
      · subst e2
        rw [if_pos rfl] at h2 ⊢
        exact lexD_trans h1 h2
      · rw [if_neg e2] at h2 ⊢; exact h2
    · rw [if_neg e1] at h1
      have h1 := of_decide_eq_true h1
      by_cases e2 : y = z
      · subst e2
        rw [if_neg e1]; exact decide_eq_true h1
      · rw [if_neg e2] at h2
        have h2 := of_decide_eq_true h2
        rw [if_neg (by omega)]; exact decide_eq_true (by omega)
theorem fold_least (c : List Int) : ∀ (n : Nat) (b : List Int), ((List.range n).foldl (better c) b = b ∨ ∃ i, i < n ∧ (List.range n).foldl (better c) b = rot c i) ∧
    (∀ i, i < n → lexD (ords (rot c i)) (ords ((List.range n).foldl (better c) b)) = false) ∧ (∀ x, lexD x (ords b) = false → lexD x (ords ((List.range n).foldl (better c) b)) = false) := by
  intro n
  induction n with
  | zero => intro b; exact ⟨.inl rfl, fun i h => absurd h (Nat.not_lt_zero _), fun x h => h⟩
  | succ n ih =>
    intro b
    obtain ⟨h1, h2, h3⟩ := ih b
    rw [List.range_succ, List.foldl_append]
    show (better c _ n = b ∨ ∃ i, i < n + 1 ∧ better c _ n = rot c i) ∧ _
    generalize (List.range n).foldl (better c) b = m at h1 h2 h3
    show (better c m n = b ∨ ∃ i, i < n + 1 ∧ better c m n = rot c i) ∧ (∀ i, i < n + 1 → lexD (ords (rot c i)) (ords (better c m n)) = false) ∧ (∀ x, lexD x (ords b) = false → lexD x (ords (better c m n)) = false)
    unfold better
    by_cases q : lexD (ords (rot c n)) (ords m) = true
    · rw [if_pos q]
      have low : ∀ x, lexD x (ords m) = false → lexD x (ords (rot c n)) = false := by
        intro x hx
        cases e : lexD x (ords (rot c n)) with
        | false => rfl
        | true => rw [lexD_trans e q] at hx; cases hx
      refine ⟨.inr ⟨n, Nat.lt_succ_self _, rfl⟩, fun i hi => ?_, fun x hx => low x (h3 x hx)⟩
      by_cases e : i = n
      · subst e; exact lexD_irr _
      · exact low _ (h2 i (by omega))
    · rw [if_neg q]
      refine ⟨?_, fun i hi => ?_, h3⟩
      · rcases h1 with h1 | ⟨i, hi, h1⟩
        · exact .inl h1
        · exact .inr ⟨i, by omega, h1⟩
      · by_cases e : i = n
        · subst e; simpa using q
        · exact h2 i (by omega)
theorem lr_rot (c : List Int) : ∃ i, i ≤ c.length ∧ lr c = rot c i := by
  rcases (fold_least c c.length c).1 with h | ⟨i, hi, h⟩
  · exact ⟨0, Nat.zero_le _, by rw [rot_zero]; exact h⟩
  · exact ⟨i, by omega, h⟩
theorem rot_rot (c : List Int) {i j : Nat} (hi : i ≤ c.length) (hj : j ≤ c.length) : ∃ k, k < c.length + 1 ∧ rot (rot c i) j = rot c k := by
  unfold rot
  by_cases q : i + j ≤ c.length
  · refine ⟨i + j, by omega, ?_⟩
    have a1 : j ≤ (c.drop i).length := by rw [List.length_drop]; omega
    rw [List.drop_append_of_le_length a1, List.take_append_of_le_length a1, List.drop_drop, List.append_assoc, show List.take i c ++ List.take j (List.drop i c) = List.take (i + j) c by rw [List.take_add]]
  · refine ⟨i + j - c.length, by omega, ?_⟩
    have key : ∀ A B : List Int, B.length ≤ j → j - B.length ≤ A.length → List.drop j (B ++ A) ++ List.take j (B ++ A) = List.drop (j - B.length) (A ++ B) ++ List.take (j - B.length) (A ++ B) := by
      intro A B h1 h2
      rw [List.drop_append, List.take_append, List.drop_eq_nil_of_le h1, List.nil_append, List.take_of_length_le h1, List.drop_append_of_le_length h2, List.take_append_of_le_length h2, List.append_assoc]
    have := key (c.take i) (c.drop i) (by rw [List.length_drop]; omega) (by rw [List.length_drop, List.length_take]; omega)
    rw [List.take_append_drop, List.length_drop, show j - (c.length - i) = i + j - c.length by omega] at this
    exact this
theorem lr_lr (c : List Int) : lr (lr c) = lr c := by
  obtain ⟨i, hi, e⟩ := lr_rot c
  obtain ⟨_, hmin, hkeep⟩ := fold_least c c.length c
  have hl : (lr c).length = c.length := by rw [e, rot_len]
  have all : ∀ k, k ≤ c.length → lexD (ords (rot c k)) (ords (lr c)) = false := by
    intro k hk
    by_cases q : k < c.length
    · exact hmin k q
    · have : rot c k = c := by
        unfold rot
        rw [show k = c.length by omega, List.drop_length, List.take_length, List.nil_append]
      rw [this]
      exact hkeep _ (lexD_irr _)
  have step : ∀ n, n ≤ c.length → (List.range n).foldl (better (lr c)) (lr c) = lr c := by
    intro n
    induction n with
    | zero => intro _; rfl
    | succ n ih =>
      intro hn
      rw [List.range_succ, List.foldl_append, ih (by omega)]
      show better (lr c) (lr c) n = lr c
      obtain ⟨k, hk, ek⟩ := rot_rot c hi (show n ≤ c.length by omega)
      unfold better
      conv => lhs; arg 1; rw [show rot (lr c) n = rot c k by rw [e, ek]]
      rw [if_neg (by rw [all k (by omega)]; decide)]
  unfold lr at *
  rw [hl]
  exact step c.length (Nat.le_refl _)
theorem run_step_order (i : Int) (s : Sto) : m_step_order [.int i] s = .ok (.int (ord i)) s := by
  have m1 : ∀ y : Int, mulOk 2 y = true := fun y => mulOk_l (by decide)
  have m2 : ∀ y : Int, mulOk (-2) y = true := fun y => mulOk_l (by decide)
  unfold ord
  by_cases h : 0 < i
  · simp [m_step_order, b_step_order, fnB_eq, h, m1]
  · simp [m_step_order, b_step_order, fnB_eq, h, m2]
theorem run_walk_key (w : List Int) (s : Sto) (hw : w.length ≤ 100000) : Ev (m_walk_key [tw w] s) s (keyD ord w) := by
  obtain ⟨s1, e, l⟩ := goIts_map (f := turnC (gVar 1) none e_walk_key_1 [some (tw w), none]) (fun d => match d with | .int i => .int (ord i) | d => d) (w.map .int) s fun x hx s' hl => by
    obtain ⟨i, hi, rfl⟩ := List.mem_map.mp hx
    exact ⟨s', by simp [e_walk_key_1, run_step_order], .refl _⟩
  have e2 : ((w.map D.int).map fun d => match d with | .int i => .int (ord i) | d => d) = (w.map ord).map D.int := by
    rw [List.map_map, List.map_map]; rfl
  rw [e2] at e
  have n1 := newL_ok' s1 (xs := (w.map ord).map D.int) (by rw [List.length_map, List.length_map, size_eq]; omega)
  have g1 := get_add_same s1 (.lst ((w.map ord).map .int))
  refine ⟨s1.add (.lst ((w.map ord).map .int)), ?_, l.trans (.add _ _)⟩
  have z : (0 + 1 + 1 : Nat) ≤ 16777216 := by decide
  simp only [m_walk_key, b_walk_key, fnB_eq, List.length_cons, List.length_nil, List.map_cons, List.map_nil, List.cons_append, List.nil_append, Nat.reduceAdd, Nat.reduceSub, List.replicate, if_true, s_Cons, s_Ret, v_Tup, a_Cons, a_Nil, v_Bi, v_Var, v_Comp, i_Seq, List.getElem?_cons_zero, List.getElem?_cons_succ, getV_some, bind_ok', len_tup, List.length_map, seqW_tup, goWk_its, wipeE_nil, wipeE_cons, List.set_cons_zero, List.set_cons_succ, e, n1, tuple_r _ g1, size_eq, z, st_ok', then_rt, fnR_rt]
  simp [keyD]
def rots (c : List Int) : List (List Int) := (List.range c.length).map (rot c)
theorem rots_len (c : List Int) : (rots c).length = c.length := by simp [rots]
theorem fold_eq (c : List Int) : ∀ (l : List Nat) (b : List Int), b.length = c.length → (l.map (rot c)).foldl (minW ord) b = l.foldl (better c) b := by
  intro l
  induction l with
  | nil => intro b _; rfl
  | cons i l ih =>
    intro b hb
    have e : minW ord b (rot c i) = better c b i := by
      unfold minW better
      rw [rot_len, hb, if_pos rfl]
      rfl
    rw [List.map_cons, List.foldl_cons, List.foldl_cons, e]
    refine ih _ ?_
    unfold better
    split
    · exact rot_len c i
    · exact hb
theorem run_least_turn (c : List Int) (s : Sto) (hc : c.length ≤ 10000) : Ev (m_least_turn [tw c] s) s (tw (lr c)) := by
  obtain ⟨s1, e, l⟩ := goIts_map (f := turnC (gVar 1) none e_least_turn_1 [some (tw c), none]) (fun d => match d with | .int i => tw (rot c i.toNat) | d => d) (rgD 0 c.length) s fun x hx s' hl => by
    obtain ⟨k, hk, rfl⟩ := List.mem_map.mp hx
    rw [List.mem_range] at hk
    have e0 : (0 : Int) + (k : Int) = (k : Int) := by omega
    rw [e0]
    have c1 : cutI c (some (k : Int)) none = c.drop k := cut_from rfl
    have c2 : cutI c none (some (k : Int)) = c.take k := cut_to rfl
    have z : (c.length - k) + min k c.length ≤ 16777216 := by omega
    refine ⟨s', ?_, .refl _⟩
    simp only [turnC_none, g_Var, bind_ok', List.set_cons_zero, List.set_cons_succ, e_least_turn_1, v_Bin, v_Slc, v_Var, List.getElem?_cons_zero, List.getElem?_cons_succ, getV_some, o_Yes, o_No, toO_int, slc_t, cut_map, c1, c2, add_tt, List.length_map, List.length_drop, List.length_take, size_eq, z, if_true, Int.toNat_natCast, rot, List.map_append]
    rw [tw, List.map_append]
  have e2 : ((rgD 0 c.length).map fun d => match d with | .int i => tw (rot c i.toNat) | d => d) = (rots c).map tw := by
    unfold rgD rots
    rw [List.map_map, List.map_map]
    refine List.map_congr_left fun k hk => ?_
    show tw (rot c ((0 : Int) + (k : Int)).toNat) = tw (rot c k)
    rw [show ((0 : Int) + (k : Int)).toNat = k by omega]
  rw [e2] at e
  have n1 := newL_ok' s1 (xs := (rots c).map tw) (by rw [List.length_map, rots_len, size_eq]; omega)
  have g1 := get_add_same s1 (.lst ((rots c).map tw))
  have l1 : Le s1 (s1.add (.lst ((rots c).map tw))) := .add _ _
  have m1 : s1.n < (s1.add (.lst ((rots c).map tw))).n := Nat.lt_succ_self _
  generalize s1.add (.lst ((rots c).map tw)) = s2 at *
  have b1 : bigI (c.length : Int) = true := bigI_of (by omega)
  have km : Ev (minK m_walk_key (.tup []) (.ref s1.n) s2) s2 (tw (lr c)) := by
    cases hr : rots c with
    | nil =>
      rw [hr] at g1
      have : c = [] := List.length_eq_zero_iff.mp (by rw [← rots_len, hr]; rfl)
      subst this
      refine ⟨s2, ?_, .refl _⟩
      show (match s2.get s1.n with | some (.lst []) => R.ok (D.tup []) s2 | some (.lst (x :: _)) => (m_walk_key [x] s2).bind fun kx s => minGo m_walk_key s1.n 1000000 1 x kx s | _ => R.no) = _
      rw [g1]
      rfl
    | cons w0 ws =>
      have h0 : w0 = c := by
        have : (rots c)[0]? = some w0 := by rw [hr]; rfl
        unfold rots at this
        rw [List.getElem?_map] at this
        obtain ⟨k, hk, e⟩ := Option.map_eq_some_iff.mp this
        have : k = 0 := by
          have hl : 0 < c.length := by
            rw [← rots_len, hr]; exact Nat.zero_lt_succ _
          rw [List.getElem?_range hl] at hk
          exact (Option.some.inj hk).symm
        subst this
        rw [← e, rot_zero]
      subst h0
      obtain ⟨s3, e3, l3⟩ := run_walk_key w0 s2 (by omega)
      have go := minGo_run (f := m_walk_key) (o := ord) (i := s1.n) (ws := rots w0) (fun w hw s => run_walk_key w s (by
        obtain ⟨k, _, rfl⟩ := List.mem_map.mp hw
        rw [rot_len]; omega)) 1000000 1 w0 s3 (Nat.lt_of_lt_of_le m1 l3.n) (by rw [l3.get _ m1, g1]) (by rw [rots_len]; omega)
      obtain ⟨s4, e4, l4⟩ := go
      refine ⟨s4, ?_, l3.trans l4⟩
      rw [hr] at g1
      show (match s2.get s1.n with | some (.lst []) => R.ok (D.tup []) s2 | some (.lst (x :: _)) => (m_walk_key [x] s2).bind fun kx s => minGo m_walk_key s1.n 1000000 1 x kx s | _ => R.no) = _
      rw [g1]
      show (m_walk_key [tw w0] s2).bind _ = _
      rw [e3]
      show minGo m_walk_key s1.n 1000000 1 (tw w0) (keyD ord w0) s3 = _
      rw [e4]
      congr 2
      have hl : 0 < w0.length := by rw [← rots_len, hr]; exact Nat.zero_lt_succ _
      have er : List.range w0.length = 0 :: (List.range w0.length).drop 1 := by
        have := List.drop_eq_getElem_cons (l := List.range w0.length) (i := 0) (by simpa using hl)
        rw [List.drop_zero] at this
        conv => lhs; rw [this]
        simp
      unfold rots lr
      rw [← List.map_drop, fold_eq w0 _ _ rfl]
      conv => rhs; rw [er]
      rw [List.foldl_cons]
      congr 1
      unfold better
      rw [rot_zero]
      split <;> rfl
  obtain ⟨s3, e3, l3⟩ := km
  refine ⟨s3, ?_, (l.trans l1).trans l3⟩
  simp only [m_least_turn, b_least_turn, fnB_eq, List.length_cons, List.length_nil, List.map_cons, List.map_nil, List.cons_append, List.nil_append, Nat.reduceAdd, Nat.reduceSub, List.replicate, if_true, s_Cons, s_Ret, v_MinK, v_Comp, i_Rg1, a_Cons, a_Nil, v_Bi, v_Var, v_Tup, Nat.zero_le, List.getElem?_cons_zero, List.getElem?_cons_succ, getV_some, bind_ok', len_tup, List.length_map, rg1W_ok, b1, Int.toNat_natCast, goWk_its, wipeE_nil, wipeE_cons, List.set_cons_zero, List.set_cons_succ, e, n1, e3, st_ok', then_rt, fnR_rt]
def inn (w : List Int) : List Int := (w.drop (coreN w)).take (w.length - coreN w - coreN w)
theorem inn_len (w : List Int) : (inn w).length ≤ w.length := by unfold inn; rw [List.length_take, List.length_drop]; omega
def rnd (w : List Int) : List Int := lr (inn (red w))
theorem run_round_from (w : List Int) (s : Sto) (hw : w.length ≤ 10000) : Ev (m_round_from [tw w] s) s (tw (rnd w)) := by
  obtain ⟨s1, e1, l1⟩ := run_straightened w s (by omega)
  have hr := red_len w
  have e2 := run_parted (red w) s1 (by omega)
  have e2 : m_parted [tw (red w)] s1 = .ok (.tup [tw ((red w).take (coreN (red w))), tw (inn (red w))]) s1 := e2
  have hi := inn_len (red w)
  obtain ⟨s3, e3, l3⟩ := run_least_turn (inn (red w)) s1 (by omega)
  have ix : L2.atI [tw ((red w).take (coreN (red w))), tw (inn (red w))] 1 = some (tw (inn (red w))) := rfl
  refine ⟨s3, ?_, l1.trans l3⟩
  simp only [m_round_from, b_round_from, fnB_eq, List.length_cons, List.length_nil, List.map_cons, List.map_nil, List.cons_append, List.nil_append, Nat.reduceAdd, Nat.reduceSub, List.replicate, if_true, s_Cons, s_Ret, v_Call, a_Cons, a_Nil, v_Var, v_Bin, v_C, List.getElem?_cons_zero, List.getElem?_cons_succ, getV_some, bind_ok', e1, e2, ix_t, ix, okO_some, e3, st_ok', then_rt, fnR_rt, rnd]
theorem run_is_a_round (L : Int) (w : List Int) (s : Sto) (hw : w.length ≤ 10000) (h : WkL L w) : Ev (m_is_a_round [.int L, tw w] s) s (.bl (decide (rnd w = w))) := by
  obtain ⟨s1, e1, l1⟩ := run_is_a_walk (L := L) w s (by omega) h
  obtain ⟨s2, e2, l2⟩ := run_round_from w s1 hw
  refine ⟨s2, ?_, l1.trans l2⟩
  simp only [m_is_a_round, b_is_a_round, fnB_eq, List.length_cons, List.length_nil, List.map_cons, List.map_nil, List.cons_append, List.nil_append, Nat.reduceAdd, Nat.reduceSub, List.replicate, if_true, s_Cons, s_Ret, v_And, v_Call, a_Cons, a_Nil, v_Var, v_Bin, List.getElem?_cons_zero, List.getElem?_cons_succ, getV_some, bind_ok', e1, truth_bl, e2, eqD_tw, st_ok', then_rt, fnR_rt]
theorem run_law_order (i : Int) (s : Sto) : m__law_order [.int i] s = .ok (.int (ord i)) s := by
  have m1 : ∀ y : Int, mulOk 2 y = true := fun y => mulOk_l (by decide)
  have m2 : ∀ y : Int, mulOk (-2) y = true := fun y => mulOk_l (by decide)
  unfold ord
  by_cases h : 0 < i
  · simp [m__law_order, b__law_order, fnB_eq, h, m1]
  · simp [m__law_order, b__law_order, fnB_eq, h, m2]
theorem run_law_key (w : List Int) (s : Sto) (hw : w.length ≤ 100000) : Ev (m__law_key [tw w] s) s (keyD ord w) := by
  obtain ⟨s1, e, l⟩ := goIts_map (f := turnC (gVar 1) none e__law_key_1 [some (tw w), none]) (fun d => match d with | .int i => .int (ord i) | d => d) (w.map .int) s fun x hx s' hl => by
    obtain ⟨i, hi, rfl⟩ := List.mem_map.mp hx
    exact ⟨s', by simp [e__law_key_1, run_law_order], .refl _⟩
  have e2 : ((w.map D.int).map fun d => match d with | .int i => .int (ord i) | d => d) = (w.map ord).map D.int := by
    rw [List.map_map, List.map_map]; rfl
  rw [e2] at e
  have n1 := newL_ok' s1 (xs := (w.map ord).map D.int) (by rw [List.length_map, List.length_map, size_eq]; omega)
  have g1 := get_add_same s1 (.lst ((w.map ord).map .int))
  refine ⟨s1.add (.lst ((w.map ord).map .int)), ?_, l.trans (.add _ _)⟩
  have z : (0 + 1 + 1 : Nat) ≤ 16777216 := by decide
  simp only [m__law_key, b__law_key, fnB_eq, List.length_cons, List.length_nil, List.map_cons, List.map_nil, List.cons_append, List.nil_append, Nat.reduceAdd, Nat.reduceSub, List.replicate, if_true, s_Cons, s_Ret, v_Tup, a_Cons, a_Nil, v_Bi, v_Var, v_Comp, i_Seq, List.getElem?_cons_zero, List.getElem?_cons_succ, getV_some, bind_ok', len_tup, List.length_map, seqW_tup, goWk_its, wipeE_nil, wipeE_cons, List.set_cons_zero, List.set_cons_succ, e, n1, tuple_r _ g1, size_eq, z, st_ok', then_rt, fnR_rt]
  simp [keyD]
theorem neD_rr {s : Sto} {i j : Nat} {xs ys : List Int} (h1 : s.get i = some (.lst (xs.map .int))) (h2 : s.get j = some (.lst (ys.map .int))) : neD (.ref i) (.ref j) s = .ok (.bl (!decide (xs = ys))) s := by
  have e1 : ∀ {i : Nat} {xs : List Int}, s.get i = some (.lst (xs.map .int)) → pyd s 12 (.ref i) = some (.list (xs.map PyData.int)) := by
    intro i xs h
    show (match s.get i with | some (.lst xs) => (mapO (pyd s 11) xs).map PyData.list | _ => none) = _
    rw [h]
    dsimp only
    rw [pyd_ints]; rfl
  unfold neD
  rw [e1 h1, e1 h2]
  show R.ok (D.bl (!PyData.eqv _ _)) s = _
  rw [show PyData.eqv (.list (xs.map PyData.int)) (.list (ys.map PyData.int)) = PyData.eqvAll (xs.map .int) (ys.map .int) by simp [PyData.eqv], eqv_ints]
theorem red_take {w : List Int} {i : Nat} {n : Int} (h : w[i]? = some n) : red (w.take (i + 1)) = (push (red (w.take i)).reverse n).reverse := by
  unfold red redS
  rw [take_fold push [] h, List.reverse_reverse]
theorem run_law_straight (w : List Int) (s : Sto) (hw : w.length ≤ 100000) : Ev (m__law_straight [tw w] s) s (tw (red w)) := by
  refine Exists.elim (forIts_inv (b := bodyF (gVar 2) b__law_straight_1)
    (fun k env s' => (∃ z, env = [some (tw w), some (.ref s.n), z]) ∧ s'.get s.n = some (.lst ((((w.take k).foldl push []).reverse).map .int)) ∧ Le s s' ∧ s.n < s'.n)
    (w.map .int) 0 [some (tw w), some (.ref s.n), none] (s.add (.lst []))
    ⟨⟨none, rfl⟩, by rw [get_add_same]; rfl, .add _ _, Nat.lt_succ_self _⟩ ?step) ?rest
  case rest =>
    rintro env ⟨s', e, ⟨z, rfl⟩, hg, hl, hn⟩
    refine ⟨s', ?_, hl⟩
    have e2 : (w.map D.int).length = w.length := by simp
    rw [e2, Nat.zero_add, List.take_length] at hg
    simp [m__law_straight, b__law_straight, fnB_eq, newL_ok', e, tuple_r _ hg, red, redS]
  case step =>
    rintro i x env s1 hx ⟨⟨z, rfl⟩, hg, hl, hlt⟩
    obtain ⟨n, hn, rfl⟩ := map_at hx
    rw [Nat.zero_add] at hg ⊢
    have hlen := foldl_push_len (w.take i) []
    rw [take_fold push [] hn]
    generalize (w.take i).foldl push [] = st at hg hlen ⊢
    have hst : st.length < sizeLine := by
      rw [size_eq]
      simp only [List.length_nil, List.length_take] at hlen
      omega
    have n2 := newL_ok' s1 (xs := []) (by rw [size_eq]; simp)
    have g2 := get_add_same s1 (.lst [])
    have l2 : Le s1 (s1.add (.lst [])) := .add _ _
    have g12 := (l2.get _ hlt).trans hg
    have hlt2 := Nat.lt_of_lt_of_le hlt l2.n
    generalize s1.add (.lst []) = s2 at *
    have ne := neD_rr (ys := []) g12 g2
    cases st with
    | nil =>
      simp only [List.reverse_nil, List.map_nil, decide_true, Bool.not_true] at ne g12
      have ap := append_r _ g12 (.int n) (by rw [size_eq]; simp)
      refine ⟨[some (tw w), some (.ref s.n), some (.int n)], _, .inl (by
        simp only [bodyF_eq, b__law_straight_1, g_Var, st_ok', List.set_cons_zero, List.set_cons_succ, s_Cons, s_If, t_And, t_Bin, v_Var, v_Lst, a_Nil, List.getElem?_cons_zero, List.getElem?_cons_succ, getV_some, bind_ok', n2, ne, truth_bl, Bool.false_eq_true, if_false, s_Expr, v_Meth, isL_r _ g12, if_true, a_Cons, ap, then_nx, s_Nil]
        rfl), ⟨_, rfl⟩, by rw [get_set_same]; rfl, (hl.trans l2).set (Nat.le_refl _) _, hlt2⟩
    | cons y r =>
      have hne : decide ((y :: r).reverse = []) = false := decide_eq_false (by simp)
      rw [hne, Bool.not_false] at ne
      rw [List.reverse_cons, List.map_append] at g12
      rw [push_cons]
      have ixl : L2.atI (r.reverse.map D.int ++ [y].map D.int) (-1) = some (.int y) := L2.atI_last _ _
      by_cases hy : y = -n
      · rw [if_pos hy]
        have hyb : (y == -n) = true := by simpa using hy
        have po := pop_r _ (show s2.get s.n = some (.lst (r.reverse.map D.int ++ [.int y])) from g12)
        refine ⟨[some (tw w), some (.ref s.n), some (.int n)], _, .inl (by
          simp only [bodyF_eq, b__law_straight_1, g_Var, st_ok', List.set_cons_zero, List.set_cons_succ, s_Cons, s_If, t_And, t_Bin, v_Bin, v_Un, v_C, v_Var, v_Lst, a_Nil, List.getElem?_cons_zero, List.getElem?_cons_succ, getV_some, bind_ok', n2, ne, truth_bl, if_true, neg_i, ix_r _ g12, ixl, okO_some, eqD_ii, hyb, s_Expr, v_Meth, isL_r _ g12, po, then_nx, s_Nil]
          rfl), ⟨_, rfl⟩, by rw [get_set_same, List.map_reverse], (hl.trans l2).set (Nat.le_refl _) _, hlt2⟩
      · rw [if_neg hy]
        have hyb : (y == -n) = false := by simpa using hy
        have ap := append_r _ g12 (.int n) (by simp only [List.length_cons] at hst; simp; omega)
        refine ⟨[some (tw w), some (.ref s.n), some (.int n)], _, .inl (by
          simp only [bodyF_eq, b__law_straight_1, g_Var, st_ok', List.set_cons_zero, List.set_cons_succ, s_Cons, s_If, t_And, t_Bin, v_Bin, v_Un, v_C, v_Var, v_Lst, a_Nil, List.getElem?_cons_zero, List.getElem?_cons_succ, getV_some, bind_ok', n2, ne, truth_bl, if_true, neg_i, ix_r _ g12, ixl, okO_some, eqD_ii, hyb, Bool.false_eq_true, if_false, s_Expr, v_Meth, isL_r _ g12, a_Cons, ap, then_nx, s_Nil]
          rfl), ⟨_, rfl⟩, by rw [get_set_same]; simp, (hl.trans l2).set (Nat.le_refl _) _, hlt2⟩
theorem better_len {c b : List Int} (hb : b.length = c.length) (i : Nat) : (better c b i).length = c.length := by
  unfold better
  split
  · exact rot_len c i
  · exact hb
theorem fold_len (c : List Int) : ∀ (l : List Nat) (b : List Int), b.length = c.length → (l.foldl (better c) b).length = c.length := by
  intro l
  induction l with
  | nil => intro b h; exact h
  | cons i l ih => intro b h; exact ih _ (better_len h i)
theorem loop1 (r : List Int) (w : D) (j : Nat) (s : Sto) (hr : r.length ≤ 10000) (hg : s.get j = some (.lst (r.map .int))) (z0 : Option D) :
    ∃ z, forIts (bodyF (gVar 4) b__law_round_1) (rgD 0 (r.length / 2)) [some w, some (.ref j), some (.int 0), some (.int r.length), z0, none, none, none] s
      = .nx [some w, some (.ref j), some (.int (coreN r : Nat)), some (.int ((r.length : Int) - (coreN r : Nat))), z, none, none, none] s := by
  obtain ⟨_, h2, h3⟩ := ck_spec r r.length 0 (by omega)
  have hc := coreN_le r
  have hn : ck r r.length 0 = coreN r := rfl
  rw [hn] at h2 h3
  generalize coreN r = n at h2 h3 hc hn ⊢
  refine Exists.elim (forIts_inv (b := bodyF (gVar 4) b__law_round_1)
    (fun k env s' => s' = s ∧ ∃ z, env = [some w, some (.ref j), some (.int (min k n : Nat)), some (.int ((r.length : Int) - (min k n : Nat))), z, none, none, none])
    (rgD 0 (r.length / 2)) 0 [some w, some (.ref j), some (.int 0), some (.int r.length), z0, none, none, none] s ⟨rfl, z0, by simp⟩ ?step) ?rest
  case rest =>
    rintro env ⟨s', e, rfl, z, rfl⟩
    refine ⟨z, ?_⟩
    have e2 : (rgD 0 (r.length / 2)).length = r.length / 2 := by simp [rgD]
    rw [e, e2, Nat.zero_add, Nat.min_eq_right (by omega)]
  case step =>
    rintro i x env s1 hx ⟨rfl, z, rfl⟩
    obtain ⟨hi, rfl⟩ := rgD_at hx
    rw [Nat.zero_add]
    by_cases c1 : i < n
    · obtain ⟨a, b⟩ := h2 i (Nat.zero_le _) c1
      rw [Nat.min_eq_left (by omega), Nat.min_eq_left (by omega)]
      have a1 : L2.atI (r.map D.int) (i : Int) = some (.int (r.getD i 0)) := atI_at rfl (getD_at (by omega))
      have a2 : L2.atI (r.map D.int) ((r.length : Int) - i - 1) = some (.int (r.getD (r.length - 1 - i) 0)) := atI_at (by omega) (getD_at (by omega))
      have c1' : decide ((1 : Int) < (r.length : Int) - i - i) = true := decide_eq_true (by omega)
      have c2 : (r.getD i 0 == -(r.getD (r.length - 1 - i) 0)) = true := by simpa using b
      refine ⟨_, s1, .inl (by
        simp only [bodyF_eq, b__law_round_1, g_Var, st_ok', List.set_cons_zero, List.set_cons_succ, s_Cons, s_If, t_And, t_Bin, v_Bin, v_Un, v_C, v_Var, List.getElem?_cons_zero, List.getElem?_cons_succ, getV_some, bind_ok', sub_ii, ltI_ii, c1', truth_bl, if_true, ix_r _ hg, a1, a2, okO_some, neg_i, eqD_ii, c2, s_Par, a_Cons, a_Nil, add_ii, par2_ok, then_nx, s_Nil]
        rfl), rfl, some (.int (0 + (i : Int))), ?_⟩
      rw [show ((i + 1 : Nat) : Int) = (i : Int) + 1 by omega, show (r.length : Int) - ((i : Int) + 1) = (r.length : Int) - i - 1 by omega]
    · rw [Nat.min_eq_right (by omega), Nat.min_eq_right (by omega)]
      by_cases c2 : 2 * n + 1 < r.length
      · have c3 : (r.getD n 0 == -(r.getD (r.length - 1 - n) 0)) = false := by
          cases q : (r.getD n 0 == -(r.getD (r.length - 1 - n) 0)) with
          | false => rfl
          | true => exact absurd ⟨c2, by simpa using q⟩ h3
        have a1 : L2.atI (r.map D.int) (n : Int) = some (.int (r.getD n 0)) := atI_at rfl (getD_at (by omega))
        have a2 : L2.atI (r.map D.int) ((r.length : Int) - n - 1) = some (.int (r.getD (r.length - 1 - n) 0)) := atI_at (by omega) (getD_at (by omega))
        have c1' : decide ((1 : Int) < (r.length : Int) - n - n) = true := decide_eq_true (by omega)
        refine ⟨_, s1, .inl (by
          simp only [bodyF_eq, b__law_round_1, g_Var, st_ok', List.set_cons_zero, List.set_cons_succ, s_Cons, s_If, t_And, t_Bin, v_Bin, v_Un, v_C, v_Var, List.getElem?_cons_zero, List.getElem?_cons_succ, getV_some, bind_ok', sub_ii, ltI_ii, c1', truth_bl, if_true, ix_r _ hg, a1, a2, okO_some, neg_i, eqD_ii, c3, Bool.false_eq_true, if_false, then_nx, s_Nil]
          ), rfl, some (.int (0 + (i : Int))), rfl⟩
      · have c1' : decide ((1 : Int) < (r.length : Int) - n - n) = false := decide_eq_false (by omega)
        refine ⟨_, s1, .inl (by
          simp only [bodyF_eq, b__law_round_1, g_Var, st_ok', List.set_cons_zero, List.set_cons_succ, s_Cons, s_If, t_And, t_Bin, v_Bin, v_Un, v_C, v_Var, List.getElem?_cons_zero, List.getElem?_cons_succ, getV_some, bind_ok', sub_ii, ltI_ii, c1', truth_bl, Bool.false_eq_true, if_false, then_nx, s_Nil]
          ), rfl, some (.int (0 + (i : Int))), rfl⟩
theorem loop2 (c : List Int) (w : D) (a b z5 : D) (j : Nat) (s : Sto) (hr : c.length ≤ 10000) (hj : j < s.n) (hg : s.get j = some (.lst (c.map .int))) (z0 : Option D) (h5 : z5 = tw c) :
    ∃ z1 z2 s', forIts (bodyF (gVar 6) b__law_round_2) (rgD 0 c.length) [some w, some (.ref j), some a, some b, z0, some z5, none, none] s
      = .nx [some w, some (.ref j), some a, some b, z0, some (tw (lr c)), z1, z2] s' ∧ Le s s' := by
  subst h5
  refine Exists.elim (forIts_inv (b := bodyF (gVar 6) b__law_round_2)
    (fun k env s' => Le s s' ∧ ∃ z1 z2, env = [some w, some (.ref j), some a, some b, z0, some (tw ((List.range k).foldl (better c) c)), z1, z2])
    (rgD 0 c.length) 0 [some w, some (.ref j), some a, some b, z0, some (tw c), none, none] s ⟨.refl _, none, none, rfl⟩ ?step) ?rest
  case rest =>
    rintro env ⟨s', e, l, z1, z2, rfl⟩
    refine ⟨z1, z2, s', ?_, l⟩
    have e2 : (rgD 0 c.length).length = c.length := by simp [rgD]
    rw [e, e2, Nat.zero_add]
    rfl
  case step =>
    rintro i x env s1 hx ⟨l, z1, z2, rfl⟩
    obtain ⟨hi, rfl⟩ := rgD_at hx
    rw [Nat.zero_add]
    have hb : ((List.range i).foldl (better c) c).length = c.length := fold_len c _ c rfl
    rw [List.range_succ, List.foldl_append]
    generalize (List.range i).foldl (better c) c = m at hb ⊢
    show ∃ env' s', _ ∧ Le s s' ∧ ∃ z1 z2, env' = [some w, some (.ref j), some a, some b, z0, some (tw (better c m i)), z1, z2]
    have g0 := (l.get j hj).trans hg
    have hj0 := Nat.lt_of_lt_of_le hj l.n
    have e0 : (0 : Int) + (i : Int) = (i : Int) := by omega
    rw [e0]
    have c1 : cutI c (some (i : Int)) none = c.drop i := cut_from rfl
    have c2 : cutI c none (some (i : Int)) = c.take i := cut_to rfl
    have p1 := slc_r _ g0 (some (i : Int)) none
    have g1 := get_add_same s1 (.lst (cutD (c.map .int) (some (i : Int)) none))
    have l1 : Le s1 (s1.add (.lst (cutD (c.map .int) (some (i : Int)) none))) := .add _ _
    have m1 : s1.n < (s1.add (.lst (cutD (c.map .int) (some (i : Int)) none))).n := Nat.lt_succ_self _
    rw [cut_map, c1] at p1 g1 l1 m1
    generalize s1.add (.lst ((c.drop i).map .int)) = s2 at p1 g1 l1 m1
    have g02 := (l1.get j hj0).trans g0
    have p2 := slc_r _ g02 none (some (i : Int))
    have g2 := get_add_same s2 (.lst (cutD (c.map .int) none (some (i : Int))))
    have l2 : Le s2 (s2.add (.lst (cutD (c.map .int) none (some (i : Int))))) := .add _ _
    have m2 : s2.n < (s2.add (.lst (cutD (c.map .int) none (some (i : Int))))).n := Nat.lt_succ_self _
    rw [cut_map, c2] at p2 g2 l2 m2
    generalize s2.add (.lst ((c.take i).map .int)) = s3 at p2 g2 l2 m2
    have g13 := (l2.get _ m1).trans g1
    have p3 := add_rr _ g13 g2 (by simp only [List.length_map, List.length_drop, List.length_take, size_eq]; omega)
    have g3 := get_add_same s3 (.lst ((c.drop i).map D.int ++ (c.take i).map D.int))
    have l3 : Le s3 (s3.add (.lst ((c.drop i).map D.int ++ (c.take i).map D.int))) := .add _ _
    rw [← List.map_append] at p3 g3 l3
    have er : c.drop i ++ c.take i = rot c i := rfl
    rw [er] at p3 g3 l3
    generalize s3.add (.lst ((rot c i).map .int)) = s4 at p3 g3 l3
    have p4 : tupleB [.ref s3.n] s4 = .ok (tw (rot c i)) s4 := tuple_r _ g3
    obtain ⟨s5, p5, l5⟩ := run_law_key (rot c i) s4 (by rw [rot_len]; omega)
    obtain ⟨s6, p6, l6⟩ := run_law_key m s5 (by omega)
    have hlen : (rot c i).length = m.length := by rw [rot_len, hb]
    have p7 := ltK_w s6 ord (rot c i) m
    rw [if_pos hlen] at p7
    have ll := (((((l.trans l1).trans l2).trans l3).trans l5).trans l6)
    by_cases q : lexD (ords (rot c i)) (ords m) = true
    · have q' : lexD ((rot c i).map ord) (m.map ord) = true := q
      rw [q'] at p7
      refine ⟨_, s6, .inl (by
        simp only [bodyF_eq, b__law_round_2, g_Var, st_ok', List.set_cons_zero, List.set_cons_succ, s_Cons, s_Asg, v_Bi, v_Bin, v_Slc, v_Var, o_Yes, o_No, toO_int, v_Call, a_Cons, a_Nil, List.getElem?_cons_zero, List.getElem?_cons_succ, getV_some, bind_ok', p1, p2, p3, p4, then_nx, s_If, t_Bin, p5, p6, p7, truth_bl, if_true, s_Nil]
        rfl), ll, some (.int i), some (tw (rot c i)), ?_⟩
      unfold better
      rw [if_pos q]
    · have q' : lexD ((rot c i).map ord) (m.map ord) = false := by
        show lexD (ords (rot c i)) (ords m) = false
        simpa using q
      rw [q'] at p7
      refine ⟨_, s6, .inl (by
        simp only [bodyF_eq, b__law_round_2, g_Var, st_ok', List.set_cons_zero, List.set_cons_succ, s_Cons, s_Asg, v_Bi, v_Bin, v_Slc, v_Var, o_Yes, o_No, toO_int, v_Call, a_Cons, a_Nil, List.getElem?_cons_zero, List.getElem?_cons_succ, getV_some, bind_ok', p1, p2, p3, p4, then_nx, s_If, t_Bin, p5, p6, p7, truth_bl, Bool.false_eq_true, if_false, s_Nil]
        rfl), ll, some (.int i), some (tw (rot c i)), ?_⟩
      unfold better
      rw [if_neg q]
theorem run_law_round (w : List Int) (s : Sto) (hw : w.length ≤ 10000) : Ev (m__law_round [tw w] s) s (tw (rnd w)) := by
  obtain ⟨s1, e1, l1⟩ := run_law_straight w s (by omega)
  have hr := red_len w
  unfold rnd
  have hi := inn_len (red w)
  have hc := coreN_le (red w)
  unfold inn at hi ⊢
  generalize red w = r at *
  have n1 : listB [tw r] s1 = .ok (.ref s1.n) (s1.add (.lst (r.map .int))) := list_t s1 (r.map .int)
  have g1 := get_add_same s1 (.lst (r.map .int))
  have l2 : Le s1 (s1.add (.lst (r.map .int))) := .add _ _
  have m1 : s1.n < (s1.add (.lst (r.map .int))).n := Nat.lt_succ_self _
  generalize s1.add (.lst (r.map .int)) = s2 at *
  obtain ⟨z, e2⟩ := loop1 r (tw w) s1.n s2 (by omega) g1 none
  generalize coreN r = n at *
  have cm : cutI r (some (n : Int)) (some ((r.length : Int) - (n : Nat))) = (r.drop n).take (r.length - n - n) := cut_mid rfl (by omega)
  have p3 := slc_r _ g1 (some (n : Int)) (some ((r.length : Int) - (n : Nat)))
  have g3 := get_add_same s2 (.lst (cutD (r.map .int) (some (n : Int)) (some ((r.length : Int) - (n : Nat)))))
  have l3 : Le s2 (s2.add (.lst (cutD (r.map .int) (some (n : Int)) (some ((r.length : Int) - (n : Nat)))))) := .add _ _
  have m3 : s2.n < (s2.add (.lst (cutD (r.map .int) (some (n : Int)) (some ((r.length : Int) - (n : Nat)))))).n := Nat.lt_succ_self _
  rw [cut_map, cm] at p3 g3 l3 m3
  generalize (r.drop n).take (r.length - n - n) = c at *
  generalize s2.add (.lst (c.map .int)) = s3 at p3 g3 l3 m3
  have p4 : tupleB [.ref s2.n] s3 = .ok (tw c) s3 := tuple_r _ g3
  have ln := len_r _ g1
  have ln3 := len_r _ g3
  rw [List.length_map] at ln ln3
  obtain ⟨z1, z2, s4, e4, l4⟩ := loop2 c (tw w) (.int n) (.int ((r.length : Int) - (n : Nat))) (tw c) s2.n s3 (by omega) m3 g3 z rfl
  refine ⟨s4, ?_, ((l1.trans l2).trans l3).trans l4⟩
  have d2 : (0 : Int) < 2 ∧ (2 : Int).natAbs < lim4 := ⟨by decide, lim_lt (by decide)⟩
  have dn : ((r.length : Int) / 2).toNat = r.length / 2 := by omega
  have b1 : bigI ((r.length : Int) / 2) = true := bigI_of (by omega)
  have b2 : bigI (c.length : Int) = true := bigI_of (by omega)
  simp only [m__law_round, b__law_round, fnB_eq, List.length_cons, List.length_nil, List.map_cons, List.map_nil, List.cons_append, List.nil_append, Nat.reduceAdd, Nat.reduceSub, List.replicate, if_true, s_Cons, s_Asg, g_Var, v_Bi, v_Call, a_Cons, a_Nil, v_Var, List.getElem?_cons_zero, List.getElem?_cons_succ, getV_some, bind_ok', e1, n1, st_ok', List.set_cons_zero, List.set_cons_succ, then_nx, s_Par, v_C, ln, par2_ok, s_For, i_Rg1, v_Bin, fdiv_ii, d2, and_self, rg1W_ok, b1, dn, wkS_its, e2, v_Slc, o_Yes, toO_int, p3, p4, ln3, b2, Int.toNat_natCast, e4, s_Ret, then_rt, fnR_rt]
theorem str_at : ∀ {w : List Int} (i : Nat), Rdc w → i + 1 < w.length → w.getD i 0 ≠ -(w.getD (i + 1) 0)
  | [], i, _, h => absurd h (by simp)
  | [x], i, _, h => absurd h (by simp)
  | x :: y :: r, 0, h, _ => h.1
  | x :: y :: r, i + 1, h, hl => str_at (w := y :: r) i h.2 (by simp only [List.length_cons] at hl ⊢; omega)
theorem str_of : ∀ {w : List Int}, (∀ i, i + 1 < w.length → w.getD i 0 ≠ -(w.getD (i + 1) 0)) → Rdc w
  | [], _ => trivial
  | [x], _ => trivial
  | x :: y :: r, h => ⟨h 0 (by simp), str_of (w := y :: r) fun i hi => h (i + 1) (by simp only [List.length_cons] at hi ⊢; omega)⟩
def Cyc (c : List Int) : Prop := 2 ≤ c.length → ∀ i, i < c.length → c.getD i 0 ≠ -(c.getD ((i + 1) % c.length) 0)
theorem rot_at (c : List Int) {k i : Nat} (hk : k ≤ c.length) (hi : i < c.length) : (rot c k).getD i 0 = c.getD ((i + k) % c.length) 0 := by
  unfold rot
  rw [List.getD_eq_getElem?_getD, List.getD_eq_getElem?_getD, List.getElem?_append, List.length_drop]
  by_cases q : i < c.length - k
  · rw [if_pos q, List.getElem?_drop, Nat.mod_eq_of_lt (by omega), Nat.add_comm]
  · rw [if_neg q, List.getElem?_take_of_lt (by omega), Nat.mod_eq_sub_mod (by omega), Nat.mod_eq_of_lt (by omega)]
    congr 2
    omega
theorem Cyc.rot {c : List Int} (h : Cyc c) {k : Nat} (hk : k ≤ c.length) : Cyc (rot c k) := by
  intro h2 i hi
  rw [rot_len] at h2 hi ⊢
  rw [rot_at c hk hi, rot_at c hk (Nat.mod_lt _ (by omega)), Nat.mod_add_mod]
  have := h h2 ((i + k) % c.length) (Nat.mod_lt _ (by omega))
  rw [Nat.mod_add_mod, show i + k + 1 = i + 1 + k by omega] at this
  exact this
theorem Cyc.rdc {c : List Int} (h : Cyc c) : Rdc c := str_of fun i hi => by
  have := h (by omega) i (by omega)
  rw [Nat.mod_eq_of_lt hi] at this
  exact this
theorem Cyc.core {c : List Int} (h : Cyc c) : coreN c = 0 := by
  obtain ⟨_, h2, _⟩ := ck_spec c c.length 0 (by omega)
  by_cases q : coreN c = 0
  · exact q
  · obtain ⟨a, b⟩ := h2 0 (Nat.le_refl _) (by unfold coreN at q; omega)
    have := h (by omega) (c.length - 1) (by omega)
    rw [show c.length - 1 + 1 = c.length by omega, Nat.mod_self] at this
    rw [Nat.sub_zero] at b
    omega
theorem inn_at {r : List Int} {i : Nat} (hi : i < r.length - coreN r - coreN r) : (inn r).getD i 0 = r.getD (coreN r + i) 0 := by
  unfold inn
  rw [List.getD_eq_getElem?_getD, List.getD_eq_getElem?_getD, List.getElem?_take_of_lt hi, List.getElem?_drop]
theorem inn_length (r : List Int) : (inn r).length = r.length - coreN r - coreN r := by
  unfold inn; rw [List.length_take, List.length_drop]; omega
theorem inn_cyc {r : List Int} (h : Rdc r) : Cyc (inn r) := by
  intro h2 i hi
  have hl := inn_length r
  obtain ⟨_, _, h3⟩ := ck_spec r r.length 0 (by omega)
  have hn : ck r r.length 0 = coreN r := rfl
  rw [hn] at h3
  rw [hl] at h2 hi ⊢
  by_cases q : i + 1 < r.length - coreN r - coreN r
  · rw [Nat.mod_eq_of_lt q, inn_at hi, inn_at q]
    exact str_at (coreN r + i) h (by omega)
  · rw [show i + 1 = r.length - coreN r - coreN r by omega, Nat.mod_self, inn_at hi, inn_at (by omega)]
    intro e
    refine h3 ⟨by omega, ?_⟩
    rw [show coreN r + i = r.length - 1 - coreN r by omega, show coreN r + 0 = coreN r by omega] at e
    omega
theorem rnd_cyc (w : List Int) : Cyc (rnd w) := by
  unfold rnd
  obtain ⟨i, hi, e⟩ := lr_rot (inn (red w))
  rw [e]
  exact (inn_cyc (red_str w)).rot hi
theorem rnd_rnd (w : List Int) : rnd (rnd w) = rnd w := by
  have h := rnd_cyc w
  show lr (inn (red (rnd w))) = rnd w
  rw [red_of_str h.rdc]
  have : inn (rnd w) = rnd w := by
    unfold inn
    rw [h.core, List.drop_zero, Nat.sub_zero, Nat.sub_zero, List.take_length]
  rw [this]
  exact lr_lr _
theorem rnd_len (w : List Int) : (rnd w).length ≤ w.length := by
  unfold rnd
  obtain ⟨i, hi, e⟩ := lr_rot (inn (red w))
  rw [e, rot_len]
  exact Nat.le_trans (inn_len _) (red_len w)
theorem rot_mem {c : List Int} {k : Nat} {x : Int} (h : x ∈ rot c k) : x ∈ c := by
  unfold rot at h
  exact (List.mem_append.mp h).elim List.mem_of_mem_drop List.mem_of_mem_take
theorem rnd_mem {w : List Int} {x : Int} (h : x ∈ rnd w) : x ∈ w := by
  unfold rnd at h
  obtain ⟨i, hi, e⟩ := lr_rot (inn (red w))
  rw [e] at h
  exact red_mem (List.mem_of_mem_drop (List.mem_of_mem_take (rot_mem h)))
theorem WkL.rnd {L : Int} {w : List Int} (h : WkL L w) : WkL L (rnd w) := fun x hx => h x (rnd_mem hx)
theorem eqD_bb (a b : Bool) (s : Sto) : eqD (.bl a) (.bl b) s = .ok (.bl (a == b)) s := by
  show R.ok (D.bl (PyData.eqv (.bool a) (.bool b))) s = _
  cases a <;> cases b <;> rfl
theorem neD_bb (a b : Bool) (s : Sto) : neD (.bl a) (.bl b) s = .ok (.bl (!(a == b))) s := by
  show R.ok (D.bl (!PyData.eqv (.bool a) (.bool b))) s = _
  cases a <;> cases b <;> rfl
theorem same_int (k : Nat) (i : Int) (s : Sto) : ms__law_same (k + 1) [.int i, .int i] s = .ok (.bl true) s := by
  simp [ms__law_same, b__law_same, fnB_eq, isiD, mapO, isTy, isNonD, eqD_bb]
theorem same_bl (k : Nat) (b : Bool) (s : Sto) : ms__law_same (k + 1) [.bl b, .bl b] s = .ok (.bl true) s := by
  simp [ms__law_same, b__law_same, fnB_eq, isiD, mapO, isTy, isNonD, eqD_bb]
theorem same_tup (k : Nat) (xs : List D) (hn : xs.length ≤ 100000) (h : ∀ x ∈ xs, ∀ s, Ev (ms__law_same k [x, x] s) s (.bl true)) (s : Sto) : Ev (ms__law_same (k + 1) [.tup xs, .tup xs] s) s (.bl true) := by
  obtain ⟨s1, e, l⟩ := goIts_map (f := turnC (gVar 2) none (e__law_same_1 (ms__law_same k)) [some (.tup xs), some (.tup xs), none]) (fun _ => .bl true) (rgD 0 xs.length) s fun x hx s' hl => by
    obtain ⟨i, hi, rfl⟩ := List.mem_map.mp hx
    rw [List.mem_range] at hi
    have e0 : (0 : Int) + (i : Int) = (i : Int) := by omega
    rw [e0]
    have a1 : L2.atI xs (i : Int) = some xs[i] := atI_nat' (List.getElem?_eq_getElem hi)
    obtain ⟨s2, e2, l2⟩ := h xs[i] (List.getElem_mem hi) s'
    refine ⟨s2, ?_, l2⟩
    simp only [turnC_none, g_Var, bind_ok', List.set_cons_zero, List.set_cons_succ, e__law_same_1, v_Call, a_Cons, a_Nil, v_Bin, v_Var, List.getElem?_cons_zero, List.getElem?_cons_succ, getV_some, ix_t, a1, okO_some, e2]
  have e2 : ((rgD 0 xs.length).map fun _ => D.bl true) = (xs.map fun _ => true).map D.bl := by
    unfold rgD
    rw [List.map_map, List.map_map]
    refine List.ext_getElem (by simp) fun i h1 h2 => by simp
  rw [e2] at e
  have hz : ((xs.map fun _ => true).map D.bl).length ≤ sizeLine := by rw [List.length_map, List.length_map, size_eq]; omega
  have n1 := newL_ok' s1 hz
  have al := all_r _ (get_add_same s1 (.lst ((xs.map fun _ => true).map D.bl)))
  have b1 : bigI (xs.length : Int) = true := bigI_of (by omega)
  have ea : (xs.map fun _ => true).all id = true := by simp
  rw [ea] at al
  refine ⟨s1.add (.lst ((xs.map fun _ => true).map D.bl)), ?_, l.trans (.add _ _)⟩
  have i1 : isiD [.list, .tuple] (.tup xs) s = .ok (.bl true) s := rfl
  have i2 : isiD [.list] (.tup xs) s = .ok (.bl false) s := rfl
  have i3 : isiD [.tuple] (.tup xs) s = .ok (.bl true) s := rfl
  have x1 := neD_bb false false s
  have x2 := neD_bb true true s
  have x3 := neD_ii (xs.length : Int) xs.length s
  have y3 : (!((xs.length : Int) == (xs.length : Int))) = false := by simp
  rw [y3] at x3
  simp only [beq_self_eq_true, Bool.not_true] at x1 x2
  simp only [ms__law_same, b__law_same, fnB_eq, List.length_cons, List.length_nil, List.map_cons, List.map_nil, List.cons_append, List.nil_append, Nat.reduceAdd, Nat.reduceSub, List.replicate, if_true, s_Cons, s_If, t_Un, t_Or, t_Bin, v_Un, v_Bin, v_Var, v_Bi, a_Cons, a_Nil, List.getElem?_cons_zero, List.getElem?_cons_succ, getV_some, bind_ok', i1, i2, i3, truth_bl, st_ok', x1, x2, x3, Bool.false_eq_true, if_false, s_Nil, then_nx, len_tup, s_Ret, v_Comp, i_Rg1, rg1W_ok, b1, Int.toNat_natCast, goWk_its, wipeE_nil, wipeE_cons, List.set_cons_zero, List.set_cons_succ, e, n1, al, then_rt, fnR_rt]
theorem same_tw (k : Nat) (w : List Int) (hw : w.length ≤ 100000) (s : Sto) : Ev (ms__law_same (k + 2) [tw w, tw w] s) s (.bl true) :=
  same_tup (k + 1) (w.map .int) (by rw [List.length_map]; exact hw) (fun x hx s => by
    obtain ⟨i, _, rfl⟩ := List.mem_map.mp hx
    exact ⟨s, same_int k i s, .refl _⟩) s
theorem run_same_tw (w : List Int) (hw : w.length ≤ 100000) (s : Sto) : Ev (m__law_same [tw w, tw w] s) s (.bl true) := same_tw 6 w hw s
theorem run_same_tws (ws : List (List Int)) (h1 : ws.length ≤ 100000) (hw : ∀ w ∈ ws, w.length ≤ 100000) (s : Sto) : Ev (m__law_same [.tup (ws.map tw), .tup (ws.map tw)] s) s (.bl true) :=
  same_tup 7 (ws.map tw) (by rw [List.length_map]; exact h1) (fun x hx s => by
    obtain ⟨w, q, rfl⟩ := List.mem_map.mp hx
    exact same_tw 5 w (hw w q) s) s
theorem run_law_take (j c : Nat) (m : Int) (s : Sto) (h : Well s j c) (hm : 0 < m) (hm2 : m < 2 ^ 200) (hc : c < 2 ^ 64) :
    ∃ d s', m__law_take [.ref j, .int m] s = .ok (.int d) s' ∧ 0 ≤ d ∧ d < m ∧ Well s' j (c + 1) ∧ LeW j s s' := by
  obtain ⟨a, b, k, e, hb, hk⟩ := h.ex
  have i0 : ixD (.ref j) (.int 0) s = .ok (.int a) s := by rw [ix_r _ e]; rfl
  by_cases ha : 1 < a
  · refine ⟨a % m, s.set j (.lst [.int (a / m), .int b, .int k]), ?_, (mod_pos hm).1, (mod_pos hm).2, ⟨h.lt, _, _, _, get_set_same _ _ _, hb, by omega⟩, .set _ _⟩
    have st : setD (.ref j) (.int 0) (.int (a / m)) s = .ok () (s.set j (.lst [.int (a / m), .int b, .int k])) := set_r _ e (k := 0) rfl _
    have hl : m.natAbs < lim4 := lim_lt (by omega)
    simp [m__law_take, b__law_take, fnB_eq, i0, ha, hm, hl, st]
  · have st : setD (.ref j) (.int 2) (.int ((k : Int) + 1)) s = .ok () (s.set j (.lst [.int a, .int b, .int ((k : Int) + 1)])) := set_r _ e (k := 2) rfl _
    have i2 : ixD (.ref j) (.int 2) s = .ok (.int k) s := by rw [ix_r _ e]; rfl
    have g : (s.set j (.lst [.int a, .int b, .int ((k : Int) + 1)])).get j = some (.lst [.int a, .int b, .int ((k : Int) + 1)]) := get_set_same _ _ _
    have w1 : ixD (.ref j) (.int 1) (s.set j (.lst [.int a, .int b, .int ((k : Int) + 1)])) = .ok (.int b) (s.set j (.lst [.int a, .int b, .int ((k : Int) + 1)])) := by rw [ix_r _ g]; rfl
    have w2 : ixD (.ref j) (.int 2) (s.set j (.lst [.int a, .int b, .int ((k : Int) + 1)])) = .ok (.int ((k : Int) + 1)) (s.set j (.lst [.int a, .int b, .int ((k : Int) + 1)])) := by rw [ix_r _ g]; rfl
    generalize hs2 : s.set j (.lst [.int a, .int b, .int ((k : Int) + 1)]) = s2 at *
    have m1 : ∀ x : Int, mulOk x 6364136223846793005 = true := fun x => mulOk_r (by decide)
    have m2 : ∀ x : Int, mulOk x 2862933555777941757 = true := fun x => mulOk_r (by decide)
    have m3 : ∀ x : Int, mulOk 1181783497276652981 x = true := fun x => mulOk_l (by decide)
    have m4 : ∀ y : Int, mulOk (y % 100000000000000000000000000319) (y % 100000000000000000000000000319) = true := fun y => mulOk_b (by omega) (by omega)
    have m5 : ∀ y : Int, mulOk (y % 10000000000000000000000000000033) (y % 10000000000000000000000000000033) = true := fun y => mulOk_b (by omega) (by omega)
    have l10 : 10 < lim4 := lim_lt (by decide)
    have l79 : 7919 < lim4 := lim_lt (by decide)
    have ex : ∃ q : Int, m__law_take [.ref j, .int m] s = .ok (.int (q % m)) s2 := by
      refine ⟨?q, ?h⟩
      case h =>
        simp [m__law_take, b__law_take, fnB_eq, i0, ha, hm, st, i2, w1, w2, m1, m2, m3, m4, m5, l10, l79]
        rfl
    obtain ⟨q, eq⟩ := ex
    exact ⟨q % m, s2, eq, (mod_pos hm).1, (mod_pos hm).2, ⟨by rw [← hs2]; exact h.lt, a, b, k + 1, g, hb, by omega⟩, by rw [← hs2]; exact .set _ _⟩
theorem run_law_well (ns : List Int) (i : Nat) (s : Sto) (hn : ns.length ≤ 63) (hi : i ≤ 6) : ∃ j s', m__law_well [.fix (ns.map .int), .int i] s = .ok (.ref j) s' ∧ Well s' j 0 ∧ Le s s' := by
  have l10 : 10 < lim4 := lim_lt (by decide)
  have m1 : ∀ x : Int, mulOk x 48611 = true := fun x => mulOk_r (by decide)
  have m2 : ∀ x : Int, mulOk x 7793 = true := fun x => mulOk_r (by decide)
  have m3 : ∀ x : Int, mulOk 3 x = true := fun x => mulOk_l (by decide)
  have m4 : ∀ x : Int, mulOk 13 x = true := fun x => mulOk_l (by decide)
  have key : ∀ (cell tot : Int), ∃ q z, forIts (bodyF (gVar 4) b__law_well_1) (ns.map .int) [some (.fix (ns.map .int)), some (.int i), some (.int cell), some (.int tot), none, none] s
      = .nx [some (.fix (ns.map .int)), some (.int i), some (.int cell), some (.int q), z, none] s := by
    intro cell tot
    refine Exists.elim (forIts_inv (b := bodyF (gVar 4) b__law_well_1)
      (fun k env s' => s' = s ∧ ∃ q z, env = [some (.fix (ns.map .int)), some (.int i), some (.int cell), some (.int q), z, none])
      (ns.map .int) 0 [some (.fix (ns.map .int)), some (.int i), some (.int cell), some (.int tot), none, none] s ⟨rfl, tot, none, rfl⟩ ?step) ?rest
    case rest =>
      rintro env ⟨s', e, rfl, q, z, rfl⟩
      exact ⟨q, z, e⟩
    case step =>
      rintro k x env s1 hx ⟨rfl, q, z, rfl⟩
      obtain ⟨n, hn, rfl⟩ := map_at hx
      have ex : ∃ q2, bodyF (gVar 4) b__law_well_1 (.int n) [some (.fix (ns.map .int)), some (.int i), some (.int cell), some (.int q), z, none] s1 = .nx [some (.fix (ns.map .int)), some (.int i), some (.int cell), some (.int q2), some (.int n), none] s1 := by
        refine ⟨?qq, ?hh⟩
        case hh =>
          simp [b__law_well_1, m1, l10]
          rfl
      obtain ⟨q2, e2⟩ := ex
      exact ⟨_, s1, .inl e2, rfl, q2, _, rfl⟩
  have nz : ∀ a b c : D, newL [a, b, c] s = .ok (.ref s.n) (s.add (.lst [a, b, c])) := fun a b c => newL_ok' s (by rw [size_eq]; simp)
  have ex : ∃ (a q : Int), m__law_well [.fix (ns.map .int), .int i] s = .ok (.ref s.n) (s.add (.lst [.int a, .int (q % 100000000000000000000000000319), .int 0])) := by
    by_cases c : i < ns.length
    · have e0 : L2.atI (ns.map D.int) (i : Int) = some (.int (ns.getD i 0)) := atI_at rfl (getD_at c)
      generalize ns.getD i 0 = n at *
      obtain ⟨q, z, e⟩ := key n (101 + ns.length)
      refine ⟨?a, ?q, ?h⟩
      case h =>
        simp [m__law_well, b__law_well, fnB_eq, c, e0, e, m2, m3, m4, l10, nz]
        rfl
    · obtain ⟨q, z, e⟩ := key (13 * (i : Int) + 7) (101 + ns.length)
      refine ⟨?a2, ?q2, ?h2⟩
      case h2 =>
        simp [m__law_well, b__law_well, fnB_eq, c, e, m2, m3, m4, l10, nz]
        rfl
  obtain ⟨a, q, ex⟩ := ex
  refine ⟨_, _, ex, ⟨Nat.lt_succ_self _, a, _, 0, get_add_same _ _, ?_, Nat.le_refl _⟩, .add _ _⟩
  omega
theorem St_ok {L : Nat} (h : LL L) : ∀ x ∈ St L, x ≠ 0 ∧ (x.natAbs : Int) ≤ L := by
  rcases h with rfl | rfl | rfl | rfl <;> decide
theorem WkL.take {L : Int} {w : List Int} (h : WkL L w) (n : Nat) : WkL L (w.take n) := fun x hx => h x (List.mem_of_mem_take hx)
theorem WkL.drop {L : Int} {w : List Int} (h : WkL L w) (n : Nat) : WkL L (w.drop n) := fun x hx => h x (List.mem_of_mem_drop hx)
theorem WkL.app {L : Int} {u v : List Int} (h : WkL L u) (g : WkL L v) : WkL L (u ++ v) := fun x hx => (List.mem_append.mp hx).elim (h x) (g x)
theorem WkL.bk {L : Int} {w : List Int} (h : WkL L w) : WkL L (Cs.bk w) := by
  intro x hx
  obtain ⟨y, hy, rfl⟩ := List.mem_map.mp (List.mem_reverse.mp hx)
  have := h y hy
  omega
theorem WkL.rp {L : Int} {w : List Int} (h : WkL L w) (t : Nat) : WkL L (List.replicate t w).flatten := by
  intro x hx
  obtain ⟨l, q1, q2⟩ := List.mem_flatten.mp hx
  exact h x ((List.eq_of_mem_replicate q1) ▸ q2)
theorem WkL.red {L : Int} {w : List Int} (h : WkL L w) : WkL L (Cs.red w) := fun x hx => h x (red_mem hx)
theorem WkL.up {L M : Int} {w : List Int} (h : WkL L w) (g : L ≤ M) : WkL M w := fun x hx => ⟨(h x hx).1, by have := (h x hx).2; omega⟩
theorem rep_len (t : Nat) (w : List Int) : ((List.replicate t w).flatten).length = t * w.length := by simp
theorem run_law_walk (j c : Nat) (L M : Nat) (s : Sto) (h : Well s j c) (hL : LL L) (hM : M ≤ 1000) (hc : c < 2 ^ 60) :
    ∃ w s', m__law_walk [.ref j, .int L, .int M] s = .ok (tw w) s' ∧ WkL L w ∧ w.length = M ∧ Well s' j (c + M) ∧ LeW j s s' := by
  obtain ⟨i, s1, e1, g1, l1, hi1, hi2⟩ := run_law_steps L s hL
  have h1 := h.le l1
  have hp := hL.pos
  have len : (rgD 0 M).length = M := by simp [rgD]
  have hij : i ≠ j := by have := h.lt; omega
  have key := goIts_inv (f := turnC (gVar 4) none e__law_walk_1 [some (.ref j), some (.int L), some (.int M), some (.ref i), none])
    (fun k acc s' => ∃ w : List Int, acc = w.map .int ∧ WkL L w ∧ w.length = k ∧ Well s' j (c + k) ∧ LeW j s1 s')
    (rgD 0 M) 0 [] s1 ⟨[], rfl, (fun _ q => nomatch q), rfl, h1, .refl _ _⟩ (by
      rintro k x acc s2 hx ⟨w, rfl, hw, hl, hwell, hle⟩
      obtain ⟨hi, rfl⟩ := rgD_at hx
      rw [Nat.zero_add] at *
      have g2 := (hle.get i hi2 hij).trans g1
      have ln := len_r _ g2
      rw [List.length_map, St_len] at ln
      obtain ⟨d, s3, f1, a1, b1, w1, l3⟩ := run_law_take j _ ((2 * L : Nat) : Int) s2 hwell (by omega) (by omega) (by omega)
      have g3 := (l3.get i (Nat.lt_of_lt_of_le hi2 hle.n) hij).trans g2
      have at1 : L2.atI ((St L).map D.int) d = some (.int ((St L).getD d.toNat 0)) := atI_at (by omega) (getD_at (by rw [St_len]; omega))
      have hm : (St L).getD d.toNat 0 ∈ St L := by
        have q : d.toNat < (St L).length := by rw [St_len]; omega
        rw [List.getD_eq_getElem?_getD, List.getElem?_eq_getElem q]
        exact List.getElem_mem q
      refine ⟨some (.int ((St L).getD d.toNat 0)), s3, ?_, w ++ [(St L).getD d.toNat 0], ?_, ?_, ?_, ?_, hle.trans l3⟩
      · simp only [turnC_none, g_Var, bind_ok', List.set_cons_zero, List.set_cons_succ, e__law_walk_1, v_Bin, v_Call, v_Bi, v_Var, a_Cons, a_Nil, List.getElem?_cons_zero, List.getElem?_cons_succ, getV_some, ln, f1, ix_r _ g3, at1, okO_some]
      · simp [conO]
      · intro y hy
        rcases List.mem_append.mp hy with hy | hy
        · exact hw y hy
        · have : y = (St L).getD d.toNat 0 := by simpa using hy
          rw [this]
          exact St_ok hL _ hm
      · simp [hl]
      · exact w1.up (by omega))
  obtain ⟨ys, s', e, w, hy, hw, hl, hwell, hle⟩ := key
  rw [len, Nat.zero_add] at *
  rw [List.nil_append] at hy
  subst hy
  have n1 := newL_ok' s' (xs := w.map D.int) (by rw [List.length_map, size_eq]; omega)
  have g3 := get_add_same s' (.lst (w.map .int))
  have b1 : bigI (M : Int) = true := bigI_of (by omega)
  refine ⟨w, s'.add (.lst (w.map .int)), ?_, hw, hl, hwell.le (.add _ _), ((LeW.of l1).trans hle).trans (.of (.add _ _))⟩
  simp only [m__law_walk, b__law_walk, fnB_eq, List.length_cons, List.length_nil, List.map_cons, List.map_nil, List.cons_append, List.nil_append, Nat.reduceAdd, Nat.reduceSub, List.replicate, if_true, s_Cons, s_Asg, g_Var, v_Call, v_Bi, v_Comp, a_Cons, a_Nil, v_Var, List.getElem?_cons_zero, List.getElem?_cons_succ, getV_some, bind_ok', e1, st_ok', List.set_cons_zero, List.set_cons_succ, then_nx, s_Ret, i_Rg1, rg1W_ok, b1, Int.toNat_natCast, goWk_its, wipeE_nil, wipeE_cons, e, n1, tuple_r _ g3, then_rt, fnR_rt]
theorem comp_filter2 {i j : Nat} {c e : Sem} {env : Cs.Env} {S : List Int} {s : Sto} (p : Int → Bool) (hj : j < s.n) (hg : s.get j = some (.lst (S.map .int))) (hS : S.length ≤ 1000)
    (h : ∀ x ∈ S, ∀ s', Le s s' → Ev (c.t (env.set i (some (.int x))) s') s' (p x) ∧ ∀ s'', e.v (env.set i (some (.int x))) s'' = .ok (.int x) s'') :
    Ev (goWk (turnC (gVar i) (some c) e env) (.live j) s) s ((S.filter p).map .int) := by
  have := goWk_live_fun (f := turnC (gVar i) (some c) e env) (fun d => match d with | .int x => if p x then some (D.int x) else none | d => none) s hj hg (by rw [List.length_map]; omega) (by
    intro x hx s' hl
    obtain ⟨n, hn, rfl⟩ := List.mem_map.mp hx
    obtain ⟨⟨s2, h1, l2⟩, h2⟩ := h n hn s' hl
    refine ⟨s2, ?_, l2⟩
    simp only [turnC_some, g_Var, bind_ok', h1, h2]
    cases p n <;> rfl)
  obtain ⟨s1, e1, l1⟩ := this
  refine ⟨s1, e1.trans (congrArg (fun z => R.ok z s1) ?_), l1⟩
  induction S with
  | nil => rfl
  | cons x S ih =>
    clear e1 h hg hS ih
    generalize x :: S = T
    induction T with
    | nil => rfl
    | cons y T ih =>
      rw [List.map_cons, List.filterMap_cons, List.filter_cons]
      cases q : p y with
      | true => simp only [q, if_true]; rw [List.map_cons, ih]
      | false => simp only [q, Bool.false_eq_true, if_false]; exact ih
theorem eqD_rr {s : Sto} {i j : Nat} {xs ys : List Int} (h1 : s.get i = some (.lst (xs.map .int))) (h2 : s.get j = some (.lst (ys.map .int))) : eqD (.ref i) (.ref j) s = .ok (.bl (decide (xs = ys))) s := by
  have e1 : ∀ {i : Nat} {xs : List Int}, s.get i = some (.lst (xs.map .int)) → pyd s 12 (.ref i) = some (.list (xs.map PyData.int)) := by
    intro i xs h
    show (match s.get i with | some (.lst xs) => (mapO (pyd s 11) xs).map PyData.list | _ => none) = _
    rw [h]
    dsimp only
    rw [pyd_ints]; rfl
  unfold eqD
  rw [e1 h1, e1 h2]
  show R.ok (D.bl (PyData.eqv _ _)) s = _
  rw [show PyData.eqv (.list (xs.map PyData.int)) (.list (ys.map PyData.int)) = PyData.eqvAll (xs.map .int) (ys.map .int) by simp [PyData.eqv], eqv_ints]
theorem eqv_tws (ws : List (List Int)) : PyData.eqvAll (ws.map fun w => PyData.tuple (w.map .int)) (ws.map fun w => PyData.tuple (w.map .int)) = true := by
  induction ws with
  | nil => rfl
  | cons w ws ih =>
    show (PyData.eqv (.tuple (w.map .int)) (.tuple (w.map .int)) && PyData.eqvAll _ _) = true
    rw [ih]
    rw [show PyData.eqv (.tuple (w.map PyData.int)) (.tuple (w.map PyData.int)) = PyData.eqvAll (w.map .int) (w.map .int) by simp [PyData.eqv], eqv_ints]
    simp
theorem pyd_tws (s : Sto) (k : Nat) (ws : List (List Int)) : mapO (pyd s (k + 1)) (ws.map tw) = some (ws.map fun w => PyData.tuple (w.map .int)) := by
  induction ws with
  | nil => rfl
  | cons w ws ih =>
    simp only [List.map_cons, mapO, pyd_tw, ih]
theorem neD_tws {s : Sto} {i j : Nat} {ws : List (List Int)} (h1 : s.get i = some (.lst (ws.map tw))) (h2 : s.get j = some (.lst (ws.map tw))) : neD (.ref i) (.ref j) s = .ok (.bl false) s := by
  have e1 : ∀ {i : Nat}, s.get i = some (.lst (ws.map tw)) → pyd s 12 (.ref i) = some (.list (ws.map fun w => PyData.tuple (w.map .int))) := by
    intro i h
    show (match s.get i with | some (.lst xs) => (mapO (pyd s 11) xs).map PyData.list | _ => none) = _
    rw [h]
    dsimp only
    rw [pyd_tws]; rfl
  unfold neD
  rw [e1 h1, e1 h2]
  show R.ok (D.bl (!PyData.eqv _ _)) s = _
  rw [show PyData.eqv (.list (ws.map fun w => PyData.tuple (w.map .int))) (.list (ws.map fun w => PyData.tuple (w.map .int))) = PyData.eqvAll (ws.map fun w => PyData.tuple (w.map .int)) (ws.map fun w => PyData.tuple (w.map .int)) by simp [PyData.eqv], eqv_tws]
  rfl
end K53

namespace K53
open PySem Cs
inductive Mv where
  | lot (s : Int) (l : List Int)
  | nm (r : List Int)
  deriving DecidableEq
def mvD : Mv → D
  | .lot s l => .tup [.str "lot", .int s, tw l]
  | .nm r => .tup [.str "names", tw r]
def idL (L : Nat) : List Int := (List.range L).map fun i : Nat => ((i : Int) + 1)
def letW (m : Mv) (l : Int) : List Int := match m with
  | .nm r => [r.getD (l - 1).toNat 0]
  | .lot s t => if (s.natAbs : Int) = l then [l] else (if t.contains (-l) = true then [-s] else []) ++ [l] ++ (if t.contains l = true then [s] else [])
def turned (L : Nat) (m : Mv) : List (List Int) := (idL L).map (letW m)
def flip (s x : Int) : Int := if x = s then -x else x
def srt (L : Nat) (xs : List Int) : List Int := (St L).filter fun x => xs.contains x
def plc (r : List Int) (l : Int) : List Int := ((List.range r.length).filter fun i => decide (((r.getD i 0).natAbs : Int) = l)).map fun i => if 0 < r.getD i 0 then (i : Int) + 1 else -(i : Int) - 1
def nb (r : List Int) : List Int := (idL r.length).map fun l => (plc r l).getD 0 0
def nbP (r : List Int) : List Int := (List.range r.length).foldl (fun f i => f.set ((r.getD i 0).natAbs - 1) (if 0 < r.getD i 0 then (i : Int) + 1 else -(i : Int) - 1)) (List.replicate r.length 0)
def backM (L : Nat) : Mv → Mv
  | .lot s t => .lot (-s) (srt L (t.map (flip s)))
  | .nm r => .nm (nb r)
def part (ws : List (List Int)) (s : Int) : List Int := if 0 < s then ws.getD (s - 1).toNat [] else bk (ws.getD (-s - 1).toNat [])
def led (ws : List (List Int)) (w : List Int) : List Int := (w.foldl (fun st s => (part ws s).foldl push st) []).reverse
def subl : List Int → List (List Int)
  | [] => [[]]
  | x :: xs => (subl xs).map (x :: ·) ++ subl xs
theorem filter_subl (p : Int → Bool) : ∀ xs : List Int, xs.filter p ∈ subl xs
  | [] => by simp [subl]
  | x :: xs => by
    have ih := filter_subl p xs
    rw [List.filter_cons]
    unfold subl
    cases p x with
    | true => exact List.mem_append_left _ (List.mem_map.mpr ⟨_, ih, rfl⟩)
    | false => exact List.mem_append_right _ ih
def rows : Nat → List Int → List (List Int)
  | 0, _ => [[]]
  | n + 1, S => (rows n S).flatMap fun r => S.map fun x => x :: r
theorem rows_mem {S : List Int} : ∀ {r : List Int} {n : Nat}, r.length = n → (∀ x ∈ r, x ∈ S) → r ∈ rows n S
  | [], 0, _, _ => by simp [rows]
  | x :: r, n + 1, h, hm => by
    unfold rows
    refine List.mem_flatMap.mpr ⟨r, rows_mem (by simpa using h) (fun y hy => hm y (List.mem_cons_of_mem _ hy)), List.mem_map.mpr ⟨x, hm x List.mem_cons_self, rfl⟩⟩
def onceB (L : Nat) (r : List Int) : Bool := (idL L).all fun l => decide ((r.filter fun x => decide ((x.natAbs : Int) = l)).length = 1)
def okB (L : Nat) : Mv → Bool
  | .lot s t => (St L).contains s && decide (2 ≤ t.length) && t.contains s && !t.contains (-s) && (subl (St L)).contains t
  | .nm r => (rows L (St L)).contains r && onceB L r && decide (r ≠ idL L)
def chk (L : Nat) (m : Mv) : Bool :=
  (idL L).all (fun l => decide (led (turned L (backM L m)) ((turned L m).getD (l - 1).toNat []) = [l]) && decide (led (turned L m) ((turned L (backM L m)).getD (l - 1).toNat []) = [l])) &&
  decide (backM L (backM L m) = m) &&
  (match m, backM L m with
   | .lot s t, .lot s' t' => (St L).contains s' && decide (2 ≤ t'.length) && t'.contains s' && !t'.contains (-s') && decide (s' = -s) && ((t.map ord).zip (t.map ord).tail).all (fun p => decide (p.1 < p.2)) && decide (t.map (flip s)).Nodup && (t.map (flip s)).all (fun x => (St L).contains x)
   | .nm r, .nm r' => decide (nbP r = r') && (r.map fun x => (x.natAbs : Int)).isPerm (idL L) && onceB L r' && decide (r' ≠ idL L) && decide (r'.length = L) && r'.all (fun x => (St L).contains x) && (idL L).all (fun l => !(plc r l).isEmpty) && decide (nbP r' = nb r')
   | _, _ => false)
def allLots (L : Nat) : List Mv := (subl (St L)).flatMap fun t => (t.filter fun s => !t.contains (-s) && decide (2 ≤ t.length)).map fun s => .lot s t
def allNms (L : Nat) : List Mv := ((rows L (St L)).filter fun r => onceB L r && decide (r ≠ idL L)).map .nm
theorem chk_all : ∀ L, LL L → (allLots L).all (chk L) = true ∧ (allNms L).all (chk L) = true := by
  intro L h
  rcases h with rfl | rfl | rfl | rfl
  · decide +kernel
  · decide +kernel
  · decide +kernel
  · decide +kernel
theorem subl_mem : ∀ {S t : List Int}, t ∈ subl S → (∀ x ∈ t, x ∈ S) ∧ t.length ≤ S.length
  | [], t, h => by
    have : t = [] := by simpa [subl] using h
    subst this
    exact ⟨fun x hx => by simp at hx, Nat.le_refl _⟩
  | x :: S, t, h => by
    unfold subl at h
    rcases List.mem_append.mp h with h | h
    · obtain ⟨u, hu, rfl⟩ := List.mem_map.mp h
      obtain ⟨h1, h2⟩ := subl_mem hu
      refine ⟨fun y hy => ?_, by simp only [List.length_cons]; omega⟩
      rcases List.mem_cons.mp hy with rfl | hy
      · exact List.mem_cons_self
      · exact List.mem_cons_of_mem _ (h1 y hy)
    · obtain ⟨h1, h2⟩ := subl_mem h
      exact ⟨fun y hy => List.mem_cons_of_mem _ (h1 y hy), by simp only [List.length_cons]; omega⟩
theorem rows_len {S : List Int} : ∀ {n : Nat} {r : List Int}, r ∈ rows n S → r.length = n ∧ ∀ x ∈ r, x ∈ S
  | 0, r, h => by
    have : r = [] := by simpa [rows] using h
    subst this
    exact ⟨rfl, fun x hx => by simp at hx⟩
  | n + 1, r, h => by
    unfold rows at h
    obtain ⟨u, hu, h⟩ := List.mem_flatMap.mp h
    obtain ⟨x, hx, rfl⟩ := List.mem_map.mp h
    obtain ⟨h1, h2⟩ := rows_len hu
    refine ⟨by rw [List.length_cons, h1], fun y hy => ?_⟩
    rcases List.mem_cons.mp hy with rfl | hy
    · exact hx
    · exact h2 y hy
theorem chk_of {L : Nat} (hL : LL L) {m : Mv} (h : okB L m = true) : chk L m = true := by
  obtain ⟨h1, h2⟩ := chk_all L hL
  cases m with
  | lot s t =>
    refine List.all_eq_true.mp h1 _ ?_
    unfold okB at h
    simp only [Bool.and_eq_true, List.contains_iff_mem, decide_eq_true_eq, Bool.not_eq_true'] at h
    obtain ⟨⟨⟨⟨a, b⟩, c⟩, d⟩, e⟩ := h
    refine List.mem_flatMap.mpr ⟨t, e, List.mem_map.mpr ⟨s, List.mem_filter.mpr ⟨c, ?_⟩, rfl⟩⟩
    rw [d, decide_eq_true b]; rfl
  | nm r =>
    refine List.all_eq_true.mp h2 _ ?_
    unfold okB at h
    simp only [Bool.and_eq_true, List.contains_iff_mem] at h
    obtain ⟨⟨a, b⟩, c⟩ := h
    exact List.mem_map.mpr ⟨r, List.mem_filter.mpr ⟨a, by rw [b, c]; rfl⟩, rfl⟩
theorem back_back {L : Nat} (hL : LL L) {m : Mv} (h : okB L m = true) : backM L (backM L m) = m := by
  have := chk_of hL h
  unfold chk at this
  simp only [Bool.and_eq_true, decide_eq_true_eq] at this
  exact this.1.2
theorem led_back {L : Nat} (hL : LL L) {m : Mv} (h : okB L m = true) : ∀ l ∈ idL L, led (turned L (backM L m)) ((turned L m).getD (l - 1).toNat []) = [l] ∧ led (turned L m) ((turned L (backM L m)).getD (l - 1).toNat []) = [l] := by
  have := chk_of hL h
  unfold chk at this
  simp only [Bool.and_eq_true] at this
  intro l hl
  have q := List.all_eq_true.mp this.1.1 l hl
  simpa only [Bool.and_eq_true, decide_eq_true_eq] using q
structure LotF (L : Nat) (s : Int) (t : List Int) : Prop where
  hs : s ∈ St L
  h2 : 2 ≤ t.length
  hst : s ∈ t
  hns : t.contains (-s) = false
  sub : ∀ x ∈ t, x ∈ St L
  len : t.length ≤ 8
  asc : ((t.map ord).zip (t.map ord).tail).all (fun p => decide (p.1 < p.2)) = true
  nd : (t.map (flip s)).Nodup
  fsub : ∀ x ∈ t.map (flip s), x ∈ St L
  ok : okB L (.lot (-s) (srt L (t.map (flip s)))) = true
theorem lot_facts {L : Nat} (hL : LL L) {s : Int} {t : List Int} (h : okB L (.lot s t) = true) : LotF L s t := by
  have c := chk_of hL h
  unfold okB at h
  simp only [Bool.and_eq_true, List.contains_iff_mem, decide_eq_true_eq, Bool.not_eq_true'] at h
  obtain ⟨⟨⟨⟨a, b⟩, c1⟩, d⟩, e⟩ := h
  unfold chk backM at c
  simp only [Bool.and_eq_true, decide_eq_true_eq, List.contains_iff_mem, Bool.not_eq_true'] at c
  obtain ⟨_, ⟨⟨⟨⟨⟨⟨⟨q1, q2⟩, q3⟩, q4⟩, q5⟩, q6⟩, q7⟩, q8⟩⟩ := c
  obtain ⟨s1, s2⟩ := subl_mem e
  refine ⟨a, b, c1, d, s1, by rw [St_len] at s2; have := hL.pos; omega, q6, q7, fun x hx => by simpa using List.all_eq_true.mp q8 x hx, ?_⟩
  unfold okB
  simp only [Bool.and_eq_true, decide_eq_true_eq, List.contains_iff_mem, Bool.not_eq_true']
  exact ⟨⟨⟨⟨q1, q2⟩, q3⟩, q4⟩, filter_subl _ _⟩
structure NmF (L : Nat) (r : List Int) : Prop where
  len : r.length = L
  sub : ∀ x ∈ r, x ∈ St L
  nid : r ≠ idL L
  nbp : nbP r = nb r
  perm : (r.map fun x => (x.natAbs : Int)).Perm (idL L)
  plc : ∀ l ∈ idL L, (plc r l).isEmpty = false
  ok : okB L (.nm (nb r)) = true
theorem nm_facts {L : Nat} (hL : LL L) {r : List Int} (h : okB L (.nm r) = true) : NmF L r := by
  have c := chk_of hL h
  unfold okB at h
  simp only [Bool.and_eq_true, List.contains_iff_mem, decide_eq_true_eq] at h
  obtain ⟨⟨a, b⟩, c1⟩ := h
  unfold chk backM at c
  simp only [Bool.and_eq_true, decide_eq_true_eq] at c
  obtain ⟨_, ⟨⟨⟨⟨⟨⟨⟨q1, q2⟩, q3⟩, q4⟩, q5⟩, q6⟩, q7⟩, q8⟩⟩ := c
  obtain ⟨s1, s2⟩ := rows_len a
  refine ⟨s1, s2, c1, q1, List.isPerm_iff.mp q2, fun l hl => by simpa using List.all_eq_true.mp q7 l hl, ?_⟩
  unfold okB
  simp only [Bool.and_eq_true, decide_eq_true_eq, List.contains_iff_mem]
  exact ⟨⟨rows_mem q5 (fun x hx => by simpa using List.all_eq_true.mp q6 x hx), q3⟩, q4⟩
theorem ok_back {L : Nat} (hL : LL L) {m : Mv} (h : okB L m = true) : okB L (backM L m) = true := by
  cases m with
  | lot s t => exact (lot_facts hL h).ok
  | nm r => exact (nm_facts hL h).ok
theorem idL_mem {L : Nat} {l : Int} : l ∈ idL L ↔ 1 ≤ l ∧ l ≤ L := by
  unfold idL
  rw [List.mem_map]
  constructor
  · rintro ⟨i, hi, rfl⟩
    rw [List.mem_range] at hi; omega
  · intro h
    exact ⟨(l - 1).toNat, List.mem_range.mpr (by omega), by omega⟩
theorem rg_id (L : Nat) : rgD 1 L = (idL L).map .int := by
  unfold rgD idL
  rw [List.map_map]
  refine List.map_congr_left fun i _ => ?_
  show D.int (1 + (i : Int)) = .int ((i : Int) + 1)
  rw [Int.add_comm]
theorem ix30 (a b c : D) (s : Sto) : ixD (.tup [a, b, c]) (.int 0) s = .ok a s := rfl
theorem ix31 (a b c : D) (s : Sto) : ixD (.tup [a, b, c]) (.int 1) s = .ok b s := rfl
theorem ix32 (a b c : D) (s : Sto) : ixD (.tup [a, b, c]) (.int 2) s = .ok c s := rfl
theorem ix20 (a b : D) (s : Sto) : ixD (.tup [a, b]) (.int 0) s = .ok a s := rfl
theorem ix21 (a b : D) (s : Sto) : ixD (.tup [a, b]) (.int 1) s = .ok b s := rfl
theorem sll (s : Sto) : eqD (.str "lot") (.str "lot") s = .ok (.bl true) s := by rw [eqD_str _ _ s (by decide +kernel) (by decide +kernel)]; rfl
theorem snl (s : Sto) : eqD (.str "names") (.str "lot") s = .ok (.bl false) s := by rw [eqD_str _ _ s (by decide +kernel) (by decide +kernel)]; rfl
theorem snn (s : Sto) : eqD (.str "names") (.str "names") s = .ok (.bl true) s := by rw [eqD_str _ _ s (by decide +kernel) (by decide +kernel)]; rfl
theorem sln (s : Sto) : eqD (.str "lot") (.str "names") s = .ok (.bl false) s := by rw [eqD_str _ _ s (by decide +kernel) (by decide +kernel)]; rfl
theorem nnn (s : Sto) : neD (.str "names") (.str "names") s = .ok (.bl false) s := by rw [neD_str _ _ s (by decide +kernel) (by decide +kernel)]; rfl
theorem len_tw (w : List Int) (s : Sto) : lenB [tw w] s = .ok (.int w.length) s := by unfold tw; rw [len_tup, List.length_map]
theorem ix_tw {w : List Int} {i : Int} {j : Nat} (hi : i = (j : Int)) (h : j < w.length) (s : Sto) : ixD (tw w) (.int i) s = .ok (.int (w.getD j 0)) s := by
  unfold tw
  rw [ix_t, atI_at hi (getD_at h)]
  rfl
theorem abs_eq (i : Int) : (if i < 0 then -i else i) = (i.natAbs : Int) := by split <;> omega
theorem St_nz {L : Nat} (hL : LL L) {s : Int} (h : s ∈ St L) : 1 ≤ s.natAbs ∧ (s.natAbs : Int) ≤ L := by
  have := St_ok hL s h
  omega
theorem step_ok {L : Nat} (hL : LL L) {x : Int} (h : x ∈ St L) (s : Sto) : m_is_step [.int x, .int L] s = .ok (.bl true) s := by
  rw [run_is_step, decide_eq_true (St_nz hL h)]
theorem run_led_letter {L : Nat} (hL : LL L) {m : Mv} (h : okB L m = true) {l : Int} (hl : l ∈ idL L) (s : Sto) : m_led_letter [mvD m, .int l] s = .ok (tw (letW m l)) s := by
  obtain ⟨hl1, hl2⟩ := idL_mem.mp hl
  cases m with
  | nm r =>
    have f := nm_facts hL h
    have hlen := f.len
    have ix := ix_tw (w := r) (i := l - 1) (j := (l - 1).toNat) (by omega) (by omega) s
    have z : (0 + 1 : Nat) ≤ 16777216 := by decide
    simp only [mvD, m_led_letter, b_led_letter, fnB_eq, List.length_cons, List.length_nil, List.map_cons, List.map_nil, List.cons_append, List.nil_append, Nat.reduceAdd, Nat.reduceSub, List.replicate, if_true, s_Cons, s_If, t_Bin, v_Bin, v_Var, v_C, List.getElem?_cons_zero, List.getElem?_cons_succ, getV_some, bind_ok', ix20, ix21, snn, truth_bl, st_ok', s_Ret, v_Tup, a_Cons, a_Nil, sub_ii, ix, size_eq, z, then_rt, fnR_rt]
    rfl
  | lot t u =>
    have z : (0 + 1 : Nat) ≤ 16777216 := by decide
    have z0 : (0 : Nat) ≤ 16777216 := by decide
    have a1 := abs_eq t
    by_cases q1 : (t.natAbs : Int) = l
    · have c1 : ((t.natAbs : Int) == l) = true := by simpa using q1
      simp only [mvD, m_led_letter, b_led_letter, fnB_eq, List.length_cons, List.length_nil, List.map_cons, List.map_nil, List.cons_append, List.nil_append, Nat.reduceAdd, Nat.reduceSub, List.replicate, if_true, s_Cons, s_If, t_Bin, v_Bin, v_Bi, v_Var, v_C, List.getElem?_cons_zero, List.getElem?_cons_succ, getV_some, bind_ok', ix30, ix31, ix32, sln, truth_bl, st_ok', Bool.false_eq_true, if_false, s_Nil, then_nx, s_Par, a_Cons, a_Nil, par2_ok, List.set_cons_zero, List.set_cons_succ, abs_i, a1, eqD_ii, q1, beq_self_eq_true, s_Ret, v_Tup, size_eq, z, then_rt, fnR_rt, letW]
      rfl
    · have c1 : ((t.natAbs : Int) == l) = false := by simpa using q1
      have tp : ∀ xs ys : List D, xs.length ≤ 2 → ys.length ≤ 2 → ∀ s, addD (.tup xs) (.tup ys) s = .ok (.tup (xs ++ ys)) s := fun xs ys h1 h2 s => by rw [add_tt, if_pos (by rw [size_eq]; omega)]
      have i1 := fun s => in_tw false (-l) u s
      have i2 := fun s => in_tw false l u s
      simp only [Bool.xor_false] at i1 i2
      have ev : ∀ b1 b2 : Bool, u.contains (-l) = b1 → u.contains l = b2 → m_led_letter [mvD (.lot t u), .int l] s = .ok (tw ((if b1 = true then [-t] else []) ++ [l] ++ (if b2 = true then [t] else []))) s := by
        intro b1 b2 e1 e2
        rw [e1] at i1
        rw [e2] at i2
        cases b1 <;> cases b2 <;>
        · simp only [mvD, m_led_letter, b_led_letter, fnB_eq, List.length_cons, List.length_nil, List.map_cons, List.map_nil, List.cons_append, List.nil_append, Nat.reduceAdd, Nat.reduceSub, List.replicate, if_true, s_Cons, s_If, t_Bin, v_Bin, v_Bi, v_Un, v_Var, v_C, List.getElem?_cons_zero, List.getElem?_cons_succ, getV_some, bind_ok', ix30, ix31, ix32, sln, truth_bl, st_ok', Bool.false_eq_true, if_false, s_Nil, then_nx, s_Par, a_Cons, a_Nil, par2_ok, List.set_cons_zero, List.set_cons_succ, abs_i, a1, eqD_ii, c1, s_Asg, g_Var, v_If, neg_i, i1, i2, s_Ret, v_Tup, size_eq, z, z0, add_tt, Nat.reduceLeDiff, then_rt, fnR_rt]
          rfl
      rw [ev _ _ rfl rfl]
      unfold letW
      dsimp only
      rw [if_neg q1]
theorem trn_len (L : Nat) (m : Mv) : (turned L m).length = L := by simp [turned, idL]
def trnD (L : Nat) (m : Mv) : D := .tup [.int L, .tup ((turned L m).map tw)]
theorem run_turning_of {L : Nat} (hL : LL L) {m : Mv} (h : okB L m = true) (s : Sto) : Ev (m_turning_of [.int L, mvD m] s) s (trnD L m) := by
  have hp := hL.pos
  obtain ⟨s1, e, l⟩ := goIts_map (f := turnC (gVar 2) none e_turning_of_1 [some (.int L), some (mvD m), none]) (fun d => match d with | .int l => tw (letW m l) | d => d) (rgD 1 L) s fun x hx s' hl => by
    rw [rg_id] at hx
    obtain ⟨i, hi, rfl⟩ := List.mem_map.mp hx
    refine ⟨s', ?_, .refl _⟩
    simp only [turnC_none, g_Var, bind_ok', List.set_cons_zero, List.set_cons_succ, e_turning_of_1, v_Call, a_Cons, a_Nil, v_Var, List.getElem?_cons_zero, List.getElem?_cons_succ, getV_some, run_led_letter hL h hi]
  have e2 : ((rgD 1 L).map fun d => match d with | .int l => tw (letW m l) | d => d) = (turned L m).map tw := by
    rw [rg_id, List.map_map]
    unfold turned
    rw [List.map_map]
    rfl
  rw [e2] at e
  have n1 := newL_ok' s1 (xs := (turned L m).map tw) (by rw [List.length_map, trn_len, size_eq]; omega)
  have g1 := get_add_same s1 (.lst ((turned L m).map tw))
  refine ⟨s1.add (.lst ((turned L m).map tw)), ?_, l.trans (.add _ _)⟩
  have b1 : bigI 1 = true ∧ bigI ((L : Int) + 1) = true := ⟨bigI_of (by decide), bigI_of (by omega)⟩
  have n2 : ((L : Int) + 1 - 1).toNat = L := by omega
  have z : (0 + 1 + 1 : Nat) ≤ 16777216 := by decide
  simp only [m_turning_of, b_turning_of, fnB_eq, List.length_cons, List.length_nil, List.map_cons, List.map_nil, List.cons_append, List.nil_append, Nat.reduceAdd, Nat.reduceSub, List.replicate, if_true, s_Cons, s_Ret, v_Tup, a_Cons, a_Nil, v_Bi, v_Bin, v_C, v_Var, v_Comp, i_Rg2, add_ii, rg2W_ok, b1, and_self, n2, List.getElem?_cons_zero, List.getElem?_cons_succ, getV_some, bind_ok', goWk_its, wipeE_nil, wipeE_cons, List.set_cons_zero, List.set_cons_succ, e, n1, tuple_r _ g1, size_eq, z, st_ok', then_rt, fnR_rt]
  rfl
theorem comp_map {g : Nat} {e : Sem} {env : Cs.Env} (F : Int → D) (w : List Int) (s : Sto) (h : ∀ x ∈ w, ∀ s', e.v (env.set g (some (.int x))) s' = .ok (F x) s') :
    goIts (turnC (gVar g) none e env) (w.map .int) s = .ok (w.map F) s := by
  induction w with
  | nil => rfl
  | cons x w ih =>
    have ih := ih fun y hy => h y (List.mem_cons_of_mem _ hy)
    show (turnC (gVar g) none e env (.int x) s).bind _ = _
    simp only [turnC_none, g_Var, bind_ok', h x List.mem_cons_self, ih]
    rfl
theorem run_is_lot {L : Nat} (hL : LL L) {a : Int} {t : List Int} (F : LotF L a t) (s : Sto) : Ev (m_is_lot [.int L, .int a, tw t] s) s (.bl true) := by
  have hp := hL.pos
  have e1 := comp_map (g := 3) (e := e_is_lot_1) (env := [some (.int L), some (.int a), some (tw t), none, none, none, none, none]) (fun _ => .bl true) t s fun x hx s' => by
    simp only [List.set_cons_zero, List.set_cons_succ, e_is_lot_1, v_Call, a_Cons, a_Nil, v_Var, List.getElem?_cons_zero, List.getElem?_cons_succ, getV_some, bind_ok', step_ok hL (F.sub x hx)]
  have eb : (t.map fun _ => D.bl true) = (t.map fun _ => true).map D.bl := by simp
  rw [eb] at e1
  have hl := F.len
  have n1 := newL_ok' s (xs := (t.map fun _ => true).map D.bl) (by rw [List.length_map, List.length_map, size_eq]; omega)
  have al := all_r _ (get_add_same s (.lst ((t.map fun _ => true).map D.bl)))
  have ea : (t.map fun _ => true).all id = true := by simp
  rw [ea] at al
  have l1 : Le s (s.add (.lst ((t.map fun _ => true).map D.bl))) := .add _ _
  generalize s.add (.lst ((t.map fun _ => true).map D.bl)) = s1 at *
  have e2 := comp_map (g := 3) (e := e_is_lot_2) (env := [some (.int L), some (.int a), some (tw t), none, none, none, none, none]) (fun x => .int (ord x)) t s1 fun x hx s' => by
    simp only [List.set_cons_zero, List.set_cons_succ, e_is_lot_2, v_Call, a_Cons, a_Nil, v_Var, List.getElem?_cons_zero, List.getElem?_cons_succ, getV_some, bind_ok', run_step_order]
  have em : (t.map fun x => D.int (ord x)) = (t.map ord).map .int := by rw [List.map_map]; rfl
  rw [em] at e2
  have n2 := newL_ok' s1 (xs := (t.map ord).map D.int) (by rw [List.length_map, List.length_map, size_eq]; omega)
  have g2 := get_add_same s1 (.lst ((t.map ord).map .int))
  have l2 : Le s1 (s1.add (.lst ((t.map ord).map .int))) := .add _ _
  have q2 : s1.n < (s1.add (.lst ((t.map ord).map .int))).n := Nat.lt_succ_self _
  generalize s1.add (.lst ((t.map ord).map .int)) = s2 at *
  have c1 : cutI (t.map ord) (some (1 : Int)) none = (t.map ord).tail := (cut_from (w := t.map ord) (i := 1) (k := 1) rfl).trans List.drop_one
  have p3 := slc_r _ g2 (some (1 : Int)) none
  have g3 := get_add_same s2 (.lst (cutD ((t.map ord).map .int) (some (1 : Int)) none))
  have l3 : Le s2 (s2.add (.lst (cutD ((t.map ord).map .int) (some (1 : Int)) none))) := .add _ _
  have q3 : s2.n < (s2.add (.lst (cutD ((t.map ord).map .int) (some (1 : Int)) none))).n := Nat.lt_succ_self _
  rw [cut_map, c1] at p3 g3 l3 q3
  generalize s2.add (.lst ((t.map ord).tail.map .int)) = s3 at *
  have g23 := (l3.get _ q2).trans g2
  have q23 := Nat.lt_of_lt_of_le q2 l3.n
  obtain ⟨s4, e4, l4⟩ := goWk_zip (f := turnC (gTup 2 (gsCons (gVar 6) (gsCons (gVar 7) gsNil))) none e_is_lot_3 [some (.int L), some (.int a), some (tw t), none, some (.ref s1.n), none, none, none])
    (fun x y => match x, y with | .int i, .int j => .bl (decide (i < j)) | _, _ => .non) s3 q23 q3 g23 g3 (by rw [List.length_map, List.length_map]; omega) (fun x y s' _ hm => by
      obtain ⟨i, _, rfl⟩ := List.mem_map.mp (List.of_mem_zip hm).1
      obtain ⟨j, _, rfl⟩ := List.mem_map.mp (List.of_mem_zip hm).2
      refine ⟨s', ?_, .refl _⟩
      simp only [turnC_none, g_Tup, List.length_cons, List.length_nil, Nat.reduceAdd, if_true, gs_Cons, gs_Nil, g_Var, bind_ok', List.set_cons_zero, List.set_cons_succ, e_is_lot_3, v_Bin, v_Var, List.getElem?_cons_zero, List.getElem?_cons_succ, getV_some, ltI_ii])
  have ez : (((t.map ord).map D.int).zip ((t.map ord).tail.map D.int)).map (fun p => match p.1, p.2 with | .int i, .int j => D.bl (decide (i < j)) | _, _ => .non) = (((t.map ord).zip (t.map ord).tail).map fun p => decide (p.1 < p.2)).map D.bl := by
    rw [List.zip_map, List.map_map, List.map_map]
    rfl
  rw [ez] at e4
  have hz : ((((t.map ord).zip (t.map ord).tail).map fun p => decide (p.1 < p.2)).map D.bl).length ≤ sizeLine := by
    rw [List.length_map, List.length_map, List.length_zip, List.length_map, size_eq]; omega
  have n5 := newL_ok' s4 hz
  have al5 := all_r _ (get_add_same s4 (.lst ((((t.map ord).zip (t.map ord).tail).map fun p => decide (p.1 < p.2)).map D.bl)))
  have easc : (((t.map ord).zip (t.map ord).tail).map fun p => decide (p.1 < p.2)).all id = true := by
    rw [List.all_map]; exact F.asc
  rw [easc] at al5
  have l5 : Le s4 (s4.add (.lst ((((t.map ord).zip (t.map ord).tail).map fun p => decide (p.1 < p.2)).map D.bl))) := .add _ _
  generalize s4.add (.lst ((((t.map ord).zip (t.map ord).tail).map fun p => decide (p.1 < p.2)).map D.bl)) = s5 at *
  have i0 : isiD [.tuple] (tw t) s = .ok (.bl true) s := rfl
  have d2 : decide ((t.length : Int) < 2) = false := decide_eq_false (by have := F.h2; omega)
  have i1 := in_tw false a t s5
  have i2 := in_tw true (-a) t s5
  rw [show t.contains a = true from List.contains_iff_mem.mpr F.hst] at i1
  rw [F.hns] at i2
  simp only [Bool.xor_false, Bool.false_xor] at i1 i2
  have gen : ∀ (l1 : Nat), True := fun _ => trivial
  refine ⟨s5, ?_, (((l1.trans l2).trans l3).trans l4).trans l5⟩
  have lt := len_tw t s
  simp only [m_is_lot, b_is_lot, fnB_eq, List.length_cons, List.length_nil, List.map_cons, List.map_nil, List.cons_append, List.nil_append, Nat.reduceAdd, Nat.reduceSub, List.replicate, if_true, s_Cons, s_If, t_Or, t_Not, t_Un, t_Bin, t_Bi, v_Bi, v_Un, v_Bin, v_Var, v_C, v_Comp, i_Seq, a_Cons, a_Nil, List.getElem?_cons_zero, List.getElem?_cons_succ, getV_some, bind_ok', i0, truth_bl, Bool.not_true, Bool.false_eq_true, if_false, lt, ltI_ii, d2, seqW_tup, goWk_its, wipeE_nil, wipeE_cons, List.set_cons_zero, List.set_cons_succ, e1, n1, al, st_ok', s_Nil, then_nx, s_Asg, g_Var, e2, n2, i_Zip2, v_Slc, o_Yes, o_No, toO_int, p3, zipW_rr g23 g3, e4, n5, al5, s_Ret, v_And, i1, neg_i, i2, then_rt, fnR_rt]
theorem run_is_a_move {L : Nat} (hL : LL L) {m : Mv} (h : okB L m = true) (s : Sto) : Ev (m_is_a_move [.int L, mvD m] s) s (.bl true) := by
  have hp := hL.pos
  cases m with
  | lot a t =>
    have F := lot_facts hL h
    obtain ⟨s1, e1, l1⟩ := run_is_lot hL F s
    have e0 := step_ok hL F.hs s
    have i0 : isiD [.tuple] (.tup [.str "lot", .int a, tw t]) s = .ok (.bl true) s := rfl
    have i1 : isiD [.str] (.str "lot") s = .ok (.bl true) s := rfl
    have ln : lenB [.tup [.str "lot", .int a, tw t]] s = .ok (.int 3) s := rfl
    refine ⟨s1, ?_, l1⟩
    have d1 : decide ((2 : Int) ≤ 3) = true := by decide
    have d2 : decide ((3 : Int) ≤ 3) = true := by decide
    have d3 : ((3 : Int) == 3) = true := by decide
    simp only [mvD, m_is_a_move, b_is_a_move, fnB_eq, List.length_cons, List.length_nil, List.map_cons, List.map_nil, List.cons_append, List.nil_append, Nat.reduceAdd, Nat.reduceSub, List.replicate, if_true, s_Cons, s_If, t_Or, t_Not, t_Un, t_Bin, t_Bi, t_Chain, v_Chain, v_Bi, v_Un, v_Bin, v_Var, v_C, a_Cons, a_Nil, List.getElem?_cons_zero, List.getElem?_cons_succ, getV_some, bind_ok', i0, truth_bl, Bool.not_true, Bool.false_eq_true, if_false, ln, ltI_ii, d1, d2, chain2_t, ix30, i1, st_ok', s_Nil, then_nx, sll, s_Ret, v_And, eqD_ii, d3, v_Call, ix31, e0, ix32, e1, then_rt, fnR_rt]
  | nm r =>
    have F := nm_facts hL h
    have hlen := F.len
    have e1 := comp_map (g := 2) (e := e_is_a_move_1) (env := [some (.int L), some (mvD (.nm r)), none, none]) (fun _ => .bl true) r s fun x hx s' => by
      simp only [List.set_cons_zero, List.set_cons_succ, e_is_a_move_1, v_Call, a_Cons, a_Nil, v_Var, List.getElem?_cons_zero, List.getElem?_cons_succ, getV_some, bind_ok', step_ok hL (F.sub x hx)]
    have eb : (r.map fun _ => D.bl true) = (r.map fun _ => true).map D.bl := by simp
    rw [eb] at e1
    have n1 := newL_ok' s (xs := (r.map fun _ => true).map D.bl) (by rw [List.length_map, List.length_map, size_eq]; omega)
    have al := all_r _ (get_add_same s (.lst ((r.map fun _ => true).map D.bl)))
    have ea : (r.map fun _ => true).all id = true := by simp
    rw [ea] at al
    have l1 : Le s (s.add (.lst ((r.map fun _ => true).map D.bl))) := .add _ _
    generalize s.add (.lst ((r.map fun _ => true).map D.bl)) = s1 at *
    have e2 := comp_map (g := 2) (e := e_is_a_move_2) (env := [some (.int L), some (mvD (.nm r)), none, none]) (fun x => .int (x.natAbs : Int)) r s1 fun x hx s' => by
      simp only [List.set_cons_zero, List.set_cons_succ, e_is_a_move_2, v_Bi, a_Cons, a_Nil, v_Var, List.getElem?_cons_zero, List.getElem?_cons_succ, getV_some, bind_ok', abs_i, abs_eq]
    have em : (r.map fun x => D.int (x.natAbs : Int)) = (r.map fun x => (x.natAbs : Int)).map .int := by rw [List.map_map]; rfl
    rw [em] at e2
    have n2 := newL_ok' s1 (xs := (r.map fun x => (x.natAbs : Int)).map D.int) (by rw [List.length_map, List.length_map, size_eq]; omega)
    have g2 := get_add_same s1 (.lst ((r.map fun x => (x.natAbs : Int)).map .int))
    have l2 : Le s1 (s1.add (.lst ((r.map fun x => (x.natAbs : Int)).map .int))) := .add _ _
    have q2 : s1.n < (s1.add (.lst ((r.map fun x => (x.natAbs : Int)).map .int))).n := Nat.lt_succ_self _
    generalize s1.add (.lst ((r.map fun x => (x.natAbs : Int)).map .int)) = s2 at *
    have idp : (idL L).Pairwise (· ≤ ·) := by rcases hL with rfl | rfl | rfl | rfl <;> decide
    have idl : (idL L).length = L := by simp [idL]
    have so := sorted_ints g2 idp F.perm
    have n3 := newL_ok' s2 (xs := (idL L).map D.int) (by rw [List.length_map, idl, size_eq]; omega)
    have g3 := get_add_same s2 (.lst ((idL L).map .int))
    have l3 : Le s2 (s2.add (.lst ((idL L).map .int))) := .add _ _
    have q3 : s2.n < (s2.add (.lst ((idL L).map .int))).n := Nat.lt_succ_self _
    rw [n3] at so
    generalize s2.add (.lst ((idL L).map .int)) = s3 at *
    have b1 : bigI 1 = true ∧ bigI ((L : Int) + 1) = true ∧ ((L : Int) + 1 - 1).toNat ≤ 16777216 := ⟨bigI_of (by decide), bigI_of (by omega), by omega⟩
    have n2' : ((L : Int) + 1 - 1).toNat = L := by omega
    have n4 := newL_ok' s3 (xs := (idL L).map D.int) (by rw [List.length_map, idl, size_eq]; omega)
    have g4 := get_add_same s3 (.lst ((idL L).map .int))
    have l4 : Le s3 (s3.add (.lst ((idL L).map .int))) := .add _ _
    generalize s3.add (.lst ((idL L).map .int)) = s4 at *
    have g34 := (l4.get _ q3).trans g3
    have eq := eqD_rr g34 g4
    rw [decide_eq_true rfl] at eq
    have ne : neD (tw r) (.tup ((idL L).map .int)) s4 = .ok (.bl true) s4 := by
      have := neD_tw r (idL L) s4
      rw [decide_eq_false F.nid] at this
      exact this
    have i0 : isiD [.tuple] (.tup [.str "names", tw r]) s = .ok (.bl true) s := rfl
    have i1 : isiD [.str] (.str "names") s = .ok (.bl true) s := rfl
    have i2 : isiD [.tuple] (tw r) s = .ok (.bl true) s := rfl
    have ln : lenB [.tup [.str "names", tw r]] s = .ok (.int 2) s := rfl
    have lt := len_tw r s
    rw [hlen] at lt
    refine ⟨s4, ?_, ((l1.trans l2).trans l3).trans l4⟩
    have d1 : decide ((2 : Int) ≤ 2) = true := by decide
    have d2 : decide ((2 : Int) ≤ 3) = true := by decide
    have d3 : ((2 : Int) == 2) = true := by decide
    have d4 : ((L : Int) == (L : Int)) = true := by simp
    have hL16 : L ≤ 16777216 := by omega
    unfold mvD at e1 e2
    simp only [mvD, m_is_a_move, b_is_a_move, fnB_eq, List.length_cons, List.length_nil, List.map_cons, List.map_nil, List.cons_append, List.nil_append, Nat.reduceAdd, Nat.reduceSub, List.replicate, if_true, s_Cons, s_If, t_Or, t_Not, t_Un, t_Bin, t_Bi, t_Chain, v_Chain, v_Bi, v_Un, v_Bin, v_Var, v_C, v_Comp, i_Seq, a_Cons, a_Nil, List.getElem?_cons_zero, List.getElem?_cons_succ, getV_some, bind_ok', i0, truth_bl, Bool.not_true, Bool.false_eq_true, if_false, ln, ltI_ii, d1, d2, chain2_t, ix20, i1, st_ok', s_Nil, then_nx, snl, nnn, neD_ii, d3, ix21, i2, lt, d4, seqW_tup, goWk_its, wipeE_nil, wipeE_cons, List.set_cons_zero, List.set_cons_succ, e1, n1, al, s_Asg, g_Var, e2, n2, so, v_LstR2, v_TupR2, add_ii, rgW_ii, b1, and_self, n2', hL16, rg_id, n4, eq, s_Ret, v_And, ne, then_rt, fnR_rt]
theorem run_need_move {L : Nat} (hL : LL L) {m : Mv} (h : okB L m = true) (s : Sto) : Ev (m_need_move [.int L, mvD m] s) s .non := by
  obtain ⟨s1, e1, l1⟩ := run_is_a_move hL h s
  refine ⟨s1, ?_, l1⟩
  simp only [m_need_move, b_need_move, fnB_eq, List.length_cons, List.length_nil, List.map_cons, List.map_nil, List.cons_append, List.nil_append, Nat.reduceAdd, Nat.reduceSub, List.replicate, if_true, s_Cons, s_If, t_Not, t_Call, a_Cons, a_Nil, v_Var, List.getElem?_cons_zero, List.getElem?_cons_succ, getV_some, bind_ok', e1, truth_bl, Bool.not_true, st_ok', Bool.false_eq_true, if_false, s_Nil, then_nx, fnR_nx]
theorem ord_inj {L : Nat} (hL : LL L) : (St L).Pairwise fun a b => ord a < ord b := by
  rcases hL with rfl | rfl | rfl | rfl <;> decide
theorem srt_asc {L : Nat} (hL : LL L) (xs : List Int) : (srt L xs).Pairwise fun a b => ord a < ord b := (ord_inj hL).filter _
theorem srt_mem {L : Nat} {xs : List Int} (h : ∀ x ∈ xs, x ∈ St L) (x : Int) : x ∈ srt L xs ↔ x ∈ xs := by
  unfold srt
  rw [List.mem_filter, List.contains_iff_mem]
  exact ⟨fun q => q.2, fun q => ⟨h x q, q⟩⟩
theorem srt_len {L : Nat} (hL : LL L) (xs : List Int) : (srt L xs).length ≤ 8 := by
  have := List.length_filter_le (fun x => xs.contains x) (St L)
  rw [St_len] at this
  have := hL.pos
  unfold srt; omega
theorem flip_e (s x : Int) : (if (x == s) = true then -x else x) = flip s x := by
  unfold flip
  by_cases h : x = s
  · rw [if_pos (by simpa using h), if_pos h]
  · rw [if_neg (by simpa using h), if_neg h]
theorem lot_sort {L : Nat} (hL : LL L) {a : Int} {t : List Int} (F : LotF L a t) {f : Fn} (hf : ∀ x s, f [.int x] s = .ok (.int (ord x)) s) {i : Nat} {s : Sto} (hg : s.get i = some (.lst ((t.map (flip a)).map .int))) :
    sortK f (.ref i) s = .ok (.ref s.n) (s.add (.lst ((srt L (t.map (flip a))).map .int))) := by
  rw [sortK_ints hf hg F.nd (srt_asc hL _) (srt_mem F.fsub)]
  exact newL_ok' s (by rw [List.length_map, size_eq]; have := srt_len hL (t.map (flip a)); omega)
theorem enum_ints (r : List Int) (i : Nat) : (enumD (r.map .int))[i]? = (r[i]?).map fun x => .tup [.int (i : Nat), .int x] := by
  unfold enumD
  rw [List.getElem?_map, List.getElem?_zipIdx, List.getElem?_map]
  cases r[i]? <;> simp
theorem idL_get {L i : Nat} (h : i < L) : (idL L)[i]? = some ((i : Int) + 1) := by
  unfold idL
  rw [List.getElem?_map, List.getElem?_range h]; rfl
theorem id_at {L i : Nat} {x : D} (h : ((idL L).map D.int)[i]? = some x) : i < L ∧ x = .int ((i : Int) + 1) := by
  rw [List.getElem?_map] at h
  obtain ⟨n, h1, rfl⟩ := Option.map_eq_some_iff.mp h
  have hi : i < L := by
    have := (List.getElem?_eq_some_iff.mp h1).1
    simpa [idL] using this
  rw [idL_get hi] at h1
  cases h1
  exact ⟨hi, rfl⟩
theorem idL_len (L : Nat) : (idL L).length = L := by simp [idL]
theorem idL_take {L i : Nat} (h : i < L) : (idL L).take (i + 1) = (idL L).take i ++ [(i : Int) + 1] := by
  rw [List.take_add_one, idL_get h]; rfl
theorem filt_int {α : Type} {h : α → D} {p : α → Bool} {g : α → Int} {F : D → Option D} : ∀ l : List α, (∀ i ∈ l, F (h i) = if p i = true then some (.int (g i)) else none) → (l.map h).filterMap F = ((l.filter p).map g).map .int
  | [], _ => rfl
  | x :: l, q => by
    rw [List.map_cons, List.filterMap_cons, q x List.mem_cons_self, List.filter_cons, filt_int l fun i hi => q i (List.mem_cons_of_mem _ hi)]
    cases p x <;> rfl
theorem run_law_move_back {L : Nat} (hL : LL L) {m : Mv} (h : okB L m = true) (s : Sto) : Ev (m__law_move_back [mvD m] s) s (mvD (backM L m)) := by
  cases m with
  | lot a t =>
    have F := lot_facts hL h
    have e1 := comp_map (g := 2) (e := e__law_move_back_1) (env := [some (.tup [.str "lot", .int a, tw t]), none, none, none, none, none, none]) (fun x => .int (flip a x)) t s fun x hx s' => by
      have fe := flip_e a x
      cases q : (x == a) with
      | true =>
        rw [q, if_pos rfl] at fe
        simp only [List.set_cons_zero, List.set_cons_succ, e__law_move_back_1, v_If, t_Bin, v_Bin, v_C, v_Un, v_Var, List.getElem?_cons_zero, List.getElem?_cons_succ, getV_some, bind_ok', ix31, eqD_ii, q, truth_bl, if_true, neg_i, fe]
      | false =>
        rw [q, if_neg (by decide)] at fe
        simp only [List.set_cons_zero, List.set_cons_succ, e__law_move_back_1, v_If, t_Bin, v_Bin, v_C, v_Un, v_Var, List.getElem?_cons_zero, List.getElem?_cons_succ, getV_some, bind_ok', ix31, eqD_ii, q, truth_bl, Bool.false_eq_true, if_false, ← fe]
    have em : (t.map fun x => D.int (flip a x)) = (t.map (flip a)).map .int := by rw [List.map_map]; rfl
    rw [em] at e1
    have hl := F.len
    have n1 := newL_ok' s (xs := (t.map (flip a)).map D.int) (by rw [List.length_map, List.length_map, size_eq]; omega)
    have g1 := get_add_same s (.lst ((t.map (flip a)).map .int))
    have l1 : Le s (s.add (.lst ((t.map (flip a)).map .int))) := .add _ _
    generalize s.add (.lst ((t.map (flip a)).map .int)) = s1 at *
    have so := lot_sort hL F (f := m__law_order) run_law_order g1
    have g2 := get_add_same s1 (.lst ((srt L (t.map (flip a))).map .int))
    have z : (0 + 1 + 1 + 1 : Nat) ≤ 16777216 := by decide
    refine ⟨s1.add (.lst ((srt L (t.map (flip a))).map .int)), ?_, l1.trans (.add _ _)⟩
    simp only [mvD, backM, m__law_move_back, b__law_move_back, fnB_eq, List.length_cons, List.length_nil, List.map_cons, List.map_nil, List.cons_append, List.nil_append, Nat.reduceAdd, Nat.reduceSub, List.replicate, if_true, s_Cons, s_If, t_Bin, v_Bin, v_Var, v_C, List.getElem?_cons_zero, List.getElem?_cons_succ, getV_some, bind_ok', ix30, sll, truth_bl, st_ok', s_Asg, v_Tup, a_Cons, a_Nil, ix31, ix32, size_eq, z, g_Var, List.set_cons_zero, List.set_cons_succ, then_nx, s_Ret, v_Un, neg_i, v_Bi, v_SortK, v_Comp, i_Seq, seqW_tup, goWk_its, wipeE_nil, wipeE_cons, e1, n1, so, tuple_r _ g2, then_rt, fnR_rt]
  | nm r =>
    have F := nm_facts hL h
    have hlen := F.len
    have hp := hL.pos
    have n0 := newL_ok' s (xs := []) (by rw [size_eq]; simp)
    have g0 := get_add_same s (.lst [])
    have l0 : Le s (s.add (.lst [])) := .add _ _
    have q0 : s.n < (s.add (.lst [])).n := Nat.lt_succ_self _
    generalize s.add (.lst []) = s0 at *
    refine Exists.elim (forIts_inv (b := bodyF (gVar 4) b__law_move_back_2)
      (fun k env s' => (∃ z4 z5, env = [some (.tup [.str "names", tw r]), none, none, some (.ref s.n), z4, z5, none]) ∧ Le s s' ∧ s.n < s'.n ∧
        s'.get s.n = some (.lst ((((idL L).take k).map fun l => (plc r l).getD 0 0).map .int)))
      ((idL L).map .int) 0 [some (.tup [.str "names", tw r]), none, none, some (.ref s.n), none, none, none] s0 ⟨⟨none, none, rfl⟩, l0, q0, g0⟩ ?step) ?rest
    case rest =>
      rintro env ⟨s', e, ⟨z4, z5, rfl⟩, hl, _, hg⟩
      rw [List.length_map, Nat.zero_add, List.take_length] at hg
      have hb : ((idL L).map fun l => (plc r l).getD 0 0) = nb r := by unfold nb; rw [hlen]
      rw [hb] at hg
      have b1 : bigI 1 = true ∧ bigI ((r.length : Int) + 1) = true := ⟨bigI_of (by decide), bigI_of (by omega)⟩
      have n2' : ((r.length : Int) + 1 - 1).toNat = L := by omega
      have z2 : (0 + 1 + 1 : Nat) ≤ 16777216 := by decide
      refine ⟨s', ?_, hl⟩
      simp only [mvD, backM, m__law_move_back, b__law_move_back, fnB_eq, List.length_cons, List.length_nil, List.map_cons, List.map_nil, List.cons_append, List.nil_append, Nat.reduceAdd, Nat.reduceSub, List.replicate, if_true, s_Cons, s_If, t_Bin, v_Bin, v_Var, v_C, List.getElem?_cons_zero, List.getElem?_cons_succ, getV_some, bind_ok', ix20, snl, truth_bl, st_ok', Bool.false_eq_true, if_false, s_Nil, then_nx, s_Asg, v_Lst, a_Cons, a_Nil, n0, v_Bi, ix21, len_tw, add_ii, g_Var, List.set_cons_zero, List.set_cons_succ, s_For, i_Rg2, rg2W_ok, b1, and_self, n2', rg_id, wkS_its, e, s_Ret, v_Tup, tuple_r _ hg, size_eq, z2, then_rt, fnR_rt]
    case step =>
      rintro i x env s2 hx ⟨⟨z4, z5, rfl⟩, hl, hlt, hg⟩
      rw [Nat.zero_add] at *
      obtain ⟨hi, rfl⟩ := id_at hx
      obtain ⟨s3, e3, l3⟩ := goIts_fun (f := turnC (gVar 6) (some c__law_move_back_3) e__law_move_back_3 [some (.tup [.str "names", tw r]), none, none, some (.ref s.n), some (.int ((i : Int) + 1)), z5, none])
        (fun d => match d with | .int j => (if decide (((r.getD j.toNat 0).natAbs : Int) = (i : Int) + 1) = true then some (.int (if 0 < r.getD j.toNat 0 then j + 1 else -j - 1)) else none) | d => none) (rgD 0 r.length) s2 (fun x hx s' _ => by
          obtain ⟨j, hj, rfl⟩ := List.mem_map.mp hx
          rw [List.mem_range] at hj
          have e0 : (0 : Int) + (j : Int) = (j : Int) := by omega
          rw [e0]
          have ix := ix_tw (w := r) (i := (j : Int)) (j := j) rfl hj s'
          refine ⟨s', ?_, .refl _⟩
          dsimp only
          rw [Int.toNat_natCast]
          generalize r.getD j 0 = n at ix ⊢
          by_cases q : (n.natAbs : Int) = (i : Int) + 1
          · have c1 : ((n.natAbs : Int) == (i : Int) + 1) = true := by simpa using q
            rw [decide_eq_true q, if_pos rfl]
            by_cases q2 : 0 < n
            · have d1 : decide (0 < n) = true := decide_eq_true q2
              rw [if_pos q2]
              simp only [turnC_some, g_Var, bind_ok', List.set_cons_zero, List.set_cons_succ, c__law_move_back_3, e__law_move_back_3, t_Bin, v_Bin, v_Bi, v_If, v_Un, v_C, v_Var, a_Cons, a_Nil, List.getElem?_cons_zero, List.getElem?_cons_succ, getV_some, ix21, ix, abs_i, abs_eq, eqD_ii, c1, truth_bl, if_true, ltI_ii, d1, add_ii]
            · have d1 : decide (0 < n) = false := decide_eq_false q2
              rw [if_neg q2]
              simp only [turnC_some, g_Var, bind_ok', List.set_cons_zero, List.set_cons_succ, c__law_move_back_3, e__law_move_back_3, t_Bin, v_Bin, v_Bi, v_If, v_Un, v_C, v_Var, a_Cons, a_Nil, List.getElem?_cons_zero, List.getElem?_cons_succ, getV_some, ix21, ix, abs_i, abs_eq, eqD_ii, c1, truth_bl, if_true, ltI_ii, d1, Bool.false_eq_true, if_false, neg_i, sub_ii]
          · have c1 : ((n.natAbs : Int) == (i : Int) + 1) = false := by simpa using q
            rw [decide_eq_false q, if_neg (by decide)]
            simp only [turnC_some, g_Var, bind_ok', List.set_cons_zero, List.set_cons_succ, c__law_move_back_3, e__law_move_back_3, t_Bin, v_Bin, v_Bi, v_If, v_Un, v_C, v_Var, a_Cons, a_Nil, List.getElem?_cons_zero, List.getElem?_cons_succ, getV_some, ix21, ix, abs_i, abs_eq, eqD_ii, c1, truth_bl, Bool.false_eq_true, if_false])
      have ep := filt_int (h := fun j : Nat => D.int ((0 : Int) + (j : Nat))) (p := fun j => decide (((r.getD j 0).natAbs : Int) = (i : Int) + 1)) (g := fun j => if 0 < r.getD j 0 then (j : Int) + 1 else -(j : Int) - 1)
        (F := fun d => match d with | .int j => (if decide (((r.getD j.toNat 0).natAbs : Int) = (i : Int) + 1) = true then some (.int (if 0 < r.getD j.toNat 0 then j + 1 else -j - 1)) else none) | d => none) (List.range r.length) (fun j _ => by
          have e0 : (0 : Int) + (j : Int) = (j : Int) := by omega
          dsimp only
          rw [e0, Int.toNat_natCast])
      have ep : (rgD 0 r.length).filterMap (fun d : D => match d with | .int j => (if decide (((r.getD j.toNat 0).natAbs : Int) = (i : Int) + 1) = true then some (D.int (if 0 < r.getD j.toNat 0 then j + 1 else -j - 1)) else none) | d => none) = (plc r ((i : Int) + 1)).map D.int := ep
      rw [ep] at e3
      have hne := F.plc ((i : Int) + 1) (idL_mem.mpr ⟨by omega, by omega⟩)
      have hpl : (plc r ((i : Int) + 1)).length ≤ r.length := by
        unfold plc
        rw [List.length_map]
        have := List.length_filter_le (fun i_1 => decide (((r.getD i_1 0).natAbs : Int) = (i : Int) + 1)) (List.range r.length)
        rw [List.length_range] at this
        exact this
      have htk := idL_take (L := L) hi
      rw [htk, List.map_append]
      obtain ⟨pl, hpq⟩ : ∃ pl, plc r ((i : Int) + 1) = pl := ⟨_, rfl⟩
      rw [hpq] at e3 hne hpl
      have n3 := newL_ok' s3 (xs := pl.map D.int) (by rw [List.length_map, size_eq]; omega)
      have g3 := get_add_same s3 (.lst (pl.map .int))
      have l4 : Le s3 (s3.add (.lst (pl.map .int))) := .add _ _
      generalize s3.add (.lst (pl.map .int)) = s4 at *
      have hg4 := ((l3.trans l4).get _ hlt).trans hg
      obtain ⟨y, ys, rfl⟩ : ∃ y ys, pl = y :: ys := by
        cases pl with
        | nil => cases hne
        | cons y ys => exact ⟨y, ys, rfl⟩
      have ix : ixD (.ref s3.n) (.int 0) s4 = .ok (.int y) s4 := by rw [ix_r _ g3, atI_at (w := y :: ys) (i := 0) (j := 0) rfl rfl]; rfl
      have hxl : (((idL L).take i).map fun l => (plc r l).getD 0 0).length < 16777216 := by
        rw [List.length_map, List.length_take, idL_len]; omega
      have ap := append_r _ hg4 (.int y) (by rw [List.length_map, size_eq]; exact hxl)
      have b1 : bigI (r.length : Int) = true := bigI_of (by omega)
      refine ⟨[some (.tup [.str "names", tw r]), none, none, some (.ref s.n), some (.int ((i : Int) + 1)), some (.ref s3.n), none], _, .inl (by
        simp only [bodyF_eq, b__law_move_back_2, g_Var, st_ok', List.set_cons_zero, List.set_cons_succ, s_Cons, s_Asg, v_Comp, i_Rg1, v_Bi, v_Bin, v_C, a_Cons, a_Nil, v_Var, List.getElem?_cons_zero, List.getElem?_cons_succ, getV_some, bind_ok', ix21, len_tw, rg1W_ok, b1, if_true, Int.toNat_natCast, goWk_its, wipeE_nil, wipeE_cons, e3, n3, then_nx, s_Expr, v_Meth, isL_r _ hg4, ix, ap, s_Nil]
        rfl), ⟨_, _, rfl⟩, ((hl.trans l3).trans l4).set (Nat.le_refl _) _, Nat.lt_of_lt_of_le hlt (l3.trans l4).n, ?_⟩
      rw [get_set_same, List.map_append, List.map_cons, hpq]
      rfl
def NewD (r : R D) (s : Sto) (xs : List D) : Prop := ∃ j s', r = .ok (.ref j) s' ∧ s'.get j = some (.lst xs) ∧ Le s s' ∧ s.n ≤ j ∧ j < s'.n
theorem run_law_turned {L : Nat} (hL : LL L) {m : Mv} (h : okB L m = true) (s : Sto) : NewD (m__law_turned [.int L, mvD m] s) s ((turned L m).map tw) := by
  have hp := hL.pos
  cases m with
  | nm r =>
    have F := nm_facts hL h
    have hlen := F.len
    have z : (0 + 1 : Nat) ≤ 16777216 := by decide
    have e1 := comp_map (g := 2) (e := e__law_turned_1) (env := [some (.int L), some (.tup [.str "names", tw r]), none, none, none, none]) (fun x => tw [x]) r s fun x hx s' => by
      simp only [List.set_cons_zero, List.set_cons_succ, e__law_turned_1, v_Tup, a_Cons, a_Nil, v_Var, List.getElem?_cons_zero, List.getElem?_cons_succ, getV_some, bind_ok', List.length_cons, List.length_nil, size_eq, z, if_true]
      rfl
    have em : (r.map fun x => tw [x]) = (turned L (.nm r)).map tw := by
      unfold turned
      rw [List.map_map]
      refine List.ext_getElem? fun i => ?_
      rw [List.getElem?_map, List.getElem?_map]
      by_cases hi : i < L
      · rw [idL_get hi, getD_at (show i < r.length by omega)]
        show some (tw [r.getD i 0]) = some (tw [r.getD ((i : Int) + 1 - 1).toNat 0])
        rw [show ((i : Int) + 1 - 1).toNat = i by omega]
      · rw [List.getElem?_eq_none (show r.length ≤ i by omega), List.getElem?_eq_none (by rw [idL_len]; omega)]
        rfl
    rw [em] at e1
    have n1 := newL_ok' s (xs := (turned L (.nm r)).map tw) (by rw [List.length_map, trn_len, size_eq]; omega)
    refine ⟨s.n, s.add (.lst ((turned L (.nm r)).map tw)), ?_, get_add_same _ _, .add _ _, Nat.le_refl _, Nat.lt_succ_self _⟩
    simp only [mvD, m__law_turned, b__law_turned, fnB_eq, List.length_cons, List.length_nil, List.map_cons, List.map_nil, List.cons_append, List.nil_append, Nat.reduceAdd, Nat.reduceSub, List.replicate, if_true, s_Cons, s_If, t_Bin, v_Bin, v_Var, v_C, List.getElem?_cons_zero, List.getElem?_cons_succ, getV_some, bind_ok', ix20, snn, truth_bl, st_ok', s_Ret, v_Comp, i_Seq, ix21, seqW_tup, goWk_its, wipeE_nil, wipeE_cons, List.set_cons_zero, List.set_cons_succ, e1, n1, then_rt, fnR_rt]
  | lot a t =>
    have n0 := newL_ok' s (xs := []) (by rw [size_eq]; simp)
    have g0 := get_add_same s (.lst [])
    have l0 : Le s (s.add (.lst [])) := .add _ _
    have q0 : s.n < (s.add (.lst [])).n := Nat.lt_succ_self _
    generalize s.add (.lst []) = s0 at *
    refine Exists.elim (forIts_inv (b := bodyF (gVar 4) b__law_turned_2)
      (fun k env s' => (∃ z4 z5, env = [some (.int L), some (.tup [.str "lot", .int a, tw t]), none, some (.ref s.n), z4, z5]) ∧ Le s s' ∧ s.n < s'.n ∧
        s'.get s.n = some (.lst ((((idL L).take k).map (letW (.lot a t))).map tw)))
      ((idL L).map .int) 0 [some (.int L), some (.tup [.str "lot", .int a, tw t]), none, some (.ref s.n), none, none] s0 ⟨⟨none, none, rfl⟩, l0, q0, g0⟩ ?step) ?rest
    case rest =>
      rintro env ⟨s', e, ⟨z4, z5, rfl⟩, hl, hlt, hg⟩
      rw [List.length_map, Nat.zero_add, List.take_length] at hg
      have b1 : bigI 1 = true ∧ bigI ((L : Int) + 1) = true := ⟨bigI_of (by decide), bigI_of (by omega)⟩
      have n2' : ((L : Int) + 1 - 1).toNat = L := by omega
      refine ⟨s.n, s', ?_, hg, hl, Nat.le_refl _, hlt⟩
      simp only [mvD, m__law_turned, b__law_turned, fnB_eq, List.length_cons, List.length_nil, List.map_cons, List.map_nil, List.cons_append, List.nil_append, Nat.reduceAdd, Nat.reduceSub, List.replicate, if_true, s_Cons, s_If, t_Bin, v_Bin, v_Var, v_C, List.getElem?_cons_zero, List.getElem?_cons_succ, getV_some, bind_ok', ix30, sln, truth_bl, st_ok', Bool.false_eq_true, if_false, s_Nil, then_nx, s_Asg, v_Lst, a_Cons, a_Nil, n0, g_Var, List.set_cons_zero, List.set_cons_succ, s_For, i_Rg2, add_ii, rg2W_ok, b1, and_self, n2', rg_id, wkS_its, e, s_Ret, then_rt, fnR_rt]
    case step =>
      rintro i x env s2 hx ⟨⟨z4, z5, rfl⟩, hl, hlt, hg⟩
      rw [Nat.zero_add] at *
      obtain ⟨hi, rfl⟩ := id_at hx
      rw [idL_take hi, List.map_append]
      have hxl : (((idL L).take i).map (letW (.lot a t))).length < 16777216 := by
        rw [List.length_map, List.length_take, idL_len]; omega
      have ap := fun w => append_r _ hg (tw w) (by rw [List.length_map, size_eq]; exact hxl)
      refine ⟨[some (.int L), some (.tup [.str "lot", .int a, tw t]), none, some (.ref s.n), some (.int ((i : Int) + 1)), some (tw (letW (.lot a t) ((i : Int) + 1)))], s2.set s.n (.lst ((((idL L).take i).map (letW (.lot a t))).map tw ++ [tw (letW (.lot a t) ((i : Int) + 1))])), .inl ?_, ⟨_, _, rfl⟩, hl.set (Nat.le_refl _) _, hlt, by rw [get_set_same, List.map_append]; rfl⟩
      have z : (0 + 1 : Nat) ≤ 16777216 := by decide
      have t1 : ∀ x : Int, D.tup [.int x] = tw [x] := fun _ => rfl
      have ad : ∀ (u v : List Int) (s : Sto), u.length + v.length ≤ 10 → addD (tw u) (tw v) s = .ok (tw (u ++ v)) s := fun u v s hz => by
        unfold tw
        rw [add_tt, List.length_map, List.length_map, if_pos (by rw [size_eq]; omega), List.map_append]
      by_cases q1 : (a.natAbs : Int) = (i : Int) + 1
      · have c1 : ((a.natAbs : Int) == (i : Int) + 1) = true := by simpa using q1
        have lw : letW (.lot a t) ((i : Int) + 1) = [(i : Int) + 1] := by unfold letW; dsimp only; rw [if_pos q1]
        rw [lw]
        simp only [bodyF_eq, b__law_turned_2, g_Var, st_ok', List.set_cons_zero, List.set_cons_succ, s_Cons, s_Asg, v_Tup, a_Cons, a_Nil, v_Var, List.getElem?_cons_zero, List.getElem?_cons_succ, getV_some, bind_ok', List.length_cons, List.length_nil, size_eq, z, if_true, then_nx, s_If, t_And, t_Bin, v_Bin, v_Bi, v_C, ix31, abs_i, abs_eq, neD_ii, c1, Bool.not_true, truth_bl, Bool.false_eq_true, if_false, s_Nil, s_Expr, v_Meth, isL_r _ hg, t1, ap]
      · have c1 : ((a.natAbs : Int) == (i : Int) + 1) = false := by simpa using q1
        have i1 := fun s => in_tw false ((i : Int) + 1) t s
        have i2 := fun s => in_tw false (-((i : Int) + 1)) t s
        simp only [Bool.xor_false] at i1 i2
        have lw : letW (.lot a t) ((i : Int) + 1) = (if t.contains (-((i : Int) + 1)) = true then [-a] else []) ++ [(i : Int) + 1] ++ (if t.contains ((i : Int) + 1) = true then [a] else []) := by unfold letW; dsimp only; rw [if_neg q1]
        rw [lw]
        have a1 := ad [(i : Int) + 1] [a] s2 (by simp)
        have a2 := ad [-a] [(i : Int) + 1] s2 (by simp)
        have a3 := ad [-a] ([(i : Int) + 1] ++ [a]) s2 (by simp)
        cases e1 : t.contains (-((i : Int) + 1)) <;> cases e2 : t.contains ((i : Int) + 1) <;>
        · rw [e1] at i2
          rw [e2] at i1
          simp only [bodyF_eq, b__law_turned_2, g_Var, st_ok', List.set_cons_zero, List.set_cons_succ, s_Cons, s_Asg, v_Tup, a_Cons, a_Nil, v_Var, List.getElem?_cons_zero, List.getElem?_cons_succ, getV_some, bind_ok', List.length_cons, List.length_nil, size_eq, z, if_true, then_nx, s_If, t_And, t_Bin, v_Bin, v_Bi, v_Un, v_C, ix31, ix32, abs_i, abs_eq, neD_ii, c1, Bool.not_false, truth_bl, Bool.false_eq_true, if_false, s_Nil, s_Expr, v_Meth, isL_r _ hg, t1, ap, i1, i2, neg_i, a1, a2, a3, List.nil_append, List.append_nil, List.append_assoc]
theorem run_push (j : Nat) (p st : List Int) (e0 e1 e3 e4 z5 : Option D) (s : Sto) (hj : j < s.n) (hg : s.get j = some (.lst (st.reverse.map .int))) (hz : st.length + p.length < 16777216) :
    ∃ z' s', forIts (bodyF (gVar 5) b__law_led_2) (p.map .int) [e0, e1, some (.ref j), e3, e4, z5] s = .nx [e0, e1, some (.ref j), e3, e4, z'] s' ∧ s'.get j = some (.lst ((p.foldl push st).reverse.map .int)) ∧ LeW j s s' := by
  refine Exists.elim (forIts_inv (b := bodyF (gVar 5) b__law_led_2)
    (fun k env s' => (∃ z, env = [e0, e1, some (.ref j), e3, e4, z]) ∧ s'.get j = some (.lst ((((p.take k).foldl push st).reverse).map .int)) ∧ LeW j s s')
    (p.map .int) 0 [e0, e1, some (.ref j), e3, e4, z5] s ⟨⟨_, rfl⟩, hg, .refl _ _⟩ ?step) ?rest
  case rest =>
    rintro env ⟨s', e, ⟨z, rfl⟩, hg, hl⟩
    rw [List.length_map, Nat.zero_add, List.take_length] at hg
    exact ⟨z, s', e, hg, hl⟩
  case step =>
    rintro i x env s1 hx ⟨⟨z, rfl⟩, hg, hl⟩
    obtain ⟨n, hn, rfl⟩ := map_at hx
    rw [Nat.zero_add] at hg ⊢
    have hlen := foldl_push_len (p.take i) st
    rw [take_fold push st hn]
    generalize (p.take i).foldl push st = q at hg hlen ⊢
    have hst : q.length < sizeLine := by
      rw [size_eq]
      rw [List.length_take] at hlen
      have := (List.getElem?_eq_some_iff.mp hn).1
      omega
    have hlt := Nat.lt_of_lt_of_le hj hl.n
    have n2 := newL_ok' s1 (xs := []) (by rw [size_eq]; simp)
    have g2 := get_add_same s1 (.lst [])
    have l2 : Le s1 (s1.add (.lst [])) := .add _ _
    have g12 := (l2.get _ hlt).trans hg
    generalize s1.add (.lst []) = s2 at *
    have ne := neD_rr (ys := []) g12 g2
    have hl2 := hl.trans (.of l2)
    cases q with
    | nil =>
      simp only [List.reverse_nil, List.map_nil, decide_true, Bool.not_true] at ne g12
      have ap := append_r _ g12 (.int n) (by rw [size_eq]; simp)
      refine ⟨_, _, .inl (by
        simp only [bodyF_eq, b__law_led_2, g_Var, st_ok', List.set_cons_zero, List.set_cons_succ, s_Cons, s_If, t_And, t_Bin, v_Var, v_Lst, a_Nil, List.getElem?_cons_zero, List.getElem?_cons_succ, getV_some, bind_ok', n2, ne, truth_bl, Bool.false_eq_true, if_false, s_Expr, v_Meth, isL_r _ g12, if_true, a_Cons, ap, then_nx, s_Nil]
        rfl), ⟨_, rfl⟩, by rw [get_set_same]; rfl, hl2.trans (.set _ _)⟩
    | cons y r =>
      have hne : decide ((y :: r).reverse = []) = false := decide_eq_false (by simp)
      rw [hne, Bool.not_false] at ne
      rw [List.reverse_cons, List.map_append] at g12
      rw [push_cons]
      have ixl : L2.atI (r.reverse.map D.int ++ [y].map D.int) (-1) = some (.int y) := L2.atI_last _ _
      by_cases hy : y = -n
      · rw [if_pos hy]
        have hyb : (y == -n) = true := by simpa using hy
        have po := pop_r _ (show s2.get j = some (.lst (r.reverse.map D.int ++ [.int y])) from g12)
        refine ⟨_, _, .inl (by
          simp only [bodyF_eq, b__law_led_2, g_Var, st_ok', List.set_cons_zero, List.set_cons_succ, s_Cons, s_If, t_And, t_Bin, v_Bin, v_Un, v_C, v_Var, v_Lst, a_Nil, List.getElem?_cons_zero, List.getElem?_cons_succ, getV_some, bind_ok', n2, ne, truth_bl, if_true, neg_i, ix_r _ g12, ixl, okO_some, eqD_ii, hyb, s_Expr, v_Meth, isL_r _ g12, po, then_nx, s_Nil]
          rfl), ⟨_, rfl⟩, by rw [get_set_same, List.map_reverse], hl2.trans (.set _ _)⟩
      · rw [if_neg hy]
        have hyb : (y == -n) = false := by simpa using hy
        have ap := append_r _ g12 (.int n) (by simp only [List.length_cons] at hst; simp; omega)
        refine ⟨_, _, .inl (by
          simp only [bodyF_eq, b__law_led_2, g_Var, st_ok', List.set_cons_zero, List.set_cons_succ, s_Cons, s_If, t_And, t_Bin, v_Bin, v_Un, v_C, v_Var, v_Lst, a_Nil, List.getElem?_cons_zero, List.getElem?_cons_succ, getV_some, bind_ok', n2, ne, truth_bl, if_true, neg_i, ix_r _ g12, ixl, okO_some, eqD_ii, hyb, Bool.false_eq_true, if_false, s_Expr, v_Meth, isL_r _ g12, a_Cons, ap, then_nx, s_Nil]
          rfl), ⟨_, rfl⟩, by rw [get_set_same]; simp, hl2.trans (.set _ _)⟩
theorem part_len {ws : List (List Int)} {B : Nat} (h : ∀ u ∈ ws, u.length ≤ B) (x : Int) : (part ws x).length ≤ B := by
  have g : ∀ i : Nat, (ws.getD i []).length ≤ B := fun i => by
    rw [List.getD_eq_getElem?_getD]
    cases q : ws[i]? with
    | none => exact Nat.zero_le _
    | some u => exact h u (List.mem_of_getElem? q)
  unfold part
  split
  · exact g _
  · rw [bk_len]; exact g _
theorem run_law_led (ws : List (List Int)) (wk : D) (w : List Int) (s : Sto) (hix : ∀ s', Le s s' → ∀ i : Nat, i < ws.length → ixD wk (.int (i : Int)) s' = .ok (tw (ws.getD i [])) s')
    (hw : WkL ws.length w) (hl : w.length ≤ 1000) (hu : ∀ u ∈ ws, u.length ≤ 1000) : Ev (m__law_led [wk, tw w] s) s (tw (led ws w)) := by
  have n0 := newL_ok' s (xs := []) (by rw [size_eq]; simp)
  have g0 := get_add_same s (.lst [])
  have l0 : Le s (s.add (.lst [])) := .add _ _
  have q0 : s.n < (s.add (.lst [])).n := Nat.lt_succ_self _
  generalize s.add (.lst []) = s0 at *
  have toLe : ∀ {s'}, LeW s.n s s' → Le s s' := fun {s'} h => ⟨h.n, fun i hi => h.get i hi (by omega)⟩
  refine Exists.elim (forIts_inv (b := bodyF (gVar 3) b__law_led_1)
    (fun k env s' => (∃ z3 z4 z5, env = [some wk, some (tw w), some (.ref s.n), z3, z4, z5]) ∧ LeW s.n s s' ∧ s.n < s'.n ∧ ((w.take k).foldl (fun st x => (part ws x).foldl push st) []).length ≤ 1000 * k ∧
      s'.get s.n = some (.lst ((((w.take k).foldl (fun st x => (part ws x).foldl push st) []).reverse).map .int)))
    (w.map .int) 0 [some wk, some (tw w), some (.ref s.n), none, none, none] s0 ⟨⟨none, none, none, rfl⟩, .of l0, q0, Nat.le_refl _, g0⟩ ?step) ?rest
  case rest =>
    rintro env ⟨s', e, ⟨z3, z4, z5, rfl⟩, hle, _, _, hg⟩
    rw [List.length_map, Nat.zero_add, List.take_length] at hg
    have tl : tw w = .tup (w.map .int) := rfl
    refine ⟨s', ?_, toLe hle⟩
    rw [tl] at e ⊢
    simp only [m__law_led, b__law_led, fnB_eq, List.length_cons, List.length_nil, List.map_cons, List.map_nil, List.cons_append, List.nil_append, Nat.reduceAdd, Nat.reduceSub, List.replicate, if_true, s_Cons, s_Asg, v_Lst, a_Nil, bind_ok', n0, st_ok', g_Var, List.set_cons_zero, List.set_cons_succ, then_nx, s_For, i_Seq, v_Var, List.getElem?_cons_zero, List.getElem?_cons_succ, getV_some, seqW_tup, wkS_its, e, s_Ret, v_Bi, a_Cons, tuple_r _ hg, then_rt, fnR_rt]
    rfl
  case step =>
    rintro i x env s1 hx ⟨⟨z3, z4, z5, rfl⟩, hle, hlt, hlen, hg⟩
    obtain ⟨n, hn, rfl⟩ := map_at hx
    rw [Nat.zero_add] at *
    have hil := (List.getElem?_eq_some_iff.mp hn).1
    have hnw := hw n (List.mem_of_getElem? hn)
    rw [take_fold (fun st x => (part ws x).foldl push st) [] hn]
    generalize (w.take i).foldl (fun st x => (part ws x).foldl push st) [] = st at *
    have hpl := part_len hu n
    -- the part
    obtain ⟨s2, hl2, hpt⟩ : ∃ s2, Le s1 s2 ∧ (xIf (xBin (ltI fun i j => decide (j < i)) (xVar 3) (xC (.int 0))) (xBin ixD (xVar 0) (xBin subD (xVar 3) (xC (.int 1)))) (xCall m__law_back (aCons (xBin ixD (xVar 0) (xBin subD (xUn negD (xVar 3)) (xC (.int 1)))) aNil))).v [some wk, some (tw w), some (.ref s.n), some (.int n), z4, z5] s1 = .ok (tw (part ws n)) s2 := by
      by_cases q : 0 < n
      · have d1 : decide (0 < n) = true := decide_eq_true q
        have ix := hix s1 (toLe hle) (n - 1).toNat (by omega)
        rw [show (((n - 1).toNat : Nat) : Int) = n - 1 by omega] at ix
        refine ⟨s1, .refl _, ?_⟩
        unfold part
        rw [if_pos q]
        simp only [v_If, t_Bin, v_Bin, v_Var, v_C, List.getElem?_cons_zero, List.getElem?_cons_succ, getV_some, bind_ok', ltI_ii, d1, truth_bl, if_true, sub_ii, ix]
      · have d1 : decide (0 < n) = false := decide_eq_false q
        have ix := hix s1 (toLe hle) (-n - 1).toNat (by omega)
        rw [show (((-n - 1).toNat : Nat) : Int) = -n - 1 by omega] at ix
        have hb : (ws.getD (-n - 1).toNat []).length ≤ 1000 := by
          have := hpl
          unfold part at this
          rw [if_neg q, bk_len] at this
          exact this
        obtain ⟨s2, e2, l2⟩ := run_law_back (ws.getD (-n - 1).toNat []) s1 (by omega)
        refine ⟨s2, l2, ?_⟩
        unfold part
        rw [if_neg q]
        simp only [v_If, t_Bin, v_Bin, v_Un, v_Call, a_Cons, a_Nil, v_Var, v_C, List.getElem?_cons_zero, List.getElem?_cons_succ, getV_some, bind_ok', ltI_ii, d1, truth_bl, Bool.false_eq_true, if_false, neg_i, sub_ii, ix, e2]
    have hg2 := (hl2.get _ hlt).trans hg
    have hlt2 := Nat.lt_of_lt_of_le hlt hl2.n
    obtain ⟨z', s3, e3, g3, l3⟩ := run_push s.n (part ws n) st (some wk) (some (tw w)) (some (.int n)) (some (tw (part ws n))) z5 s2 hlt2 hg2 (by omega)
    have hfl := foldl_push_len (part ws n) st
    have tl : tw (part ws n) = .tup ((part ws n).map .int) := rfl
    refine ⟨[some wk, some (tw w), some (.ref s.n), some (.int n), some (tw (part ws n)), z'], s3, .inl ?_, ⟨_, _, _, rfl⟩, (hle.trans (.of hl2)).trans l3, Nat.lt_of_lt_of_le hlt2 l3.n, by show ((part ws n).foldl push st).length ≤ _; omega, g3⟩
    rw [tl] at e3 hpt ⊢
    simp only [bodyF_eq, b__law_led_1, g_Var, st_ok', List.set_cons_zero, List.set_cons_succ, s_Cons, s_Asg, hpt, then_nx, s_For, i_Seq, v_Var, List.getElem?_cons_zero, List.getElem?_cons_succ, getV_some, bind_ok', seqW_tup, wkS_its, e3, s_Nil]
theorem pop_at {s : Sto} {i n : Nat} {xs : List D} {k : Int} (h : s.get i = some (.lst xs)) (hk : k = (n : Int)) (hn : n < xs.length) (hz : xs.length < 1000000) : popM (.ref i) [.int k] s = .ok xs[n] (s.set i (.lst (xs.eraseIdx n))) := by
  subst hk
  unfold popM
  dsimp only
  rw [h]
  dsimp only
  have e : seqIndex? (n : Int) xs.length = some n := by
    have c0 : ¬ ((n : Int) < 0) := by omega
    have c1 : (decide ((0 : Int) ≤ (n : Int)) && decide ((n : Int) < (xs.length : Int))) = true := by
      rw [decide_eq_true (show (0 : Int) ≤ (n : Int) by omega), decide_eq_true (show (n : Int) < (xs.length : Int) by omega)]; rfl
    show (let j := if (n : Int) < 0 then (n : Int) + xs.length else (n : Int); if (decide (0 ≤ j) && decide (j < (xs.length : Int))) = true then some j.toNat else none) = some n
    dsimp only
    rw [if_neg c0, if_pos c1, Int.toNat_natCast]
  rw [if_pos ⟨by omega, by omega⟩, e]
  dsimp only
  rw [List.getElem?_eq_getElem hn]
theorem era_map (f : Int → D) : ∀ (xs : List Int) (n : Nat), (xs.map f).eraseIdx n = (xs.eraseIdx n).map f
  | [], n => by cases n <;> rfl
  | x :: xs, 0 => rfl
  | x :: xs, n + 1 => by
    show f x :: (xs.map f).eraseIdx n = f x :: (xs.eraseIdx n).map f
    rw [era_map f xs n]
theorem era_perm : ∀ {xs : List Int} {n : Nat} (h : n < xs.length), (xs[n] :: xs.eraseIdx n).Perm xs
  | [], n, h => absurd h (Nat.not_lt_zero _)
  | x :: xs, 0, h => .refl _
  | x :: xs, n + 1, h => by
    have ih := era_perm (xs := xs) (n := n) (by simpa using h)
    show (xs[n]'(by simpa using h) :: x :: xs.eraseIdx n).Perm (x :: xs)
    exact (List.Perm.swap x _ _).trans (ih.cons x)
theorem once_of {L : Nat} (hL : LL L) {r : List Int} (h : (r.map fun x => (x.natAbs : Int)).Perm (idL L)) : onceB L r = true := by
  unfold onceB
  refine List.all_eq_true.mpr fun l hl => decide_eq_true ?_
  have h1 := (h.filter fun y => decide (y = l)).length_eq
  rw [List.filter_map, List.length_map] at h1
  have e : ((fun y => decide (y = l)) ∘ fun x : Int => (x.natAbs : Int)) = fun x => decide ((x.natAbs : Int) = l) := rfl
  rw [e] at h1
  rw [h1]
  have : ∀ l ∈ idL L, ((idL L).filter fun y => decide (y = l)).length = 1 := by
    rcases hL with rfl | rfl | rfl | rfl <;> decide
  exact this l hl
theorem St_of {L : Nat} (hL : LL L) {x : Int} (h : 1 ≤ x.natAbs) (h2 : (x.natAbs : Int) ≤ L) : x ∈ St L := by
  have : x = 1 ∨ x = -1 ∨ x = 2 ∨ x = -2 ∨ x = 3 ∨ x = -3 ∨ x = 4 ∨ x = -4 := by have := hL.pos; omega
  rcases hL with rfl | rfl | rfl | rfl <;> rcases this with rfl | rfl | rfl | rfl | rfl | rfl | rfl | rfl <;> first | (exfalso; omega) | decide
theorem nm_ok {L : Nat} (hL : LL L) {r : List Int} (hp : (r.map fun x => (x.natAbs : Int)).Perm (idL L)) (hn : r ≠ idL L) : okB L (.nm r) = true := by
  have hl : r.length = L := by have := hp.length_eq; rw [List.length_map, idL_len] at this; exact this
  unfold okB
  simp only [Bool.and_eq_true, decide_eq_true_eq, List.contains_iff_mem]
  refine ⟨⟨rows_mem hl fun x hx => ?_, once_of hL hp⟩, hn⟩
  have hm : (x.natAbs : Int) ∈ idL L := hp.mem_iff.mp (List.mem_map.mpr ⟨x, hx, rfl⟩)
  rw [idL_mem] at hm
  exact St_of hL (by omega) hm.2
theorem id_ok {L : Nat} (hL : LL L) : okB L (.nm ((idL L).set (L - 1) (-(L : Int)))) = true := by
  rcases hL with rfl | rfl | rfl | rfl <;> decide +kernel
theorem run_names (j c L : Nat) (m : D) (s : Sto) (h : Well s j c) (hL : LL L) (hc : c < 2 ^ 50) :
    ∃ (r : List Int) (z3 z4 : Sto) (z5 z6 : Option D) (s' : Sto), (sPar 3 4 (aCons (xLstR2 (xC (.int 1)) (xBin addD (xVar 1) (xC (.int 1)))) (aCons (xLst aNil) aNil))) [some (.ref j), some (.int L), some m, none, none, none, none, none, none, none, none] s = .nx [some (.ref j), some (.int L), some m, some (.ref s.n), some (.ref (s.n + 1)), none, none, none, none, none, none] z3 ∧
      forIts (bodyF (gVar 5) b__law_move_1) (rgD 0 L) [some (.ref j), some (.int L), some m, some (.ref s.n), some (.ref (s.n + 1)), none, none, none, none, none, none] z3 = .nx [some (.ref j), some (.int L), some m, some (.ref s.n), some (.ref (s.n + 1)), z5, z6, none, none, none, none] s' ∧
      s'.get (s.n + 1) = some (.lst (r.map .int)) ∧ (r.map fun x => (x.natAbs : Int)).Perm (idL L) ∧ z4 = s' ∧ Well s' j (c + 8) ∧ LeW j s s' ∧ s.n + 1 < s'.n := by
  have hp := hL.pos
  have n0 := newL_ok' s (xs := (idL L).map D.int) (by rw [List.length_map, idL_len, size_eq]; omega)
  have g0 := get_add_same s (.lst ((idL L).map .int))
  have l0 : Le s (s.add (.lst ((idL L).map .int))) := .add _ _
  have q0 : (s.add (.lst ((idL L).map .int))).n = s.n + 1 := rfl
  generalize s.add (.lst ((idL L).map .int)) = s0 at *
  have n1 := newL_ok' s0 (xs := []) (by rw [size_eq]; simp)
  have g1 := get_add_same s0 (.lst [])
  have l1 : Le s0 (s0.add (.lst [])) := .add _ _
  have q1 : (s0.add (.lst [])).n = s0.n + 1 := rfl
  generalize s0.add (.lst []) = s1 at *
  rw [q0] at n1 g1 q1
  have hjn := h.lt
  have w1 := h.le (l0.trans l1)
  have gl1 := (l1.get s.n (by omega)).trans g0
  have b1 : bigI 1 = true ∧ bigI ((L : Int) + 1) = true ∧ ((L : Int) + 1 - 1).toNat ≤ 16777216 := ⟨bigI_of (by decide), bigI_of (by omega), by omega⟩
  have n2' : ((L : Int) + 1 - 1).toNat = L := by omega
  have hL16 : L ≤ 16777216 := by omega
  have len : (rgD 0 L).length = L := by simp [rgD]
  obtain ⟨env', s', e, ⟨z5, z6, rfl⟩, ls, r, ga, gb, hll, hrl, hperm, hw, hle, hn⟩ := forIts_inv (b := bodyF (gVar 5) b__law_move_1)
    (fun k env s' => (∃ z5 z6, env = [some (.ref j), some (.int L), some m, some (.ref s.n), some (.ref (s.n + 1)), z5, z6, none, none, none, none]) ∧ ∃ ls r : List Int, s'.get s.n = some (.lst (ls.map .int)) ∧ s'.get (s.n + 1) = some (.lst (r.map .int)) ∧ ls.length + k = L ∧ r.length = k ∧
      (ls ++ r.map fun x => (x.natAbs : Int)).Perm (idL L) ∧ Well s' j (c + 2 * k) ∧ LeW j s s' ∧ s.n + 1 < s'.n)
    (rgD 0 L) 0 [some (.ref j), some (.int L), some m, some (.ref s.n), some (.ref (s.n + 1)), none, none, none, none, none, none] s1
    ⟨⟨none, none, rfl⟩, idL L, [], gl1, g1, by rw [idL_len]; rfl, rfl, by simp, w1.up (by omega), .of (l0.trans l1), by omega⟩ (by
      rintro k x env s2 hx ⟨⟨z5, z6, rfl⟩, ls, r, ga, gb, hll, hrl, hperm, hw, hle, hn⟩
      obtain ⟨hk, rfl⟩ := rgD_at hx
      rw [Nat.zero_add] at *
      have ln := len_r _ ga
      rw [List.length_map] at ln
      obtain ⟨d, s3, f3, a3, b3, w3, l3⟩ := run_law_take j _ (ls.length : Int) s2 hw (by omega) (by omega) (by omega)
      have ga3 := (l3.get s.n (by omega) (by omega)).trans ga
      have gb3 := (l3.get (s.n + 1) (by omega) (by omega)).trans gb
      have hd : d.toNat < (ls.map D.int).length := by rw [List.length_map]; omega
      have po := pop_at ga3 (k := d) (n := d.toNat) (by omega) hd (by rw [List.length_map]; omega)
      have hdl : d.toNat < ls.length := by omega
      have ey : (ls.map D.int)[d.toNat] = .int ls[d.toNat] := List.getElem_map _
      have ee : (ls.map D.int).eraseIdx d.toNat = (ls.eraseIdx d.toNat).map .int := era_map _ _ _
      rw [ey, ee] at po
      obtain ⟨y, hy⟩ : ∃ y, ls[d.toNat] = y := ⟨_, rfl⟩
      rw [hy] at po
      have hperm2 : (y :: ls.eraseIdx d.toNat).Perm ls := by
        have := era_perm hdl
        rw [hy] at this
        exact this
      have hym : y ∈ idL L := hperm.mem_iff.mp (List.mem_append_left _ (hy ▸ List.getElem_mem hdl))
      rw [idL_mem] at hym
      have w4 : Well (s3.set s.n (.lst ((ls.eraseIdx d.toNat).map .int))) j (c + 2 * k + 1) := by
        obtain ⟨a', b', k', e', hb', hk'⟩ := w3.ex
        exact ⟨w3.lt, a', b', k', by rw [get_set_ne (by omega)]; exact e', hb', hk'⟩
      have g4a := get_set_same s3 s.n (.lst ((ls.eraseIdx d.toNat).map .int))
      have g4b : (s3.set s.n (.lst ((ls.eraseIdx d.toNat).map .int))).get (s.n + 1) = some (.lst (r.map .int)) := (get_set_ne (by omega)).trans gb3
      have l4 : LeW j s (s3.set s.n (.lst ((ls.eraseIdx d.toNat).map .int))) := by
        have lw := hle.trans l3
        exact ⟨lw.n, fun i' h1 h2 => by rw [get_set_ne (by omega)]; exact lw.get i' h1 h2⟩
      have hn4 : s.n + 1 < (s3.set s.n (.lst ((ls.eraseIdx d.toNat).map .int))).n := Nat.lt_of_lt_of_le hn l3.n
      generalize s3.set s.n (.lst ((ls.eraseIdx d.toNat).map .int)) = s4 at *
      have n5 := newL_ok' s4 (xs := [.int y, .int (-y)]) (by rw [size_eq]; simp)
      have g5 := get_add_same s4 (.lst [.int y, .int (-y)])
      have l5 : Le s4 (s4.add (.lst [.int y, .int (-y)])) := .add _ _
      have q5 : s4.n < (s4.add (.lst [.int y, .int (-y)])).n := Nat.lt_succ_self _
      have w5 := w4.le l5
      generalize s4.add (.lst [.int y, .int (-y)]) = s5 at *
      obtain ⟨d6, s6, f6, a6, b6, w6, l6⟩ := run_law_take j _ 2 s5 w5 (by omega) (by omega) (by omega)
      have g6 := (l6.get _ q5 (by have := w4.lt; omega)).trans g5
      have hn5 := Nat.lt_of_lt_of_le hn4 l5.n
      have g6a := (l6.get s.n (by omega) (by omega)).trans ((l5.get s.n (by omega)).trans g4a)
      have g6b := (l6.get (s.n + 1) (by omega) (by omega)).trans ((l5.get (s.n + 1) (by omega)).trans g4b)
      have hn6 := Nat.lt_of_lt_of_le hn5 l6.n
      obtain ⟨v, hv, ix⟩ : ∃ v : Int, (v.natAbs : Int) = y ∧ ixD (.ref s4.n) (.int d6) s6 = .ok (.int v) s6 := by
        have : d6 = 0 ∨ d6 = 1 := by omega
        rw [ix_r _ g6]
        rcases this with rfl | rfl
        · exact ⟨y, by omega, rfl⟩
        · exact ⟨-y, by omega, rfl⟩
      have ap := append_r _ g6b (.int v) (by rw [List.length_map, size_eq]; omega)
      have ap' : (r.map D.int ++ [D.int v]) = (r ++ [v]).map .int := by rw [List.map_append]; rfl
      rw [ap'] at ap
      have lw6 := (l4.trans (.of l5)).trans l6
      refine ⟨[some (.ref j), some (.int L), some m, some (.ref s.n), some (.ref (s.n + 1)), some (.int (0 + (k : Int))), some (.int y), none, none, none, none], s6.set (s.n + 1) (.lst ((r ++ [v]).map .int)), .inl ?_, ⟨_, _, rfl⟩, ls.eraseIdx d.toNat, r ++ [v], by rw [get_set_ne (by omega)]; exact g6a, get_set_same _ _ _, by rw [List.length_eraseIdx_of_lt hdl]; omega, by rw [List.length_append, hrl]; rfl, ?_, ?_, ?_, hn6⟩
      · simp only [bodyF_eq, b__law_move_1, g_Var, st_ok', List.set_cons_zero, List.set_cons_succ, s_Cons, s_Asg, v_Meth, v_Var, List.getElem?_cons_zero, List.getElem?_cons_succ, getV_some, bind_ok', isL_r _ ga, if_true, v_Call, v_Bi, a_Cons, a_Nil, ln, v_C, f3, po, then_nx, s_Expr, isL_r _ g4b, v_Bin, v_Lst, v_Un, neg_i, n5, f6, ix, ap, s_Nil]
      · rw [List.map_append, List.map_cons, List.map_nil, hv, ← List.append_assoc]
        have p1 : (ls.eraseIdx d.toNat ++ r.map (fun x => (x.natAbs : Int)) ++ [y]).Perm (y :: (ls.eraseIdx d.toNat ++ r.map fun x => (x.natAbs : Int))) := List.perm_append_singleton _ _
        refine p1.trans (((hperm2.append_right _)).trans hperm)
      · obtain ⟨a', b', k', e', hb', hk'⟩ := w6.ex
        exact ⟨w6.lt, a', b', k', by rw [get_set_ne (by omega)]; exact e', hb', by omega⟩
      · exact ⟨lw6.n, fun i' h1 h2 => by rw [get_set_ne (by omega)]; exact lw6.get i' h1 h2⟩)
  rw [len, Nat.zero_add] at *
  have hls : ls = [] := List.length_eq_zero_iff.mp (by omega)
  subst hls
  rw [List.nil_append] at hperm
  refine ⟨r, s1, s', z5, z6, s', ?_, e, gb, hperm, rfl, hw.up (by omega), hle, hn⟩
  simp only [s_Par, a_Cons, a_Nil, v_LstR2, v_C, v_Bin, v_Var, v_Lst, List.getElem?_cons_zero, List.getElem?_cons_succ, getV_some, bind_ok', add_ii, rgW_ii, b1, and_self, if_true, n2', hL16, rg_id, n0, n1, st_ok', par2_ok, List.set_cons_zero, List.set_cons_succ]
theorem run_some (j c : Nat) (i : Nat) (w : List Int) (env : Cs.Env) (hij : i ≠ j) (e0 : env[0]? = some (some (.ref j))) (e9 : env.length = 11) : ∀ (k n : Nat) (s : Sto) (c : Nat), i < s.n → s.get i = some (.lst (w.map .int)) → w.length - n < k → c + k < 2 ^ 50 → Well s j c →
    ∃ (zs : List Int) (s' : Sto), goLive (turnC (gVar 9) (some c__law_move_3) e__law_move_3 env) i k n s = .ok (zs.map D.int) s' ∧ zs.Sublist (w.drop n) ∧ Well s' j (c + (w.length - n)) ∧ LeW j s s'
  | 0, n, s, c, _, _, hk, _, _ => absurd hk (Nat.not_lt_zero _)
  | k + 1, n, s, c, hi, hg, hk, hc, hw => by
    by_cases hn : n < w.length
    · obtain ⟨d, s1, f1, a1, b1, w1, l1⟩ := run_law_take j c 2 s hw (by omega) (by omega) (by omega)
      have g1 := (l1.get i hi hij).trans hg
      obtain ⟨zs, s2, e2, h2, w2, l2⟩ := run_some j c i w env hij e0 e9 k (n + 1) s1 (c + 1) (Nat.lt_of_lt_of_le hi l1.n) g1 (by omega) (by omega) w1
      have hx : (w.map D.int)[n]? = some (.int w[n]) := by rw [List.getElem?_map, List.getElem?_eq_getElem hn]; rfl
      have ev0 : (env.set 9 (some (.int w[n])))[0]? = some (some (.ref j)) := by rw [List.getElem?_set_ne (by decide)]; exact e0
      have ev9 : (env.set 9 (some (.int w[n])))[9]? = some (some (.int w[n])) := by rw [List.getElem?_set_self (by omega)]
      rw [List.drop_eq_getElem_cons hn]
      by_cases q : d = 0
      · refine ⟨w[n] :: zs, s2, ?_, h2.cons_cons _, w2.up (by omega), l1.trans l2⟩
        have c0 : (d == 0) = true := by simpa using q
        have ft : turnC (gVar 9) (some c__law_move_3) e__law_move_3 env (.int w[n]) s = .ok (some (.int w[n])) s1 := by
          simp only [turnC_some, g_Var, bind_ok', c__law_move_3, t_Bin, v_Call, v_C, a_Cons, a_Nil, v_Var, ev0, getV_some, f1, eqD_ii, c0, truth_bl, if_true, e__law_move_3, ev9]
        unfold goLive
        rw [hg]
        dsimp only
        rw [hx]
        dsimp only
        rw [ft]
        show (goLive (turnC (gVar 9) (some c__law_move_3) e__law_move_3 env) i k (n + 1) s1).bind _ = _
        rw [e2]
        rfl
      · refine ⟨zs, s2, ?_, h2.cons _, w2.up (by omega), l1.trans l2⟩
        have c0 : (d == 0) = false := by simpa using q
        have ft : turnC (gVar 9) (some c__law_move_3) e__law_move_3 env (.int w[n]) s = .ok none s1 := by
          simp only [turnC_some, g_Var, bind_ok', c__law_move_3, t_Bin, v_Call, v_C, a_Cons, a_Nil, v_Var, ev0, getV_some, f1, eqD_ii, c0, truth_bl, Bool.false_eq_true, if_false]
        unfold goLive
        rw [hg]
        dsimp only
        rw [hx]
        dsimp only
        rw [ft]
        show (goLive (turnC (gVar 9) (some c__law_move_3) e__law_move_3 env) i k (n + 1) s1).bind _ = _
        rw [e2]
        rfl
    · refine ⟨[], s, ?_, by simp, hw.up (by omega), .refl _ _⟩
      unfold goLive
      rw [hg]
      dsimp only
      rw [List.getElem?_eq_none (by rw [List.length_map]; omega)]
      rfl
theorem St_nodup {L : Nat} (hL : LL L) : (St L).Nodup := by rcases hL with rfl | rfl | rfl | rfl <;> decide
theorem oth_pos {L : Nat} (hL : LL L) (h : L ≠ 1) : ∀ a ∈ St L, 0 < ((St L).filter fun x => !((x.natAbs : Int) == (a.natAbs : Int))).length := by
  rcases hL with rfl | rfl | rfl | rfl
  · exact absurd rfl h
  · decide
  · decide
  · decide
theorem lot_ok {L : Nat} (hL : LL L) {a : Int} {w : List Int} (ha : a ∈ St L) (hw : ∀ x ∈ w, x ∈ St L ∧ x.natAbs ≠ a.natAbs) (hne : w ≠ []) : okB L (.lot a (srt L (a :: w))) = true := by
  have hs : ∀ x ∈ a :: w, x ∈ St L := fun x hx => (List.mem_cons.mp hx).elim (fun e => e ▸ ha) fun h => (hw x h).1
  have hna := St_nz hL ha
  unfold okB
  simp only [Bool.and_eq_true, decide_eq_true_eq, List.contains_iff_mem, Bool.not_eq_true', srt_mem hs]
  refine ⟨⟨⟨⟨ha, ?_⟩, List.mem_cons_self⟩, ?_⟩, filter_subl _ _⟩
  · obtain ⟨y, ys, rfl⟩ : ∃ y ys, w = y :: ys := by
      cases w with
      | nil => exact absurd rfl hne
      | cons y ys => exact ⟨y, ys, rfl⟩
    have hy := hw y List.mem_cons_self
    have hya : y ≠ a := fun e => hy.2 (by rw [e])
    have m1 : a ∈ srt L (a :: y :: ys) := (srt_mem hs a).mpr List.mem_cons_self
    have m2 : y ∈ srt L (a :: y :: ys) := (srt_mem hs y).mpr (List.mem_cons_of_mem _ List.mem_cons_self)
    generalize srt L (a :: y :: ys) = z at m1 m2
    match z with
    | [] => simp at m1
    | [u] =>
      have e1 : a = u := by simpa using m1
      have e2 : y = u := by simpa using m2
      exact absurd (e2.trans e1.symm) hya
    | u :: v :: z => simp
  · cases q : (srt L (a :: w)).contains (-a) with
    | false => rfl
    | true =>
      exfalso
      have := (srt_mem hs (-a)).mp (List.contains_iff_mem.mp q)
      rcases List.mem_cons.mp this with e | e
      · omega
      · exact (hw _ e).2 (by omega)
theorem run_law_move (j c L : Nat) (s : Sto) (h : Well s j c) (hL : LL L) (hc : c < 2 ^ 40) :
    ∃ m s', m__law_move [.ref j, .int L] s = .ok (mvD m) s' ∧ okB L m = true ∧ Well s' j (c + 20) ∧ LeW j s s' := by
  have hp := hL.pos
  obtain ⟨mi, s1, e1, g1, l1, hm1, hm2⟩ := run_law_steps L s hL
  have w1 := h.le l1
  -- which kind
  have kind : ∃ (b : Bool) (s2 : Sto), (xOr (xBin eqD (xVar 1) (xC (.int 1))) (xBin eqD (xCall m__law_take (aCons (xVar 0) (aCons (xC (.int 3)) aNil))) (xC (.int 0)))).t [some (.ref j), some (.int L), some (.ref mi), none, none, none, none, none, none, none, none] s1 = .ok b s2 ∧ (b = false → L ≠ 1) ∧ Well s2 j (c + 1) ∧ LeW j s1 s2 := by
    by_cases q : L = 1
    · have c1 : ((L : Int) == 1) = true := by simp [q]
      refine ⟨true, s1, ?_, (fun e => nomatch e), w1.up (by omega), .refl _ _⟩
      simp only [t_Or, t_Bin, v_Var, v_C, List.getElem?_cons_zero, List.getElem?_cons_succ, getV_some, bind_ok', eqD_ii, c1, truth_bl, if_true]
    · have c1 : ((L : Int) == 1) = false := by simp; omega
      obtain ⟨d, s2, f2, a2, b2, w2, l2⟩ := run_law_take j _ 3 s1 w1 (by omega) (by omega) (by omega)
      refine ⟨d == 0, s2, ?_, fun _ => q, w2, l2⟩
      simp only [t_Or, t_Bin, v_Call, a_Cons, a_Nil, v_Var, v_C, List.getElem?_cons_zero, List.getElem?_cons_succ, getV_some, bind_ok', eqD_ii, c1, truth_bl, Bool.false_eq_true, if_false, f2]
  obtain ⟨b, s2, ek, hb, w2, l2⟩ := kind
  have hjs := h.lt
  have g2 := (l2.get mi hm2 (by omega)).trans g1
  have hm3 := Nat.lt_of_lt_of_le hm2 l2.n
  have b1 : bigI 1 = true ∧ bigI ((L : Int) + 1) = true ∧ ((L : Int) + 1 - 1).toNat ≤ 16777216 := ⟨bigI_of (by decide), bigI_of (by omega), by omega⟩
  have n2' : ((L : Int) + 1 - 1).toNat = L := by omega
  have hL16 : L ≤ 16777216 := by omega
  cases b with
  | true =>
    obtain ⟨r, s3, _, z5, z6, s4, epar, efor, gr, hperm, _, w4, l4, hn4⟩ := run_names j _ L (.ref mi) s2 w2 hL (by omega)
    have hrl : r.length = L := by have := hperm.length_eq; rw [List.length_map, idL_len] at this; exact this
    have n5 := newL_ok' s4 (xs := (idL L).map D.int) (by rw [List.length_map, idL_len, size_eq]; omega)
    have g5 := get_add_same s4 (.lst ((idL L).map .int))
    have l5 : Le s4 (s4.add (.lst ((idL L).map .int))) := .add _ _
    have w5 := w4.le l5
    generalize s4.add (.lst ((idL L).map .int)) = s5 at *
    have gr5 := (l5.get _ hn4).trans gr
    have eq := eqD_rr gr5 g5
    have bL : bigI (L : Int) = true := bigI_of (by omega)
    have z2 : (0 + 1 + 1 : Nat) ≤ 16777216 := by decide
    have LL5 := (((LeW.of l1).trans l2).trans l4).trans (.of l5)
    by_cases q : r = idL L
    · rw [decide_eq_true q] at eq
      have ixn : L2.ixN (r.map D.int).length (-1) = some (L - 1) := by
        rw [List.length_map, hrl]
        unfold L2.ixN
        rw [if_neg (by omega), if_pos (by omega)]
        congr 1
        omega
      have st := set_r s5 gr5 ixn (.int (-(L : Int)))
      have es : (r.map D.int).set (L - 1) (.int (-(L : Int))) = ((idL L).set (L - 1) (-(L : Int))).map .int := by rw [q, List.map_set]
      rw [es] at st
      have g6 := get_set_same s5 (s2.n + 1) (.lst (((idL L).set (L - 1) (-(L : Int))).map .int))
      refine ⟨.nm ((idL L).set (L - 1) (-(L : Int))), s5.set (s2.n + 1) (.lst (((idL L).set (L - 1) (-(L : Int))).map .int)), ?_, id_ok hL, ?_, ?_⟩
      · simp only [m__law_move, b__law_move, fnB_eq, List.length_cons, List.length_nil, List.map_cons, List.map_nil, List.cons_append, List.nil_append, Nat.reduceAdd, Nat.reduceSub, List.replicate, if_true, s_Cons, s_Asg, v_Call, a_Cons, a_Nil, v_Var, List.getElem?_cons_zero, List.getElem?_cons_succ, getV_some, bind_ok', e1, st_ok', g_Var, List.set_cons_zero, List.set_cons_succ, then_nx, s_If, ek, epar, s_For, i_Rg1, rg1W_ok, bL, Int.toNat_natCast, wkS_its, efor, t_Bin, v_LstR2, v_C, v_Bin, add_ii, rgW_ii, b1, and_self, n2', hL16, rg_id, n5, eq, truth_bl, v_Un, neg_i, g_Sub, st, s_Nil, s_Ret, v_Tup, v_Bi, tuple_r _ g6, size_eq, z2, then_rt, fnR_rt]
        rfl
      · obtain ⟨a', b', k', e', hb', hk'⟩ := w5.ex
        exact ⟨w5.lt, a', b', k', by rw [get_set_ne (by have := w2.lt; omega)]; exact e', hb', by omega⟩
      · have hsn : s.n ≤ s2.n := Nat.le_trans l1.n l2.n
        exact ⟨LL5.n, fun i' h1 h2 => by rw [get_set_ne (by omega)]; exact LL5.get i' h1 h2⟩
    · rw [decide_eq_false q] at eq
      refine ⟨.nm r, s5, ?_, nm_ok hL hperm q, w5.up (by omega), LL5⟩
      simp only [m__law_move, b__law_move, fnB_eq, List.length_cons, List.length_nil, List.map_cons, List.map_nil, List.cons_append, List.nil_append, Nat.reduceAdd, Nat.reduceSub, List.replicate, if_true, s_Cons, s_Asg, v_Call, a_Cons, a_Nil, v_Var, List.getElem?_cons_zero, List.getElem?_cons_succ, getV_some, bind_ok', e1, st_ok', g_Var, List.set_cons_zero, List.set_cons_succ, then_nx, s_If, ek, epar, s_For, i_Rg1, rg1W_ok, bL, Int.toNat_natCast, wkS_its, efor, t_Bin, v_LstR2, v_C, v_Bin, add_ii, rgW_ii, b1, and_self, n2', hL16, rg_id, n5, eq, truth_bl, Bool.false_eq_true, if_false, s_Nil, s_Ret, v_Tup, v_Bi, tuple_r _ gr5, size_eq, z2, then_rt, fnR_rt]
      rfl
  | false =>
    have hL1 := hb rfl
    have ln2 := len_r _ g2
    rw [List.length_map, St_len] at ln2
    obtain ⟨d, s3, f3, a3, b3, w3, l3⟩ := run_law_take j _ ((2 * L : Nat) : Int) s2 w2 (by omega) (by omega) (by omega)
    have g3 := (l3.get mi hm3 (by omega)).trans g2
    have hm4 := Nat.lt_of_lt_of_le hm3 l3.n
    have hdl : d.toNat < (St L).length := by rw [St_len]; omega
    have at1 : L2.atI ((St L).map D.int) d = some (.int ((St L).getD d.toNat 0)) := atI_at (by omega) (getD_at hdl)
    have ha : (St L).getD d.toNat 0 ∈ St L := by
      rw [List.getD_eq_getElem?_getD, List.getElem?_eq_getElem hdl]
      exact List.getElem_mem hdl
    have ix3 : ixD (.ref mi) (.int d) s3 = .ok (.int ((St L).getD d.toNat 0)) s3 := by rw [ix_r _ g3, at1]; rfl
    generalize (St L).getD d.toNat 0 = a at *
    -- the others
    obtain ⟨s4, e4, l4⟩ := comp_filter2 (i := 9) (c := c__law_move_2) (e := e__law_move_2) (env := [some (.ref j), some (.int L), some (.ref mi), none, none, none, none, some (.int a), none, none, none]) (fun x => !((x.natAbs : Int) == (a.natAbs : Int))) hm4 g3 (by rw [St_len]; omega) (fun x hx s' hl' => ⟨⟨s', by
      simp only [c__law_move_2, t_Bin, v_Bi, a_Cons, a_Nil, v_Var, List.set_cons_zero, List.set_cons_succ, List.getElem?_cons_zero, List.getElem?_cons_succ, getV_some, bind_ok', abs_i, abs_eq, neD_ii, truth_bl], .refl _⟩, fun s'' => rfl⟩)
    have hop := oth_pos hL hL1 a ha
    have hom : ∀ x ∈ (St L).filter (fun x => !((x.natAbs : Int) == (a.natAbs : Int))), x ∈ St L ∧ x.natAbs ≠ a.natAbs := fun x hx => by
      obtain ⟨h1, h2⟩ := List.mem_filter.mp hx
      refine ⟨h1, ?_⟩
      have : ¬ ((x.natAbs : Int) = (a.natAbs : Int)) := by simpa using h2
      omega
    have hon : ((St L).filter (fun x => !((x.natAbs : Int) == (a.natAbs : Int)))).Nodup := (St_nodup hL).filter _
    have hol : ((St L).filter (fun x => !((x.natAbs : Int) == (a.natAbs : Int)))).length ≤ 8 := by
      have := List.length_filter_le (fun x : Int => !((x.natAbs : Int) == (a.natAbs : Int))) (St L)
      rw [St_len] at this; omega
    generalize (St L).filter (fun x => !((x.natAbs : Int) == (a.natAbs : Int))) = ot at *
    have n5 := newL_ok' s4 (xs := ot.map D.int) (by rw [List.length_map, size_eq]; omega)
    have g5 := get_add_same s4 (.lst (ot.map .int))
    have l5 : Le s4 (s4.add (.lst (ot.map .int))) := .add _ _
    have q5 : s4.n < (s4.add (.lst (ot.map .int))).n := Nat.lt_succ_self _
    generalize s4.add (.lst (ot.map .int)) = s5 at *
    have w5 := (w3.le l4).le l5
    have h4j : s4.n ≠ j := by have := w3.lt; have := l4.n; omega
    have ln5 := len_r _ g5
    rw [List.length_map] at ln5
    obtain ⟨d6, s6, f6, a6, b6, w6, l6⟩ := run_law_take j _ (ot.length : Int) s5 w5 (by omega) (by omega) (by omega)
    have g6 := (l6.get _ q5 h4j).trans g5
    have q6 := Nat.lt_of_lt_of_le q5 l6.n
    have hd6 : d6.toNat < ot.length := by omega
    have po := pop_at g6 (k := d6) (n := d6.toNat) (by omega) (by rw [List.length_map]; exact hd6) (by rw [List.length_map]; omega)
    have ey : (ot.map D.int)[d6.toNat]'(by rw [List.length_map]; exact hd6) = .int ot[d6.toNat] := List.getElem_map _
    have ee : (ot.map D.int).eraseIdx d6.toNat = (ot.eraseIdx d6.toNat).map .int := era_map _ _ _
    rw [ey, ee] at po
    obtain ⟨y, hy⟩ : ∃ y, ot[d6.toNat] = y := ⟨_, rfl⟩
    rw [hy] at po
    have hperm : (y :: ot.eraseIdx d6.toNat).Perm ot := by
      have := era_perm hd6
      rw [hy] at this
      exact this
    have hnd := hperm.nodup_iff.mpr hon
    rw [List.nodup_cons] at hnd
    have hml : ∀ x ∈ y :: ot.eraseIdx d6.toNat, x ∈ St L ∧ x.natAbs ≠ a.natAbs := fun x hx => hom x (hperm.mem_iff.mp hx)
    have hel : (ot.eraseIdx d6.toNat).length ≤ 8 := by rw [List.length_eraseIdx_of_lt hd6]; omega
    have w7 : Well (s6.set s4.n (.lst ((ot.eraseIdx d6.toNat).map .int))) j (c + 1 + 1 + 1) := by
      obtain ⟨a', b', k', e', hb', hk'⟩ := w6.ex
      exact ⟨w6.lt, a', b', k', by rw [get_set_ne (Ne.symm h4j)]; exact e', hb', hk'⟩
    have g7 := get_set_same s6 s4.n (.lst ((ot.eraseIdx d6.toNat).map .int))
    have q7 : s4.n < (s6.set s4.n (.lst ((ot.eraseIdx d6.toNat).map .int))).n := q6
    have hs4 : s.n ≤ s4.n := Nat.le_trans l1.n (Nat.le_trans l2.n (Nat.le_trans l3.n l4.n))
    have LL6 := ((((((LeW.of l1).trans l2).trans l3).trans (.of l4)).trans (.of l5)).trans l6)
    have LL7 : LeW j s (s6.set s4.n (.lst ((ot.eraseIdx d6.toNat).map .int))) := ⟨LL6.n, fun i' h1 h2 => by rw [get_set_ne (by omega)]; exact LL6.get i' h1 h2⟩
    generalize s6.set s4.n (.lst ((ot.eraseIdx d6.toNat).map .int)) = s7 at *
    generalize ot.eraseIdx d6.toNat = er at *
    -- [step, popped]
    have n8 := newL_ok' s7 (xs := [.int a, .int y]) (by rw [size_eq]; simp)
    have g8 := get_add_same s7 (.lst [.int a, .int y])
    have l8 : Le s7 (s7.add (.lst [.int a, .int y])) := .add _ _
    have q8 : s7.n < (s7.add (.lst [.int a, .int y])).n := Nat.lt_succ_self _
    have w8 := w7.le l8
    generalize s7.add (.lst [.int a, .int y]) = s8 at *
    have g78 := (l8.get _ q7).trans g7
    have q78 := Nat.lt_of_lt_of_le q7 l8.n
    obtain ⟨zs, s9, e9, hsub, w9, l9⟩ := run_some j 0 s4.n er [some (.ref j), some (.int L), some (.ref mi), none, none, none, none, some (.int a), some (.ref s4.n), none, none] h4j rfl rfl 1000000 0 s8 _ q78 g78 (by omega) (by omega) w8
    rw [List.drop_zero] at hsub
    have hzl := hsub.length_le
    have n10 := newL_ok' s9 (xs := zs.map D.int) (by rw [List.length_map, size_eq]; omega)
    have g10 := get_add_same s9 (.lst (zs.map .int))
    have l10 : Le s9 (s9.add (.lst (zs.map .int))) := .add _ _
    generalize s9.add (.lst (zs.map .int)) = s10 at *
    have h7j : s7.n ≠ j := by have := w7.lt; omega
    have g8' := (l10.get _ (Nat.lt_of_lt_of_le q8 l9.n)).trans ((l9.get _ q8 h7j).trans g8)
    have ad := add_rr _ g8' g10 (by rw [List.length_map, size_eq]; simp; omega)
    have ea : [D.int a, D.int y] ++ zs.map D.int = (a :: y :: zs).map .int := rfl
    rw [ea] at ad
    have g11 := get_add_same s10 (.lst ((a :: y :: zs).map .int))
    have l11 : Le s10 (s10.add (.lst ((a :: y :: zs).map .int))) := .add _ _
    generalize s10.add (.lst ((a :: y :: zs).map .int)) = s11 at *
    have hmz : ∀ x ∈ y :: zs, x ∈ St L ∧ x.natAbs ≠ a.natAbs := fun x hx => by
      rcases List.mem_cons.mp hx with rfl | hx
      · exact hml _ List.mem_cons_self
      · exact hml x (List.mem_cons_of_mem _ (hsub.mem hx))
    have hnz : (a :: y :: zs).Nodup := by
      rw [List.nodup_cons, List.nodup_cons]
      exact ⟨fun e => (hmz a e).2 rfl, fun e => hnd.1 (hsub.mem e), hnd.2.sublist hsub⟩
    have hallS : ∀ x ∈ a :: y :: zs, x ∈ St L := fun x hx => (List.mem_cons.mp hx).elim (fun e => e ▸ ha) fun h => (hmz x h).1
    have so := sortK_ints (f := m__law_order) run_law_order g11 hnz (srt_asc hL _) (srt_mem hallS)
    have hsl := srt_len hL (a :: y :: zs)
    rw [newL_ok' s11 (by rw [List.length_map, size_eq]; omega)] at so
    have g12 := get_add_same s11 (.lst ((srt L (a :: y :: zs)).map .int))
    have l12 : Le s11 (s11.add (.lst ((srt L (a :: y :: zs)).map .int))) := .add _ _
    generalize s11.add (.lst ((srt L (a :: y :: zs)).map .int)) = s12 at *
    have z3 : (0 + 1 + 1 + 1 : Nat) ≤ 16777216 := by decide
    refine ⟨.lot a (srt L (a :: y :: zs)), s12, ?_, lot_ok hL ha hmz (by simp), (((w9.le l10).le l11).le l12).up (by omega), ((((LL7.trans (.of l8)).trans l9).trans (.of l10)).trans (.of l11)).trans (.of l12)⟩
    have gw : goWk (turnC (gVar 9) (some c__law_move_3) e__law_move_3 [some (.ref j), some (.int L), some (.ref mi), none, none, none, none, some (.int a), some (.ref s4.n), none, none]) (.live s4.n) s8 = .ok (zs.map D.int) s9 := e9
    simp only [m__law_move, b__law_move, fnB_eq, List.length_cons, List.length_nil, List.map_cons, List.map_nil, List.cons_append, List.nil_append, Nat.reduceAdd, Nat.reduceSub, List.replicate, if_true, s_Cons, s_Asg, v_Call, a_Cons, a_Nil, v_Var, List.getElem?_cons_zero, List.getElem?_cons_succ, getV_some, bind_ok', e1, st_ok', g_Var, List.set_cons_zero, List.set_cons_succ, then_nx, s_If, ek, Bool.false_eq_true, if_false, s_Nil, v_Bin, v_Bi, ln2, f3, ix3, v_Comp, i_Seq, seqW_ref g3, wipeE_nil, wipeE_cons, e4, n5, v_Lst, v_Meth, isL_r _ g5, ln5, f6, po, n8, seqW_ref g78, gw, n10, ad, s_Ret, v_Tup, v_C, v_SortK, so, tuple_r _ g12, size_eq, z3, then_rt, fnR_rt]
    rfl
theorem same_str (k : Nat) (x : Str) (s : Sto) (hx : PyData.strOk x = true) : ms__law_same (k + 1) [.str x, .str x] s = .ok (.bl true) s := by
  have e : eqD (.str x) (.str x) s = .ok (.bl true) s := by
    rw [eqD_str _ _ s hx hx]
    congr 2
    simp [PyData.eqv]
  simp [ms__law_same, b__law_same, fnB_eq, isiD, mapO, isTy, isNonD, e]
theorem same_mv (m : Mv) (s : Sto) (h : ∀ w, (m = .nm w ∨ ∃ a, m = .lot a w) → w.length ≤ 1000) : Ev (m__law_same [mvD m, mvD m] s) s (.bl true) := by
  cases m with
  | lot a t =>
    refine same_tup 7 [.str "lot", .int a, tw t] (by simp) (fun x hx s => ?_) s
    have : x = .str "lot" ∨ x = .int a ∨ x = tw t := by simpa using hx
    rcases this with rfl | rfl | rfl
    · exact ⟨s, same_str 6 _ s (by decide +kernel), .refl _⟩
    · exact ⟨s, same_int 6 _ s, .refl _⟩
    · exact same_tw 5 t (by have := h t (.inr ⟨a, rfl⟩); omega) s
  | nm r =>
    refine same_tup 7 [.str "names", tw r] (by simp) (fun x hx s => ?_) s
    have : x = .str "names" ∨ x = tw r := by simpa using hx
    rcases this with rfl | rfl
    · exact ⟨s, same_str 6 _ s (by decide +kernel), .refl _⟩
    · exact same_tw 5 r (by have := h r (.inl rfl); omega) s
theorem mv_len {L : Nat} (hL : LL L) {m : Mv} (h : okB L m = true) : ∀ w, (m = .nm w ∨ ∃ a, m = .lot a w) → w.length ≤ 1000 := by
  intro w hw
  have hp := hL.pos
  rcases hw with rfl | ⟨a, rfl⟩
  · have := (nm_facts hL h).len; omega
  · have := (lot_facts hL h).len; omega
theorem letW_ok {L : Nat} (hL : LL L) {m : Mv} (h : okB L m = true) {l : Int} (hl : l ∈ idL L) : WkL L (letW m l) ∧ (letW m l).length ≤ 3 := by
  obtain ⟨h1, h2⟩ := idL_mem.mp hl
  cases m with
  | nm r =>
    have F := nm_facts hL h
    have hlen := F.len
    refine ⟨fun x hx => ?_, by simp [letW]⟩
    have : x = r.getD (l - 1).toNat 0 := by simpa [letW] using hx
    have hlt : (l - 1).toNat < r.length := by omega
    rw [this, List.getD_eq_getElem?_getD, List.getElem?_eq_getElem hlt]
    have := St_nz hL (F.sub _ (List.getElem_mem hlt))
    show r[(l - 1).toNat] ≠ 0 ∧ _
    exact ⟨by omega, by show ((r[(l - 1).toNat]).natAbs : Int) ≤ L; omega⟩
  | lot a t =>
    have F := lot_facts hL h
    have ha := St_nz hL F.hs
    unfold letW
    dsimp only
    split
    · refine ⟨fun x hx => ?_, by simp⟩
      have : x = l := by simpa using hx
      subst this
      omega
    · refine ⟨fun x hx => ?_, ?_⟩
      · have hx : x = -a ∨ x = l ∨ x = a := by
          rcases List.mem_append.mp hx with hx | hx
          · rcases List.mem_append.mp hx with hx | hx
            · split at hx
              · exact .inl (by simpa using hx)
              · simp at hx
            · exact .inr (.inl (by simpa using hx))
          · split at hx
            · exact .inr (.inr (by simpa using hx))
            · simp at hx
        rcases hx with rfl | rfl | rfl
        · omega
        · omega
        · omega
      · rw [List.length_append, List.length_append]
        split <;> split <;> simp
theorem trn_ok {L : Nat} (hL : LL L) {m : Mv} (h : okB L m = true) : ∀ w ∈ turned L m, WkL L w ∧ w.length ≤ 3 := by
  intro w hw
  obtain ⟨l, hl, rfl⟩ := List.mem_map.mp hw
  exact letW_ok hL h hl
theorem same_trn {L : Nat} (hL : LL L) {m : Mv} (h : okB L m = true) (s : Sto) : Ev (m__law_same [trnD L m, trnD L m] s) s (.bl true) := by
  have hp := hL.pos
  refine same_tup 7 [.int L, .tup ((turned L m).map tw)] (by simp) (fun x hx s => ?_) s
  have : x = .int L ∨ x = .tup ((turned L m).map tw) := by simpa using hx
  rcases this with rfl | rfl
  · exact ⟨s, same_int 6 _ s, .refl _⟩
  · refine same_tup 6 _ (by rw [List.length_map, trn_len]; omega) (fun x hx s => ?_) s
    obtain ⟨w, hw, rfl⟩ := List.mem_map.mp hx
    exact same_tw 4 w (by have := (trn_ok hL h w hw).2; omega) s
theorem neD_mv (m : Mv) (s : Sto) : neD (mvD m) (mvD m) s = .ok (.bl false) s := by
  have st : ∀ x : Str, PyData.strOk x = true → pyd s 11 (.str x) = some (.str x) := fun x hx => by
    show (if PyData.strOk x = true then some (PyData.str x) else none) = _; rw [if_pos hx]
  have eq : ∀ w : List Int, PyData.eqv (.tuple (w.map PyData.int)) (.tuple (w.map PyData.int)) = true := fun w => by
    rw [show PyData.eqv (.tuple (w.map PyData.int)) (.tuple (w.map PyData.int)) = PyData.eqvAll (w.map .int) (w.map .int) by simp [PyData.eqv], eqv_ints]; simp
  cases m with
  | lot a t =>
    have e : pyd s 12 (mvD (.lot a t)) = some (.tuple [.str "lot", .int a, .tuple (t.map .int)]) := by
      show (mapO (pyd s 11) [.str "lot", .int a, tw t]).map PyData.tuple = _
      have e2 : pyd s 11 (.int a) = some (.int a) := rfl
      simp only [mapO, st _ (by decide +kernel : PyData.strOk "lot" = true), e2, pyd_tw]
      rfl
    unfold neD
    rw [e]
    have q := eq t
    show R.ok (D.bl (!PyData.eqv _ _)) s = _
    simp only [PyData.eqv, PyData.eqvAll] at q ⊢
    simp [q]
  | nm r =>
    have e : pyd s 12 (mvD (.nm r)) = some (.tuple [.str "names", .tuple (r.map .int)]) := by
      show (mapO (pyd s 11) [.str "names", tw r]).map PyData.tuple = _
      simp only [mapO, st _ (by decide +kernel : PyData.strOk "names" = true), pyd_tw]
      rfl
    unfold neD
    rw [e]
    have q := eq r
    show R.ok (D.bl (!PyData.eqv _ _)) s = _
    simp only [PyData.eqv, PyData.eqvAll] at q ⊢
    simp [q]
theorem ix_ws {ws : List (List Int)} {i : Nat} (h : i < ws.length) (s : Sto) : ixD (.tup (ws.map tw)) (.int (i : Int)) s = .ok (tw (ws.getD i [])) s := by
  have q : L2.atI (ws.map tw) (i : Int) = some (tw (ws.getD i [])) := atI_nat' (by rw [List.getElem?_map, List.getElem?_eq_getElem h, List.getD_eq_getElem?_getD, List.getElem?_eq_getElem h]; rfl)
  rw [ix_t, q]; rfl
theorem ix_rs {ws : List (List Int)} {i k : Nat} {s : Sto} (hg : s.get k = some (.lst (ws.map tw))) (h : i < ws.length) : ixD (.ref k) (.int (i : Int)) s = .ok (tw (ws.getD i [])) s := by
  have q : L2.atI (ws.map tw) (i : Int) = some (tw (ws.getD i [])) := atI_nat' (by rw [List.getElem?_map, List.getElem?_eq_getElem h, List.getD_eq_getElem?_getD, List.getElem?_eq_getElem h]; rfl)
  rw [ix_r _ hg, q]; rfl
theorem get_mem {ws : List (List Int)} {i : Nat} (h : i < ws.length) : ws.getD i [] ∈ ws := by
  rw [List.getD_eq_getElem?_getD, List.getElem?_eq_getElem h]
  exact List.getElem_mem h
end K53

namespace K53
open PySem Cs
/-! ### reduction and products -/
def NZ (w : List Int) : Prop := ∀ x ∈ w, x ≠ 0
theorem NZ.app {u v : List Int} (h : NZ u) (g : NZ v) : NZ (u ++ v) := fun x hx => (List.mem_append.mp hx).elim (h x) (g x)
theorem NZ.red {u : List Int} (h : NZ u) : NZ (Cs.red u) := fun x hx => h x (red_mem hx)
theorem NZ.bk {u : List Int} (h : NZ u) : NZ (Cs.bk u) := by
  intro x hx
  obtain ⟨y, hy, rfl⟩ := List.mem_map.mp (List.mem_reverse.mp hx)
  have := h y hy
  omega
theorem NZ.one {x : Int} (h : x ≠ 0) : NZ [x] := fun y hy => by
  have : y = x := by simpa using hy
  rw [this]; exact h
theorem red_l {u u' : List Int} (v : List Int) (h : red u = red u') : red (u ++ v) = red (u' ++ v) := by
  have h2 : redS u = redS u' := List.reverse_inj.mp h
  unfold red redS at *
  rw [List.foldl_append, List.foldl_append, h2]
theorem red_r (u : List Int) {v v' : List Int} (hv : NZ v) (hv' : NZ v') (h : red v = red v') : red (u ++ v) = red (u ++ v') := by
  show (redS (u ++ v)).reverse = (redS (u ++ v')).reverse
  rw [redS_app hv, redS_app hv', h]
theorem red_lr {u v : List Int} (hv : NZ v) : red (red u ++ red v) = red (u ++ v) := by
  rw [red_l (red v) (red_red u)]
  exact red_r u hv.red hv (red_red v)
theorem red_two {x : Int} (hx : x ≠ 0) : red [x, -x] = [] := by
  show (push (push [] x) (-x)).reverse = []
  rw [push_nil, push_cons, if_pos (by omega)]; rfl
theorem bk_app (u v : List Int) : bk (u ++ v) = bk v ++ bk u := by
  unfold bk
  rw [List.map_append, List.reverse_append]
theorem bk_one (x : Int) : bk [x] = [-x] := rfl
theorem red_nil : red [] = [] := rfl
theorem red_can : ∀ {u : List Int}, NZ u → red (u ++ bk u) = []
  | [], _ => rfl
  | x :: t, h => by
    have hx := h x List.mem_cons_self
    have ht : NZ t := fun y hy => h y (List.mem_cons_of_mem _ hy)
    have e : x :: t ++ bk (x :: t) = [x] ++ ((t ++ bk t) ++ [-x]) := by
      rw [show x :: t = [x] ++ t from rfl, bk_app, bk_one]; simp
    have h1 : red ((t ++ bk t) ++ [-x]) = red [-x] := red_l (u' := []) [-x] (by rw [red_can ht, red_nil])
    rw [e, red_r [x] ((ht.app ht.bk).app (NZ.one (by omega))) (NZ.one (by omega)) h1]
    exact red_two hx
theorem red_can' {u : List Int} (h : NZ u) : red (bk u ++ u) = [] := by
  have := red_can h.bk
  rwa [bk_bk] at this
theorem red_mid (u w : List Int) {v : List Int} (hv : NZ v) (h : red v = []) : red (u ++ (v ++ w)) = red (u ++ w) := by
  rw [← List.append_assoc]
  refine red_l w ?_
  have := red_r u (v' := []) hv (fun x hx => by simp at hx) h
  rwa [List.append_nil] at this
theorem red_bk {u : List Int} (h : NZ u) : red (bk (red u)) = red (bk u) := by
  have h1 : red (bk u ++ (red u ++ bk (red u))) = red (bk u) := by
    have := red_r (bk u) (v := red u ++ bk (red u)) (v' := []) (h.red.app h.red.bk) (fun x hx => by simp at hx) (red_can h.red)
    rwa [List.append_nil] at this
  rw [← h1, ← List.append_assoc]
  have h2 : red (bk u ++ red u) = [] := by
    rw [red_r (bk u) h.red h (red_red u)]
    exact red_can' h
  have := red_l (u' := []) (bk (red u)) h2
  rw [this, List.nil_append]
/-! ### rounds of what is turned -/
theorem rnd_of {u v : List Int} (h : red u = red v) : rnd u = rnd v := by unfold rnd; rw [h]
theorem rnd_red (u : List Int) : rnd (red u) = rnd u := rnd_of (red_red u)
theorem lexD_tot : ∀ {a b : List Int}, a.length = b.length → lexD a b = false → lexD b a = false → a = b
  | [], [], _, _, _ => rfl
  | [], _ :: _, h, _, _ => by simp at h
  | _ :: _, [], h, _, _ => by simp at h
  | x :: xs, y :: ys, h, h1, h2 => by
    have h1 : (if x = y then lexD xs ys else decide (x < y)) = false := h1
    have h2 : (if y = x then lexD ys xs else decide (y < x)) = false := h2
    by_cases e : x = y
    · subst e
      rw [if_pos rfl] at h1 h2
      rw [lexD_tot (by simpa using h) h1 h2]
    · rw [if_neg e] at h1
      rw [if_neg (fun q => e q.symm)] at h2
      have := of_decide_eq_false h1
      have := of_decide_eq_false h2
      omega
theorem ord_one {x y : Int} (h : ord x = ord y) : x = y := by
  unfold ord at h
  split at h <;> split at h <;> omega
theorem ords_one : ∀ {u v : List Int}, ords u = ords v → u = v
  | [], [], _ => rfl
  | [], _ :: _, h => by simp [ords] at h
  | _ :: _, [], h => by simp [ords] at h
  | x :: u, y :: v, h => by
    have h1 : ord x :: ords u = ord y :: ords v := h
    injection h1 with h2 h3
    rw [ord_one h2, ords_one h3]
/-- none of the rotations is less -/
theorem lr_min (c : List Int) : ∀ k, k ≤ c.length → lexD (ords (rot c k)) (ords (lr c)) = false := by
  obtain ⟨_, hmin, hkeep⟩ := fold_least c c.length c
  intro k hk
  by_cases q : k < c.length
  · exact hmin k q
  · have : rot c k = c := by
      unfold rot
      rw [show k = c.length by omega, List.drop_length, List.take_length, List.nil_append]
    rw [this]
    exact hkeep _ (lexD_irr _)
theorem rot_inv {c : List Int} {i : Nat} (hi : i ≤ c.length) : rot (rot c i) (c.length - i) = c := by
  unfold rot
  have hl : (c.drop i).length = c.length - i := List.length_drop
  rw [← hl, List.drop_left, List.take_left, List.take_append_drop]
theorem lr_of_rot {c : List Int} {i : Nat} (hi : i ≤ c.length) : lr (rot c i) = lr c := by
  have hl : (rot c i).length = c.length := rot_len c i
  obtain ⟨a, ha, ea⟩ := lr_rot c
  obtain ⟨b, hb, eb⟩ := lr_rot (rot c i)
  rw [hl] at hb
  -- each is a rotation of the other's word
  obtain ⟨k, hk, ek⟩ := rot_rot c hi hb
  have h1 : lexD (ords (lr (rot c i))) (ords (lr c)) = false := by
    rw [eb, ek]; exact lr_min c k (by omega)
  have h2 : lexD (ords (lr c)) (ords (lr (rot c i))) = false := by
    have e : rot c a = rot (rot (rot c i) (c.length - i)) a := by rw [rot_inv hi]
    obtain ⟨m, hm, em⟩ := rot_rot (rot c i) (i := c.length - i) (j := a) (by omega) (by omega)
    rw [ea, e, em]
    exact lr_min (rot c i) m (by omega)
  refine ords_one (lexD_tot ?_ h1 h2)
  unfold ords
  rw [List.length_map, List.length_map, eb, ea, rot_len, rot_len, rot_len]
/-- a reduced word: its lead, its core, the lead turned back -/
theorem core_split (r : List Int) : r = r.take (coreN r) ++ inn r ++ bk (r.take (coreN r)) := by
  obtain ⟨_, h2, _⟩ := ck_spec r r.length 0 (by omega)
  have hn : ck r r.length 0 = coreN r := rfl
  rw [hn] at h2
  have hc := coreN_le r
  have hb : bk (r.take (coreN r)) = r.drop (r.length - coreN r) := by
    refine List.ext_getElem (by rw [bk_len, List.length_take, List.length_drop]; omega) fun i h1 h3 => ?_
    rw [bk_len, List.length_take] at h1
    have h1' : i < coreN r := by omega
    have e1 : (bk (r.take (coreN r)))[i] = -(r.getD (coreN r - 1 - i) 0) := by
      have q : (bk (r.take (coreN r)))[i]? = some (-(r.getD (coreN r - 1 - i) 0)) := by
        unfold bk
        rw [List.getElem?_reverse (by rw [List.length_map, List.length_take]; omega), List.getElem?_map, List.length_map, List.length_take, show min (coreN r) r.length - 1 - i = coreN r - 1 - i by omega, List.getElem?_take_of_lt (by omega), getD_at (show coreN r - 1 - i < r.length by omega)]
        rfl
      exact (List.getElem?_eq_some_iff.mp q).2
    have e2 : (r.drop (r.length - coreN r))[i] = r.getD (r.length - coreN r + i) 0 := by
      have q : (r.drop (r.length - coreN r))[i]? = some (r.getD (r.length - coreN r + i) 0) := by
        rw [List.getElem?_drop, getD_at (by omega)]
      exact (List.getElem?_eq_some_iff.mp q).2
    rw [e1, e2]
    obtain ⟨q1, q2⟩ := h2 (coreN r - 1 - i) (Nat.zero_le _) (by omega)
    rw [q2, show r.length - 1 - (coreN r - 1 - i) = r.length - coreN r + i by omega]
    omega
  rw [hb]
  unfold inn
  have e3 : (r.drop (coreN r)).take (r.length - coreN r - coreN r) ++ r.drop (r.length - coreN r) = r.drop (coreN r) := by
    have := List.take_append_drop (r.length - coreN r - coreN r) (r.drop (coreN r))
    rw [List.drop_drop, show coreN r + (r.length - coreN r - coreN r) = r.length - coreN r by omega] at this
    exact this
  rw [List.append_assoc, e3, List.take_append_drop]
end K53

namespace K53
open PySem Cs
theorem rdc_r : ∀ {u v : List Int}, Rdc (u ++ v) → Rdc v
  | [], v, h => h
  | x :: u, v, h => rdc_r (u := u) (v := v) (Rdc.tail (x := x) h)
theorem rdc_l {u v : List Int} (h : Rdc (u ++ v)) : Rdc u := by
  have h1 := h.rev
  rw [List.reverse_append] at h1
  have := (rdc_r h1).rev
  rwa [List.reverse_reverse] at this
theorem rdc_cons {x : Int} {r : List Int} (h : Rdc r) (hx : ∀ y t, r = y :: t → x ≠ -y) : Rdc (x :: r) := by
  cases r with
  | nil => trivial
  | cons y t => exact ⟨hx y t rfl, h⟩
theorem rdc_snoc {x : Int} {r : List Int} (h : Rdc r) (hx : ∀ y t, r = t ++ [y] → y ≠ -x) : Rdc (r ++ [x]) := by
  have : Rdc (x :: r.reverse) := rdc_cons h.rev fun y t e => by
    have e2 : r = t.reverse ++ [y] := by
      have := congrArg List.reverse e
      rwa [List.reverse_reverse, List.reverse_cons] at this
    have := hx y _ e2
    omega
  have := this.rev
  rwa [List.reverse_cons, List.reverse_reverse] at this
theorem gd_l {u v : List Int} {i : Nat} (h : i < u.length) : (u ++ v).getD i 0 = u.getD i 0 := by
  rw [List.getD_eq_getElem?_getD, List.getD_eq_getElem?_getD, List.getElem?_append_left h]
theorem gd_r {u v : List Int} {i : Nat} (h : u.length ≤ i) : (u ++ v).getD i 0 = v.getD (i - u.length) 0 := by
  rw [List.getD_eq_getElem?_getD, List.getD_eq_getElem?_getD, List.getElem?_append_right h]
theorem bk_at {u : List Int} {i : Nat} (h : i < u.length) : (bk u).getD i 0 = -(u.getD (u.length - 1 - i) 0) := by
  unfold bk
  rw [List.getD_eq_getElem?_getD, List.getElem?_reverse (by rw [List.length_map]; exact h), List.getElem?_map, List.length_map, getD_at (show u.length - 1 - i < u.length by omega)]
  rfl
theorem inn_is {p c : List Int} (hc : Cyc c) (hne : c ≠ []) : inn (p ++ c ++ bk p) = c := by
  obtain ⟨_, h2, h3⟩ := ck_spec (p ++ c ++ bk p) (p ++ c ++ bk p).length 0 (by omega)
  have hn : ck (p ++ c ++ bk p) (p ++ c ++ bk p).length 0 = coreN (p ++ c ++ bk p) := rfl
  rw [hn] at h2 h3
  have hl : (p ++ c ++ bk p).length = p.length + c.length + p.length := by rw [List.length_append, List.length_append, bk_len]
  have hcp : 0 < c.length := by cases c with | nil => exact absurd rfl hne | cons a b => exact Nat.zero_lt_succ _
  rw [hl] at h2 h3
  have a1 : ∀ i, i < p.length → (p ++ c ++ bk p).getD i 0 = p.getD i 0 := fun i hi => by
    rw [List.append_assoc, gd_l hi]
  have a2 : ∀ i, i < p.length → (p ++ c ++ bk p).getD (p.length + c.length + p.length - 1 - i) 0 = -(p.getD i 0) := fun i hi => by
    rw [gd_r (by rw [List.length_append]; omega), List.length_append, bk_at (by omega)]
    congr 2
    omega
  have a3 : (p ++ c ++ bk p).getD p.length 0 = c.getD 0 0 := by
    rw [List.append_assoc, gd_r (Nat.le_refl _), Nat.sub_self, gd_l hcp]
  have a4 : (p ++ c ++ bk p).getD (p.length + c.length + p.length - 1 - p.length) 0 = c.getD (c.length - 1) 0 := by
    rw [List.append_assoc, gd_r (by omega), gd_l (by omega)]
    congr 1
    omega
  have e : coreN (p ++ c ++ bk p) = p.length := by
    rcases Nat.lt_trichotomy (coreN (p ++ c ++ bk p)) p.length with q | q | q
    · exact absurd ⟨by omega, by rw [a1 _ q, a2 _ q]; omega⟩ h3
    · exact q
    · exfalso
      obtain ⟨b1, b2⟩ := h2 p.length (Nat.zero_le _) q
      rw [a3, a4] at b2
      have := hc (by omega) (c.length - 1) (by omega)
      rw [show c.length - 1 + 1 = c.length by omega, Nat.mod_self] at this
      omega
  unfold inn
  rw [e, hl, List.append_assoc, List.drop_left, show p.length + c.length + p.length - p.length - p.length = c.length by omega, List.take_left]
theorem inn_ne {r : List Int} (h : Rdc r) (hne : r ≠ []) : inn r ≠ [] := by
  intro e
  have hl := inn_length r
  rw [e, List.length_nil] at hl
  have hc := coreN_le r
  obtain ⟨_, h2, _⟩ := ck_spec r r.length 0 (by omega)
  have hn : ck r r.length 0 = coreN r := rfl
  rw [hn] at h2
  have hr : 0 < r.length := by cases r with | nil => exact absurd rfl hne | cons a b => exact Nat.zero_lt_succ _
  obtain ⟨b1, b2⟩ := h2 (coreN r - 1) (Nat.zero_le _) (by omega)
  have := str_at (coreN r - 1) h (by omega)
  rw [show r.length - 1 - (coreN r - 1) = coreN r - 1 + 1 by omega] at b2
  exact this b2
theorem inn_self {c : List Int} (h : Cyc c) : inn c = c := by
  unfold inn
  rw [h.core, List.drop_zero, Nat.sub_zero, Nat.sub_zero, List.take_length]
/-- a letter around a reduced word: the core is turned at most -/
theorem conj_letter {r : List Int} (hr : Rdc r) (hz : NZ r) {x : Int} (hx : x ≠ 0) : ∃ i, i ≤ (inn r).length ∧ inn (red ([x] ++ r ++ [-x])) = rot (inn r) i := by
  have sp := core_split r
  have hcyc := inn_cyc hr
  by_cases hne : r = []
  · subst hne
    refine ⟨0, Nat.zero_le _, ?_⟩
    rw [List.append_nil, show [x] ++ [-x] = [x, -x] from rfl, red_two hx, rot_zero]
  have hcne := inn_ne hr hne
  have hxn : NZ [-x] := NZ.one (by omega)
  generalize hp : r.take (coreN r) = p at sp
  generalize inn r = c at *
  cases p with
  | nil =>
    have erc : r = c := by rw [sp]; simp [bk]
    subst erc
    by_cases q1 : ∃ t, r = -x :: t
    · obtain ⟨t, et⟩ := q1
      refine ⟨1, by rw [et]; simp, ?_⟩
      have er : rot r 1 = t ++ [-x] := by rw [et]; rfl
      have hcr := hcyc.rot (k := 1) (by rw [et]; simp)
      rw [er] at hcr ⊢
      have h1 : red ([x] ++ r ++ [-x]) = red (t ++ [-x]) := by
        have e2 : [x] ++ r ++ [-x] = [] ++ ([x, -x] ++ (t ++ [-x])) := by rw [et]; simp
        rw [e2, red_mid [] _ (fun y hy => by
          have : y = x ∨ y = -x := by simpa using hy
          rcases this with e | e <;> omega) (red_two hx), List.nil_append]
      rw [h1, red_of_str hcr.rdc, inn_self hcr]
    · by_cases q2 : ∃ t, r = t ++ [x]
      · obtain ⟨t, et⟩ := q2
        refine ⟨t.length, by rw [et]; simp, ?_⟩
        have er : rot r t.length = [x] ++ t := by rw [et]; unfold rot; rw [List.drop_left, List.take_left]
        have hcr := hcyc.rot (k := t.length) (by rw [et]; simp)
        rw [er] at hcr ⊢
        have h1 : red ([x] ++ r ++ [-x]) = red ([x] ++ t) := by
          have e2 : [x] ++ r ++ [-x] = ([x] ++ t) ++ ([x, -x] ++ []) := by rw [et]; simp
          rw [e2, red_mid _ _ (fun y hy => by
            have : y = x ∨ y = -x := by simpa using hy
            rcases this with e | e <;> omega) (red_two hx), List.append_nil]
        rw [h1, red_of_str hcr.rdc, inn_self hcr]
      · refine ⟨0, Nat.zero_le _, ?_⟩
        rw [rot_zero]
        have hR : Rdc ([x] ++ r ++ [-x]) := by
          refine rdc_snoc (rdc_cons hr fun y t e => ?_) fun y t e => ?_
          · intro e2
            have e : r = y :: t := e
            exact q1 ⟨t, by rw [e, show y = -x by omega]⟩
          · intro e2
            have hy : y = x := by omega
            subst hy
            cases t with
            | nil =>
              have : r = [] := by simpa using e
              exact hne this
            | cons z t =>
              have : r = t ++ [y] := by
                have : y :: r = z :: (t ++ [y]) := e
                injection this
              exact q2 ⟨t, this⟩
        rw [red_of_str hR]
        exact inn_is (p := [x]) hcyc hcne
  | cons y q =>
    refine ⟨0, Nat.zero_le _, ?_⟩
    rw [rot_zero]
    by_cases q1 : y = -x
    · subst q1
      have e1 : r = [-x] ++ (q ++ c ++ bk q) ++ [x] := by
        rw [sp, show (-x) :: q = [-x] ++ q from rfl, bk_app, bk_one, Int.neg_neg]
        simp
      have hR : Rdc (q ++ c ++ bk q) := by
        have := hr
        rw [e1] at this
        exact rdc_r (rdc_l this)
      have hzm : NZ (q ++ c ++ bk q) := fun z hz' => hz z (by rw [e1]; exact List.mem_append_left _ (List.mem_append_right _ hz'))
      have h1 : red ([x] ++ r ++ [-x]) = red (q ++ c ++ bk q) := by
        have e2 : [x] ++ r ++ [-x] = [] ++ ([x, -x] ++ ((q ++ c ++ bk q) ++ [x, -x])) := by rw [e1]; simp
        have n2 : NZ [x, -x] := fun y hy => by
          have : y = x ∨ y = -x := by simpa using hy
          rcases this with e | e <;> omega
        rw [e2, red_mid [] _ n2 (red_two hx), List.nil_append]
        have := red_mid (q ++ c ++ bk q) [] n2 (red_two hx)
        rwa [List.append_nil, List.append_nil] at this
      rw [h1, red_of_str hR]
      exact inn_is hcyc hcne
    · have hR : Rdc ([x] ++ r ++ [-x]) := by
        have hr1 : r = y :: (q ++ c ++ bk (y :: q)) := by rw [sp]; simp
        have hr2 : r = ((y :: q) ++ c ++ bk q) ++ [-y] := by
          conv => lhs; rw [sp]
          rw [show y :: q = [y] ++ q from rfl, bk_app, bk_one]; simp
        refine rdc_snoc (rdc_cons hr fun z t e => ?_) fun z t e => ?_
        · have : y = z := by rw [hr1] at e; injection e
          omega
        · have e3 : [x] ++ ((y :: q) ++ c ++ bk q) ++ [-y] = t ++ [z] := by rw [← e, hr2]; simp
          have := (List.append_inj' e3 rfl).2
          have hz2 : -y = z := by simpa using this
          omega
      rw [red_of_str hR]
      have e4 : [x] ++ r ++ [-x] = (x :: y :: q) ++ c ++ bk (x :: y :: q) := by
        conv => lhs; rw [sp]
        rw [show x :: y :: q = [x] ++ (y :: q) from rfl, bk_app [x], bk_one]; simp
      rw [e4]
      exact inn_is hcyc hcne
theorem rnd_letter {w : List Int} (hz : NZ w) {x : Int} (hx : x ≠ 0) : rnd ([x] ++ w ++ [-x]) = rnd w := by
  obtain ⟨i, hi, e⟩ := conj_letter (red_str w) hz.red hx
  have h1 : red ([x] ++ w ++ [-x]) = red ([x] ++ red w ++ [-x]) := by
    refine red_l [-x] ?_
    exact red_r [x] hz hz.red (red_red w).symm
  unfold rnd
  rw [h1, e, lr_of_rot hi]
theorem rnd_conj {w : List Int} (hz : NZ w) : ∀ {g : List Int}, NZ g → rnd (g ++ w ++ bk g) = rnd w
  | [], _ => by simp [bk]
  | x :: t, h => by
    have hx := h x List.mem_cons_self
    have ht : NZ t := fun y hy => h y (List.mem_cons_of_mem _ hy)
    have e : x :: t ++ w ++ bk (x :: t) = [x] ++ (t ++ w ++ bk t) ++ [-x] := by
      rw [show x :: t = [x] ++ t from rfl, bk_app, bk_one]; simp
    rw [e, rnd_letter ((ht.app hz).app ht.bk) hx, rnd_conj hz ht]
/-! ### turnings as homomorphisms -/
def NZs (ws : List (List Int)) : Prop := ∀ u ∈ ws, NZ u
def flat (ws : List (List Int)) (w : List Int) : List Int := w.flatMap (part ws)
theorem led_flat (ws : List (List Int)) (w : List Int) : led ws w = red (flat ws w) := by
  unfold led red redS flat
  congr 1
  have : ∀ (l st : List Int), l.foldl (fun st s => (part ws s).foldl push st) st = (l.flatMap (part ws)).foldl push st := by
    intro l
    induction l with
    | nil => intro st; rfl
    | cons x l ih => intro st; rw [List.foldl_cons, ih, List.flatMap_cons, List.foldl_append]
  exact this w []
theorem getD_nz {ws : List (List Int)} (h : NZs ws) (i : Nat) : NZ (ws.getD i []) := by
  rw [List.getD_eq_getElem?_getD]
  cases q : ws[i]? with
  | none => exact fun x hx => by simp at hx
  | some u => exact h u (List.mem_of_getElem? q)
theorem part_nz {ws : List (List Int)} (h : NZs ws) (x : Int) : NZ (part ws x) := by
  unfold part
  split
  · exact getD_nz h _
  · exact (getD_nz h _).bk
theorem flat_nz {ws : List (List Int)} (h : NZs ws) (w : List Int) : NZ (flat ws w) := by
  intro x hx
  obtain ⟨y, _, q⟩ := List.mem_flatMap.mp hx
  exact part_nz h y x q
theorem flat_app (ws : List (List Int)) (u v : List Int) : flat ws (u ++ v) = flat ws u ++ flat ws v := by unfold flat; rw [List.flatMap_append]
theorem flat_one (ws : List (List Int)) (x : Int) : flat ws [x] = part ws x := by simp [flat]
theorem part_neg (ws : List (List Int)) {x : Int} (hx : x ≠ 0) : part ws (-x) = bk (part ws x) := by
  unfold part
  by_cases q : 0 < x
  · rw [if_neg (by omega), if_pos q, Int.neg_neg]
  · rw [if_pos (by omega), if_neg q, bk_bk]
theorem flat_bk (ws : List (List Int)) : ∀ {u : List Int}, NZ u → flat ws (bk u) = bk (flat ws u)
  | [], _ => rfl
  | x :: t, h => by
    have ht : NZ t := fun y hy => h y (List.mem_cons_of_mem _ hy)
    rw [show x :: t = [x] ++ t from rfl, bk_app, bk_one, flat_app, flat_one, flat_app, bk_app, flat_bk ws ht, flat_one, part_neg ws (h x List.mem_cons_self)]
theorem flat_red {ws : List (List Int)} (h : NZs ws) : ∀ (n : Nat) {w : List Int}, w.length = n → NZ w → red (flat ws (red w)) = red (flat ws w)
  | 0, w, hl, _ => by
    have : w = [] := List.length_eq_zero_iff.mp hl
    subst this; rfl
  | n + 1, w, hl, hw => by
    obtain ⟨u, x, rfl⟩ : ∃ u x, w = u ++ [x] := by
      have hne : w ≠ [] := fun e => by rw [e] at hl; simp at hl
      exact ⟨w.dropLast, w.getLast hne, (List.dropLast_concat_getLast hne).symm⟩
    have hu : NZ u := fun y hy => hw y (List.mem_append_left _ hy)
    have hx : x ≠ 0 := hw x (by simp)
    have ih := flat_red h n (w := u) (by simpa using hl) hu
    have e1 : red (u ++ [x]) = (push (redS u) x).reverse := by unfold red redS; rw [List.foldl_append]; rfl
    have e2 : red u = (redS u).reverse := rfl
    have e3 : red (flat ws (u ++ [x])) = red (flat ws (red u) ++ part ws x) := by
      rw [flat_app, flat_one]
      exact (red_l (part ws x) ih).symm
    rw [e3, e1]
    cases hr : redS u with
    | nil =>
      rw [e2, hr, push_nil]
      show red (flat ws [x]) = red (flat ws [] ++ part ws x)
      rw [flat_one]; rfl
    | cons y r =>
      rw [e2, hr, push_cons]
      by_cases q : y = -x
      · rw [if_pos q, List.reverse_cons, flat_app, flat_one, q, part_neg ws hx, List.append_assoc]
        have hp := part_nz h x
        have := red_mid (flat ws r.reverse) [] (v := bk (part ws x) ++ part ws x) (hp.bk.app hp) (red_can' hp)
        rw [List.append_nil, List.append_nil] at this
        exact this.symm
      · rw [if_neg q, List.reverse_cons, flat_app, flat_one]
theorem led_nz {ws : List (List Int)} (h : NZs ws) (w : List Int) : NZ (led ws w) := by
  rw [led_flat]; exact (flat_nz h w).red
/-- the round of what a turning leads a round to -/
theorem rnd_led {ws : List (List Int)} (h : NZs ws) {u : List Int} (hu : NZ u) : rnd (led ws (rnd u)) = rnd (led ws u) := by
  have hz := hu.red
  have sp := core_split (red u)
  obtain ⟨i, hi, ei⟩ := lr_rot (inn (red u))
  have e1 : rnd u = (inn (red u)).drop i ++ (inn (red u)).take i := ei
  have hcz : NZ (inn (red u)) := fun x hx => hz x (List.mem_of_mem_drop (List.mem_of_mem_take hx))
  have hpz : NZ ((red u).take (coreN (red u))) := fun x hx => hz x (List.mem_of_mem_take hx)
  generalize (red u).take (coreN (red u)) = p at *
  generalize inn (red u) = c at *
  have L1 : rnd (led ws u) = rnd (flat ws c) := by
    rw [led_flat, rnd_red, ← rnd_of (flat_red h _ rfl hu), sp, flat_app, flat_app, flat_bk ws hpz]
    exact rnd_conj (flat_nz h c) (flat_nz h p)
  have R1 : rnd (led ws (rnd u)) = rnd (flat ws (c.drop i) ++ flat ws (c.take i)) := by
    rw [led_flat, rnd_red, e1, flat_app]
  rw [L1, R1]
  have n1 := flat_nz h (c.take i)
  have n2 := flat_nz h (c.drop i)
  rw [← rnd_conj (w := flat ws (c.drop i) ++ flat ws (c.take i)) (n2.app n1) n1]
  refine rnd_of ?_
  have e2 : flat ws c = flat ws (c.take i) ++ flat ws (c.drop i) := by rw [← flat_app, List.take_append_drop]
  rw [e2]
  have e3 : flat ws (c.take i) ++ (flat ws (c.drop i) ++ flat ws (c.take i)) ++ bk (flat ws (c.take i)) = (flat ws (c.take i) ++ flat ws (c.drop i)) ++ ((flat ws (c.take i) ++ bk (flat ws (c.take i))) ++ []) := by simp
  rw [e3, red_mid _ _ (n1.app n1.bk) (red_can n1), List.append_nil]
theorem flat_congr {f g : Int → List Int} : ∀ {w : List Int}, (∀ x ∈ w, NZ (f x) ∧ NZ (g x) ∧ red (f x) = red (g x)) → red (w.flatMap f) = red (w.flatMap g)
  | [], _ => rfl
  | x :: w, h => by
    obtain ⟨a1, a2, a3⟩ := h x List.mem_cons_self
    have hw := fun y hy => h y (List.mem_cons_of_mem x hy)
    have nz : ∀ {k : Int → List Int}, (∀ y ∈ w, NZ (k y)) → NZ (w.flatMap k) := fun hk z hz => by
      obtain ⟨y, hy, q⟩ := List.mem_flatMap.mp hz
      exact hk y hy z q
    rw [List.flatMap_cons, List.flatMap_cons, red_l _ a3]
    exact red_r _ (nz fun y hy => (hw y hy).1) (nz fun y hy => (hw y hy).2.1) (flat_congr hw)
/-- one turning behind another -/
theorem led_led {t1 t2 : List (List Int)} (h1 : NZs t1) (h2 : NZs t2) {w : List Int} (hw : NZ w) : led t2 (led t1 w) = led (t1.map (led t2)) w := by
  rw [led_flat t2, led_flat t1, flat_red h2 _ rfl (flat_nz h1 w), led_flat]
  have e : flat t2 (flat t1 w) = w.flatMap fun x => flat t2 (part t1 x) := by unfold flat; rw [List.flatMap_assoc]
  rw [e]
  refine (flat_congr fun x hx => ?_).symm
  have hg : ∀ i : Nat, (t1.map (led t2)).getD i [] = led t2 (t1.getD i []) := fun i => by
    rw [List.getD_eq_getElem?_getD, List.getD_eq_getElem?_getD, List.getElem?_map]
    cases t1[i]? <;> rfl
  have hm : NZs (t1.map (led t2)) := fun u hu => by
    obtain ⟨v, _, rfl⟩ := List.mem_map.mp hu
    exact led_nz h2 v
  refine ⟨part_nz hm x, flat_nz h2 _, ?_⟩
  unfold part
  by_cases q : 0 < x
  · rw [if_pos q, if_pos q, hg, led_flat, red_red]
  · rw [if_neg q, if_neg q, hg, led_flat, red_bk (flat_nz h2 _), flat_bk t2 (getD_nz h1 _)]
def idW (L : Nat) : List (List Int) := (idL L).map fun l => [l]
theorem led_id {L : Nat} {w : List Int} (h : WkL L w) : led (idW L) w = red w := by
  rw [led_flat]
  congr 1
  unfold flat
  have hp : ∀ x ∈ w, part (idW L) x = [x] := fun x hx => by
    have := h x hx
    have g : ∀ i : Nat, i < L → (idW L).getD i [] = [(i : Int) + 1] := fun i hi => by
      unfold idW
      rw [List.getD_eq_getElem?_getD, List.getElem?_map, idL_get hi]; rfl
    unfold part
    by_cases q : 0 < x
    · rw [if_pos q, g _ (by omega), show (((x - 1).toNat : Nat) : Int) + 1 = x by omega]
    · rw [if_neg q, g _ (by omega), show (((-x - 1).toNat : Nat) : Int) + 1 = -x by omega, bk_one, Int.neg_neg]
  clear h
  induction w with
  | nil => rfl
  | cons x w ih =>
    rw [List.flatMap_cons, hp x List.mem_cons_self, ih fun y hy => hp y (List.mem_cons_of_mem _ hy)]
    rfl
end K53

namespace K53
open PySem Cs
theorem run_turned_back (w : List Int) (s : Sto) (hw : w.length ≤ 100000) : Ev (m_turned_back [tw w] s) s (tw (Cs.bk w)) := by
  obtain ⟨s1, e, l⟩ := goIts_map (f := turnC (gVar 1) none e_turned_back_1 [some (tw w), none]) (fun d => match d with | .int i => .int (-i) | d => d) (w.map .int).reverse s fun x hx s' hl => by
    obtain ⟨i, hi, rfl⟩ := List.mem_map.mp (List.mem_reverse.mp hx)
    exact ⟨s', by simp [e_turned_back_1], .refl _⟩
  have e2 : ((w.map D.int).reverse.map fun d => match d with | .int i => .int (-i) | d => d) = (Cs.bk w).map D.int := by
    unfold Cs.bk
    rw [← List.map_reverse, List.map_map, ← List.map_reverse, List.map_map]
    rfl
  rw [e2] at e
  have hz : ((Cs.bk w).map D.int).length ≤ sizeLine := by rw [List.length_map, bk_len, size_eq]; omega
  exact ⟨s1.add (.lst ((Cs.bk w).map D.int)), by simp [m_turned_back, b_turned_back, fnB_eq, goWk_its, e, newL_ok' _ hz, tuple_r _ (get_add_same s1 _)], l.trans (.add _ _)⟩

theorem run_straightened_r (i : Nat) (w : List Int) (s : Sto) (hi : i < s.n) (hgi : s.get i = some (.lst (w.map .int))) (hw : w.length ≤ 100000) : Ev (m_straightened [.ref i] s) s (tw (red w)) := by
  have n0 := newL_ok' s (xs := []) (by rw [size_eq]; simp)
  have g0 := get_add_same s (.lst [])
  have l0 : Le s (s.add (.lst [])) := .add _ _
  generalize s.add (.lst []) = s0 at *
  have gi0 := (l0.get i hi).trans hgi
  refine Exists.elim (forLive_inv (b := bodyF (gVar 2) b_straightened_1) (i := i) (xs := w.map D.int)
    (fun k env s' => (∃ z, env = [some (.ref i), some (.ref s.n), z]) ∧ s'.get s.n = some (.lst ((((w.take k).foldl push []).reverse).map .int)) ∧ Le s s' ∧ s'.get i = some (.lst (w.map .int)))
    (fun k env s' p => p.2.2.2) 1000000 0 [some (.ref i), some (.ref s.n), none] s0
    ⟨⟨none, rfl⟩, g0, l0, gi0⟩ (by rw [List.length_map]; omega) (Nat.zero_le _) ?step) ?rest
  case rest =>
    rintro env ⟨s', e, ⟨z, rfl⟩, hg, hl, _⟩
    refine ⟨s', ?_, hl⟩
    rw [List.length_map, List.take_length] at hg
    simp only [m_straightened, b_straightened, fnB_eq, List.length_cons, List.length_nil, List.map_cons, List.map_nil, List.cons_append, List.nil_append, Nat.reduceAdd, Nat.reduceSub, List.replicate, if_true, s_Cons, s_Asg, g_Var, v_Lst, a_Nil, bind_ok', n0, st_ok', List.set_cons_zero, List.set_cons_succ, then_nx, s_For, i_Seq, v_Var, List.getElem?_cons_zero, List.getElem?_cons_succ, getV_some, seqW_ref gi0, wkS_live, e, s_Ret, v_Bi, a_Cons, tuple_r _ hg, then_rt, fnR_rt]
    rfl
  case step =>
    rintro k x env s1 hx ⟨⟨z, rfl⟩, hg, hl, hgi'⟩
    obtain ⟨n, hn, rfl⟩ := map_at hx
    have hlen := foldl_push_len (w.take k) []
    rw [take_fold push [] hn]
    generalize (w.take k).foldl push [] = st at hg hlen ⊢
    have hst : st.length < sizeLine := by
      rw [size_eq]
      simp only [List.length_nil, List.length_take] at hlen
      omega
    have hne : i ≠ s.n := by omega
    cases st with
    | nil =>
      exact ⟨[some (.ref i), some (.ref s.n), some (.int n)], _, .inl (by simp [b_straightened_1, len_r _ hg, isL_r _ hg, append_r _ hg, size_eq]; rfl), ⟨_, rfl⟩, by rw [get_set_same]; rfl, hl.set (Nat.le_refl _) _, by rw [get_set_ne hne]; exact hgi'⟩
    | cons y r =>
      rw [List.reverse_cons, List.map_append] at hg
      rw [push_cons]
      by_cases hy : y = -n
      · rw [if_pos hy]
        exact ⟨[some (.ref i), some (.ref s.n), some (.int n)], _, .inl (by simp [b_straightened_1, len_r _ hg, isL_r _ hg, ix_r _ hg, atI_last', hy, pop_r _ (show s1.get s.n = some (.lst (r.reverse.map D.int ++ [.int y])) from hg)]; rfl), ⟨_, rfl⟩, by rw [get_set_same, List.map_reverse], hl.set (Nat.le_refl _) _, by rw [get_set_ne hne]; exact hgi'⟩
      · rw [if_neg hy]
        exact ⟨[some (.ref i), some (.ref s.n), some (.int n)], _, .inl (by
          simp only [List.length_cons] at hst
          simp [b_straightened_1, len_r _ hg, isL_r _ hg, ix_r _ hg, atI_last', hy, append_r _ hg, hst]; rfl), ⟨_, rfl⟩, by rw [get_set_same]; simp, hl.set (Nat.le_refl _) _, by rw [get_set_ne hne]; exact hgi'⟩
theorem flat_len {ws : List (List Int)} {B : Nat} (h : ∀ u ∈ ws, u.length ≤ B) : ∀ w : List Int, (flat ws w).length ≤ B * w.length
  | [] => Nat.zero_le _
  | x :: w => by
    have := flat_len h w
    have := part_len h x
    rw [show x :: w = [x] ++ w from rfl, flat_app, flat_one, List.length_append, List.length_append]
    show _ ≤ B * (1 + w.length)
    rw [Nat.mul_add]
    omega
theorem led_len {ws : List (List Int)} {B : Nat} (h : ∀ u ∈ ws, u.length ≤ B) (w : List Int) : (led ws w).length ≤ B * w.length := by
  rw [led_flat]
  exact Nat.le_trans (red_len _) (flat_len h w)
theorem run_put_for (ws : List (List Int)) (w : List Int) (s : Sto) (hw : WkL ws.length w) (hl : w.length ≤ 1000) (hu : ∀ u ∈ ws, u.length ≤ 50) : Ev (m_put_for [.tup (ws.map tw), tw w] s) s (tw (led ws w)) := by
  have n0 := newL_ok' s (xs := []) (by rw [size_eq]; simp)
  have g0 := get_add_same s (.lst [])
  have l0 : Le s (s.add (.lst [])) := .add _ _
  have q0 : s.n < (s.add (.lst [])).n := Nat.lt_succ_self _
  generalize s.add (.lst []) = s0 at *
  refine Exists.elim (forIts_inv (b := bodyF (gVar 3) b_put_for_1)
    (fun k env s' => (∃ z3, env = [some (.tup (ws.map tw)), some (tw w), some (.ref s.n), z3]) ∧ Le s s' ∧ s.n < s'.n ∧ s'.get s.n = some (.lst ((flat ws (w.take k)).map .int)))
    (w.map .int) 0 [some (.tup (ws.map tw)), some (tw w), some (.ref s.n), none] s0 ⟨⟨none, rfl⟩, l0, q0, g0⟩ ?step) ?rest
  case rest =>
    rintro env ⟨s', e, ⟨z3, rfl⟩, hle, hlt, hg⟩
    rw [List.length_map, Nat.zero_add, List.take_length] at hg
    have hfl := flat_len hu w
    obtain ⟨s2, e2, l2⟩ := run_straightened_r s.n (flat ws w) s' hlt hg (by omega)
    have tl : tw w = .tup (w.map .int) := rfl
    refine ⟨s2, ?_, hle.trans l2⟩
    rw [tl] at e ⊢
    rw [led_flat]
    simp only [m_put_for, b_put_for, fnB_eq, List.length_cons, List.length_nil, List.map_cons, List.map_nil, List.cons_append, List.nil_append, Nat.reduceAdd, Nat.reduceSub, List.replicate, if_true, s_Cons, s_Asg, v_Lst, a_Nil, bind_ok', n0, st_ok', g_Var, List.set_cons_zero, List.set_cons_succ, then_nx, s_For, i_Seq, v_Var, List.getElem?_cons_zero, List.getElem?_cons_succ, getV_some, seqW_tup, wkS_its, e, s_Ret, v_Call, a_Cons, e2, then_rt, fnR_rt]
  case step =>
    rintro i x env s1 hx ⟨⟨z3, rfl⟩, hle, hlt, hg⟩
    obtain ⟨n, hn, rfl⟩ := map_at hx
    rw [Nat.zero_add] at *
    have hil := (List.getElem?_eq_some_iff.mp hn).1
    have hnw := hw n (List.mem_of_getElem? hn)
    have htk : w.take (i + 1) = w.take i ++ [n] := by rw [List.take_add_one, hn]; rfl
    rw [htk, flat_app, flat_one, List.map_append]
    have hfl := flat_len hu (w.take i)
    rw [List.length_take] at hfl
    have hpl := part_len hu n
    generalize flat ws (w.take i) = fl at *
    obtain ⟨s2, hl2, hpt⟩ : ∃ s2, Le s1 s2 ∧ (xIf (xBin (ltI fun i j => decide (j < i)) (xVar 3) (xC (.int 0))) (xBin ixD (xVar 0) (xBin subD (xVar 3) (xC (.int 1)))) (xCall m_turned_back (aCons (xBin ixD (xVar 0) (xBin subD (xUn negD (xVar 3)) (xC (.int 1)))) aNil))).v [some (.tup (ws.map tw)), some (tw w), some (.ref s.n), some (.int n)] s1 = .ok (tw (part ws n)) s2 := by
      by_cases q : 0 < n
      · have d1 : decide (0 < n) = true := decide_eq_true q
        have ix := ix_ws (ws := ws) (i := (n - 1).toNat) (by omega) s1
        rw [show (((n - 1).toNat : Nat) : Int) = n - 1 by omega] at ix
        refine ⟨s1, .refl _, ?_⟩
        unfold part
        rw [if_pos q]
        simp only [v_If, t_Bin, v_Bin, v_Var, v_C, List.getElem?_cons_zero, List.getElem?_cons_succ, getV_some, bind_ok', ltI_ii, d1, truth_bl, if_true, sub_ii, ix]
      · have d1 : decide (0 < n) = false := decide_eq_false q
        have ix := ix_ws (ws := ws) (i := (-n - 1).toNat) (by omega) s1
        rw [show (((-n - 1).toNat : Nat) : Int) = -n - 1 by omega] at ix
        have hb : (ws.getD (-n - 1).toNat []).length ≤ 50 := by
          have := hpl
          unfold part at this
          rw [if_neg q, bk_len] at this
          exact this
        obtain ⟨s2, e2, l2⟩ := run_turned_back (ws.getD (-n - 1).toNat []) s1 (by omega)
        refine ⟨s2, l2, ?_⟩
        unfold part
        rw [if_neg q]
        simp only [v_If, t_Bin, v_Bin, v_Un, v_Call, a_Cons, a_Nil, v_Var, v_C, List.getElem?_cons_zero, List.getElem?_cons_succ, getV_some, bind_ok', ltI_ii, d1, truth_bl, Bool.false_eq_true, if_false, neg_i, sub_ii, ix, e2]
    have hg2 := (hl2.get _ hlt).trans hg
    have hlt2 := Nat.lt_of_lt_of_le hlt hl2.n
    have hb3 : 50 * min i w.length ≤ 50 * 1000 := Nat.mul_le_mul_left _ (by omega)
    have hsz : (fl.map D.int).length + ((part ws n).map D.int).length ≤ sizeLine := by
      rw [List.length_map, List.length_map, size_eq]; omega
    have ex := extend_t _ hg2 (ys := (part ws n).map .int) hsz
    have tl : tw (part ws n) = .tup ((part ws n).map .int) := rfl
    rw [tl] at hpt
    refine ⟨_, _, .inl (by
      simp only [bodyF_eq, b_put_for_1, g_Var, st_ok', List.set_cons_zero, List.set_cons_succ, s_Cons, s_Expr, v_Meth, v_Var, List.getElem?_cons_zero, List.getElem?_cons_succ, getV_some, bind_ok', isL_r _ hg, if_true, a_Cons, a_Nil, hpt, ex, then_nx, s_Nil]
      rfl), ⟨_, rfl⟩, (hle.trans hl2).set (Nat.le_refl _) _, hlt2, get_set_same _ _ _⟩
/-- what a move does to a round -/
def T (L : Nat) (m : Mv) (r : List Int) : List Int := rnd (led (turned L m) r)
theorem trn_len3 {L : Nat} (hL : LL L) {m : Mv} (h : okB L m = true) : ∀ u ∈ turned L m, u.length ≤ 3 := fun u hu => (trn_ok hL h u hu).2
theorem comp_rows {g : Nat} {e : Sem} {env : Cs.Env} (F : List Int → D) : ∀ (rows : List (List Int)) (s : Sto), (∀ r ∈ rows, ∀ s', Le s s' → Ev (e.v (env.set g (some (tw r))) s') s' (F r)) → Ev (goIts (turnC (gVar g) none e env) (rows.map tw) s) s (rows.map F)
  | [], s, _ => .ok _ _
  | r :: rows, s, h => by
    obtain ⟨s1, e1, l1⟩ := h r List.mem_cons_self s (.refl _)
    obtain ⟨s2, e2, l2⟩ := comp_rows F rows s1 fun q hq s' hl => h q (List.mem_cons_of_mem _ hq) s' (l1.trans hl)
    refine ⟨s2, ?_, l1.trans l2⟩
    show (turnC (gVar g) none e env (tw r) s).bind _ = _
    simp only [turnC_none, g_Var, bind_ok', e1, e2]
    rfl
theorem T_len {L : Nat} (hL : LL L) {m : Mv} (h : okB L m = true) (r : List Int) : (T L m r).length ≤ 3 * r.length := Nat.le_trans (rnd_len _) (led_len (trn_len3 hL h) r)
theorem run_turned_rounds {L : Nat} (hL : LL L) {m : Mv} (h : okB L m = true) (rows : List (List Int)) (s : Sto) (hn : rows.length ≤ 100) (hr : ∀ r ∈ rows, WkL L r ∧ r.length ≤ 1000) : Ev (m_turned_rounds [trnD L m, .tup (rows.map tw)] s) s (.tup ((rows.map (T L m)).map tw)) := by
  obtain ⟨s1, e, l⟩ := comp_rows (g := 2) (e := e_turned_rounds_1) (env := [some (trnD L m), some (.tup (rows.map tw)), none]) (fun r => tw (T L m r)) rows s fun r hm s' hl => by
    obtain ⟨h1, h2⟩ := hr r hm
    obtain ⟨s2, e2, l2⟩ := run_put_for (turned L m) r s' (by rw [trn_len]; exact h1) h2 (fun u hu => by have := trn_len3 hL h u hu; omega)
    have ix : ixD (trnD L m) (.int 1) s' = .ok (.tup ((turned L m).map tw)) s' := rfl
    have hll := led_len (trn_len3 hL h) r
    obtain ⟨s3, e3, l3⟩ := run_round_from (led (turned L m) r) s2 (by omega)
    have lw : m_led_walk [trnD L m, tw r] s' = .ok (tw (led (turned L m) r)) s2 := by
      simp only [m_led_walk, b_led_walk, fnB_eq, List.length_cons, List.length_nil, List.map_cons, List.map_nil, List.cons_append, List.nil_append, Nat.reduceAdd, Nat.reduceSub, List.replicate, if_true, s_Cons, s_Ret, v_Call, a_Cons, a_Nil, v_Bin, v_C, v_Var, List.getElem?_cons_zero, List.getElem?_cons_succ, getV_some, bind_ok', ix, e2, st_ok', then_rt, fnR_rt]
    refine ⟨s3, ?_, l2.trans l3⟩
    simp only [List.set_cons_zero, List.set_cons_succ, e_turned_rounds_1, v_Call, a_Cons, a_Nil, v_Var, List.getElem?_cons_zero, List.getElem?_cons_succ, getV_some, bind_ok', lw, e3]
    rfl
  have em : (rows.map fun r => tw (T L m r)) = (rows.map (T L m)).map tw := by rw [List.map_map]; rfl
  rw [em] at e
  have n1 := newL_ok' s1 (xs := (rows.map (T L m)).map tw) (by rw [List.length_map, List.length_map, size_eq]; omega)
  have g1 := get_add_same s1 (.lst ((rows.map (T L m)).map tw))
  refine ⟨s1.add (.lst ((rows.map (T L m)).map tw)), ?_, l.trans (.add _ _)⟩
  simp only [m_turned_rounds, b_turned_rounds, fnB_eq, List.length_cons, List.length_nil, List.map_cons, List.map_nil, List.cons_append, List.nil_append, Nat.reduceAdd, Nat.reduceSub, List.replicate, if_true, s_Cons, s_Ret, v_Bi, a_Cons, a_Nil, v_Comp, i_Seq, v_Var, List.getElem?_cons_zero, List.getElem?_cons_succ, getV_some, bind_ok', seqW_tup, goWk_its, wipeE_nil, wipeE_cons, List.set_cons_zero, List.set_cons_succ, e, n1, tuple_r _ g1, st_ok', then_rt, fnR_rt]
theorem run_moved_rounds {L : Nat} (hL : LL L) {m : Mv} (h : okB L m = true) (rows : List (List Int)) (s : Sto) (hn : rows.length ≤ 100) (hr : ∀ r ∈ rows, WkL L r ∧ r.length ≤ 1000) : Ev (m_moved_rounds [.int L, mvD m, .tup (rows.map tw)] s) s (.tup ((rows.map (T L m)).map tw)) := by
  obtain ⟨s1, e1, l1⟩ := run_turning_of hL h s
  obtain ⟨s2, e2, l2⟩ := run_turned_rounds hL h rows s1 hn hr
  refine ⟨s2, ?_, l1.trans l2⟩
  simp only [m_moved_rounds, b_moved_rounds, fnB_eq, List.length_cons, List.length_nil, List.map_cons, List.map_nil, List.cons_append, List.nil_append, Nat.reduceAdd, Nat.reduceSub, List.replicate, if_true, s_Cons, s_Ret, v_Call, a_Cons, a_Nil, v_Var, List.getElem?_cons_zero, List.getElem?_cons_succ, getV_some, bind_ok', e1, e2, st_ok', then_rt, fnR_rt]
/-- rounds -/
structure RowsOk (L : Nat) (rows : List (List Int)) : Prop where
  n1 : 1 ≤ rows.length
  n4 : rows.length ≤ 4
  ok : ∀ r ∈ rows, WkL L r ∧ rnd r = r ∧ r.length ≤ 1000
theorem run_need_rounds {L : Nat} {rows : List (List Int)} (R : RowsOk L rows) (s : Sto) : Ev (m_need_rounds [.int L, .tup (rows.map tw)] s) s .non := by
  have hn1 := R.n1
  have hn4 := R.n4
  obtain ⟨s1, e, l⟩ := comp_rows (g := 2) (e := e_are_rounds_1) (env := [some (.int L), some (.tup (rows.map tw)), none]) (fun r => .bl true) rows s fun r hm s' hl => by
    obtain ⟨h1, h2, h3⟩ := R.ok r hm
    obtain ⟨s2, e2, l2⟩ := run_is_a_round L r s' (by omega) h1
    rw [decide_eq_true h2] at e2
    refine ⟨s2, ?_, l2⟩
    simp only [List.set_cons_zero, List.set_cons_succ, e_are_rounds_1, v_Call, a_Cons, a_Nil, v_Var, List.getElem?_cons_zero, List.getElem?_cons_succ, getV_some, bind_ok', e2]
  have em : (rows.map fun _ => D.bl true) = (rows.map fun _ => true).map .bl := by simp
  rw [em] at e
  have n1 := newL_ok' s1 (xs := (rows.map fun _ => true).map D.bl) (by rw [List.length_map, List.length_map, size_eq]; omega)
  have al := all_r _ (get_add_same s1 (.lst ((rows.map fun _ => true).map D.bl)))
  have ea : (rows.map fun _ => true).all id = true := by simp
  rw [ea] at al
  have l2 : Le s1 (s1.add (.lst ((rows.map fun _ => true).map D.bl))) := .add _ _
  generalize s1.add (.lst ((rows.map fun _ => true).map D.bl)) = s2 at *
  have i0 : isiD [.tuple] (.tup (rows.map tw)) s = .ok (.bl true) s := rfl
  have ln : lenB [.tup (rows.map tw)] s = .ok (.int rows.length) s := by rw [len_tup, List.length_map]
  have d1 : decide ((1 : Int) ≤ (rows.length : Int)) = true := decide_eq_true (by omega)
  have d2 : decide ((rows.length : Int) ≤ 4) = true := decide_eq_true (by omega)
  have ar : m_are_rounds [.int L, .tup (rows.map tw)] s = .ok (.bl true) s2 := by
    simp only [m_are_rounds, b_are_rounds, fnB_eq, List.length_cons, List.length_nil, List.map_cons, List.map_nil, List.cons_append, List.nil_append, Nat.reduceAdd, Nat.reduceSub, List.replicate, if_true, s_Cons, s_If, t_Or, t_Not, t_Un, t_Chain, v_Chain, v_Un, v_Bi, v_C, v_Var, a_Cons, a_Nil, List.getElem?_cons_zero, List.getElem?_cons_succ, getV_some, bind_ok', i0, truth_bl, Bool.not_true, Bool.false_eq_true, if_false, ln, ltI_ii, d1, d2, chain2_t, st_ok', s_Nil, then_nx, s_Ret, v_Comp, i_Seq, seqW_tup, goWk_its, wipeE_nil, wipeE_cons, List.set_cons_zero, List.set_cons_succ, e, n1, al, then_rt, fnR_rt]
  refine ⟨s2, ?_, l.trans l2⟩
  simp only [m_need_rounds, b_need_rounds, fnB_eq, List.length_cons, List.length_nil, List.map_cons, List.map_nil, List.cons_append, List.nil_append, Nat.reduceAdd, Nat.reduceSub, List.replicate, if_true, s_Cons, s_If, t_Not, t_Call, a_Cons, a_Nil, v_Var, List.getElem?_cons_zero, List.getElem?_cons_succ, getV_some, bind_ok', ar, truth_bl, Bool.not_true, st_ok', Bool.false_eq_true, if_false, s_Nil, then_nx, fnR_nx]
theorem run_need_moves {L : Nat} (hL : LL L) (ms : List Mv) (i : Nat) (s : Sto) (hi : i < s.n) (hg : s.get i = some (.lst (ms.map mvD))) (hn : ms.length ≤ 1000) (hm : ∀ m ∈ ms, okB L m = true) : Ev (m_need_moves [.int L, .ref i] s) s .non := by
  refine Exists.elim (forEnl_inv (b := bodyF (gTup 2 (gsCons (gVar 2) (gsCons (gVar 3) gsNil))) b_need_moves_1) (i := i) (xs := ms.map mvD)
    (fun k env s' => Le s s' ∧ ∃ z2 z3, env = [some (.int L), some (.ref i), z2, z3]) (fun k env s' p => (p.1.get i hi).trans hg) 1000000 0 [some (.int L), some (.ref i), none, none] s ⟨.refl _, none, none, rfl⟩ (by rw [List.length_map]; omega) (Nat.zero_le _) ?step) ?rest
  case rest =>
    rintro env ⟨s', e, l, z2, z3, rfl⟩
    have i0 : isiD [.list] (.ref i) s = .ok (.bl true) s := by simp [isiD, mapO, isTy, hg]
    refine ⟨s', ?_, l⟩
    simp only [m_need_moves, b_need_moves, fnB_eq, List.length_cons, List.length_nil, List.map_cons, List.map_nil, List.cons_append, List.nil_append, Nat.reduceAdd, Nat.reduceSub, List.replicate, if_true, s_Cons, s_If, t_Not, t_Un, v_Var, List.getElem?_cons_zero, List.getElem?_cons_succ, getV_some, bind_ok', i0, truth_bl, Bool.not_true, st_ok', Bool.false_eq_true, if_false, s_Nil, then_nx, s_For, i_Enum2, a_Cons, a_Nil, enW2_r hg, wkS_enl, e, fnR_nx]
  case step =>
    rintro k x env s1 hx ⟨l, z2, z3, rfl⟩
    rw [List.getElem?_map] at hx
    obtain ⟨m, hx2, rfl⟩ := Option.map_eq_some_iff.mp hx
    obtain ⟨s2, e2, l2⟩ := run_is_a_move hL (hm m (List.mem_of_getElem? hx2)) s1
    refine ⟨_, s2, .inl (by
      simp only [bodyF_eq, b_need_moves_1, g_Tup, List.length_cons, List.length_nil, Nat.reduceAdd, if_true, gs_Cons, gs_Nil, g_Var, bind_ok', st_ok', List.set_cons_zero, List.set_cons_succ, s_Cons, s_If, t_Not, t_Call, a_Cons, a_Nil, v_Var, List.getElem?_cons_zero, List.getElem?_cons_succ, getV_some, e2, truth_bl, Bool.not_true, Bool.false_eq_true, if_false, s_Nil, then_nx]
      rfl), l.trans l2, _, _, rfl⟩
/-- rounds behind moves -/
def Ts (L : Nat) (ms : List Mv) (rows : List (List Int)) : List (List Int) := ms.foldl (fun r m => r.map (T L m)) rows
theorem Ts_len (L : Nat) : ∀ (ms : List Mv) (rows : List (List Int)), (Ts L ms rows).length = rows.length
  | [], _ => rfl
  | m :: ms, rows => by
    show (Ts L ms (rows.map (T L m))).length = _
    rw [Ts_len L ms, List.length_map]
theorem run_moved_by {L : Nat} (hL : LL L) (ms : List Mv) (i : Nat) {rows : List (List Int)} (R : RowsOk L rows) (s : Sto) (hi : i < s.n) (hg : s.get i = some (.lst (ms.map mvD))) (hn : ms.length ≤ 1000) (hm : ∀ m ∈ ms, okB L m = true)
    (hb : ∀ k, ∀ r ∈ Ts L (ms.take k) rows, WkL L r ∧ r.length ≤ 1000) : Ev (m_moved_by [.int L, .ref i, .tup (rows.map tw)] s) s (.tup ((Ts L ms rows).map tw)) := by
  have nl := run_need_letters L s hL
  have hn4 := R.n4
  obtain ⟨s1, e1, l1⟩ := run_need_moves hL ms i s hi hg hn hm
  obtain ⟨s2, e2, l2⟩ := run_need_rounds R s1
  have g2 := ((l1.trans l2).get i hi).trans hg
  have hi2 := Nat.lt_of_lt_of_le hi (l1.trans l2).n
  refine Exists.elim (forLive_inv (b := bodyF (gVar 3) b_moved_by_1) (i := i) (xs := ms.map mvD)
    (fun k env s' => Le s2 s' ∧ ∃ z3, env = [some (.int L), some (.ref i), some (.tup ((Ts L (ms.take k) rows).map tw)), z3]) (fun k env s' p => (p.1.get i hi2).trans g2) 1000000 0 [some (.int L), some (.ref i), some (.tup (rows.map tw)), none] s2 ⟨.refl _, none, rfl⟩ (by rw [List.length_map]; omega) (Nat.zero_le _) ?step) ?rest
  case rest =>
    rintro env ⟨s', e, l, z3, rfl⟩
    rw [List.length_map, List.take_length] at e
    refine ⟨s', ?_, (l1.trans l2).trans l⟩
    simp only [m_moved_by, b_moved_by, fnB_eq, List.length_cons, List.length_nil, List.map_cons, List.map_nil, List.cons_append, List.nil_append, Nat.reduceAdd, Nat.reduceSub, List.replicate, if_true, s_Cons, s_Expr, v_Call, a_Cons, a_Nil, v_Var, List.getElem?_cons_zero, List.getElem?_cons_succ, getV_some, bind_ok', nl, st_ok', then_nx, e1, e2, s_For, i_Seq, seqW_ref g2, wkS_live, e, s_Ret, then_rt, fnR_rt]
  case step =>
    rintro k x env s3 hx ⟨l, z3, rfl⟩
    rw [List.getElem?_map] at hx
    obtain ⟨m, hx2, rfl⟩ := Option.map_eq_some_iff.mp hx
    obtain ⟨s4, e4, l4⟩ := run_moved_rounds hL (hm m (List.mem_of_getElem? hx2)) (Ts L (ms.take k) rows) s3 (by rw [Ts_len]; omega) (hb k)
    have htk : Ts L (ms.take (k + 1)) rows = (Ts L (ms.take k) rows).map (T L m) := by
      unfold Ts
      rw [List.take_add_one, hx2, List.foldl_append]; rfl
    refine ⟨[some (.int L), some (.ref i), some (.tup ((Ts L (ms.take (k + 1)) rows).map tw)), some (mvD m)], s4, .inl ?_, l.trans l4, _, rfl⟩
    rw [htk]
    simp only [bodyF_eq, b_moved_by_1, g_Var, st_ok', List.set_cons_zero, List.set_cons_succ, s_Cons, s_Asg, v_Call, a_Cons, a_Nil, v_Var, List.getElem?_cons_zero, List.getElem?_cons_succ, getV_some, bind_ok', e4, then_nx, s_Nil]
theorem run_moved {L : Nat} (hL : LL L) {m : Mv} (h : okB L m = true) {rows : List (List Int)} (R : RowsOk L rows) (s : Sto) : Ev (m_moved [.int L, mvD m, .tup (rows.map tw)] s) s (.tup ((rows.map (T L m)).map tw)) := by
  have nl := run_need_letters L s hL
  have hn4 := R.n4
  obtain ⟨s1, e1, l1⟩ := run_need_move hL h s
  obtain ⟨s2, e2, l2⟩ := run_need_rounds R s1
  obtain ⟨s3, e3, l3⟩ := run_moved_rounds hL h rows s2 (by omega) (fun r hr => ⟨(R.ok r hr).1, (R.ok r hr).2.2⟩)
  refine ⟨s3, ?_, (l1.trans l2).trans l3⟩
  simp only [m_moved, b_moved, fnB_eq, List.length_cons, List.length_nil, List.map_cons, List.map_nil, List.cons_append, List.nil_append, Nat.reduceAdd, Nat.reduceSub, List.replicate, if_true, s_Cons, s_Expr, s_Ret, v_Call, a_Cons, a_Nil, v_Var, List.getElem?_cons_zero, List.getElem?_cons_succ, getV_some, bind_ok', nl, st_ok', then_nx, e1, e2, e3, then_rt, fnR_rt]
/-- the number of all steps -/
def lens (rows : List (List Int)) : Int := (rows.map fun r => (r.length : Int)).sum
theorem comp_lens {g : Nat} {e : Sem} {env : Cs.Env} (rows : List (List Int)) (s : Sto) (h : ∀ r ∈ rows, ∀ s', e.v (env.set g (some (tw r))) s' = .ok (.int r.length) s') : goIts (turnC (gVar g) none e env) (rows.map tw) s = .ok ((rows.map fun r => (r.length : Int)).map .int) s := by
  induction rows with
  | nil => rfl
  | cons r rows ih =>
    have ih := ih fun q hq => h q (List.mem_cons_of_mem _ hq)
    show (turnC (gVar g) none e env (tw r) s).bind _ = _
    simp only [turnC_none, g_Var, bind_ok', h r List.mem_cons_self, ih]
    rfl
theorem sum_lens (rows : List (List Int)) (s : Sto) (hn : rows.length ≤ 1000) : ∃ s', newL ((rows.map fun r => (r.length : Int)).map .int) s = .ok (.ref s.n) s' ∧ sumB [.ref s.n] s' = .ok (.int (lens rows)) s' ∧ Le s s' :=
  ⟨_, newL_ok' s (by rw [List.length_map, List.length_map, size_eq]; omega), sum_r _ (get_add_same s (.lst ((rows.map fun r => (r.length : Int)).map .int))), .add _ _⟩
theorem run_length_of {L : Nat} (hL : LL L) {rows : List (List Int)} (R : RowsOk L rows) (s : Sto) : Ev (m_length_of [.int L, .tup (rows.map tw)] s) s (.int (lens rows)) := by
  have nl := run_need_letters L s hL
  have hn4 := R.n4
  obtain ⟨s1, e1, l1⟩ := run_need_rounds R s
  have e2 := comp_lens (g := 1) (e := e_length_1) (env := [some (.tup (rows.map tw)), none]) rows s1 fun r hr s' => by
    simp only [List.set_cons_zero, List.set_cons_succ, e_length_1, v_Bi, a_Cons, a_Nil, v_Var, List.getElem?_cons_zero, List.getElem?_cons_succ, getV_some, bind_ok', len_tw]
  obtain ⟨s2, e3, e4, l2⟩ := sum_lens rows s1 (by omega)
  have ml : m_length [.tup (rows.map tw)] s1 = .ok (.int (lens rows)) s2 := by
    simp only [m_length, b_length, fnB_eq, List.length_cons, List.length_nil, List.map_cons, List.map_nil, List.cons_append, List.nil_append, Nat.reduceAdd, Nat.reduceSub, List.replicate, if_true, s_Cons, s_Ret, v_Bi, a_Cons, a_Nil, v_Comp, i_Seq, v_Var, List.getElem?_cons_zero, List.getElem?_cons_succ, getV_some, bind_ok', seqW_tup, goWk_its, wipeE_nil, wipeE_cons, List.set_cons_zero, List.set_cons_succ, e2, e3, e4, st_ok', then_rt, fnR_rt]
  refine ⟨s2, ?_, l1.trans l2⟩
  simp only [m_length_of, b_length_of, fnB_eq, List.length_cons, List.length_nil, List.map_cons, List.map_nil, List.cons_append, List.nil_append, Nat.reduceAdd, Nat.reduceSub, List.replicate, if_true, s_Cons, s_Expr, s_Ret, v_Call, a_Cons, a_Nil, v_Var, List.getElem?_cons_zero, List.getElem?_cons_succ, getV_some, bind_ok', nl, st_ok', then_nx, e1, ml, then_rt, fnR_rt]
theorem run_law_moved {L : Nat} (hL : LL L) {m : Mv} (h : okB L m = true) (rows : List (List Int)) (s : Sto) (hn : rows.length ≤ 100) (hr : ∀ r ∈ rows, WkL L r ∧ r.length ≤ 1000) : Ev (m__law_moved [.int L, mvD m, .tup (rows.map tw)] s) s (.tup ((rows.map (T L m)).map tw)) := by
  have hp := hL.pos
  obtain ⟨wi, s1, f1, g1, l1, hw1, hw2⟩ := run_law_turned hL h s
  obtain ⟨s2, e, l⟩ := comp_rows (g := 4) (e := e__law_moved_1) (env := [some (.int L), some (mvD m), some (.tup (rows.map tw)), some (.ref wi), none]) (fun r => tw (T L m r)) rows s1 fun r hm s' hl => by
    obtain ⟨h1, h2⟩ := hr r hm
    have g' := (hl.get wi hw2).trans g1
    have hw' := Nat.lt_of_lt_of_le hw2 hl.n
    obtain ⟨s2, e2, l2⟩ := run_law_led (turned L m) (.ref wi) r s' (fun s'' le i' hi' => ix_rs ((le.get wi hw').trans g') hi') (by rw [trn_len]; exact h1) h2 (fun u hu => by have := trn_len3 hL h u hu; omega)
    have hll := led_len (trn_len3 hL h) r
    obtain ⟨s3, e3, l3⟩ := run_law_round (led (turned L m) r) s2 (by omega)
    refine ⟨s3, ?_, l2.trans l3⟩
    simp only [List.set_cons_zero, List.set_cons_succ, e__law_moved_1, v_Call, a_Cons, a_Nil, v_Var, List.getElem?_cons_zero, List.getElem?_cons_succ, getV_some, bind_ok', e2, e3]
    rfl
  have em : (rows.map fun r => tw (T L m r)) = (rows.map (T L m)).map tw := by rw [List.map_map]; rfl
  rw [em] at e
  have n1 := newL_ok' s2 (xs := (rows.map (T L m)).map tw) (by rw [List.length_map, List.length_map, size_eq]; omega)
  have g2 := get_add_same s2 (.lst ((rows.map (T L m)).map tw))
  refine ⟨s2.add (.lst ((rows.map (T L m)).map tw)), ?_, (l1.trans l).trans (.add _ _)⟩
  simp only [m__law_moved, b__law_moved, fnB_eq, List.length_cons, List.length_nil, List.map_cons, List.map_nil, List.cons_append, List.nil_append, Nat.reduceAdd, Nat.reduceSub, List.replicate, if_true, s_Cons, s_Asg, g_Var, v_Call, a_Cons, a_Nil, v_Var, List.getElem?_cons_zero, List.getElem?_cons_succ, getV_some, bind_ok', f1, st_ok', List.set_cons_zero, List.set_cons_succ, then_nx, s_Ret, v_Bi, v_Comp, i_Seq, seqW_tup, goWk_its, wipeE_nil, wipeE_cons, e, n1, tuple_r _ g2, then_rt, fnR_rt]
end K53

namespace K53
open PySem Cs
/-! ### facts on turned rounds -/
theorem WkL.nz {L : Int} {w : List Int} (h : WkL L w) : NZ w := fun x hx => (h x hx).1
theorem trn_nz {L : Nat} (hL : LL L) {m : Mv} (h : okB L m = true) : NZs (turned L m) := fun u hu => (trn_ok hL h u hu).1.nz
theorem led_wk {L : Int} {ws : List (List Int)} (h : ∀ u ∈ ws, WkL L u) (w : List Int) : WkL L (led ws w) := by
  rw [led_flat]
  intro x hx
  obtain ⟨y, _, q⟩ := List.mem_flatMap.mp (red_mem hx)
  have g : ∀ i : Nat, WkL L (ws.getD i []) := fun i => by
    rw [List.getD_eq_getElem?_getD]
    cases e : ws[i]? with
    | none => exact fun z hz => by simp at hz
    | some u => exact h u (List.mem_of_getElem? e)
  unfold part at q
  split at q
  · exact g _ x q
  · exact (g _).bk x q
theorem T_wk {L : Nat} (hL : LL L) {m : Mv} (h : okB L m = true) (r : List Int) : WkL L (T L m r) := (led_wk (fun u hu => (trn_ok hL h u hu).1) r).rnd
theorem T_rnd (L : Nat) (m : Mv) (r : List Int) : rnd (T L m r) = T L m r := rnd_rnd _
theorem map_back {L : Nat} (hL : LL L) {m : Mv} (h : okB L m = true) : (turned L m).map (led (turned L (backM L m))) = idW L := by
  refine List.ext_getElem? fun i => ?_
  unfold idW
  rw [List.getElem?_map, List.getElem?_map]
  by_cases hi : i < L
  · have q := (led_back hL h ((i : Int) + 1) (idL_mem.mpr ⟨by omega, by omega⟩)).1
    rw [show ((i : Int) + 1 - 1).toNat = i by omega, List.getD_eq_getElem?_getD] at q
    have hlt : i < (turned L m).length := by rw [trn_len]; exact hi
    rw [idL_get hi, List.getElem?_eq_getElem hlt] at *
    show some (led _ _) = some [(i : Int) + 1]
    rw [← q]; rfl
  · rw [List.getElem?_eq_none (by rw [trn_len]; omega), List.getElem?_eq_none (by rw [idL_len]; omega)]
    rfl
theorem T_back {L : Nat} (hL : LL L) {m : Mv} (h : okB L m = true) {r : List Int} (hw : WkL L r) (hr : rnd r = r) : T L (backM L m) (T L m r) = r := by
  have hb := ok_back hL h
  unfold T
  rw [rnd_led (trn_nz hL hb) (led_nz (trn_nz hL h) r), led_led (trn_nz hL h) (trn_nz hL hb) hw.nz, map_back hL h, led_id hw, rnd_red, hr]
theorem T_step {L : Nat} (hL : LL L) {m : Mv} (h : okB L m = true) {ws : List (List Int)} (hz : NZs ws) {r : List Int} (hr : NZ r) : T L m (rnd (led ws r)) = rnd (led (ws.map (led (turned L m))) r) := by
  unfold T
  rw [rnd_led (trn_nz hL h) (led_nz hz r), led_led hz (trn_nz hL h) hr]
theorem Ts_snoc (L : Nat) (ms : List Mv) (m : Mv) (rows : List (List Int)) : Ts L (ms ++ [m]) rows = (Ts L ms rows).map (T L m) := by unfold Ts; rw [List.foldl_append]; rfl
/-- all that is asked of the rounds on the way -/
def RowsAll (L : Nat) (rows : List (List Int)) : Prop := ∀ r ∈ rows, WkL L r ∧ rnd r = r ∧ r.length ≤ 60
theorem Ts_rest {L : Nat} (hL : LL L) {ms : List Mv} (hm : ∀ m ∈ ms, okB L m = true) {rows : List (List Int)} (hA : ∀ k, RowsAll L (Ts L (ms.take k) rows)) : ∀ k, k ≤ ms.length → Ts L ((ms.reverse.map (backM L)).take k) (Ts L ms rows) = Ts L (ms.take (ms.length - k)) rows
  | 0, _ => by rw [List.take_zero, Nat.sub_zero, List.take_length]; rfl
  | k + 1, hk => by
    have ih := Ts_rest hL hm hA k (by omega)
    have hlt : ms.length - 1 - k < ms.length := by omega
    have e1 : (ms.reverse.map (backM L))[k]? = some (backM L ms[ms.length - 1 - k]) := by
      rw [List.getElem?_map, List.getElem?_reverse (by omega), List.getElem?_eq_getElem hlt]; rfl
    have hmm := hm _ (List.getElem_mem hlt)
    have e2 : ms.take (ms.length - k) = ms.take (ms.length - (k + 1)) ++ [ms[ms.length - 1 - k]] := by
      have : ms.length - k = ms.length - (k + 1) + 1 := by omega
      rw [this, List.take_add_one, show ms.length - (k + 1) = ms.length - 1 - k by omega, List.getElem?_eq_getElem hlt]
      rfl
    rw [List.take_add_one, e1]
    show Ts L ((ms.reverse.map (backM L)).take k ++ [backM L ms[ms.length - 1 - k]]) (Ts L ms rows) = _
    rw [Ts_snoc, ih, e2, Ts_snoc, List.map_map]
    have hall := hA (ms.length - (k + 1))
    conv => rhs; rw [← List.map_id (Ts L (ms.take (ms.length - (k + 1))) rows)]
    refine List.map_congr_left fun r hr => ?_
    rw [Function.comp_apply, id_eq]
    exact T_back hL hmm (hall r hr).1 (hall r hr).2.1
/-! ### more evaluation -/
theorem comp_live {α : Type} (enc : α → D) {g i : Nat} {e : Sem} {env : Cs.Env} (G : α → D) {xs : List α} : ∀ (k j : Nat) (s : Sto), i < s.n → s.get i = some (.lst (xs.map enc)) → xs.length - j < k → (∀ x ∈ xs, ∀ s', Le s s' → Ev (e.v (env.set g (some (enc x))) s') s' (G x)) →
    Ev (goLive (turnC (gVar g) none e env) i k j s) s ((xs.drop j).map G)
  | 0, j, s, _, _, hk, _ => absurd hk (Nat.not_lt_zero _)
  | k + 1, j, s, hi, hg, hk, h => by
    by_cases hj : j < xs.length
    · obtain ⟨s1, e1, l1⟩ := h xs[j] (List.getElem_mem hj) s (.refl s)
      obtain ⟨s2, e2, l2⟩ := comp_live enc G k (j + 1) s1 (Nat.lt_of_lt_of_le hi l1.n) (by rw [l1.get i hi, hg]) (by omega) fun y hy s' hl => h y hy s' (l1.trans hl)
      refine ⟨s2, ?_, l1.trans l2⟩
      have hx : (xs.map enc)[j]? = some (enc xs[j]) := by rw [List.getElem?_map, List.getElem?_eq_getElem hj]; rfl
      have ft : turnC (gVar g) none e env (enc xs[j]) s = .ok (some (G xs[j])) s1 := by
        simp only [turnC_none, g_Var, bind_ok', e1]
      unfold goLive
      rw [hg]
      dsimp only
      rw [hx]
      dsimp only
      rw [ft]
      show (goLive (turnC (gVar g) none e env) i k (j + 1) s1).bind _ = _
      rw [e2]
      show R.ok (conO (some (G xs[j])) ((xs.drop (j + 1)).map G)) s2 = _
      rw [List.drop_eq_getElem_cons hj, List.map_cons]
      rfl
    · refine ⟨s, ?_, .refl s⟩
      unfold goLive
      rw [hg]
      dsimp only
      rw [List.getElem?_eq_none (by rw [List.length_map]; omega)]
      dsimp only
      rw [List.drop_eq_nil_of_le (by omega)]
      rfl
theorem comp_liveW {α : Type} (enc : α → D) {g i : Nat} {e : Sem} {env : Cs.Env} (G : α → D) {xs : List α} (s : Sto) (hi : i < s.n) (hg : s.get i = some (.lst (xs.map enc))) (hn : xs.length < 1000000) (h : ∀ x ∈ xs, ∀ s', Le s s' → Ev (e.v (env.set g (some (enc x))) s') s' (G x)) :
    Ev (goWk (turnC (gVar g) none e env) (.live i) s) s (xs.map G) := by
  have := comp_live enc G 1000000 0 s hi hg (by omega) h
  rw [List.drop_zero] at this
  exact this
theorem neD_ttw (ws : List (List Int)) (s : Sto) : neD (.tup (ws.map tw)) (.tup (ws.map tw)) s = .ok (.bl false) s := by
  have e : pyd s 12 (.tup (ws.map tw)) = some (.tuple (ws.map fun w => PyData.tuple (w.map .int))) := by
    show (mapO (pyd s 11) (ws.map tw)).map PyData.tuple = _
    rw [pyd_tws]; rfl
  unfold neD
  rw [e]
  show R.ok (D.bl (!PyData.eqv _ _)) s = _
  rw [show PyData.eqv (.tuple (ws.map fun w => PyData.tuple (w.map .int))) (.tuple (ws.map fun w => PyData.tuple (w.map .int))) = PyData.eqvAll (ws.map fun w => PyData.tuple (w.map .int)) (ws.map fun w => PyData.tuple (w.map .int)) by simp [PyData.eqv], eqv_tws]
  rfl
def mvP : Mv → PyData
  | .lot a t => .tuple [.str "lot", .int a, .tuple (t.map .int)]
  | .nm r => .tuple [.str "names", .tuple (r.map .int)]
theorem pyd_mv (s : Sto) (k : Nat) (m : Mv) : pyd s (k + 2) (mvD m) = some (mvP m) := by
  have st : ∀ x : Str, PyData.strOk x = true → pyd s (k + 1) (.str x) = some (.str x) := fun x hx => by
    show (if PyData.strOk x = true then some (PyData.str x) else none) = _; rw [if_pos hx]
  cases m with
  | lot a t =>
    show (mapO (pyd s (k + 1)) [.str "lot", .int a, tw t]).map PyData.tuple = _
    have e2 : pyd s (k + 1) (.int a) = some (.int a) := rfl
    simp only [mapO, st _ (by decide +kernel : PyData.strOk "lot" = true), e2, pyd_tw]
    rfl
  | nm r =>
    show (mapO (pyd s (k + 1)) [.str "names", tw r]).map PyData.tuple = _
    simp only [mapO, st _ (by decide +kernel : PyData.strOk "names" = true), pyd_tw]
    rfl
theorem eqv_mv (m : Mv) : PyData.eqv (mvP m) (mvP m) = true := by
  have eq : ∀ w : List Int, PyData.eqv (.tuple (w.map PyData.int)) (.tuple (w.map PyData.int)) = true := fun w => by
    rw [show PyData.eqv (.tuple (w.map PyData.int)) (.tuple (w.map PyData.int)) = PyData.eqvAll (w.map .int) (w.map .int) by simp [PyData.eqv], eqv_ints]; simp
  cases m with
  | lot a t =>
    have q := eq t
    unfold mvP
    simp only [PyData.eqv, PyData.eqvAll] at q ⊢
    simp [q]
  | nm r =>
    have q := eq r
    unfold mvP
    simp only [PyData.eqv, PyData.eqvAll] at q ⊢
    simp [q]
theorem neD_mvs {s : Sto} {i j : Nat} {ms : List Mv} (h1 : s.get i = some (.lst (ms.map mvD))) (h2 : s.get j = some (.lst (ms.map mvD))) : neD (.ref i) (.ref j) s = .ok (.bl false) s := by
  have em : mapO (pyd s 11) (ms.map mvD) = some (ms.map mvP) := by
    clear h1 h2
    induction ms with
    | nil => rfl
    | cons m ms ih => simp only [List.map_cons, mapO, pyd_mv s 9 m, ih]
  have e1 : ∀ {i : Nat}, s.get i = some (.lst (ms.map mvD)) → pyd s 12 (.ref i) = some (.list (ms.map mvP)) := by
    intro i h
    show (match s.get i with | some (.lst xs) => (mapO (pyd s 11) xs).map PyData.list | _ => none) = _
    rw [h]
    dsimp only
    rw [em]; rfl
  have ea : PyData.eqvAll (ms.map mvP) (ms.map mvP) = true := by
    clear h1 h2 em e1
    induction ms with
    | nil => rfl
    | cons m ms ih =>
      show (PyData.eqv (mvP m) (mvP m) && PyData.eqvAll _ _) = true
      rw [eqv_mv, ih]; rfl
  unfold neD
  rw [e1 h1, e1 h2]
  show R.ok (D.bl (!PyData.eqv _ _)) s = _
  rw [show PyData.eqv (.list (ms.map mvP)) (.list (ms.map mvP)) = PyData.eqvAll (ms.map mvP) (ms.map mvP) by simp [PyData.eqv], ea]
  rfl
theorem run_same_i (i : Int) (s : Sto) : m__law_same [.int i, .int i] s = .ok (.bl true) s := same_int 7 i s
theorem lens_le {rows : List (List Int)} {r : List Int} (h : r ∈ rows) : (r.length : Int) ≤ lens rows := by
  unfold lens
  induction rows with
  | nil => simp at h
  | cons q rows ih =>
    have hp : 0 ≤ (rows.map fun r => (r.length : Int)).sum := by
      clear ih h
      induction rows with
      | nil => exact Int.le_refl _
      | cons a b ih => rw [List.map_cons, List.sum_cons]; omega
    rw [List.map_cons, List.sum_cons]
    rcases List.mem_cons.mp h with rfl | h
    · omega
    · have := ih h; omega
end K53

namespace K53
open PySem Cs
/-- what stands of rounds, moves and turnings -/
structure Stand (L : Nat) (F ws R : List (List Int)) (ms : List Mv) : Prop where
  n1 : 1 ≤ F.length
  n4 : F.length ≤ 4
  byw : R = F.map fun r => rnd (led ws r)
  bym : R = Ts L ms F
  all : ∀ k, RowsAll L (Ts L (ms.take k) F)
  wok : ∀ u ∈ ws, WkL L u ∧ u.length ≤ 600
  wl : ws.length = L
  mok : ∀ m ∈ ms, okB L m = true
theorem Stand.rows {L : Nat} {F ws R : List (List Int)} {ms : List Mv} (h : Stand L F ws R ms) : RowsAll L R := by
  have := h.all ms.length
  rwa [List.take_length, ← h.bym] at this
theorem Stand.first {L : Nat} {F ws R : List (List Int)} {ms : List Mv} (h : Stand L F ws R ms) : RowsAll L F := by
  have := h.all 0
  rwa [List.take_zero] at this
theorem Stand.rlen {L : Nat} {F ws R : List (List Int)} {ms : List Mv} (h : Stand L F ws R ms) : R.length = F.length := by rw [h.bym, Ts_len]
theorem rows_ok {L : Nat} {rows : List (List Int)} (h1 : 1 ≤ rows.length) (h4 : rows.length ≤ 4) (h : RowsAll L rows) : RowsOk L rows := ⟨h1, h4, fun r hr => ⟨(h r hr).1, (h r hr).2.1, by have := (h r hr).2.2; omega⟩⟩
theorem Stand.next {L : Nat} (hL : LL L) {F ws R : List (List Int)} {ms : List Mv} (h : Stand L F ws R ms) {m : Mv} (hm : okB L m = true) (h1 : lens (R.map (T L m)) ≤ 60) (h2 : lens (ws.map (led (turned L m))) ≤ 600) :
    Stand L F (ws.map (led (turned L m))) (R.map (T L m)) (ms ++ [m]) where
  n1 := h.n1
  n4 := h.n4
  byw := by
    rw [h.byw, List.map_map]
    refine List.map_congr_left fun r hr => ?_
    rw [Function.comp_apply]
    exact T_step hL hm (fun u hu => (h.wok u hu).1.nz) (h.first r hr).1.nz
  bym := by rw [Ts_snoc, ← h.bym]
  all := fun k => by
    by_cases q : k ≤ ms.length
    · rw [List.take_append_of_le_length q]; exact h.all k
    · rw [List.take_of_length_le (by rw [List.length_append]; simp; omega), Ts_snoc, ← h.bym]
      intro r hr
      have hl := lens_le hr
      obtain ⟨r0, _, rfl⟩ := List.mem_map.mp hr
      exact ⟨T_wk hL hm r0, T_rnd L m r0, by omega⟩
  wok := fun u hu => by
    have hl := lens_le hu
    obtain ⟨u0, _, rfl⟩ := List.mem_map.mp hu
    exact ⟨led_wk (fun v hv => (trn_ok hL hm v hv).1) u0, by omega⟩
  wl := by rw [List.length_map, h.wl]
  mok := fun m' hm' => by
    rcases List.mem_append.mp hm' with q | q
    · exact h.mok m' q
    · have : m' = m := by simpa using q
      rw [this]; exact hm
/-- one drawn move -/
theorem run_step (j c L : Nat) (e0 e1 e4 z6 z10 z11 z12 z13 z14 z15 z16 z17 : Option D) (d wr : Nat) {F ws R : List (List Int)} {ms : List Mv} (P : Stand L F ws R ms) (s : Sto) (h : Well s j c) (hL : LL L) (hc : c < 2 ^ 30)
    (hd : d < s.n) (hw : wr < s.n) (hdj : d ≠ j) (hwj : wr ≠ j) (hdw : wr ≠ d) (gd : s.get d = some (.lst (ms.map mvD))) (gw : s.get wr = some (.lst (ws.map tw))) (hml : ms.length ≤ 1000) :
    ∃ y11 y12 y13 wr' ws' R' ms' s', b_law_4 [e0, e1, some (.ref j), some (.int L), e4, some (.tup (F.map tw)), z6, some (.tup (R.map tw)), some (.ref d), some (.ref wr), z10, z11, z12, z13, z14, z15, z16, z17] s
        = .nx [e0, e1, some (.ref j), some (.int L), e4, some (.tup (F.map tw)), z6, some (.tup (R'.map tw)), some (.ref d), some (.ref wr'), z10, y11, y12, y13, z14, z15, z16, z17] s' ∧
      Stand L F ws' R' ms' ∧ Well s' j (c + 20) ∧ d < s'.n ∧ wr' < s'.n ∧ wr' ≠ j ∧ wr' ≠ d ∧ s'.get d = some (.lst (ms'.map mvD)) ∧ s'.get wr' = some (.lst (ws'.map tw)) ∧ ms'.length ≤ ms.length + 1 := by
  have hp := hL.pos
  have hj := h.lt
  obtain ⟨m, s1, f1, hm, w1, l1⟩ := run_law_move j c L s h hL (by omega)
  have gd1 := (l1.get d hd hdj).trans gd
  have gw1 := (l1.get wr hw hwj).trans gw
  have hd1 := Nat.lt_of_lt_of_le hd l1.n
  have hw1 := Nat.lt_of_lt_of_le hw l1.n
  have hRl := P.rlen
  have hn4 := P.n4
  have hn1 := P.n1
  have hRall := P.rows
  obtain ⟨s2, f2, l2⟩ := run_law_moved hL hm R s1 (by omega) (fun r hr => ⟨(hRall r hr).1, by have := (hRall r hr).2.2; omega⟩)
  have gd2 := (l2.get d hd1).trans gd1
  have gw2 := (l2.get wr hw1).trans gw1
  have hd2 := Nat.lt_of_lt_of_le hd1 l2.n
  have hw2 := Nat.lt_of_lt_of_le hw1 l2.n
  have hwl := P.wl
  -- further
  obtain ⟨s3, f3, l3⟩ := comp_liveW tw (g := 14) (i := wr) (e := e_law_5) (env := [e0, e1, some (.ref j), some (.int L), e4, some (.tup (F.map tw)), z6, some (.tup (R.map tw)), some (.ref d), some (.ref wr), z10, some (mvD m), some (.tup ((R.map (T L m)).map tw)), z13, none, z15, z16, z17]) (fun u => tw (led (turned L m) u)) (xs := ws) s2 hw2 gw2 (by omega) (fun u hu s' hl => by
    obtain ⟨wi, s3, k3, g3, m3, hw3, hw4⟩ := run_law_turned hL hm s'
    obtain ⟨s4, k4, m4⟩ := run_law_led (turned L m) (.ref wi) u s3 (fun s'' le i' hi' => ix_rs ((le.get wi hw4).trans g3) hi') (by rw [trn_len]; exact (P.wok u hu).1) (by have := (P.wok u hu).2; omega) (fun v hv => by have := trn_len3 hL hm v hv; omega)
    refine ⟨s4, ?_, m3.trans m4⟩
    simp only [List.set_cons_zero, List.set_cons_succ, e_law_5, v_Call, a_Cons, a_Nil, v_Var, List.getElem?_cons_zero, List.getElem?_cons_succ, getV_some, bind_ok', k3, k4])
  have em : (ws.map fun u => tw (led (turned L m) u)) = (ws.map (led (turned L m))).map tw := by rw [List.map_map]; rfl
  rw [em] at f3
  have fl : ((ws.map (led (turned L m))).map tw).length ≤ sizeLine := by rw [List.length_map, List.length_map, size_eq]; omega
  have n3 := newL_ok' s3 fl
  have g4 := get_add_same s3 (.lst ((ws.map (led (turned L m))).map tw))
  have l4 : Le s3 (s3.add (.lst ((ws.map (led (turned L m))).map tw))) := .add _ _
  have q4 : s3.n < (s3.add (.lst ((ws.map (led (turned L m))).map tw))).n := Nat.lt_succ_self _
  have gd4 := ((l3.trans l4).get d hd2).trans gd2
  have gw4 := ((l3.trans l4).get wr hw2).trans gw2
  have hd4 := Nat.lt_of_lt_of_le hd2 (l3.trans l4).n
  have hw4 := Nat.lt_of_lt_of_le hw2 (l3.trans l4).n
  have w4 := (w1.le l2).le (l3.trans l4)
  have h3j : s3.n ≠ j := by have := l1.n; have := l2.n; have := l3.n; omega
  have h3d : s3.n ≠ d := by have := l3.n; omega
  generalize s3.add (.lst ((ws.map (led (turned L m))).map tw)) = s4 at *
  -- the first sum
  have f5 := comp_lens (g := 15) (e := e_law_6) (env := [e0, e1, some (.ref j), some (.int L), e4, some (.tup (F.map tw)), z6, some (.tup (R.map tw)), some (.ref d), some (.ref wr), z10, some (mvD m), some (.tup ((R.map (T L m)).map tw)), some (.ref s3.n), z14, none, z16, z17]) (R.map (T L m)) s4 (fun r hr s' => by
    simp only [List.set_cons_zero, List.set_cons_succ, e_law_6, v_Bi, a_Cons, a_Nil, v_Var, List.getElem?_cons_zero, List.getElem?_cons_succ, getV_some, bind_ok', len_tw])
  obtain ⟨s5, n5, su5, l5⟩ := sum_lens (R.map (T L m)) s4 (by rw [List.length_map]; omega)
  have hdone : ∀ {s'}, Le s4 s' → d < s'.n ∧ wr < s'.n ∧ s'.get d = some (.lst (ms.map mvD)) ∧ s'.get wr = some (.lst (ws.map tw)) := fun {s'} le => ⟨Nat.lt_of_lt_of_le hd4 le.n, Nat.lt_of_lt_of_le hw4 le.n, (le.get d hd4).trans gd4, (le.get wr hw4).trans gw4⟩
  by_cases c1 : lens (R.map (T L m)) ≤ 60
  · have d1 : decide (lens (R.map (T L m)) ≤ 60) = true := decide_eq_true c1
    have g5 := (l5.get _ q4).trans g4
    have q5 := Nat.lt_of_lt_of_le q4 l5.n
    obtain ⟨s6, f6, l6⟩ := comp_liveW tw (g := 14) (i := s3.n) (e := e_law_7) (env := [e0, e1, some (.ref j), some (.int L), e4, some (.tup (F.map tw)), z6, some (.tup (R.map tw)), some (.ref d), some (.ref wr), z10, some (mvD m), some (.tup ((R.map (T L m)).map tw)), some (.ref s3.n), none, z15, z16, z17]) (fun u => .int u.length) (xs := ws.map (led (turned L m))) s5 q5 g5 (by rw [List.length_map]; omega) (fun u hu s' hl => ⟨s', by
      simp only [List.set_cons_zero, List.set_cons_succ, e_law_7, v_Bi, a_Cons, a_Nil, v_Var, List.getElem?_cons_zero, List.getElem?_cons_succ, getV_some, bind_ok', len_tw], .refl _⟩)
    have em2 : ((ws.map (led (turned L m))).map fun u => D.int u.length) = ((ws.map (led (turned L m))).map fun u => (u.length : Int)).map .int := by rw [List.map_map (g := D.int)]; rfl
    rw [em2] at f6
    obtain ⟨s7, n7, su7, l7⟩ := sum_lens (ws.map (led (turned L m))) s6 (by rw [List.length_map]; omega)
    have le47 := (l5.trans l6).trans l7
    by_cases c2 : lens (ws.map (led (turned L m))) ≤ 600
    · have d2 : decide (lens (ws.map (led (turned L m))) ≤ 600) = true := decide_eq_true c2
      have P' := P.next hL hm c1 c2
      have RO := rows_ok (by omega) (by omega) hRall
      obtain ⟨s8, f8, l8⟩ := run_moved hL hm RO s7
      obtain ⟨s9, f9, l9⟩ := run_same_tws (R.map (T L m)) (by rw [List.length_map]; omega) (fun r hr => by have := lens_le hr; omega) s8
      obtain ⟨s10, f10, l10⟩ := run_moved hL hm RO s9
      have ne := neD_ttw (R.map (T L m)) s10
      have le10 := ((le47.trans l8).trans l9).trans l10
      obtain ⟨hd10, hw10, gd10, gw10⟩ := hdone le10
      have g10 := (le10.get _ q4).trans g4
      have q10 := Nat.lt_of_lt_of_le q4 le10.n
      have ap := append_r _ gd10 (mvD m) (by rw [List.length_map, size_eq]; omega)
      have ep : ms.map mvD ++ [mvD m] = (ms ++ [m]).map mvD := by rw [List.map_append]; rfl
      rw [ep] at ap
      have p1 : ∀ x1 x2 x3 : D, gPerm D.non 0 3 [2, 1, 0] [] [x1, x2, x3] = [x3, x2, x1] := fun _ _ _ => rfl
      have z2 : (0 + 1 + 1 : Nat) ≤ 16777216 := by decide
      refine ⟨some (mvD m), some (.tup ((R.map (T L m)).map tw)), some (.ref s3.n), s3.n, ws.map (led (turned L m)), R.map (T L m), ms ++ [m], s10.set d (.lst ((ms ++ [m]).map mvD)), ?_, P', ?_, hd10, q10, h3j, h3d, get_set_same _ _ _, by rw [get_set_ne h3d]; exact g10, by rw [List.length_append]; simp⟩
      · simp only [b_law_4, s_Cons, s_Asg, v_Call, a_Cons, a_Nil, v_Var, List.getElem?_cons_zero, List.getElem?_cons_succ, getV_some, bind_ok', f1, st_ok', g_Var, List.set_cons_zero, List.set_cons_succ, then_nx, f2, v_Comp, i_Seq, seqW_ref gw2, wipeE_nil, wipeE_cons, f3, n3, s_If, t_And, t_Bin, v_Bi, v_C, seqW_tup, goWk_its, f5, n5, su5, ltI_ii, d1, truth_bl, if_true, seqW_ref g5, f6, n7, su7, d2, t_Not, t_Call, f8, f9, Bool.not_true, Bool.false_eq_true, if_false, s_Nil, v_CallK, p1, f10, ne, v_Tup, List.length_cons, List.length_nil, size_eq, z2, g_Tup, Nat.reduceAdd, gs_Cons, gs_Nil, s_Expr, v_Meth, isL_r _ gd10, ap]
      · obtain ⟨a', b', k', e', hb', hk'⟩ := (w4.le le10).ex
        exact ⟨(w4.le le10).lt, a', b', k', by rw [get_set_ne (Ne.symm hdj)]; exact e', hb', by omega⟩
    · have d2 : decide (lens (ws.map (led (turned L m))) ≤ 600) = false := decide_eq_false c2
      obtain ⟨hd7, hw7, gd7, gw7⟩ := hdone le47
      refine ⟨some (mvD m), some (.tup ((R.map (T L m)).map tw)), some (.ref s3.n), wr, ws, R, ms, s7, ?_, P, (w4.le le47).up (by omega), hd7, hw7, hwj, hdw, gd7, gw7, by omega⟩
      simp only [b_law_4, s_Cons, s_Asg, v_Call, a_Cons, a_Nil, v_Var, List.getElem?_cons_zero, List.getElem?_cons_succ, getV_some, bind_ok', f1, st_ok', g_Var, List.set_cons_zero, List.set_cons_succ, then_nx, f2, v_Comp, i_Seq, seqW_ref gw2, wipeE_nil, wipeE_cons, f3, n3, s_If, t_And, t_Bin, v_Bi, v_C, seqW_tup, goWk_its, f5, n5, su5, ltI_ii, d1, truth_bl, if_true, seqW_ref g5, f6, n7, su7, d2, Bool.false_eq_true, if_false, s_Nil]
  · have d1 : decide (lens (R.map (T L m)) ≤ 60) = false := decide_eq_false c1
    obtain ⟨hd5, hw5, gd5, gw5⟩ := hdone l5
    refine ⟨some (mvD m), some (.tup ((R.map (T L m)).map tw)), some (.ref s3.n), wr, ws, R, ms, s5, ?_, P, (w4.le l5).up (by omega), hd5, hw5, hwj, hdw, gd5, gw5, by omega⟩
    simp only [b_law_4, s_Cons, s_Asg, v_Call, a_Cons, a_Nil, v_Var, List.getElem?_cons_zero, List.getElem?_cons_succ, getV_some, bind_ok', f1, st_ok', g_Var, List.set_cons_zero, List.set_cons_succ, then_nx, f2, v_Comp, i_Seq, seqW_ref gw2, wipeE_nil, wipeE_cons, f3, n3, s_If, t_And, t_Bin, v_Bi, v_C, seqW_tup, goWk_its, f5, n5, su5, ltI_ii, d1, truth_bl, Bool.false_eq_true, if_false, s_Nil]
end K53

namespace K53
open PySem Cs
theorem idW_ok {L : Nat} : ∀ u ∈ idW L, WkL L u ∧ u.length ≤ 600 := by
  intro u hu
  obtain ⟨l, hl, rfl⟩ := List.mem_map.mp hu
  obtain ⟨h1, h2⟩ := idL_mem.mp hl
  refine ⟨fun x hx => ?_, by simp⟩
  have : x = l := by simpa using hx
  subst this
  omega
theorem stand0 {L : Nat} {F : List (List Int)} (h1 : 1 ≤ F.length) (h4 : F.length ≤ 4) (h : RowsAll L F) : Stand L F (idW L) F [] where
  n1 := h1
  n4 := h4
  byw := by
    conv => lhs; rw [← List.map_id F]
    refine List.map_congr_left fun r hr => ?_
    rw [id_eq, led_id (h r hr).1, rnd_red, (h r hr).2.1]
  bym := rfl
  all := fun k => by rw [List.take_nil]; exact h
  wok := idW_ok
  wl := by unfold idW; rw [List.length_map, idL_len]
  mok := fun m hm => by simp at hm
/-- the first rounds -/
theorem run_first (j c L M : Nat) (env : Cs.Env) (s : Sto) (h : Well s j c) (hL : LL L) (hc : c < 2 ^ 30) (hM : M ≤ 4) (e2 : env[2]? = some (some (.ref j))) (e3 : env[3]? = some (some (.int L))) :
    ∃ F s', goIts (turnC (gVar 6) none e_law_2 env) (rgD 0 M) s = .ok (F.map tw) s' ∧ F.length = M ∧ RowsAll L F ∧ (∀ r ∈ F, r.length ≤ 10) ∧ Well s' j (c + 20 * M) ∧ LeW j s s' := by
  have len : (rgD 0 M).length = M := by simp [rgD]
  have key := goIts_inv (f := turnC (gVar 6) none e_law_2 env)
    (fun k acc s' => ∃ F : List (List Int), acc = F.map tw ∧ F.length = k ∧ RowsAll L F ∧ (∀ r ∈ F, r.length ≤ 10) ∧ Well s' j (c + 20 * k) ∧ LeW j s s')
    (rgD 0 M) 0 [] s ⟨[], rfl, rfl, (fun r hr => by simp at hr), (fun r hr => by simp at hr), h, .refl _ _⟩ (by
      rintro k x acc s2 hx ⟨F, rfl, hl, hF, hF10, hwell, hle⟩
      obtain ⟨hi, rfl⟩ := rgD_at hx
      rw [Nat.zero_add] at *
      obtain ⟨d, s3, f3, a3, b3, w3, l3⟩ := run_law_take j _ 11 s2 hwell (by omega) (by omega) (by omega)
      obtain ⟨N, rfl⟩ : ∃ N : Nat, d = (N : Int) := ⟨d.toNat, by omega⟩
      obtain ⟨w, s4, f4, hw, hwl, w4, l4⟩ := run_law_walk j _ L N s3 w3 hL (by omega) (by omega)
      obtain ⟨s5, f5, l5⟩ := run_law_round w s4 (by omega)
      have v2 : (env.set 6 (some (.int (0 + (k : Int)))))[2]? = some (some (.ref j)) := by rw [List.getElem?_set_ne (by decide)]; exact e2
      have v3 : (env.set 6 (some (.int (0 + (k : Int)))))[3]? = some (some (.int L)) := by rw [List.getElem?_set_ne (by decide)]; exact e3
      have hrl := rnd_len w
      refine ⟨some (tw (rnd w)), s5, ?_, F ++ [rnd w], ?_, by rw [List.length_append, hl]; rfl, ?_, ?_, (w4.le l5).up (by omega), ((hle.trans l3).trans l4).trans (.of l5)⟩
      · simp only [turnC_none, g_Var, bind_ok', e_law_2, v_Call, a_Cons, a_Nil, v_Var, v_C, v2, v3, getV_some, f3, f4, f5]
      · rw [List.map_append]; rfl
      · intro r hr
        rcases List.mem_append.mp hr with q | q
        · exact hF r q
        · have : r = rnd w := by simpa using q
          subst this
          exact ⟨hw.rnd, rnd_rnd w, by omega⟩
      · intro r hr
        rcases List.mem_append.mp hr with q | q
        · exact hF10 r q
        · have : r = rnd w := by simpa using q
          subst this
          omega)
  obtain ⟨ys, s', e, F, hy, hl, hF, hF10, hwell, hle⟩ := key
  rw [len, Nat.zero_add] at *
  rw [List.nil_append] at hy
  subst hy
  exact ⟨F, s', e, hl, hF, hF10, hwell, hle⟩
theorem run_turn1 (ns : List Int) (i : Nat) (s : Sto) (hn : ns.length ≤ 63) (hi : i ≤ 4) (z : List (Option D)) (hz : z.length = 16) :
    ∃ z' s', b_law_1 (some (.fix (ns.map .int)) :: some (.int i) :: z) s = .nx (some (.fix (ns.map .int)) :: some (.int i) :: z') s' ∧ z'.length = 16 := by
  obtain ⟨z2, z3, z4, z5, z6, z7, z8, z9, z10, z11, z12, z13, z14, z15, z16, z17, rfl⟩ : ∃ z2 z3 z4 z5 z6 z7 z8 z9 z10 z11 z12 z13 z14 z15 z16 z17, z = [z2, z3, z4, z5, z6, z7, z8, z9, z10, z11, z12, z13, z14, z15, z16, z17] := by
    match z, hz with
    | [z2, z3, z4, z5, z6, z7, z8, z9, z10, z11, z12, z13, z14, z15, z16, z17], _ => exact ⟨_, _, _, _, _, _, _, _, _, _, _, _, _, _, _, _, rfl⟩
  obtain ⟨j, s1, e1, w1, l1⟩ := run_law_well ns i s hn (by omega)
  obtain ⟨d, s2, e2, a2, b2, w2, l2⟩ := run_law_take j _ 4 s1 w1 (by omega) (by omega) (by omega)
  obtain ⟨L, hLd⟩ : ∃ L : Nat, 1 + d = (L : Int) := ⟨(1 + d).toNat, by omega⟩
  have hL : LL L := by unfold LL; omega
  have hp := hL.pos
  obtain ⟨d3, s3, e3, a3, b3, w3, l3⟩ := run_law_take j _ 4 s2 w2 (by omega) (by omega) (by omega)
  obtain ⟨M, hM⟩ : ∃ M : Nat, 1 + d3 = (M : Int) := ⟨(1 + d3).toNat, by omega⟩
  obtain ⟨F, s4, e4, hFl, hF, hF10, w4, l4⟩ := run_first j _ L M [some (.fix (ns.map .int)), some (.int i), some (.ref j), some (.int L), some (.int M), z5, none, z7, z8, z9, z10, z11, z12, z13, z14, z15, z16, z17] s3 w3 hL (by omega) (by omega) rfl rfl
  have n5 := newL_ok' s4 (xs := F.map tw) (by rw [List.length_map, size_eq]; omega)
  have g5 := get_add_same s4 (.lst (F.map tw))
  have l5 : Le s4 (s4.add (.lst (F.map tw))) := .add _ _
  have w5 := w4.le l5
  generalize s4.add (.lst (F.map tw)) = s5 at *
  have tp5 : tupleB [.ref s4.n] s5 = .ok (.tup (F.map tw)) s5 := tuple_r _ g5
  -- rows, done, walks
  have n6 := newL_ok' s5 (xs := []) (by rw [size_eq]; simp)
  have g6 := get_add_same s5 (.lst [])
  have l6 : Le s5 (s5.add (.lst [])) := .add _ _
  have q6 : s5.n < (s5.add (.lst [])).n := Nat.lt_succ_self _
  have w6 := w5.le l6
  have h5j : s5.n ≠ j := by have := w5.lt; omega
  generalize s5.add (.lst []) = s6 at *
  have z1 : (0 + 1 : Nat) ≤ 16777216 := by decide
  have e7 := comp_map (g := 10) (e := e_law_3) (env := [some (.fix (ns.map .int)), some (.int i), some (.ref j), some (.int L), some (.int M), some (.tup (F.map tw)), z6, z7, z8, z9, none, z11, z12, z13, z14, z15, z16, z17]) (fun l => tw [l]) (idL L) s6 fun x hx s' => by
    simp only [List.set_cons_zero, List.set_cons_succ, e_law_3, v_Tup, a_Cons, a_Nil, v_Var, List.getElem?_cons_zero, List.getElem?_cons_succ, getV_some, bind_ok', List.length_cons, List.length_nil, size_eq, z1, if_true]
    rfl
  have em7 : ((idL L).map fun l => tw [l]) = (idW L).map tw := by unfold idW; rw [List.map_map]; rfl
  rw [em7] at e7
  have hwl : (idW L).length = L := by unfold idW; rw [List.length_map, idL_len]
  have n7 := newL_ok' s6 (xs := (idW L).map tw) (by rw [List.length_map, hwl, size_eq]; omega)
  have g7 := get_add_same s6 (.lst ((idW L).map tw))
  have l7 : Le s6 (s6.add (.lst ((idW L).map tw))) := .add _ _
  have q7 : s6.n < (s6.add (.lst ((idW L).map tw))).n := Nat.lt_succ_self _
  have w7 := w6.le l7
  have h6j : s6.n ≠ j := by have := w6.lt; omega
  have h65 : s6.n ≠ s5.n := by omega
  generalize s6.add (.lst ((idW L).map tw)) = s7 at *
  have gd7 := (l7.get _ q6).trans g6
  have qd7 := Nat.lt_of_lt_of_le q6 l7.n
  obtain ⟨d8, s8, e8, a8, b8, w8, l8⟩ := run_law_take j _ 9 s7 w7 (by omega) (by omega) (by omega)
  obtain ⟨N, rfl⟩ : ∃ N : Nat, d8 = (N : Int) := ⟨d8.toNat, by omega⟩
  have gd8 := (l8.get _ qd7 h5j).trans gd7
  have gw8 := (l8.get _ q7 h6j).trans g7
  have qd8 := Nat.lt_of_lt_of_le qd7 l8.n
  have qw8 := Nat.lt_of_lt_of_le q7 l8.n
  have P0 := stand0 (by omega) (by omega) hF
  have len : (rgD 0 N).length = N := by simp [rgD]
  generalize s5.n = d at *
  generalize s6.n = wr0 at *
  obtain ⟨env9, s9, e9, ⟨y6, y11, y12, y13, wr, ws, R, ms, rfl, P, w9, qd9, qw9, hwj, hwd, gd9, gw9, hml⟩⟩ := forIts_inv (b := bodyF (gVar 6) b_law_4)
    (fun k env s' => ∃ y6 y11 y12 y13 wr ws R ms, env = [some (.fix (ns.map .int)), some (.int i), some (.ref j), some (.int L), some (.int M), some (.tup (F.map tw)), y6, some (.tup (R.map tw)), some (.ref d), some (.ref wr), z10, y11, y12, y13, z14, z15, z16, z17] ∧
      Stand L F ws R ms ∧ Well s' j (200 + 20 * k) ∧ d < s'.n ∧ wr < s'.n ∧ wr ≠ j ∧ wr ≠ d ∧ s'.get d = some (.lst (ms.map mvD)) ∧ s'.get wr = some (.lst (ws.map tw)) ∧ ms.length ≤ k)
    (rgD 0 N) 0 [some (.fix (ns.map .int)), some (.int i), some (.ref j), some (.int L), some (.int M), some (.tup (F.map tw)), z6, some (.tup (F.map tw)), some (.ref d), some (.ref wr0), z10, z11, z12, z13, z14, z15, z16, z17] s8
    ⟨z6, z11, z12, z13, wr0, idW L, F, [], rfl, P0, w8.up (by omega), qd8, qw8, h6j, h65, gd8, gw8, Nat.le_refl _⟩ (by
      rintro k x env s' hx ⟨y6, y11, y12, y13, wr, ws, R, ms, rfl, P, w, qd, qw, hwj, hwd, gd, gw, hml⟩
      obtain ⟨hk, rfl⟩ := rgD_at hx
      rw [Nat.zero_add] at *
      obtain ⟨v11, v12, v13, wr', ws', R', ms', s'', e, P', w', qd', qw', hwj', hwd', gd', gw', hml'⟩ := run_step j _ L (some (.fix (ns.map .int))) (some (.int i)) (some (.int M)) (some (.int (0 + (k : Int)))) z10 y11 y12 y13 z14 z15 z16 z17 d wr P s' w hL (by omega) qd qw h5j hwj hwd gd gw (by omega)
      exact ⟨_, s'', .inl (by
        simp only [bodyF_eq, g_Var, st_ok', List.set_cons_zero, List.set_cons_succ, e]
        rfl), _, _, _, _, wr', ws', R', ms', rfl, P', w'.up (by omega), qd', qw', hwj', hwd', gd', gw', by omega⟩)
  rw [len, Nat.zero_add] at *
  -- given
  have n10 := list_r _ gd9
  have g10 := get_add_same s9 (.lst (ms.map mvD))
  have l10 : Le s9 (s9.add (.lst (ms.map mvD))) := .add _ _
  have q10 : s9.n < (s9.add (.lst (ms.map mvD))).n := Nat.lt_succ_self _
  generalize s9.add (.lst (ms.map mvD)) = s10 at *
  obtain ⟨gv, hgv⟩ : ∃ gv, gv = s9.n := ⟨_, rfl⟩
  rw [← hgv] at n10 g10 q10
  have RF : RowsOk L F := rows_ok (by omega) (by omega) hF
  have hRl := P.rlen
  have RR : RowsOk L R := rows_ok (by omega) (by omega) P.rows
  have hall := P.all
  obtain ⟨s11, e11, l11⟩ := run_moved_by hL ms gv RF s10 q10 g10 (by omega) P.mok (fun k r hr => ⟨(hall k r hr).1, by have := (hall k r hr).2.2; omega⟩)
  rw [← P.bym] at e11
  have sameR : ∀ s, Ev (m__law_same [.tup (R.map tw), .tup (R.map tw)] s) s (.bl true) := fun s => run_same_tws R (by omega) (fun r hr => by have := (P.rows r hr).2.2; omega) s
  have sameF : ∀ s, Ev (m__law_same [.tup (F.map tw), .tup (F.map tw)] s) s (.bl true) := fun s => run_same_tws F (by omega) (fun r hr => by have := (hF r hr).2.2; omega) s
  obtain ⟨s12, e12, l12⟩ := sameR s11
  have le12 := (l10.trans l11).trans l12
  have gd12 := (le12.get d qd9).trans gd9
  have gv12 := ((l11.trans l12).get gv q10).trans g10
  have ne12 := neD_mvs gv12 gd12
  have gw12 := (le12.get wr qw9).trans gw9
  have qw12 := Nat.lt_of_lt_of_le qw9 le12.n
  have qd12 := Nat.lt_of_lt_of_le qd9 le12.n
  -- by the turning
  obtain ⟨s13, e13, l13⟩ := comp_rows (g := 15) (e := e_law_8) (env := [some (.fix (ns.map .int)), some (.int i), some (.ref j), some (.int L), some (.int M), some (.tup (F.map tw)), y6, some (.tup (R.map tw)), some (.ref d), some (.ref wr), z10, y11, y12, y13, z14, none, some (.ref gv), z17]) (fun r => tw (rnd (led ws r))) F s12 fun r hr s' hl => by
    have gw' := (hl.get wr qw12).trans gw12
    have qw' := Nat.lt_of_lt_of_le qw12 hl.n
    have hF1 := hF r hr
    obtain ⟨sa, ka, ma⟩ := run_law_led ws (.ref wr) r s' (fun s'' le i' hi' => ix_rs ((le.get wr qw').trans gw') hi') (by rw [P.wl]; exact hF1.1) (by omega) (fun u hu => by have := (P.wok u hu).2; omega)
    have hll := led_len (fun u hu => (P.wok u hu).2) r
    have hb : 600 * r.length ≤ 600 * 10 := Nat.mul_le_mul_left _ (hF10 r hr)
    obtain ⟨sb, kb, mb⟩ := run_law_round (led ws r) sa (by omega)
    refine ⟨sb, ?_, ma.trans mb⟩
    simp only [List.set_cons_zero, List.set_cons_succ, e_law_8, v_Call, a_Cons, a_Nil, v_Var, List.getElem?_cons_zero, List.getElem?_cons_succ, getV_some, bind_ok', ka, kb]
  have em13 : (F.map fun r => tw (rnd (led ws r))) = R.map tw := by rw [P.byw, List.map_map]; rfl
  rw [em13] at e13
  have n14 := newL_ok' s13 (xs := R.map tw) (by rw [List.length_map, size_eq]; omega)
  have g14 := get_add_same s13 (.lst (R.map tw))
  have l14 : Le s13 (s13.add (.lst (R.map tw))) := .add _ _
  generalize s13.add (.lst (R.map tw)) = s14 at *
  have tp14 : tupleB [.ref s13.n] s14 = .ok (.tup (R.map tw)) s14 := tuple_r _ g14
  have ne14 := neD_ttw R s14
  -- the way back
  have gd14 := ((l13.trans l14).get d qd12).trans gd12
  have n15 := rev_r _ gd14
  have g15 := get_add_same s14 (.lst (ms.map mvD).reverse)
  have l15 : Le s14 (s14.add (.lst (ms.map mvD).reverse)) := .add _ _
  have q15 : s14.n < (s14.add (.lst (ms.map mvD).reverse)).n := Nat.lt_succ_self _
  rw [← List.map_reverse] at n15 g15 l15 q15
  generalize s14.add (.lst (ms.reverse.map mvD)) = s15 at *
  obtain ⟨s16, e16, l16⟩ := comp_liveW mvD (g := 11) (i := s14.n) (e := e_law_9) (env := [some (.fix (ns.map .int)), some (.int i), some (.ref j), some (.int L), some (.int M), some (.tup (F.map tw)), y6, some (.tup (R.map tw)), some (.ref d), some (.ref wr), z10, none, y12, y13, z14, z15, some (.ref gv), z17]) (fun m => mvD (backM L m)) (xs := ms.reverse) s15 q15 g15 (by rw [List.length_reverse]; omega) (fun m hm s' hl => by
    obtain ⟨sa, ka, ma⟩ := run_law_move_back hL (P.mok m (List.mem_reverse.mp hm)) s'
    refine ⟨sa, ?_, ma⟩
    simp only [List.set_cons_zero, List.set_cons_succ, e_law_9, v_Call, a_Cons, a_Nil, v_Var, List.getElem?_cons_zero, List.getElem?_cons_succ, getV_some, bind_ok', ka])
  have em16 : (ms.reverse.map fun m => mvD (backM L m)) = (ms.reverse.map (backM L)).map mvD := by rw [List.map_map]; rfl
  rw [em16] at e16
  have n17 := newL_ok' s16 (xs := (ms.reverse.map (backM L)).map mvD) (by rw [List.length_map, List.length_map, List.length_reverse, size_eq]; omega)
  have g17 := get_add_same s16 (.lst ((ms.reverse.map (backM L)).map mvD))
  have q17 : s16.n < (s16.add (.lst ((ms.reverse.map (backM L)).map mvD))).n := Nat.lt_succ_self _
  generalize s16.add (.lst ((ms.reverse.map (backM L)).map mvD)) = s17 at *
  have hrest := Ts_rest hL P.mok hall
  rw [← P.bym] at hrest
  obtain ⟨s18, e18, l18⟩ := run_moved_by hL (ms.reverse.map (backM L)) s16.n RR s17 q17 g17 (by rw [List.length_map, List.length_reverse]; omega)
    (fun m hm => by
      obtain ⟨m0, h0, rfl⟩ := List.mem_map.mp hm
      exact ok_back hL (P.mok m0 (List.mem_reverse.mp h0)))
    (fun k r hr => by
      by_cases q : k ≤ ms.length
      · rw [hrest k q] at hr
        exact ⟨(hall _ r hr).1, by have := (hall _ r hr).2.2; omega⟩
      · rw [List.take_of_length_le (by rw [List.length_map, List.length_reverse]; omega)] at hr
        have e0 := hrest ms.length (Nat.le_refl _)
        rw [List.take_of_length_le (by rw [List.length_map, List.length_reverse]; omega)] at e0
        rw [e0] at hr
        exact ⟨(hall _ r hr).1, by have := (hall _ r hr).2.2; omega⟩)
  have eF : Ts L (ms.reverse.map (backM L)) R = F := by
    have e0 := hrest ms.length (Nat.le_refl _)
    rw [List.take_of_length_le (by rw [List.length_map, List.length_reverse]; omega), Nat.sub_self, List.take_zero] at e0
    exact e0
  rw [eF] at e18
  obtain ⟨s19, e19, l19⟩ := sameF s18
  -- lengths
  obtain ⟨s20, e20, l20⟩ := run_length_of hL RR s19
  have e21 := comp_lens (g := 15) (e := e_law_10) (env := [some (.fix (ns.map .int)), some (.int i), some (.ref j), some (.int L), some (.int M), some (.tup (F.map tw)), y6, some (.tup (R.map tw)), some (.ref d), some (.ref wr), z10, y11, y12, y13, z14, none, some (.ref gv), some (.ref s16.n)]) R s20 (fun r hr s' => by
    simp only [List.set_cons_zero, List.set_cons_succ, e_law_10, v_Bi, a_Cons, a_Nil, v_Var, List.getElem?_cons_zero, List.getElem?_cons_succ, getV_some, bind_ok', len_tw])
  obtain ⟨s21, n21, su21, l21⟩ := sum_lens R s20 (by omega)
  have sm21 := run_same_i (lens R) s21
  obtain ⟨s22, e22, l22⟩ := run_length_of hL RF s21
  have e23 := comp_lens (g := 15) (e := e_law_11) (env := [some (.fix (ns.map .int)), some (.int i), some (.ref j), some (.int L), some (.int M), some (.tup (F.map tw)), y6, some (.tup (R.map tw)), some (.ref d), some (.ref wr), z10, y11, y12, y13, z14, none, some (.ref gv), some (.ref s16.n)]) F s22 (fun r hr s' => by
    simp only [List.set_cons_zero, List.set_cons_succ, e_law_11, v_Bi, a_Cons, a_Nil, v_Var, List.getElem?_cons_zero, List.getElem?_cons_succ, getV_some, bind_ok', len_tw])
  obtain ⟨s23, n23, su23, l23⟩ := sum_lens F s22 (by omega)
  have sm23 := run_same_i (lens F) s23
  -- no moves
  have n24 := newL_ok' s23 (xs := []) (by rw [size_eq]; simp)
  have g24 := get_add_same s23 (.lst [])
  have q24 : s23.n < (s23.add (.lst [])).n := Nat.lt_succ_self _
  generalize s23.add (.lst []) = s24 at *
  obtain ⟨s25, e25, l25⟩ := run_moved_by hL [] s23.n RR s24 q24 g24 (by simp) (fun m hm => by simp at hm) (fun k r hr => by
    rw [List.take_nil] at hr
    exact ⟨(P.rows r hr).1, by have := (P.rows r hr).2.2; omega⟩)
  have e25 : m_moved_by [.int L, .ref s23.n, .tup (R.map tw)] s24 = .ok (.tup (R.map tw)) s25 := e25
  obtain ⟨s26, e26, l26⟩ := sameR s25
  have p3 : ∀ x1 x2 x3 : D, gPerm D.non 0 3 [2, 1, 0] [] [x1, x2, x3] = [x3, x2, x1] := fun _ _ _ => rfl
  have p2 : ∀ x1 x2 : D, gPerm D.non 0 2 [1, 0] [] [x1, x2] = [x2, x1] := fun _ _ => rfl
  have bM : bigI (M : Int) = true := bigI_of (by omega)
  have bN : bigI (N : Int) = true := bigI_of (by omega)
  have b1 : bigI 1 = true ∧ bigI ((L : Int) + 1) = true := ⟨bigI_of (by decide), bigI_of (by omega)⟩
  have n2' : ((L : Int) + 1 - 1).toNat = L := by omega
  have z3 : (0 + 1 + 1 + 1 : Nat) ≤ 16777216 := by decide
  refine ⟨[some (.ref j), some (.int L), some (.int M), some (.tup (F.map tw)), y6, some (.tup (R.map tw)), some (.ref d), some (.ref wr), z10, y11, y12, y13, z14, z15, some (.ref gv), some (.ref s16.n)], s26, ?_, rfl⟩
  simp only [b_law_1, s_Cons, s_Asg, g_Var, v_Call, v_CallK, p3, p2, a_Cons, a_Nil, v_Var, v_C, v_Lst, v_Bi, v_Bin, v_Un, List.getElem?_cons_zero, List.getElem?_cons_succ, getV_some, bind_ok', e1, st_ok', List.set_cons_zero, List.set_cons_succ, then_nx, e2, add_ii, hLd, e3, hM, v_Comp, i_Rg1, rg1W_ok, bM, if_true, Int.toNat_natCast, goWk_its, wipeE_nil, wipeE_cons, e4, n5, tp5, v_Tup, n6, i_Rg2, rg2W_ok, b1, and_self, n2', rg_id, e7, n7, List.length_cons, List.length_nil, size_eq, z3, g_Tup, Nat.reduceAdd, gs_Cons, gs_Nil, s_For, e8, bN, wkS_its, e9, n10, s_If, t_Or, t_Not, t_Call, e11, e12, truth_bl, Bool.not_true, Bool.false_eq_true, if_false, t_Bin, ne12, s_Nil, i_Seq, seqW_tup, e13, n14, tp14, ne14, n15, seqW_ref g15, e16, n17, t_CallK, e18, e19, e20, e21, n21, su21, sm21, e22, e23, n23, su23, sm23, n24, e25, e26]
theorem law_true (ns : List Int) (hn : ns.length ≤ 63) : ∃ s', m_law [.fix (ns.map .int)] Sto.new = .ok (.bl true) s' := by
  obtain ⟨m, hm, em⟩ : ∃ m : Nat, m ≤ 4 ∧ ∀ s, (max2B [.int 1, .int (if (ns.length : Int) < 4 then (ns.length : Int) else 4)] s) = .ok (.int (m : Int)) s := by
    refine ⟨max 1 (min 4 ns.length), by omega, fun s => ?_⟩
    rw [max2_ii]
    congr 2
    omega
  refine Exists.elim (forIts_inv (b := bodyF (gVar 1) b_law_1)
    (fun k env s' => ∃ z1 z, env = some (.fix (ns.map .int)) :: z1 :: z ∧ z.length = 16)
    (rgD 0 m) 0 [some (.fix (ns.map .int)), none, none, none, none, none, none, none, none, none, none, none, none, none, none, none, none, none] Sto.new ⟨none, _, rfl, rfl⟩ ?step) ?rest
  case rest =>
    rintro env ⟨s', e, z1, z, rfl, hz⟩
    have b1 : bigI (m : Int) = true := bigI_of (by omega)
    refine ⟨s', ?_⟩
    simp only [m_law, b_law, fnB_eq, List.length_cons, List.length_nil, List.map_cons, List.map_nil, List.cons_append, List.nil_append, Nat.reduceAdd, Nat.reduceSub, List.replicate, if_true, s_Cons, s_For, i_Rg1, a_Cons, a_Nil, v_Bi, v_C, v_Var, List.getElem?_cons_zero, List.getElem?_cons_succ, getV_some, bind_ok', len_fix, List.length_map, min2_ii, em, rg1W_ok, b1, Int.toNat_natCast, st_ok', wkS_its, e, then_nx, s_Ret, then_rt, fnR_rt]
  case step =>
    rintro i x env s1 hx ⟨z1, z, rfl, hz⟩
    obtain ⟨hi, rfl⟩ := rgD_at hx
    rw [Int.zero_add]
    obtain ⟨z', s2, e2, hz'⟩ := run_turn1 ns i s1 hn (by omega) z hz
    exact ⟨_, s2, .inl (by
      simp only [bodyF_eq, g_Var, st_ok', List.set_cons_zero, List.set_cons_succ, e2]
      rfl), _, _, rfl, hz'⟩
end K53

--END
open PySem PySem.W PyProof.Rows
set_option maxHeartbeats 0 in
theorem PySem.Challenge.cw_clubsturned_k53_whole_rounds_moved_holds : PySem.Challenge.rw_clubsturned_k53_whole_rounds_moved.Holds := by
  w_on; o_law; k_head; (case hw => w_witness2)
  k_fill
  refine L2.walk_of (l := PySem.Challenge.rw_clubsturned_k53_whole_rounds_moved) (n := 63) (k := 10) (x := "script") (CX := fun _ => L2.CX0) (sp := fun w => Cs.spD _ 1 K53.m_law) rfl (by decide) rfl ⟨rfl, by decide, by decide⟩ (fun w h Y => PySem.W.kIn_of Y) ?F (fun _ H a ns hl ho hS => Cs.law_sp K53.law_true _ H a ns hl ho hS) (fun _ _ _ _ _ h => h)
  case F =>
    intro w mg fa h KX G hmg
    refine' K53.all_mk KX G hmg ?a0 ?l0 ?c0 ?k0 ?a1 ?l1 ?c1 ?k1 ?a2 ?l2 ?c2 ?k2 ?a3 ?l3 ?c3 ?k3 ?a4 ?l4 ?c4 ?k4 ?a5 ?l5 ?c5 ?k5 ?a6 ?l6 ?c6 ?k6 ?a7 ?l7 ?c7 ?k7 ?a8 ?l8 ?c8 ?k8 ?a9 ?l9 ?c9 ?k9 ?a10 ?l10 ?c10 ?k10 ?a11 ?l11 ?c11 ?k11 ?a12 ?l12 ?c12 ?k12 ?a13 ?l13 ?c13 ?k13 ?a14 ?l14 ?c14 ?k14 ?a15 ?l15 ?c15 ?k15 ?a16 ?l16 ?c16 ?k16 ?a17 ?l17 ?c17 ?k17 ?a18 ?l18 ?c18 ?k18 ?a19 ?l19 ?c19 ?k19 ?a20 ?l20 ?c20 ?k20 ?a21 ?l21 ?c21 ?k21 ?a22 ?l22 ?c22 ?k22 ?a23 ?l23 ?c23 ?k23 ?a24 ?l24 ?c24 ?k24 ?a25 ?l25 ?c25 ?k25 ?a26 ?l26 ?c26 ?k26 ?a27 ?l27 ?c27 ?k27 ?a28 ?l28 ?c28 ?k28 ?a29 ?l29 ?c29 ?k29 ?a30 ?l30 ?c30 ?k30 ?a31 ?l31 ?c31 ?k31 ?a32 ?l32 ?c32 ?k32 ?a33 ?l33 ?c33 ?k33 ?a34 ?l34 ?c34 ?k34 ?a35 ?l35 ?c35 ?k35 ?a36 ?l36 ?c36 ?k36 ?a37 ?l37 ?c37 ?k37 ?a38 ?l38 ?c38 ?k38 ?a39 ?l39 ?c39 ?k39 ?a40 ?l40 ?c40 ?k40 ?a41 ?l41 ?c41 ?k41 ?a42 ?l42 ?c42 ?k42 ?a43 ?l43 ?c43 ?k43 ?a44 ?l44 ?c44 ?k44 ?z0 ?z1 ?z2 ?z3 ?z4 ?z5 ?z6 ?z7 ?z8 ?z9 ?z10 ?z11 ?z12 ?z13 ?z14 ?z15 ?q0 ?q1 ?q2 ?q3
    (case a0 => k_is); (case l0 => k_is); (case c0 => k_is); (case k0 => k_is); (case a1 => k_is); (case l1 => k_is); (case c1 => k_is); (case k1 => k_is); (case a2 => k_is); (case l2 => k_is); (case c2 => k_is); (case k2 => k_is); (case a3 => k_is); (case l3 => k_is); (case c3 => k_is); (case k3 => k_is); (case a4 => k_is); (case l4 => k_is); (case c4 => k_is); (case k4 => k_is); (case a5 => k_is); (case l5 => k_is); (case c5 => k_is); (case k5 => k_is); (case a6 => k_is); (case l6 => k_is); (case c6 => k_is); (case k6 => k_is); (case a7 => k_is); (case l7 => k_is); (case c7 => k_is); (case k7 => k_is); (case a8 => k_is); (case l8 => k_is); (case c8 => k_is); (case k8 => k_is); (case a9 => k_is); (case l9 => k_is); (case c9 => k_is); (case k9 => k_is); (case a10 => k_is); (case l10 => k_is); (case c10 => k_is); (case k10 => k_is); (case a11 => k_is); (case l11 => k_is); (case c11 => k_is); (case k11 => k_is); (case a12 => k_is); (case l12 => k_is); (case c12 => k_is); (case k12 => k_is); (case a13 => k_is); (case l13 => k_is); (case c13 => k_is); (case k13 => k_is); (case a14 => k_is); (case l14 => k_is); (case c14 => k_is); (case k14 => k_is); (case a15 => k_is); (case l15 => k_is); (case c15 => k_is); (case k15 => k_is); (case a16 => k_is); (case l16 => k_is); (case c16 => k_is); (case k16 => k_is); (case a17 => k_is); (case l17 => k_is); (case c17 => k_is); (case k17 => k_is); (case a18 => k_is); (case l18 => k_is); (case c18 => k_is); (case k18 => k_is); (case a19 => k_is); (case l19 => k_is); (case c19 => k_is); (case k19 => k_is); (case a20 => k_is); (case l20 => k_is); (case c20 => k_is); (case k20 => k_is); (case a21 => k_is); (case l21 => k_is); (case c21 => k_is); (case k21 => k_is); (case a22 => k_is); (case l22 => k_is); (case c22 => k_is); (case k22 => k_is); (case a23 => k_is); (case l23 => k_is); (case c23 => k_is); (case k23 => k_is); (case a24 => k_is); (case l24 => k_is); (case c24 => k_is); (case k24 => k_is); (case a25 => k_is); (case l25 => k_is); (case c25 => k_is); (case k25 => k_is); (case a26 => k_is); (case l26 => k_is); (case c26 => k_is); (case k26 => k_is); (case a27 => k_is); (case l27 => k_is); (case c27 => k_is); (case k27 => k_is); (case a28 => k_is); (case l28 => k_is); (case c28 => k_is); (case k28 => k_is); (case a29 => k_is); (case l29 => k_is); (case c29 => k_is); (case k29 => k_is); (case a30 => k_is); (case l30 => k_is); (case c30 => k_is); (case k30 => k_is); (case a31 => k_is); (case l31 => k_is); (case c31 => k_is); (case k31 => k_is); (case a32 => k_is); (case l32 => k_is); (case c32 => k_is); (case k32 => k_is); (case a33 => k_is); (case l33 => k_is); (case c33 => k_is); (case k33 => k_is); (case a34 => k_is); (case l34 => k_is); (case c34 => k_is); (case k34 => k_is); (case a35 => k_is); (case l35 => k_is); (case c35 => k_is); (case k35 => k_is); (case a36 => k_is); (case l36 => k_is); (case c36 => k_is); (case k36 => k_is); (case a37 => k_is); (case l37 => k_is); (case c37 => k_is); (case k37 => k_is); (case a38 => k_is); (case l38 => k_is); (case c38 => k_is); (case k38 => k_is); (case a39 => k_is); (case l39 => k_is); (case c39 => k_is); (case k39 => k_is); (case a40 => k_is); (case l40 => k_is); (case c40 => k_is); (case k40 => k_is); (case a41 => k_is); (case l41 => k_is); (case c41 => k_is); (case k41 => k_is); (case a42 => k_is); (case l42 => k_is); (case c42 => k_is); (case k42 => k_is); (case a43 => k_is); (case l43 => k_is); (case c43 => k_is); (case k43 => k_is); (case a44 => k_is); (case l44 => k_is); (case c44 => k_is); (case k44 => k_is); (case z0 => k_is); (case z1 => k_is); (case z2 => k_is); (case z3 => k_is); (case z4 => k_is); (case z5 => k_is); (case z6 => k_is); (case z7 => k_is); (case z8 => k_is); (case z9 => k_is); (case z10 => k_is); (case z11 => k_is); (case z12 => k_is); (case z13 => k_is); (case z14 => k_is); (case z15 => k_is); (case q0 => k_is); (case q1 => k_is); (case q2 => k_is); (case q3 => k_is)

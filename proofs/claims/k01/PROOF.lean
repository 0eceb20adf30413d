import PyProof.Rows.All
import Wide.All
import OpenK.AllK
import Wide.FinOn
import HandS.ForMost
import HandS.Flow
import HandS.Style
import HandS.Wide
import HandS.TupAny
import HandS.TupMul
import HandS.IsInst
import HandS.Conv
import HandS.Iter
import KE.GoesEnum
import KE.GoesMore
import PySem.Challenge.RW_clubsturned_k01_walks_in_their_order
set_option Elab.async false
set_option linter.all false
set_option maxRecDepth 100000
set_option maxHeartbeats 4000000
/-! ## CsSem -/
/-! Plain values, a store of lists, results; what each construct means. No machine here. -/
namespace Cs
open PySem

/-- a value: tuples by value, a list that may change by its number in the store, a list that stays by value -/
inductive D where
  | non | bl (b : Bool) | int (i : Int) | str (x : Str) | tup (xs : List D) | fix (xs : List D) | ref (i : Nat)
  deriving Inhabited

/-- what stands in the store -/
inductive O where
  | lst (xs : List D)
  | dct (kvs : List (D × D))
  deriving Inhabited

/-! ### the store: a binary tree by number -/
inductive Tr where
  | lf
  | nd (v : Option O) (l r : Tr)
  deriving Inhabited
def Tr.get : Tr → Nat → Option O
  | .lf, _ => none
  | .nd v l r, n => if n = 0 then v else if n % 2 = 1 then l.get (n / 2) else r.get (n / 2 - 1)
def Tr.put : Nat → Tr → Nat → O → Tr
  | 0, t, _, _ => t
  | f + 1, .lf, n, o => if n = 0 then .nd (some o) .lf .lf else if n % 2 = 1 then .nd none (Tr.put f .lf (n / 2) o) .lf else .nd none .lf (Tr.put f .lf (n / 2 - 1) o)
  | f + 1, .nd v l r, n, o => if n = 0 then .nd (some o) l r else if n % 2 = 1 then .nd v (Tr.put f l (n / 2) o) r else .nd v l (Tr.put f r (n / 2 - 1) o)
theorem Tr.get_put : ∀ (f : Nat) (t : Tr) (n m : Nat) (o : O), n < f → (Tr.put f t n o).get m = if m = n then some o else t.get m := by
  intro f
  induction f with
  | zero => intro t n m o h; exact absurd h (Nat.not_lt_zero _)
  | succ f ih =>
    intro t n m o h
    cases t with
    | lf =>
      unfold Tr.put
      by_cases h0 : n = 0
      · rw [if_pos h0]
        by_cases hm : m = 0
        · rw [h0, hm]; rfl
        · show (if m = 0 then some o else if m % 2 = 1 then Tr.lf.get (m / 2) else Tr.lf.get (m / 2 - 1)) = if m = n then some o else none
          rw [if_neg hm, if_neg (show ¬ m = n by omega)]
          split <;> rfl
      · rw [if_neg h0]
        by_cases h1 : n % 2 = 1
        · rw [if_pos h1]
          show (if m = 0 then none else if m % 2 = 1 then (Tr.put f .lf (n / 2) o).get (m / 2) else Tr.lf.get (m / 2 - 1)) = _
          rw [ih _ _ _ _ (by omega)]
          show (if m = 0 then none else if m % 2 = 1 then (if m / 2 = n / 2 then some o else none) else none) = if m = n then some o else none
          by_cases hm : m = n
          · rw [if_pos hm, if_neg (by omega), if_pos (by omega), if_pos (by omega)]
          · rw [if_neg hm]
            by_cases hm0 : m = 0
            · rw [if_pos hm0]
            · rw [if_neg hm0]
              by_cases hm1 : m % 2 = 1
              · rw [if_pos hm1, if_neg (by omega)]
              · rw [if_neg hm1]
        · rw [if_neg h1]
          show (if m = 0 then none else if m % 2 = 1 then Tr.lf.get (m / 2) else (Tr.put f .lf (n / 2 - 1) o).get (m / 2 - 1)) = _
          rw [ih _ _ _ _ (by omega)]
          show (if m = 0 then none else if m % 2 = 1 then none else (if m / 2 - 1 = n / 2 - 1 then some o else none)) = if m = n then some o else none
          by_cases hm : m = n
          · rw [if_pos hm, if_neg (by omega), if_neg (by omega), if_pos (by omega)]
          · rw [if_neg hm]
            by_cases hm0 : m = 0
            · rw [if_pos hm0]
            · rw [if_neg hm0]
              by_cases hm1 : m % 2 = 1
              · rw [if_pos hm1]
              · rw [if_neg hm1, if_neg (by omega)]
    | nd v l r =>
      unfold Tr.put
      by_cases h0 : n = 0
      · rw [if_pos h0]
        show (if m = 0 then some o else if m % 2 = 1 then l.get (m / 2) else r.get (m / 2 - 1)) = if m = n then some o else (if m = 0 then v else if m % 2 = 1 then l.get (m / 2) else r.get (m / 2 - 1))
        by_cases hm : m = 0
        · rw [if_pos hm, if_pos (by omega)]
        · rw [if_neg hm, if_neg (show ¬ m = n by omega), if_neg hm]
      · rw [if_neg h0]
        by_cases h1 : n % 2 = 1
        · rw [if_pos h1]
          show (if m = 0 then v else if m % 2 = 1 then (Tr.put f l (n / 2) o).get (m / 2) else r.get (m / 2 - 1)) = if m = n then some o else (if m = 0 then v else if m % 2 = 1 then l.get (m / 2) else r.get (m / 2 - 1))
          rw [ih _ _ _ _ (by omega)]
          by_cases hm : m = n
          · rw [if_pos hm, if_neg (by omega), if_pos (by omega), if_pos (by omega)]
          · rw [if_neg hm]
            by_cases hm0 : m = 0
            · rw [if_pos hm0, if_pos hm0]
            · rw [if_neg hm0, if_neg hm0]
              by_cases hm1 : m % 2 = 1
              · rw [if_pos hm1, if_pos hm1, if_neg (by omega)]
              · rw [if_neg hm1, if_neg hm1]
        · rw [if_neg h1]
          show (if m = 0 then v else if m % 2 = 1 then l.get (m / 2) else (Tr.put f r (n / 2 - 1) o).get (m / 2 - 1)) = if m = n then some o else (if m = 0 then v else if m % 2 = 1 then l.get (m / 2) else r.get (m / 2 - 1))
          rw [ih _ _ _ _ (by omega)]
          by_cases hm : m = n
          · rw [if_pos hm, if_neg (by omega), if_neg (by omega), if_pos (by omega)]
          · rw [if_neg hm]
            by_cases hm0 : m = 0
            · rw [if_pos hm0, if_pos hm0]
            · rw [if_neg hm0, if_neg hm0]
              by_cases hm1 : m % 2 = 1
              · rw [if_pos hm1, if_pos hm1]
              · rw [if_neg hm1, if_neg hm1, if_neg (by omega)]

structure Sto where
  n : Nat
  t : Tr
def Sto.get (s : Sto) (i : Nat) : Option O := s.t.get i
def Sto.set (s : Sto) (i : Nat) (o : O) : Sto := ⟨s.n, Tr.put (i + 1) s.t i o⟩
def Sto.add (s : Sto) (o : O) : Sto := ⟨s.n + 1, Tr.put (s.n + 1) s.t s.n o⟩
def Sto.new : Sto := ⟨0, .lf⟩
theorem Sto.get_set (s : Sto) (i j : Nat) (o : O) : (s.set i o).get j = if j = i then some o else s.get j := Tr.get_put _ _ _ _ _ (Nat.lt_succ_self _)
theorem Sto.get_add (s : Sto) (j : Nat) (o : O) : (s.add o).get j = if j = s.n then some o else s.get j := Tr.get_put _ _ _ _ _ (Nat.lt_succ_self _)
theorem Sto.n_set (s : Sto) (i : Nat) (o : O) : (s.set i o).n = s.n := rfl
theorem Sto.n_add (s : Sto) (o : O) : (s.add o).n = s.n + 1 := rfl
theorem Sto.new_get (i : Nat) : Sto.new.get i = none := rfl

/-! ### results -/
inductive R (α : Type) where
  | ok (a : α) (s : Sto)
  | no
def R.bind {α β : Type} (r : R α) (f : α → Sto → R β) : R β := match r with
  | .ok a s => f a s
  | .no => .no
abbrev Env := List (Option D)
abbrev EvE := Env → Sto → R D
abbrev EvT := Env → Sto → R Bool
abbrev EvA := Env → Sto → R (List D)
/-- an expression: its value, its truth as a test -/
structure Sem where
  v : EvE
  t : EvT
/-- a statement's end -/
inductive RS where
  | nx (e : Env) (s : Sto)
  | rt (d : D) (s : Sto)
  | bk (e : Env) (s : Sto)
  | ct (e : Env) (s : Sto)
  | no
abbrev EvS := Env → Sto → RS
/-- a def -/
abbrev Fn := List D → Sto → R D

/-! ### truth -/
def truth (d : D) (s : Sto) : R Bool := match d with
  | .non => .ok false s
  | .bl b => .ok b s
  | .int i => .ok (i != 0) s
  | .str x => if x.length ≤ sizeLine then .ok (x.length != 0) s else .no
  | .tup xs => .ok (!xs.isEmpty) s
  | .fix xs => .ok (!xs.isEmpty) s
  | .ref i => match s.get i with
    | some (.lst xs) => .ok (!xs.isEmpty) s
    | some (.dct kvs) => .ok (!kvs.isEmpty) s
    | none => .no
def mk (v : EvE) : Sem := ⟨v, fun env s => (v env s).bind fun d s => truth d s⟩

/-! ### expressions -/
def xC (d : D) : Sem := mk fun _ s => .ok d s
def xVar (i : Nat) : Sem := mk fun env s => match env[i]? with
  | some (some d) => .ok d s
  | _ => .no
def xBin (f : D → D → Sto → R D) (a b : Sem) : Sem := mk fun env s => (a.v env s).bind fun x s => (b.v env s).bind fun y s => f x y s
def xUn (f : D → Sto → R D) (a : Sem) : Sem := mk fun env s => (a.v env s).bind fun x s => f x s
def xChain (f g : D → D → Sto → R D) (a b c : Sem) : Sem := mk fun env s => (a.v env s).bind fun x s => (b.v env s).bind fun y s => (f x y s).bind fun z s => match z with
  | .bl true => (c.v env s).bind fun w s => g y w s
  | .bl false => .ok (.bl false) s
  | _ => .no
def xNot (a : Sem) : Sem where
  v := fun env s => (a.v env s).bind fun x s => (truth x s).bind fun b s => .ok (.bl (!b)) s
  t := fun env s => (a.t env s).bind fun b s => .ok (!b) s
def xAnd (a b : Sem) : Sem where
  v := fun env s => (a.v env s).bind fun x s => (truth x s).bind fun k s => if k = true then b.v env s else .ok x s
  t := fun env s => (a.t env s).bind fun k s => if k = true then b.t env s else .ok false s
def xOr (a b : Sem) : Sem where
  v := fun env s => (a.v env s).bind fun x s => (truth x s).bind fun k s => if k = true then .ok x s else b.v env s
  t := fun env s => (a.t env s).bind fun k s => if k = true then .ok true s else b.t env s
def xIf (c a b : Sem) : Sem where
  v := fun env s => (c.t env s).bind fun k s => if k = true then a.v env s else b.v env s
  t := fun env s => (c.t env s).bind fun k s => if k = true then a.t env s else b.t env s
def aNil : EvA := fun _ s => .ok [] s
def aCons (a : Sem) (r : EvA) : EvA := fun env s => (a.v env s).bind fun x s => (r env s).bind fun xs s => .ok (x :: xs) s
def xTup (a : EvA) : Sem := mk fun env s => (a env s).bind fun xs s => if xs.length ≤ sizeLine then .ok (.tup xs) s else .no
def newL (xs : List D) (s : Sto) : R D := if xs.length ≤ sizeLine then .ok (.ref s.n) (s.add (.lst xs)) else .no
def xLst (a : EvA) : Sem := mk fun env s => (a env s).bind newL
def xCall (f : Fn) (a : EvA) : Sem := mk fun env s => (a env s).bind f
/-- keyword arguments: np positional values, nk keywords' values; the parameters' ones by their places among all -/
def gPerm {α : Type} (z : α) (np nk : Nat) (p : List Nat) (us ws : List α) : List α := if us.length = np ∧ ws.length = nk then p.map fun i => (us ++ ws).getD i z else []
def xCallK (f : Fn) (np nk : Nat) (p : List Nat) (a k : EvA) : Sem := mk fun env s => (a env s).bind fun us s => (k env s).bind fun ws s => f (gPerm .non np nk p us ws) s
def xBi (f : List D → Sto → R D) (a : EvA) : Sem := mk fun env s => (a env s).bind f
def isL (x : D) (s : Sto) : Bool := match x with
  | .ref i => match s.get i with
    | some (.lst _) => true
    | _ => false
  | _ => false
def xMeth (f : D → List D → Sto → R D) (o : Sem) (a : EvA) : Sem := mk fun env s => (o.v env s).bind fun x s => if isL x s = true then (a env s).bind fun xs s => f x xs s else .no

/-! ### operators -/
def lim4 : Nat := 2 ^ 4000
def addD (x y : D) (s : Sto) : R D := match x, y with
  | .int i, .int j => .ok (.int (i + j)) s
  | .tup xs, .tup ys => if xs.length + ys.length ≤ sizeLine then .ok (.tup (xs ++ ys)) s else .no
  | .str a, .str b => if a.length + b.length ≤ sizeLine then .ok (.str (a ++ b)) s else .no
  | .ref i, .ref j => match s.get i, s.get j with
    | some (.lst xs), some (.lst ys) => if xs.length + ys.length ≤ sizeLine then .ok (.ref s.n) (s.add (.lst (xs ++ ys))) else .no
    | _, _ => .no
  | _, _ => .no
def iaddD (x y : D) (s : Sto) : R D := match x, y with
  | .int i, .int j => .ok (.int (i + j)) s
  | _, _ => .no
def subD (x y : D) (s : Sto) : R D := match x, y with
  | .int i, .int j => .ok (.int (i - j)) s
  | _, _ => .no
def mulOk (i j : Int) : Bool := decide (i.natAbs < 2 ^ 64) || decide (j.natAbs < 2 ^ 64) || (decide (i.natAbs < lim4) && decide (j.natAbs < lim4))
def mulD (x y : D) (s : Sto) : R D := match x, y with
  | .int i, .int j => if mulOk i j = true then .ok (.int (i * j)) s else .no
  | .tup xs, .int k => if xs.length ≤ 1000 ∧ -1000 ≤ k ∧ k ≤ 1000 then .ok (.tup (List.replicate k.toNat xs).flatten) s else .no
  | .ref i, .int k => match s.get i with
    | some (.lst xs) => if -(2 ^ 62) ≤ k ∧ k < 2 ^ 62 ∧ xs.length * k.toNat ≤ sizeLine then .ok (.ref s.n) (s.add (.lst (List.replicate k.toNat xs).flatten)) else .no
    | _ => .no
  | _, _ => .no
def fdivD (x y : D) (s : Sto) : R D := match x, y with
  | .int i, .int j => if 0 < j ∧ j.natAbs < lim4 then .ok (.int (i / j)) s else .no
  | _, _ => .no
def modD (x y : D) (s : Sto) : R D := match x, y with
  | .int i, .int j => if 0 < j then .ok (.int (i % j)) s else .no
  | _, _ => .no
def powD (x y : D) (s : Sto) : R D := match x, y with
  | .int i, .int j => if 0 ≤ j ∧ j ≤ 1000 ∧ i.natAbs < lim4 then .ok (.int (i ^ j.toNat)) s else .no
  | _, _ => .no
def negD (x : D) (s : Sto) : R D := match x with
  | .int i => .ok (.int (-i)) s
  | _ => .no

/-! ### == at any depth -/
def mapO {α β : Type} (f : α → Option β) : List α → Option (List β)
  | [] => some []
  | x :: xs => match f x, mapO f xs with
    | some d, some ds => some (d :: ds)
    | _, _ => none
/-- as the library's plain data (lists of the store looked up; k: the depth) -/
def pyd (s : Sto) : Nat → D → Option PyData
  | 0 => fun d => match d with
    | .non => some .none
    | .bl b => some (.bool b)
    | .int i => some (.int i)
    | .str x => if PyData.strOk x = true then some (.str x) else none
    | _ => none
  | k + 1 => fun d => match d with
    | .non => some .none
    | .bl b => some (.bool b)
    | .int i => some (.int i)
    | .str x => if PyData.strOk x = true then some (.str x) else none
    | .tup xs => (mapO (pyd s k) xs).map .tuple
    | .fix xs => (mapO (pyd s k) xs).map .list
    | .ref i => match s.get i with
      | some (.lst xs) => (mapO (pyd s k) xs).map .list
      | _ => none
def eqD (x y : D) (s : Sto) : R D := match pyd s 12 x, pyd s 12 y with
  | some a, some b => .ok (.bl (PyData.eqv a b)) s
  | _, _ => .no
def neD (x y : D) (s : Sto) : R D := match pyd s 12 x, pyd s 12 y with
  | some a, some b => .ok (.bl (!PyData.eqv a b)) s
  | _, _ => .no
def ltI (f : Int → Int → Bool) (x y : D) (s : Sto) : R D := match x, y with
  | .int i, .int j => .ok (.bl (f i j)) s
  | _, _ => .no
def isNonD (x y : D) (s : Sto) : R D := match x, y with
  | .non, .non => .ok (.bl true) s
  | _, .non => .ok (.bl false) s
  | _, _ => .no
def isnNonD (x y : D) (s : Sto) : R D := match x, y with
  | .non, .non => .ok (.bl false) s
  | _, .non => .ok (.bl true) s
  | _, _ => .no
/-- None, ints, texts, truths: what `in` of a list looks through -/
def flat : D → Bool
  | .non => true
  | .bl _ => true
  | .int _ => true
  | .str _ => true
  | _ => false
def flatEq : D → D → Bool
  | .non, .non => true
  | .bl a, .bl b => a == b
  | .int i, .int j => i == j
  | .bl a, .int j => (if a then 1 else 0) == j
  | .int i, .bl b => i == (if b then 1 else 0)
  | .str a, .str b => a == b
  | _, _ => false
def items (d : D) (s : Sto) : Option (List D) := match d with
  | .tup xs => some xs
  | .fix xs => some xs
  | .ref i => match s.get i with
    | some (.lst xs) => some xs
    | _ => none
  | _ => none
def inD (neg : Bool) (x y : D) (s : Sto) : R D := match items y s with
  | some xs => if flat x && xs.all flat then .ok (.bl ((xs.any fun z => flatEq z x) ^^ neg)) s else .no
  | none => .no

/-! ### places -/
def ixD (x y : D) (s : Sto) : R D := match y with
  | .int i => match items x s with
    | some xs => match L2.atI xs i with
      | some d => .ok d s
      | none => .no
    | none => match x with
      | .str z => if z.length ≤ sizeLine then (match L2.atI z.cps.toList i with
        | some c => .ok (.str ⟨#[c]⟩) s
        | none => .no) else .no
      | _ => .no
  | _ => .no
def cutD (xs : List D) (lo hi : Option Int) : List D := (xs.drop (HT.sIx xs.length 0 lo)).take (HT.sIx xs.length xs.length hi - HT.sIx xs.length 0 lo)
abbrev EvO := Env → Sto → R (Option Int)
def oNo : EvO := fun _ s => .ok none s
def oYes (a : Sem) : EvO := fun env s => (a.v env s).bind fun x s => match x with
  | .int i => .ok (some i) s
  | _ => .no
def slcD (x : D) (lo hi : Option Int) (s : Sto) : R D := match x with
  | .tup xs => .ok (.tup (cutD xs lo hi)) s
  | .ref i => match s.get i with
    | some (.lst xs) => .ok (.ref s.n) (s.add (.lst (cutD xs lo hi)))
    | _ => .no
  | _ => .no
def xSlc (a : Sem) (lo hi : EvO) : Sem := mk fun env s => (a.v env s).bind fun x s => (lo env s).bind fun l s => (hi env s).bind fun h s => slcD x l h s

def revD (x : D) (s : Sto) : R D := match x with
  | .tup xs => .ok (.tup xs.reverse) s
  | .ref i => match s.get i with
    | some (.lst xs) => .ok (.ref s.n) (s.add (.lst xs.reverse))
    | _ => .no
  | _ => .no
/-! ### built-in functions -/
def lenB (xs : List D) (s : Sto) : R D := match xs with
  | [.str z] => if z.length ≤ sizeLine then .ok (.int z.length) s else .no
  | [.ref i] => match s.get i with
    | some (.lst xs) => .ok (.int xs.length) s
    | some (.dct kvs) => .ok (.int kvs.length) s
    | none => .no
  | [d] => match items d s with
    | some xs => .ok (.int xs.length) s
    | none => .no
  | _ => .no
def absB (xs : List D) (s : Sto) : R D := match xs with
  | [.int i] => .ok (.int (if i < 0 then -i else i)) s
  | _ => .no
def max2B (xs : List D) (s : Sto) : R D := match xs with
  | [.int i, .int j] => .ok (.int (if j > i then j else i)) s
  | _ => .no
def min2B (xs : List D) (s : Sto) : R D := match xs with
  | [.int i, .int j] => .ok (.int (if j < i then j else i)) s
  | _ => .no
def intB (xs : List D) (s : Sto) : R D := match xs with
  | [.int i] => .ok (.int i) s
  | [.bl b] => .ok (.int (if b then 1 else 0)) s
  | _ => .no
def tupleB (xs : List D) (s : Sto) : R D := match xs with
  | [d] => match items d s with
    | some xs => .ok (.tup xs) s
    | none => .no
  | _ => .no
def listB (xs : List D) (s : Sto) : R D := match xs with
  | [d] => match items d s with
    | some xs => .ok (.ref s.n) (s.add (.lst xs))
    | none => .no
  | _ => .no
def bools : List D → Option (List Bool)
  | [] => some []
  | .bl b :: r => (bools r).map (b :: ·)
  | _ => none
def intsD : List D → Option (List Int)
  | [] => some []
  | .int i :: r => (intsD r).map (i :: ·)
  | _ => none
/-- a list (no tuple) -/
def litems (d : D) (s : Sto) : Option (List D) := match d with
  | .fix xs => some xs
  | .ref i => match s.get i with
    | some (.lst xs) => some xs
    | _ => none
  | _ => none
def allB (xs : List D) (s : Sto) : R D := match xs with
  | [d] => match (litems d s).bind bools with
    | some bs => .ok (.bl (bs.all id)) s
    | none => .no
  | _ => .no
def anyB (xs : List D) (s : Sto) : R D := match xs with
  | [d] => match (litems d s).bind bools with
    | some bs => .ok (.bl (bs.any id)) s
    | none => .no
  | _ => .no
def sumB (xs : List D) (s : Sto) : R D := match xs with
  | [d] => match (litems d s).bind intsD with
    | some ns => .ok (.int ns.sum) s
    | none => .no
  | _ => .no
/-- isinstance: by the names of built-in types -/
def tyName (d : D) (s : Sto) : Option String := match d with
  | .non => some "NoneType"
  | .bl _ => some "bool"
  | .int _ => some "int"
  | .str _ => some "str"
  | .tup _ => some "tuple"
  | .fix _ => some "list"
  | .ref i => match s.get i with
    | some (.lst _) => some "list"
    | some (.dct _) => some "dict"
    | none => none
inductive Ty where
  | int | bool | str | tuple | list
  deriving DecidableEq
def Ty.name : Ty → String
  | .int => "int"
  | .bool => "bool"
  | .str => "str"
  | .tuple => "tuple"
  | .list => "list"
def isTy (d : D) (s : Sto) (t : Ty) : Option Bool := match d with
  | .non => some false
  | .bl _ => some (t == .int || t == .bool)
  | .int _ => some (t == .int)
  | .str _ => some (t == .str)
  | .tup _ => some (t == .tuple)
  | .fix _ => some (t == .list)
  | .ref i => match s.get i with
    | some (.lst _) => some (t == .list)
    | some (.dct _) => some false
    | none => none
def isiD (ts : List Ty) (d : D) (s : Sto) : R D := match mapO (isTy d s) ts with
  | some bs => .ok (.bl (bs.any id)) s
  | none => .no

/-! ### methods of lists -/
def appendM (x : D) (vs : List D) (s : Sto) : R D := match x, vs with
  | .ref i, [y] => match s.get i with
    | some (.lst xs) => if xs.length < sizeLine then .ok .non (s.set i (.lst (xs ++ [y]))) else .no
    | _ => .no
  | _, _ => .no
def extendM (x : D) (vs : List D) (s : Sto) : R D := match x, vs with
  | .ref i, [.ref j] => match s.get i, s.get j with
    | some (.lst xs), some (.lst ys) => if xs.length + ys.length ≤ sizeLine then .ok .non (s.set i (.lst (xs ++ ys))) else .no
    | _, _ => .no
  | _, _ => .no
def popM (x : D) (vs : List D) (s : Sto) : R D := match x, vs with
  | .ref i, [] => match s.get i with
    | some (.lst xs) => match xs[xs.length - 1]? with
      | some y => .ok y (s.set i (.lst xs.dropLast))
      | none => .no
    | _ => .no
  | .ref i, [.int k] => match s.get i with
    | some (.lst xs) => if -(2 ^ 63) ≤ k ∧ k < 2 ^ 63 then (match seqIndex? k xs.length with
      | some j => match xs[j]? with
        | some y => .ok y (s.set i (.lst (xs.eraseIdx j)))
        | none => .no
      | none => .no) else .no
    | _ => .no
  | _, _ => .no
def clearM (x : D) (vs : List D) (s : Sto) : R D := match x, vs with
  | .ref i, [] => match s.get i with
    | some (.lst _) => .ok .non (s.set i (.lst []))
    | _ => .no
  | _, _ => .no
/-- o[i] = v -/
def setD (o i v : D) (s : Sto) : R Unit := match o, i with
  | .ref a, .int k => match s.get a with
    | some (.lst xs) => match L2.ixN xs.length k with
      | some j => .ok () (s.set a (.lst (xs.set j v)))
      | none => .no
    | _ => .no
  | _, _ => .no

/-! ### what is walked -/
inductive Wk where
  /-- a list of the store, as it stands at each turn -/
  | live (i : Nat)
  | its (xs : List D)
abbrev EvI := Env → Sto → R Wk
def iSeq (a : Sem) : EvI := fun env s => (a.v env s).bind fun d s => match d with
  | .tup xs => .ok (.its xs) s
  | .fix xs => .ok (.its xs) s
  | .ref i => match s.get i with
    | some (.lst _) => .ok (.live i) s
    | _ => .no
  | _ => .no
def rgD (lo : Int) (n : Nat) : List D := (List.range n).map fun i => .int (lo + (i : Nat))
def bigI (i : Int) : Bool := Nat.blt i.natAbs 4611686018427387904
def iRg1 (a : EvA) : EvI := fun env s => (a env s).bind fun xs s => match xs with
  | [.int j] => if bigI j = true then .ok (.its (rgD 0 j.toNat)) s else .no
  | _ => .no
def iRg2 (a : EvA) : EvI := fun env s => (a env s).bind fun xs s => match xs with
  | [.int i, .int j] => if bigI i = true ∧ bigI j = true then .ok (.its (rgD i (j - i).toNat)) s else .no
  | _ => .no

/-! ### targets -/
abbrev EvG := D → Env → Sto → R Env
def gVar (i : Nat) : EvG := fun d env s => .ok (env.set i (some d)) s
def gsNil (ds : List D) (env : Env) (s : Sto) : R Env := match ds with
  | [] => .ok env s
  | _ => .no
def gsCons (g : EvG) (r : List D → Env → Sto → R Env) (ds : List D) (env : Env) (s : Sto) : R Env := match ds with
  | d :: ds => (g d env s).bind fun env s => r ds env s
  | [] => .no
def gTup (n : Nat) (r : List D → Env → Sto → R Env) : EvG := fun d env s => match d with
  | .tup xs => if xs.length = n then r xs env s else .no
  | _ => .no
def gSub (o i : Sem) : EvG := fun d env s => (o.v env s).bind fun x s => (i.v env s).bind fun y s => (setD x y d s).bind fun _ s => .ok env s

/-! ### comprehensions -/
def wipeE (env : Env) : List Nat → Env
  | [] => env
  | v :: vs => (wipeE env vs).set v none
/-- one turn: nothing, or a new item -/
abbrev Turn := D → Sto → R (Option D)
def conO (o : Option D) (ys : List D) : List D := match o with
  | some y => y :: ys
  | none => ys
def goIts (f : Turn) : List D → Sto → R (List D)
  | [], s => .ok [] s
  | x :: xs, s => (f x s).bind fun o s => (goIts f xs s).bind fun ys s => .ok (conO o ys) s
def goLive (f : Turn) (i : Nat) : Nat → Nat → Sto → R (List D)
  | 0, _, _ => .no
  | k + 1, j, s => match s.get i with
    | some (.lst xs) => match xs[j]? with
      | some x => (f x s).bind fun o s => (goLive f i k (j + 1) s).bind fun ys s => .ok (conO o ys) s
      | none => .ok [] s
    | _ => .no
def goWk (f : Turn) (w : Wk) (s : Sto) : R (List D) := match w with
  | .its xs => goIts f xs s
  | .live i => goLive f i 1000000 0 s
def turnC (g : EvG) (c : Option Sem) (e : Sem) (env : Env) : Turn := fun x s => (g x env s).bind fun env s => match c with
  | none => (e.v env s).bind fun y s => .ok (some y) s
  | some c => (c.t env s).bind fun b s => if b = true then (e.v env s).bind fun y s => .ok (some y) s else .ok none s
def xComp (own : List Nat) (g : EvG) (it : EvI) (c : Option Sem) (e : Sem) : Sem := mk fun env s => (it env s).bind fun w s => (goWk (turnC g c e (wipeE env own)) w s).bind newL

/-! ### statements -/
def RS.then (r : RS) (f : Env → Sto → RS) : RS := match r with
  | .nx e s => f e s
  | r => r
def sNil : EvS := fun env s => .nx env s
def sCons (a b : EvS) : EvS := fun env s => (a env s).then b
def R.st {α : Type} (r : R α) (f : α → Sto → RS) : RS := match r with
  | .ok a s => f a s
  | .no => .no
def sExpr (a : Sem) : EvS := fun env s => (a.v env s).st fun _ s => .nx env s
def sAsg (g : EvG) (a : Sem) : EvS := fun env s => (a.v env s).st fun d s => (g d env s).st fun env s => .nx env s
def sPar (i j : Nat) (a : EvA) : EvS := fun env s => (a env s).st fun xs s => match xs with
  | [x, y] => .nx ((env.set i (some x)).set j (some y)) s
  | _ => .no
def sAug (i : Nat) (f : D → D → Sto → R D) (a : Sem) : EvS := fun env s => match env[i]? with
  | some (some x) => (a.v env s).st fun y s => (f x y s).st fun z s => .nx (env.set i (some z)) s
  | _ => .no
def sRet (a : Sem) : EvS := fun env s => (a.v env s).st fun d s => .rt d s
def sRetN : EvS := fun _ s => .rt .non s
def sIf (c : Sem) (a b : EvS) : EvS := fun env s => (c.t env s).st fun k s => if k = true then a env s else b env s
def sPass : EvS := fun env s => .nx env s
def sBrk : EvS := fun env s => .bk env s
def sCt : EvS := fun env s => .ct env s
def sNo : EvS := fun _ _ => .no
/-- a loop's turn is over -/
def RS.turn (r : RS) (f : Env → Sto → RS) : RS := match r with
  | .nx e s => f e s
  | .ct e s => f e s
  | .bk e s => .nx e s
  | r => r
def whl (c : Sem) (b : EvS) : Nat → EvS
  | 0 => fun _ _ => .no
  | k + 1 => fun env s => (c.t env s).st fun v s => if v = true then (b env s).turn (whl c b k) else .nx env s
def sWhl (c : Sem) (b : EvS) : EvS := whl c b 1000000
def forIts (b : D → Env → Sto → RS) : List D → Env → Sto → RS
  | [], env, s => .nx env s
  | x :: xs, env, s => (b x env s).turn (forIts b xs)
def forLive (b : D → Env → Sto → RS) (i : Nat) : Nat → Nat → Env → Sto → RS
  | 0, _, _, _ => .no
  | k + 1, j, env, s => match s.get i with
    | some (.lst xs) => match xs[j]? with
      | some x => (b x env s).turn (forLive b i k (j + 1))
      | none => .nx env s
    | _ => .no
def bodyF (g : EvG) (b : EvS) (d : D) (env : Env) (s : Sto) : RS := (g d env s).st fun env s => b env s
def sFor (g : EvG) (it : EvI) (b : EvS) : EvS := fun env s => (it env s).st fun w s => match w with
  | .its xs => forIts (bodyF g b) xs env s
  | .live i => forLive (bodyF g b) i 1000000 0 env s
/-- a def of np parameters and n names, its body -/
def fnB (np n : Nat) (b : EvS) : Fn := fun ds s => if ds.length = np then (match b (ds.map some ++ List.replicate (n - ds.length) none) s with
  | .rt d s => .ok d s
  | .nx _ s => .ok .non s
  | _ => .no) else .no
def fnNo : Fn := fun _ _ => .no
end Cs

/-! ## CsSem2 -/
/-! More of the plain meaning. -/
namespace Cs
open PySem
def sPar3 (i j l : Nat) (a : EvA) : EvS := fun env s => (a env s).st fun xs s => match xs with
  | [x, y, z] => .nx (((env.set i (some x)).set j (some y)).set l (some z)) s
  | _ => .no
/-- i, i - 1, ..: n of them -/
def rgdD (i : Int) (n : Nat) : List D := (List.range n).map fun k => .int (i - (k : Nat))
/-- range(i, j, -1) -/
def iRg3 (a : EvA) : EvI := fun env s => (a env s).bind fun xs s => match xs with
  | [.int i, .int j, .int c] => if c = -1 ∧ bigI i = true ∧ bigI j = true then .ok (.its (rgdD i (i - j).toNat)) s else .no
  | _ => .no
def enumD (xs : List D) : List D := xs.zipIdx.map fun p => .tup [.int (p.2 : Nat), p.1]
/-- enumerate(a tuple) -/
def iEnum (a : EvA) : EvI := fun env s => (a env s).bind fun ds s => match ds with
  | [.tup xs] => .ok (.its (enumD xs)) s
  | _ => .no
/-- l.index(x), ints only -/
def indexM (x : D) (xs : List D) (s : Sto) : R D := match x with
  | .ref k => match s.get k with
    | some (.lst ys) => match intsD ys with
      | some ns => match xs with
        | [.int i] => match ns.findIdx? (· == i) with
          | some j => .ok (.int (j : Nat)) s
          | none => .no
        | _ => .no
      | none => .no
    | _ => .no
  | _ => .no
end Cs

/-! ## CsSim -/
namespace Cs
open PySem PySem.Spec PyProof.Rows L2

/-! ### what a value of the machine stands for -/
/-- a list that stays: locked, or of the written part -/
def SqF (K : PySem.W.Frag) (H : Hp) (a : Addr) (xs : List V) : Prop :=
  (∃ o, H a = some (.frz o (.lst xs))) ∨
    ∃ (o : Obj) (its : Array Value) (n : Nat), K.lookup a = some o ∧ o.cls = .type "list" ∧ o.dict = none ∧ o.data = .seq its n ∧ its.size ≤ sizeLine ∧ Vals xs its.toList
theorem SqF.sq {K : PySem.W.Frag} {H : Hp} {a : Addr} {xs : List V} (h : SqF K H a xs) : SqL K H a xs := by
  rcases h with h | h
  · exact .inl (.inr h)
  · exact .inr h
mutual
inductive Rep (K : PySem.W.Frag) (H : Hp) (μ : List Addr) : V → D → Prop
  | non : Rep K H μ .non .non
  | bl (b : Bool) : Rep K H μ (.bl b) (.bl b)
  | int (i : Int) : Rep K H μ (.int i) (.int i)
  | str (x : Str) : Rep K H μ (.str x) (.str x)
  | tup {a : Addr} {xs : List V} {ds : List D} : SqT K H a xs → Reps K H μ xs ds → Rep K H μ (.ref a) (.tup ds)
  | fix {a : Addr} {xs : List V} {ds : List D} : SqF K H a xs → Reps K H μ xs ds → Rep K H μ (.ref a) (.fix ds)
  | ref {i : Nat} {a : Addr} : μ[i]? = some a → Rep K H μ (.ref a) (.ref i)
inductive Reps (K : PySem.W.Frag) (H : Hp) (μ : List Addr) : List V → List D → Prop
  | nil : Reps K H μ [] []
  | cons {v : V} {vs : List V} {d : D} {ds : List D} : Rep K H μ v d → Reps K H μ vs ds → Reps K H μ (v :: vs) (d :: ds)
end
def RepO (K : PySem.W.Frag) (H : Hp) (μ : List Addr) (a : Addr) : O → Prop
  | .lst ds => ∃ xs, H a = some (.lst xs) ∧ Reps K H μ xs ds
  | .dct _ => False
structure Sim (K : PySem.W.Frag) (μ : List Addr) (H : Hp) (s : Sto) : Prop where
  nx : μ.length = s.n
  nd : μ.Nodup
  ob : ∀ (i : Nat) (a : Addr), μ[i]? = some a → ∃ o, s.get i = some o ∧ RepO K H μ a o
  up : ∀ i, s.n ≤ i → s.get i = none
/-- later: only the listed objects changed, new ones were new -/
structure Ext (μ : List Addr) (H : Hp) (μ' : List Addr) (H' : Hp) : Prop where
  pre : ∀ (i : Nat) (a : Addr), μ[i]? = some a → μ'[i]? = some a
  keep : ∀ a o, H a = some o → a ∉ μ → H' a = some o
  fresh : ∀ a, a ∈ μ' → a ∉ μ → H a = none
def EnvR (K : PySem.W.Frag) (H : Hp) (μ : List Addr) (σ : L2.St) (env : Env) : Prop :=
  σ.length = env.length ∧ ∀ (i : Nat) (d : D), env[i]? = some (some d) → ∃ v, σ[i]? = some (some v) ∧ Rep K H μ v d

section
variable {K : PySem.W.Frag} {μ μ' μ'' : List Addr} {H H' H'' : Hp} {s s' : Sto} {σ : L2.St} {env : Env}
theorem Ext.refl : Ext μ H μ H := ⟨fun _ _ h => h, fun _ _ h _ => h, fun _ h n => absurd h n⟩
theorem Ext.sub (e : Ext μ H μ' H') {a : Addr} (h : a ∈ μ) : a ∈ μ' := by
  obtain ⟨i, hi⟩ := List.getElem?_of_mem h
  exact List.mem_of_getElem? (e.pre i a hi)
theorem Ext.trans (e : Ext μ H μ' H') (f : Ext μ' H' μ'' H'') : Ext μ H μ'' H'' where
  pre := fun i a h => f.pre i a (e.pre i a h)
  keep := fun a o h n => by
    refine f.keep a o (e.keep a o h n) fun z => ?_
    have := e.fresh a z n
    rw [h] at this; cases this
  fresh := fun a h n => by
    by_cases z : a ∈ μ'
    · exact e.fresh a z n
    · have q := f.fresh a h z
      cases q' : H a with
      | none => rfl
      | some o =>
        have := e.keep a o q' n
        rw [q] at this; cases this
theorem Ext.same (h : Same H H') : Ext μ H μ H' := ⟨fun _ _ h => h, fun a o q _ => h a o q, fun _ h n => absurd h n⟩
theorem Sim.mem (S : Sim K μ H s) {a : Addr} (h : a ∈ μ) : ∃ xs, H a = some (.lst xs) := by
  obtain ⟨i, hi⟩ := List.getElem?_of_mem h
  obtain ⟨o, _, r⟩ := S.ob i a hi
  cases o with
  | lst ds => obtain ⟨xs, e, _⟩ := r; exact ⟨xs, e⟩
  | dct kvs => exact r.elim
theorem Sim.nomem (S : Sim K μ H s) {a : Addr} (h : ∀ xs, H a ≠ some (.lst xs)) : a ∉ μ := fun z => by
  obtain ⟨xs, e⟩ := S.mem z
  exact h xs e
theorem Sim.at (S : Sim K μ H s) {i : Nat} {o : O} (h : s.get i = some o) : ∃ a, μ[i]? = some a ∧ RepO K H μ a o := by
  by_cases hi : i < μ.length
  · obtain ⟨o', e, r⟩ := S.ob i μ[i] (List.getElem?_eq_getElem hi)
    rw [h] at e; cases e
    exact ⟨μ[i], List.getElem?_eq_getElem hi, r⟩
  · rw [S.up i (by rw [← S.nx]; omega)] at h; cases h
theorem sqT_keep (k : ∀ a xs, H a = some (.tup xs) → H' a = some (.tup xs)) (kf : ∀ a o u, H a = some (.frz o u) → H' a = some (.frz o u)) {a : Addr} {xs : List V} (h : SqT K H a xs) : SqT K H' a xs := by
  rcases h with (h | ⟨o, h⟩) | h
  · exact .inl (.inl (k _ _ h))
  · exact .inl (.inr ⟨o, kf _ _ _ h⟩)
  · exact .inr h
theorem sqF_keep (kf : ∀ a o u, H a = some (.frz o u) → H' a = some (.frz o u)) {a : Addr} {xs : List V} (h : SqF K H a xs) : SqF K H' a xs := by
  rcases h with ⟨o, h⟩ | h
  · exact .inl ⟨o, kf _ _ _ h⟩
  · exact .inr h
mutual
theorem Rep.keep (k : ∀ a xs, H a = some (.tup xs) → H' a = some (.tup xs)) (kf : ∀ a o u, H a = some (.frz o u) → H' a = some (.frz o u)) (km : ∀ (i : Nat) (a : Addr), μ[i]? = some a → μ'[i]? = some a) :
    ∀ (d : D) (v : V), Rep K H μ v d → Rep K H' μ' v d
  | .non, _, h => by cases h; exact .non
  | .bl b, _, h => by cases h; exact .bl b
  | .int i, _, h => by cases h; exact .int i
  | .str x, _, h => by cases h; exact .str x
  | .tup ds, _, h => by
    cases h with
    | tup q r => exact .tup (sqT_keep k kf q) (Reps.keep k kf km ds _ r)
  | .fix ds, _, h => by
    cases h with
    | fix q r => exact .fix (sqF_keep kf q) (Reps.keep k kf km ds _ r)
  | .ref i, _, h => by
    cases h with
    | ref q => exact .ref (km _ _ q)
theorem Reps.keep (k : ∀ a xs, H a = some (.tup xs) → H' a = some (.tup xs)) (kf : ∀ a o u, H a = some (.frz o u) → H' a = some (.frz o u)) (km : ∀ (i : Nat) (a : Addr), μ[i]? = some a → μ'[i]? = some a) :
    ∀ (ds : List D) (vs : List V), Reps K H μ vs ds → Reps K H' μ' vs ds
  | [], _, h => by cases h; exact .nil
  | d :: ds, _, h => by
    cases h with
    | cons r q => exact .cons (Rep.keep k kf km d _ r) (Reps.keep k kf km ds _ q)
end
theorem Rep.mono (S : Sim K μ H s) (e : Ext μ H μ' H') {v : V} {d : D} (r : Rep K H μ v d) : Rep K H' μ' v d :=
  Rep.keep (fun a xs h => e.keep a _ h (S.nomem fun ys z => by rw [h] at z; cases z)) (fun a o u h => e.keep a _ h (S.nomem fun ys z => by rw [h] at z; cases z)) e.pre d v r
theorem Reps.mono (S : Sim K μ H s) (e : Ext μ H μ' H') {v : List V} {d : List D} (r : Reps K H μ v d) : Reps K H' μ' v d :=
  Reps.keep (fun a xs h => e.keep a _ h (S.nomem fun ys z => by rw [h] at z; cases z)) (fun a o u h => e.keep a _ h (S.nomem fun ys z => by rw [h] at z; cases z)) e.pre d v r
theorem EnvR.mono (S : Sim K μ H s) (e : Ext μ H μ' H') (r : EnvR K H μ σ env) : EnvR K H' μ' σ env :=
  ⟨r.1, fun i d h => let ⟨v, h1, h2⟩ := r.2 i d h; ⟨v, h1, h2.mono S e⟩⟩
theorem Reps.length : ∀ {ds : List D} {vs : List V}, Reps K H μ vs ds → vs.length = ds.length
  | [], _, h => by cases h; rfl
  | d :: ds, _, h => by
    cases h with
    | cons r q => rw [List.length_cons, List.length_cons, q.length]
theorem Reps.get : ∀ {ds : List D} {vs : List V} {i : Nat} {d : D}, Reps K H μ vs ds → ds[i]? = some d → ∃ v, vs[i]? = some v ∧ Rep K H μ v d
  | [], _, _, _, _, h => by simp at h
  | d :: ds, _, 0, _, r, h => by
    cases r with
    | cons r q => simp at h; subst h; exact ⟨_, rfl, r⟩
  | d :: ds, _, i + 1, e, r, h => by
    cases r with
    | cons r q =>
      obtain ⟨v, h1, h2⟩ := Reps.get (i := i) q (by simpa using h)
      exact ⟨v, by simpa using h1, h2⟩
theorem Reps.none_of {ds : List D} {vs : List V} {i : Nat} (r : Reps K H μ vs ds) (h : ds[i]? = none) : vs[i]? = none := by
  rw [List.getElem?_eq_none_iff] at h ⊢
  rw [r.length]; exact h
theorem Reps.append : ∀ {ds es : List D} {vs ws : List V}, Reps K H μ vs ds → Reps K H μ ws es → Reps K H μ (vs ++ ws) (ds ++ es)
  | [], _, _, _, h, q => by cases h; exact q
  | d :: ds, _, _, _, h, q => by
    cases h with
    | cons r t => exact .cons r (t.append q)
theorem Reps.take : ∀ {ds : List D} {vs : List V} (n : Nat), Reps K H μ vs ds → Reps K H μ (vs.take n) (ds.take n)
  | _, _, 0, _ => .nil
  | [], _, n + 1, h => by cases h; exact .nil
  | d :: ds, _, n + 1, h => by
    cases h with
    | cons r t => exact .cons r (t.take n)
theorem Reps.drop : ∀ {ds : List D} {vs : List V} (n : Nat), Reps K H μ vs ds → Reps K H μ (vs.drop n) (ds.drop n)
  | _, _, 0, h => h
  | [], _, n + 1, h => by cases h; exact .nil
  | d :: ds, _, n + 1, h => by
    cases h with
    | cons r t => exact t.drop n
theorem Reps.set {v : V} {d : D} (r : Rep K H μ v d) : ∀ {ds : List D} {vs : List V} (i : Nat), Reps K H μ vs ds → Reps K H μ (vs.set i v) (ds.set i d)
  | [], _, _, h => by cases h; exact .nil
  | _ :: _, _, 0, h => by
    cases h with
    | cons _ t => exact .cons r t
  | _ :: _, _, i + 1, h => by
    cases h with
    | cons q t => exact .cons q (Reps.set r i t)
theorem Reps.dropLast {ds : List D} {vs : List V} (h : Reps K H μ vs ds) : Reps K H μ vs.dropLast ds.dropLast := by
  rw [List.dropLast_eq_take, List.dropLast_eq_take, h.length]
  exact h.take _
theorem Reps.eraseIdx : ∀ {ds : List D} {vs : List V} (i : Nat), Reps K H μ vs ds → Reps K H μ (vs.eraseIdx i) (ds.eraseIdx i)
  | [], _, _, h => by cases h; exact .nil
  | _ :: _, _, 0, h => by
    cases h with
    | cons _ t => exact t
  | _ :: _, _, i + 1, h => by
    cases h with
    | cons q t => exact .cons q (t.eraseIdx i)
theorem Reps.rep {ds : List D} {vs : List V} (h : Reps K H μ vs ds) : ∀ k : Nat, Reps K H μ (List.replicate k vs).flatten (List.replicate k ds).flatten
  | 0 => .nil
  | k + 1 => by
    rw [List.replicate_succ, List.replicate_succ, List.flatten_cons, List.flatten_cons]
    exact h.append (h.rep k)
theorem Reps.isEmpty {ds : List D} {vs : List V} (h : Reps K H μ vs ds) : vs.isEmpty = ds.isEmpty := by
  cases h <;> rfl
theorem Reps.cut {ds : List D} {vs : List V} (h : Reps K H μ vs ds) (lo hi : Option Int) : Reps K H μ (cutV vs lo hi) (cutD ds lo hi) := by
  unfold cutV cutD
  rw [h.length]
  exact (h.drop _).take _
/-- a new tuple -/
theorem rep_tup {p : Addr} {xs : List V} {ds : List D} (S : Sim K μ H s) (hp : H p = none) (r : Reps K H μ xs ds) : Ext μ H μ (upd H p (.tup xs)) ∧ Sim K μ (upd H p (.tup xs)) s ∧ Rep K (upd H p (.tup xs)) μ (.ref p) (.tup ds) := by
  have sm : Same H (upd H p (.tup xs)) := fun b x e => by
    rw [upd_ne (ne_of_none e hp)]; exact e
  have ex : Ext μ H μ (upd H p (.tup xs)) := .same sm
  refine ⟨ex, ⟨S.nx, S.nd, fun i a h => ?_, S.up⟩, .tup (.of upd_same) (r.mono S ex)⟩
  obtain ⟨o, e, q⟩ := S.ob i a h
  refine ⟨o, e, ?_⟩
  cases o with
  | lst ds => obtain ⟨ys, e1, r1⟩ := q; exact ⟨ys, sm _ _ e1, r1.mono S ex⟩
  | dct kvs => exact q.elim
theorem Sim.same (S : Sim K μ H s) (sm : Same H H') : Sim K μ H' s := by
  have ex : Ext μ H μ H' := .same sm
  refine ⟨S.nx, S.nd, fun i a h => ?_, S.up⟩
  obtain ⟨o, e, q⟩ := S.ob i a h
  refine ⟨o, e, ?_⟩
  cases o with
  | lst ds => obtain ⟨ys, e1, r1⟩ := q; exact ⟨ys, sm _ _ e1, r1.mono S ex⟩
  | dct kvs => exact q.elim
/-- a new list -/
theorem rep_lst {p : Addr} {xs : List V} {ds : List D} (S : Sim K μ H s) (hp : H p = none) (r : Reps K H μ xs ds) :
    Ext μ H (μ ++ [p]) (upd H p (.lst xs)) ∧ Sim K (μ ++ [p]) (upd H p (.lst xs)) (s.add (.lst ds)) ∧ Rep K (upd H p (.lst xs)) (μ ++ [p]) (.ref p) (.ref s.n) := by
  have sm : Same H (upd H p (.lst xs)) := fun b x e => by
    rw [upd_ne (ne_of_none e hp)]; exact e
  have np : p ∉ μ := S.nomem fun ys z => by rw [hp] at z; cases z
  have pre : ∀ (i : Nat) (a : Addr), μ[i]? = some a → (μ ++ [p])[i]? = some a := fun i a h => by
    rw [List.getElem?_append_left]
    · exact h
    · exact (List.getElem?_eq_some_iff.mp h).1
  have ex : Ext μ H (μ ++ [p]) (upd H p (.lst xs)) := ⟨pre, fun a o h _ => sm a o h, fun a h n => by
    rcases List.mem_append.mp h with h | h
    · exact absurd h n
    · rw [List.mem_singleton.mp h]; exact hp⟩
  refine ⟨ex, ⟨?_, ?_, fun i a h => ?_, fun i hi => ?_⟩, .ref ?_⟩
  · rw [List.length_append, S.nx]; rfl
  · rw [List.nodup_append]
    exact ⟨S.nd, by simp, fun a ha b hb e => np (by rw [List.mem_singleton.mp hb] at e; rw [← e]; exact ha)⟩
  · rw [Sto.get_add]
    by_cases hi : i = s.n
    · rw [if_pos hi]
      rw [hi, ← S.nx, List.getElem?_append_right (Nat.le_refl _), Nat.sub_self] at h
      have e : p = a := by simpa using h
      subst e
      exact ⟨_, rfl, xs, upd_same, r.mono S ex⟩
    · rw [if_neg hi]
      have hl : i < μ.length := by
        have := (List.getElem?_eq_some_iff.mp h).1
        rw [List.length_append, S.nx] at this
        have e1 : ([p] : List Addr).length = 1 := rfl
        rw [S.nx]; omega
      rw [List.getElem?_append_left hl] at h
      obtain ⟨o, e, q⟩ := S.ob i a h
      refine ⟨o, e, ?_⟩
      cases o with
      | lst ds => obtain ⟨ys, e1, r1⟩ := q; exact ⟨ys, sm _ _ e1, r1.mono S ex⟩
      | dct kvs => exact q.elim
  · rw [Sto.get_add, if_neg (by rw [Sto.n_add] at hi; omega)]
    exact S.up i (by rw [Sto.n_add] at hi; omega)
  · rw [← S.nx, List.getElem?_append_right (Nat.le_refl _), Nat.sub_self]; rfl
/-- a list changed -/
theorem rep_set {i : Nat} {a : Addr} {xs : List V} {ds : List D} {o : O} (S : Sim K μ H s) (ha : μ[i]? = some a) (r : Reps K H μ xs ds) :
    Ext μ H μ (upd H a (.lst xs)) ∧ Sim K μ (upd H a (.lst xs)) (s.set i (.lst ds)) := by
  have ex : Ext μ H μ (upd H a (.lst xs)) := ⟨fun _ _ h => h, fun b o h n => by
    rw [upd_ne (fun z => n (by rw [z]; exact List.mem_of_getElem? ha))]; exact h, fun _ h n => absurd h n⟩
  refine ⟨ex, S.nx, S.nd, fun j b h => ?_, fun j hj => ?_⟩
  · rw [Sto.get_set]
    by_cases hj : j = i
    · rw [if_pos hj]
      rw [hj, ha] at h
      have e : a = b := Option.some.inj h
      subst e
      exact ⟨_, rfl, xs, upd_same, r.mono S ex⟩
    · rw [if_neg hj]
      obtain ⟨o, e, q⟩ := S.ob j b h
      refine ⟨o, e, ?_⟩
      have nb : b ≠ a := fun z => by
        subst z
        exact hj ((List.getElem?_inj (List.getElem?_eq_some_iff.mp h).1 S.nd).mp (h.trans ha.symm))
      cases o with
      | lst ds => obtain ⟨ys, e1, r1⟩ := q; exact ⟨ys, by rw [upd_ne nb]; exact e1, r1.mono S ex⟩
      | dct kvs => exact q.elim
  · rw [Sto.get_set, if_neg ?_]
    · exact S.up j hj
    · have := (List.getElem?_eq_some_iff.mp ha).1
      rw [S.nx] at this
      rw [Sto.n_set] at hj
      omega
end
end Cs

/-! ## CsSim2 -/
namespace Cs
open PySem PySem.Spec PyProof.Rows L2

/-! ### judgements -/
structure Gb where
  P : Program
  w : World
  K : PySem.W.Frag
  mg : Str → Option Value
  base : Heap
structure Cc where
  N : List Str
  sc : Scope
  fn : Str → Bool
  lv : Nat
structure Cc.Ok (g : Gb) (c : Cc) (X : Cx) : Prop where
  prog : X.prog = g.P
  w : X.w = g.w
  K : X.K = g.K
  mg : X.mg = g.mg
  base : X.base = g.base
  N : X.N = c.N
  sc : X.env.scope = c.sc
  nd : c.N.Nodup
  fn : ∀ x, c.fn x = true → X.fn x = true
  calm : X.calm = true
  xe : X.xe = fun _ _ => False
  room : Room c.lv X.A
def RdE (K : PySem.W.Frag) (m : EvE) : TE := fun σ H Q => ∃ μ s env d s', Sim K μ H s ∧ EnvR K H μ σ env ∧ m env s = .ok d s' ∧
  ∀ v H' μ', Ext μ H μ' H' → Sim K μ' H' s' → Rep K H' μ' v d → Q v H'
def RdT (K : PySem.W.Frag) (m : EvT) : TT := fun σ H Q => ∃ μ s env b s', Sim K μ H s ∧ EnvR K H μ σ env ∧ m env s = .ok b s' ∧
  ∀ H' μ', Ext μ H μ' H' → Sim K μ' H' s' → Q b H'
def RdA (K : PySem.W.Frag) (m : EvA) : TA := fun σ H Q => ∃ μ s env ds s', Sim K μ H s ∧ EnvR K H μ σ env ∧ m env s = .ok ds s' ∧
  ∀ vs H' μ', Ext μ H μ' H' → Sim K μ' H' s' → Reps K H' μ' vs ds → Q vs H'
def RdO (K : PySem.W.Frag) (m : EvO) : TO := fun σ H Q => ∃ μ s env d s', Sim K μ H s ∧ EnvR K H μ σ env ∧ m env s = .ok d s' ∧
  ∀ H' μ', Ext μ H μ' H' → Sim K μ' H' s' → Q d H'
/-- two values in, one out -/
def R2D (K : PySem.W.Frag) (f : D → D → Sto → R D) : R2 := fun x y H Q => ∃ μ s dx dy d s', Sim K μ H s ∧ Rep K H μ x dx ∧ Rep K H μ y dy ∧ f dx dy s = .ok d s' ∧
  ∀ v H' μ', Ext μ H μ' H' → Sim K μ' H' s' → Rep K H' μ' v d → Q v H'
def R1D (K : PySem.W.Frag) (f : D → Sto → R D) : V → Hp → VK → Prop := fun x H Q => ∃ μ s dx d s', Sim K μ H s ∧ Rep K H μ x dx ∧ f dx s = .ok d s' ∧
  ∀ v H' μ', Ext μ H μ' H' → Sim K μ' H' s' → Rep K H' μ' v d → Q v H'
def RnD (K : PySem.W.Frag) (f : List D → Sto → R D) : List V → Hp → VK → Prop := fun xs H Q => ∃ μ s ds d s', Sim K μ H s ∧ Reps K H μ xs ds ∧ f ds s = .ok d s' ∧
  ∀ v H' μ', Ext μ H μ' H' → Sim K μ' H' s' → Rep K H' μ' v d → Q v H'
def RmD (K : PySem.W.Frag) (f : D → List D → Sto → R D) : V → List V → Hp → VK → Prop := fun x xs H Q => ∃ μ s dx ds d s', Sim K μ H s ∧ Rep K H μ x dx ∧ Reps K H μ xs ds ∧ f dx ds s = .ok d s' ∧
  ∀ v H' μ', Ext μ H μ' H' → Sim K μ' H' s' → Rep K H' μ' v d → Q v H'

variable (g : Gb) (c : Cc)
def JE (m : Sem) (e : Expr) : Prop := ∀ X : Cx, c.Ok g X → PE X e (RdE g.K m.v) ∧ PT X e (RdT g.K m.t)
def JA (m : EvA) (es : List Expr) : Prop := ∀ X : Cx, c.Ok g X → PA X es (RdA g.K m)
def JO (m : EvO) (e : Option Expr) : Prop := ∀ X : Cx, c.Ok g X → PO X e (RdO g.K m)
variable {g c}

theorem bind_ok {α β : Type} {r : R α} {f : α → Sto → R β} {b : β} {s' : Sto} (h : r.bind f = .ok b s') : ∃ a s, r = .ok a s ∧ f a s = .ok b s' := by
  cases r with
  | ok a s => exact ⟨a, s, rfl, h⟩
  | no => cases h

theorem PE.imp {X : Cx} {e : Expr} {t t' : TE} (h : PE X e t) (f : ∀ σ H Q, t' σ H Q → t σ H Q) : PE X e t' := ⟨fun pins s σ H Q I q => h.run pins s σ H Q I (f σ H Q q)⟩
theorem PT.imp {X : Cx} {e : Expr} {t t' : TT} (h : PT X e t) (f : ∀ σ H Q, t' σ H Q → t σ H Q) : PT X e t' := ⟨fun pins s σ H Q I q => h.run pins s σ H Q I (f σ H Q q)⟩
theorem PW.imp {X : Cx} {e : Expr} {t t' : TT} (h : PW X e t) (f : ∀ σ H Q, t' σ H Q → t σ H Q) : PW X e t' := ⟨fun wh pins s σ H Q I q => h.run wh pins s σ H Q I (f σ H Q q)⟩
theorem PA.imp {X : Cx} {e : List Expr} {t t' : TA} (h : PA X e t) (f : ∀ σ H Q, t' σ H Q → t σ H Q) : PA X e t' := ⟨fun p pins s σ H Q I q => h.run p pins s σ H Q I (f σ H Q q)⟩
theorem PO.imp {X : Cx} {e : Option Expr} {t t' : TO} (h : PO X e t) (f : ∀ σ H Q, t' σ H Q → t σ H Q) : PO X e t' := ⟨fun pins s σ H Q I q => h.run pins s σ H Q I (f σ H Q q)⟩
theorem OpR.imp {X : Cx} {f : Value → Value → PySem.Sem Value} {r r' : R2} (h : OpR X f r) (i : ∀ x y H Q, r' x y H Q → r x y H Q) : OpR X f r' := fun pins s σ H x y v u Q I rx ry q => h pins s σ H x y v u Q I rx ry (i x y H Q q)
theorem UnR.imp {X : Cx} {f : Value → PySem.Sem Value} {r r' : V → Hp → VK → Prop} (h : UnR X f r) (i : ∀ x H Q, r' x H Q → r x H Q) : UnR X f r' := fun pins s σ H x v Q I rx q => h pins s σ H x v Q I rx (i x H Q q)
theorem CallR.imp {X : Cx} {f : Value} {r r' : List V → Hp → VK → Prop} (h : CallR X f r) (i : ∀ x H Q, r' x H Q → r x H Q) : CallR X f r' := fun pins s σ H x v Q I rx q => h pins s σ H x v Q I rx (i x H Q q)

section
variable {K : PySem.W.Frag} {μ : List Addr} {H : Hp} {s s' : Sto} {v : V} {d : D}
theorem truth_tru {b : Bool} (S : Sim K μ H s) (r : Rep K H μ v d) (h : truth d s = .ok b s') : s' = s ∧ TruV K v H b := by
  cases r with
  | non => cases h; exact ⟨rfl, rfl⟩
  | bl b => cases h; exact ⟨rfl, rfl⟩
  | int i => cases h; exact ⟨rfl, rfl⟩
  | str x =>
    unfold truth at h
    dsimp only at h
    split at h
    · rename_i hl
      cases h
      refine ⟨rfl, hl, ?_⟩
      by_cases z : x.length = 0
      · rw [z]; rfl
      · have z' : ¬ ((x.length : Int) = 0) := by omega
        show (!(x.length == 0)) = !((x.length : Int) == 0)
        rw [beq_eq_false_iff_ne.mpr z, beq_eq_false_iff_ne.mpr z']
    · cases h
  | tup q r => cases h; exact ⟨rfl, .inr (.inl ⟨_, q, by rw [r.isEmpty]⟩)⟩
  | fix q r => cases h; exact ⟨rfl, .inl ⟨_, q.sq, by rw [r.isEmpty]⟩⟩
  | @ref i a q =>
    obtain ⟨o, e, ro⟩ := S.ob i a q
    unfold truth at h
    dsimp only at h
    rw [e] at h
    cases o with
    | lst ds =>
      cases h
      obtain ⟨xs, e1, r1⟩ := ro
      exact ⟨rfl, .inl ⟨xs, .of e1, by rw [r1.isEmpty]⟩⟩
    | dct kvs => exact ro.elim
end

section
variable {X : Cx} {e a b : Expr} {pos : Pos}
/-- an expression's test is its value's truth -/
theorem pt_mk {K : PySem.W.Frag} (hK : X.K = K) {v : EvE} (h : PE X e (RdE K v)) (he : ∀ whole, isTrue e X.env whole = (do let v ← whole; standAt e.pos; holding [v] (truthy v))) : PT X e (RdT K (mk v).t) := by
  refine PT.imp (pt_truth h he) fun σ H Q q => ?_
  obtain ⟨μ, s, env, b, s', S, E, hv, q⟩ := q
  obtain ⟨d, s1, h1, h2⟩ := bind_ok hv
  refine ⟨μ, s, env, d, s1, S, E, h1, fun v H' μ' ex S' r => ?_⟩
  obtain ⟨rfl, t⟩ := truth_tru S' r h2
  exact ⟨b, by rw [hK]; exact t, q H' μ' ex S'⟩
/-- .. of a comparison -/
theorem pt_mkB {K : PySem.W.Frag} {v : EvE} (hb : ∀ env s d s', v env s = .ok d s' → ∃ b, d = .bl b) (h : PT X e (fun σ H Q => RdE K v σ H fun x H' => ∃ k, x = .bl k ∧ Q k H')) : PT X e (RdT K (mk v).t) := by
  refine PT.imp h fun σ H Q q => ?_
  obtain ⟨μ, s, env, b, s', S, E, hv, q⟩ := q
  obtain ⟨d, s1, h1, h2⟩ := bind_ok hv
  obtain ⟨k, rfl⟩ := hb _ _ _ _ h1
  obtain ⟨rfl, rfl⟩ : k = b ∧ s1 = s' := by
    have e2 : R.ok k s1 = .ok b s' := h2
    injection e2 with e3 e4
    exact ⟨e3, e4⟩
  refine ⟨μ, s, env, .bl k, s1, S, E, h1, fun v H' μ' ex S' r => ?_⟩
  cases r
  exact ⟨k, rfl, q H' μ' ex S'⟩
end

section
variable {m ma mb mc : Sem} {e a b d : Expr} {pos : Pos}
theorem je_mk {v : EvE} (h : ∀ X : Cx, c.Ok g X → PE X e (RdE g.K v)) (he : ∀ env whole, isTrue e env whole = (do let v ← whole; standAt e.pos; holding [v] (truthy v))) : JE g c (mk v) e := fun X ok =>
  ⟨h X ok, pt_mk ok.K (h X ok) (he X.env)⟩
theorem rdE_const {K : PySem.W.Frag} {v : V} {d : D} (r : ∀ H μ, Rep K H μ v d) {σ : L2.St} {H : Hp} {Q : VK} (h : RdE K (fun _ s => .ok d s) σ H Q) : Q v H := by
  obtain ⟨μ, s, env, d', s', S, E, hv, q⟩ := h
  cases hv
  exact q v H μ .refl S (r H μ)
theorem je_int {i j pos} : JE g c (xC (.int i)) (.Constant (.int i) j pos) := je_mk (fun X ok => PE.imp pe_int fun σ H Q h => rdE_const (fun _ _ => .int i) h) (by intro _ _; rfl)
theorem je_bl {i j pos} : JE g c (xC (.bl i)) (.Constant (.bool i) j pos) := je_mk (fun X ok => PE.imp pe_bl fun σ H Q h => rdE_const (fun _ _ => .bl i) h) (by intro _ _; rfl)
theorem je_str {i j pos} : JE g c (xC (.str i)) (.Constant (.str i) j pos) := je_mk (fun X ok => PE.imp pe_str fun σ H Q h => rdE_const (fun _ _ => .str i) h) (by intro _ _; rfl)
theorem je_non {j pos} : JE g c (xC .non) (.Constant .none j pos) := je_mk (fun X ok => PE.imp pe_non fun σ H Q h => rdE_const (fun _ _ => .non) h) (by intro _ _; rfl)
/-- a module's constant: an int, a text -/
theorem je_glob {x : Str} {v : V} {u : Value} {k : D} (hs : c.sc.names.lookup x = some .globalImplicit) (hm : g.mg x = some u) (r : RelV v u) (rk : ∀ H μ, Rep g.K H μ v k) (hd : (x == ("__debug__" : Str)) = false := by decide) : JE g c (xC k) (.Name x pos) :=
  je_mk (fun X ok => PE.imp (pe_glob (by show X.env.scope.names.lookup x = _; rw [ok.sc]; exact hs) (by rw [ok.mg]; exact hm) r hd) fun σ H Q h => rdE_const rk h) (by intro _ _; rfl)
/-- a name of the def -/
def Cc.vis (c : Cc) (x : Str) : Prop := c.sc.names.lookup x = some .local ∨ c.sc.names.lookup x = some .cell ∨ c.sc.names.lookup x = some .free
theorem je_var {x : Str} (i : Nat) (hN : c.N[i]? = some x := by rfl) (hv : c.vis x := by first | exact Or.inl rfl | exact Or.inr (Or.inl rfl) | exact Or.inr (Or.inr rfl)) (hd : (x == ("__debug__" : Str)) = false := by decide)
    (hcd : (x == ("__classdict__" : Str)) = false := by decide) : JE g c (xVar i) (.Name x pos) := by
  refine je_mk (fun X ok => PE.imp (pe_var (i := i) (by rw [ok.N]; exact hN) (by unfold Vis; rw [ok.sc]; exact hv) hd hcd) fun σ H Q h => ?_) (by intro _ _; rfl)
  obtain ⟨μ, s, env, d', s', S, E, hv, q⟩ := h
  dsimp only at hv
  split at hv
  · rename_i d'' he
    cases hv
    obtain ⟨v, h1, h2⟩ := E.2 i _ he
    exact ⟨v, h1, q v H μ .refl S h2⟩
  · cases hv
/-- two in a row -/
theorem rd_two {K : PySem.W.Frag} {ma mb : EvE} {f : D → D → Sto → R D} {σ : L2.St} {H : Hp} {Q : VK} (h : RdE K (fun env s => (ma env s).bind fun x s => (mb env s).bind fun y s => f x y s) σ H Q) :
    tOp (R2D K f) (RdE K ma) (RdE K mb) σ H Q := by
  obtain ⟨μ, s, env, d, s', S, E, hv, q⟩ := h
  obtain ⟨d1, s1, h1, hv⟩ := bind_ok hv
  obtain ⟨d2, s2, h2, hv⟩ := bind_ok hv
  refine ⟨μ, s, env, d1, s1, S, E, h1, fun v1 H1 μ1 x1 S1 r1 => ?_⟩
  refine ⟨μ1, s1, env, d2, s2, S1, E.mono S x1, h2, fun v2 H2 μ2 x2 S2 r2 => ?_⟩
  exact ⟨μ2, s2, d1, d2, d, s', S2, r1.mono S1 x2, r2, hv, fun v H' μ' x3 S3 r3 => q v H' μ' (x1.trans (x2.trans x3)) S3 r3⟩
theorem je_bin {op : Operator} {f : D → D → Sto → R D} (ho : ∀ X : Cx, c.Ok g X → OpR X (binaryOp op) (R2D g.K f)) (ha : JE g c ma a) (hb : JE g c mb b) : JE g c (xBin f ma mb) (.BinOp a op b pos) :=
  je_mk (fun X ok => PE.imp (pe_op (ho X ok) (ha X ok).1 (hb X ok).1) fun σ H Q h => rd_two h) (by intro _ _; rfl)
theorem je_un {op : UnaryOp} {f : D → Sto → R D} (ho : ∀ X : Cx, c.Ok g X → UnR X (unaryOp op) (R1D g.K f)) (ha : JE g c ma a) (he : ∀ env whole, isTrue (.UnaryOp op a pos) env whole = (do let v ← whole; standAt pos; holding [v] (truthy v)) := by intro _ _; rfl) : JE g c (xUn f ma) (.UnaryOp op a pos) := by
  refine je_mk (fun X ok => PE.imp (pe_un (ho X ok) (ha X ok).1) fun σ H Q h => ?_) he
  obtain ⟨μ, s, env, d, s', S, E, hv, q⟩ := h
  obtain ⟨d1, s1, h1, hv⟩ := bind_ok hv
  exact ⟨μ, s, env, d1, s1, S, E, h1, fun v1 H1 μ1 x1 S1 r1 => ⟨μ1, s1, d1, d, s', S1, r1, hv, fun v H' μ' x3 S3 r3 => q v H' μ' (x1.trans x3) S3 r3⟩⟩
theorem je_cmp {op : CmpOp} {f : D → D → Sto → R D} (ho : ∀ X : Cx, c.Ok g X → OpR X (compareOp op) (R2D g.K f)) (hf : ∀ x y s d s', f x y s = .ok d s' → ∃ b, d = .bl b) (ha : JE g c ma a) (hb : JE g c mb b) (hm : behindInMarks op b = false := by first | exact nomark _ | rfl) :
    JE g c (xBin f ma mb) (.Compare a [op] [b] pos) := fun X ok =>
  ⟨PE.imp (pe_cmpR (ho X ok) (ha X ok).1 (hb X ok).1 hm) fun σ H Q h => rd_two h,
   pt_mkB (fun env s d s' h => by
      obtain ⟨d1, s1, _, h⟩ := bind_ok h
      obtain ⟨d2, s2, _, h⟩ := bind_ok h
      exact hf _ _ _ _ _ h) (PT.imp (pt_cmpR (ho X ok) (ha X ok).1 (hb X ok).1 hm) fun σ H Q h => rd_two h)⟩
theorem rd_chain {K : PySem.W.Frag} {ma mb mc : EvE} {f f' : D → D → Sto → R D} (hf : ∀ x y s d s', f x y s = .ok d s' → ∃ b, d = .bl b) {σ : L2.St} {H : Hp} {Q : VK}
    (h : RdE K (fun env s => (ma env s).bind fun x s => (mb env s).bind fun y s => (f x y s).bind fun z s => match z with
      | .bl true => (mc env s).bind fun w s => f' y w s
      | .bl false => .ok (.bl false) s
      | _ => .no) σ H Q) : tChain (R2D K f) (R2D K f') (RdE K ma) (RdE K mb) (RdE K mc) σ H Q := by
  obtain ⟨μ, s, env, d, s', S, E, hv, q⟩ := h
  obtain ⟨d1, s1, h1, hv⟩ := bind_ok hv
  obtain ⟨d2, s2, h2, hv⟩ := bind_ok hv
  obtain ⟨d3, s3, h3, hv⟩ := bind_ok hv
  refine ⟨μ, s, env, d1, s1, S, E, h1, fun v1 H1 μ1 x1 S1 r1 => ?_⟩
  refine ⟨μ1, s1, env, d2, s2, S1, E.mono S x1, h2, fun v2 H2 μ2 x2 S2 r2 => ?_⟩
  refine ⟨μ2, s2, d1, d2, d3, s3, S2, r1.mono S1 x2, r2, h3, fun v3 H3 μ3 x3 S3 r3 => ?_⟩
  obtain ⟨k, rfl⟩ := hf _ _ _ _ _ h3
  cases r3
  refine ⟨k, rfl, ?_⟩
  cases k with
  | true =>
    obtain ⟨d4, s4, h4, hv⟩ := bind_ok hv
    refine iteT ⟨μ3, s3, env, d4, s4, S3, (E.mono S x1).mono S1 (x2.trans x3), h4, fun v4 H4 μ4 x4 S4 r4 => ?_⟩
    exact ⟨μ4, s4, d2, d4, d, s', S4, r2.mono S2 (x3.trans x4), r4, hv, fun v H' μ' x5 S5 r5 => q v H' μ' (x1.trans (x2.trans (x3.trans (x4.trans x5)))) S5 r5⟩
  | false =>
    cases hv
    exact iteF (q _ H3 μ3 (x1.trans (x2.trans x3)) S3 (.bl false))
theorem je_chain {op op' : CmpOp} {f f' : D → D → Sto → R D} (ho : ∀ X : Cx, c.Ok g X → OpR X (compareOp op) (R2D g.K f)) (ho' : ∀ X : Cx, c.Ok g X → OpR X (compareOp op') (R2D g.K f'))
    (hf : ∀ x y s d s', f x y s = .ok d s' → ∃ b, d = .bl b) (hf' : ∀ x y s d s', f' x y s = .ok d s' → ∃ b, d = .bl b) (ha : JE g c ma a) (hb : JE g c mb b) (hc : JE g c mc d)
    (hm : lastMarks [op, op'] [b, d] = false := by with_unfolding_all rfl) : JE g c (xChain f f' ma mb mc) (.Compare a [op, op'] [b, d] pos) := fun X ok =>
  ⟨PE.imp (pe_chain (ho X ok) (ho' X ok) (ha X ok).1 (hb X ok).1 (hc X ok).1 hm) fun σ H Q h => rd_chain hf h,
   pt_mkB (fun env s d s' h => by
      obtain ⟨d1, s1, _, h⟩ := bind_ok h
      obtain ⟨d2, s2, _, h⟩ := bind_ok h
      obtain ⟨d3, s3, h3, h⟩ := bind_ok h
      obtain ⟨k, rfl⟩ := hf _ _ _ _ _ h3
      cases k with
      | true =>
        obtain ⟨d4, s4, _, h⟩ := bind_ok h
        exact hf' _ _ _ _ _ h
      | false => cases h; exact ⟨_, rfl⟩) (PT.imp (pt_chain (ho X ok) (ho' X ok) (ha X ok).1 (hb X ok).1 (hc X ok).1 hm) fun σ H Q h => rd_chain hf h)⟩
/-! ### and, or, not, if -/
theorem rdT_not {K : PySem.W.Frag} {ma : EvT} {σ : L2.St} {H : Hp} {Q : Bool → Hp → Prop} (h : RdT K (fun env s => (ma env s).bind fun b s => .ok (!b) s) σ H Q) : tNot (RdT K ma) σ H Q := by
  obtain ⟨μ, s, env, d, s', S, E, hv, q⟩ := h
  obtain ⟨d1, s1, h1, hv⟩ := bind_ok hv
  cases hv
  exact ⟨μ, s, env, d1, s', S, E, h1, fun H1 μ1 x1 S1 => q H1 μ1 x1 S1⟩
theorem je_not (ha : JE g c ma a) : JE g c (xNot ma) (.UnaryOp .Not a pos) := fun X ok => by
  refine ⟨PE.imp (pe_notT (ha X ok).1) fun σ H Q h => ?_, PT.imp (pt_not (ha X ok).2) fun σ H Q h => rdT_not h⟩
  obtain ⟨μ, s, env, d, s', S, E, hv, q⟩ := h
  obtain ⟨d1, s1, h1, hv⟩ := bind_ok hv
  obtain ⟨k, s2, h2, hv⟩ := bind_ok hv
  cases hv
  refine ⟨μ, s, env, d1, s1, S, E, h1, fun v H1 μ1 x1 S1 r1 => ?_⟩
  obtain ⟨rfl, t⟩ := truth_tru S1 r1 h2
  exact ⟨k, by rw [ok.K]; exact t, q _ H1 μ1 x1 S1 (.bl _)⟩
/-- a chain of and | or: all its parts -/
def JW (g : Gb) (c : Cc) (op : BoolOp) (m : Sem) (es : List Expr) : Prop := ∀ (pos : Pos) (X : Cx), c.Ok g X → PE X (.BoolOp op es pos) (RdE g.K m.v) ∧ PW X (.BoolOp op es pos) (RdT g.K m.t)
theorem je_bool {op : BoolOp} {es : List Expr} (h : JW g c op m es) : JE g c m (.BoolOp op es pos) := fun X ok => ⟨(h pos X ok).1, (h pos X ok).2.pt⟩
theorem jw_and1 (ha : JE g c ma a) : JW g c .And ma [a] := fun pos X ok => ⟨pe_one (ha X ok).1, pw_and1 (ha X ok).2⟩
theorem jw_or1 (ha : JE g c ma a) : JW g c .Or ma [a] := fun pos X ok => ⟨pe_one (ha X ok).1, pw_or1 (ha X ok).2⟩
theorem jw_and {es : List Expr} (ha : JE g c ma a) (hb : JW g c .And mb (b :: es)) : JW g c .And (xAnd ma mb) (a :: b :: es) := fun pos X ok => by
  refine ⟨PE.imp (pe_andT (ha X ok).1 (hb pos X ok).1) fun σ H Q h => ?_, PW.imp (pw_and (ha X ok).2 (hb pos X ok).2) fun σ H Q h => ?_⟩
  · obtain ⟨μ, s, env, d, s', S, E, hv, q⟩ := h
    obtain ⟨d1, s1, h1, hv⟩ := bind_ok hv
    obtain ⟨k, s2, h2, hv⟩ := bind_ok hv
    refine ⟨μ, s, env, d1, s1, S, E, h1, fun v H1 μ1 x1 S1 r1 => ?_⟩
    obtain ⟨rfl, t⟩ := truth_tru S1 r1 h2
    refine ⟨k, by rw [ok.K]; exact t, ?_⟩
    cases k with
    | true => exact iteT ⟨μ1, s2, env, d, s', S1, E.mono S x1, hv, fun v H2 μ2 x2 S2 r2 => q v H2 μ2 (x1.trans x2) S2 r2⟩
    | false => cases hv; exact iteF (q v H1 μ1 x1 S1 r1)
  · obtain ⟨μ, s, env, d, s', S, E, hv, q⟩ := h
    obtain ⟨k, s1, h1, hv⟩ := bind_ok hv
    refine ⟨μ, s, env, k, s1, S, E, h1, fun H1 μ1 x1 S1 => ?_⟩
    cases k with
    | true => exact iteT ⟨μ1, s1, env, d, s', S1, E.mono S x1, hv, fun H2 μ2 x2 S2 => q H2 μ2 (x1.trans x2) S2⟩
    | false => cases hv; exact iteF (q H1 μ1 x1 S1)
theorem jw_or {es : List Expr} (ha : JE g c ma a) (hb : JW g c .Or mb (b :: es)) : JW g c .Or (xOr ma mb) (a :: b :: es) := fun pos X ok => by
  refine ⟨PE.imp (pe_orT (ha X ok).1 (hb pos X ok).1) fun σ H Q h => ?_, PW.imp (pw_or (ha X ok).2 (hb pos X ok).2) fun σ H Q h => ?_⟩
  · obtain ⟨μ, s, env, d, s', S, E, hv, q⟩ := h
    obtain ⟨d1, s1, h1, hv⟩ := bind_ok hv
    obtain ⟨k, s2, h2, hv⟩ := bind_ok hv
    refine ⟨μ, s, env, d1, s1, S, E, h1, fun v H1 μ1 x1 S1 r1 => ?_⟩
    obtain ⟨rfl, t⟩ := truth_tru S1 r1 h2
    refine ⟨k, by rw [ok.K]; exact t, ?_⟩
    cases k with
    | false => exact iteF ⟨μ1, s2, env, d, s', S1, E.mono S x1, hv, fun v H2 μ2 x2 S2 r2 => q v H2 μ2 (x1.trans x2) S2 r2⟩
    | true => cases hv; exact iteT (q v H1 μ1 x1 S1 r1)
  · obtain ⟨μ, s, env, d, s', S, E, hv, q⟩ := h
    obtain ⟨k, s1, h1, hv⟩ := bind_ok hv
    refine ⟨μ, s, env, k, s1, S, E, h1, fun H1 μ1 x1 S1 => ?_⟩
    cases k with
    | false => exact iteF ⟨μ1, s1, env, d, s', S1, E.mono S x1, hv, fun H2 μ2 x2 S2 => q H2 μ2 (x1.trans x2) S2⟩
    | true => cases hv; exact iteT (q H1 μ1 x1 S1)
theorem je_if (hc : JE g c mc d) (ha : JE g c ma a) (hb : JE g c mb b) : JE g c (xIf mc ma mb) (.IfExp d a b pos) := fun X ok => by
  refine ⟨PE.imp (pe_ifExp (hc X ok).2 (ha X ok).1 (hb X ok).1) fun σ H Q h => ?_, ⟨fun pins s σ H Q I h => ?_⟩⟩
  · obtain ⟨μ, s, env, d, s', S, E, hv, q⟩ := h
    obtain ⟨k, s1, h1, hv⟩ := bind_ok hv
    refine ⟨μ, s, env, k, s1, S, E, h1, fun H1 μ1 x1 S1 => ?_⟩
    cases k with
    | true => exact iteT ⟨μ1, s1, env, d, s', S1, E.mono S x1, hv, fun v H2 μ2 x2 S2 r2 => q v H2 μ2 (x1.trans x2) S2 r2⟩
    | false => exact iteF ⟨μ1, s1, env, d, s', S1, E.mono S x1, hv, fun v H2 μ2 x2 S2 r2 => q v H2 μ2 (x1.trans x2) S2 r2⟩
  · obtain ⟨μ, s0, env, b, s', S, E, hv, q⟩ := h
    obtain ⟨k, s1, h1, hv⟩ := bind_ok hv
    refine isTrue_IfExp (thn ((hc X ok).2.run pins s σ H (fun b H1 => (if b = true then RdT g.K ma.t σ H1 Q else RdT g.K mb.t σ H1 Q)) I ⟨μ, s0, env, k, s1, S, E, h1, fun H1 μ1 x1 S1 => ?_⟩) fun b s2 h2 => ?_)
    · cases k with
      | true => exact iteT ⟨μ1, s1, env, b, s', S1, E.mono S x1, hv, fun H2 μ2 x2 S2 => q H2 μ2 (x1.trans x2) S2⟩
      | false => exact iteF ⟨μ1, s1, env, b, s', S1, E.mono S x1, hv, fun H2 μ2 x2 S2 => q H2 μ2 (x1.trans x2) S2⟩
    · obtain ⟨H1, I1, q1⟩ := h2
      cases b with
      | true => exact (ha X ok).2.run pins s2 σ H1 Q I1 q1
      | false => exact (hb X ok).2.run pins s2 σ H1 Q I1 q1
/-! ### argument lists, displays, calls -/
theorem ja_nil : JA g c aNil [] := fun X ok => PA.imp pa_nil fun σ H Q h => by
  obtain ⟨μ, s, env, d, s', S, E, hv, q⟩ := h
  cases hv
  exact q [] H μ .refl S .nil
/-- no star -/
def noStar : Expr → Bool
  | .Starred _ _ => false
  | _ => true
theorem star_cons {e : Expr} {es : List Expr} (h : noStar e = true) (env : PySem.Env) : starEach (e :: es) env = (false, eval e env) :: starEach es env := by
  cases e <;> first | rfl | (cases h)
theorem ja_cons {r : EvA} {es : List Expr} (ha : JE g c ma a) (hr : JA g c r es) (hs : noStar a = true := by rfl) : JA g c (aCons ma r) (a :: es) := fun X ok =>
  PA.imp (pa_cons (ha X ok).1 (hr X ok) (star_cons hs _)) fun σ H Q h => by
    obtain ⟨μ, s, env, d, s', S, E, hv, q⟩ := h
    obtain ⟨d1, s1, h1, hv⟩ := bind_ok hv
    obtain ⟨d2, s2, h2, hv⟩ := bind_ok hv
    cases hv
    refine ⟨μ, s, env, d1, s1, S, E, h1, fun v1 H1 μ1 x1 S1 r1 => ?_⟩
    refine ⟨μ1, s1, env, d2, s', S1, E.mono S x1, h2, fun v2 H2 μ2 x2 S2 r2 => ?_⟩
    exact q _ H2 μ2 (x1.trans x2) S2 (.cons (r1.mono S1 x2) r2)
theorem je_tup {r : EvA} {es : List Expr} {k : Nat} (h : JA g c r es) : JE g c (xTup r) (.Tuple es k pos) :=
  je_mk (fun X ok => PE.imp (pe_tup (h X ok)) fun σ H Q h => by
    obtain ⟨μ, s, env, d, s', S, E, hv, q⟩ := h
    obtain ⟨ds, s1, h1, hv⟩ := bind_ok hv
    refine ⟨μ, s, env, ds, s1, S, E, h1, fun vs H1 μ1 x1 S1 r1 => ?_⟩
    split at hv
    · rename_i hl
      cases hv
      refine ⟨by rw [r1.length]; exact hl, fun p hp => ?_⟩
      obtain ⟨x2, S2, r2⟩ := rep_tup S1 hp r1
      exact q _ _ μ1 (x1.trans x2) S2 r2
    · cases hv) (by intro _ _; rfl)
theorem newL_ok {K : PySem.W.Frag} {μ : List Addr} {H : Hp} {s s' : Sto} {ds : List D} {d : D} {vs : List V} (S : Sim K μ H s) (r : Reps K H μ vs ds) (h : newL ds s = .ok d s') {p : Addr} (hp : H p = none) :
    vs.length ≤ sizeLine ∧ Ext μ H (μ ++ [p]) (upd H p (.lst vs)) ∧ Sim K (μ ++ [p]) (upd H p (.lst vs)) s' ∧ Rep K (upd H p (.lst vs)) (μ ++ [p]) (.ref p) d := by
  unfold newL at h
  split at h
  · rename_i hl
    cases h
    exact ⟨by rw [r.length]; exact hl, rep_lst S hp r⟩
  · cases h
theorem je_lst {r : EvA} {es : List Expr} (h : JA g c r es) : JE g c (xLst r) (.List es pos) :=
  je_mk (fun X ok => PE.imp (pe_lst (h X ok)) fun σ H Q h => by
    obtain ⟨μ, s, env, d, s', S, E, hv, q⟩ := h
    obtain ⟨ds, s1, h1, hv⟩ := bind_ok hv
    refine ⟨μ, s, env, ds, s1, S, E, h1, fun vs H1 μ1 x1 S1 r1 => ?_⟩
    have z : vs.length ≤ sizeLine := by
      rw [r1.length]
      unfold newL at hv
      split at hv
      · assumption
      · cases hv
    refine ⟨z, fun p hp => ?_⟩
    obtain ⟨_, x2, S2, r2⟩ := newL_ok S1 r1 hv hp
    exact q _ _ _ (x1.trans x2) S2 r2) (by intro _ _; rfl)
/-- what a def of n parameters promises -/
def spD (K : PySem.W.Frag) (n : Nat) (m : Fn) : Sp := fun vs H Q _ => vs.length = n ∧ RnD K m vs H Q
/-- a def that stands under the name x: its meaning m -/
structure FnS (g : Gb) (lv : Nat) (x : Str) (ps : List Str) (m : Fn) : Prop where
  len : ∀ ds s d s', m ds s = .ok d s' → ds.length = ps.length
  ex : ∃ f fd, g.mg x = some (.ref f) ∧ PySem.W.keepIn g.K (.ref f) = true ∧ Binds g.K fd ps [] ∧ FnOk g.P g.w g.K g.mg g.base CX0 lv f fd ps (spD g.K ps.length m)
theorem star_any {es : List Expr} (h : es.all noStar = true) (pos : Pos) (env : PySem.Env) : (backTo pos (starEach es env)).any (·.1) = false := by
  induction es with
  | nil => rfl
  | cons e es ih =>
    rw [List.all_cons, Bool.and_eq_true] at h
    rw [star_cons h.1]
    show (false || (backTo pos (starEach es env)).any (·.1)) = false
    rw [ih h.2]; rfl
theorem je_call {lv : Nat} {x : Str} {ps : List Str} {f : Fn} {r : EvA} {p : Pos} {es : List Expr} (F : FnS g lv x ps f) (hl : lv ≤ c.lv) (hs : c.sc.names.lookup x = some .globalImplicit) (ha : JA g c r (a :: es)) (hst : (a :: es).all noStar = true := by rfl)
    (hdb : (x == ("__debug__" : Str)) = false := by decide) : JE g c (xCall f r) (.Call (.Name x p) (a :: es) [] pos) := by
  obtain ⟨fa, fd, hm, hk, hb, hF⟩ := F.ex
  have h2 := hst
  rw [List.all_cons, Bool.and_eq_true] at h2
  refine je_mk (fun X ok => ?_) (by intro _ _; rfl)
  have hF' : FnOk X.prog X.w X.K X.mg X.base CX0 lv fa fd ps (spD g.K ps.length f) := by
    rw [ok.prog, ok.w, ok.K, ok.mg, ok.base]; exact hF
  refine PE.imp (pe_call hF' (ok.room.mono hl) (by show X.env.scope.names.lookup x = _; rw [ok.sc]; exact hs) (by rw [ok.mg]; exact hm) (by rw [ok.K]; exact hk) (by rw [ok.K]; exact hb) .nil pass0 (ha X ok) hdb (star_cons h2.1 _) (star_any h2.2 _ _)) fun σ H Q h => ?_
  obtain ⟨μ, s, env, d, s', S, E, hv, q⟩ := h
  obtain ⟨ds, s1, h1, hv⟩ := bind_ok hv
  refine ⟨μ, s, env, ds, s1, S, E, h1, fun vs H1 μ1 x1 S1 r1 => ?_⟩
  show spD g.K ps.length f (vs ++ []) H1 Q E0
  rw [List.append_nil]
  exact ⟨by rw [r1.length]; exact F.len _ _ _ _ hv, μ1, s1, ds, d, s', S1, r1, hv, fun v H2 μ2 x2 S2 r2 => q v H2 μ2 (x1.trans x2) S2 r2⟩
/-- a built-in function, a built-in type -/
theorem je_bi {id : String} {x : Str} {f : List D → Sto → R D} {r : EvA} {p : Pos} {es : List Expr} (hf : ∀ X : Cx, c.Ok g X → CallR X (.builtin id) (RnD g.K f)) (hs : c.sc.names.lookup x = some .globalImplicit) (hm : g.mg x = none) (hv : bootBuiltins x = some (.builtin id))
    (ha : JA g c r (a :: es)) (hst : (a :: es).all noStar = true := by rfl) (hn : x ≠ "__name__" := by decide) (hdb : (x == ("__debug__" : Str)) = false := by decide) : JE g c (xBi f r) (.Call (.Name x p) (a :: es) [] pos) := by
  have h2 := hst
  rw [List.all_cons, Bool.and_eq_true] at h2
  refine je_mk (fun X ok => PE.imp (pe_callB (hf X ok) (by show X.env.scope.names.lookup x = _; rw [ok.sc]; exact hs) (by rw [ok.mg]; exact hm) hv (ha X ok) hn hdb (star_cons h2.1 _) (star_any h2.2 _ _)) fun σ H Q h => ?_) (by intro _ _; rfl)
  obtain ⟨μ, s, env, d, s', S, E, hv, q⟩ := h
  obtain ⟨ds, s1, h1, hv⟩ := bind_ok hv
  refine ⟨μ, s, env, ds, s1, S, E, h1, fun vs H1 μ1 x1 S1 r1 => ?_⟩
  exact ⟨μ1, s1, ds, d, s', S1, r1, hv, fun v H2 μ2 x2 S2 r2 => q v H2 μ2 (x1.trans x2) S2 r2⟩
theorem je_ty {T : String} {x : Str} {f : List D → Sto → R D} {r : EvA} {p : Pos} {es : List Expr} (hf : ∀ X : Cx, c.Ok g X → CallR X (.type T) (RnD g.K f)) (hs : c.sc.names.lookup x = some .globalImplicit) (hm : g.mg x = none) (hv : bootBuiltins x = some (.type T))
    (ha : JA g c r (a :: es)) (hst : (a :: es).all noStar = true := by rfl) (hn : x ≠ "__name__" := by decide) (hdb : (x == ("__debug__" : Str)) = false := by decide) : JE g c (xBi f r) (.Call (.Name x p) (a :: es) [] pos) := by
  have h2 := hst
  rw [List.all_cons, Bool.and_eq_true] at h2
  refine je_mk (fun X ok => PE.imp (pe_callTy (hf X ok) (by show X.env.scope.names.lookup x = _; rw [ok.sc]; exact hs) (by rw [ok.mg]; exact hm) hv (ha X ok) hn hdb (star_cons h2.1 _) (star_any h2.2 _ _)) fun σ H Q h => ?_) (by intro _ _; rfl)
  obtain ⟨μ, s, env, d, s', S, E, hv, q⟩ := h
  obtain ⟨ds, s1, h1, hv⟩ := bind_ok hv
  refine ⟨μ, s, env, ds, s1, S, E, h1, fun vs H1 μ1 x1 S1 r1 => ?_⟩
  exact ⟨μ1, s1, ds, d, s', S1, r1, hv, fun v H2 μ2 x2 S2 r2 => q v H2 μ2 (x1.trans x2) S2 r2⟩
end
end Cs

/-! ## CsSim3 -/
namespace Cs
open PySem PySem.Spec PyProof.Rows L2
/-! ### operators -/
section
variable {K : PySem.W.Frag} {μ : List Addr} {H : Hp} {s s' : Sto} {g : Gb} {c : Cc} {X : Cx}
theorem Rep.lst_at (S : Sim K μ H s) {a : Addr} {i : Nat} {xs : List D} (h : Rep K H μ (.ref a) (.ref i)) (e : s.get i = some (.lst xs)) : μ[i]? = some a ∧ ∃ vs, H a = some (.lst vs) ∧ Reps K H μ vs xs := by
  cases h with
  | ref q =>
    refine ⟨q, ?_⟩
    obtain ⟨o, e1, r⟩ := S.ob i a q
    rw [e] at e1; cases e1
    exact r
theorem op_addD (hK : X.K = K) : OpR X (binaryOp .Add) (R2D K addD) := by
  subst hK
  refine OpR.imp (op_add.or (op_catA.or (op_add_str.or op_cat))) fun x y H Q h => ?_
  obtain ⟨μ, s, dx, dy, d, s', S, rx, ry, h, q⟩ := h
  unfold addD at h
  split at h
  · cases h; cases rx; cases ry
    exact .inl ⟨_, _, rfl, rfl, q _ H μ .refl S (.int _)⟩
  · split at h
    · rename_i hz
      cases h
      cases rx with
      | tup tx px =>
      cases ry with
      | tup ty py =>
      refine .inr (.inl ⟨_, _, _, _, rfl, rfl, tx, ty, by rw [px.length, py.length]; exact hz, fun e => ?_, fun e1 e2 => ?_, fun _ _ p hp => ?_⟩)
      · subst e
        cases px
        exact q _ H μ .refl S (.tup ty py)
      · subst e2
        cases py
        rw [List.append_nil] at q
        exact q _ H μ .refl S (.tup tx px)
      · obtain ⟨x2, S2, r2⟩ := rep_tup S hp (px.append py)
        exact q _ _ μ x2 S2 r2
    · cases h
  · split at h
    · cases h; cases rx; cases ry
      exact .inr (.inr (.inl ⟨_, _, rfl, rfl, by assumption, q _ H μ .refl S (.str _)⟩))
    · cases h
  · split at h
    · rename_i ex ey
      split at h
      · rename_i hz
        cases h
        cases rx with
        | ref rx =>
        cases ry with
        | ref ry =>
        obtain ⟨_, vx, hx, px⟩ := Rep.lst_at S (.ref rx) ex
        obtain ⟨_, vy, hy, py⟩ := Rep.lst_at S (.ref ry) ey
        refine .inr (.inr (.inr ⟨_, _, vx, vy, rfl, rfl, hx, hy, by rw [px.length, py.length]; exact hz, fun p hp => ?_⟩))
        obtain ⟨x2, S2, r2⟩ := rep_lst S hp (px.append py)
        exact q _ _ _ x2 S2 r2
      · cases h
    · cases h
  · cases h
theorem op_subD (hK : X.K = K) : OpR X (binaryOp .Sub) (R2D K subD) := by
  subst hK
  refine OpR.imp op_sub fun x y H Q h => ?_
  obtain ⟨μ, s, dx, dy, d, s', S, rx, ry, h, q⟩ := h
  unfold subD at h
  split at h
  · cases h; cases rx; cases ry
    exact ⟨_, _, rfl, rfl, q _ H μ .refl S (.int _)⟩
  · cases h
theorem iop_addD (hK : X.K = K) : OpR X (inplaceOp .Add) (R2D K iaddD) := by
  subst hK
  refine OpR.imp iop_add fun x y H Q h => ?_
  obtain ⟨μ, s, dx, dy, d, s', S, rx, ry, h, q⟩ := h
  unfold iaddD at h
  split at h
  · cases h; cases rx; cases ry
    exact ⟨_, _, rfl, rfl, q _ H μ .refl S (.int _)⟩
  · cases h
theorem iop_subD (hK : X.K = K) : OpR X (inplaceOp .Sub) (R2D K subD) := by
  subst hK
  refine OpR.imp iop_sub fun x y H Q h => ?_
  obtain ⟨μ, s, dx, dy, d, s', S, rx, ry, h, q⟩ := h
  unfold subD at h
  split at h
  · cases h; cases rx; cases ry
    exact ⟨_, _, rfl, rfl, q _ H μ .refl S (.int _)⟩
  · cases h
theorem log2_4000 {i : Int} (h : i.natAbs < lim4) : i.natAbs.log2 < 4000 := PySem.Flt.log2_lt_of (by decide) h
theorem mulOk_ok {i j : Int} (h : mulOk i j = true) : CMul i j ∨ CMulW i j := by
  unfold mulOk at h
  simp only [Bool.or_eq_true, Bool.and_eq_true, decide_eq_true_eq] at h
  rcases h with (h | h) | ⟨h1, h2⟩
  · exact .inl (.inl (by omega))
  · exact .inl (.inr (by omega))
  · refine .inr ?_
    have a := log2_4000 h1
    have b := log2_4000 h2
    show _ + _ < 1000000
    omega
/-- t * k where nothing is repeated -/
theorem tuple_mul_same (l : Addr) (items : Array Value) (n : Nat) (dd : Option Addr) (sl : Array (Option Value)) (x : Int) (u : Tok) (c0 : (decide (x < -(2 ^ 63)) || decide (x ≥ 2 ^ 63)) = false) (c1 : (items.isEmpty || x == 1) = true) :
    Meets (Builtin.«tuple.__mul__» ⟨[.ref l, .int x u], []⟩) (fun _ R s => s.heap.get? l = some { cls := .type "tuple", dict := dd, data := .seq items n, slots := sl } ∧ R (.ok (.ret (Value.ref l))) s) :=
  .of_wp fun prog w A R s h => by
    obtain ⟨hp, g, d, tk, os⟩ := s
    obtain ⟨hl, h⟩ := h
    have f1 := AutoSeq1.idx_int
    wp_walk using wpAny_loadPart' hl
    repeat (first
      | (refine wpAny_ite_false (decide_eq_false (by rw [c0]; exact Bool.false_ne_true)) ?_; wp_walk using wpAny_loadPart' hl)
      | (refine wpAny_ite_true (decide_eq_true c1) ?_; wp_walk using wpAny_loadPart' hl))
    exact ⟨_, rfl, h⟩
theorem tuple_mul_none (l : Addr) (items : Array Value) (n : Nat) (dd : Option Addr) (sl : Array (Option Value)) (x : Int) (u : Tok) (c0 : (decide (x < -(2 ^ 63)) || decide (x ≥ 2 ^ 63)) = false) (c1 : (items.isEmpty || x == 1) = false) (c2 : (decide (x ≤ 0) || items.isEmpty) = true) :
    Meets (Builtin.«tuple.__mul__» ⟨[.ref l, .int x u], []⟩) (fun _ R s => s.heap.get? l = some { cls := .type "tuple", dict := dd, data := .seq items n, slots := sl } ∧
      R (.ok (.ret (Value.ref s.heap.objs.size))) { s with heap := s.heap.push { cls := Value.type "tuple", data := Data.seq #[] }, toks := s.toks }) :=
  .of_wp fun prog w A R s h => by
    obtain ⟨hp, g, d, tk, os⟩ := s
    obtain ⟨hl, h⟩ := h
    have f1 := AutoSeq1.idx_int
    wp_walk using wpAny_loadPart' hl
    repeat (first
      | (refine wpAny_ite_false (decide_eq_false (by rw [c0]; exact Bool.false_ne_true)) ?_; wp_walk using wpAny_loadPart' hl)
      | (refine wpAny_ite_false (decide_eq_false (by rw [c1]; exact Bool.false_ne_true)) ?_; wp_walk using wpAny_loadPart' hl)
      | (refine wpAny_ite_true (decide_eq_true c2) ?_; wp_walk using wpAny_loadPart' hl))
    exact ⟨_, rfl, h⟩
def rRepN (K : PySem.W.Frag) : R2 := fun x y H Q => ∃ l k xs, x = .ref l ∧ y = .int k ∧ SqT K H l xs ∧ -1000 ≤ k ∧ k ≤ 1000 ∧ ((xs = [] ∨ k = 1) ∧ Q (.ref l) H ∨ (xs ≠ [] ∧ k ≤ 0) ∧ ∀ p, H p = none → Q (.ref p) (upd H p (.tup [])))
theorem op_repN : OpR X (binaryOp .Mult) (rRepN X.K) := by
  intro pins s σ H x y v u Q I rx ry h
  obtain ⟨l, k, xs, rfl, rfl, hT, h1, h2, q⟩ := h
  cases rx
  obtain ⟨t, rfl⟩ := ry
  obtain ⟨its, r, ⟨⟨cls, dd, data, sl⟩, ho, hc, n, hd⟩, hs⟩ := I.tuple hT
  simp only at hc hd
  subst hc hd
  have hle : its.length = xs.length := r.length.symm
  have c0 : (decide (k < -(2 ^ 63)) || decide (k ≥ 2 ^ 63)) = false := by
    rw [decide_eq_false (by omega), decide_eq_false (by omega)] <;> rfl
  have emp : its.toArray.isEmpty = xs.isEmpty := by cases r <;> simp
  rcases q with ⟨hq, q⟩ | ⟨⟨hq, hk⟩, q⟩
  · have c1 : (its.toArray.isEmpty || k == 1) = true := by
      rw [emp]
      rcases hq with rfl | rfl
      · rfl
      · simp
    exact wpAny_binaryOp_repeat_ref (T := "tuple") (U := "int") (by decide) ⟨_, ho, rfl⟩ (fun s' => typeIs_int s' k t) noFill_tuple_mul F.fills_int_mul F.slot_int_rmul repeat_tuple F.slot_int_index.lookup
      (call_meets F.slot_int_rmul (typeIs_int s k t) F.entry_int_rmul (F.args_int_rmul_2 _ _) (int_rmul_tuple k t l its.toArray n dd sl)
        ⟨ho, rfl, ⟨_, ho, rfl⟩, call_meets F.slot_tuple_mul ⟨_, ho, rfl⟩ F.entry_tuple_mul (F.args_tuple_mul_2 _ _) (tuple_mul_same l its.toArray n dd sl k t c0 c1) ⟨ho, ⟨.ref l, H, I, rfl, q⟩⟩⟩)
  · have c1 : (its.toArray.isEmpty || k == 1) = false := by
      rw [emp]
      cases xs with
      | nil => exact absurd rfl hq
      | cons a b =>
        show (false || k == 1) = false
        rw [Bool.false_or]
        exact beq_eq_false_iff_ne.mpr (by omega)
    have c2 : (decide (k ≤ 0) || its.toArray.isEmpty) = true := by rw [decide_eq_true hk]; rfl
    refine wpAny_binaryOp_repeat_ref (T := "tuple") (U := "int") (by decide) ⟨_, ho, rfl⟩ (fun s' => typeIs_int s' k t) noFill_tuple_mul F.fills_int_mul F.slot_int_rmul repeat_tuple F.slot_int_index.lookup
      (call_meets F.slot_int_rmul (typeIs_int s k t) F.entry_int_rmul (F.args_int_rmul_2 _ _) (int_rmul_tuple k t l its.toArray n dd sl)
        ⟨ho, rfl, ⟨_, ho, rfl⟩, call_meets F.slot_tuple_mul ⟨_, ho, rfl⟩ F.entry_tuple_mul (F.args_tuple_mul_2 _ _) (tuple_mul_none l its.toArray n dd sl k t c0 c1 c2) ⟨ho, ?_⟩⟩)
    refine ⟨.ref s.heap.objs.size, _, I.laid (t' := s.toks) (o := .tup []) (fun b ob q => Heap.get?_push_of_some _ q) (Nat.le_refl _) ?_, rfl, q _ (I.hok.fresh (Nat.le_refl _))⟩
    exact ⟨Nat.zero_le _, [], .nil, IsTup.new s.heap ([] : List Value).toArray⟩
theorem flat_one {α : Type} (xs : List α) : (List.replicate (1 : Int).toNat xs).flatten = xs := by
  show (List.replicate 1 xs).flatten = xs
  simp
theorem op_mulD (hK : X.K = K) : OpR X (binaryOp .Mult) (R2D K mulD) := by
  subst hK
  refine OpR.imp (op_mul.or (op_mulW.or (op_repT.or (op_repN.or op_rep)))) fun x y H Q h => ?_
  obtain ⟨μ, s, dx, dy, d, s', S, rx, ry, h, q⟩ := h
  unfold mulD at h
  split at h
  · split at h
    · rename_i hm
      cases h; cases rx; cases ry
      rcases mulOk_ok hm with e | e
      · exact .inl ⟨_, _, rfl, rfl, e, q _ H μ .refl S (.int _)⟩
      · exact .inr (.inl ⟨_, _, rfl, rfl, e, q _ H μ .refl S (.int _)⟩)
    · cases h
  · split at h
    · rename_i xs k hz
      cases h
      cases ry
      cases rx with
      | @tup a vs _ tx px =>
      obtain ⟨z1, z2, z3⟩ := hz
      by_cases h1 : vs = [] ∨ k = 1
      · refine .inr (.inr (.inr (.inl ⟨a, k, vs, rfl, rfl, tx, z2, z3, .inl ⟨h1, ?_⟩⟩)))
        have e : (List.replicate k.toNat xs).flatten = xs := by
          rcases h1 with rfl | rfl
          · cases px
            simp
          · exact flat_one xs
        rw [e] at q
        exact q _ H μ .refl S (.tup tx px)
      · by_cases h2 : k ≤ 0
        · refine .inr (.inr (.inr (.inl ⟨a, k, vs, rfl, rfl, tx, z2, z3, .inr ⟨⟨fun e => h1 (.inl e), h2⟩, fun p hp => ?_⟩⟩)))
          have e : (List.replicate k.toNat xs).flatten = [] := by
            rw [show k.toNat = 0 by omega]; rfl
          rw [e] at q
          obtain ⟨x2, S2, r2⟩ := rep_tup (xs := []) (ds := []) S hp .nil
          exact q _ _ μ x2 S2 r2
        · refine .inr (.inr (.inl ⟨a, k, vs, rfl, rfl, tx, fun e => h1 (.inl e), by have : ¬ k = 1 := fun e => h1 (.inr e); omega, z3, by rw [px.length]; exact z1, fun p hp => ?_⟩))
          obtain ⟨x2, S2, r2⟩ := rep_tup S hp (px.rep k.toNat)
          exact q _ _ μ x2 S2 r2
    · cases h
  · split at h
    · rename_i ex
      split at h
      · rename_i hz
        cases h
        cases ry
        cases rx with
        | ref rx =>
        obtain ⟨_, vx, hx, px⟩ := Rep.lst_at S (.ref rx) ex
        refine .inr (.inr (.inr (.inr ⟨_, _, vx, rfl, rfl, hx, by omega, by omega, by rw [px.length]; exact hz.2.2, fun p hp => ?_⟩)))
        obtain ⟨x2, S2, r2⟩ := rep_lst S hp (px.rep _)
        exact q _ _ _ x2 S2 r2
      · cases h
    · cases h
  · cases h
theorem op_fdivD (hK : X.K = K) : OpR X (binaryOp .FloorDiv) (R2D K fdivD) := by
  subst hK
  refine OpR.imp op_fdivW fun x y H Q h => ?_
  obtain ⟨μ, s, dx, dy, d, s', S, rx, ry, h, q⟩ := h
  unfold fdivD at h
  split at h
  · split at h
    · rename_i hz
      cases h; cases rx; cases ry
      exact ⟨_, _, rfl, rfl, ⟨hz.1, Nat.lt_trans (log2_4000 hz.2) (by decide)⟩, q _ H μ .refl S (.int _)⟩
    · cases h
  · cases h
theorem op_modD (hK : X.K = K) : OpR X (binaryOp .Mod) (R2D K modD) := by
  subst hK
  refine OpR.imp op_mod fun x y H Q h => ?_
  obtain ⟨μ, s, dx, dy, d, s', S, rx, ry, h, q⟩ := h
  unfold modD at h
  split at h
  · split at h
    · cases h; cases rx; cases ry
      exact ⟨_, _, rfl, rfl, by assumption, q _ H μ .refl S (.int _)⟩
    · cases h
  · cases h
theorem op_powD (hK : X.K = K) : OpR X (binaryOp .Pow) (R2D K powD) := by
  subst hK
  refine OpR.imp (opI (C := fun i j => 0 ≤ j ∧ j ≤ 1000 ∧ i.natAbs < lim4) (g := fun i j => i ^ j.toNat) fun i j t u Q E s hc q => pow_int hc.1 ?_ q) fun x y H Q h => ?_
  · obtain ⟨h0, h1, h2⟩ := hc
    have b := (intBits_le_iff (m := 4000) (x := i)).mpr h2
    have a1 : (Builtin.Int.intBits i : Int) * j ≤ 4000 * j := Int.mul_le_mul_of_nonneg_right (by omega) h0
    omega
  · obtain ⟨μ, s, dx, dy, d, s', S, rx, ry, h, q⟩ := h
    unfold powD at h
    split at h
    · split at h
      · cases h; cases rx; cases ry
        exact ⟨_, _, rfl, rfl, by assumption, q _ H μ .refl S (.int _)⟩
      · cases h
    · cases h
theorem op_negD (hK : X.K = K) : UnR X (unaryOp .USub) (R1D K negD) := by
  subst hK
  refine UnR.imp un_neg fun x H Q h => ?_
  obtain ⟨μ, s, dx, d, s', S, rx, h, q⟩ := h
  unfold negD at h
  split at h
  · cases h; cases rx
    exact ⟨_, rfl, q _ H μ .refl S (.int _)⟩
  · cases h
theorem op_ltI {op : CmpOp} {f : Int → Int → Bool} (hK : X.K = K) (ho : OpR X (compareOp op) (rI0 fun i j => .bl (f i j))) : OpR X (compareOp op) (R2D K (ltI f)) := by
  subst hK
  refine OpR.imp ho fun x y H Q h => ?_
  obtain ⟨μ, s, dx, dy, d, s', S, rx, ry, h, q⟩ := h
  unfold ltI at h
  split at h
  · cases h; cases rx; cases ry
    exact ⟨_, _, rfl, rfl, q _ H μ .refl S (.bl _)⟩
  · cases h
theorem ltI_bl {f : Int → Int → Bool} : ∀ x y s d s', ltI f x y s = .ok d s' → ∃ b, d = .bl b := by
  intro x y s d s' h
  unfold ltI at h
  split at h
  · cases h; exact ⟨_, rfl⟩
  · cases h
theorem op_isNonD (hK : X.K = K) : OpR X (compareOp .Is) (R2D K isNonD) := by
  subst hK
  refine OpR.imp op_isN fun x y H Q h => ?_
  obtain ⟨μ, s, dx, dy, d, s', S, rx, ry, h, q⟩ := h
  unfold isNonD at h
  split at h
  · cases h; cases rx; cases ry
    exact ⟨rfl, q _ H μ .refl S (.bl _)⟩
  · rename_i hn
    cases h; cases ry
    refine ⟨rfl, ?_⟩
    have e : decide (x = V.non) = false := decide_eq_false fun e => by
      subst e; cases rx; exact hn rfl
    rw [e]
    exact q _ H μ .refl S (.bl _)
  · cases h
theorem op_isnNonD (hK : X.K = K) : OpR X (compareOp .IsNot) (R2D K isnNonD) := by
  subst hK
  refine OpR.imp op_notN fun x y H Q h => ?_
  obtain ⟨μ, s, dx, dy, d, s', S, rx, ry, h, q⟩ := h
  unfold isnNonD at h
  split at h
  · cases h; cases rx; cases ry
    exact ⟨rfl, q _ H μ .refl S (.bl _)⟩
  · rename_i hn
    cases h; cases ry
    refine ⟨rfl, ?_⟩
    have e : decide (x = V.non) = false := decide_eq_false fun e => by
      subst e; cases rx; exact hn rfl
    rw [e]
    exact q _ H μ .refl S (.bl _)
  · cases h
theorem isNonD_bl : ∀ x y s d s', isNonD x y s = .ok d s' → ∃ b, d = .bl b := by
  intro x y s d s' h
  unfold isNonD at h
  split at h <;> first | (cases h; exact ⟨_, rfl⟩) | cases h
theorem isnNonD_bl : ∀ x y s d s', isnNonD x y s = .ok d s' → ∃ b, d = .bl b := by
  intro x y s d s' h
  unfold isnNonD at h
  split at h <;> first | (cases h; exact ⟨_, rfl⟩) | cases h
/-! ### == -/
theorem mapO_some {α β : Type} {f : α → Option β} : ∀ {xs : List α} {ys : List β}, mapO f xs = some ys → Paired (fun x y => f x = some y) xs ys
  | [], _, h => by cases h; exact .nil
  | x :: xs, ys, h => by
    unfold mapO at h
    split at h
    · rename_i d ds h1 h2
      cases h
      exact .cons h1 (mapO_some h2)
    · cases h
theorem rep_dp (S : Sim K μ H s) : ∀ (k : Nat) (d : D) (v : V) (p : PyData), Rep K H μ v d → pyd s k d = some p → Dp K H v p := by
  intro k
  induction k with
  | zero =>
    intro d v p r h
    cases r with
    | non => cases h; exact .non
    | bl b => cases h; exact .bl b
    | int i => cases h; exact .int i
    | str x =>
      have h : (if PyData.strOk x = true then some (PyData.str x) else none) = some p := h
      split at h
      · cases h; exact .str x
      · cases h
    | tup _ _ => cases h
    | fix _ _ => cases h
    | ref _ => cases h
  | succ k ih =>
    have all : ∀ (ds : List D) (vs : List V) (ps : List PyData), Reps K H μ vs ds → mapO (pyd s k) ds = some ps → DpAll K H vs ps := by
      intro ds
      induction ds with
      | nil => intro vs ps r h; cases r; cases h; exact .nil
      | cons d ds ih2 =>
        intro vs ps r h
        cases r with
        | cons r1 r2 =>
        unfold mapO at h
        split at h
        · rename_i p ps h1 h2
          cases h
          exact .cons (ih _ _ _ r1 h1) (ih2 _ _ r2 h2)
        · cases h
    intro d v p r h
    cases r with
    | non => cases h; exact .non
    | bl b => cases h; exact .bl b
    | int i => cases h; exact .int i
    | str x =>
      have h : (if PyData.strOk x = true then some (PyData.str x) else none) = some p := h
      split at h
      · cases h; exact .str x
      · cases h
    | tup q r =>
      obtain ⟨ps, h1, rfl⟩ := Option.map_eq_some_iff.mp h
      exact .tup q (all _ _ _ r h1)
    | fix q r =>
      obtain ⟨ps, h1, rfl⟩ := Option.map_eq_some_iff.mp h
      exact .lst q.sq (all _ _ _ r h1)
    | @ref i a q =>
      obtain ⟨o, e, ro⟩ := S.ob i a q
      unfold pyd at h
      dsimp only at h
      rw [e] at h
      cases o with
      | lst ds =>
        obtain ⟨xs, e1, r1⟩ := ro
        obtain ⟨ps, h1, rfl⟩ := Option.map_eq_some_iff.mp h
        exact .lst (.of e1) (all _ _ _ r1 h1)
      | dct kvs => exact ro.elim
theorem pyd_fit : ∀ (k : Nat) (s : Sto) (d : D) (p : PyData), pyd s k d = some p → p.canLay0 = true ∧ p.depth ≤ k := by
  intro k
  induction k with
  | zero =>
    intro s d p h
    cases d with
    | non => cases h; exact ⟨rfl, Nat.le_refl _⟩
    | bl b => cases h; exact ⟨rfl, Nat.le_refl _⟩
    | int i => cases h; exact ⟨rfl, Nat.le_refl _⟩
    | str x =>
      have h : (if PyData.strOk x = true then some (PyData.str x) else none) = some p := h
      split at h
      · rename_i hx
        cases h; exact ⟨by unfold PyData.canLay0; exact hx, by unfold PyData.depth; exact Nat.le_refl _⟩
      · cases h
    | tup _ => cases h
    | fix _ => cases h
    | ref _ => cases h
  | succ k ih =>
    have all : ∀ (s : Sto) (ds : List D) (ps : List PyData), mapO (pyd s k) ds = some ps → PyData.canLayAll0 ps = true ∧ PyData.depthAll ps ≤ k := by
      intro s ds
      induction ds with
      | nil => intro ps h; cases h; exact ⟨by unfold PyData.canLayAll0; rfl, by unfold PyData.depthAll; exact Nat.zero_le _⟩
      | cons d ds ih2 =>
        intro ps h
        unfold mapO at h
        split at h
        · rename_i p ps h1 h2
          cases h
          obtain ⟨a1, a2⟩ := ih s _ _ h1
          obtain ⟨b1, b2⟩ := ih2 _ h2
          exact ⟨by unfold PyData.canLayAll0; rw [a1, b1]; rfl, by unfold PyData.depthAll; exact Nat.max_le.mpr ⟨a2, b2⟩⟩
        · cases h
    have tl : ∀ (s : Sto) (ds : List D) (p : PyData), (mapO (pyd s k) ds).map PyData.tuple = some p → p.canLay0 = true ∧ p.depth ≤ k + 1 := fun s ds p h => by
      obtain ⟨ps, h1, rfl⟩ := Option.map_eq_some_iff.mp h
      obtain ⟨a1, a2⟩ := all s _ _ h1
      exact ⟨by unfold PyData.canLay0; exact a1, by unfold PyData.depth; omega⟩
    have ll : ∀ (s : Sto) (ds : List D) (p : PyData), (mapO (pyd s k) ds).map PyData.list = some p → p.canLay0 = true ∧ p.depth ≤ k + 1 := fun s ds p h => by
      obtain ⟨ps, h1, rfl⟩ := Option.map_eq_some_iff.mp h
      obtain ⟨a1, a2⟩ := all s _ _ h1
      exact ⟨by unfold PyData.canLay0; exact a1, by unfold PyData.depth; omega⟩
    intro s d p h
    cases d with
    | non => cases h; exact ⟨rfl, Nat.zero_le _⟩
    | bl b => cases h; exact ⟨rfl, Nat.zero_le _⟩
    | int i => cases h; exact ⟨rfl, Nat.zero_le _⟩
    | str x =>
      have h : (if PyData.strOk x = true then some (PyData.str x) else none) = some p := h
      split at h
      · rename_i hx
        cases h; exact ⟨by unfold PyData.canLay0; exact hx, by unfold PyData.depth; exact Nat.zero_le _⟩
      · cases h
    | tup ds => exact tl s ds p h
    | fix ds => exact ll s ds p h
    | ref i =>
      unfold pyd at h
      dsimp only at h
      split at h
      · exact ll s _ p h
      · cases h
theorem pyd_shaped {d : D} {p : PyData} (h : pyd s 12 d = some p) : SeqAt.shaped p = true := by
  obtain ⟨a, b⟩ := pyd_fit 12 s d p h
  unfold SeqAt.shaped
  rw [a, decide_eq_true (show p.depth ≤ 64 by omega)]; rfl
theorem op_eqDD (hK : X.K = K) (hu : X.A.units + 64 < cLine) : OpR X (compareOp .Eq) (R2D K eqD) := by
  subst hK
  refine OpR.imp (op_eqD hu) fun x y H Q h => ?_
  obtain ⟨μ, s, dx, dy, d, s', S, rx, ry, h, q⟩ := h
  unfold eqD at h
  split at h
  · rename_i a b h1 h2
    cases h
    exact ⟨a, b, rep_dp S 12 _ _ _ rx h1, rep_dp S 12 _ _ _ ry h2, pyd_shaped h1, pyd_shaped h2, q _ H μ .refl S (.bl _)⟩
  · cases h
theorem op_neDD (hK : X.K = K) (hu : X.A.units + 64 < cLine) : OpR X (compareOp .NotEq) (R2D K neD) := by
  subst hK
  refine OpR.imp (op_neD hu) fun x y H Q h => ?_
  obtain ⟨μ, s, dx, dy, d, s', S, rx, ry, h, q⟩ := h
  unfold neD at h
  split at h
  · rename_i a b h1 h2
    cases h
    exact ⟨a, b, rep_dp S 12 _ _ _ rx h1, rep_dp S 12 _ _ _ ry h2, pyd_shaped h1, pyd_shaped h2, q _ H μ .refl S (.bl _)⟩
  · cases h
theorem eqD_bl : ∀ x y s d s', eqD x y s = .ok d s' → ∃ b, d = .bl b := by
  intro x y s d s' h
  unfold eqD at h
  split at h <;> first | (cases h; exact ⟨_, rfl⟩) | cases h
theorem neD_bl : ∀ x y s d s', neD x y s = .ok d s' → ∃ b, d = .bl b := by
  intro x y s d s' h
  unfold neD at h
  split at h <;> first | (cases h; exact ⟨_, rfl⟩) | cases h
/-! ### what stands in a list or a tuple -/
theorem items_rep (S : Sim K μ H s) {v : V} {d : D} {xs : List D} (r : Rep K H μ v d) (h : items d s = some xs) : ∃ a vs, v = .ref a ∧ (SqL K H a vs ∨ SqT K H a vs) ∧ Reps K H μ vs xs := by
  cases r with
  | non => cases h
  | bl b => cases h
  | int i => cases h
  | str x => cases h
  | tup q r => cases h; exact ⟨_, _, rfl, .inr q, r⟩
  | fix q r => cases h; exact ⟨_, _, rfl, .inl q.sq, r⟩
  | @ref i a q =>
    obtain ⟨o, e, ro⟩ := S.ob i a q
    unfold items at h
    dsimp only at h
    rw [e] at h
    cases o with
    | lst ds => cases h; obtain ⟨vs, e1, r1⟩ := ro; exact ⟨a, vs, rfl, .inl (.of e1), r1⟩
    | dct kvs => cases h
theorem litems_rep (S : Sim K μ H s) {v : V} {d : D} {xs : List D} (r : Rep K H μ v d) (h : litems d s = some xs) : ∃ a vs, v = .ref a ∧ SqL K H a vs ∧ Reps K H μ vs xs := by
  cases r with
  | non => cases h
  | bl b => cases h
  | int i => cases h
  | str x => cases h
  | tup q r => cases h
  | fix q r => cases h; exact ⟨_, _, rfl, q.sq, r⟩
  | @ref i a q =>
    obtain ⟨o, e, ro⟩ := S.ob i a q
    unfold litems at h
    dsimp only at h
    rw [e] at h
    cases o with
    | lst ds => cases h; obtain ⟨vs, e1, r1⟩ := ro; exact ⟨a, vs, rfl, .of e1, r1⟩
    | dct kvs => cases h
theorem flat_rep {v : V} {d : D} (r : Rep K H μ v d) (h : flat d = true) : flatV v = true := by
  cases r <;> first | rfl | cases h
theorem flats_rep : ∀ {ds : List D} {vs : List V}, Reps K H μ vs ds → ds.all flat = true → vs.all flatV = true
  | [], _, h, _ => by cases h; rfl
  | d :: ds, _, h, f => by
    cases h with
    | cons r q =>
      rw [List.all_cons, Bool.and_eq_true] at f ⊢
      exact ⟨flat_rep r f.1, flats_rep q f.2⟩
theorem flatEq_rep {v w : V} {d e : D} (r : Rep K H μ v d) (q : Rep K H μ w e) (h : flat d = true) (h2 : flat e = true) : eqV v w = flatEq d e := by
  cases r <;> cases q <;> first | rfl | cases h | cases h2
theorem anyEq_rep {w : V} {e : D} (q : Rep K H μ w e) (h2 : flat e = true) : ∀ {ds : List D} {vs : List V}, Reps K H μ vs ds → ds.all flat = true → (vs.any fun z => eqV z w) = ds.any fun z => flatEq z e
  | [], _, h, _ => by cases h; rfl
  | d :: ds, _, h, f => by
    cases h with
    | cons r t =>
      rw [List.all_cons, Bool.and_eq_true] at f
      rw [List.any_cons, List.any_cons, flatEq_rep r q f.1 h2, anyEq_rep q h2 t f.2]
theorem op_inDD (neg : Bool) (hK : X.K = K) : OpR X (compareOp (if neg then .NotIn else .In)) (R2D K (inD neg)) := by
  subst hK
  refine OpR.imp (r := rIn X.K neg) (by cases neg; exact op_in_seq; exact op_notIn_seq) fun x y H Q h => ?_
  obtain ⟨μ, s, dx, dy, d, s', S, rx, ry, h, q⟩ := h
  unfold inD at h
  split at h
  · rename_i xs hx
    split at h
    · rename_i hf
      rw [Bool.and_eq_true] at hf
      cases h
      obtain ⟨a, vs, rfl, sq, r⟩ := items_rep S ry hx
      refine ⟨a, vs, rfl, sq, flat_rep rx hf.1, flats_rep r hf.2, ?_⟩
      have e : (if neg = true then !inV x vs else inV x vs) = ((xs.any fun z => flatEq z dx) ^^ neg) := by
        unfold inV
        rw [anyEq_rep rx hf.1 r hf.2]
        cases neg <;> simp
      rw [e]
      exact q _ H μ .refl S (.bl _)
    · cases h
  · cases h
theorem op_inD (hK : X.K = K) : OpR X (compareOp .In) (R2D K (inD false)) := op_inDD false hK
theorem op_notInD (hK : X.K = K) : OpR X (compareOp .NotIn) (R2D K (inD true)) := op_inDD true hK
theorem inD_bl {neg : Bool} : ∀ x y s d s', inD neg x y s = .ok d s' → ∃ b, d = .bl b := by
  intro x y s d s' h
  unfold inD at h
  split at h
  · split at h
    · cases h; exact ⟨_, rfl⟩
    · cases h
  · cases h
end
end Cs

/-! ## CsSim4 -/
namespace Cs
open PySem PySem.Spec PyProof.Rows L2
/-! ### t[::-1] of a tuple -/
section
variable {prog : Program} {w : World} {A : Around} {E : Value → Shared → Prop} {s : Shared}
theorem places_back (n : Nat) : Builtin.Slice.slicePlaces ((n : Int) - 1) (-1) (-1) = n := by
  unfold Builtin.Slice.slicePlaces
  by_cases h : n = 0
  · subst h; rfl
  · rw [if_neg (by decide), if_pos (by omega)]
    have e : ((n : Int) - 1 - -1 - 1) / (- -1) + 1 = (n : Int) := by
      rw [show (- -1 : Int) = 1 by decide, Int.ediv_one]
      omega
    rw [e]
    exact Int.toNat_natCast n
theorem sliceApplied_back {sl : Addr} {vl vu vk : Value} {n : Nat} {Q : Int × Int × Nat → Shared → Prop} (hs : s.heap.IsSliceOf sl vl vu vk) (pl : IsPart vl none) (pu : IsPart vu none) (pk : IsPart vk (some (-1)))
    (h : Q ((n : Int) - 1, -1, n) s) : wpAny (model prog w) A (Builtin.Slice.sliceApplied (.ref sl) (pure (n : Int))) Q E s := by
  obtain ⟨os, hos, hcs, hds⟩ := id hs
  unfold Builtin.Slice.sliceApplied Builtin.Slice.sliceFields
  refine wpAny_bind (wpAny_bind (wpAny_field hos hds (x := vl) rfl (wpAny_bind (wpAny_field hos hds (x := vu) rfl (wpAny_bind (wpAny_field hos hds (x := vk) rfl (wpAny_pure ?_)))))))
  refine wpAny_bind (HT.slicePart_ pk ?_)
  show wpAny _ _ (if ((-1 : Int) == 0) = true then _ else _) _ _ s
  rw [if_neg (by decide)]
  refine wpAny_bind (HT.slicePart_ pl (wpAny_bind (HT.slicePart_ pu (wpAny_bind (wpAny_pure ?_)))))
  show wpAny _ _ (match Builtin.Slice.sliceAdjust none none (-1) (n : Int) with | (lo, hi) => pure (lo, (-1 : Int), Builtin.Slice.slicePlaces lo hi (-1))) _ _ s
  have e : Builtin.Slice.sliceAdjust none none (-1) (n : Int) = ((n : Int) - 1, -1) := by
    unfold Builtin.Slice.sliceAdjust
    simp
  rw [e]
  show wpAny _ _ (pure (((n : Int) - 1), (-1 : Int), Builtin.Slice.slicePlaces ((n : Int) - 1) (-1) (-1))) _ _ s
  rw [places_back]
  exact wpAny_pure h
theorem filterMap_cg {α β : Type} {f g : α → Option β} : ∀ l : List α, (∀ x ∈ l, f x = g x) → l.filterMap f = l.filterMap g
  | [], _ => rfl
  | x :: l, h => by
    rw [List.filterMap_cons, List.filterMap_cons, h x List.mem_cons_self, filterMap_cg l fun y hy => h y (List.mem_cons_of_mem _ hy)]
theorem pick_back (xs : Array Value) : ((List.range xs.size).filterMap fun (k : Nat) => xs[(((xs.size : Nat) : Int) - 1 + (k : Int) * (-1)).toNat]?).toArray = xs.toList.reverse.toArray := by
  have e : (List.range xs.size).filterMap (fun (k : Nat) => xs[(((xs.size : Nat) : Int) - 1 + (k : Int) * (-1)).toNat]?) = ((List.range xs.size).map fun k => xs.size - 1 - k).filterMap (xs[·]?) := by
    rw [List.filterMap_map]
    refine filterMap_cg _ fun k hk => ?_
    have := List.mem_range.mp hk
    have e : (((xs.size : Nat) : Int) - 1 + (k : Int) * (-1)).toNat = xs.size - 1 - k := by omega
    show xs[(((xs.size : Nat) : Int) - 1 + (k : Int) * (-1)).toNat]? = xs[xs.size - 1 - k]?
    rw [e]
  rw [e, PySem.W.krv_range, List.filterMap_reverse, PySem.W.krv_all]
theorem getItem_tuple_back {t sl : Addr} {items : Array Value} {vl vu vk : Value} {Q : Value → Shared → Prop} (ht : IsTup s.heap t items) (hs : s.heap.IsSliceOf sl vl vu vk) (pl : IsPart vl none) (pu : IsPart vu none) (pk : IsPart vk (some (-1)))
    (h : Q (.ref s.heap.objs.size) { s with heap := s.heap.push { cls := .type "tuple", data := .seq items.toList.reverse.toArray } })
    (hsz : items.size ≤ sizeLine) : wpAny (model prog w) A (getItem (.ref t) (.ref sl)) Q E s := by
  have htake : sizeOk (.seq items.toList.reverse.toArray) := by
    show items.toList.reverse.toArray.size ≤ sizeLine
    rw [List.size_toArray, List.length_reverse, Array.length_toList]
    exact hsz
  obtain ⟨os, hos, hcs, hds⟩ := id hs
  have hTs : s.TypeIs (.ref sl) "slice" := ⟨os, hos, hcs⟩
  unfold getItem
  try with_reducible refine wpAny_holding ?_
  first | refine wpAny_bind (wpAny_pure ?_) | skip
  refine wpAny_bind (wpAny_sequenceKey ht.typeIs (by decide) ?_)
  refine wpAny_bind (wpAny_callSpecial?_slot (name := Str.ofString "__getitem__") ht.typeIs PyProof.Rows.slot_tuple_getitem
    (wpAny_call_entry PyProof.Rows.slot_tuple_getitem ht.typeIs entry_tuple_getitem ?_ (args_tuple_getitem _ _)))
  show wpAny _ _ (Builtin.Tuple.tupleItemsOf (.ref t) >>= _) _ _ s
  refine wpAny_bind (tupleItemsOf_ ht ?_)
  refine wpAny_bind (wpAny_typeOf hTs ?_)
  rw [if_pos (by decide)]
  refine wpAny_bind (sliceApplied_back (n := items.size) hs pl pu pk ?_)
  have hno : ¬ ((((items.size : Nat) : Int) - 1 == 0 && (-1 : Int) == 1 && items.size == items.size) = true) := by
    intro q
    rw [Bool.and_eq_true, Bool.and_eq_true] at q
    exact absurd q.1.2 (by decide)
  show wpAny _ _ (if (((items.size : Nat) : Int) - 1 == 0 && (-1 : Int) == 1 && items.size == items.size) = true then _ else _) _ _ s
  rw [if_neg hno, pick_back]
  first
    | exact wpAny_bind (m := Builtin.Tuple.tupleExact _) (wpAny_newObj_type (wpAny_pure ⟨_, rfl, wpAny_pure h⟩) htake)
    | exact wpAny_bind (m := Builtin.Tuple.tupleExact _) (wpAny_newObj_type (wpAny_bind (wpAny_pure (wpAny_pure ⟨_, rfl, wpAny_pure h⟩))) htake)
    | exact wpAny_bind (wpAny_bind (m := Builtin.Tuple.tupleExact _) (wpAny_newObj_type (wpAny_pure (wpAny_pure ⟨_, rfl, wpAny_pure h⟩)) htake))
    | exact wpAny_bind (wpAny_bind (m := Builtin.Tuple.tupleExact _) (wpAny_newObj_type (wpAny_pure ⟨_, rfl, wpAny_pure h⟩) htake))
end
section
variable {X : Cx}
def tRevA (K : PySem.W.Frag) (te : TE) : TE := fun σ H Q => te σ H fun x H1 => ∃ a xs, x = .ref a ∧
  ((SqL K H1 a xs ∧ ∀ p, H1 p = none → Q (.ref p) (upd H1 p (.lst xs.reverse))) ∨ (SqT K H1 a xs ∧ ∀ p, H1 p = none → Q (.ref p) (upd H1 p (.tup xs.reverse))))
theorem pe_revA {e : Expr} {te : TE} {k : Nat} {p1 p2 p3 pos : Pos} (he : PE X e te) : PE X (.Subscript e (.Slice none none (some (.UnaryOp .USub (.Constant (.int 1) k p1) p2)) p3) pos) (tRevA X.K te) := by
  refine ⟨fun pins s σ H Q I h => ?_⟩
  refine Subscript_ (thn (he.run pins s σ H _ I h) fun v s1 ⟨x, H1, I1, r1, q1⟩ => ?_)
  obtain ⟨a, xs, ex, hx⟩ := q1
  subst ex
  cases r1
  have hst : PO X (some (.UnaryOp .USub (.Constant (.int 1) k p1) p2)) (tPart (tUn (rU fun i => .int (-i)) (tC (.int 1)))) := po_some (pe_un un_neg pe_int)
  refine wpAny_Slice (thn (po_none.run pins s1 σ H1 (fun o H2 => o = none ∧ H2 = H1) I1 ⟨rfl, rfl⟩) fun vl s2 ⟨l, H2, I2, pl, el, e2⟩ => ?_)
  subst el e2
  refine thn (po_none.run pins s2 σ H2 (fun o H3 => o = none ∧ H3 = H2) I2 ⟨rfl, rfl⟩) fun vu s3 ⟨u, H3, I3, pu, eu, e3⟩ => ?_
  subst eu e3
  refine thn (hst.run pins s3 σ H3 (fun o H4 => o = some (-1) ∧ H4 = H3) I3 ⟨1, rfl, -1, rfl, rfl, rfl⟩) fun vs s4 ⟨o, H4, I4, ps, eo, e4⟩ => ?_
  subst eo e4
  have I5 : Inv X pins σ H4 { s4 with heap := s4.heap.push { cls := .type "slice", data := .fields #[vl, vu, vs] } } := I4.kept (t' := s4.toks) fun b ob q => Heap.get?_push_of_some _ q
  rcases hx with ⟨hx, q⟩ | ⟨hx, q⟩
  · obtain ⟨its, r, ht, hz⟩ := I5.list hx
    have hlen := r.length
    show wpAny (model X.prog X.w) X.A (subscriptTail e (.Slice none none (some (.UnaryOp .USub (.Constant (.int 1) k p1) p2)) p3) (.ref a) (.ref s4.heap.objs.size)) (EP X pins σ Q) X.xe { s4 with heap := s4.heap.push { cls := .type "slice", data := .fields #[vl, vu, vs] } }
    refine tail_any (ops := [.ref a, .ref s4.heap.objs.size]) ht.isList.typeIs (PySem.slot_list_getitem.lookup) ?_ (by with_unfolding_all rfl)
    refine wpAny_getItem_list_slice ht.isList (Heap.IsSliceOf.new _ vl vu vs) pl pu ps (by decide) ?_ (by rw [List.size_toArray]; omega)
    rw [PySem.W.krv_pick]
    refine ⟨.ref _, _, I5.laid (t' := s4.toks) (o := .lst xs.reverse) (fun b ob q => Heap.get?_push_of_some _ q) (Nat.le_refl _) ?_, rfl, q _ (I5.hok.fresh (Nat.le_refl _))⟩
    exact ⟨by rw [List.length_reverse]; exact hz, _, 0, r.reverse, Heap.get?_push_size _ rfl⟩
  · obtain ⟨its, r, ht, hz⟩ := I5.tuple hx
    have hlen := r.length
    show wpAny (model X.prog X.w) X.A (subscriptTail e (.Slice none none (some (.UnaryOp .USub (.Constant (.int 1) k p1) p2)) p3) (.ref a) (.ref s4.heap.objs.size)) (EP X pins σ Q) X.xe { s4 with heap := s4.heap.push { cls := .type "slice", data := .fields #[vl, vu, vs] } }
    refine tail_any (ops := [.ref a, .ref s4.heap.objs.size]) ht.typeIs PyProof.Rows.slot_tuple_getitem.lookup ?_ (by with_unfolding_all rfl)
    refine getItem_tuple_back ht (Heap.IsSliceOf.new _ vl vu vs) pl pu ps ?_ (by rw [List.size_toArray]; omega)
    refine ⟨.ref _, _, I5.laid (t' := s4.toks) (o := .tup xs.reverse) (fun b ob q => Heap.get?_push_of_some _ q) (Nat.le_refl _) ?_, rfl, q _ (I5.hok.fresh (Nat.le_refl _))⟩
    exact ⟨by rw [List.length_reverse]; exact hz, its.reverse, r.reverse, IsTup.new _ _⟩
end
/-! ### places, slices -/
section
variable {K : PySem.W.Frag} {μ : List Addr} {H : Hp} {s s' : Sto} {g : Gb} {c : Cc} {X : Cx} {m ma mb mc : Sem} {e a b d : Expr} {pos : Pos}
theorem Reps.reverse {ds : List D} {vs : List V} (h : Reps K H μ vs ds) : Reps K H μ vs.reverse ds.reverse := by
  induction ds generalizing vs with
  | nil => cases h; exact .nil
  | cons d ds ih =>
    cases h with
    | cons r q =>
      rw [List.reverse_cons, List.reverse_cons]
      exact (ih q).append (.cons r .nil)
theorem je_rev {e : Expr} {k : Nat} {p1 p2 p3 : Pos} (he : JE g c m e) : JE g c (xUn revD m) (.Subscript e (.Slice none none (some (.UnaryOp .USub (.Constant (.int 1) k p1) p2)) p3) pos) := by
  refine je_mk (fun X ok => PE.imp (pe_revA (he X ok).1) fun σ H Q h => ?_) (by intro _ _; rfl)
  rw [ok.K]
  obtain ⟨μ, s, env, d, s', S, E, hv, q⟩ := h
  obtain ⟨d1, s1, h1, hv⟩ := bind_ok hv
  refine ⟨μ, s, env, d1, s1, S, E, h1, fun v1 H1 μ1 x1 S1 r1 => ?_⟩
  unfold revD at hv
  split at hv
  · cases hv
    cases r1 with
    | @tup a vs _ tx px =>
    refine ⟨a, vs, rfl, .inr ⟨tx, fun p hp => ?_⟩⟩
    obtain ⟨x2, S2, r2⟩ := rep_tup S1 hp px.reverse
    exact q _ _ μ1 (x1.trans x2) S2 r2
  · split at hv
    · rename_i ex
      cases hv
      cases r1 with
      | ref rx =>
      obtain ⟨_, vx, hx, px⟩ := Rep.lst_at S1 (.ref rx) ex
      refine ⟨_, vx, rfl, .inl ⟨.of hx, fun p hp => ?_⟩⟩
      obtain ⟨x2, S2, r2⟩ := rep_lst S1 hp px.reverse
      exact q _ _ _ (x1.trans x2) S2 r2
    · cases hv
  · cases hv
theorem atI_rep {ds : List D} {vs : List V} {i : Int} {d : D} (r : Reps K H μ vs ds) (h : atI ds i = some d) : ∃ v, atI vs i = some v ∧ Rep K H μ v d := by
  unfold atI at h ⊢
  rw [r.length]
  obtain ⟨j, h1, h2⟩ := Option.bind_eq_some_iff.mp h
  obtain ⟨v, e, q⟩ := r.get h2
  exact ⟨v, by rw [h1]; exact e, q⟩
def plainIx : Expr → Bool
  | .Slice _ _ _ _ => false
  | _ => true
theorem je_ix (ha : JE g c ma a) (hb : JE g c mb b) (hs : PlainIx b := by exact fun _ _ => rfl) : JE g c (xBin ixD ma mb) (.Subscript a b pos) := by
  refine je_mk (fun X ok => PE.imp (pe_ix ix_seq (ha X ok).1 (hb X ok).1 hs) fun σ H Q h => ?_) (by intro _ _; rfl)
  obtain ⟨μ0, s0, env0, d1, s1, S0, E0, h1, qa⟩ := rd_two h
  refine ⟨μ0, s0, env0, d1, s1, S0, E0, h1, fun v1 H1 μ1 x1 S1 r1 => ?_⟩
  obtain ⟨μa, sa, env, d2, s2, Sa, E, h2, qb⟩ := qa v1 H1 μ1 x1 S1 r1
  refine ⟨μa, sa, env, d2, s2, Sa, E, h2, fun v2 H2 μ2 x2 S2 r2 => ?_⟩
  obtain ⟨μ, s, dx, dy, d, s', S, rx, ry, h, q⟩ := qb v2 H2 μ2 x2 S2 r2
  rw [ok.K]
  unfold ixD at h
  split at h
  · cases ry
    split at h
    · rename_i xs hx
      split at h
      · rename_i d hd
        cases h
        obtain ⟨p, vs, rfl, sq, r⟩ := items_rep S rx hx
        obtain ⟨v, hv, rv⟩ := atI_rep r hd
        rcases sq with sq | sq
        · exact .inl ⟨p, vs, _, v, rfl, rfl, sq, hv, q _ _ _ .refl S rv⟩
        · exact .inr (.inl ⟨p, vs, _, v, rfl, rfl, sq, hv, q _ _ _ .refl S rv⟩)
      · cases h
    · split at h
      · split at h
        · rename_i hz
          split at h
          · rename_i c hc
            cases h
            cases rx
            exact .inr (.inr ⟨_, _, c, rfl, rfl, hz, hc, q _ _ _ .refl S (.str _)⟩)
          · cases h
        · cases h
      · cases h
  · cases h
theorem jo_no : JO g c oNo none := fun X ok => PO.imp po_none fun σ H Q h => by
  obtain ⟨μ, s, env, d, s', S, E, hv, q⟩ := h
  cases hv
  exact q H μ .refl S
theorem jo_yes (ha : JE g c ma a) : JO g c (oYes ma) (some a) := fun X ok => PO.imp (po_some (ha X ok).1) fun σ H Q h => by
  obtain ⟨μ, s, env, d, s', S, E, hv, q⟩ := h
  obtain ⟨d1, s1, h1, hv⟩ := bind_ok hv
  refine ⟨μ, s, env, d1, s1, S, E, h1, fun v1 H1 μ1 x1 S1 r1 => ?_⟩
  split at hv
  · cases hv
    cases r1
    exact ⟨_, rfl, q H1 μ1 x1 S1⟩
  · cases hv
theorem sIx_le' (n d : Nat) (hd : d ≤ n) (o : Option Int) : HT.sIx n d o ≤ n := HT.sIx_le n d hd o
theorem je_slc {lo hi : Option Expr} {ml mh : EvO} {p2 : Pos} (ha : JE g c ma a) (hl : JO g c ml lo) (hh : JO g c mh hi) : JE g c (xSlc ma ml mh) (.Subscript a (.Slice lo hi none p2) pos) := by
  refine je_mk (fun X ok => PE.imp (pe_slice (sl_tupA.or sl_list) (ha X ok).1 (hl X ok) (hh X ok)) fun σ H Q h => ?_) (by intro _ _; rfl)
  rw [ok.K]
  obtain ⟨μ, s, env, d, s', S, E, hv, q⟩ := h
  obtain ⟨d1, s1, h1, hv⟩ := bind_ok hv
  obtain ⟨l, s2, h2, hv⟩ := bind_ok hv
  obtain ⟨u, s3, h3, hv⟩ := bind_ok hv
  refine ⟨μ, s, env, d1, s1, S, E, h1, fun v1 H1 μ1 x1 S1 r1 => ?_⟩
  refine ⟨μ1, s1, env, l, s2, S1, E.mono S x1, h2, fun H2 μ2 x2 S2 => ?_⟩
  refine ⟨μ2, s2, env, u, s3, S2, (E.mono S x1).mono S1 x2, h3, fun H3 μ3 x3 S3 => ?_⟩
  have r3 := r1.mono S1 (x2.trans x3)
  unfold slcD at hv
  split at hv
  · cases hv
    cases r3 with
    | @tup a vs _ tx px =>
    have xx := x1.trans (x2.trans x3)
    refine .inl ⟨a, vs, rfl, tx, fun hw => ?_, fun hw p hp => ?_⟩
    · refine q _ _ μ3 xx S3 (.tup tx ?_)
      have pc := px.cut l u
      have e : cutV vs l u = vs := by
        unfold cutV
        rw [hw.1, hw.2]
        simp
      rw [e] at pc
      exact pc
    · obtain ⟨x4, S4, r4⟩ := rep_tup S3 hp (px.cut l u)
      exact q _ _ μ3 (xx.trans x4) S4 r4
  · split at hv
    · rename_i ex
      cases hv
      cases r3 with
      | ref rx =>
      obtain ⟨_, vx, hx, px⟩ := Rep.lst_at S3 (.ref rx) ex
      refine .inr ⟨_, vx, rfl, .of hx, fun p hp => ?_⟩
      obtain ⟨x4, S4, r4⟩ := rep_lst S3 hp (px.cut l u)
      exact q _ _ _ ((x1.trans (x2.trans x3)).trans x4) S4 r4
    · cases hv
  · cases hv
/-! ### built-in functions -/
theorem cr_absD (hK : X.K = K) : CallR X (.builtin "abs") (RnD K absB) := by
  subst hK
  refine CallR.imp call_abs fun xs H Q h => ?_
  obtain ⟨μ, s, ds, d, s', S, r, h, q⟩ := h
  unfold absB at h
  split at h
  · cases h
    cases r with
    | cons r1 r2 =>
    cases r2; cases r1
    exact ⟨_, rfl, q _ H μ .refl S (.int _)⟩
  · cases h
theorem cr_max2D (hK : X.K = K) (hc : X.calm = true) : CallR X (.builtin "max") (RnD K max2B) := by
  subst hK
  refine CallR.imp (call_max2 hc) fun xs H Q h => ?_
  obtain ⟨μ, s, ds, d, s', S, r, h, q⟩ := h
  unfold max2B at h
  split at h
  · cases h
    cases r with
    | cons r1 r2 =>
    cases r2 with
    | cons r2 r3 =>
    cases r3; cases r1; cases r2
    exact ⟨_, _, rfl, q _ H μ .refl S (.int _)⟩
  · cases h
theorem cr_min2D (hK : X.K = K) (hc : X.calm = true) : CallR X (.builtin "min") (RnD K min2B) := by
  subst hK
  refine CallR.imp (call_min2 hc) fun xs H Q h => ?_
  obtain ⟨μ, s, ds, d, s', S, r, h, q⟩ := h
  unfold min2B at h
  split at h
  · cases h
    cases r with
    | cons r1 r2 =>
    cases r2 with
    | cons r2 r3 =>
    cases r3; cases r1; cases r2
    exact ⟨_, _, rfl, q _ H μ .refl S (.int _)⟩
  · cases h
theorem cr_intD (hK : X.K = K) : CallR X (.type "int") (RnD K intB) := by
  subst hK
  refine CallR.imp call_int1 fun xs H Q h => ?_
  obtain ⟨μ, s, ds, d, s', S, r, h, q⟩ := h
  unfold intB at h
  split at h
  · cases h
    cases r with
    | cons r1 r2 =>
    cases r2; cases r1
    exact .inl ⟨_, rfl, q _ H μ .refl S (.int _)⟩
  · cases h
    cases r with
    | cons r1 r2 =>
    cases r2; cases r1
    exact .inr ⟨_, rfl, q _ H μ .refl S (.int _)⟩
  · cases h
theorem cr_lenD (hK : X.K = K) : CallR X (.builtin "len") (RnD K lenB) := by
  subst hK
  refine CallR.imp call_len fun xs H Q h => ?_
  obtain ⟨μ, s, ds, d, s', S, r, h, q⟩ := h
  have sq : ∀ (x : D) (ys : List D) (v : V), Rep X.K H μ v x → items x s = some ys → ∃ n, LenV X.K v H n ∧ n = ys.length := fun x ys v rv hx => by
    obtain ⟨a, vs, rfl, q, r⟩ := items_rep S rv hx
    refine ⟨ys.length, ?_, rfl⟩
    rcases q with q | q
    · exact .inl ⟨vs, q, r.length.symm⟩
    · exact .inr ⟨vs, q, r.length.symm⟩
  unfold lenB at h
  split at h
  · split at h
    · rename_i hz
      cases h
      cases r with
      | cons r1 r2 =>
      cases r2; cases r1
      exact ⟨_, _, rfl, ⟨hz, rfl⟩, q _ H μ .refl S (.int _)⟩
    · cases h
  · split at h
    · rename_i ys ex
      cases h
      cases r with
      | cons r1 r2 =>
      cases r2
      obtain ⟨n, a, b⟩ := sq _ ys _ r1 (by unfold items; dsimp only; rw [ex])
      subst b
      exact ⟨_, _, rfl, a, q _ H μ .refl S (.int _)⟩
    · rename_i kvs ex
      obtain ⟨a, _, ro⟩ := S.at ex
      exact ro.elim
    · cases h
  · split at h
    · rename_i ys hx
      cases h
      cases r with
      | cons r1 r2 =>
      cases r2
      obtain ⟨n, a, b⟩ := sq _ ys _ r1 hx
      subst b
      exact ⟨_, _, rfl, a, q _ H μ .refl S (.int _)⟩
    · cases h
  · cases h
theorem cr_tupleD (hK : X.K = K) : CallR X (.type "tuple") (RnD K tupleB) := by
  subst hK
  refine CallR.imp call_tuple_of fun xs H Q h => ?_
  obtain ⟨μ, s, ds, d, s', S, r, h, q⟩ := h
  unfold tupleB at h
  split at h
  · split at h
    · rename_i ys hx
      cases h
      cases r with
      | cons r1 r2 =>
      cases r2
      obtain ⟨a, vs, rfl, sq, rr⟩ := items_rep S r1 hx
      refine ⟨a, vs, rfl, ?_⟩
      rcases sq with sq | sq
      · refine .inl ⟨sq, fun p hp => ?_⟩
        obtain ⟨x2, S2, r2⟩ := rep_tup S hp rr
        exact q _ _ μ x2 S2 r2
      · exact .inr ⟨sq, q _ H μ .refl S (.tup sq rr)⟩
    · cases h
  · cases h
theorem cr_listD (hK : X.K = K) : CallR X (.type "list") (RnD K listB) := by
  subst hK
  refine CallR.imp call_list_of fun xs H Q h => ?_
  obtain ⟨μ, s, ds, d, s', S, r, h, q⟩ := h
  unfold listB at h
  split at h
  · split at h
    · rename_i ys hx
      cases h
      cases r with
      | cons r1 r2 =>
      cases r2
      obtain ⟨a, vs, rfl, sq, rr⟩ := items_rep S r1 hx
      refine ⟨a, vs, rfl, sq, fun p hp => ?_⟩
      obtain ⟨x2, S2, r2⟩ := rep_lst S hp rr
      exact q _ _ _ x2 S2 r2
    · cases h
  · cases h
theorem bools_rep : ∀ {ds : List D} {vs : List V} {bs : List Bool}, Reps K H μ vs ds → bools ds = some bs → vs = bs.map V.bl
  | [], _, _, r, h => by cases r; cases h; rfl
  | .bl b :: ds, _, bs, r, h => by
    obtain ⟨cs, h1, rfl⟩ := Option.map_eq_some_iff.mp (show (bools ds).map (b :: ·) = some bs from h)
    cases r with
    | cons r1 r2 =>
      cases r1
      rw [bools_rep r2 h1]; rfl
  | .non :: _, _, _, _, h => by cases h
  | .int _ :: _, _, _, _, h => by cases h
  | .str _ :: _, _, _, _, h => by cases h
  | .tup _ :: _, _, _, _, h => by cases h
  | .fix _ :: _, _, _, _, h => by cases h
  | .ref _ :: _, _, _, _, h => by cases h
theorem ints_rep : ∀ {ds : List D} {vs : List V} {bs : List Int}, Reps K H μ vs ds → intsD ds = some bs → vs = bs.map V.int
  | [], _, _, r, h => by cases r; cases h; rfl
  | .int b :: ds, _, bs, r, h => by
    obtain ⟨cs, h1, rfl⟩ := Option.map_eq_some_iff.mp (show (intsD ds).map (b :: ·) = some bs from h)
    cases r with
    | cons r1 r2 =>
      cases r1
      rw [ints_rep r2 h1]; rfl
  | .non :: _, _, _, _, h => by cases h
  | .bl _ :: _, _, _, _, h => by cases h
  | .str _ :: _, _, _, _, h => by cases h
  | .tup _ :: _, _, _, _, h => by cases h
  | .fix _ :: _, _, _, _, h => by cases h
  | .ref _ :: _, _, _, _, h => by cases h
theorem cr_allD (hK : X.K = K) (hc : X.calm = true) : CallR X (.builtin "all") (RnD K allB) := by
  subst hK
  refine CallR.imp (cr_all hc) fun xs H Q h => ?_
  obtain ⟨μ, s, ds, d, s', S, r, h, q⟩ := h
  unfold allB at h
  split at h
  · split at h
    · rename_i bs hx
      cases h
      cases r with
      | cons r1 r2 =>
      cases r2
      obtain ⟨ys, h1, h2⟩ := Option.bind_eq_some_iff.mp hx
      obtain ⟨a, vs, rfl, sq, rr⟩ := litems_rep S r1 h1
      exact ⟨a, bs, rfl, by rw [← bools_rep rr h2]; exact sq, q _ H μ .refl S (.bl _)⟩
    · cases h
  · cases h
theorem cr_anyD (hK : X.K = K) (hc : X.calm = true) : CallR X (.builtin "any") (RnD K anyB) := by
  subst hK
  refine CallR.imp (cr_any hc) fun xs H Q h => ?_
  obtain ⟨μ, s, ds, d, s', S, r, h, q⟩ := h
  unfold anyB at h
  split at h
  · split at h
    · rename_i bs hx
      cases h
      cases r with
      | cons r1 r2 =>
      cases r2
      obtain ⟨ys, h1, h2⟩ := Option.bind_eq_some_iff.mp hx
      obtain ⟨a, vs, rfl, sq, rr⟩ := litems_rep S r1 h1
      exact ⟨a, bs, rfl, by rw [← bools_rep rr h2]; exact sq, q _ H μ .refl S (.bl _)⟩
    · cases h
  · cases h
theorem cr_sumD (hK : X.K = K) (hc : X.calm = true) : CallR X (.builtin "sum") (RnD K sumB) := by
  subst hK
  refine CallR.imp (cr_sum hc) fun xs H Q h => ?_
  obtain ⟨μ, s, ds, d, s', S, r, h, q⟩ := h
  unfold sumB at h
  split at h
  · split at h
    · rename_i bs hx
      cases h
      cases r with
      | cons r1 r2 =>
      cases r2
      obtain ⟨ys, h1, h2⟩ := Option.bind_eq_some_iff.mp hx
      obtain ⟨a, vs, rfl, sq, rr⟩ := litems_rep S r1 h1
      exact ⟨a, bs, rfl, by rw [← ints_rep rr h2]; exact sq, q _ H μ .refl S (.int _)⟩
    · cases h
  · cases h
/-! ### isinstance -/
theorem ty_of (S : Sim K μ H s) {v : V} {d : D} {n : String} (r : Rep K H μ v d) (h : tyName d s = some n) : TyX K H v (.type n) := by
  cases r with
  | non => cases h; exact .base .non
  | bl b => cases h; exact .base (.bl b)
  | int i => cases h; exact .base (.int i)
  | str x => cases h; exact .base (.str x)
  | tup q r =>
    cases h
    rcases q with (q | ⟨o, q⟩) | ⟨o, its, n, e, hc, _⟩
    · exact .base (.tup q)
    · exact .fTuple q
    · exact .kTuple e hc
  | fix q r =>
    cases h
    rcases q with ⟨o, q⟩ | ⟨o, its, n, e, hc, _⟩
    · exact .base (.frz q)
    · exact .kList e hc
  | @ref i a q =>
    obtain ⟨o, e, ro⟩ := S.ob i a q
    unfold tyName at h
    dsimp only at h
    rw [e] at h
    cases o with
    | lst ds => cases h; obtain ⟨vs, e1, r1⟩ := ro; exact .base (.lst e1)
    | dct kvs => exact ro.elim
theorem isTy_kit {d : D} {t : Ty} {b : Bool} (h : isTy d s t = some b) : ∃ n, tyName d s = some n ∧ PySem.W.kitOne K (.type n) (.type t.name) = some b := by
  have key : ∀ n : String, kitB n t.name = some b → PySem.W.kitOne K (.type n) (.type t.name) = some b := fun n h => kit_ty h
  cases d with
  | non => refine ⟨_, rfl, key _ ?_⟩; cases h; cases t <;> decide +kernel
  | bl _ => refine ⟨_, rfl, key _ ?_⟩; cases h; cases t <;> decide +kernel
  | int _ => refine ⟨_, rfl, key _ ?_⟩; cases h; cases t <;> decide +kernel
  | str _ => refine ⟨_, rfl, key _ ?_⟩; cases h; cases t <;> decide +kernel
  | tup _ => refine ⟨_, rfl, key _ ?_⟩; cases h; cases t <;> decide +kernel
  | fix _ => refine ⟨_, rfl, key _ ?_⟩; cases h; cases t <;> decide +kernel
  | ref i =>
    unfold isTy at h
    unfold tyName
    dsimp only at h ⊢
    cases e : s.get i with
    | none => rw [e] at h; cases h
    | some o =>
      rw [e] at h
      cases o with
      | lst ds => refine ⟨_, rfl, key _ ?_⟩; cases h; cases t <;> decide +kernel
      | dct kvs => refine ⟨_, rfl, key _ ?_⟩; cases h; cases t <;> decide +kernel
/-- isinstance(e, T) -/
theorem je_isi {t : Ty} {e : Expr} {p p2 : Pos} {x : Str} (hx : x = Str.ofString t.name) (hs : c.sc.names.lookup ("isinstance" : Str) = some .globalImplicit) (hm : g.mg ("isinstance" : Str) = none) (hs2 : c.sc.names.lookup x = some .globalImplicit) (hm2 : g.mg x = none)
    (he : JE g c m e) (hst : noStar e = true := by rfl) : JE g c (xUn (isiD [t]) m) (.Call (.Name "isinstance" p) [e, .Name x p2] [] pos) := by
  have hb : bootBuiltins x = some (.type t.name) := by subst hx; cases t <;> decide +kernel
  have hn : x ≠ "__name__" := by subst hx; cases t <;> decide +kernel
  have hd : (x == ("__debug__" : Str)) = false := by subst hx; cases t <;> decide +kernel
  refine je_mk (fun X ok => ?_) (by intro _ _; rfl)
  have pt : PE X (.Name x p2) (tC (.ty t.name)) := pe_bltn (by show X.env.scope.names.lookup x = _; rw [ok.sc]; exact hs2) (by rw [ok.mg]; exact hm2) hb rfl hn hd
  refine PE.imp (pe_callB call_isi (by show X.env.scope.names.lookup _ = _; rw [ok.sc]; exact hs) (by rw [ok.mg]; exact hm) (by decide +kernel) (pa_cons (he X ok).1 (pa_cons pt pa_nil) (star_cons hst _)) (by decide) (by decide) (star_cons hst _)) fun σ H Q h => ?_
  obtain ⟨μ, s, env, d, s', S, E, hv, q⟩ := h
  obtain ⟨d1, s1, h1, hv⟩ := bind_ok hv
  refine ⟨μ, s, env, d1, s1, S, E, h1, fun v1 H1 μ1 x1 S1 r1 => ?_⟩
  unfold isiD at hv
  split at hv
  · rename_i bs hbs
    cases hv
    obtain ⟨b, hb2⟩ : ∃ b, isTy d1 s' t = some b ∧ bs = [b] := by
      unfold mapO at hbs
      split at hbs
      · rename_i b ds e1 e2
        cases hbs
        cases e2
        exact ⟨b, e1, rfl⟩
      · cases hbs
    obtain ⟨hb2, rfl⟩ := hb2
    obtain ⟨n, hn2, hk⟩ := isTy_kit (K := X.K) hb2
    refine ⟨v1, .ty t.name, .type n, .type t.name, b, rfl, .ty _, ?_, hk, ?_⟩
    · rw [ok.K]; exact ty_of S1 r1 hn2
    · have e3 : ([b].any id) = b := by cases b <;> rfl
      rw [e3] at q
      exact q _ H1 μ1 x1 S1 (.bl b)
  · cases hv
theorem kitAny_two {K : PySem.W.Frag} {t c1 c2 : Value} {b1 b2 : Bool} (h1 : PySem.W.kitOne K t c1 = some b1) (h2 : PySem.W.kitOne K t c2 = some b2) : PySem.W.kitAny K t [c1, c2] = some ([b1, b2].any id) :=
  kitAny_cons h1 (fun e => kitAny_cons h2 (fun e2 => by subst e e2; exact kitAny_nil) fun e2 => by subst e e2; rfl) fun e => by subst e; rfl
/-- isinstance(e, (T, U)) -/
theorem je_isi2 {t u : Ty} {e : Expr} {p p2 p3 p4 : Pos} {k : Nat} {x y : Str} (hx : x = Str.ofString t.name) (hy : y = Str.ofString u.name) (hs : c.sc.names.lookup ("isinstance" : Str) = some .globalImplicit) (hm : g.mg ("isinstance" : Str) = none) (hs2 : c.sc.names.lookup x = some .globalImplicit) (hm2 : g.mg x = none)
    (hs3 : c.sc.names.lookup y = some .globalImplicit) (hm3 : g.mg y = none) (he : JE g c m e) (hst : noStar e = true := by rfl) : JE g c (xUn (isiD [t, u]) m) (.Call (.Name "isinstance" p) [e, .Tuple [.Name x p2, .Name y p3] k p4] [] pos) := by
  have hb : bootBuiltins x = some (.type t.name) := by subst hx; cases t <;> decide +kernel
  have hn : x ≠ "__name__" := by subst hx; cases t <;> decide +kernel
  have hd : (x == ("__debug__" : Str)) = false := by subst hx; cases t <;> decide +kernel
  have hb' : bootBuiltins y = some (.type u.name) := by subst hy; cases u <;> decide +kernel
  have hn' : y ≠ "__name__" := by subst hy; cases u <;> decide +kernel
  have hd' : (y == ("__debug__" : Str)) = false := by subst hy; cases u <;> decide +kernel
  refine je_mk (fun X ok => ?_) (by intro _ _; rfl)
  have pt : PE X (.Name x p2) (tC (.ty t.name)) := pe_bltn (by show X.env.scope.names.lookup x = _; rw [ok.sc]; exact hs2) (by rw [ok.mg]; exact hm2) hb rfl hn hd
  have pu : PE X (.Name y p3) (tC (.ty u.name)) := pe_bltn (by show X.env.scope.names.lookup y = _; rw [ok.sc]; exact hs3) (by rw [ok.mg]; exact hm3) hb' rfl hn' hd'
  refine PE.imp (pe_callB call_isiT (by show X.env.scope.names.lookup _ = _; rw [ok.sc]; exact hs) (by rw [ok.mg]; exact hm) (by decide +kernel) (pa_cons (he X ok).1 (pa_cons (pe_tup (pa_cons pt (pa_cons pu pa_nil))) pa_nil) (star_cons hst _)) (by decide) (by decide) (star_cons hst _)) fun σ H Q h => ?_
  obtain ⟨μ, s, env, d, s', S, E, hv, q⟩ := h
  obtain ⟨d1, s1, h1, hv⟩ := bind_ok hv
  refine ⟨μ, s, env, d1, s1, S, E, h1, fun v1 H1 μ1 x1 S1 r1 => ?_⟩
  unfold isiD at hv
  split at hv
  · rename_i bs hbs
    cases hv
    refine ⟨by show 2 ≤ sizeLine; decide, fun tp htp => ?_⟩
    obtain ⟨b1, b2, hb1, hb2, rfl⟩ : ∃ b1 b2, isTy d1 s' t = some b1 ∧ isTy d1 s' u = some b2 ∧ bs = [b1, b2] := by
      unfold mapO at hbs
      split at hbs
      · rename_i b ds e1 e2
        cases hbs
        unfold mapO at e2
        split at e2
        · rename_i b' ds' e3 e4
          cases e2; cases e4
          exact ⟨b, b', e1, e3, rfl⟩
        · cases e2
      · cases hbs
    obtain ⟨n, hn2, hk⟩ := isTy_kit (K := X.K) hb1
    obtain ⟨n', hn3, hk'⟩ := isTy_kit (K := X.K) hb2
    rw [hn2] at hn3; cases hn3
    have sm : Same H1 (upd H1 tp (.tup [V.ty t.name, V.ty u.name])) := fun b x e => by
      rw [upd_ne (ne_of_none e htp)]; exact e
    have S2 := S1.same sm
    have r2 := r1.mono S1 (.same sm)
    refine ⟨v1, tp, _, .type n, [.type t.name, .type u.name], [b1, b2].any id, rfl, upd_same, .cons (.ty _) (.cons (.ty _) .nil), ?_, kitAny_two hk hk', ?_⟩
    · rw [ok.K]; exact ty_of S2 r2 hn2
    · exact q _ _ μ1 (x1.trans (.same sm)) S2 (.bl _)
  · cases hv
/-! ### methods of lists -/
theorem isL_ty (S : Sim K μ H s) {v : V} {d : D} (r : Rep K H μ v d) (h : isL d s = true) : tyV K "list" v H := by
  unfold isL at h
  split at h
  · split at h
    · rename_i ex
      cases r with
      | ref q =>
      obtain ⟨_, vs, hx, _⟩ := Rep.lst_at S (.ref q) ex
      exact .inl ⟨rfl, vs, .of hx⟩
    · cases h
  · cases h
theorem je_bm {id : String} {name : Str} {f : D → List D → Sto → R D} {ra : EvA} {o : Expr} {es : List Expr} {apos : Pos} (slot : Slot "list" name id) (hty : typeOf (.builtin id) = pure (.type "method_descriptor")) (hf : ∀ X : Cx, c.Ok g X → MtR X id (RmD g.K f))
    (ho : JE g c m o) (ha : JA g c ra (a :: es)) (hst : (a :: es).all noStar = true := by rfl)
    (hbase : ∀ env, attributeBase o name env (eval o env) = eval o env := by intro _; rfl)
    (hfew : ∀ env, ((backTo pos (starEach (a :: es) env)).all (fun x => !x.1) && (backToKw pos (keywordEach [] env)).all (fun x => x.1.isSome)
      && decide ((a :: es).length + ([] : List Keyword).length + (if ([] : List Keyword).isEmpty then 0 else 1) < 30)) = true := by intro _; rfl)
    (hline : (apos.endLine == pos.line) = true := by rfl) : JE g c (xMeth f m ra) (.Call (.Attribute o name apos) (a :: es) [] pos) := by
  have h2 := hst
  rw [List.all_cons, Bool.and_eq_true] at h2
  refine je_mk (fun X ok => PE.imp (pe_bm PySem.F.plainAttrs_list slot hty (hf X ok) (ho X ok).1 (ha X ok) (hbase _) (hfew _) hline (star_cons h2.1 _) (star_any h2.2 _ _)) fun σ H Q h => ?_) (by intro _ _; rfl)
  obtain ⟨μ, s, env, d, s', S, E, hv, q⟩ := h
  obtain ⟨d1, s1, h1, hv⟩ := bind_ok hv
  refine ⟨μ, s, env, d1, s1, S, E, h1, fun v1 H1 μ1 x1 S1 r1 => ?_⟩
  split at hv
  · rename_i hl
    obtain ⟨ds, s2, h2', hv⟩ := bind_ok hv
    refine ⟨by rw [ok.K]; exact isL_ty S1 r1 hl, μ1, s1, env, ds, s2, S1, E.mono S x1, h2', fun vs H2 μ2 x2 S2 r2 => ?_⟩
    exact ⟨μ2, s2, d1, ds, d, s', S2, r1.mono S1 x2, r2, hv, fun v H' μ' x3 S3 r3 => q v H' μ' (x1.trans (x2.trans x3)) S3 r3⟩
  · cases hv
theorem je_bm0 {id : String} {name : Str} {f : D → List D → Sto → R D} {o : Expr} {apos : Pos} (slot : Slot "list" name id) (hty : typeOf (.builtin id) = pure (.type "method_descriptor")) (hf : ∀ X : Cx, c.Ok g X → MtR X id (RmD g.K f))
    (ho : JE g c m o) (hbase : ∀ env, attributeBase o name env (eval o env) = eval o env := by intro _; rfl)
    (hline : (apos.endLine == pos.line) = true := by rfl) : JE g c (xMeth f m aNil) (.Call (.Attribute o name apos) [] [] pos) := by
  refine je_mk (fun X ok => PE.imp (pe_bm0 PySem.F.plainAttrs_list slot hty (hf X ok) (ho X ok).1 (hbase _) hline) fun σ H Q h => ?_) (by intro _ _; rfl)
  obtain ⟨μ, s, env, d, s', S, E, hv, q⟩ := h
  obtain ⟨d1, s1, h1, hv⟩ := bind_ok hv
  refine ⟨μ, s, env, d1, s1, S, E, h1, fun v1 H1 μ1 x1 S1 r1 => ?_⟩
  split at hv
  · rename_i hl
    have hv : f d1 [] s1 = .ok d s' := hv
    exact ⟨by rw [ok.K]; exact isL_ty S1 r1 hl, μ1, s1, d1, [], d, s', S1, r1, .nil, hv, fun v H' μ' x3 S3 r3 => q v H' μ' (x1.trans x3) S3 r3⟩
  · cases hv
theorem MtR.imp {id : String} {r r' : V → List V → Hp → VK → Prop} (h : MtR X id r) (i : ∀ x xs H Q, r' x xs H Q → r x xs H Q) : MtR X id r' := fun pins s σ H x xs v us Q I rx rs q => h pins s σ H x xs v us Q I rx rs (i x xs H Q q)
theorem mt_appendD (hK : X.K = K) : MtR X "list.append" (RmD K appendM) := by
  subst hK
  refine MtR.imp mt_append fun x xs H Q h => ?_
  obtain ⟨μ, s, dx, ds, d, s', S, rx, rs, h, q⟩ := h
  unfold appendM at h
  split at h
  · split at h
    · rename_i ex
      split at h
      · rename_i hz
        cases h
        cases rx with
        | ref rx =>
        cases rs with
        | cons r1 r2 =>
        cases r2
        obtain ⟨hm, vx, hx, px⟩ := Rep.lst_at S (.ref rx) ex
        obtain ⟨x2, S2⟩ := rep_set (o := .lst []) S hm (px.append (.cons r1 .nil))
        exact ⟨_, vx, _, rfl, rfl, hx, by rw [px.length]; exact hz, q _ _ μ x2 S2 .non⟩
      · cases h
    · cases h
  · cases h
theorem mt_extendD (hK : X.K = K) : MtR X "list.extend" (RmD K extendM) := by
  subst hK
  refine MtR.imp mt_extend fun x xs H Q h => ?_
  obtain ⟨μ, s, dx, ds, d, s', S, rx, rs, h, q⟩ := h
  unfold extendM at h
  split at h
  · split at h
    · rename_i ex ey
      split at h
      · rename_i hz
        cases h
        cases rx with
        | ref rx =>
        cases rs with
        | cons r1 r2 =>
        cases r2
        cases r1 with
        | ref ry =>
        obtain ⟨hm, vx, hx, px⟩ := Rep.lst_at S (.ref rx) ex
        obtain ⟨_, vy, hy, py⟩ := Rep.lst_at S (.ref ry) ey
        obtain ⟨x2, S2⟩ := rep_set (o := .lst []) S hm (px.append py)
        exact ⟨_, _, vx, vy, rfl, rfl, hx, hy, by rw [px.length, py.length]; exact hz, q _ _ μ x2 S2 .non⟩
      · cases h
    · cases h
  · cases h
theorem mt_popD (hK : X.K = K) : MtR X "list.pop" (RmD K popM) := by
  subst hK
  refine MtR.imp (MtR.or mt_pop mt_popAt) fun x xs H Q h => ?_
  obtain ⟨μ, s, dx, ds, d, s', S, rx, rs, h, q⟩ := h
  unfold popM at h
  split at h
  · split at h
    · rename_i ex
      split at h
      · rename_i y hy
        cases h
        cases rx with
        | ref rx =>
        cases rs
        obtain ⟨hm, vx, hx, px⟩ := Rep.lst_at S (.ref rx) ex
        obtain ⟨v, hv, rv⟩ := px.get hy
        obtain ⟨x2, S2⟩ := rep_set (o := .lst []) S hm px.dropLast
        exact .inl ⟨_, vx, v, rfl, rfl, hx, by rw [px.length]; exact hv, q _ _ μ x2 S2 (rv.mono S x2)⟩
      · cases h
    · cases h
  · split at h
    · rename_i ex
      split at h
      · rename_i hz
        split at h
        · rename_i j hj
          split at h
          · rename_i y hy
            cases h
            cases rx with
            | ref rx =>
            cases rs with
            | cons r1 r2 =>
            cases r2
            cases r1
            obtain ⟨hm, vx, hx, px⟩ := Rep.lst_at S (.ref rx) ex
            obtain ⟨v, hv, rv⟩ := px.get hy
            obtain ⟨x2, S2⟩ := rep_set (o := .lst []) S hm (px.eraseIdx j)
            exact .inr ⟨_, vx, _, j, v, rfl, rfl, hx, hz.1, hz.2, by rw [px.length]; exact hj, hv, q _ _ μ x2 S2 (rv.mono S x2)⟩
          · cases h
        · cases h
      · cases h
    · cases h
  · cases h
theorem mt_clearD (hK : X.K = K) : MtR X "list.clear" (RmD K clearM) := by
  subst hK
  refine MtR.imp mt_clear fun x xs H Q h => ?_
  obtain ⟨μ, s, dx, ds, d, s', S, rx, rs, h, q⟩ := h
  unfold clearM at h
  split at h
  · split at h
    · rename_i ex
      cases h
      cases rx with
      | ref rx =>
      cases rs
      obtain ⟨hm, vx, hx, px⟩ := Rep.lst_at S (.ref rx) ex
      obtain ⟨x2, S2⟩ := rep_set (o := .lst []) S hm (xs := []) (ds := []) .nil
      exact ⟨_, vx, rfl, rfl, hx, q _ _ μ x2 S2 .non⟩
    · cases h
  · cases h
end
end Cs

/-! ## CsSim5 -/
namespace Cs
open PySem PySem.Spec PyProof.Rows L2
section
variable {K : PySem.W.Frag} {μ μ' : List Addr} {H H' : Hp} {s s' : Sto} {g : Gb} {c : Cc} {X : Cx} {m ma mb mc : Sem} {e a b d : Expr} {pos : Pos}
/-! ### keyword calls -/
def JK (g : Gb) (c : Cc) (m : EvA) (kws : List Keyword) : Prop := ∀ X : Cx, c.Ok g X → PK X kws (RdA g.K m)
theorem PK.imp {X : Cx} {e : List Keyword} {t t' : TA} (h : PK X e t) (f : ∀ σ H Q, t' σ H Q → t σ H Q) : PK X e t' := ⟨fun p pins s σ H Q I q => h.run p pins s σ H Q I (f σ H Q q)⟩
theorem jk_nil : JK g c aNil [] := fun X ok => PK.imp pk_nil fun σ H Q h => by
  obtain ⟨μ, s, env, d, s', S, E, hv, q⟩ := h
  cases hv
  exact q [] H μ .refl S .nil
theorem jk_cons {r : EvA} {nm : Option Str} {kpos : Pos} {kws : List Keyword} (ha : JE g c ma a) (hr : JK g c r kws) : JK g c (aCons ma r) (⟨nm, a, kpos⟩ :: kws) := fun X ok =>
  PK.imp (pk_cons (ha X ok).1 (hr X ok)) fun σ H Q h => by
    obtain ⟨μ, s, env, d, s', S, E, hv, q⟩ := h
    obtain ⟨d1, s1, h1, hv⟩ := bind_ok hv
    obtain ⟨d2, s2, h2, hv⟩ := bind_ok hv
    cases hv
    refine ⟨μ, s, env, d1, s1, S, E, h1, fun v1 H1 μ1 x1 S1 r1 => ?_⟩
    refine ⟨μ1, s1, env, d2, s', S1, E.mono S x1, h2, fun v2 H2 μ2 x2 S2 r2 => ?_⟩
    exact q _ H2 μ2 (x1.trans x2) S2 (.cons (r1.mono S1 x2) r2)
theorem Reps.getD : ∀ {ds : List D} {vs : List V} (i : Nat), Reps K H μ vs ds → Rep K H μ (vs.getD i .non) (ds.getD i .non)
  | [], _, _, h => by cases h; exact .non
  | d :: ds, _, 0, h => by
    cases h with
    | cons r _ => exact r
  | d :: ds, _, i + 1, h => by
    cases h with
    | cons _ q => exact q.getD i
theorem Reps.perm {np nk : Nat} {p : List Nat} {us ws : List D} {vs zs : List V} (r : Reps K H μ vs us) (q : Reps K H μ zs ws) : Reps K H μ (gPerm .non np nk p vs zs) (gPerm .non np nk p us ws) := by
  unfold gPerm
  rw [r.length, q.length]
  split
  · induction p with
    | nil => exact .nil
    | cons i p ih => exact .cons ((r.append q).getD i) ih
  · exact .nil
theorem Vals.getD' : ∀ {vs : List V} {us : List Value} (i : Nat), Vals vs us → RelV (vs.getD i .non) (us.getD i .none)
  | _, _, _, .nil => rfl
  | _, _, 0, .cons r _ => r
  | _, _, i + 1, .cons _ q => Cs.Vals.getD' i q
theorem Vals.perm {np nk : Nat} {p : List Nat} {us ws : List Value} {vs zs : List V} (r : Vals vs us) (q : Vals zs ws) : Vals (gPerm .non np nk p vs zs) (gPerm .none np nk p us ws) := by
  unfold gPerm
  rw [r.length, q.length]
  split
  · induction p with
    | nil => exact .nil
    | cons i p ih => exact .cons (Cs.Vals.getD' i (L2.Vals.append r q)) ih
  · exact .nil
/-- how a def takes keywords -/
def FnK (g : Gb) (lv : Nat) (x : Str) (ps ks : List Str) (np : Nat) (p : List Nat) (m : Fn) : Prop :=
  (∀ ds s d s', m ds s = .ok d s' → ds.length = ps.length) ∧
  ∃ f fd, g.mg x = some (.ref f) ∧ PySem.W.keepIn g.K (.ref f) = true ∧ KBinds g.K fd ps ks (gPerm .none np ks.length p) (gPerm .non np ks.length p) ∧ FnOk g.P g.w g.K g.mg g.base CX0 lv f fd ps (spD g.K ps.length m)
theorem je_callk {lv np : Nat} {x : Str} {ps ks : List Str} {pm : List Nat} {f : Fn} {ra rk : EvA} {p : Pos} {es : List Expr} {kws : List Keyword} (F : FnK g lv x ps ks np pm f) (hl : lv ≤ c.lv) (hs : c.sc.names.lookup x = some .globalImplicit)
    (ha : JA g c ra (a :: es)) (hk : JK g c rk kws) (hst : (a :: es).all noStar = true := by rfl)
    (hall : ∀ env, (backToKw pos (keywordEach kws env)).all (·.1.isSome) = true := by intro _; rfl) (hks : ∀ env, (backToKw pos (keywordEach kws env)).filterMap (·.1) = ks := by intro _; rfl)
    (hpl : ∀ env, ((backTo pos (starEach (a :: es) env)).any (·.1) || (backToKw pos (keywordEach kws env)).any (·.1.isNone)) = false := by intro _; rfl)
    (hdb : (x == ("__debug__" : Str)) = false := by decide) : JE g c (xCallK f np ks.length pm ra rk) (.Call (.Name x p) (a :: es) kws pos) := by
  obtain ⟨hlen, fa, fd, hm, hkk, hb, hF⟩ := F
  have h2 := hst
  rw [List.all_cons, Bool.and_eq_true] at h2
  refine je_mk (fun X ok => ?_) (by intro _ _; rfl)
  have hF' : FnOk X.prog X.w X.K X.mg X.base CX0 lv fa fd ps (spD g.K ps.length f) := by
    rw [ok.prog, ok.w, ok.K, ok.mg, ok.base]; exact hF
  refine PE.imp (pe_callK hF' (ok.room.mono hl) (by show X.env.scope.names.lookup x = _; rw [ok.sc]; exact hs) (by rw [ok.mg]; exact hm) (by rw [ok.K]; exact hkk) (by rw [ok.K]; exact hb) pass0 (ha X ok) (hk X ok) (hall _) (hks _) hdb (star_cons h2.1 _) (hpl _)) fun σ H Q h => ?_
  obtain ⟨μ, s, env, d, s', S, E, hv, q⟩ := h
  obtain ⟨us, s1, h1, hv⟩ := bind_ok hv
  obtain ⟨ws, s2, h2', hv⟩ := bind_ok hv
  refine ⟨μ, s, env, us, s1, S, E, h1, fun vs H1 μ1 x1 S1 r1 => ?_⟩
  refine ⟨μ1, s1, env, ws, s2, S1, E.mono S x1, h2', fun zs H2 μ2 x2 S2 r2 => ?_⟩
  have rp := (r1.mono S1 x2).perm (np := np) (nk := ks.length) (p := pm) r2
  exact ⟨by rw [rp.length]; exact hlen _ _ _ _ hv, μ2, s2, _, d, s', S2, rp, hv, fun v H' μ' x3 S3 r3 => q v H' μ' (x1.trans (x2.trans x3)) S3 r3⟩
theorem pe_callK0 {CX : CXT} {k : Nat} {f : Addr} {fd : FuncData} {ps ks : List Str} {sp : Sp} {E : XK} {x : Str} {p pos : Pos} {kws : List Keyword} {tk : TA} {gg : List Value → List Value → List Value} {gV : List V → List V → List V}
    (F : FnOk X.prog X.w X.K X.mg X.base CX k f fd ps sp) (hr : Room k X.A) (hg : Gl X x) (hm : X.mg x = some (.ref f)) (hk : PySem.W.keepIn X.K (.ref f) = true) (hb : KBinds X.K fd ps ks gg gV) (hx : Passes CX X E)
    (hkw : PK X kws tk) (hall : (backToKw pos (keywordEach kws X.env)).all (·.1.isSome) = true) (hks : (backToKw pos (keywordEach kws X.env)).filterMap (·.1) = ks)
    (hdb : (x == ("__debug__" : Str)) = false)
    (hpl : ((backTo pos (starEach [] X.env)).any (·.1) || (backToKw pos (keywordEach kws X.env)).any (·.1.isNone)) = false) :
    PE X (.Call (.Name x p) [] kws pos) (fun σ H Q => tk σ H fun zs H2 => sp (gV [] zs) H2 Q E) := by
  refine ⟨fun pins s σ H Q I h => ?_⟩
  refine wpAny_Call_Name_kw (ld_glob I hg hm ?_ hdb)
  refine PySem.W.callWith_KW0 (h₀ := X.base) I.ok.mod.kin hk hall ?_ hpl
  refine thn (hkw.run pos pins s σ H _ I h) fun ws s2 ⟨zs, H2, I2, rz, q2⟩ => ⟨I2.kIn, ?_⟩
  rw [hks]
  exact run_fnk (us := []) (vs := []) F hr hb hx I2 .nil rz q2
theorem je_callk0 {lv : Nat} {x : Str} {ps ks : List Str} {pm : List Nat} {f : Fn} {rk : EvA} {p : Pos} {kws : List Keyword} (F : FnK g lv x ps ks 0 pm f) (hl : lv ≤ c.lv) (hs : c.sc.names.lookup x = some .globalImplicit)
    (hk : JK g c rk kws) (hall : ∀ env, (backToKw pos (keywordEach kws env)).all (·.1.isSome) = true := by intro _; rfl) (hks : ∀ env, (backToKw pos (keywordEach kws env)).filterMap (·.1) = ks := by intro _; rfl)
    (hpl : ∀ env, ((backTo pos (starEach [] env)).any (·.1) || (backToKw pos (keywordEach kws env)).any (·.1.isNone)) = false := by intro _; rfl)
    (hdb : (x == ("__debug__" : Str)) = false := by decide) : JE g c (xCallK f 0 ks.length pm aNil rk) (.Call (.Name x p) [] kws pos) := by
  obtain ⟨hlen, fa, fd, hm, hkk, hb, hF⟩ := F
  refine je_mk (fun X ok => ?_) (by intro _ _; rfl)
  have hF' : FnOk X.prog X.w X.K X.mg X.base CX0 lv fa fd ps (spD g.K ps.length f) := by
    rw [ok.prog, ok.w, ok.K, ok.mg, ok.base]; exact hF
  refine PE.imp (pe_callK0 hF' (ok.room.mono hl) (by show X.env.scope.names.lookup x = _; rw [ok.sc]; exact hs) (by rw [ok.mg]; exact hm) (by rw [ok.K]; exact hkk) (by rw [ok.K]; exact hb) pass0 (hk X ok) (hall _) (hks _) hdb (hpl _)) fun σ H Q h => ?_
  obtain ⟨μ, s, env, d, s', S, E, hv, q⟩ := h
  have hv : (rk env s).bind (fun ws s => f (gPerm .non 0 ks.length pm [] ws) s) = .ok d s' := hv
  obtain ⟨ws, s2, h2', hv⟩ := bind_ok hv
  refine ⟨μ, s, env, ws, s2, S, E, h2', fun zs H2 μ2 x2 S2 r2 => ?_⟩
  have rp := Reps.perm (np := 0) (nk := ks.length) (p := pm) (us := []) (vs := []) .nil r2
  exact ⟨by rw [rp.length]; exact hlen _ _ _ _ hv, μ2, s2, _, d, s', S2, rp, hv, fun v H' μ' x3 S3 r3 => q v H' μ' (x2.trans x3) S3 r3⟩
/-! ### targets -/
def RdG (K : PySem.W.Frag) (vs : List Nat) (m : EvG) : TG := fun v σ H Q => ∃ μ s env d env' s', Sim K μ H s ∧ EnvR K H μ σ env ∧ Rep K H μ v d ∧ m d env s = .ok env' s' ∧
  ∀ σ' H' μ', Ext μ H μ' H' → Sim K μ' H' s' → EnvR K H' μ' σ' env' → (∀ ws : List Nat, (∀ i ∈ vs, i ∈ ws) → wipe σ' ws = wipe σ ws) → Q σ' H'
def RdGs (K : PySem.W.Frag) (vs : List Nat) (m : List D → Env → Sto → R Env) : TGs := fun xs σ H Q => ∃ μ s env ds env' s', Sim K μ H s ∧ EnvR K H μ σ env ∧ Reps K H μ xs ds ∧ m ds env s = .ok env' s' ∧
  ∀ σ' H' μ', Ext μ H μ' H' → Sim K μ' H' s' → EnvR K H' μ' σ' env' → (∀ ws : List Nat, (∀ i ∈ vs, i ∈ ws) → wipe σ' ws = wipe σ ws) → Q σ' H'
def JG (g : Gb) (c : Cc) (vs : List Nat) (m : EvG) (t : Expr) : Prop := ∀ X : Cx, c.Ok g X → PG X t (RdG g.K vs m)
def JGs (g : Gb) (c : Cc) (vs : List Nat) (m : List D → Env → Sto → R Env) (ts : List Expr) : Prop := ∀ X : Cx, c.Ok g X → PGs X ts (RdGs g.K vs m)
theorem PG.imp {X : Cx} {e : Expr} {t t' : TG} (h : PG X e t) (f : ∀ v σ H Q, t' v σ H Q → t v σ H Q) : PG X e t' := ⟨fun pins s σ H v u Q I r q => h.run pins s σ H v u Q I r (f v σ H Q q)⟩
theorem PGs.imp {X : Cx} {e : List Expr} {t t' : TGs} (h : PGs X e t) (f : ∀ v σ H Q, t' v σ H Q → t v σ H Q) : PGs X e t' := ⟨fun pins s σ H v u Q I r q => h.run pins s σ H v u Q I r (f v σ H Q q)⟩
theorem EnvR.set {σ : L2.St} {env : Env} {v : V} {d : D} (E : EnvR K H μ σ env) (r : Rep K H μ v d) (i : Nat) : EnvR K H μ (σ.set i (some v)) (env.set i (some d)) := by
  refine ⟨by rw [List.length_set, List.length_set]; exact E.1, fun j d' h => ?_⟩
  by_cases hj : i = j
  · subst hj
    have hl : i < env.length := by
      have := (List.getElem?_eq_some_iff.mp h).1
      rwa [List.length_set] at this
    rw [List.getElem?_set_self hl] at h
    cases h
    exact ⟨v, List.getElem?_set_self (by rw [E.1]; exact hl), r⟩
  · rw [List.getElem?_set_ne hj] at h
    obtain ⟨v', h1, h2⟩ := E.2 j d' h
    exact ⟨v', by rw [List.getElem?_set_ne hj]; exact h1, h2⟩
theorem wipe_set {σ : L2.St} {i : Nat} {v : Option V} : ∀ {ws : List Nat}, i ∈ ws → wipe (σ.set i v) ws = wipe σ ws
  | [], h => by cases h
  | w :: ws, h => by
    unfold wipe
    by_cases hw : i ∈ ws
    · rw [wipe_set hw]
    · have e : i = w := by
        rcases List.mem_cons.mp h with h | h
        · exact h
        · exact absurd h hw
      subst e
      have out : ∀ (ws : List Nat), i ∉ ws → wipe (σ.set i v) ws = (wipe σ ws).set i v := by
        intro ws
        induction ws with
        | nil => intro _; rfl
        | cons w ws ih =>
          intro hn
          unfold wipe
          rw [ih fun z => hn (List.mem_cons_of_mem _ z), List.set_comm _ _ (fun z => hn (by rw [z]; exact List.mem_cons_self))]
      rw [out ws hw, List.set_set]
theorem jg_var {x : Str} (i : Nat) (hN : c.N[i]? = some x := by rfl) (hx : c.sc.names.lookup x = some .local ∨ c.sc.names.lookup x = some .cell := by first | exact Or.inl rfl | exact Or.inr rfl)
    (hf : c.fn x = true ∨ c.sc.names.lookup x = some .local := by first | exact .inl rfl | exact .inr rfl) : JG g c [i] (gVar i) (.Name x pos) := fun X ok =>
  PG.imp (pg_name (i := i) (by rw [ok.N]; exact ok.nd) (by rw [ok.N]; exact hN) (by unfold L2.Loc; rw [ok.sc]; exact hx) (by rw [ok.sc]; exact hf.imp (ok.fn x) id)) fun v σ H Q h => by
    obtain ⟨μ, s, env, d, env', s', S, E, r, hv, q⟩ := h
    cases hv
    exact q _ H μ .refl S (E.set r i) fun ws hw => wipe_set (hw i (by simp))
theorem jgs_nil : JGs g c [] gsNil [] := fun X ok => PGs.imp pgs_nil fun v σ H Q h => by
  obtain ⟨μ, s, env, ds, env', s', S, E, r, hv, q⟩ := h
  unfold gsNil at hv
  split at hv
  · cases hv
    cases r
    exact ⟨rfl, q σ H μ .refl S E fun _ _ => rfl⟩
  · cases hv
theorem assign_cons {e : Expr} {es : List Expr} (h : noStar e = true) (env : PySem.Env) : (assignEach (e :: es) env).map (·.2) = assign e env :: (assignEach es env).map (·.2) := by
  cases e <;> first | rfl | (cases h)
theorem assign_len {es : List Expr} (h : es.all noStar = true) (env : PySem.Env) : (assignEach es env).length = es.length ∧ (assignEach es env).findIdx? (·.1) = none := by
  induction es with
  | nil => exact ⟨rfl, rfl⟩
  | cons e es ih =>
    rw [List.all_cons, Bool.and_eq_true] at h
    obtain ⟨h1, h2⟩ := ih h.2
    have e1 : assignEach (e :: es) env = (false, assign e env) :: assignEach es env := by
      have := h.1
      cases e <;> first | rfl | (cases this)
    rw [e1]
    exact ⟨by rw [List.length_cons, List.length_cons, h1], by rw [List.findIdx?_cons, h2]; rfl⟩
theorem jgs_cons {t : Expr} {ts : List Expr} {vs ws : List Nat} {mg : EvG} {mr : List D → Env → Sto → R Env} (h1 : JG g c vs mg t) (h2 : JGs g c ws mr ts) (hs : noStar t = true := by rfl) : JGs g c (vs ++ ws) (gsCons mg mr) (t :: ts) := fun X ok =>
  PGs.imp (pgs_cons (h1 X ok) (h2 X ok) (assign_cons hs _)) fun v σ H Q h => by
    obtain ⟨μ, s, env, ds, env', s', S, E, r, hv, q⟩ := h
    unfold gsCons at hv
    split at hv
    · rename_i d ds
      obtain ⟨env1, s1, hv1, hv2⟩ := bind_ok hv
      cases r with
      | cons r rr =>
      refine ⟨_, _, rfl, μ, s, env, d, env1, s1, S, E, r, hv1, fun σ1 H1 μ1 x1 S1 E1 w1 => ?_⟩
      exact ⟨μ1, s1, env1, ds, env', s', S1, E1, rr.mono S x1, hv2, fun σ2 H2 μ2 x2 S2 E2 w2 => q σ2 H2 μ2 (x1.trans x2) S2 E2 fun us hu => (w2 us fun i hi => hu i (List.mem_append_right _ hi)).trans (w1 us fun i hi => hu i (List.mem_append_left _ hi))⟩
    · cases hv
theorem jg_tup {ts : List Expr} {vs : List Nat} {mr : List D → Env → Sto → R Env} {k n : Nat} (h : JGs g c vs mr ts) (hn : ts.length = n := by rfl) (hst : ts.all noStar = true := by rfl) : JG g c vs (gTup n mr) (.Tuple ts k pos) := fun X ok =>
  PG.imp (pg_tup ok.calm (h X ok) ((assign_len hst _).1.trans hn) (assign_len hst _).2) fun v σ H Q h => by
    rw [ok.K]
    obtain ⟨μ, s, env, d, env', s', S, E, r, hv, q⟩ := h
    unfold gTup at hv
    split at hv
    · split at hv
      · rename_i hl
        cases r with
        | tup tx px =>
        exact ⟨_, _, rfl, tx, by rw [px.length]; exact hl, μ, s, env, _, env', s', S, E, px, hv, q⟩
      · cases hv
    · cases hv
/-- o[i] = v of a list -/
theorem jg_sub {o i : Expr} {mo mi : Sem} (ho : JE g c mo o) (hi : JE g c mi i)
    (ha : ∀ env v, assign (.Subscript o i pos) env v = (do
      let ov ← holding [v] (eval o env)
      let iv ← holding [v, ov] (eval i env)
      standAt pos
      holding [v, ov, iv] (setItem ov iv v)
      release [v, ov, iv] []) := by intro _ _; rfl) : JG g c [] (gSub mo mi) (.Subscript o i pos) := fun X ok =>
  PG.imp (pg_sub (ho X ok).1 (hi X ok).1 set_list (ha _)) fun v σ H Q h => by
    obtain ⟨μ, s, env, d, env', s', S, E, r, hv, q⟩ := h
    obtain ⟨d1, s1, h1, hv⟩ := bind_ok hv
    obtain ⟨d2, s2, h2, hv⟩ := bind_ok hv
    obtain ⟨_, s3, h3, hv⟩ := bind_ok hv
    cases hv
    refine ⟨μ, s, env, d1, s1, S, E, h1, fun v1 H1 μ1 x1 S1 r1 => ?_⟩
    refine ⟨μ1, s1, env, d2, s2, S1, E.mono S x1, h2, fun v2 H2 μ2 x2 S2 r2 => ?_⟩
    have x12 := x1.trans x2
    have r1' := r1.mono S1 x2
    have rv := r.mono S x12
    have E2 := E.mono S x12
    unfold setD at h3
    split at h3
    · split at h3
      · rename_i ex
        split at h3
        · rename_i j hj
          cases h3
          cases r2
          cases r1' with
          | ref rx =>
          obtain ⟨hm, vx, hx, px⟩ := Rep.lst_at S2 (.ref rx) ex
          obtain ⟨x3, S3⟩ := rep_set (o := .lst []) S2 hm (px.set rv j)
          exact ⟨_, vx, _, j, rfl, rfl, hx, by rw [px.length]; exact hj, q σ _ μ2 (x12.trans x3) S3 (E2.mono S2 x3) fun _ _ => rfl⟩
        · cases h3
      · cases h3
    · cases h3
end
end Cs

/-! ## CsSim6 -/
namespace Cs
open PySem PySem.Spec PyProof.Rows L2
section
variable {K : PySem.W.Frag} {μ μ' : List Addr} {H H' : Hp} {s s' : Sto} {g : Gb} {c : Cc} {X : Cx} {m ma mb mc : Sem} {e a b d : Expr} {pos : Pos}
/-! ### what is walked -/
def wkAt (w : Wk) (s : Sto) (j : Nat) : Option (Option D) := match w with
  | .its xs => some xs[j]?
  | .live i => match s.get i with
    | some (.lst xs) => some xs[j]?
    | _ => none
/-- the iterator J gives out what w says, at every later state -/
def WkOk (K : PySem.W.Frag) (J : It) (w : Wk) (μ : List Addr) (H : Hp) : Prop := ∀ μ' H' s', Ext μ H μ' H' → Sim K μ' H' s' → ∀ j,
  (∀ d, wkAt w s' j = some (some d) → J.go j H' ∧ ∀ x H'', J.yld j H' x H'' → Same H' H'' ∧ Rep K H'' μ' x d) ∧ (wkAt w s' j = some none → J.stop j H')
def RdI (K : PySem.W.Frag) (m : EvI) : TI := fun σ H R => ∃ μ s env w s', Sim K μ H s ∧ EnvR K H μ σ env ∧ m env s = .ok w s' ∧
  ∀ J H' μ', Ext μ H μ' H' → Sim K μ' H' s' → WkOk K J w μ' H' → R J H'
def JI (g : Gb) (c : Cc) (m : EvI) (e : Expr) : Prop := ∀ X : Cx, c.Ok g X → ∀ tg, PI X tg e (RdI g.K m)
/-- for one target -/
def JIt (g : Gb) (c : Cc) (tg : Expr) (m : EvI) (e : Expr) : Prop := ∀ X : Cx, c.Ok g X → PI X tg e (RdI g.K m)
theorem JI.t {g : Gb} {c : Cc} {tg : Expr} {m : EvI} {e : Expr} (h : JI g c m e) : JIt g c tg m e := fun X ok => h X ok tg
theorem PI.imp {X : Cx} {tg e : Expr} {t t' : TI} (h : PI X tg e t) (f : ∀ σ H R, t' σ H R → t σ H R) : PI X tg e t' := ⟨fun pins s σ H R I q => h.run pins s σ H R I (f σ H R q)⟩
/-- a list or a tuple -/
theorem pi_seqA {tg l : Expr} {tl : TE} (hl : PE X l tl) : PI X tg l (fun σ H R => tl σ H fun x H1 => ∃ a, x = .ref a ∧ (((∃ xs, SqL X.K H1 a xs) ∧ R (Itl X.K a) H1) ∨ ((∃ xs, SqT X.K H1 a xs) ∧ R (Itt X.K a) H1))) := by
  refine ⟨fun pins s σ H R I h => ?_⟩
  refine thn (hl.run pins s σ H _ I h) fun v s1 ⟨x, H1, I1, r1, q1⟩ => ?_
  obtain ⟨a, e, q1⟩ := q1
  subst e
  cases r1
  rcases q1 with ⟨⟨xs, hq⟩, q⟩ | ⟨⟨xs, hq⟩, q⟩
  · obtain ⟨its, rv, p, hz⟩ := I1.list hq
    refine wpAny_pyIter_list p.isList ?_
    refine ⟨s1.heap.objs.size, [s1.heap.objs.size], _, _, H1, rfl, I1.kept (t' := s1.toks) fun b o e => Heap.get?_push_of_some _ e, turn_list a _, ⟨_, Heap.get?_push_size _ rfl, rfl, rfl⟩, fun b hb => ?_, q⟩
    have e : b = s1.heap.objs.size := by simpa using hb
    subst e
    exact I1.fpOk (Nat.le_refl _) (I1.hok.fresh (Nat.le_refl _))
  · obtain ⟨its, rv, p, hz⟩ := I1.tuple hq
    refine wpAny_pyIter_tuple (show s1.heap.IsTuple a its.toArray from p) ?_
    refine ⟨s1.heap.objs.size, [s1.heap.objs.size], _, _, H1, rfl, I1.kept (t' := s1.toks) fun b o e => Heap.get?_push_of_some _ e, turn_tuple a _, ⟨_, Heap.get?_push_size _ rfl, rfl, rfl⟩, fun b hb => ?_, q⟩
    have e : b = s1.heap.objs.size := by simpa using hb
    subst e
    exact I1.fpOk (Nat.le_refl _) (I1.hok.fresh (Nat.le_refl _))
theorem wk_tup {a : Addr} {xs : List V} {ds : List D} (S : Sim K μ H s) (tx : SqT K H a xs) (r : Reps K H μ xs ds) : WkOk K (Itt K a) (.its ds) μ H := fun μ' H' s' ex S' j => by
  have rep := Rep.mono S ex (.tup tx r)
  cases rep with
  | @tup _ ys _ ty ry =>
  refine ⟨fun d hd => ?_, fun hd => ?_⟩
  · have hd : ds[j]? = some d := Option.some.inj hd
    obtain ⟨v, hv, rv⟩ := ry.get hd
    refine ⟨⟨ys, v, ty, hv⟩, fun x H'' hy => ?_⟩
    obtain ⟨rfl, hy⟩ := hy
    have e : v = x := Option.some.inj (hv.symm.trans (hy ys ty))
    subst e
    exact ⟨.refl _, rv⟩
  · have hd : ds[j]? = none := Option.some.inj hd
    exact ⟨ys, ty, by rw [ry.length]; exact List.getElem?_eq_none_iff.mp hd⟩
theorem wk_fix {a : Addr} {xs : List V} {ds : List D} (S : Sim K μ H s) (tx : SqF K H a xs) (r : Reps K H μ xs ds) : WkOk K (Itl K a) (.its ds) μ H := fun μ' H' s' ex S' j => by
  have rep := Rep.mono S ex (.fix tx r)
  cases rep with
  | @fix _ ys _ ty ry =>
  refine ⟨fun d hd => ?_, fun hd => ?_⟩
  · have hd : ds[j]? = some d := Option.some.inj hd
    obtain ⟨v, hv, rv⟩ := ry.get hd
    refine ⟨⟨ys, v, ty.sq, hv⟩, fun x H'' hy => ?_⟩
    obtain ⟨rfl, hy⟩ := hy
    have e : v = x := Option.some.inj (hv.symm.trans (hy ys ty.sq))
    subst e
    exact ⟨.refl _, rv⟩
  · have hd : ds[j]? = none := Option.some.inj hd
    exact ⟨ys, ty.sq, by rw [ry.length]; exact List.getElem?_eq_none_iff.mp hd⟩
theorem wk_live {a : Addr} {i : Nat} (hm : μ[i]? = some a) : WkOk K (Itl K a) (.live i) μ H := fun μ' H' s' ex S' j => by
  have hm' := ex.pre i a hm
  obtain ⟨o, e, ro⟩ := S'.ob i a hm'
  cases o with
  | dct kvs => exact ro.elim
  | lst ds =>
  obtain ⟨ys, ey, ry⟩ := ro
  refine ⟨fun d hd => ?_, fun hd => ?_⟩
  · have hd : ds[j]? = some d := by
      unfold wkAt at hd
      dsimp only at hd
      rw [e] at hd
      exact Option.some.inj hd
    obtain ⟨v, hv, rv⟩ := ry.get hd
    refine ⟨⟨ys, v, .of ey, hv⟩, fun x H'' hy => ?_⟩
    obtain ⟨rfl, hy⟩ := hy
    have e : v = x := Option.some.inj (hv.symm.trans (hy ys (.of ey)))
    subst e
    exact ⟨.refl _, rv⟩
  · have hd : ds[j]? = none := by
      unfold wkAt at hd
      dsimp only at hd
      rw [e] at hd
      exact Option.some.inj hd
    exact ⟨ys, .of ey, by rw [ry.length]; exact List.getElem?_eq_none_iff.mp hd⟩
theorem ji_seq (he : JE g c m e) : JI g c (iSeq m) e := fun X ok tg => PI.imp (pi_seqA (he X ok).1) fun σ H R h => by
  rw [ok.K]
  obtain ⟨μ, s, env, w, s', S, E, hv, q⟩ := h
  obtain ⟨d1, s1, h1, hv⟩ := bind_ok hv
  refine ⟨μ, s, env, d1, s1, S, E, h1, fun v1 H1 μ1 x1 S1 r1 => ?_⟩
  split at hv
  · cases hv
    cases r1 with
    | tup tx px => exact ⟨_, rfl, .inr ⟨⟨_, tx⟩, q _ H1 μ1 x1 S1 (wk_tup S1 tx px)⟩⟩
  · cases hv
    cases r1 with
    | fix tx px => exact ⟨_, rfl, .inl ⟨⟨_, tx.sq⟩, q _ H1 μ1 x1 S1 (wk_fix S1 tx px)⟩⟩
  · split at hv
    · rename_i ex
      cases hv
      cases r1 with
      | ref rx =>
      obtain ⟨hm, vx, hx, px⟩ := Rep.lst_at S1 (.ref rx) ex
      exact ⟨_, rfl, .inl ⟨⟨_, .of hx⟩, q _ H1 μ1 x1 S1 (wk_live hm)⟩⟩
    · cases hv
  · cases hv
theorem rgD_get {lo : Int} {n j : Nat} : (rgD lo n)[j]? = if j < n then some (.int (lo + (j : Nat))) else none := by
  unfold rgD
  rw [List.getElem?_map]
  by_cases h : j < n
  · rw [if_pos h, List.getElem?_range h]; rfl
  · rw [if_neg h, List.getElem?_eq_none (by simpa using h)]; rfl
theorem wk_rg {lo : Int} {n : Nat} : WkOk K (Itr lo n) (.its (rgD lo n)) μ H := fun μ' H' s' ex S' j => by
  refine ⟨fun d hd => ?_, fun hd => ?_⟩
  · have hd : (rgD lo n)[j]? = some d := Option.some.inj hd
    rw [rgD_get] at hd
    split at hd
    · rename_i hj
      cases hd
      refine ⟨hj, fun x H'' hy => ?_⟩
      obtain ⟨rfl, rfl⟩ := hy
      exact ⟨.refl _, .int _⟩
    · cases hd
  · have hd : (rgD lo n)[j]? = none := Option.some.inj hd
    rw [rgD_get] at hd
    split at hd
    · cases hd
    · rename_i hj
      exact Nat.le_of_not_lt hj
theorem bigI_ok {i : Int} (h : bigI i = true) : -(2 ^ 62) ≤ i ∧ i < 2 ^ 62 := by
  have := Nat.blt_eq.mp h
  omega
theorem ji_rg1 {p : Pos} {ra : EvA} (hs : c.sc.names.lookup ("range" : Str) = some .globalImplicit) (hm : g.mg ("range" : Str) = none) (ha : JA g c ra [a]) (hst : noStar a = true := by rfl) : JI g c (iRg1 ra) (.Call (.Name "range" p) [a] [] pos) := fun X ok tg =>
  PI.imp (pi_range1 (by show X.env.scope.names.lookup _ = _; rw [ok.sc]; exact hs) (by rw [ok.mg]; exact hm) (ha X ok) (star_cons hst _)) fun σ H R h => by
    obtain ⟨μ, s, env, w, s', S, E, hv, q⟩ := h
    obtain ⟨ds, s1, h1, hv⟩ := bind_ok hv
    refine ⟨μ, s, env, ds, s1, S, E, h1, fun vs H1 μ1 x1 S1 r1 => ?_⟩
    split at hv
    · split at hv
      · rename_i hb
        cases hv
        cases r1 with
        | cons r r2 =>
        cases r2; cases r
        exact ⟨_, rfl, (bigI_ok hb).1, (bigI_ok hb).2, q _ H1 μ1 x1 S1 wk_rg⟩
      · cases hv
    · cases hv
theorem ji_rg2 {p : Pos} {ra : EvA} (hs : c.sc.names.lookup ("range" : Str) = some .globalImplicit) (hm : g.mg ("range" : Str) = none) (ha : JA g c ra [a, b]) (hst : noStar a = true := by rfl) (hst2 : noStar b = true := by rfl) : JI g c (iRg2 ra) (.Call (.Name "range" p) [a, b] [] pos) := fun X ok tg =>
  PI.imp (pi_range2 (by show X.env.scope.names.lookup _ = _; rw [ok.sc]; exact hs) (by rw [ok.mg]; exact hm) (ha X ok) (by rw [star_cons hst, star_cons hst2]; rfl) (star_cons hst2 _)) fun σ H R h => by
    obtain ⟨μ, s, env, w, s', S, E, hv, q⟩ := h
    obtain ⟨ds, s1, h1, hv⟩ := bind_ok hv
    refine ⟨μ, s, env, ds, s1, S, E, h1, fun vs H1 μ1 x1 S1 r1 => ?_⟩
    split at hv
    · split at hv
      · rename_i hb
        cases hv
        cases r1 with
        | cons r r2 =>
        cases r2 with
        | cons r2 r3 =>
        cases r3; cases r; cases r2
        exact ⟨_, _, rfl, ⟨(bigI_ok hb.1).1, (bigI_ok hb.1).2, (bigI_ok hb.2).1, (bigI_ok hb.2).2⟩, q _ H1 μ1 x1 S1 wk_rg⟩
      · cases hv
    · cases hv
/-! ### list comprehensions -/
/-- a list that stands beside the store -/
theorem Sim.beside {p : Addr} {xs ys : List V} (S : Sim K μ H s) (hp : H p = some (.lst xs)) (np : p ∉ μ) : Sim K μ (upd H p (.lst ys)) s ∧ ∀ v d, Rep K H μ v d → Rep K (upd H p (.lst ys)) μ v d := by
  have k1 : ∀ a xs', H a = some (.tup xs') → (upd H p (.lst ys)) a = some (.tup xs') := fun a xs' h => by
    rw [upd_ne (fun e => by rw [e, hp] at h; cases h)]; exact h
  have k2 : ∀ a o u, H a = some (.frz o u) → (upd H p (.lst ys)) a = some (.frz o u) := fun a o u h => by
    rw [upd_ne (fun e => by rw [e, hp] at h; cases h)]; exact h
  refine ⟨⟨S.nx, S.nd, fun i a h => ?_, S.up⟩, fun v d r => Rep.keep k1 k2 (fun _ _ h => h) d v r⟩
  obtain ⟨o, e, q⟩ := S.ob i a h
  refine ⟨o, e, ?_⟩
  cases o with
  | lst ds =>
    obtain ⟨zs, e1, r1⟩ := q
    exact ⟨zs, by rw [upd_ne (fun e => np (by rw [← e]; exact List.mem_of_getElem? h))]; exact e1, Reps.keep k1 k2 (fun _ _ h => h) ds zs r1⟩
  | dct kvs => exact q.elim
/-- it is taken into the store -/
theorem Sim.adopt {p : Addr} {xs : List V} {ds : List D} (S : Sim K μ H s) (hp : H p = some (.lst xs)) (np : p ∉ μ) (r : Reps K H μ xs ds) :
    Sim K (μ ++ [p]) H (s.add (.lst ds)) ∧ Rep K H (μ ++ [p]) (.ref p) (.ref s.n) ∧ ∀ (i : Nat) (a : Addr), μ[i]? = some a → (μ ++ [p])[i]? = some a := by
  have pre : ∀ (i : Nat) (a : Addr), μ[i]? = some a → (μ ++ [p])[i]? = some a := fun i a h => by
    rw [List.getElem?_append_left]
    · exact h
    · exact (List.getElem?_eq_some_iff.mp h).1
  have km : ∀ {v : List V} {d : List D}, Reps K H μ v d → Reps K H (μ ++ [p]) v d := fun {v d} r => Reps.keep (fun _ _ h => h) (fun _ _ _ h => h) pre d v r
  refine ⟨⟨?_, ?_, fun i a h => ?_, fun i hi => ?_⟩, .ref ?_, pre⟩
  · rw [List.length_append, S.nx]; rfl
  · rw [List.nodup_append]
    exact ⟨S.nd, by simp, fun a ha b hb e => np (by rw [List.mem_singleton.mp hb] at e; rw [← e]; exact ha)⟩
  · rw [Sto.get_add]
    by_cases hi : i = s.n
    · rw [if_pos hi]
      rw [hi, ← S.nx, List.getElem?_append_right (Nat.le_refl _), Nat.sub_self] at h
      have e : p = a := by simpa using h
      subst e
      exact ⟨_, rfl, xs, hp, km r⟩
    · rw [if_neg hi]
      have hl : i < μ.length := by
        have := (List.getElem?_eq_some_iff.mp h).1
        rw [List.length_append, S.nx] at this
        have e1 : ([p] : List Addr).length = 1 := rfl
        rw [S.nx]; omega
      rw [List.getElem?_append_left hl] at h
      obtain ⟨o, e, q⟩ := S.ob i a h
      refine ⟨o, e, ?_⟩
      cases o with
      | lst ds => obtain ⟨ys, e1, r1⟩ := q; exact ⟨ys, e1, km r1⟩
      | dct kvs => exact q.elim
  · rw [Sto.get_add, if_neg (by rw [Sto.n_add] at hi; omega)]
    exact S.up i (by rw [Sto.n_add] at hi; omega)
  · rw [← S.nx, List.getElem?_append_right (Nat.le_refl _), Nat.sub_self]; rfl
/-- a clause's test -/
def JT (g : Gb) (c : Cc) (o : Option Sem) (ifs : List Expr) : Prop := match o with
  | none => ifs = []
  | some m => ∃ e, ifs = [e] ∧ JE g c m e
theorem jt_no : JT g c none [] := rfl
theorem jt_one (h : JE g c m e) : JT g c (some m) [e] := ⟨e, rfl, h⟩
def RdC (K : PySem.W.Frag) (o : Option Sem) : TT := match o with
  | none => tYes
  | some m => RdT K m.t
theorem jt_pts {o : Option Sem} {ifs : List Expr} (h : JT g c o ifs) (ok : c.Ok g X) : PTs X ifs (RdC g.K o) := by
  cases o with
  | none => cases h; exact pts_nil
  | some m =>
    obtain ⟨e, rfl, h⟩ := h
    exact pts_one (h X ok).2
theorem wipe_env {σ : L2.St} {env : Env} (E : EnvR K H μ σ env) : ∀ vs : List Nat, EnvR K H μ (wipe σ vs) (wipeE env vs)
  | [] => E
  | v :: vs => by
    have ih := wipe_env E vs
    unfold wipe wipeE
    refine ⟨by rw [List.length_set, List.length_set]; exact ih.1, fun j d h => ?_⟩
    by_cases hj : v = j
    · subst hj
      have hl : v < (wipeE env vs).length := by
        have := (List.getElem?_eq_some_iff.mp h).1
        rwa [List.length_set] at this
      rw [List.getElem?_set_self hl] at h
      cases h
    · rw [List.getElem?_set_ne hj] at h
      obtain ⟨v', h1, h2⟩ := ih.2 j d h
      exact ⟨v', by rw [List.getElem?_set_ne hj]; exact h1, h2⟩
/-- the turns that are left -/
def goFrom (f : Turn) (w : Wk) (k j : Nat) (s : Sto) : R (List D) := match w with
  | .its xs => goIts f (xs.drop j) s
  | .live i => goLive f i k j s
theorem goFrom_step {f : Turn} {w : Wk} {k j : Nat} {s s' : Sto} {ys : List D} (h : goFrom f w k j s = .ok ys s') :
    (wkAt w s j = some none ∧ ys = [] ∧ s' = s) ∨ ∃ x o s1 zs k', wkAt w s j = some (some x) ∧ f x s = .ok o s1 ∧ goFrom f w k' (j + 1) s1 = .ok zs s' ∧ ys = conO o zs ∧ (match w with | .its xs => xs.length - (j + 1) < xs.length - j | .live _ => k' < k) := by
  cases w with
  | its xs =>
    have h : goIts f (xs.drop j) s = .ok ys s' := h
    by_cases hj : j < xs.length
    · rw [List.drop_eq_getElem_cons hj] at h
      obtain ⟨o, s1, h1, h2⟩ := bind_ok h
      obtain ⟨zs, s2, h3, h4⟩ := bind_ok h2
      cases h4
      exact .inr ⟨xs[j], o, s1, zs, k, by show some xs[j]? = _; rw [List.getElem?_eq_getElem hj], h1, h3, rfl, by show xs.length - (j + 1) < xs.length - j; omega⟩
    · rw [List.drop_eq_nil_of_le (by omega)] at h
      cases h
      exact .inl ⟨by show some xs[j]? = _; rw [List.getElem?_eq_none (by omega)], rfl, rfl⟩
  | live i =>
    have h : goLive f i k j s = .ok ys s' := h
    cases k with
    | zero => cases h
    | succ k =>
      unfold goLive at h
      split at h
      · rename_i xs ex
        split at h
        · rename_i x hx
          obtain ⟨o, s1, h1, h2⟩ := bind_ok h
          obtain ⟨zs, s2, h3, h4⟩ := bind_ok h2
          cases h4
          exact .inr ⟨x, o, s1, zs, k, by unfold wkAt; dsimp only; rw [ex]; show some xs[j]? = _; rw [hx], h1, h3, rfl, Nat.lt_succ_self _⟩
        · rename_i hx
          cases h
          exact .inl ⟨by unfold wkAt; dsimp only; rw [ex]; show some xs[j]? = _; rw [hx], rfl, rfl⟩
      · cases h
def wkMes (w : Wk) (k j : Nat) : Nat := match w with
  | .its xs => xs.length - j
  | .live _ => k
/-- the inner context of a comprehension -/
def Cc.blk (c : Cc) (scope : Scope) : Cc := ⟨c.N, relS scope c.sc, fun x => scope.names.lookup x == some .cell, c.lv⟩
theorem blk_ok {scope : Scope} (ok : c.Ok g X) (s : Shared) (H : Hp) (C : Addr) (cl : List (Str × Addr)) (fp : List Addr) : (c.blk scope).Ok g (X.blk s H scope (compEnvC scope cl C X.env) fp) where
  prog := ok.prog
  w := ok.w
  K := ok.K
  mg := ok.mg
  base := ok.base
  N := ok.N
  sc := by
    show relS scope X.env.scope = relS scope c.sc
    rw [ok.sc]
  nd := ok.nd
  fn := fun _ h => h
  calm := ok.calm
  xe := rfl
  room := ok.room
def noSet : Expr → Bool
  | .Set _ _ _ => false
  | _ => true
theorem noSet_ok {e : Expr} (h : noSet e = true) (env : PySem.Env) (x : Value) : foldedSetIterable e env x = pure x := by
  cases e <;> first | rfl | (cases h)
theorem rd_comp {own vs : List Nat} {mg : EvG} {it : EvI} {o : Option Sem} {σ : L2.St} {H : Hp} {Q : VK} (hvs : ∀ i ∈ vs, i ∈ own)
    (h : RdE K (fun env s => (it env s).bind fun w s => (goWk (turnC mg o m (wipeE env own)) w s).bind newL) σ H Q) : tLc (RdI K it) (RdG K vs mg) (RdC K o) (RdE K m.v) own σ H Q := by
  obtain ⟨μ, s, env, d, s', S, E, hv, q⟩ := h
  obtain ⟨w, s1, h1, hv⟩ := bind_ok hv
  obtain ⟨ys, s2, h2, hv⟩ := bind_ok hv
  refine ⟨μ, s, env, w, s1, S, E, h1, fun J H1 μ1 x1 S1 wk D hD => ?_⟩
  have h2 : goFrom (turnC mg o m (wipeE env own)) w 1000000 0 s1 = .ok ys s2 := by
    cases w <;> exact h2
  have hz : ys.length ≤ sizeLine := by
    unfold newL at hv
    split at hv
    · assumption
    · cases hv
  have nD : ∀ {μ' : List Addr} {H' : Hp}, Ext μ1 H1 μ' H' → D ∉ μ1 := fun _ => S1.nomem fun zs z => by rw [hD] at z; cases z
  refine ⟨fun i mm H => ∃ μ' s' acc vacc k rest, Ext μ1 H1 μ' H ∧ Sim K μ' H s' ∧ D ∉ μ' ∧ H D = some (.lst vacc) ∧ Reps K H μ' vacc acc ∧ goFrom (turnC mg o m (wipeE env own)) w k i s' = .ok rest s2 ∧ acc ++ rest = ys ∧ mm = wkMes w k i, ⟨wkMes w 1000000 0, ?_⟩, ?_⟩
  · have sm : Same H1 (upd H1 D (.lst [])) := fun b x e => by
      rw [upd_ne (ne_of_none e hD)]; exact e
    exact ⟨μ1, s1, [], [], 1000000, ys, .same sm, S1.same sm, nD .refl, upd_same, .nil, h2, rfl, rfl⟩
  · rintro i mm H2 ⟨μ2, s3, acc, vacc, k, rest, x2, S2, nD2, hD2, ra, hg, hy, rfl⟩
    rcases goFrom_step hg with ⟨ha, rfl, rfl⟩ | ⟨x, oo, s4, zs, k', ha, hf, hg2, rfl, hk⟩
    · refine .inl ⟨(wk μ2 H2 s2 x2 S2 i).2 ha, ?_⟩
      rw [List.append_nil] at hy
      subst hy
      obtain ⟨S3, r3, pre⟩ := S2.adopt hD2 nD2 ra
      unfold newL at hv
      rw [if_pos hz] at hv
      cases hv
      refine q _ H2 (μ2 ++ [D]) (x1.trans ⟨fun i a h => pre i a (x2.pre i a h), x2.keep, fun a ha hn => ?_⟩) S3 r3
      rcases List.mem_append.mp ha with ha | ha
      · exact x2.fresh a ha hn
      · rw [List.mem_singleton.mp ha]; exact hD
    · obtain ⟨go, yld⟩ := (wk μ2 H2 s3 x2 S2 i).1 x ha
      refine .inr ⟨go, fun H' => ∃ m', m' < wkMes w k i ∧ ∃ μ' s' acc vacc k rest, Ext μ1 H1 μ' H' ∧ Sim K μ' H' s' ∧ D ∉ μ' ∧ H' D = some (.lst vacc) ∧ Reps K H' μ' vacc acc ∧ goFrom (turnC mg o m (wipeE env own)) w k (i + 1) s' = .ok rest s2 ∧ acc ++ rest = ys ∧ m' = wkMes w k (i + 1), fun H' h => h, fun v H3 hyl => ?_⟩
      obtain ⟨sm, rv⟩ := yld v H3 hyl
      have hlt : wkMes w k' (i + 1) < wkMes w k i := by
        cases w <;> exact hk
      have S3 := S2.same sm
      have x3 := x2.trans (.same sm)
      have E3 : EnvR K H3 μ2 σ env := ((E.mono S x1).mono S1 x3)
      -- what is later than H3 keeps D
      have keepD : ∀ {μ' : List Addr} {H' : Hp}, Ext μ2 H3 μ' H' → D ∉ μ' ∧ H' D = some (.lst vacc) := fun ex => by
        have h3 := sm D _ hD2
        exact ⟨fun z => (by have := ex.fresh D z nD2; rw [h3] at this; cases this), ex.keep D _ h3 nD2⟩
      unfold turnC at hf
      obtain ⟨env4, s5, hg4, hf⟩ := bind_ok hf
      refine ⟨μ2, s3, wipeE env own, x, env4, s5, S3, wipe_env E3 own, rv, hg4, fun σ4 H4 μ4 x4 S4 E4 hw4 => ⟨?_, ?_⟩⟩
      · have e := hw4 own hvs
        rw [e]
        have idem : ∀ (τ : L2.St), wipe (wipe τ own) own = wipe τ own := by
          intro τ
          have out : ∀ (us ws : List Nat), (∀ i ∈ us, i ∈ ws) → wipe (wipe τ us) ws = wipe τ ws := by
            intro us
            induction us with
            | nil => intro ws _; rfl
            | cons u us ih =>
              intro ws hu
              show wipe ((wipe τ us).set u none) ws = _
              rw [wipe_set (hu u List.mem_cons_self)]
              exact ih ws fun i hi => hu i (List.mem_cons_of_mem _ hi)
          exact out own own fun _ h => h
        exact idem σ
      · -- the test, then the element
        have fin1 : ∀ {H5 : Hp} {μ5 : List Addr} {s6 : Sto}, Ext μ2 H3 μ5 H5 → Sim K μ5 H5 s6 → EnvR K H5 μ5 σ4 env4 → ((m.v env4 s6).bind fun y s => .ok (some y) s) = .ok oo s4 →
            RdE K m.v σ4 H5 fun y H6 => ∃ acc, H6 D = some (.lst acc) ∧ acc.length < sizeLine ∧ ∃ m', m' < wkMes w k i ∧ ∃ μ' s' acc' vacc k rest, Ext μ1 H1 μ' (upd H6 D (.lst (acc ++ [y]))) ∧ Sim K μ' (upd H6 D (.lst (acc ++ [y]))) s' ∧ D ∉ μ' ∧ (upd H6 D (.lst (acc ++ [y]))) D = some (.lst vacc) ∧ Reps K (upd H6 D (.lst (acc ++ [y]))) μ' vacc acc' ∧ goFrom (turnC mg o m (wipeE env own)) w k (i + 1) s' = .ok rest s2 ∧ acc' ++ rest = ys ∧ m' = wkMes w k (i + 1) := by
          intro H5 μ5 s6 x5 S5 E5 hm
          obtain ⟨y, s7, hm1, hm2⟩ := bind_ok hm
          cases hm2
          refine ⟨μ5, s6, env4, y, s4, S5, E5, hm1, fun vy H6 μ6 x6 S6 r6 => ?_⟩
          have x26 := x5.trans x6
          obtain ⟨nD6, hD6⟩ := keepD x26
          have ra6 : Reps K H6 μ6 vacc acc := (ra.mono S2 (.same sm)).mono S3 x26
          obtain ⟨S7, keepR⟩ := S6.beside (ys := vacc ++ [vy]) hD6 nD6
          refine ⟨vacc, hD6, ?_, wkMes w k' (i + 1), hlt, μ6, s4, acc ++ [y], vacc ++ [vy], k', zs, ?_, S7, nD6, upd_same, ?_, hg2, ?_, rfl⟩
          · have : (acc ++ conO (some y) zs).length ≤ sizeLine := by rw [hy]; exact hz
            rw [List.length_append] at this
            have e2 : (conO (some y) zs).length = zs.length + 1 := rfl
            rw [ra.length]; omega
          · have x16 := x3.trans x26
            exact ⟨x16.pre, fun a o' ha hn => by rw [upd_ne (ne_of_none ha hD)]; exact x16.keep a o' ha hn, x16.fresh⟩
          · have : ∀ {ds : List Cs.D} {vs : List V}, Reps K H6 μ6 vs ds → Reps K (upd H6 D (.lst (vacc ++ [vy]))) μ6 vs ds := by
              intro ds
              induction ds with
              | nil => intro vs h; cases h; exact .nil
              | cons d ds ih =>
                intro vs h
                cases h with
                | cons r q => exact .cons (keepR _ _ r) (ih q)
            exact this (ra6.append (.cons r6 .nil))
          · rw [← hy, List.append_assoc]; rfl
        cases o with
        | none => exact fin1 x4 S4 E4 hf
        | some mt =>
          obtain ⟨b, s6, hb1, hb2⟩ := bind_ok hf
          refine ⟨μ4, s5, env4, b, s6, S4, E4, hb1, fun H5 μ5 x5 S5 => ?_⟩
          cases b with
          | true => exact iteT (fin1 (x4.trans x5) S5 (E4.mono S4 x5) hb2)
          | false =>
            cases hb2
            have x25 := x4.trans x5
            obtain ⟨nD5, hD5⟩ := keepD x25
            refine iteF ⟨wkMes w k' (i + 1), hlt, μ5, s4, acc, vacc, k', zs, x3.trans x25, S5, nD5, hD5, (ra.mono S2 (.same sm)).mono S3 x25, hg2, ?_, rfl⟩
            rw [← hy]; rfl
theorem je_comp {elt tg iter : Expr} {ifs : List Expr} {scope : Scope} {vs : List Nat} {mg : EvG} {it : EvI} {o : Option Sem} (own : List (Str × Nat)) (hb : blkC c.N c.sc scope own = true) (hi : JIt g c tg it iter) (hg : JG g (c.blk scope) vs mg tg) (hvs : ∀ i ∈ vs, i ∈ own.map (·.2))
    (ht : JT g (c.blk scope) o ifs) (he : JE g (c.blk scope) m elt) (hs : noSet iter = true := by rfl) : JE g c (xComp (own.map (·.2)) mg it o m) (.ListComp elt [⟨tg, iter, ifs, 0⟩] scope pos) :=
  je_mk (fun X ok => PE.imp (pe_lc (own := own) ok.calm (by rw [ok.N]; exact ok.nd) (hi X ok) (blkOk_by (by rw [ok.N, ok.sc]; exact hb)) (fun s H C cl fp => hg _ (blk_ok ok s H C cl fp)) (fun s H C cl fp => jt_pts ht (blk_ok ok s H C cl fp)) (fun s H C cl fp => (he _ (blk_ok ok s H C cl fp)).1) (noSet_ok hs _))
    fun σ H Q h => rd_comp hvs h) (by intro _ _; rfl)
end
end Cs

/-! ## CsSim7 -/
namespace Cs
open PySem PySem.Spec PyProof.Rows L2
section
variable {K : PySem.W.Frag} {μ μ' : List Addr} {H H' : Hp} {s s' : Sto} {g : Gb} {c : Cc} {X : Cx} {m ma mb mc : Sem} {e a b d : Expr} {pos : Pos}
/-! ### statements -/
def RsOk (K : PySem.W.Frag) (μ : List Addr) (H : Hp) (r : RS) (En : Ends) : Prop := match r with
  | .nx env s => ∀ σ H' μ', Ext μ H μ' H' → Sim K μ' H' s → EnvR K H' μ' σ env → En.nx σ H'
  | .rt d s => ∀ v H' μ', Ext μ H μ' H' → Sim K μ' H' s → Rep K H' μ' v d → En.rt v H'
  | .bk env s => ∀ σ H' μ', Ext μ H μ' H' → Sim K μ' H' s → EnvR K H' μ' σ env → En.bk σ H'
  | .ct env s => ∀ σ H' μ', Ext μ H μ' H' → Sim K μ' H' s → EnvR K H' μ' σ env → En.ct σ H'
  | .no => False
theorem RsOk.mono {r : RS} {En : Ends} (h : RsOk K μ H r En) (x : Ext μ H μ' H') : RsOk K μ' H' r En := by
  cases r with
  | nx env s => exact fun σ H2 μ2 x2 => h σ H2 μ2 (x.trans x2)
  | rt d s => exact fun v H2 μ2 x2 => h v H2 μ2 (x.trans x2)
  | bk env s => exact fun σ H2 μ2 x2 => h σ H2 μ2 (x.trans x2)
  | ct env s => exact fun σ H2 μ2 x2 => h σ H2 μ2 (x.trans x2)
  | no => exact h
def RdS (K : PySem.W.Frag) (m : EvS) : TS := fun En σ H => ∃ μ s env, Sim K μ H s ∧ EnvR K H μ σ env ∧ RsOk K μ H (m env s) En
def JS (g : Gb) (c : Cc) (m : EvS) (st : Stmt) : Prop := ∀ X : Cx, c.Ok g X → PS X st (RdS g.K m)
def JSs (g : Gb) (c : Cc) (m : EvS) (sts : List Stmt) : Prop := ∀ X : Cx, c.Ok g X → PSs X sts (RdS g.K m)
theorem PS.imp {X : Cx} {e : Stmt} {t t' : TS} (h : PS X e t) (f : ∀ D σ H, t' D σ H → t D σ H) : PS X e t' := ⟨fun pins s σ H D I q => h.run pins s σ H D I (f D σ H q)⟩
theorem PSs.imp {X : Cx} {e : List Stmt} {t t' : TS} (h : PSs X e t) (f : ∀ D σ H, t' D σ H → t D σ H) : PSs X e t' := ⟨fun pins s σ H D I q => h.run pins s σ H D I (f D σ H q)⟩
theorem js_nil : JSs g c sNil [] := fun X ok => PSs.imp pss_nil fun En σ H h => by
  obtain ⟨μ, s, env, S, E, q⟩ := h
  exact q σ H μ .refl S E
theorem js_cons {st : Stmt} {sts : List Stmt} {p q : EvS} (h1 : JS g c p st) (h2 : JSs g c q sts) : JSs g c (sCons p q) (st :: sts) := fun X ok => PSs.imp (pss_cons (h1 X ok) (h2 X ok)) fun En σ H h => by
  obtain ⟨μ, s, env, S, E, r⟩ := h
  refine ⟨μ, s, env, S, E, ?_⟩
  unfold sCons at r
  generalize p env s = z at r ⊢
  cases z with
  | nx env1 s1 => exact fun σ1 H1 μ1 x1 S1 E1 => ⟨μ1, s1, env1, S1, E1, RsOk.mono r x1⟩
  | rt d s => exact r
  | bk env s => exact r
  | ct env s => exact r
  | no => exact r
theorem st_ok {α : Type} {r : R α} {f : α → Sto → RS} {En : Ends} (h : RsOk K μ H (r.st f) En) : ∃ a s, r = .ok a s ∧ RsOk K μ H (f a s) En := by
  cases r with
  | ok a s => exact ⟨a, s, rfl, h⟩
  | no => exact h.elim
theorem js_pass : JS g c sPass (.Pass pos) := fun X ok => PS.imp ps_pass fun En σ H h => by
  obtain ⟨μ, s, env, S, E, q⟩ := h
  exact q σ H μ .refl S E
theorem js_brk : JS g c sBrk (.Break pos) := fun X ok => PS.imp ps_break fun En σ H h => by
  obtain ⟨μ, s, env, S, E, q⟩ := h
  exact q σ H μ .refl S E
theorem js_ct : JS g c sCt (.Continue pos) := fun X ok => PS.imp ps_continue fun En σ H h => by
  obtain ⟨μ, s, env, S, E, q⟩ := h
  exact q σ H μ .refl S E
/-- a statement that is never met (a raise) -/
theorem js_no {st : Stmt} : JS g c sNo st := fun X ok => PS.imp ps_never fun En σ H h => by
  obtain ⟨μ, s, env, S, E, q⟩ := h
  exact q
theorem js_ret (he : JE g c m e) : JS g c (sRet m) (.Return (some e) pos) := fun X ok => PS.imp (ps_ret (he X ok).1) fun En σ H h => by
  obtain ⟨μ, s, env, S, E, q⟩ := h
  obtain ⟨d, s1, h1, q⟩ := st_ok q
  exact ⟨μ, s, env, d, s1, S, E, h1, fun v H1 μ1 x1 S1 r1 => q v H1 μ1 x1 S1 r1⟩
theorem js_retN : JS g c sRetN (.Return none pos) := fun X ok => PS.imp ps_retN fun En σ H h => by
  obtain ⟨μ, s, env, S, E, q⟩ := h
  exact q .non H μ .refl S .non
theorem js_expr (he : JE g c m e) (hs : ∀ env, swapsWith e none pos.line env = pure false := by intro _; rfl) : JS g c (sExpr m) (.Expr e pos) := fun X ok => PS.imp (ps_expr (he X ok).1 (hs _)) fun En σ H h => by
  obtain ⟨μ, s, env, S, E, q⟩ := h
  obtain ⟨d, s1, h1, q⟩ := st_ok q
  exact ⟨μ, s, env, d, s1, S, E, h1, fun v H1 μ1 x1 S1 r1 => q σ H1 μ1 x1 S1 (E.mono S x1)⟩
theorem js_if {p q : List Stmt} {mp mq : EvS} (hc : JE g c mc d) (h1 : JSs g c mp p) (h2 : JSs g c mq q) : JS g c (sIf mc mp mq) (.If d p q pos) := fun X ok => PS.imp (ps_if (hc X ok).2 (h1 X ok) (h2 X ok)) fun En σ H h => by
  obtain ⟨μ, s, env, S, E, r⟩ := h
  obtain ⟨k, s1, h1, r⟩ := st_ok r
  refine ⟨μ, s, env, k, s1, S, E, h1, fun H1 μ1 x1 S1 => ?_⟩
  cases k with
  | true => exact iteT ⟨μ1, s1, env, S1, E.mono S x1, r.mono x1⟩
  | false => exact iteF ⟨μ1, s1, env, S1, E.mono S x1, r.mono x1⟩
theorem rd_asg {vs : List Nat} {mg : EvG} {En : Ends} {σ : L2.St} {H : Hp} (h : RdS K (sAsg mg m) En σ H) : tAsg (RdE K m.v) (RdG K vs mg) En σ H := by
  obtain ⟨μ, s, env, S, E, q⟩ := h
  obtain ⟨d, s1, h1, q⟩ := st_ok q
  obtain ⟨env2, s2, h2, q⟩ := st_ok q
  refine ⟨μ, s, env, d, s1, S, E, h1, fun v H1 μ1 x1 S1 r1 => ?_⟩
  exact ⟨μ1, s1, env, d, env2, s2, S1, E.mono S x1, r1, h2, fun σ2 H2 μ2 x2 S2 E2 _ => q σ2 H2 μ2 (x1.trans x2) S2 E2⟩
/-- target = value, where the machine does not swap -/
theorem js_asg {vs : List Nat} {mg : EvG} {tg : Expr} (he : JE g c m e) (hg : JG g c vs mg tg) (hst : noStar tg = true := by rfl)
    (hs : ∀ env : PySem.Env, env.scope = c.sc → swapsWithSole [tg] e pos.line env = pure false := by intro _ _; rfl) (hw : ∀ env : PySem.Env, env.scope = c.sc → swappedStores [tg] e env = pure none := by intro _ _; rfl) : JS g c (sAsg mg m) (.Assign [tg] e pos) := fun X ok =>
  PS.imp (ps_asg (he X ok).1 (hg X ok) (hs _ ok.sc) (hw _ ok.sc) (by rw [assign_cons hst]; rfl)) fun En σ H h => rd_asg h
/-- x, y = e, f -/
theorem js_par {ra : EvA} {i j : Nat} {x y : Str} {px py pt : Pos} {kt k2 pt2} (hi : c.N[i]? = some x) (hj : c.N[j]? = some y) (hij : i ≠ j) (hx : c.sc.names.lookup x = some .local) (hy : c.sc.names.lookup y = some .local) (ha : JA g c ra [a, b])
    (hw : ∀ env : PySem.Env, env.scope = c.sc → swappedStores [.Tuple [.Name x px, .Name y py] kt pt] (.Tuple [a, b] k2 pt2) env = pure (some [x, y]))
    (hs : ∀ env : PySem.Env, env.scope = c.sc → swapsWithSole [.Tuple [.Name x px, .Name y py] kt pt] (.Tuple [a, b] k2 pt2) pos.line env = pure false := by intro _ _; rfl) : JS g c (sPar i j ra) (.Assign [.Tuple [.Name x px, .Name y py] kt pt] (.Tuple [a, b] k2 pt2) pos) := fun X ok =>
  PS.imp (ps_par ok.calm (by rw [ok.N]; exact ok.nd) (by rw [ok.N]; exact hi) (by rw [ok.N]; exact hj) hij (by rw [ok.sc]; exact hx) (by rw [ok.sc]; exact hy) (ha X ok) (hw _ ok.sc) (hs _ ok.sc)) fun En σ H h => by
    obtain ⟨μ, s, env, S, E, q⟩ := h
    obtain ⟨ds, s1, h1, q⟩ := st_ok q
    refine ⟨μ, s, env, ds, s1, S, E, h1, fun vs H1 μ1 x1 S1 r1 => ?_⟩
    split at q
    · cases r1 with
      | cons r r2 =>
      cases r2 with
      | cons r2 r3 =>
      cases r3
      exact ⟨_, _, rfl, q _ H1 μ1 x1 S1 (((E.mono S x1).set r i).set r2 j)⟩
    · exact q.elim
/-- x op= e -/
theorem js_aug {op : Operator} {f : D → D → Sto → R D} {x : Str} {p : Pos} (i : Nat) (hf : ∀ X : Cx, c.Ok g X → OpR X (inplaceOp op) (R2D g.K f)) (he : JE g c m e) (hN : c.N[i]? = some x := by rfl)
    (hx : c.sc.names.lookup x = some .local ∨ c.sc.names.lookup x = some .cell := by first | exact Or.inl rfl | exact Or.inr rfl) (hfn : c.fn x = true ∨ c.sc.names.lookup x = some .local := by first | exact .inl rfl | exact .inr rfl) : JS g c (sAug i f m) (.AugAssign (.Name x p) op e pos) := fun X ok =>
  PS.imp (ps_aug (i := i) (by rw [ok.N]; exact ok.nd) (by rw [ok.N]; exact hN) (by unfold L2.Loc; rw [ok.sc]; exact hx) (he X ok).1 (hf X ok) (by rw [ok.sc]; exact hfn.imp (ok.fn x) id)) fun En σ H h => by
    obtain ⟨μ, s, env, S, E, q⟩ := h
    unfold sAug at q
    split at q
    · rename_i dx hx
      obtain ⟨dy, s1, h1, q⟩ := st_ok q
      obtain ⟨dz, s2, h2, q⟩ := st_ok q
      obtain ⟨vx, hv, rx⟩ := E.2 i _ hx
      refine ⟨vx, hv, μ, s, env, dy, s1, S, E, h1, fun vy H1 μ1 x1 S1 ry => ?_⟩
      exact ⟨μ1, s1, dx, dy, dz, s2, S1, rx.mono S x1, ry, h2, fun vz H2 μ2 x2 S2 rz => q _ H2 μ2 (x1.trans x2) S2 ((((E.mono S x1)).mono S1 x2).set rz i)⟩
    · exact q.elim
/-- y = [..] on one line, y a local -/
theorem js_setLc {elt tg iter : Expr} {ifs : List Expr} {scope : Scope} {vs : List Nat} {mg : EvG} {it : EvI} {o : Option Sem} {y : Str} {py spos : Pos} (i : Nat) (own : List (Str × Nat)) (hb : blkC c.N c.sc scope own = true) (hi : JIt g c tg it iter) (hg : JG g (c.blk scope) vs mg tg) (hvs : ∀ i ∈ vs, i ∈ own.map (·.2))
    (ht : JT g (c.blk scope) o ifs) (he : JE g (c.blk scope) m elt) (hy : c.N[i]? = some y) (hyl : c.sc.names.lookup y = some .local) (hk : c.sc.kind = .function) (hl : (py.line == pos.line) = true) (hl2 : spos.line = spos.line := by rfl)
    (hn : (scope.names.any fun (n, k) => n == y && (k == .local || k == .cell)) = false) (hs : noSet iter = true := by rfl) : JS g c (sAsg (gVar i) (xComp (own.map (·.2)) mg it o m)) (.Assign [.Name y py] (.ListComp elt [⟨tg, iter, ifs, 0⟩] scope pos) spos) := fun X ok =>
  PS.imp (ps_setLc (i := i) (own := own) ok.calm (by rw [ok.N]; exact ok.nd) (by rw [ok.N]; exact hy) (by rw [ok.sc]; exact hyl) (sw_true (by rw [ok.sc]; exact hk) (by rw [ok.sc]; exact hyl) hl hn) (hi X ok) (blkOk_by (by rw [ok.N, ok.sc]; exact hb))
    (fun s H C cl fp => hg _ (blk_ok ok s H C cl fp)) (fun s H C cl fp => jt_pts ht (blk_ok ok s H C cl fp)) (fun s H C cl fp => (he _ (blk_ok ok s H C cl fp)).1) (noSet_ok hs _)) fun En σ H h => by
    obtain ⟨μ, s, env, S, E, q⟩ := h
    obtain ⟨d, s1, h1, q⟩ := st_ok q
    obtain ⟨env2, s2, h2, q⟩ := st_ok q
    cases h2
    exact rd_comp hvs ⟨μ, s, env, d, _, S, E, h1, fun v H1 μ1 x1 S1 r1 => q _ H1 μ1 x1 S1 ((E.mono S x1).set r1 i)⟩
/-! ### loops -/
theorem js_while {p : List Stmt} {mp : EvS} (hc : JE g c mc d) (hb : JSs g c mp p) : JS g c (sWhl mc mp) (.While d p [] pos) := fun X ok =>
  PS.imp (ps_while (by rw [ok.xe]; exact PassesOwn.never) (hc X ok).2 (hb X ok)) fun En σ H h => by
    obtain ⟨μ, s, env, S, E, q⟩ := h
    refine ⟨fun k σ H => ∃ μ s env, Sim g.K μ H s ∧ EnvR g.K H μ σ env ∧ RsOk g.K μ H (whl mc mp k env s) En, ⟨1000000, μ, s, env, S, E, q⟩, ?_⟩
    rintro k σ1 H1 ⟨μ1, s1, env1, S1, E1, q1⟩
    cases k with
    | zero => exact q1.elim
    | succ k =>
    obtain ⟨v, s2, h2, q2⟩ := st_ok q1
    refine ⟨μ1, s1, env1, v, s2, S1, E1, h2, fun H2 μ2 x2 S2 => ?_⟩
    cases v with
    | false => exact iteF (q2 σ1 H2 μ2 x2 S2 (E1.mono S1 x2))
    | true =>
      have q2 : RsOk g.K μ1 H1 ((mp env1 s2).turn (whl mc mp k)) En := q2
      refine iteT ⟨fun σ' H' => ∃ μ s env, Sim g.K μ H' s ∧ EnvR g.K H' μ σ' env ∧ RsOk g.K μ H' (whl mc mp k env s) En, fun σ' H' h => ⟨k, Nat.lt_succ_self _, h⟩, μ2, s2, env1, S2, E1.mono S1 x2, ?_⟩
      generalize mp env1 s2 = z at q2 ⊢
      cases z with
      | nx env3 s3 => exact fun σ3 H3 μ3 x3 S3 E3 => ⟨μ3, s3, env3, S3, E3, RsOk.mono q2 (x2.trans x3)⟩
      | ct env3 s3 => exact fun σ3 H3 μ3 x3 S3 E3 => ⟨μ3, s3, env3, S3, E3, RsOk.mono q2 (x2.trans x3)⟩
      | bk env3 s3 => exact fun σ3 H3 μ3 x3 S3 E3 => q2 σ3 H3 μ3 (x2.trans x3) S3 E3
      | rt d3 s3 => exact fun σ3 H3 μ3 x3 S3 E3 => q2 σ3 H3 μ3 (x2.trans x3) S3 E3
      | no => exact q2
def forFrom (b : D → Env → Sto → RS) (w : Wk) (k j : Nat) (env : Env) (s : Sto) : RS := match w with
  | .its xs => forIts b (xs.drop j) env s
  | .live i => forLive b i k j env s
theorem forFrom_step {b : D → Env → Sto → RS} {w : Wk} {k j : Nat} {env : Env} {s : Sto} : forFrom b w k j env s = .no ∨ (wkAt w s j = some none ∧ forFrom b w k j env s = .nx env s) ∨
    ∃ x k', wkAt w s j = some (some x) ∧ forFrom b w k j env s = (b x env s).turn (forFrom b w k' (j + 1)) ∧ wkMes w k' (j + 1) < wkMes w k j := by
  cases w with
  | its xs =>
    by_cases hj : j < xs.length
    · refine .inr (.inr ⟨xs[j], k, by show some xs[j]? = _; rw [List.getElem?_eq_getElem hj], ?_, by show xs.length - (j + 1) < xs.length - j; omega⟩)
      show forIts b (xs.drop j) env s = _
      rw [List.drop_eq_getElem_cons hj]
      rfl
    · refine .inr (.inl ⟨by show some xs[j]? = _; rw [List.getElem?_eq_none (by omega)], ?_⟩)
      show forIts b (xs.drop j) env s = _
      rw [List.drop_eq_nil_of_le (by omega)]
      rfl
  | live i =>
    cases k with
    | zero => exact .inl rfl
    | succ k =>
      show forLive b i (k + 1) j env s = .no ∨ _
      cases e : s.get i with
      | none => refine .inl ?_; unfold forLive; rw [e]
      | some o =>
        cases o with
        | dct kvs => refine .inl ?_; unfold forLive; rw [e]
        | lst xs =>
          cases hx : xs[j]? with
          | none =>
            refine .inr (.inl ⟨by unfold wkAt; dsimp only; rw [e]; show some xs[j]? = _; rw [hx], ?_⟩)
            show forLive b i (k + 1) j env s = _
            unfold forLive
            rw [e]
            dsimp only
            rw [hx]
          | some x =>
            refine .inr (.inr ⟨x, k, by unfold wkAt; dsimp only; rw [e]; show some xs[j]? = _; rw [hx], ?_, Nat.lt_succ_self _⟩)
            show forLive b i (k + 1) j env s = (b x env s).turn (forLive b i k (j + 1))
            conv => lhs; unfold forLive
            rw [e]
            dsimp only
            rw [hx]
theorem js_for {tg iter : Expr} {p : List Stmt} {mp : EvS} {vs : List Nat} {mg : EvG} {it : EvI} (hi : JIt g c tg it iter) (hg : JG g c vs mg tg) (hb : JSs g c mp p) (hs : noSet iter = true := by rfl) : JS g c (sFor mg it mp) (.For tg iter p [] pos) := fun X ok =>
  PS.imp (ps_for (by rw [ok.xe]; exact PassesOwn.never) ok.calm (hi X ok) (hg X ok) (hb X ok) (noSet_ok hs _)) fun En σ H h => by
    obtain ⟨μ, s, env, S, E, q⟩ := h
    obtain ⟨w, s1, h1, q⟩ := st_ok q
    refine ⟨μ, s, env, w, s1, S, E, h1, fun J H1 μ1 x1 S1 wk => ?_⟩
    have q : RsOk g.K μ H (forFrom (bodyF mg mp) w 1000000 0 env s1) En := by
      cases w <;> exact q
    refine ⟨fun i k σ H => ∃ μ' s' env' k', Ext μ1 H1 μ' H ∧ Sim g.K μ' H s' ∧ EnvR g.K H μ' σ env' ∧ RsOk g.K μ' H (forFrom (bodyF mg mp) w k' i env' s') En ∧ k = wkMes w k' i, ⟨wkMes w 1000000 0, μ1, s1, env, 1000000, .refl, S1, E.mono S x1, q.mono x1, rfl⟩, ?_⟩
    rintro i k σ2 H2 ⟨μ2, s2, env2, k2, x2, S2, E2, q2, rfl⟩
    rcases forFrom_step (b := bodyF mg mp) (w := w) (k := k2) (j := i) (env := env2) (s := s2) with e | ⟨hw, e⟩ | ⟨x, k', hw, e, hk⟩
    · rw [e] at q2; exact q2.elim
    · rw [e] at q2
      exact .inl ⟨(wk μ2 H2 s2 x2 S2 i).2 hw, q2 σ2 H2 μ2 .refl S2 E2⟩
    · rw [e] at q2
      obtain ⟨go, yld⟩ := (wk μ2 H2 s2 x2 S2 i).1 x hw
      refine .inr ⟨go, fun σ' H' => ∃ m', m' < wkMes w k2 i ∧ ∃ μ' s' env' k', Ext μ1 H1 μ' H' ∧ Sim g.K μ' H' s' ∧ EnvR g.K H' μ' σ' env' ∧ RsOk g.K μ' H' (forFrom (bodyF mg mp) w k' (i + 1) env' s') En ∧ m' = wkMes w k' (i + 1), fun σ' H' h => h, fun v H3 hy => ?_⟩
      obtain ⟨sm, rv⟩ := yld v H3 hy
      have S3 := S2.same sm
      have x23 : Ext μ2 H2 μ2 H3 := .same sm
      have E3 := E2.mono S2 x23
      unfold bodyF at q2
      cases hg4 : mg x env2 s2 with
      | no => rw [hg4] at q2; exact q2.elim
      | ok env4 s4 =>
        rw [hg4] at q2
        have q2 : RsOk g.K μ2 H2 ((mp env4 s4).turn (forFrom (bodyF mg mp) w k' (i + 1))) En := q2
        refine ⟨μ2, s2, env2, x, env4, s4, S3, E3, rv, hg4, fun σ4 H4 μ4 x4 S4 E4 _ => ⟨μ4, s4, env4, S4, E4, ?_⟩⟩
        have x24 := x23.trans x4
        generalize mp env4 s4 = z at q2 ⊢
        cases z with
        | nx env5 s5 => exact fun σ5 H5 μ5 x5 S5 E5 => ⟨_, hk, μ5, s5, env5, k', x2.trans (x24.trans x5), S5, E5, RsOk.mono q2 (x24.trans x5), rfl⟩
        | ct env5 s5 => exact fun σ5 H5 μ5 x5 S5 E5 => ⟨_, hk, μ5, s5, env5, k', x2.trans (x24.trans x5), S5, E5, RsOk.mono q2 (x24.trans x5), rfl⟩
        | bk env5 s5 => exact fun σ5 H5 μ5 x5 S5 E5 => q2 σ5 H5 μ5 (x24.trans x5) S5 E5
        | rt d5 s5 => exact fun σ5 H5 μ5 x5 S5 E5 => q2 σ5 H5 μ5 (x24.trans x5) S5 E5
        | no => exact q2
/-! ### defs -/
theorem fnB_len {np n : Nat} {b : EvS} {ds : List D} {d : D} (h : fnB np n b ds s = .ok d s') : ds.length = np := by
  unfold fnB at h
  split at h
  · assumption
  · cases h
theorem start_env {N : List Str} {vs : List V} {ds : List D} (r : Reps K H μ vs ds) : EnvR K H μ (L2.start N vs) (ds.map some ++ List.replicate (N.length - ds.length) none) := by
  unfold L2.start
  rw [r.length]
  refine ⟨by simp [r.length], fun j d h => ?_⟩
  by_cases hj : j < ds.length
  · rw [List.getElem?_append_left (by simpa using hj), List.getElem?_map] at h
    obtain ⟨d', h1, h2⟩ := Option.map_eq_some_iff.mp h
    cases h2
    obtain ⟨v, hv, rv⟩ := r.get h1
    refine ⟨v, ?_, rv⟩
    rw [List.getElem?_append_left (by rw [List.length_map, r.length]; exact hj), List.getElem?_map, hv]; rfl
  · rw [List.getElem?_append_right (by simpa using hj), List.getElem?_replicate] at h
    split at h <;> cases h
/-- a def of the text -/
theorem fn_ok {x qual : Str} {st : Stmt} {f : Addr} {fd : FuncData} {N ps : List Str} {lv : Nat} {b : EvS} (F : Fun g.K x qual st f fd) (S : FnScope N ps (defScope st)) (hb : JSs g ⟨N, defScope st, fun _ => true, lv⟩ b (defBody st)) :
    FnOk g.P g.w g.K g.mg g.base CX0 (lv + 1) f fd ps (spD g.K ps.length (fnB ps.length N.length b)) := by
  refine F.ok S (fun vs H Q E h => h.1) fun cdv A outer s H vs Q E hr h => ?_
  obtain ⟨hl, μ, st', ds, d, s', Sm, r, hv, q⟩ := h
  refine ⟨_, hb _ ⟨rfl, rfl, rfl, rfl, rfl, rfl, rfl, S.nd, fun _ h => h, rfl, rfl, hr⟩, μ, st', _, Sm, start_env r, ?_⟩
  unfold fnB at hv
  have hl2 : ds.length = ps.length := by rw [← r.length]; exact hl
  rw [if_pos hl2] at hv
  generalize b (ds.map some ++ List.replicate (N.length - ds.length) none) st' = z at hv ⊢
  cases z with
  | rt d1 s1 => cases hv; exact fun v H1 μ1 x1 S1 r1 => q v H1 μ1 x1 S1 r1
  | nx env1 s1 => cases hv; exact fun σ1 H1 μ1 x1 S1 _ => q .non H1 μ1 x1 S1 .non
  | bk _ _ => cases hv
  | ct _ _ => cases hv
  | no => cases hv
theorem fnS_of {x : Str} {ps : List Str} {lv np n : Nat} {b : EvS} {f : Addr} {fd : FuncData} (hn : np = ps.length) (hm : g.mg x = some (.ref f)) (hk : PySem.W.keepIn g.K (.ref f) = true) (hb : Binds g.K fd ps []) (h : FnOk g.P g.w g.K g.mg g.base CX0 lv f fd ps (spD g.K ps.length (fnB np n b))) : FnS g lv x ps (fnB np n b) :=
  ⟨fun ds s d s' q => by rw [← hn]; exact fnB_len q, f, fd, hm, hk, hb, h⟩
theorem fnK_of {x : Str} {ps ks : List Str} {lv np n nq : Nat} {p : List Nat} {b : EvS} {f : Addr} {fd : FuncData} (hn : np = ps.length) (hm : g.mg x = some (.ref f)) (hk : PySem.W.keepIn g.K (.ref f) = true)
    (hb : ∀ (s : Shared) (us ws : List Value), us.length = nq → ws.length = ks.length → BindsTo s fd ⟨us, ks.zip ws⟩ (ps.zip (gPerm .none nq ks.length p us ws))) (h0 : 0 < ps.length)
    (h : FnOk g.P g.w g.K g.mg g.base CX0 lv f fd ps (spD g.K ps.length (fnB np n b))) : FnK g lv x ps ks nq p (fnB np n b) :=
  ⟨fun ds s d s' q => by rw [← hn]; exact fnB_len q, f, fd, hm, hk, ⟨fun s us ws _ hl => by
    have : us.length = nq ∧ ws.length = ks.length := by
      unfold gPerm at hl
      split at hl
      · assumption
      · rw [List.length_nil] at hl; omega
    exact hb s us ws this.1 this.2, fun r q => Cs.Vals.perm r q⟩, h⟩
/-- no turn left -/
theorem fnNo_ok {x qual : Str} {st : Stmt} {f : Addr} {fd : FuncData} {ps : List Str} (F : Fun g.K x qual st f fd) : FnOk g.P g.w g.K g.mg g.base CX0 0 f fd ps (spD g.K ps.length fnNo) :=
  ⟨fun vs H Q E h => h.1, fun A outer s H args us vs Q E hr he hb hv h => by
    obtain ⟨hl, μ, st', ds, d, s', Sm, r, hv, q⟩ := h
    cases hv⟩
theorem fnNoS {x : Str} {ps : List Str} {f : Addr} {fd : FuncData} (hm : g.mg x = some (.ref f)) (hk : PySem.W.keepIn g.K (.ref f) = true) (hb : Binds g.K fd ps []) (h : FnOk g.P g.w g.K g.mg g.base CX0 0 f fd ps (spD g.K ps.length fnNo)) : FnS g 0 x ps fnNo :=
  ⟨fun ds s d s' q => (by cases q), f, fd, hm, hk, hb, h⟩
theorem FnS.mono {x : Str} {ps : List Str} {lv lv' : Nat} {f : Fn} (h : FnS g lv x ps f) (hl : lv ≤ lv') : FnS g lv' x ps f :=
  ⟨h.len, let ⟨a, b, h1, h2, h3, h4⟩ := h.ex; ⟨a, b, h1, h2, h3, h4.mono hl⟩⟩
/-! ### the law -/
theorem law_sp {f : Fn} {n : Nat} (hf : ∀ ns : List Int, ns.length ≤ n → ∃ s', f [.fix (ns.map .int)] Sto.new = .ok (.bl true) s') (K : PySem.W.Frag) (H : Hp) (a : Addr) (ns : List Int) (hn : ns.length ≤ n) (ho : Only H) (h : SqL K H a (ns.map V.int)) :
    spD K 1 f [.ref a] H (fun v _ => v = .bl true) fun _ _ _ => False := by
  obtain ⟨s', e⟩ := hf ns hn
  have intz : ∀ l : List Int, Reps K H [] (l.map V.int) (l.map D.int) := by
    intro l
    induction l with
    | nil => exact .nil
    | cons i l ih => exact .cons (.int i) ih
  have sf : SqF K H a (ns.map V.int) := by
    rcases h with (h | ⟨o, h⟩) | h
    · rcases ho a with z | ⟨o, xs, z⟩ <;> rw [h] at z <;> cases z
    · exact .inl ⟨o, h⟩
    · exact .inr h
  refine ⟨rfl, [], Sto.new, [.fix (ns.map .int)], .bl true, s', ⟨rfl, List.nodup_nil, fun i a h => by simp at h, fun i _ => Sto.new_get i⟩, .cons (.fix sf (intz ns)) .nil, e, fun v H' μ' x S r => ?_⟩
  cases r
  rfl
end
end Cs

/-! ## CsEnum -/
/-! enumerate of a tuple. -/
namespace Cs
open PySem PySem.Spec PyProof.Rows L2
theorem newT_enum (l : Addr) (items : Array Value) (n : Nat) (dct : Option Addr) (sl : Array (Option Value)) :
    Meets (Builtin.«enumerate.__new__» ⟨[.type "enumerate", .ref l], []⟩) (fun _ R s => s.heap.get? l = some { cls := .type "tuple", dict := dct, data := .seq items n, slots := sl } ∧
      R (.ok (.ret (.ref (s.heap.push { cls := .type "tuple_iterator", data := .fields #[.ref l, .int 0 0] }).objs.size)))
        { s with heap := (s.heap.push { cls := .type "tuple_iterator", data := .fields #[.ref l, .int 0 0] }).push { cls := .type "enumerate", data := .fields #[.none, .bool false, .ref s.heap.objs.size, rawInt 0, .none, .none] } }) :=
  .of_wp fun prog w A R s h => by
    obtain ⟨hp, g, d, tk, os⟩ := s; obtain ⟨hl, h⟩ := h
    have hsub := sub_enumerate
    have hL : Heap.IsTuple (Shared.heap ⟨hp, g, d, tk, os⟩) l items := ⟨_, hl, rfl, n, rfl⟩
    wp_walk using AutoSeq1.wpAny_loadPart' hl
    refine wpAny_stack_any fun st => wpAny_pure ?_
    split
    · rename_i c _ _ _ _ _
      cases (c == Value.type "enumerate")
      · wp_walk using AutoSeq1.wpAny_loadPart' hl, wpAny_pyIter_tuple hL
        exact ⟨_, rfl, h⟩
      · wp_walk using AutoSeq1.wpAny_loadPart' hl, wpAny_pyIter_tuple hL
        exact ⟨_, rfl, h⟩
    · wp_walk using AutoSeq1.wpAny_loadPart' hl, wpAny_pyIter_tuple hL
      exact ⟨_, rfl, h⟩
theorem call_enumT {prog : Program} {w : World} {A : Around} {E : Value → Shared → Prop} {s : Shared} {l : Addr} {items : Array Value} {Q : Value → Shared → Prop} (hL : s.heap.IsTuple l items)
    (h : ∀ h', IsEnum h' (s.heap.objs.size + 1) s.heap.objs.size 0 .none → h'.IsTupleIter s.heap.objs.size l 0 → h'.objs.size = s.heap.objs.size + 2 →
      (∀ b o, s.heap.get? b = some o → h'.get? b = some o) → Q (.ref (s.heap.objs.size + 1)) { s with heap := h' }) :
    wpAny (model prog w) A (call (.type "enumerate") [.ref l]) Q E s := by
  obtain ⟨⟨c, dct, dt, sl⟩, hl, hc, n, hd⟩ := hL
  replace hc : c = .type "tuple" := hc
  replace hd : dt = .seq items n := hd
  subst hc hd
  refine callType_new F.called_enumerate (by decide) (F.typeCall_enumerate_1 _) (F.newCall_enumerate_1 _) (fun obj => F.args_object_init_2 obj _) F.entry_enumerate_new
    (newT_enum l items n dct sl) ⟨hl, ?_⟩
  have hz : (s.heap.push { cls := .type "tuple_iterator", data := .fields #[.ref l, .int 0 0] }).objs.size = s.heap.objs.size + 1 := Heap.size_push ..
  show _ ∧ _
  rw [hz]
  have he : IsEnum ((s.heap.push { cls := .type "tuple_iterator", data := .fields #[.ref l, .int 0 0] }).push
      { cls := .type "enumerate", data := .fields #[.none, .bool false, .ref s.heap.objs.size, rawInt 0, .none, .none] }) (s.heap.objs.size + 1) s.heap.objs.size 0 .none := by
    have := Heap.get?_push_size (s.heap.push { cls := .type "tuple_iterator", data := .fields #[.ref l, .int 0 0] })
      (o := { cls := .type "enumerate", data := .fields #[.none, .bool false, .ref s.heap.objs.size, rawInt 0, .none, .none] }) rfl
    rw [hz] at this; exact this
  refine ⟨⟨_, he, rfl⟩, h _ he ⟨_, Heap.get?_push_of_some _ (Heap.get?_push_size _ rfl), rfl, rfl⟩ (by rw [Heap.size_push, hz]) fun b o x => Heap.get?_push_of_some _ (Heap.get?_push_of_some _ x)⟩
/-- the tuple at a, each item in a new pair -/
def IteT (K : PySem.W.Frag) (a : Addr) : It :=
  ⟨fun i H => ∃ (xs : List V) (x : V), SqT K H a xs ∧ xs[i]? = some x, fun i H v H' => ∃ T x, v = .ref T ∧ H T = none ∧ H' = upd H T (.tup [.int (i : Nat), x]) ∧ ∀ xs, SqT K H a xs → xs[i]? = some x, fun i H => ∃ xs : List V, SqT K H a xs ∧ xs.length ≤ i⟩
theorem turn_enumT {P : Program} {w : World} {K : PySem.W.Frag} {elts : List Expr} {kk : Nat} {tpos : Pos} (a e it : Addr) (hai : a ≠ it) :
    L2.Turn P w K (.Tuple elts kk tpos) (IteT K a) [e, it] e (fun i h => (∃ old, IsEnum h e it ((i : Nat) : Int) old) ∧ h.IsTupleIter it a i ∧ e ≠ it) where
  mem := by simp
  obj := fun i h st b hb => by
    obtain ⟨⟨old, he⟩, ⟨o, ho, hc, hd⟩, _⟩ := st
    have e' : b = e ∨ b = it := by simpa using hb
    rcases e' with z | z
    · rw [z]; exact ⟨_, he, fun v q => nomatch q⟩
    · rw [z]; exact ⟨o, ho, fun v q => by rw [hd] at q; cases q⟩
  keep := fun i h h' st k => let ⟨⟨old, he⟩, hi, hne⟩ := st; ⟨⟨old, k e (by simp) _ he⟩, hi.at fun o q => k it (by simp) o q, hne⟩
  item := by
    intro X hP hw hK hc i pins s σ H E I hf st hg
    subst hP hw hK
    obtain ⟨⟨old, he⟩, hit, hne⟩ := st
    obtain ⟨xs, x, hq, hx⟩ := hg
    obtain ⟨its, rv, p, hz⟩ := I.tuple hq
    obtain ⟨u, hu, ru⟩ := rv.get hx
    have hel : e < s.heap.objs.size := Heap.lt_size he
    have hil : it < s.heap.objs.size := by obtain ⟨_, q, _⟩ := hit; exact Heap.lt_size q
    have pT : s.heap.IsTuple a its.toArray := p
    -- the inner iterator's own turn, the tuple as it stands
    by_cases hea : e = a
    · exfalso
      obtain ⟨o, ho, hoc, _⟩ := id pT
      rw [← hea, he] at ho
      cases ho
      exact absurd (Value.type.inj hoc) (by decide)
    have D : Draws X.prog X.w X.A.in1 it [it, a] its.toArray.size (fun i v => its.toArray[i]? = some v) (fun i h => h.IsTupleIter it a i ∧ h.IsTuple a its.toArray) := Draws.tuple (A := X.A.in1) (I.ok.hd hc) it a hai its.toArray
    refine wpAny_pyNext_enum_itemD D he ⟨hit, pT⟩ (by have := (List.getElem?_eq_some_iff.mp hu).1; simpa using this) hne (by simpa using ⟨hne, hea⟩) fun u' h' tk hP ho hit' hT hsz hk => ?_
    have hu' : its.toArray[i]? = some u' := hP
    have hu2 : u' = u := by
      have : its.toArray[i]? = some u := by simpa using hu
      rw [this] at hu'; exact (Option.some.inj hu').symm
    subst hu2
    refine ⟨_, rfl, wpAny_letOwnedTupleGo_enum (s := { s with heap := h', toks := tk + 1 }) ho fun h'' he' sb => ?_⟩
    have hT2 : h''.get? s.heap.objs.size = some { cls := .type "tuple", data := .seq #[.int i tk, u'] } := (sb.2 _ (Nat.ne_of_gt hel)).trans hT
    have new : ObjOk X.prog X.w (upd H s.heap.objs.size (.tup [.int (i : Nat), x])) h'' s.heap.objs.size (.tup [.int (i : Nat), x]) :=
      ⟨by show 2 ≤ sizeLine; decide, [.int i tk, u'], .cons ⟨_, rfl⟩ (.cons ru .nil), ⟨_, hT2, rfl, _, rfl⟩⟩
    have I1 : Inv X pins σ (upd H s.heap.objs.size (.tup [.int (i : Nat), x])) { s with heap := h'', toks := tk + 1 } :=
      I.turnedNew (ch := [e, it]) (fun b ob hb q => (sb.2 b (fun z => hb (by simp [z]))).trans (hk b ob (fun z => hb (by simp [z])) (fun z => hb (by simp [z])) q)) hf (Nat.le_refl _) new
    refine ⟨.ref s.heap.objs.size, _, I1, rfl, ⟨_, x, rfl, I.hok.fresh (Nat.le_refl _), rfl, fun ys hy => by rw [I.tuple_inj hy hq]; exact hx⟩, ⟨⟨u', ?_⟩, hit'.1.at fun o q => (sb.2 it (Ne.symm hne)).trans q, hne⟩, fun b hb => ?_⟩
    · have e1 : ((i + 1 : Nat) : Int) = (i : Int) + 1 := by omega
      rw [e1]; exact he'
    · have hb' : b < s.heap.objs.size := by
        have e' : b = e ∨ b = it := by simpa using hb
        rcases e' with z | z
        · rw [z]; exact hel
        · rw [z]; exact hil
      rw [upd_ne (Nat.ne_of_lt hb')]
      exact (hf b hb).1
  done := by
    intro X hP hw hK hc i pins s σ H E I hf st hg
    subst hP hw hK
    obtain ⟨⟨old, he⟩, hit, hne⟩ := st
    obtain ⟨xs, hq, hx⟩ := hg
    obtain ⟨its, rv, p, hz⟩ := I.tuple hq
    obtain ⟨f0, f1, f2, f3, f4, f5⟩ := hf it (by simp)
    have hl := rv.length
    have pT : s.heap.IsTuple a its.toArray := p
    have hT : s.TypeIs (.ref e) "enumerate" := ⟨_, he, rfl⟩
    unfold pyNext
    refine wpAny_bind (wpAny_attempt (wpAny_callSpecial?_slot (name := Str.ofString "__next__") hT F.slot_enumerate_next
      (wpAny_call_entry F.slot_enumerate_next hT F.entry_enumerate_next ?_ (F.args_enumerate_next_1 _))))
    show wpAny _ _ (field (.ref e) 2 >>= _) _ _ _
    refine wpAny_bind (wpAny_field he rfl (x := .ref it) rfl ?_)
    refine wpAny_bind (wpAny_nextOf_tuple_end (I.ok.hd hc) hit pT (by simp; omega) fun h' x he' hx' => ?_)
    obtain ⟨o, ho, hc'⟩ := hx'
    refine wpAny_bind (wpAny_isInstance (T := "StopIteration") (b := true) ⟨o, ho, hc'⟩ isSubtype_stop ?_)
    exact wpAny_pure ⟨rfl, I.turned (t' := s.toks) (fun b o hb q => he' b o hb q) f0 f1 f3 f4 f5⟩
  self := fun A i s Q E st h => let ⟨⟨_, he⟩, _⟩ := st; wpAny_pyIter_enum he h
end Cs

/-! ## CsSim8 -/
namespace Cs
open PySem PySem.Spec PyProof.Rows L2
section
variable {K : PySem.W.Frag} {μ μ' : List Addr} {H H' : Hp} {s s' : Sto} {g : Gb} {c : Cc} {X : Cx} {m ma mb mc : Sem} {e a b d : Expr} {pos : Pos}
/-! ### x, y, z = .. -/
theorem js_par3 {ra : EvA} {i j l : Nat} {x y z : Str} {a b d : Expr} {px py pz pt : Pos} {kt k2 pt2} (hi : c.N[i]? = some x) (hj : c.N[j]? = some y) (hl : c.N[l]? = some z) (hij : i ≠ j) (hil : i ≠ l) (hjl : j ≠ l)
    (hx : c.sc.names.lookup x = some .local) (hy : c.sc.names.lookup y = some .local) (hz : c.sc.names.lookup z = some .local) (ha : JA g c ra [a, b, d])
    (hw : ∀ env : PySem.Env, env.scope = c.sc → swappedStores [.Tuple [.Name x px, .Name y py, .Name z pz] kt pt] (.Tuple [a, b, d] k2 pt2) env = pure (some [x, y, z]))
    (hs : ∀ env : PySem.Env, env.scope = c.sc → swapsWithSole [.Tuple [.Name x px, .Name y py, .Name z pz] kt pt] (.Tuple [a, b, d] k2 pt2) pos.line env = pure false := by intro _ _; rfl) :
    JS g c (sPar3 i j l ra) (.Assign [.Tuple [.Name x px, .Name y py, .Name z pz] kt pt] (.Tuple [a, b, d] k2 pt2) pos) := fun X ok =>
  PS.imp (ps_par3 ok.calm (by rw [ok.N]; exact ok.nd) (by rw [ok.N]; exact hi) (by rw [ok.N]; exact hj) (by rw [ok.N]; exact hl) hij hil hjl (by rw [ok.sc]; exact hx) (by rw [ok.sc]; exact hy) (by rw [ok.sc]; exact hz) (ha X ok) (hw _ ok.sc) (hs _ ok.sc)) fun En σ H h => by
    obtain ⟨μ, s, env, S, E, q⟩ := h
    obtain ⟨ds, s1, h1, q⟩ := st_ok q
    refine ⟨μ, s, env, ds, s1, S, E, h1, fun vs H1 μ1 x1 S1 r1 => ?_⟩
    split at q
    · cases r1 with
      | cons r r2 =>
      cases r2 with
      | cons r2 r3 =>
      cases r3 with
      | cons r3 r4 =>
      cases r4
      exact ⟨_, _, _, rfl, q _ H1 μ1 x1 S1 ((((E.mono S x1).set r i).set r2 j).set r3 l)⟩
    · exact q.elim
/-! ### range(i, j, -1) -/
theorem rgdD_get {i : Int} {n j : Nat} : (rgdD i n)[j]? = if j < n then some (.int (i - (j : Nat))) else none := by
  unfold rgdD
  rw [List.getElem?_map]
  by_cases h : j < n
  · rw [if_pos h, List.getElem?_range h]; rfl
  · rw [if_neg h, List.getElem?_eq_none (by simpa using h)]; rfl
theorem wk_rgd {i : Int} {n : Nat} : WkOk K (Itc i (-1) n) (.its (rgdD i n)) μ H := fun μ' H' s' ex S' j => by
  refine ⟨fun d hd => ?_, fun hd => ?_⟩
  · have hd : (rgdD i n)[j]? = some d := Option.some.inj hd
    rw [rgdD_get] at hd
    split at hd
    · rename_i hj
      cases hd
      refine ⟨hj, fun x H'' hy => ?_⟩
      obtain ⟨rfl, rfl⟩ := hy
      have e : i + (j : Int) * -1 = i - (j : Nat) := by omega
      rw [e]
      exact ⟨.refl _, .int _⟩
    · cases hd
  · have hd : (rgdD i n)[j]? = none := Option.some.inj hd
    rw [rgdD_get] at hd
    split at hd
    · cases hd
    · rename_i hj
      exact Nat.le_of_not_lt hj
theorem ji_rg3 {p : Pos} {ra : EvA} (hs : c.sc.names.lookup ("range" : Str) = some .globalImplicit) (hm : g.mg ("range" : Str) = none) (ha : JA g c ra [a, b, d]) (hst : noStar a = true := by rfl) (hst2 : noStar b = true := by rfl) (hst3 : noStar d = true := by rfl) : JI g c (iRg3 ra) (.Call (.Name "range" p) [a, b, d] [] pos) := fun X ok tg =>
  PI.imp (pi_range3 (by show X.env.scope.names.lookup _ = _; rw [ok.sc]; exact hs) (by rw [ok.mg]; exact hm) (ha X ok) (star_cons hst _) (by rw [star_cons hst2, star_cons hst3]; rfl)) fun σ H R h => by
    obtain ⟨μ, s, env, w, s', S, E, hv, q⟩ := h
    obtain ⟨ds, s1, h1, hv⟩ := bind_ok hv
    refine ⟨μ, s, env, ds, s1, S, E, h1, fun vs H1 μ1 x1 S1 r1 => ?_⟩
    split at hv
    · split at hv
      · rename_i hb
        cases hv
        cases r1 with
        | cons r r2 =>
        cases r2 with
        | cons r2 r3 =>
        cases r3 with
        | cons r3 r4 =>
        cases r4; cases r; cases r2; cases r3
        obtain ⟨rfl, hb1, hb2⟩ := hb
        exact ⟨_, _, _, _, rfl, RgC.neg (bigI_ok hb1).1 (bigI_ok hb1).2 (bigI_ok hb2).1 (bigI_ok hb2).2, q _ H1 μ1 x1 S1 wk_rgd⟩
      · cases hv
    · cases hv
/-! ### enumerate -/
theorem pi_enumT {X : Cx} {e : Expr} {ta : TA} {p pos tpos : Pos} {elts : List Expr} {kk : Nat} (hg : Gl X "enumerate") (hm : X.mg "enumerate" = none) (ha : PA X [e] ta) (hs : starEach [e] X.env = [(false, eval e X.env)] := by rfl) :
    PI X (.Tuple elts kk tpos) (.Call (.Name "enumerate" p) [e] [] pos) (fun σ H R => ta σ H fun vs H1 => ∃ a xs, vs = [.ref a] ∧ SqT X.K H1 a xs ∧ R (IteT X.K a) H1) := by
  refine ⟨fun pins s σ H R I h => ?_⟩
  refine Call_ (ld_blt I hg hm boot_enumerate (PyProof.Rows.callWith_type1 (thn (ha.run pos pins s σ H _ I h) fun us s1 ⟨vs, H1, I1, r1, q1⟩ => ?_) hs rfl))
  obtain ⟨a, xs, ex, hq, q⟩ := q1
  subst ex
  cases r1 with
  | cons r rr =>
    cases rr
    cases r
    obtain ⟨its, rv, p', hz⟩ := I1.tuple hq
    have pT : s1.heap.IsTuple a its.toArray := p'
    have hal : a < s1.heap.objs.size := by obtain ⟨_, q, _⟩ := id pT; exact Heap.lt_size q
    refine call_enumT pT fun h' he hit hsz hk => wpAny_pyIter_enum he ?_
    have I2 : Inv X pins σ H1 { s1 with heap := h' } := I1.kept (t' := s1.toks) hk
    refine ⟨s1.heap.objs.size + 1, [s1.heap.objs.size + 1, s1.heap.objs.size], _, _, H1, rfl, I2, turn_enumT a (s1.heap.objs.size + 1) s1.heap.objs.size (Nat.ne_of_lt hal), ⟨⟨.none, he⟩, hit, Nat.succ_ne_self _⟩, fun b hb => ?_, q⟩
    have e' : b = s1.heap.objs.size + 1 ∨ b = s1.heap.objs.size := by simpa using hb
    have hle : s1.heap.objs.size ≤ b := by
      rcases e' with z | z
      · rw [z]; exact Nat.le_add_right _ _
      · rw [z]; exact Nat.le_refl _
    exact I1.fpOk hle (I1.hok.fresh hle)
theorem enumD_get {ds : List D} {j : Nat} : (enumD ds)[j]? = (ds[j]?).map fun x => .tup [.int (j : Nat), x] := by
  unfold enumD
  rw [List.getElem?_map, List.getElem?_zipIdx]
  cases ds[j]? <;> simp
theorem wk_enumT {a : Addr} {xs : List V} {ds : List D} (S : Sim K μ H s) (tx : SqT K H a xs) (r : Reps K H μ xs ds) : WkOk K (IteT K a) (.its (enumD ds)) μ H := fun μ' H' s' ex S' j => by
  have tx' : SqT K H' a xs := sqT_keep (fun a xs h => ex.keep a _ h (S.nomem fun xs e => by rw [h] at e; cases e)) (fun a o u h => ex.keep a _ h (S.nomem fun xs e => by rw [h] at e; cases e)) tx
  have r' := r.mono S ex
  refine ⟨fun d hd => ?_, fun hd => ?_⟩
  · have hd : (enumD ds)[j]? = some d := Option.some.inj hd
    rw [enumD_get] at hd
    obtain ⟨y, hy, rfl⟩ := Option.map_eq_some_iff.mp hd
    obtain ⟨v, hv, rv⟩ := r'.get hy
    refine ⟨⟨xs, v, tx', hv⟩, fun x H'' hyl => ?_⟩
    obtain ⟨T, z, rfl, hT, rfl, hz⟩ := hyl
    have ez : z = v := by have := hz xs tx'; rw [hv] at this; exact (Option.some.inj this).symm
    subst ez
    obtain ⟨_, _, rp⟩ := rep_tup S' hT (Reps.cons (.int _) (Reps.cons rv .nil))
    exact ⟨fun b o hb => by rw [upd_ne (fun q => by rw [q, hT] at hb; cases hb)]; exact hb, rp⟩
  · have hd : (enumD ds)[j]? = none := Option.some.inj hd
    rw [enumD_get] at hd
    have : ds[j]? = none := by
      cases h : ds[j]? with
      | none => rfl
      | some y => rw [h] at hd; cases hd
    exact ⟨xs, tx', List.getElem?_eq_none_iff.mp (r'.none_of this)⟩
theorem ji_enum {p tpos : Pos} {ra : EvA} {elts : List Expr} {kk : Nat} (hs : c.sc.names.lookup ("enumerate" : Str) = some .globalImplicit) (hm : g.mg ("enumerate" : Str) = none) (ha : JA g c ra [a]) (hst : noStar a = true := by rfl) : JIt g c (.Tuple elts kk tpos) (iEnum ra) (.Call (.Name "enumerate" p) [a] [] pos) := fun X ok =>
  PI.imp (pi_enumT (by show X.env.scope.names.lookup _ = _; rw [ok.sc]; exact hs) (by rw [ok.mg]; exact hm) (ha X ok) (star_cons hst _)) fun σ H R h => by
    obtain ⟨μ, s, env, w, s', S, E, hv, q⟩ := h
    obtain ⟨ds, s1, h1, hv⟩ := bind_ok hv
    refine ⟨μ, s, env, ds, s1, S, E, h1, fun vs H1 μ1 x1 S1 r1 => ?_⟩
    split at hv
    · cases hv
      cases r1 with
      | cons r r2 =>
      cases r2
      cases r with
      | tup tx rx =>
        exact ⟨_, _, rfl, by rw [ok.K]; exact tx, by rw [ok.K]; exact q _ H1 μ1 x1 S1 (wk_enumT S1 tx rx)⟩
    · cases hv
/-! ### l.index(x) -/
theorem mt_indexI (hK : X.K = K) : MtR X "list.index" (RmD K indexM) := by
  subst hK
  refine MtR.imp mt_index fun x xs H Q h => ?_
  obtain ⟨μ, s, dx, ds, d, s', S, rx, rs, h, q⟩ := h
  unfold indexM at h
  split at h
  · split at h
    · rename_i ex
      split at h
      · rename_i ns hns
        split at h
        · rename_i i
          split at h
          · rename_i j hj
            cases h
            cases rx with
            | ref rx =>
            cases rs with
            | cons r1 r2 =>
            cases r2
            cases r1
            obtain ⟨hm, vx, hx, px⟩ := Rep.lst_at S (.ref rx) ex
            have ev := ints_rep px hns
            subst ev
            obtain ⟨hj1, hj2, hj3⟩ := List.findIdx?_eq_some_iff_getElem.mp hj
            refine ⟨_, _, _, j, V.int ns[j], rfl, rfl, .of hx, rfl, ?_, ?_, ?_, ?_, q _ _ μ .refl S (.int _)⟩
            · rw [List.all_map]; exact List.all_eq_true.mpr fun _ _ => rfl
            · rw [List.getElem?_map, List.getElem?_eq_getElem hj1]; rfl
            · simpa [eqV] using hj2
            · intro m z hm' hz
              rw [List.getElem?_map, List.getElem?_eq_getElem (by omega)] at hz
              cases hz
              simpa [eqV] using hj3 m hm'
          · cases h
        · cases h
      · cases h
    · cases h
  · cases h
end
end Cs

/-! ## CsRun -/
/-! How the plain meaning is computed: rules for simp, loops, comprehensions. -/
namespace Cs
open PySem
/-! ### results -/
@[simp] theorem bind_ok' {α β : Type} (a : α) (s : Sto) (f : α → Sto → R β) : (R.ok a s).bind f = f a s := id rfl
@[simp] theorem bind_no {α β : Type} (f : α → Sto → R β) : (R.no : R α).bind f = .no := id rfl
@[simp] theorem st_ok' {α : Type} (a : α) (s : Sto) (f : α → Sto → RS) : (R.ok a s).st f = f a s := id rfl
@[simp] theorem st_no {α : Type} (f : α → Sto → RS) : (R.no : R α).st f = .no := id rfl
@[simp] theorem then_nx (e : Env) (s : Sto) (f : Env → Sto → RS) : (RS.nx e s).then f = f e s := id rfl
@[simp] theorem then_rt (d : D) (s : Sto) (f : Env → Sto → RS) : (RS.rt d s).then f = .rt d s := id rfl
@[simp] theorem then_bk (e : Env) (s : Sto) (f : Env → Sto → RS) : (RS.bk e s).then f = .bk e s := id rfl
@[simp] theorem then_ct (e : Env) (s : Sto) (f : Env → Sto → RS) : (RS.ct e s).then f = .ct e s := id rfl
@[simp] theorem turn_nx (e : Env) (s : Sto) (f : Env → Sto → RS) : (RS.nx e s).turn f = f e s := id rfl
@[simp] theorem turn_rt (d : D) (s : Sto) (f : Env → Sto → RS) : (RS.rt d s).turn f = .rt d s := id rfl
@[simp] theorem turn_bk (e : Env) (s : Sto) (f : Env → Sto → RS) : (RS.bk e s).turn f = .nx e s := id rfl
@[simp] theorem turn_ct (e : Env) (s : Sto) (f : Env → Sto → RS) : (RS.ct e s).turn f = f e s := id rfl
/-! ### expressions -/
section
variable (env : Env) (s : Sto)
@[simp] theorem v_mk (v : EvE) : (mk v).v env s = v env s := id rfl
@[simp] theorem t_mk (v : EvE) : (mk v).t env s = (v env s).bind fun d s => truth d s := id rfl
@[simp] theorem v_C (d : D) : (xC d).v env s = .ok d s := id rfl
@[simp] theorem t_C (d : D) : (xC d).t env s = truth d s := id rfl
def getV (o : Option (Option D)) (s : Sto) : R D := match o with
  | some (some d) => .ok d s
  | _ => .no
@[simp] theorem getV_some (d : D) (s : Sto) : getV (some (some d)) s = .ok d s := id rfl
@[simp] theorem v_Var (i : Nat) : (xVar i).v env s = getV env[i]? s := id rfl
@[simp] theorem t_Var (i : Nat) : (xVar i).t env s = (getV env[i]? s).bind fun d s => truth d s := id rfl
@[simp] theorem v_Bin (f : D → D → Sto → R D) (a b : Sem) : (xBin f a b).v env s = (a.v env s).bind fun x s => (b.v env s).bind fun y s => f x y s := id rfl
@[simp] theorem t_Bin (f : D → D → Sto → R D) (a b : Sem) : (xBin f a b).t env s = ((a.v env s).bind fun x s => (b.v env s).bind fun y s => f x y s).bind fun d s => truth d s := id rfl
@[simp] theorem v_Un (f : D → Sto → R D) (a : Sem) : (xUn f a).v env s = (a.v env s).bind fun x s => f x s := id rfl
@[simp] theorem t_Un (f : D → Sto → R D) (a : Sem) : (xUn f a).t env s = ((a.v env s).bind fun x s => f x s).bind fun d s => truth d s := id rfl
def chain2 (k : D → Sto → R D) (z : D) (s : Sto) : R D := match z with
  | .bl true => k z s
  | .bl false => .ok (.bl false) s
  | _ => .no
@[simp] theorem chain2_t (k : D → Sto → R D) (s : Sto) : chain2 k (.bl true) s = k (.bl true) s := id rfl
@[simp] theorem chain2_f (k : D → Sto → R D) (s : Sto) : chain2 k (.bl false) s = .ok (.bl false) s := id rfl
@[simp] theorem v_Chain (f g : D → D → Sto → R D) (a b c : Sem) : (xChain f g a b c).v env s = (a.v env s).bind fun x s => (b.v env s).bind fun y s => (f x y s).bind (chain2 fun _ s => (c.v env s).bind fun w s => g y w s) := id rfl
@[simp] theorem t_Chain (f g : D → D → Sto → R D) (a b c : Sem) : (xChain f g a b c).t env s = ((xChain f g a b c).v env s).bind fun d s => truth d s := id rfl
@[simp] theorem v_Not (a : Sem) : (xNot a).v env s = (a.v env s).bind fun x s => (truth x s).bind fun b s => .ok (.bl (!b)) s := id rfl
@[simp] theorem t_Not (a : Sem) : (xNot a).t env s = (a.t env s).bind fun b s => .ok (!b) s := id rfl
@[simp] theorem v_And (a b : Sem) : (xAnd a b).v env s = (a.v env s).bind fun x s => (truth x s).bind fun k s => if k = true then b.v env s else .ok x s := id rfl
@[simp] theorem t_And (a b : Sem) : (xAnd a b).t env s = (a.t env s).bind fun k s => if k = true then b.t env s else .ok false s := id rfl
@[simp] theorem v_Or (a b : Sem) : (xOr a b).v env s = (a.v env s).bind fun x s => (truth x s).bind fun k s => if k = true then .ok x s else b.v env s := id rfl
@[simp] theorem t_Or (a b : Sem) : (xOr a b).t env s = (a.t env s).bind fun k s => if k = true then .ok true s else b.t env s := id rfl
@[simp] theorem v_If (c a b : Sem) : (xIf c a b).v env s = (c.t env s).bind fun k s => if k = true then a.v env s else b.v env s := id rfl
@[simp] theorem t_If (c a b : Sem) : (xIf c a b).t env s = (c.t env s).bind fun k s => if k = true then a.t env s else b.t env s := id rfl
@[simp] theorem a_Nil : aNil env s = .ok [] s := id rfl
@[simp] theorem a_Cons (a : Sem) (r : EvA) : aCons a r env s = (a.v env s).bind fun x s => (r env s).bind fun xs s => .ok (x :: xs) s := id rfl
@[simp] theorem v_Tup (a : EvA) : (xTup a).v env s = (a env s).bind fun xs s => if xs.length ≤ sizeLine then .ok (.tup xs) s else .no := id rfl
@[simp] theorem t_Tup (a : EvA) : (xTup a).t env s = ((xTup a).v env s).bind fun d s => truth d s := id rfl
@[simp] theorem v_Lst (a : EvA) : (xLst a).v env s = (a env s).bind newL := id rfl
@[simp] theorem t_Lst (a : EvA) : (xLst a).t env s = ((a env s).bind newL).bind fun d s => truth d s := id rfl
@[simp] theorem v_Call (f : Fn) (a : EvA) : (xCall f a).v env s = (a env s).bind f := id rfl
@[simp] theorem t_Call (f : Fn) (a : EvA) : (xCall f a).t env s = ((a env s).bind f).bind fun d s => truth d s := id rfl
@[simp] theorem v_CallK (f : Fn) (np nk : Nat) (p : List Nat) (a k : EvA) : (xCallK f np nk p a k).v env s = (a env s).bind fun us s => (k env s).bind fun ws s => f (gPerm .non np nk p us ws) s := id rfl
@[simp] theorem t_CallK (f : Fn) (np nk : Nat) (p : List Nat) (a k : EvA) : (xCallK f np nk p a k).t env s = ((xCallK f np nk p a k).v env s).bind fun d s => truth d s := id rfl
@[simp] theorem v_Bi (f : List D → Sto → R D) (a : EvA) : (xBi f a).v env s = (a env s).bind f := id rfl
@[simp] theorem t_Bi (f : List D → Sto → R D) (a : EvA) : (xBi f a).t env s = ((a env s).bind f).bind fun d s => truth d s := id rfl
@[simp] theorem v_Meth (f : D → List D → Sto → R D) (o : Sem) (a : EvA) : (xMeth f o a).v env s = (o.v env s).bind fun x s => if isL x s = true then (a env s).bind fun xs s => f x xs s else .no := id rfl
@[simp] theorem o_No : oNo env s = .ok none s := id rfl
def toO (x : D) (s : Sto) : R (Option Int) := match x with
  | .int i => .ok (some i) s
  | _ => .no
@[simp] theorem toO_int (i : Int) (s : Sto) : toO (.int i) s = .ok (some i) s := id rfl
@[simp] theorem o_Yes (a : Sem) : oYes a env s = (a.v env s).bind toO := by
  show R.bind _ _ = R.bind _ _
  congr 1
@[simp] theorem v_Slc (a : Sem) (lo hi : EvO) : (xSlc a lo hi).v env s = (a.v env s).bind fun x s => (lo env s).bind fun l s => (hi env s).bind fun h s => slcD x l h s := id rfl
@[simp] theorem v_Comp (own : List Nat) (g : EvG) (it : EvI) (c : Option Sem) (e : Sem) : (xComp own g it c e).v env s = (it env s).bind fun w s => (goWk (turnC g c e (wipeE env own)) w s).bind newL := id rfl
/-! ### truth -/
@[simp] theorem truth_non : truth .non s = .ok false s := id rfl
@[simp] theorem truth_bl (b : Bool) : truth (.bl b) s = .ok b s := id rfl
@[simp] theorem truth_int (i : Int) : truth (.int i) s = .ok (i != 0) s := id rfl
@[simp] theorem truth_tup (xs : List D) : truth (.tup xs) s = .ok (!xs.isEmpty) s := id rfl
@[simp] theorem truth_fix (xs : List D) : truth (.fix xs) s = .ok (!xs.isEmpty) s := id rfl
/-! ### statements -/
@[simp] theorem s_Nil : sNil env s = .nx env s := id rfl
@[simp] theorem s_Cons (a b : EvS) : sCons a b env s = (a env s).then b := id rfl
@[simp] theorem s_Expr (a : Sem) : sExpr a env s = (a.v env s).st fun _ s => .nx env s := id rfl
@[simp] theorem s_Asg (g : EvG) (a : Sem) : sAsg g a env s = (a.v env s).st fun d s => (g d env s).st fun env s => .nx env s := id rfl
def par2 (i j : Nat) (env : Env) (xs : List D) (s : Sto) : RS := match xs with
  | [x, y] => .nx ((env.set i (some x)).set j (some y)) s
  | _ => .no
@[simp] theorem par2_ok (i j : Nat) (x y : D) : par2 i j env [x, y] s = .nx ((env.set i (some x)).set j (some y)) s := id rfl
@[simp] theorem s_Par (i j : Nat) (a : EvA) : sPar i j a env s = (a env s).st (par2 i j env) := by
  show R.st _ _ = R.st _ _
  congr 1
def augV (i : Nat) (f : D → D → Sto → R D) (a : Sem) (env : Env) (o : Option (Option D)) (s : Sto) : RS := match o with
  | some (some x) => (a.v env s).st fun y s => (f x y s).st fun z s => .nx (env.set i (some z)) s
  | _ => .no
@[simp] theorem augV_ok (i : Nat) (f : D → D → Sto → R D) (a : Sem) (x : D) : augV i f a env (some (some x)) s = (a.v env s).st fun y s => (f x y s).st fun z s => .nx (env.set i (some z)) s := id rfl
@[simp] theorem s_Aug (i : Nat) (f : D → D → Sto → R D) (a : Sem) : sAug i f a env s = augV i f a env env[i]? s := id rfl
@[simp] theorem s_Ret (a : Sem) : sRet a env s = (a.v env s).st fun d s => .rt d s := id rfl
@[simp] theorem s_RetN : sRetN env s = .rt .non s := id rfl
@[simp] theorem s_If (c : Sem) (a b : EvS) : sIf c a b env s = (c.t env s).st fun k s => if k = true then a env s else b env s := id rfl
@[simp] theorem s_Pass : sPass env s = .nx env s := id rfl
@[simp] theorem s_Brk : sBrk env s = .bk env s := id rfl
@[simp] theorem s_Ct : sCt env s = .ct env s := id rfl
@[simp] theorem s_No : sNo env s = .no := id rfl
@[simp] theorem g_Var (i : Nat) (d : D) : gVar i d env s = .ok (env.set i (some d)) s := id rfl
@[simp] theorem gs_Nil : gsNil [] env s = .ok env s := id rfl
@[simp] theorem gs_Cons (g : EvG) (r : List D → Env → Sto → R Env) (d : D) (ds : List D) : gsCons g r (d :: ds) env s = (g d env s).bind fun env s => r ds env s := id rfl
@[simp] theorem g_Tup (n : Nat) (r : List D → Env → Sto → R Env) (xs : List D) : gTup n r (.tup xs) env s = if xs.length = n then r xs env s else .no := id rfl
@[simp] theorem g_Sub (o i : Sem) (d : D) : gSub o i d env s = (o.v env s).bind fun x s => (i.v env s).bind fun y s => (setD x y d s).bind fun _ s => .ok env s := id rfl
def wkS (g : EvG) (b : EvS) (env : Env) (w : Wk) (s : Sto) : RS := match w with
  | .its xs => forIts (bodyF g b) xs env s
  | .live i => forLive (bodyF g b) i 1000000 0 env s
@[simp] theorem wkS_its (g : EvG) (b : EvS) (xs : List D) : wkS g b env (.its xs) s = forIts (bodyF g b) xs env s := id rfl
@[simp] theorem s_For (g : EvG) (it : EvI) (b : EvS) : sFor g it b env s = (it env s).st (wkS g b env) := by
  show R.st _ _ = R.st _ _
  congr 1
@[simp] theorem bodyF_eq (g : EvG) (b : EvS) (d : D) : bodyF g b d env s = (g d env s).st fun env s => b env s := id rfl
def fnR (r : RS) : R D := match r with
  | .rt d s => .ok d s
  | .nx _ s => .ok .non s
  | _ => .no
@[simp] theorem fnR_rt (d : D) (s : Sto) : fnR (.rt d s) = .ok d s := id rfl
@[simp] theorem fnR_nx (s : Sto) : fnR (.nx env s) = .ok .non s := id rfl
theorem fnB_eq (np n : Nat) (b : EvS) (ds : List D) : fnB np n b ds s = if ds.length = np then fnR (b (ds.map some ++ List.replicate (n - ds.length) none) s) else .no := rfl
def seqW (d : D) (s : Sto) : R Wk := match d with
  | .tup xs => .ok (.its xs) s
  | .fix xs => .ok (.its xs) s
  | .ref i => match s.get i with
    | some (.lst _) => .ok (.live i) s
    | _ => .no
  | _ => .no
@[simp] theorem seqW_tup (xs : List D) : seqW (.tup xs) s = .ok (.its xs) s := id rfl
@[simp] theorem seqW_fix (xs : List D) : seqW (.fix xs) s = .ok (.its xs) s := id rfl
@[simp] theorem i_Seq (a : Sem) : iSeq a env s = (a.v env s).bind seqW := id rfl
def rg1W (xs : List D) (s : Sto) : R Wk := match xs with
  | [.int j] => if bigI j = true then .ok (.its (rgD 0 j.toNat)) s else .no
  | _ => .no
@[simp] theorem rg1W_ok (j : Int) : rg1W [.int j] s = if bigI j = true then .ok (.its (rgD 0 j.toNat)) s else .no := id rfl
@[simp] theorem i_Rg1 (a : EvA) : iRg1 a env s = (a env s).bind rg1W := id rfl
def rg2W (xs : List D) (s : Sto) : R Wk := match xs with
  | [.int i, .int j] => if bigI i = true ∧ bigI j = true then .ok (.its (rgD i (j - i).toNat)) s else .no
  | _ => .no
@[simp] theorem rg2W_ok (i j : Int) : rg2W [.int i, .int j] s = if bigI i = true ∧ bigI j = true then .ok (.its (rgD i (j - i).toNat)) s else .no := id rfl
@[simp] theorem i_Rg2 (a : EvA) : iRg2 a env s = (a env s).bind rg2W := id rfl
/-! ### operators -/
theorem bigI_of {i : Int} (h : i.natAbs < 4611686018427387904) : bigI i = true := Nat.blt_eq.mpr h
theorem lim_lt {n : Nat} (h : n < 2 ^ 200) : n < lim4 := Nat.lt_of_lt_of_le h (Nat.pow_le_pow_right (by decide) (by decide))
@[simp] theorem lim_simp {n : Nat} (h : n < 2 ^ 200) : (n < lim4) = True := eq_true (lim_lt h)
theorem mulOk_l {i j : Int} (h : i.natAbs < 2 ^ 64) : mulOk i j = true := by unfold mulOk; rw [decide_eq_true h]; rfl
theorem mulOk_r {i j : Int} (h : j.natAbs < 2 ^ 64) : mulOk i j = true := by unfold mulOk; rw [decide_eq_true h, Bool.or_true]; rfl
theorem mulOk_b {i j : Int} (h : i.natAbs < 2 ^ 200) (h2 : j.natAbs < 2 ^ 200) : mulOk i j = true := by
  unfold mulOk; rw [decide_eq_true (lim_lt h), decide_eq_true (lim_lt h2), Bool.and_true, Bool.or_true]
@[simp] theorem add_ii (i j : Int) : addD (.int i) (.int j) s = .ok (.int (i + j)) s := id rfl
@[simp] theorem add_tt (xs ys : List D) : addD (.tup xs) (.tup ys) s = if xs.length + ys.length ≤ sizeLine then .ok (.tup (xs ++ ys)) s else .no := id rfl
@[simp] theorem sub_ii (i j : Int) : subD (.int i) (.int j) s = .ok (.int (i - j)) s := id rfl
@[simp] theorem iadd_ii (i j : Int) : iaddD (.int i) (.int j) s = .ok (.int (i + j)) s := id rfl
@[simp] theorem mul_ii (i j : Int) : mulD (.int i) (.int j) s = if mulOk i j = true then .ok (.int (i * j)) s else .no := id rfl
@[simp] theorem mul_ti (xs : List D) (k : Int) : mulD (.tup xs) (.int k) s = if xs.length ≤ 1000 ∧ -1000 ≤ k ∧ k ≤ 1000 then .ok (.tup (List.replicate k.toNat xs).flatten) s else .no := id rfl
@[simp] theorem fdiv_ii (i j : Int) : fdivD (.int i) (.int j) s = if 0 < j ∧ j.natAbs < lim4 then .ok (.int (i / j)) s else .no := id rfl
@[simp] theorem mod_ii (i j : Int) : modD (.int i) (.int j) s = if 0 < j then .ok (.int (i % j)) s else .no := id rfl
@[simp] theorem pow_ii (i j : Int) : powD (.int i) (.int j) s = if 0 ≤ j ∧ j ≤ 1000 ∧ i.natAbs < lim4 then .ok (.int (i ^ j.toNat)) s else .no := id rfl
@[simp] theorem neg_i (i : Int) : negD (.int i) s = .ok (.int (-i)) s := id rfl
@[simp] theorem ltI_ii (f : Int → Int → Bool) (i j : Int) : ltI f (.int i) (.int j) s = .ok (.bl (f i j)) s := id rfl
@[simp] theorem len_tup (xs : List D) : lenB [.tup xs] s = .ok (.int xs.length) s := id rfl
@[simp] theorem len_fix (xs : List D) : lenB [.fix xs] s = .ok (.int xs.length) s := id rfl
@[simp] theorem abs_i (i : Int) : absB [.int i] s = .ok (.int (if i < 0 then -i else i)) s := id rfl
@[simp] theorem max2_ii (i j : Int) : max2B [.int i, .int j] s = .ok (.int (if j > i then j else i)) s := id rfl
@[simp] theorem min2_ii (i j : Int) : min2B [.int i, .int j] s = .ok (.int (if j < i then j else i)) s := id rfl
@[simp] theorem int_i (i : Int) : intB [.int i] s = .ok (.int i) s := id rfl
@[simp] theorem int_b (b : Bool) : intB [.bl b] s = .ok (.int (if b then 1 else 0)) s := id rfl
@[simp] theorem tuple_t (xs : List D) : tupleB [.tup xs] s = .ok (.tup xs) s := id rfl
@[simp] theorem rev_t (xs : List D) : revD (.tup xs) s = .ok (.tup xs.reverse) s := id rfl
@[simp] theorem slc_t (xs : List D) (lo hi : Option Int) : slcD (.tup xs) lo hi s = .ok (.tup (cutD xs lo hi)) s := id rfl
/-! ### lists of the store -/
def okO (o : Option D) (s : Sto) : R D := match o with
  | some d => .ok d s
  | none => .no
@[simp] theorem okO_some (d : D) : okO (some d) s = .ok d s := id rfl
@[simp] theorem okO_none : okO none s = .no := id rfl
@[simp] theorem ix_t (xs : List D) (i : Int) : ixD (.tup xs) (.int i) s = okO (L2.atI xs i) s := by
  unfold ixD items
  dsimp only
  cases L2.atI xs i <;> rfl
@[simp] theorem ix_f (xs : List D) (i : Int) : ixD (.fix xs) (.int i) s = okO (L2.atI xs i) s := by
  unfold ixD items
  dsimp only
  cases L2.atI xs i <;> rfl
def lstO (k : List D → R D) (o : Option O) : R D := match o with
  | some (.lst xs) => k xs
  | _ => .no
@[simp] theorem lstO_some (k : List D → R D) (xs : List D) : lstO k (some (.lst xs)) = k xs := id rfl
theorem ix_r {j : Nat} {xs : List D} (h : s.get j = some (.lst xs)) (i : Int) : ixD (.ref j) (.int i) s = okO (L2.atI xs i) s := by
  unfold ixD items
  dsimp only
  rw [h]
  dsimp only
  cases L2.atI xs i <;> rfl
theorem len_r {j : Nat} {xs : List D} (h : s.get j = some (.lst xs)) : lenB [.ref j] s = .ok (.int xs.length) s := by
  unfold lenB
  dsimp only
  rw [h]
theorem tuple_r {j : Nat} {xs : List D} (h : s.get j = some (.lst xs)) : tupleB [.ref j] s = .ok (.tup xs) s := by
  unfold tupleB items
  dsimp only
  rw [h]
theorem truth_r {j : Nat} {xs : List D} (h : s.get j = some (.lst xs)) : truth (.ref j) s = .ok (!xs.isEmpty) s := by
  unfold truth
  dsimp only
  rw [h]
theorem list_t (xs : List D) : listB [.tup xs] s = .ok (.ref s.n) (s.add (.lst xs)) := rfl
theorem list_r {j : Nat} {xs : List D} (h : s.get j = some (.lst xs)) : listB [.ref j] s = .ok (.ref s.n) (s.add (.lst xs)) := by
  unfold listB items
  dsimp only
  rw [h]
theorem isL_r {j : Nat} {xs : List D} (h : s.get j = some (.lst xs)) : isL (.ref j) s = true := by
  unfold isL
  dsimp only
  rw [h]
theorem append_r {j : Nat} {xs : List D} (h : s.get j = some (.lst xs)) (y : D) (hz : xs.length < sizeLine) : appendM (.ref j) [y] s = .ok .non (s.set j (.lst (xs ++ [y]))) := by
  unfold appendM
  dsimp only
  rw [h]
  dsimp only
  rw [if_pos hz]
theorem extend_r {j k : Nat} {xs ys : List D} (h : s.get j = some (.lst xs)) (h2 : s.get k = some (.lst ys)) (hz : xs.length + ys.length ≤ sizeLine) : extendM (.ref j) [.ref k] s = .ok .non (s.set j (.lst (xs ++ ys))) := by
  unfold extendM
  dsimp only
  rw [h, h2]
  dsimp only
  rw [if_pos hz]
theorem pop_r {j : Nat} {xs : List D} {y : D} (h : s.get j = some (.lst (xs ++ [y]))) : popM (.ref j) [] s = .ok y (s.set j (.lst xs)) := by
  unfold popM
  dsimp only
  rw [h]
  dsimp only
  have e : (xs ++ [y])[(xs ++ [y]).length - 1]? = some y := by simp
  rw [e]
  dsimp only
  rw [List.dropLast_concat]
theorem slc_r {j : Nat} {xs : List D} (h : s.get j = some (.lst xs)) (lo hi : Option Int) : slcD (.ref j) lo hi s = .ok (.ref s.n) (s.add (.lst (cutD xs lo hi))) := by
  unfold slcD
  dsimp only
  rw [h]
theorem rev_r {j : Nat} {xs : List D} (h : s.get j = some (.lst xs)) : revD (.ref j) s = .ok (.ref s.n) (s.add (.lst xs.reverse)) := by
  unfold revD
  dsimp only
  rw [h]
theorem add_rr {i j : Nat} {xs ys : List D} (h : s.get i = some (.lst xs)) (h2 : s.get j = some (.lst ys)) (hz : xs.length + ys.length ≤ sizeLine) : addD (.ref i) (.ref j) s = .ok (.ref s.n) (s.add (.lst (xs ++ ys))) := by
  unfold addD
  dsimp only
  rw [h, h2]
  dsimp only
  rw [if_pos hz]
theorem mul_ri {i : Nat} {xs : List D} {k : Int} (h : s.get i = some (.lst xs)) (h1 : -(2 ^ 62) ≤ k) (h2 : k < 2 ^ 62) (hz : xs.length * k.toNat ≤ sizeLine) : mulD (.ref i) (.int k) s = .ok (.ref s.n) (s.add (.lst (List.replicate k.toNat xs).flatten)) := by
  unfold mulD
  dsimp only
  rw [h]
  dsimp only
  rw [if_pos ⟨h1, h2, hz⟩]
theorem set_r {j k : Nat} {xs : List D} {i : Int} (h : s.get j = some (.lst xs)) (hk : L2.ixN xs.length i = some k) (v : D) : setD (.ref j) (.int i) v s = .ok () (s.set j (.lst (xs.set k v))) := by
  unfold setD
  dsimp only
  rw [h]
  dsimp only
  rw [hk]
theorem newL_ok' {xs : List D} (hz : xs.length ≤ sizeLine) : newL xs s = .ok (.ref s.n) (s.add (.lst xs)) := if_pos hz
theorem all_r {j : Nat} {bs : List Bool} (h : s.get j = some (.lst (bs.map .bl))) : allB [.ref j] s = .ok (.bl (bs.all id)) s := by
  have e : bools (bs.map D.bl) = some bs := by
    induction bs with
    | nil => rfl
    | cons b bs ih =>
      have ih' : bools (bs.map D.bl) = some bs := by
        clear h ih
        induction bs with
        | nil => rfl
        | cons b bs ih => show (bools (bs.map D.bl)).map _ = _; rw [ih]; rfl
      show (bools (bs.map D.bl)).map _ = _
      rw [ih']; rfl
  unfold allB litems
  dsimp only
  rw [h]
  dsimp only
  rw [Option.bind_some, e]
theorem bools_map (bs : List Bool) : bools (bs.map D.bl) = some bs := by
  induction bs with
  | nil => rfl
  | cons b bs ih => show (bools (bs.map D.bl)).map _ = _; rw [ih]; rfl
theorem ints_map (bs : List Int) : intsD (bs.map D.int) = some bs := by
  induction bs with
  | nil => rfl
  | cons b bs ih => show (intsD (bs.map D.int)).map _ = _; rw [ih]; rfl
theorem any_r {j : Nat} {bs : List Bool} (h : s.get j = some (.lst (bs.map .bl))) : anyB [.ref j] s = .ok (.bl (bs.any id)) s := by
  unfold anyB litems
  dsimp only
  rw [h]
  dsimp only
  rw [Option.bind_some, bools_map]
theorem sum_r {j : Nat} {bs : List Int} (h : s.get j = some (.lst (bs.map .int))) : sumB [.ref j] s = .ok (.int bs.sum) s := by
  unfold sumB litems
  dsimp only
  rw [h]
  dsimp only
  rw [Option.bind_some, ints_map]
end
/-! ### what stood stands -/
structure Le (s s' : Sto) : Prop where
  n : s.n ≤ s'.n
  get : ∀ i, i < s.n → s'.get i = s.get i
theorem Le.refl (s : Sto) : Le s s := ⟨Nat.le_refl _, fun _ _ => rfl⟩
theorem Le.trans {s s1 s2 : Sto} (a : Le s s1) (b : Le s1 s2) : Le s s2 := ⟨Nat.le_trans a.n b.n, fun i h => (b.get i (Nat.lt_of_lt_of_le h a.n)).trans (a.get i h)⟩
theorem Le.add (s : Sto) (o : O) : Le s (s.add o) := ⟨Nat.le_succ _, fun i h => by rw [Sto.get_add, if_neg (by omega)]⟩
/-- a later object may change -/
theorem Le.set {s s' : Sto} (a : Le s s') {j : Nat} (h : s.n ≤ j) (o : O) : Le s (s'.set j o) := ⟨a.n, fun i hi => by rw [Sto.get_set, if_neg (by omega)]; exact a.get i hi⟩
theorem get_add_same (s : Sto) (o : O) : (s.add o).get s.n = some o := by rw [Sto.get_add, if_pos rfl]
theorem get_add_ne {s : Sto} {o : O} {j : Nat} (h : j ≠ s.n) : (s.add o).get j = s.get j := by rw [Sto.get_add, if_neg h]
theorem get_set_same (s : Sto) (j : Nat) (o : O) : (s.set j o).get j = some o := by rw [Sto.get_set, if_pos rfl]
theorem get_set_ne {s : Sto} {i j : Nat} {o : O} (h : j ≠ i) : (s.set i o).get j = s.get j := by rw [Sto.get_set, if_neg h]
/-- r gives a, old objects stay -/
def Ev {α : Type} (r : R α) (s : Sto) (a : α) : Prop := ∃ s', r = .ok a s' ∧ Le s s'
theorem Ev.ok {α : Type} (a : α) (s : Sto) : Ev (.ok a s) s a := ⟨s, rfl, .refl s⟩
theorem Ev.later {α : Type} {r : R α} {s s1 : Sto} {a : α} (h : Ev r s1 a) (l : Le s s1) : Ev r s a := let ⟨s', e, l'⟩ := h; ⟨s', e, l.trans l'⟩
/-! ### loops -/
theorem forIts_inv {b : D → Env → Sto → RS} (P : Nat → Env → Sto → Prop) : ∀ (xs : List D) (k : Nat) (env : Env) (s : Sto), P k env s →
    (∀ i x env s, xs[i]? = some x → P (k + i) env s → ∃ env' s', (b x env s = .nx env' s' ∨ b x env s = .ct env' s') ∧ P (k + i + 1) env' s') →
    ∃ env' s', forIts b xs env s = .nx env' s' ∧ P (k + xs.length) env' s'
  | [], k, env, s, h, _ => ⟨env, s, rfl, h⟩
  | x :: xs, k, env, s, h, hs => by
    obtain ⟨e1, s1, h1, p1⟩ := hs 0 x env s rfl h
    obtain ⟨e2, s2, h2, p2⟩ := forIts_inv P xs (k + 1) e1 s1 p1 fun i y env s hy p => by
      have := hs (i + 1) y env s (by simpa using hy) (by rw [show k + (i + 1) = k + 1 + i by omega]; exact p)
      rw [show k + 1 + i + 1 = k + (i + 1) + 1 by omega]; exact this
    refine ⟨e2, s2, ?_, by rw [List.length_cons, show k + (xs.length + 1) = k + 1 + xs.length by omega]; exact p2⟩
    show (b x env s).turn (forIts b xs) = _
    rcases h1 with h1 | h1 <;> rw [h1] <;> exact h2
/-- a loop that may return -/
theorem forIts_ret {b : D → Env → Sto → RS} (P : Nat → Env → Sto → Prop) (Q : D → Sto → Prop) : ∀ (xs : List D) (k : Nat) (env : Env) (s : Sto), P k env s →
    (∀ i x env s, xs[i]? = some x → P (k + i) env s → (∃ env' s', (b x env s = .nx env' s' ∨ b x env s = .ct env' s') ∧ P (k + i + 1) env' s') ∨ ∃ d s', b x env s = .rt d s' ∧ Q d s') →
    (∃ env' s', forIts b xs env s = .nx env' s' ∧ P (k + xs.length) env' s') ∨ ∃ d s', forIts b xs env s = .rt d s' ∧ Q d s'
  | [], k, env, s, h, _ => .inl ⟨env, s, rfl, h⟩
  | x :: xs, k, env, s, h, hs => by
    rcases hs 0 x env s rfl h with ⟨e1, s1, h1, p1⟩ | ⟨d, s1, h1, q1⟩
    · have go : forIts b (x :: xs) env s = forIts b xs e1 s1 := by
        show (b x env s).turn (forIts b xs) = _
        rcases h1 with h1 | h1 <;> rw [h1] <;> rfl
      rw [go]
      rcases forIts_ret P Q xs (k + 1) e1 s1 p1 fun i y env s hy p => by
        have := hs (i + 1) y env s (by simpa using hy) (by rw [show k + (i + 1) = k + 1 + i by omega]; exact p)
        rw [show k + 1 + i + 1 = k + (i + 1) + 1 by omega]; exact this with ⟨e2, s2, h2, p2⟩ | h2
      · exact .inl ⟨e2, s2, h2, by rw [List.length_cons, show k + (xs.length + 1) = k + 1 + xs.length by omega]; exact p2⟩
      · exact .inr h2
    · refine .inr ⟨d, s1, ?_, q1⟩
      show (b x env s).turn (forIts b xs) = _
      rw [h1]; rfl
/-- a while, by an invariant and a measure -/
theorem whl_inv {c : Sem} {b : EvS} (P : Env → Sto → Prop) (Q : Env → Sto → Prop) (mes : Env → Nat) : ∀ (k : Nat) (env : Env) (s : Sto), P env s → mes env < k →
    (∀ env s, P env s → (∃ s1, c.t env s = .ok false s1 ∧ Q env s1) ∨ ∃ s1 env' s', c.t env s = .ok true s1 ∧ (b env s1 = .nx env' s' ∨ b env s1 = .ct env' s') ∧ P env' s' ∧ mes env' < mes env) →
    ∃ env' s', whl c b k env s = .nx env' s' ∧ Q env' s'
  | 0, env, s, h, hk, _ => absurd hk (Nat.not_lt_zero _)
  | k + 1, env, s, h, hk, hs => by
    rcases hs env s h with ⟨s1, h1, q⟩ | ⟨s1, env', s', h1, h2, p, hm⟩
    · refine ⟨env, s1, ?_, q⟩
      show (c.t env s).st _ = _
      rw [h1]; rfl
    · obtain ⟨e2, s2, h3, q⟩ := whl_inv P Q mes k env' s' p (by omega) hs
      refine ⟨e2, s2, ?_, q⟩
      show (c.t env s).st _ = _
      rw [h1]
      show (b env s1).turn (whl c b k) = _
      rcases h2 with h2 | h2 <;> rw [h2] <;> exact h3
/-! ### comprehensions: each turn's item by a function of the item -/
theorem goIts_fun {f : Turn} (F : D → Option D) : ∀ (xs : List D) (s : Sto), (∀ x ∈ xs, ∀ s', Le s s' → Ev (f x s') s' (F x)) → Ev (goIts f xs s) s (xs.filterMap F)
  | [], s, _ => .ok _ _
  | x :: xs, s, h => by
    obtain ⟨s1, e1, l1⟩ := h x List.mem_cons_self s (.refl s)
    obtain ⟨s2, e2, l2⟩ := goIts_fun F xs s1 fun y hy s' hl => h y (List.mem_cons_of_mem _ hy) s' (l1.trans hl)
    refine ⟨s2, ?_, l1.trans l2⟩
    show (f x s).bind _ = _
    rw [e1]
    show (goIts f xs s1).bind _ = _
    rw [e2]
    show R.ok (conO (F x) (xs.filterMap F)) s2 = _
    rw [List.filterMap_cons]
    cases F x <;> rfl
/-- without a test -/
theorem goIts_map {f : Turn} (F : D → D) (xs : List D) (s : Sto) (h : ∀ x ∈ xs, ∀ s', Le s s' → Ev (f x s') s' (some (F x))) : Ev (goIts f xs s) s (xs.map F) := by
  have := goIts_fun (f := f) (fun x => some (F x)) xs s h
  rw [List.filterMap_eq_map'] at this
  exact this
/-- the turns' states told: an invariant over the number of turns -/
theorem goIts_inv {f : Turn} (P : Nat → List D → Sto → Prop) : ∀ (xs : List D) (k : Nat) (acc : List D) (s : Sto), P k acc s →
    (∀ i x acc s, xs[i]? = some x → P (k + i) acc s → ∃ o s', f x s = .ok o s' ∧ P (k + i + 1) (acc ++ conO o []) s') →
    ∃ ys s', goIts f xs s = .ok ys s' ∧ P (k + xs.length) (acc ++ ys) s'
  | [], k, acc, s, h, _ => ⟨[], s, rfl, by rw [List.append_nil]; exact h⟩
  | x :: xs, k, acc, s, h, hs => by
    obtain ⟨o, s1, e1, p1⟩ := hs 0 x acc s rfl h
    obtain ⟨ys, s2, e2, p2⟩ := goIts_inv P xs (k + 1) _ s1 p1 fun i y acc s hy p => by
      have := hs (i + 1) y acc s (by simpa using hy) (by rw [show k + (i + 1) = k + 1 + i by omega]; exact p)
      rw [show k + 1 + i + 1 = k + (i + 1) + 1 by omega]; exact this
    refine ⟨conO o ys, s2, ?_, ?_⟩
    · show (f x s).bind _ = _
      rw [e1]
      show (goIts f xs s1).bind _ = _
      rw [e2]; rfl
    · rw [List.length_cons, show k + (xs.length + 1) = k + 1 + xs.length by omega]
      have e : acc ++ conO o ys = acc ++ conO o [] ++ ys := by cases o <;> simp [conO]
      rw [e]; exact p2
theorem goWk_its (f : Turn) (xs : List D) (s : Sto) : goWk f (.its xs) s = goIts f xs s := rfl
end Cs
namespace Cs
@[simp] theorem turnC_none (g : EvG) (e : Sem) (env : Env) (x : D) (s : Sto) : turnC g none e env x s = (g x env s).bind fun env s => (e.v env s).bind fun y s => .ok (some y) s := id rfl
@[simp] theorem turnC_some (g : EvG) (c e : Sem) (env : Env) (x : D) (s : Sto) : turnC g (some c) e env x s = (g x env s).bind fun env s => (c.t env s).bind fun b s => if b = true then (e.v env s).bind fun y s => .ok (some y) s else .ok none s := id rfl
@[simp] theorem wipeE_nil (env : Env) : wipeE env [] = env := id rfl
@[simp] theorem wipeE_cons (env : Env) (v : Nat) (vs : List Nat) : wipeE env (v :: vs) = (wipeE env vs).set v none := id rfl
end Cs

/-! ## CsRun2 -/
/-! Walking a list that stands in the store. -/
namespace Cs
open PySem
theorem seqW_ref {s : Sto} {i : Nat} {xs : List D} (h : s.get i = some (.lst xs)) : seqW (.ref i) s = .ok (.live i) s := by
  unfold seqW
  dsimp only
  rw [h]
theorem goLive_fun {f : Turn} (F : D → Option D) {i : Nat} {xs : List D} : ∀ (k j : Nat) (s : Sto), i < s.n → s.get i = some (.lst xs) → xs.length - j < k → (∀ x ∈ xs, ∀ s', Le s s' → Ev (f x s') s' (F x)) → Ev (goLive f i k j s) s ((xs.drop j).filterMap F)
  | 0, j, s, _, _, hk, _ => absurd hk (Nat.not_lt_zero _)
  | k + 1, j, s, hi, hg, hk, h => by
    by_cases hj : j < xs.length
    · obtain ⟨s1, e1, l1⟩ := h xs[j] (List.getElem_mem hj) s (.refl s)
      obtain ⟨s2, e2, l2⟩ := goLive_fun F k (j + 1) s1 (Nat.lt_of_lt_of_le hi l1.n) (by rw [l1.get i hi, hg]) (by omega) fun y hy s' hl => h y hy s' (l1.trans hl)
      refine ⟨s2, ?_, l1.trans l2⟩
      unfold goLive
      rw [hg]
      dsimp only
      rw [List.getElem?_eq_getElem hj]
      dsimp only
      rw [e1]
      show (goLive f i k (j + 1) s1).bind _ = _
      rw [e2]
      show R.ok (conO (F xs[j]) ((xs.drop (j + 1)).filterMap F)) s2 = _
      rw [List.drop_eq_getElem_cons hj, List.filterMap_cons]
      cases F xs[j] <;> rfl
    · refine ⟨s, ?_, .refl s⟩
      unfold goLive
      rw [hg]
      dsimp only
      rw [List.getElem?_eq_none (by omega)]
      dsimp only
      rw [List.drop_eq_nil_of_le (by omega)]
      rfl
theorem goWk_live {f : Turn} (F : D → D) {i : Nat} {xs : List D} (s : Sto) (hi : i < s.n) (hg : s.get i = some (.lst xs)) (hk : xs.length < 1000000) (h : ∀ x ∈ xs, ∀ s', Le s s' → Ev (f x s') s' (some (F x))) : Ev (goWk f (.live i) s) s (xs.map F) := by
  have := goLive_fun (f := f) (fun x => some (F x)) 1000000 0 s hi hg (by omega) h
  rw [List.drop_zero, List.filterMap_eq_map'] at this
  exact this
theorem goWk_live_fun {f : Turn} (F : D → Option D) {i : Nat} {xs : List D} (s : Sto) (hi : i < s.n) (hg : s.get i = some (.lst xs)) (hk : xs.length < 1000000) (h : ∀ x ∈ xs, ∀ s', Le s s' → Ev (f x s') s' (F x)) : Ev (goWk f (.live i) s) s (xs.filterMap F) := by
  have := goLive_fun (f := f) F 1000000 0 s hi hg (by omega) h
  rw [List.drop_zero] at this
  exact this
@[simp] theorem wkS_live (g : EvG) (b : EvS) (i : Nat) (env : Env) (s : Sto) : wkS g b env (.live i) s = forLive (bodyF g b) i 1000000 0 env s := id rfl
theorem forLive_inv {b : D → Env → Sto → RS} (P : Nat → Env → Sto → Prop) {i : Nat} {xs : List D} (hP : ∀ k env s, P k env s → s.get i = some (.lst xs)) : ∀ (f k : Nat) (env : Env) (s : Sto), P k env s → xs.length - k < f → k ≤ xs.length →
    (∀ k x env s, xs[k]? = some x → P k env s → ∃ env' s', (b x env s = .nx env' s' ∨ b x env s = .ct env' s') ∧ P (k + 1) env' s') →
    ∃ env' s', forLive b i f k env s = .nx env' s' ∧ P xs.length env' s'
  | 0, k, env, s, _, hf, _, _ => absurd hf (Nat.not_lt_zero _)
  | f + 1, k, env, s, h, hf, hk, hs => by
    by_cases hj : k < xs.length
    · obtain ⟨e1, s1, h1, p1⟩ := hs k xs[k] env s (List.getElem?_eq_getElem hj) h
      obtain ⟨e2, s2, h2, p2⟩ := forLive_inv P hP f (k + 1) e1 s1 p1 (by omega) (by omega) hs
      refine ⟨e2, s2, ?_, p2⟩
      unfold forLive
      rw [hP _ _ _ h]
      dsimp only
      rw [List.getElem?_eq_getElem hj]
      dsimp only
      rcases h1 with h1 | h1 <;> rw [h1] <;> exact h2
    · refine ⟨env, s, ?_, by rw [show xs.length = k by omega]; exact h⟩
      unfold forLive
      rw [hP _ _ _ h]
      dsimp only
      rw [List.getElem?_eq_none (by omega)]
theorem forLive_ret {b : D → Env → Sto → RS} (P : Nat → Env → Sto → Prop) (Q : D → Sto → Prop) {i : Nat} {xs : List D} (hP : ∀ k env s, P k env s → s.get i = some (.lst xs)) : ∀ (f k : Nat) (env : Env) (s : Sto), P k env s → xs.length - k < f → k ≤ xs.length →
    (∀ k x env s, xs[k]? = some x → P k env s → (∃ env' s', (b x env s = .nx env' s' ∨ b x env s = .ct env' s') ∧ P (k + 1) env' s') ∨ ∃ d s', b x env s = .rt d s' ∧ Q d s') →
    (∃ env' s', forLive b i f k env s = .nx env' s' ∧ P xs.length env' s') ∨ ∃ d s', forLive b i f k env s = .rt d s' ∧ Q d s'
  | 0, k, env, s, _, hf, _, _ => absurd hf (Nat.not_lt_zero _)
  | f + 1, k, env, s, h, hf, hk, hs => by
    by_cases hj : k < xs.length
    · have go : ∀ r, (b xs[k] env s).turn (forLive b i f (k + 1)) = r → forLive b i (f + 1) k env s = r := by
        intro r hr
        unfold forLive
        rw [hP _ _ _ h]
        dsimp only
        rw [List.getElem?_eq_getElem hj]
        exact hr
      rcases hs k xs[k] env s (List.getElem?_eq_getElem hj) h with ⟨e1, s1, h1, p1⟩ | ⟨d, s1, h1, q1⟩
      · have go2 : (b xs[k] env s).turn (forLive b i f (k + 1)) = forLive b i f (k + 1) e1 s1 := by
          rcases h1 with h1 | h1 <;> rw [h1] <;> rfl
        rcases forLive_ret P Q hP f (k + 1) e1 s1 p1 (by omega) (by omega) hs with ⟨e2, s2, h2, p2⟩ | ⟨d, s2, h2, q2⟩
        · exact .inl ⟨e2, s2, go _ (go2.trans h2), p2⟩
        · exact .inr ⟨d, s2, go _ (go2.trans h2), q2⟩
      · exact .inr ⟨d, s1, go _ (by rw [h1]; rfl), q1⟩
    · refine .inl ⟨env, s, ?_, by rw [show xs.length = k by omega]; exact h⟩
      unfold forLive
      rw [hP _ _ _ h]
      dsimp only
      rw [List.getElem?_eq_none (by omega)]
end Cs

/-! ## CsRun3 -/
/-! Evaluation of what CsSem2 adds. -/
namespace Cs
open PySem
section
variable (env : Env) (s : Sto)
def par3 (i j l : Nat) (env : Env) (xs : List D) (s : Sto) : RS := match xs with
  | [x, y, z] => .nx (((env.set i (some x)).set j (some y)).set l (some z)) s
  | _ => .no
@[simp] theorem par3_ok (i j l : Nat) (x y z : D) : par3 i j l env [x, y, z] s = .nx (((env.set i (some x)).set j (some y)).set l (some z)) s := id rfl
@[simp] theorem s_Par3 (i j l : Nat) (a : EvA) : sPar3 i j l a env s = (a env s).st (par3 i j l env) := by
  show R.st _ _ = R.st _ _
  congr 1
def rg3W (xs : List D) (s : Sto) : R Wk := match xs with
  | [.int i, .int j, .int c] => if c = -1 ∧ bigI i = true ∧ bigI j = true then .ok (.its (rgdD i (i - j).toNat)) s else .no
  | _ => .no
@[simp] theorem rg3W_ok (i j : Int) : rg3W [.int i, .int j, .int (-1)] s = if bigI i = true ∧ bigI j = true then .ok (.its (rgdD i (i - j).toNat)) s else .no := by
  show (if (-1 : Int) = -1 ∧ _ then _ else _) = _
  simp
@[simp] theorem i_Rg3 (a : EvA) : iRg3 a env s = (a env s).bind rg3W := id rfl
def enW (xs : List D) (s : Sto) : R Wk := match xs with
  | [.tup xs] => .ok (.its (enumD xs)) s
  | _ => .no
@[simp] theorem enW_ok (xs : List D) : enW [.tup xs] s = .ok (.its (enumD xs)) s := id rfl
@[simp] theorem i_Enum (a : EvA) : iEnum a env s = (a env s).bind enW := id rfl
theorem index_r {s : Sto} {j k : Nat} {ns : List Int} {i : Int} (h : s.get j = some (.lst (ns.map .int))) (hk : ns.findIdx? (· == i) = some k) : indexM (.ref j) [.int i] s = .ok (.int (k : Nat)) s := by
  unfold indexM
  dsimp only
  rw [h]
  dsimp only
  rw [ints_map]
  dsimp only
  rw [hk]
theorem enumD_at {xs : List D} {j : Nat} {x : D} (h : (enumD xs)[j]? = some x) : ∃ y, xs[j]? = some y ∧ x = .tup [.int (j : Nat), y] := by
  unfold enumD at h
  rw [List.getElem?_map, List.getElem?_zipIdx] at h
  cases hx : xs[j]? with
  | none => rw [hx] at h; cases h
  | some y =>
    rw [hx] at h
    refine ⟨y, rfl, ?_⟩
    have := Option.some.inj h
    rw [← this]
    simp
theorem rgdD_at {i : Int} {n j : Nat} {x : D} (h : (rgdD i n)[j]? = some x) : j < n ∧ x = .int (i - (j : Nat)) := by
  unfold rgdD at h
  rw [List.getElem?_map] at h
  obtain ⟨k, h1, h2⟩ := Option.map_eq_some_iff.mp h
  have hi : j < n := by
    have := (List.getElem?_eq_some_iff.mp h1).1
    simpa using this
  rw [List.getElem?_range hi] at h1
  cases h1
  exact ⟨hi, h2.symm⟩
end
end Cs

/-! ## CsWalk -/
/-! Walks as lists of ints; what the pieces give on them. -/
namespace Cs
open PySem
theorem size_eq : sizeLine = 16777216 := sizeLine_eq
abbrev tw (w : List Int) : D := .tup (w.map .int)
theorem map_at {w : List Int} {i : Nat} {x : D} (h : (w.map D.int)[i]? = some x) : ∃ n, w[i]? = some n ∧ x = .int n := by
  rw [List.getElem?_map] at h
  obtain ⟨n, h1, h2⟩ := Option.map_eq_some_iff.mp h
  exact ⟨n, h1, h2.symm⟩
theorem take_fold {α β : Type} (f : β → α → β) (b : β) {w : List α} {i : Nat} {n : α} (h : w[i]? = some n) : (w.take (i + 1)).foldl f b = f ((w.take i).foldl f b) n := by
  rw [List.take_add_one, h, List.foldl_append]; rfl
theorem atI_last' (xs : List D) (y : D) : L2.atI (xs ++ [y]) (-1) = some y := L2.atI_last xs y
theorem atI_nat' {xs : List D} {j : Nat} {v : D} (h : xs[j]? = some v) : L2.atI xs (j : Int) = some v := L2.atI_nat h
theorem atI_at {w : List Int} {i : Int} {j : Nat} {n : Int} (hi : i = (j : Int)) (h : w[j]? = some n) : L2.atI (w.map D.int) i = some (.int n) := by
  subst hi
  exact L2.atI_nat (by rw [List.getElem?_map, h]; rfl)
@[simp] theorem eqD_ii (i j : Int) (s : Sto) : eqD (.int i) (.int j) s = .ok (.bl (i == j)) s := by
  unfold eqD
  simp [pyd, PyData.eqv]
@[simp] theorem neD_ii (i j : Int) (s : Sto) : neD (.int i) (.int j) s = .ok (.bl (!(i == j))) s := by
  unfold neD
  simp [pyd, PyData.eqv]
theorem pyd_ints (s : Sto) (k : Nat) (w : List Int) : mapO (pyd s k) (w.map D.int) = some (w.map PyData.int) := by
  induction w with
  | nil => rfl
  | cons x w ih =>
    have e : pyd s k (.int x) = some (.int x) := by cases k <;> rfl
    simp only [List.map_cons, mapO, e, ih]
theorem pyd_tw (s : Sto) (k : Nat) (w : List Int) : pyd s (k + 1) (tw w) = some (.tuple (w.map PyData.int)) := by
  show (mapO (pyd s k) (w.map D.int)).map PyData.tuple = _
  rw [pyd_ints]; rfl
theorem eqv_ints : ∀ (w v : List Int), PyData.eqvAll (w.map .int) (v.map .int) = decide (w = v)
  | [], [] => by simp [PyData.eqvAll]
  | [], y :: v => by simp [PyData.eqvAll]
  | x :: w, [] => by simp [PyData.eqvAll]
  | x :: w, y :: v => by
    have ih := eqv_ints w v
    simp only [List.map_cons, PyData.eqvAll, PyData.eqv, ih]
    by_cases h : x = y
    · subst h; simp
    · simp [h]
theorem eqD_tw (w v : List Int) (s : Sto) : eqD (tw w) (tw v) s = .ok (.bl (decide (w = v))) s := by
  unfold eqD
  rw [pyd_tw, pyd_tw]
  show R.ok (D.bl (PyData.eqv _ _)) s = _
  rw [show PyData.eqv (.tuple (w.map PyData.int)) (.tuple (v.map PyData.int)) = PyData.eqvAll (w.map .int) (v.map .int) by simp [PyData.eqv], eqv_ints]
theorem neD_tw (w v : List Int) (s : Sto) : neD (tw w) (tw v) s = .ok (.bl (!decide (w = v))) s := by
  unfold neD
  rw [pyd_tw, pyd_tw]
  show R.ok (D.bl (!PyData.eqv _ _)) s = _
  rw [show PyData.eqv (.tuple (w.map PyData.int)) (.tuple (v.map PyData.int)) = PyData.eqvAll (w.map .int) (v.map .int) by simp [PyData.eqv], eqv_ints]
/-! ### slices -/
def cutI (xs : List Int) (lo hi : Option Int) : List Int := (xs.drop (HT.sIx xs.length 0 lo)).take (HT.sIx xs.length xs.length hi - HT.sIx xs.length 0 lo)
theorem cut_map (w : List Int) (lo hi : Option Int) : cutD (w.map D.int) lo hi = (cutI w lo hi).map D.int := by
  unfold cutD cutI
  rw [List.length_map, List.map_take, List.map_drop]
theorem sIx_of {n d k : Nat} {i : Int} (h : i = (k : Int)) : HT.sIx n d (some i) = min k n := by subst h; exact HT.sIx_nat n d k
theorem cut_to {w : List Int} {k : Nat} {i : Int} (h : i = (k : Int)) : cutI w none (some i) = w.take k := by
  unfold cutI
  rw [sIx_of h, HT.sIx_none]
  simp
theorem cut_from {w : List Int} {k : Nat} {i : Int} (h : i = (k : Int)) : cutI w (some i) none = w.drop k := by
  unfold cutI
  rw [sIx_of h, HT.sIx_none]
  by_cases hk : k ≤ w.length
  · rw [Nat.min_eq_left hk]
    exact List.take_of_length_le (by rw [List.length_drop]; exact Nat.le_refl _)
  · rw [Nat.min_eq_right (by omega)]
    simp [List.drop_eq_nil_of_le (show w.length ≤ k by omega)]
theorem cut_mid {w : List Int} {k m : Nat} {i j : Int} (h : i = (k : Int)) (h2 : j = (m : Int)) : cutI w (some i) (some j) = (w.drop k).take (m - k) := by
  unfold cutI
  rw [sIx_of h, sIx_of h2]
  by_cases hk : k ≤ w.length
  · rw [Nat.min_eq_left hk]
    by_cases hm : m ≤ w.length
    · rw [Nat.min_eq_left hm]
    · rw [Nat.min_eq_right (show w.length ≤ m by omega)]
      rw [List.take_of_length_le (by rw [List.length_drop]; exact Nat.le_refl _), List.take_of_length_le (by rw [List.length_drop]; omega)]
  · rw [Nat.min_eq_right (show w.length ≤ k by omega)]
    rw [List.drop_eq_nil_of_le (Nat.le_refl _), List.drop_eq_nil_of_le (show w.length ≤ k by omega)]
    simp
theorem rep_map (k : Nat) (w : List Int) : (List.replicate k (w.map D.int)).flatten = ((List.replicate k w).flatten).map D.int := by
  rw [List.map_flatten, List.map_replicate]
/-! ### free reduction -/
/-- one step upon a straight walk, its last step first -/
def push : List Int → Int → List Int
  | y :: r, x => if y = -x then r else x :: y :: r
  | [], x => [x]
theorem push_cons (y : Int) (r : List Int) (x : Int) : push (y :: r) x = if y = -x then r else x :: y :: r := rfl
theorem push_nil (x : Int) : push [] x = [x] := rfl
def redS (w : List Int) : List Int := w.foldl push []
def red (w : List Int) : List Int := (redS w).reverse
theorem push_len (r : List Int) (x : Int) : (push r x).length ≤ r.length + 1 := by
  unfold push
  split
  · split <;> simp <;> omega
  · simp
theorem foldl_push_len (w : List Int) : ∀ r : List Int, (w.foldl push r).length ≤ r.length + w.length := by
  induction w with
  | nil => intro r; simp
  | cons x w ih =>
    intro r
    have := ih (push r x)
    have := push_len r x
    simp only [List.foldl_cons, List.length_cons]
    omega
theorem red_len (w : List Int) : (red w).length ≤ w.length := by
  have := foldl_push_len w []
  unfold red redS
  simpa using this
/-- no step stands next to its opposite one -/
def Rdc : List Int → Prop
  | x :: y :: r => x ≠ -y ∧ Rdc (y :: r)
  | _ => True
theorem Rdc.tail {x : Int} {r : List Int} (h : Rdc (x :: r)) : Rdc r := by
  cases r with
  | nil => trivial
  | cons y r => exact h.2
theorem push_str {r : List Int} (h : Rdc r) (x : Int) : Rdc (push r x) := by
  cases r with
  | nil => trivial
  | cons y r =>
    rw [push_cons]
    by_cases e : y = -x
    · rw [if_pos e]; exact h.tail
    · rw [if_neg e]
      exact ⟨fun z => e (by omega), h⟩
theorem foldl_str (w : List Int) : ∀ r : List Int, Rdc r → Rdc (w.foldl push r) := by
  induction w with
  | nil => intro r h; exact h
  | cons x w ih => intro r h; exact ih _ (push_str h x)
theorem redS_str (w : List Int) : Rdc (redS w) := foldl_str w [] trivial
/-- a step and its opposite one, upon a straight walk, are nothing -/
theorem push_back {r : List Int} (h : Rdc r) (x : Int) (hx : x ≠ 0) : push (push r x) (-x) = r := by
  cases r with
  | nil => simp [push]
  | cons y r =>
    by_cases e : y = -x
    · have e1 : push (y :: r) x = r := by simp [push, e]
      rw [e1]
      cases r with
      | nil => simp [push, e]
      | cons z r =>
        have : z ≠ x := fun q => h.1 (by rw [e, q])
        have n : ¬ z = - -x := by omega
        simp [push, e, this]
    · have e1 : push (y :: r) x = x :: y :: r := by simp [push, e]
      rw [e1]
      simp [push]
def bk (w : List Int) : List Int := (w.map fun x => -x).reverse
theorem bk_len (w : List Int) : (bk w).length = w.length := by simp [bk]
theorem bk_bk (w : List Int) : bk (bk w) = w := by
  unfold bk
  rw [List.map_reverse, List.reverse_reverse, List.map_map]
  have e : ((fun x : Int => -x) ∘ fun x => -x) = id := by funext x; show - -x = x; omega
  rw [e, List.map_id]
/-- pushing a walk is pushing its straight form -/
theorem push_red {r : List Int} (hr : Rdc r) : ∀ (w st : List Int), (∀ x ∈ w, x ≠ 0) → (∀ x ∈ st, x ≠ 0) → Rdc st → (w.foldl push st).reverse.foldl push r = w.foldl push (st.reverse.foldl push r) := by
  intro w
  induction w with
  | nil => intro st _ _ _; rfl
  | cons x w ih =>
    intro st hw hst hs
    have hx := hw x List.mem_cons_self
    have hw' : ∀ y ∈ w, y ≠ 0 := fun y hy => hw y (List.mem_cons_of_mem _ hy)
    rw [List.foldl_cons, List.foldl_cons]
    have hst' : ∀ y ∈ push st x, y ≠ 0 := by
      intro y hy
      cases st with
      | nil => simp [push] at hy; omega
      | cons z st =>
        rw [push_cons] at hy
        split at hy
        · exact hst y (List.mem_cons_of_mem _ hy)
        · rcases List.mem_cons.mp hy with rfl | hy
          · exact hx
          · exact hst y hy
    rw [ih (push st x) hw' hst' (push_str hs x)]
    congr 1
    cases st with
    | nil => rfl
    | cons z st =>
      by_cases e : z = -x
      · have e1 : push (z :: st) x = st := by simp [push, e]
        rw [e1, List.reverse_cons, List.foldl_append]
        show _ = push (push (st.reverse.foldl push r) z) x
        rw [e]
        have := push_back (foldl_str st.reverse r hr) (-x) (by omega)
        rw [show - -x = x by omega] at this
        rw [this]
      · have e1 : push (z :: st) x = x :: z :: st := by simp [push, e]
        rw [e1]
        simp [List.foldl_append]
theorem redS_app {u v : List Int} (hv : ∀ x ∈ v, x ≠ 0) : redS (u ++ v) = (red v).foldl push (redS u) := by
  have := push_red (redS_str u) v [] hv (fun _ h => nomatch h) trivial
  unfold red
  unfold redS at *
  rw [List.foldl_append]
  rw [this]; rfl
theorem foldl_push_str : ∀ (w r : List Int), Rdc (w.reverse ++ r) → w.foldl push r = w.reverse ++ r := by
  intro w
  induction w with
  | nil => intro r _; rfl
  | cons x w ih =>
    intro r h
    rw [List.reverse_cons, List.append_assoc] at h
    have suf : ∀ (a b : List Int), Rdc (a ++ b) → Rdc b := by
      intro a
      induction a with
      | nil => intro b h; exact h
      | cons y ys ih => intro b h; exact ih b h.tail
    have hxr : Rdc (x :: r) := suf _ _ h
    have e : push r x = x :: r := by
      cases r with
      | nil => rfl
      | cons y r =>
        have : ¬ y = -x := fun q => hxr.1 (by omega)
        simp [push, this]
    rw [List.foldl_cons, e, ih (x :: r) h]
    simp
theorem Rdc.rev {w : List Int} (h : Rdc w) : Rdc w.reverse := by
  have gen : ∀ (w r : List Int), Rdc w → Rdc r → (∀ x y, w.head? = some x → r.head? = some y → x ≠ -y) → Rdc (w.reverse ++ r) := by
    intro w
    induction w with
    | nil => intro r _ hr _; exact hr
    | cons x w ih =>
      intro r hw hr hj
      rw [List.reverse_cons, List.append_assoc]
      refine ih (x :: r) hw.tail ?_ ?_
      · cases r with
        | nil => trivial
        | cons y r => exact ⟨hj x y rfl rfl, hr⟩
      · intro a b ha hb
        cases w with
        | nil => cases ha
        | cons z w =>
          have e1 : z = a := Option.some.inj ha
          have e2 : x = b := Option.some.inj hb
          subst e1 e2
          have := hw.1
          omega
  have := gen w [] h trivial (fun x y _ hy => nomatch hy)
  simpa using this
theorem red_of_str {w : List Int} (h : Rdc w) : red w = w := by
  unfold red redS
  rw [foldl_push_str w [] (by rw [List.append_nil]; exact h.rev), List.append_nil, List.reverse_reverse]
theorem red_str (w : List Int) : Rdc (red w) := (redS_str w).rev
theorem red_red (w : List Int) : red (red w) = red w := red_of_str (red_str w)
theorem push_mem {r : List Int} {x y : Int} (h : y ∈ push r x) : y = x ∨ y ∈ r := by
  cases r with
  | nil => simp [push] at h; exact .inl h
  | cons z r =>
    rw [push_cons] at h
    split at h
    · exact .inr (List.mem_cons_of_mem _ h)
    · exact List.mem_cons.mp h
theorem foldl_push_mem : ∀ (w r : List Int) (y : Int), y ∈ w.foldl push r → y ∈ w ∨ y ∈ r
  | [], r, y, h => .inr h
  | x :: w, r, y, h => by
    rcases foldl_push_mem w (push r x) y h with h | h
    · exact .inl (List.mem_cons_of_mem _ h)
    · rcases push_mem h with rfl | h
      · exact .inl List.mem_cons_self
      · exact .inr h
theorem red_mem {w : List Int} {y : Int} (h : y ∈ red w) : y ∈ w := by
  unfold red redS at h
  rcases foldl_push_mem w [] y (List.mem_reverse.mp h) with h | h
  · exact h
  · cases h
theorem rgD_at {lo : Int} {n i : Nat} {x : D} (h : (rgD lo n)[i]? = some x) : i < n ∧ x = .int (lo + (i : Int)) := by
  unfold rgD at h
  rw [List.getElem?_map] at h
  obtain ⟨k, h1, h2⟩ := Option.map_eq_some_iff.mp h
  have hi : i < n := by
    have := (List.getElem?_eq_some_iff.mp h1).1
    simpa using this
  rw [List.getElem?_range hi] at h1
  cases h1
  exact ⟨hi, h2.symm⟩
end Cs

namespace K01
open PySem PySem.Spec PyProof.Rows L2 Cs
/-! ### the text -/
def topS (i : Nat) : Stmt := PySem.Challenge.pw_clubsturned_k01_walks_in_their_order.main.body.getD i (.Pass ⟨0, 0, 0, 0⟩)
abbrev s__law_number : Stmt := topS 43
abbrev s_walks_behind : Stmt := topS 19
abbrev s_walks_of : Stmt := topS 20
abbrev s_need_number : Stmt := topS 17
abbrev s_is_integer : Stmt := topS 10
abbrev s_is_letters : Stmt := topS 12
abbrev s_need_letters : Stmt := topS 15
abbrev s_how_many : Stmt := topS 24
abbrev s__law_times : Stmt := topS 37
abbrev s__law_many : Stmt := topS 38
abbrev s__law_take : Stmt := topS 30
abbrev s__law_is : Stmt := topS 35
abbrev s_steps_of : Stmt := topS 6
abbrev s_steps_behind : Stmt := topS 21
abbrev s_walk_at : Stmt := topS 22
abbrev s_number_in : Stmt := topS 23
abbrev s_straightened : Stmt := topS 7
abbrev s_is_step : Stmt := topS 13
abbrev s_is_a_walk : Stmt := topS 14
abbrev s_need_walk : Stmt := topS 16
abbrev s_next_walk : Stmt := topS 27
abbrev s__law_steps : Stmt := topS 36
abbrev s__law_least : Stmt := topS 40
abbrev s__law_next : Stmt := topS 41
abbrev s_number_of : Stmt := topS 26
abbrev s__law_ahead : Stmt := topS 39
abbrev s__law_walked : Stmt := topS 46
abbrev s_nth_walk : Stmt := topS 25
abbrev s__law_joined : Stmt := topS 33
abbrev s__law_straight : Stmt := topS 34
abbrev s__law_walk : Stmt := topS 31
abbrev s__law_all : Stmt := topS 42
abbrev s__law_short : Stmt := topS 44
abbrev s__law_great : Stmt := topS 45
abbrev s__law_right : Stmt := topS 47
abbrev s__law_well : Stmt := topS 29
abbrev s_law : Stmt := topS 48
/-! ### what each def means -/
def b__law_number : EvS :=
  (sCons (sRet (xAnd (xUn (isiD [.int]) (xVar 0)) (xAnd (xNot (xUn (isiD [.bool]) (xVar 0))) (xBin eqD (xVar 0) (xVar 1)))))
  sNil)
def m__law_number : Fn := fnB 2 2 b__law_number
def b_walks_behind_1 : EvS :=
  (sCons (sAsg (gVar 2) (xBin mulD (xVar 2) (xBin subD (xBin mulD (xC (.int 2)) (xVar 0)) (xC (.int 1)))))
  sNil)
def b_walks_behind : EvS :=
  (sCons (sAsg (gVar 2) (xC (.int 1)))
  (sCons (sFor (gVar 3) (iRg1 (aCons (xVar 1) aNil)) b_walks_behind_1)
  (sCons (sRet (xVar 2))
  sNil)))
def m_walks_behind : Fn := fnB 2 4 b_walks_behind
def b_walks_of : EvS :=
  (sCons (sIf (xBin eqD (xVar 1) (xC (.int 0))) (sCons (sRet (xC (.int 1)))
  sNil) sNil)
  (sCons (sRet (xBin mulD (xBin mulD (xC (.int 2)) (xVar 0)) (xCall m_walks_behind (aCons (xVar 0) (aCons (xBin subD (xVar 1) (xC (.int 1))) aNil)))))
  sNil))
def m_walks_of : Fn := fnB 2 2 b_walks_of
def b_need_number : EvS :=
  (sCons (sIf (xOr (xBin (ltI fun i j => decide (i < j)) (xVar 0) (xVar 1)) (xAnd (xBin isnNonD (xVar 2) (xC .non)) (xBin (ltI fun i j => decide (j < i)) (xVar 0) (xVar 2)))) (sCons sNo
  sNil) sNil)
  sNil)
def m_need_number : Fn := fnB 3 3 b_need_number
def b_is_integer : EvS :=
  (sCons (sRet (xAnd (xUn (isiD [.int]) (xVar 0)) (xNot (xUn (isiD [.bool]) (xVar 0)))))
  sNil)
def m_is_integer : Fn := fnB 1 1 b_is_integer
def b_is_letters : EvS :=
  (sCons (sRet (xAnd (xCall m_is_integer (aCons (xVar 0) aNil)) (xChain (ltI fun i j => decide (i ≤ j)) (ltI fun i j => decide (i ≤ j)) (xC (.int 1)) (xVar 0) (xC (.int 4)))))
  sNil)
def m_is_letters : Fn := fnB 1 1 b_is_letters
def b_need_letters : EvS :=
  (sCons (sIf (xNot (xCall m_is_letters (aCons (xVar 0) aNil))) (sCons sNo
  sNil) sNil)
  sNil)
def m_need_letters : Fn := fnB 1 1 b_need_letters
def b_how_many : EvS :=
  (sCons (sExpr (xCall m_need_letters (aCons (xVar 0) aNil)))
  (sCons (sExpr (xCall m_need_number (aCons (xVar 1) (aCons (xC (.int 0)) (aCons (xC .non) aNil)))))
  (sCons (sRet (xCall m_walks_of (aCons (xVar 0) (aCons (xVar 1) aNil))))
  sNil)))
def m_how_many : Fn := fnB 2 2 b_how_many
def b__law_times_1 : EvS :=
  (sCons (sAsg (gVar 2) (xBin mulD (xVar 2) (xBin subD (xBin mulD (xC (.int 2)) (xVar 0)) (xC (.int 1)))))
  sNil)
def b__law_times : EvS :=
  (sCons (sAsg (gVar 2) (xC (.int 1)))
  (sCons (sFor (gVar 3) (iRg1 (aCons (xVar 1) aNil)) b__law_times_1)
  (sCons (sRet (xVar 2))
  sNil)))
def m__law_times : Fn := fnB 2 4 b__law_times
def b__law_many : EvS :=
  (sCons (sIf (xBin eqD (xVar 1) (xC (.int 0))) (sCons (sRet (xC (.int 1)))
  sNil) sNil)
  (sCons (sRet (xBin mulD (xBin mulD (xC (.int 2)) (xVar 0)) (xCall m__law_times (aCons (xVar 0) (aCons (xBin subD (xVar 1) (xC (.int 1))) aNil)))))
  sNil))
def m__law_many : Fn := fnB 2 2 b__law_many
def b__law_take : EvS :=
  (sCons (sIf (xBin (ltI fun i j => decide (j < i)) (xBin ixD (xVar 0) (xC (.int 0))) (xC (.int 0))) (sCons (sAsg (gVar 2) (xBin modD (xBi intB (aCons (xBin ixD (xVar 0) (xC (.int 0))) aNil)) (xVar 1)))
  (sCons (sAsg (gSub (xVar 0) (xC (.int 0))) (xBin fdivD (xBin ixD (xVar 0) (xC (.int 0))) (xVar 1)))
  (sCons (sRet (xVar 2))
  sNil))) sNil)
  (sCons (sAsg (gSub (xVar 0) (xC (.int 2))) (xBin addD (xBin ixD (xVar 0) (xC (.int 2))) (xC (.int 1))))
  (sCons (sAsg (gVar 3) (xBin modD (xBi intB (aCons (xBin addD (xBin powD (xBin addD (xBin ixD (xVar 0) (xC (.int 1))) (xBin mulD (xC (.int 314159)) (xBin ixD (xVar 0) (xC (.int 2))))) (xC (.int 3))) (xBin mulD (xC (.int 2718281)) (xBin ixD (xVar 0) (xC (.int 2))))) aNil)) (xBin addD (xBin powD (xC (.int 10)) (xC (.int 33))) (xC (.int 73)))))
  (sCons (sRet (xBin modD (xBi intB (aCons (xBin fdivD (xBin modD (xBi intB (aCons (xBin mulD (xVar 3) (xBin addD (xVar 3) (xC (.int 40503)))) aNil)) (xBin addD (xBin powD (xC (.int 10)) (xC (.int 34))) (xC (.int 193)))) (xC (.int 10007))) aNil)) (xVar 1)))
  sNil))))
def m__law_take : Fn := fnB 2 4 b__law_take
def e__law_is_1 : Sem :=
  (xAnd (xUn (isiD [.int]) (xVar 2)) (xNot (xUn (isiD [.bool]) (xVar 2))))
def b__law_is : EvS :=
  (sCons (sIf (xOr (xNot (xUn (isiD [.tuple]) (xVar 0))) (xBin neD (xVar 0) (xVar 1))) (sCons (sRet (xC (.bl false)))
  sNil) sNil)
  (sCons (sRet (xBi allB (aCons (xComp [2] (gVar 2) (iSeq (xVar 0)) none e__law_is_1) aNil)))
  sNil))
def m__law_is : Fn := fnB 2 3 b__law_is
def b_steps_of_1 : EvS :=
  (sCons (sExpr (xMeth extendM (xVar 1) (aCons (xLst (aCons (xVar 2) (aCons (xUn negD (xVar 2)) aNil))) aNil)))
  sNil)
def b_steps_of : EvS :=
  (sCons (sAsg (gVar 1) (xLst aNil))
  (sCons (sFor (gVar 2) (iRg2 (aCons (xC (.int 1)) (aCons (xBin addD (xVar 0) (xC (.int 1))) aNil))) b_steps_of_1)
  (sCons (sRet (xVar 1))
  sNil)))
def m_steps_of : Fn := fnB 1 3 b_steps_of
def e_steps_behind_1 : Sem :=
  (xVar 2)
def c_steps_behind_1 : Sem :=
  (xBin neD (xSlc (xVar 1) (oYes (xUn negD (xC (.int 1)))) oNo) (xTup (aCons (xUn negD (xVar 2)) aNil)))
def b_steps_behind : EvS :=
  (sCons (sRet (xComp [2] (gVar 2) (iSeq (xCall m_steps_of (aCons (xVar 0) aNil))) (some c_steps_behind_1) e_steps_behind_1))
  sNil)
def m_steps_behind : Fn := fnB 2 3 b_steps_behind
def b_walk_at_2 : EvS :=
  (sCons (sAsg (gVar 7) (xCall m_walks_behind (aCons (xVar 0) (aCons (xBin subD (xBin subD (xVar 2) (xVar 6)) (xC (.int 1))) aNil))))
  (sCons (sAsg (gVar 5) (xBin addD (xVar 5) (xTup (aCons (xBin ixD (xCall m_steps_behind (aCons (xVar 0) (aCons (xVar 5) aNil))) (xBin fdivD (xVar 3) (xVar 7))) aNil))))
  (sCons (sAsg (gVar 3) (xBin modD (xVar 3) (xVar 7)))
  sNil)))
def c_walk_at_1 : Sem :=
  (xBin (ltI fun i j => decide (j ≤ i)) (xVar 3) (xVar 4))
def b_walk_at_1 : EvS :=
  (sCons (sPar 3 2 (aCons (xBin subD (xVar 3) (xVar 4)) (aCons (xBin addD (xVar 2) (xC (.int 1))) aNil)))
  (sCons (sAsg (gVar 4) (xCall m_walks_of (aCons (xVar 0) (aCons (xVar 2) aNil))))
  sNil))
def b_walk_at : EvS :=
  (sCons (sPar3 2 3 4 (aCons (xC (.int 0)) (aCons (xVar 1) (aCons (xC (.int 1)) aNil))))
  (sCons (sWhl c_walk_at_1 b_walk_at_1)
  (sCons (sAsg (gVar 5) (xTup aNil))
  (sCons (sFor (gVar 6) (iRg1 (aCons (xVar 2) aNil)) b_walk_at_2)
  (sCons (sRet (xVar 5))
  sNil)))))
def m_walk_at : Fn := fnB 2 8 b_walk_at
def b_number_in_2 : EvS :=
  (sCons (sAsg (gVar 6) (xMeth indexM (xCall m_steps_behind (aCons (xVar 0) (aCons (xSlc (xVar 1) oNo (oYes (xVar 4))) aNil))) (aCons (xVar 5) aNil)))
  (sCons (sAsg (gVar 2) (xBin addD (xVar 2) (xBin mulD (xVar 6) (xCall m_walks_behind (aCons (xVar 0) (aCons (xBin subD (xBin subD (xBi lenB (aCons (xVar 1) aNil)) (xVar 4)) (xC (.int 1))) aNil))))))
  sNil))
def e_number_in_1 : Sem :=
  (xCall m_walks_of (aCons (xVar 0) (aCons (xVar 3) aNil)))
def b_number_in : EvS :=
  (sCons (sAsg (gVar 2) (xBi sumB (aCons (xComp [3] (gVar 3) (iRg1 (aCons (xBi lenB (aCons (xVar 1) aNil)) aNil)) none e_number_in_1) aNil)))
  (sCons (sFor (gTup 2 (gsCons (gVar 4) (gsCons (gVar 5) gsNil))) (iEnum (aCons (xVar 1) aNil)) b_number_in_2)
  (sCons (sRet (xVar 2))
  sNil)))
def m_number_in : Fn := fnB 2 7 b_number_in
def b_straightened_1 : EvS :=
  (sCons (sIf (xAnd (xBin (ltI fun i j => decide (j < i)) (xBi lenB (aCons (xVar 1) aNil)) (xC (.int 0))) (xBin eqD (xBin ixD (xVar 1) (xUn negD (xC (.int 1)))) (xUn negD (xVar 2)))) (sCons (sExpr (xMeth popM (xVar 1) aNil))
  sNil) (sCons (sExpr (xMeth appendM (xVar 1) (aCons (xVar 2) aNil)))
  sNil))
  sNil)
def b_straightened : EvS :=
  (sCons (sAsg (gVar 1) (xLst aNil))
  (sCons (sFor (gVar 2) (iSeq (xVar 0)) b_straightened_1)
  (sCons (sRet (xBi tupleB (aCons (xVar 1) aNil)))
  sNil)))
def m_straightened : Fn := fnB 1 3 b_straightened
def b_is_step : EvS :=
  (sCons (sRet (xAnd (xCall m_is_integer (aCons (xVar 0) aNil)) (xChain (ltI fun i j => decide (i ≤ j)) (ltI fun i j => decide (i ≤ j)) (xC (.int 1)) (xBi absB (aCons (xVar 0) aNil)) (xVar 1))))
  sNil)
def m_is_step : Fn := fnB 2 2 b_is_step
def e_is_a_walk_1 : Sem :=
  (xCall m_is_step (aCons (xVar 2) (aCons (xVar 1) aNil)))
def b_is_a_walk : EvS :=
  (sCons (sRet (xAnd (xUn (isiD [.tuple]) (xVar 0)) (xBi allB (aCons (xComp [2] (gVar 2) (iSeq (xVar 0)) none e_is_a_walk_1) aNil))))
  sNil)
def m_is_a_walk : Fn := fnB 2 3 b_is_a_walk
def b_need_walk : EvS :=
  (sCons (sIf (xNot (xCall m_is_a_walk (aCons (xVar 0) (aCons (xVar 1) aNil)))) (sCons sNo
  sNil) sNil)
  sNil)
def m_need_walk : Fn := fnB 2 2 b_need_walk
def b_next_walk : EvS :=
  (sCons (sExpr (xCall m_need_letters (aCons (xVar 0) aNil)))
  (sCons (sExpr (xCall m_need_walk (aCons (xVar 1) (aCons (xVar 0) aNil))))
  (sCons (sRet (xCall m_walk_at (aCons (xVar 0) (aCons (xBin addD (xCall m_number_in (aCons (xVar 0) (aCons (xCall m_straightened (aCons (xVar 1) aNil)) aNil))) (xC (.int 1))) aNil))))
  sNil)))
def m_next_walk : Fn := fnB 2 2 b_next_walk
def b__law_steps_1 : EvS :=
  (sCons (sAsg (gVar 1) (xBin addD (xVar 1) (xLst (aCons (xVar 2) (aCons (xUn negD (xVar 2)) aNil)))))
  sNil)
def b__law_steps : EvS :=
  (sCons (sAsg (gVar 1) (xLst aNil))
  (sCons (sFor (gVar 2) (iRg2 (aCons (xC (.int 1)) (aCons (xBin addD (xVar 0) (xC (.int 1))) aNil))) b__law_steps_1)
  (sCons (sRet (xVar 1))
  sNil)))
def m__law_steps : Fn := fnB 1 3 b__law_steps
def e__law_least_2 : Sem :=
  (xVar 5)
def c__law_least_2 : Sem :=
  (xBin neD (xSlc (xVar 3) (oYes (xUn negD (xC (.int 1)))) oNo) (xTup (aCons (xUn negD (xVar 5)) aNil)))
def b__law_least_1 : EvS :=
  (sCons (sAsg (gVar 3) (xBin addD (xVar 3) (xTup (aCons (xBin ixD (xComp [5] (gVar 5) (iSeq (xCall m__law_steps (aCons (xVar 0) aNil))) (some c__law_least_2) e__law_least_2) (xC (.int 0))) aNil))))
  sNil)
def b__law_least : EvS :=
  (sCons (sAsg (gVar 3) (xVar 1))
  (sCons (sFor (gVar 4) (iRg1 (aCons (xBin subD (xVar 2) (xBi lenB (aCons (xVar 1) aNil))) aNil)) b__law_least_1)
  (sCons (sRet (xVar 3))
  sNil)))
def m__law_least : Fn := fnB 3 6 b__law_least
def e__law_next_2 : Sem :=
  (xVar 4)
def c__law_next_2 : Sem :=
  (xOr (xBin eqD (xVar 2) (xC (.int 0))) (xBin neD (xVar 4) (xUn negD (xBin ixD (xVar 1) (xBin subD (xVar 2) (xC (.int 1)))))))
def b__law_next_1 : EvS :=
  (sCons (sAsg (gVar 3) (xComp [4] (gVar 4) (iSeq (xCall m__law_steps (aCons (xVar 0) aNil))) (some c__law_next_2) e__law_next_2))
  (sCons (sAsg (gVar 5) (xSlc (xVar 3) (oYes (xBin addD (xMeth indexM (xVar 3) (aCons (xBin ixD (xVar 1) (xVar 2)) aNil)) (xC (.int 1)))) oNo))
  (sCons (sIf (xBin neD (xVar 5) (xLst aNil)) (sCons (sRet (xCall m__law_least (aCons (xVar 0) (aCons (xBin addD (xSlc (xVar 1) oNo (oYes (xVar 2))) (xTup (aCons (xBin ixD (xVar 5) (xC (.int 0))) aNil))) (aCons (xBi lenB (aCons (xVar 1) aNil)) aNil)))))
  sNil) sNil)
  sNil)))
def b__law_next : EvS :=
  (sCons (sFor (gVar 2) (iRg3 (aCons (xBin subD (xBi lenB (aCons (xVar 1) aNil)) (xC (.int 1))) (aCons (xUn negD (xC (.int 1))) (aCons (xUn negD (xC (.int 1))) aNil)))) b__law_next_1)
  (sCons (sRet (xCall m__law_least (aCons (xVar 0) (aCons (xTup aNil) (aCons (xBin addD (xBi lenB (aCons (xVar 1) aNil)) (xC (.int 1))) aNil)))))
  sNil))
def m__law_next : Fn := fnB 2 6 b__law_next
def b_number_of : EvS :=
  (sCons (sExpr (xCall m_need_letters (aCons (xVar 0) aNil)))
  (sCons (sExpr (xCall m_need_walk (aCons (xVar 1) (aCons (xVar 0) aNil))))
  (sCons (sRet (xCall m_number_in (aCons (xVar 0) (aCons (xCall m_straightened (aCons (xVar 1) aNil)) aNil))))
  sNil)))
def m_number_of : Fn := fnB 2 2 b_number_of
def b__law_ahead_3 : EvS :=
  (sCons (sIf (xBin eqD (xVar 5) (xBin ixD (xVar 1) (xVar 4))) (sCons sBrk
  sNil) sNil)
  (sCons (sIf (xOr (xBin eqD (xVar 4) (xC (.int 0))) (xBin neD (xVar 5) (xUn negD (xBin ixD (xVar 1) (xBin subD (xVar 4) (xC (.int 1))))))) (sCons (sAsg (gVar 2) (xBin addD (xVar 2) (xCall m__law_times (aCons (xVar 0) (aCons (xBin subD (xBin subD (xBi lenB (aCons (xVar 1) aNil)) (xVar 4)) (xC (.int 1))) aNil)))))
  sNil) sNil)
  sNil))
def b__law_ahead_2 : EvS :=
  (sCons (sFor (gVar 5) (iSeq (xCall m__law_steps (aCons (xVar 0) aNil))) b__law_ahead_3)
  sNil)
def e__law_ahead_1 : Sem :=
  (xCall m__law_many (aCons (xVar 0) (aCons (xVar 3) aNil)))
def b__law_ahead : EvS :=
  (sCons (sAsg (gVar 2) (xBi sumB (aCons (xComp [3] (gVar 3) (iRg1 (aCons (xBi lenB (aCons (xVar 1) aNil)) aNil)) none e__law_ahead_1) aNil)))
  (sCons (sFor (gVar 4) (iRg1 (aCons (xBi lenB (aCons (xVar 1) aNil)) aNil)) b__law_ahead_2)
  (sCons (sRet (xVar 2))
  sNil)))
def m__law_ahead : Fn := fnB 2 6 b__law_ahead
def b__law_walked : EvS :=
  (sCons (sAsg (gVar 3) (xCall m__law_ahead (aCons (xVar 0) (aCons (xVar 2) aNil))))
  (sCons (sIf (xOr (xNot (xCall m__law_number (aCons (xCall m_number_of (aCons (xVar 0) (aCons (xVar 1) aNil))) (aCons (xVar 3) aNil)))) (xNot (xCall m__law_number (aCons (xCallK m_number_of 0 2 [1, 0] aNil (aCons (xVar 1) (aCons (xVar 0) aNil))) (aCons (xVar 3) aNil))))) (sCons (sRet (xC (.bl false)))
  sNil) sNil)
  (sCons (sAsg (gVar 4) (xCall m__law_next (aCons (xVar 0) (aCons (xVar 2) aNil))))
  (sCons (sRet (xAnd (xCall m__law_is (aCons (xCall m_next_walk (aCons (xVar 0) (aCons (xVar 1) aNil))) (aCons (xVar 4) aNil))) (xCall m__law_is (aCons (xCallK m_next_walk 0 2 [1, 0] aNil (aCons (xVar 1) (aCons (xVar 0) aNil))) (aCons (xVar 4) aNil)))))
  sNil))))
def m__law_walked : Fn := fnB 3 5 b__law_walked
def b_nth_walk : EvS :=
  (sCons (sExpr (xCall m_need_letters (aCons (xVar 0) aNil)))
  (sCons (sExpr (xCall m_need_number (aCons (xVar 1) (aCons (xC (.int 0)) (aCons (xC .non) aNil)))))
  (sCons (sRet (xCall m_walk_at (aCons (xVar 0) (aCons (xVar 1) aNil))))
  sNil)))
def m_nth_walk : Fn := fnB 2 2 b_nth_walk
def c__law_joined_1 : Sem :=
  (xAnd (xBin (ltI fun i j => decide (i < j)) (xVar 2) (xBi lenB (aCons (xVar 0) aNil))) (xAnd (xBin (ltI fun i j => decide (i < j)) (xVar 2) (xBi lenB (aCons (xVar 1) aNil))) (xBin eqD (xBin ixD (xVar 0) (xBin subD (xBin subD (xBi lenB (aCons (xVar 0) aNil)) (xC (.int 1))) (xVar 2))) (xUn negD (xBin ixD (xVar 1) (xVar 2))))))
def b__law_joined_1 : EvS :=
  (sCons (sAsg (gVar 2) (xBin addD (xVar 2) (xC (.int 1))))
  sNil)
def b__law_joined : EvS :=
  (sCons (sAsg (gVar 2) (xC (.int 0)))
  (sCons (sWhl c__law_joined_1 b__law_joined_1)
  (sCons (sRet (xBin addD (xSlc (xVar 0) oNo (oYes (xBin subD (xBi lenB (aCons (xVar 0) aNil)) (xVar 2)))) (xSlc (xVar 1) (oYes (xVar 2)) oNo)))
  sNil)))
def m__law_joined : Fn := fnB 2 3 b__law_joined
def b__law_straight_1 : EvS :=
  (sCons (sAsg (gVar 1) (xCall m__law_joined (aCons (xVar 1) (aCons (xTup (aCons (xVar 2) aNil)) aNil))))
  sNil)
def b__law_straight : EvS :=
  (sCons (sAsg (gVar 1) (xTup aNil))
  (sCons (sFor (gVar 2) (iSeq (xVar 0)) b__law_straight_1)
  (sCons (sRet (xVar 1))
  sNil)))
def m__law_straight : Fn := fnB 1 3 b__law_straight
def e__law_walk_3 : Sem :=
  (xBi absB (aCons (xVar 8) aNil))
def e__law_walk_2 : Sem :=
  (xUn negD (xVar 8))
def e__law_walk_1 : Sem :=
  (xBin mulD (xBin addD (xC (.int 1)) (xCall m__law_take (aCons (xVar 0) (aCons (xVar 1) aNil)))) (xBin subD (xC (.int 1)) (xBin mulD (xC (.int 2)) (xCall m__law_take (aCons (xVar 0) (aCons (xC (.int 2)) aNil))))))
def b__law_walk : EvS :=
  (sCons (sPar 3 4 (aCons (xCall m__law_take (aCons (xVar 0) (aCons (xC (.int 4)) aNil))) (aCons (xBin ixD (xLst (aCons (xCall m__law_take (aCons (xVar 0) (aCons (xBin addD (xVar 2) (xC (.int 1))) aNil))) (aCons (xVar 2) aNil))) (xBi intB (aCons (xBin eqD (xCall m__law_take (aCons (xVar 0) (aCons (xC (.int 6)) aNil))) (xC (.int 0))) aNil))) aNil)))
  (sCons (sAsg (gVar 5) (xComp [6] (gVar 6) (iRg1 (aCons (xVar 4) aNil)) none e__law_walk_1))
  (sCons (sIf (xBin eqD (xVar 3) (xC (.int 1))) (sCons (sAsg (gVar 5) (xSlc (xBin mulD (xSlc (xVar 5) oNo (oYes (xBin addD (xC (.int 1)) (xCall m__law_take (aCons (xVar 0) (aCons (xC (.int 4)) aNil)))))) (xVar 4)) oNo (oYes (xVar 4))))
  sNil) sNil)
  (sCons (sIf (xBin eqD (xVar 3) (xC (.int 2))) (sCons (sAsg (gVar 7) (xBin fdivD (xVar 4) (xC (.int 3))))
  (sCons (sAsg (gVar 5) (xBin addD (xSlc (xVar 5) oNo (oYes (xBin subD (xVar 4) (xVar 7)))) (xComp [8] (gVar 8) (iSeq (xUn revD (xSlc (xVar 5) oNo (oYes (xVar 7))))) none e__law_walk_2)))
  sNil)) sNil)
  (sCons (sIf (xBin eqD (xVar 3) (xC (.int 3))) (sCons (sAsg (gVar 5) (xComp [8] (gVar 8) (iSeq (xVar 5)) none e__law_walk_3))
  sNil) sNil)
  (sCons (sRet (xBi tupleB (aCons (xVar 5) aNil)))
  sNil))))))
def m__law_walk : Fn := fnB 3 9 b__law_walk
def e__law_all_3 : Sem :=
  (xBin addD (xVar 6) (xTup (aCons (xVar 7) aNil)))
def c__law_all_3 : Sem :=
  (xBin neD (xSlc (xVar 6) (oYes (xUn negD (xC (.int 1)))) oNo) (xTup (aCons (xUn negD (xVar 7)) aNil)))
def b__law_all_2 : EvS :=
  (sCons (sAsg (gVar 5) (xBin addD (xVar 5) (xComp [7] (gVar 7) (iSeq (xCall m__law_steps (aCons (xVar 0) aNil))) (some c__law_all_3) e__law_all_3)))
  sNil)
def b__law_all_1 : EvS :=
  (sCons (sAsg (gVar 5) (xLst aNil))
  (sCons (sFor (gVar 6) (iSeq (xVar 3)) b__law_all_2)
  (sCons (sAsg (gVar 3) (xVar 5))
  (sCons (sAsg (gVar 2) (xBin addD (xVar 2) (xVar 3)))
  sNil))))
def b__law_all : EvS :=
  (sCons (sPar 2 3 (aCons (xLst (aCons (xTup aNil) aNil)) (aCons (xLst (aCons (xTup aNil) aNil)) aNil)))
  (sCons (sFor (gVar 4) (iRg1 (aCons (xVar 1) aNil)) b__law_all_1)
  (sCons (sRet (xVar 2))
  sNil)))
def m__law_all : Fn := fnB 2 8 b__law_all
def e__law_short_3 : Sem :=
  (xVar 3)
def c__law_short_3 : Sem :=
  (xBin eqD (xBi lenB (aCons (xVar 3) aNil)) (xVar 4))
def b__law_short_2 : EvS :=
  (sCons (sAsg (gVar 5) (xBi lenB (aCons (xComp [3] (gVar 3) (iSeq (xVar 1)) (some c__law_short_3) e__law_short_3) aNil)))
  (sCons (sIf (xNot (xCall m__law_number (aCons (xCall m_how_many (aCons (xVar 0) (aCons (xVar 4) aNil))) (aCons (xVar 5) aNil)))) (sCons (sRet (xC (.bl false)))
  sNil) sNil)
  sNil))
def b__law_short_1 : EvS :=
  (sCons (sAsg (gVar 3) (xBin ixD (xVar 1) (xVar 2)))
  (sCons (sIf (xOr (xNot (xCall m__law_is (aCons (xCall m_nth_walk (aCons (xVar 0) (aCons (xVar 2) aNil))) (aCons (xVar 3) aNil)))) (xNot (xCall m__law_number (aCons (xCall m_number_of (aCons (xVar 0) (aCons (xVar 3) aNil))) (aCons (xVar 2) aNil))))) (sCons (sRet (xC (.bl false)))
  sNil) sNil)
  (sCons (sIf (xAnd (xBin (ltI fun i j => decide (i < j)) (xBin addD (xVar 2) (xC (.int 1))) (xBi lenB (aCons (xVar 1) aNil))) (xNot (xCall m__law_is (aCons (xCall m_next_walk (aCons (xVar 0) (aCons (xVar 3) aNil))) (aCons (xBin ixD (xVar 1) (xBin addD (xVar 2) (xC (.int 1)))) aNil))))) (sCons (sRet (xC (.bl false)))
  sNil) sNil)
  sNil)))
def b__law_short : EvS :=
  (sCons (sAsg (gVar 1) (xCall m__law_all (aCons (xVar 0) (aCons (xBin ixD (xLst (aCons (xC (.int 12)) (aCons (xC (.int 4)) (aCons (xC (.int 3)) (aCons (xC (.int 3)) aNil))))) (xBin subD (xVar 0) (xC (.int 1)))) aNil))))
  (sCons (sFor (gVar 2) (iRg1 (aCons (xBi lenB (aCons (xVar 1) aNil)) aNil)) b__law_short_1)
  (sCons (sFor (gVar 4) (iRg1 (aCons (xBin addD (xBi lenB (aCons (xBin ixD (xVar 1) (xUn negD (xC (.int 1)))) aNil)) (xC (.int 1))) aNil)) b__law_short_2)
  (sCons (sRet (xC (.bl true)))
  sNil))))
def m__law_short : Fn := fnB 1 6 b__law_short
def e__law_great_1 : Sem :=
  (xVar 3)
def c__law_great_1 : Sem :=
  (xBin (inD true) (xVar 3) (xCall m__law_steps (aCons (xVar 0) aNil)))
def b__law_great : EvS :=
  (sCons (sAsg (gVar 2) (xCall m_nth_walk (aCons (xVar 0) (aCons (xVar 1) aNil))))
  (sCons (sIf (xOr (xNot (xCall m__law_is (aCons (xVar 2) (aCons (xVar 2) aNil)))) (xBin neD (xVar 2) (xCall m__law_straight (aCons (xVar 2) aNil)))) (sCons (sRet (xC (.bl false)))
  sNil) sNil)
  (sCons (sIf (xOr (xBin neD (xComp [3] (gVar 3) (iSeq (xVar 2)) (some c__law_great_1) e__law_great_1) (xLst aNil)) (xBin neD (xCall m__law_ahead (aCons (xVar 0) (aCons (xVar 2) aNil))) (xVar 1))) (sCons (sRet (xC (.bl false)))
  sNil) sNil)
  (sCons (sIf (xNot (xCall m__law_is (aCons (xCallK m_nth_walk 0 2 [1, 0] aNil (aCons (xVar 1) (aCons (xVar 0) aNil))) (aCons (xVar 2) aNil)))) (sCons (sRet (xC (.bl false)))
  sNil) sNil)
  (sCons (sIf (xNot (xCall m__law_number (aCons (xCall m_number_of (aCons (xVar 0) (aCons (xVar 2) aNil))) (aCons (xVar 1) aNil)))) (sCons (sRet (xC (.bl false)))
  sNil) sNil)
  (sCons (sRet (xCall m__law_is (aCons (xCall m_nth_walk (aCons (xVar 0) (aCons (xBin addD (xVar 1) (xC (.int 1))) aNil))) (aCons (xCall m__law_next (aCons (xVar 0) (aCons (xVar 2) aNil))) aNil))))
  sNil))))))
def m__law_great : Fn := fnB 2 4 b__law_great
def b__law_right : EvS :=
  (sCons (sAsg (gVar 1) (xBin addD (xC (.int 1)) (xCall m__law_take (aCons (xVar 0) (aCons (xC (.int 4)) aNil)))))
  (sCons (sAsg (gVar 2) (xC (.int 799)))
  (sCons (sIf (xBin (ltI fun i j => decide (j < i)) (xVar 1) (xC (.int 1))) (sCons (sAsg (gVar 2) (xBin ixD (xLst (aCons (xBin powD (xC (.int 10)) (xC (.int 3))) (aCons (xBin powD (xC (.int 10)) (xC (.int 18))) (aCons (xBin powD (xC (.int 10)) (xC (.int 40))) (aCons (xBin subD (xBin powD (xC (.int 10)) (xC (.int 60))) (xC (.int 2))) aNil))))) (xCall m__law_take (aCons (xVar 0) (aCons (xC (.int 4)) aNil)))))
  sNil) sNil)
  (sCons (sAsg (gVar 3) (xBin ixD (xLst (aCons (xCall m__law_take (aCons (xVar 0) (aCons (xBin addD (xVar 2) (xC (.int 1))) aNil))) (aCons (xVar 2) aNil))) (xBi intB (aCons (xBin eqD (xCall m__law_take (aCons (xVar 0) (aCons (xC (.int 5)) aNil))) (xC (.int 0))) aNil))))
  (sCons (sIf (xOr (xNot (xCall m__law_short (aCons (xVar 1) aNil))) (xNot (xCall m__law_great (aCons (xVar 1) (aCons (xVar 3) aNil))))) (sCons (sRet (xC (.bl false)))
  sNil) sNil)
  (sCons (sAsg (gVar 4) (xCall m__law_walk (aCons (xVar 0) (aCons (xVar 1) (aCons (xC (.int 58)) aNil)))))
  (sCons (sPar 5 6 (aCons (xCall m__law_take (aCons (xVar 0) (aCons (xBin addD (xBi lenB (aCons (xVar 4) aNil)) (xC (.int 1))) aNil))) (aCons (xBin addD (xC (.int 1)) (xCall m__law_take (aCons (xVar 0) (aCons (xVar 1) aNil)))) aNil)))
  (sCons (sPar 7 8 (aCons (xBin addD (xBin addD (xSlc (xVar 4) oNo (oYes (xVar 5))) (xTup (aCons (xUn negD (xVar 6)) (aCons (xVar 6) aNil)))) (xSlc (xVar 4) (oYes (xVar 5)) oNo)) (aCons (xCall m__law_straight (aCons (xVar 4) aNil)) aNil)))
  (sCons (sAsg (gVar 9) (xBin mulD (xTup (aCons (xUn negD (xVar 1)) aNil)) (xCall m__law_take (aCons (xVar 0) (aCons (xC (.int 61)) aNil)))))
  (sCons (sIf (xOr (xNot (xCall m__law_walked (aCons (xVar 1) (aCons (xVar 4) (aCons (xVar 8) aNil))))) (xNot (xCall m__law_walked (aCons (xVar 1) (aCons (xVar 7) (aCons (xVar 8) aNil)))))) (sCons (sRet (xC (.bl false)))
  sNil) sNil)
  (sCons (sIf (xOr (xNot (xCall m__law_walked (aCons (xVar 1) (aCons (xVar 9) (aCons (xVar 9) aNil))))) (xNot (xCall m__law_is (aCons (xCall m_nth_walk (aCons (xVar 1) (aCons (xCall m__law_ahead (aCons (xVar 1) (aCons (xVar 8) aNil))) aNil))) (aCons (xVar 8) aNil))))) (sCons (sRet (xC (.bl false)))
  sNil) sNil)
  (sCons (sAsg (gVar 10) (xCall m__law_take (aCons (xVar 0) (aCons (xC (.int 101)) aNil))))
  (sCons (sAsg (gVar 11) (xCall m__law_many (aCons (xVar 1) (aCons (xVar 10) aNil))))
  (sCons (sRet (xAnd (xCall m__law_number (aCons (xCall m_how_many (aCons (xVar 1) (aCons (xVar 10) aNil))) (aCons (xVar 11) aNil))) (xCall m__law_number (aCons (xCallK m_how_many 0 2 [1, 0] aNil (aCons (xVar 10) (aCons (xVar 1) aNil))) (aCons (xVar 11) aNil)))))
  sNil))))))))))))))
def m__law_right : Fn := fnB 1 12 b__law_right
def e__law_well_1 : Sem :=
  (xBin modD (xBi intB (aCons (xVar 4) aNil)) (xBin addD (xBin powD (xC (.int 10)) (xC (.int 27))) (xC (.int 103))))
def b__law_well : EvS :=
  (sCons (sAsg (gVar 2) (xBin addD (xBin mulD (xC (.int 11)) (xVar 1)) (xC (.int 6))))
  (sCons (sIf (xBin (ltI fun i j => decide (i < j)) (xVar 1) (xBi lenB (aCons (xVar 0) aNil))) (sCons (sAsg (gVar 2) (xBin ixD (xVar 0) (xVar 1)))
  sNil) sNil)
  (sCons (sAsg (gVar 3) (xBi sumB (aCons (xComp [4] (gVar 4) (iSeq (xVar 0)) none e__law_well_1) aNil)))
  (sCons (sAsg (gVar 5) (xBin modD (xBi intB (aCons (xBin addD (xBin addD (xBin addD (xBin mulD (xBi absB (aCons (xVar 2) aNil)) (xC (.int 8929))) (xBin mulD (xC (.int 61)) (xVar 3))) (xBin mulD (xC (.int 2)) (xVar 1))) (xBi intB (aCons (xBin (ltI fun i j => decide (i < j)) (xVar 2) (xC (.int 0))) aNil))) aNil)) (xBin addD (xBin powD (xC (.int 10)) (xC (.int 31))) (xC (.int 33)))))
  (sCons (sRet (xLst (aCons (xBi max2B (aCons (xC (.int 0)) (aCons (xBin subD (xVar 2) (xBin powD (xC (.int 10)) (xC (.int 18)))) aNil))) (aCons (xVar 5) (aCons (xC (.int 0)) aNil)))))
  sNil)))))
def m__law_well : Fn := fnB 2 6 b__law_well
def b_law_1 : EvS :=
  (sCons (sIf (xNot (xCall m__law_right (aCons (xCall m__law_well (aCons (xVar 0) (aCons (xVar 1) aNil))) aNil))) (sCons (sRet (xC (.bl false)))
  sNil) sNil)
  sNil)
def b_law : EvS :=
  (sCons (sFor (gVar 1) (iRg1 (aCons (xBi max2B (aCons (xC (.int 1)) (aCons (xBi min2B (aCons (xC (.int 3)) (aCons (xBi lenB (aCons (xVar 0) aNil)) aNil))) aNil))) aNil)) b_law_1)
  (sCons (sRet (xC (.bl true)))
  sNil))
def m_law : Fn := fnB 1 2 b_law
/-! ### what the top owes -/
structure Tx (g : Gb) : Prop where
  b_abs : g.mg ("abs" : Str) = none
  b_all : g.mg ("all" : Str) = none
  b_bool : g.mg ("bool" : Str) = none
  b_enumerate : g.mg ("enumerate" : Str) = none
  b_int : g.mg ("int" : Str) = none
  b_isinstance : g.mg ("isinstance" : Str) = none
  b_len : g.mg ("len" : Str) = none
  b_max : g.mg ("max" : Str) = none
  b_min : g.mg ("min" : Str) = none
  b_range : g.mg ("range" : Str) = none
  b_sum : g.mg ("sum" : Str) = none
  b_tuple : g.mg ("tuple" : Str) = none
  k_MOST_LETTERS : ∃ t, g.mg ("MOST_LETTERS" : Str) = some (.int 4 t)
  f__law_number : ∃ f fd, g.mg ("_law_number" : Str) = some (.ref f) ∧ Fun g.K "_law_number" "_law_number" s__law_number f fd
  f_walks_behind : ∃ f fd, g.mg ("walks_behind" : Str) = some (.ref f) ∧ Fun g.K "walks_behind" "walks_behind" s_walks_behind f fd
  f_walks_of : ∃ f fd, g.mg ("walks_of" : Str) = some (.ref f) ∧ Fun g.K "walks_of" "walks_of" s_walks_of f fd
  f_need_number : ∃ f fd, g.mg ("need_number" : Str) = some (.ref f) ∧ Fun g.K "need_number" "need_number" s_need_number f fd
  f_is_integer : ∃ f fd, g.mg ("is_integer" : Str) = some (.ref f) ∧ Fun g.K "is_integer" "is_integer" s_is_integer f fd
  f_is_letters : ∃ f fd, g.mg ("is_letters" : Str) = some (.ref f) ∧ Fun g.K "is_letters" "is_letters" s_is_letters f fd
  f_need_letters : ∃ f fd, g.mg ("need_letters" : Str) = some (.ref f) ∧ Fun g.K "need_letters" "need_letters" s_need_letters f fd
  f_how_many : ∃ f fd, g.mg ("how_many" : Str) = some (.ref f) ∧ Fun g.K "how_many" "how_many" s_how_many f fd
  f__law_times : ∃ f fd, g.mg ("_law_times" : Str) = some (.ref f) ∧ Fun g.K "_law_times" "_law_times" s__law_times f fd
  f__law_many : ∃ f fd, g.mg ("_law_many" : Str) = some (.ref f) ∧ Fun g.K "_law_many" "_law_many" s__law_many f fd
  f__law_take : ∃ f fd, g.mg ("_law_take" : Str) = some (.ref f) ∧ Fun g.K "_law_take" "_law_take" s__law_take f fd
  f__law_is : ∃ f fd, g.mg ("_law_is" : Str) = some (.ref f) ∧ Fun g.K "_law_is" "_law_is" s__law_is f fd
  f_steps_of : ∃ f fd, g.mg ("steps_of" : Str) = some (.ref f) ∧ Fun g.K "steps_of" "steps_of" s_steps_of f fd
  f_steps_behind : ∃ f fd, g.mg ("steps_behind" : Str) = some (.ref f) ∧ Fun g.K "steps_behind" "steps_behind" s_steps_behind f fd
  f_walk_at : ∃ f fd, g.mg ("walk_at" : Str) = some (.ref f) ∧ Fun g.K "walk_at" "walk_at" s_walk_at f fd
  f_number_in : ∃ f fd, g.mg ("number_in" : Str) = some (.ref f) ∧ Fun g.K "number_in" "number_in" s_number_in f fd
  f_straightened : ∃ f fd, g.mg ("straightened" : Str) = some (.ref f) ∧ Fun g.K "straightened" "straightened" s_straightened f fd
  f_is_step : ∃ f fd, g.mg ("is_step" : Str) = some (.ref f) ∧ Fun g.K "is_step" "is_step" s_is_step f fd
  f_is_a_walk : ∃ f fd, g.mg ("is_a_walk" : Str) = some (.ref f) ∧ Fun g.K "is_a_walk" "is_a_walk" s_is_a_walk f fd
  f_need_walk : ∃ f fd, g.mg ("need_walk" : Str) = some (.ref f) ∧ Fun g.K "need_walk" "need_walk" s_need_walk f fd
  f_next_walk : ∃ f fd, g.mg ("next_walk" : Str) = some (.ref f) ∧ Fun g.K "next_walk" "next_walk" s_next_walk f fd
  f__law_steps : ∃ f fd, g.mg ("_law_steps" : Str) = some (.ref f) ∧ Fun g.K "_law_steps" "_law_steps" s__law_steps f fd
  f__law_least : ∃ f fd, g.mg ("_law_least" : Str) = some (.ref f) ∧ Fun g.K "_law_least" "_law_least" s__law_least f fd
  f__law_next : ∃ f fd, g.mg ("_law_next" : Str) = some (.ref f) ∧ Fun g.K "_law_next" "_law_next" s__law_next f fd
  f_number_of : ∃ f fd, g.mg ("number_of" : Str) = some (.ref f) ∧ Fun g.K "number_of" "number_of" s_number_of f fd
  f__law_ahead : ∃ f fd, g.mg ("_law_ahead" : Str) = some (.ref f) ∧ Fun g.K "_law_ahead" "_law_ahead" s__law_ahead f fd
  f__law_walked : ∃ f fd, g.mg ("_law_walked" : Str) = some (.ref f) ∧ Fun g.K "_law_walked" "_law_walked" s__law_walked f fd
  f_nth_walk : ∃ f fd, g.mg ("nth_walk" : Str) = some (.ref f) ∧ Fun g.K "nth_walk" "nth_walk" s_nth_walk f fd
  f__law_joined : ∃ f fd, g.mg ("_law_joined" : Str) = some (.ref f) ∧ Fun g.K "_law_joined" "_law_joined" s__law_joined f fd
  f__law_straight : ∃ f fd, g.mg ("_law_straight" : Str) = some (.ref f) ∧ Fun g.K "_law_straight" "_law_straight" s__law_straight f fd
  f__law_walk : ∃ f fd, g.mg ("_law_walk" : Str) = some (.ref f) ∧ Fun g.K "_law_walk" "_law_walk" s__law_walk f fd
  f__law_all : ∃ f fd, g.mg ("_law_all" : Str) = some (.ref f) ∧ Fun g.K "_law_all" "_law_all" s__law_all f fd
  f__law_short : ∃ f fd, g.mg ("_law_short" : Str) = some (.ref f) ∧ Fun g.K "_law_short" "_law_short" s__law_short f fd
  f__law_great : ∃ f fd, g.mg ("_law_great" : Str) = some (.ref f) ∧ Fun g.K "_law_great" "_law_great" s__law_great f fd
  f__law_right : ∃ f fd, g.mg ("_law_right" : Str) = some (.ref f) ∧ Fun g.K "_law_right" "_law_right" s__law_right f fd
  f__law_well : ∃ f fd, g.mg ("_law_well" : Str) = some (.ref f) ∧ Fun g.K "_law_well" "_law_well" s__law_well f fd
  f_law : ∃ f fd, g.mg ("law" : Str) = some (.ref f) ∧ Fun g.K "law" "law" s_law f fd
theorem Tx.c_MOST_LETTERS {g : Gb} (T : Tx g) {c : Cc} {pos : Pos} (h : c.sc.names.lookup ("MOST_LETTERS" : Str) = some .globalImplicit) : JE g c (xC (.int 4)) (.Name "MOST_LETTERS" pos) := by
  obtain ⟨t, e⟩ := T.k_MOST_LETTERS
  exact je_glob (v := V.int 4) h e ⟨t, rfl⟩ (fun _ _ => .int _)
/-! ### the derivations -/
theorem j__law_number {g : Gb} (T : Tx g) : JSs g ⟨["found", "due"], defScope s__law_number, fun _ => true, 0⟩ b__law_number (defBody s__law_number) :=
  (js_cons (js_ret (je_bool (jw_and (je_isi (t := .int) rfl (by rfl) T.b_isinstance (by rfl) T.b_int (je_var 0)) (jw_and (je_not (je_isi (t := .bool) rfl (by rfl) T.b_isinstance (by rfl) T.b_bool (je_var 0))) (jw_and1 (je_cmp (fun X ok => op_eqDD ok.K ok.room.units) eqD_bl (je_var 0) (je_var 1)))))))
  js_nil)
theorem j_walks_behind {g : Gb} (T : Tx g) : JSs g ⟨["letters", "length", "found", "turn"], defScope s_walks_behind, fun _ => true, 0⟩ b_walks_behind (defBody s_walks_behind) :=
  (js_cons (js_asg je_int (jg_var 2))
  (js_cons (js_for (JI.t (ji_rg1 (by rfl) T.b_range (ja_cons (je_var 1) ja_nil))) (jg_var 3) (js_cons (js_asg (je_bin (fun X ok => op_mulD ok.K) (je_var 2) (je_bin (fun X ok => op_subD ok.K) (je_bin (fun X ok => op_mulD ok.K) je_int (je_var 0)) je_int)) (jg_var 2))
  js_nil))
  (js_cons (js_ret (je_var 2))
  js_nil)))
theorem j_walks_of {g : Gb} (T : Tx g) (F_walks_behind : FnS g 1 "walks_behind" ["letters", "length"] m_walks_behind) : JSs g ⟨["letters", "length"], defScope s_walks_of, fun _ => true, 1⟩ b_walks_of (defBody s_walks_of) :=
  (js_cons (js_if (je_cmp (fun X ok => op_eqDD ok.K ok.room.units) eqD_bl (je_var 1) je_int) (js_cons (js_ret je_int)
  js_nil) js_nil)
  (js_cons (js_ret (je_bin (fun X ok => op_mulD ok.K) (je_bin (fun X ok => op_mulD ok.K) je_int (je_var 0)) (je_call F_walks_behind (by decide) (by rfl) (ja_cons (je_var 0) (ja_cons (je_bin (fun X ok => op_subD ok.K) (je_var 1) je_int) ja_nil)))))
  js_nil))
theorem j_need_number {g : Gb} (T : Tx g) : JSs g ⟨["number", "low", "high"], defScope s_need_number, fun _ => true, 0⟩ b_need_number (defBody s_need_number) :=
  (js_cons (js_if (je_bool (jw_or (je_cmp (fun X ok => op_ltI ok.K op_lt) ltI_bl (je_var 0) (je_var 1)) (jw_or1 (je_bool (jw_and (je_cmp (fun X ok => op_isnNonD ok.K) isnNonD_bl (je_var 2) je_non) (jw_and1 (je_cmp (fun X ok => op_ltI ok.K op_gt) ltI_bl (je_var 0) (je_var 2)))))))) (js_cons js_no
  js_nil) js_nil)
  js_nil)
theorem j_is_integer {g : Gb} (T : Tx g) : JSs g ⟨["value"], defScope s_is_integer, fun _ => true, 0⟩ b_is_integer (defBody s_is_integer) :=
  (js_cons (js_ret (je_bool (jw_and (je_isi (t := .int) rfl (by rfl) T.b_isinstance (by rfl) T.b_int (je_var 0)) (jw_and1 (je_not (je_isi (t := .bool) rfl (by rfl) T.b_isinstance (by rfl) T.b_bool (je_var 0)))))))
  js_nil)
theorem j_is_letters {g : Gb} (T : Tx g) (F_is_integer : FnS g 1 "is_integer" ["value"] m_is_integer) : JSs g ⟨["value"], defScope s_is_letters, fun _ => true, 1⟩ b_is_letters (defBody s_is_letters) :=
  (js_cons (js_ret (je_bool (jw_and (je_call F_is_integer (by decide) (by rfl) (ja_cons (je_var 0) ja_nil)) (jw_and1 (je_chain (fun X ok => op_ltI ok.K op_le) (fun X ok => op_ltI ok.K op_le) ltI_bl ltI_bl je_int (je_var 0) (T.c_MOST_LETTERS (by rfl)))))))
  js_nil)
theorem j_need_letters {g : Gb} (T : Tx g) (F_is_letters : FnS g 2 "is_letters" ["value"] m_is_letters) : JSs g ⟨["letters"], defScope s_need_letters, fun _ => true, 2⟩ b_need_letters (defBody s_need_letters) :=
  (js_cons (js_if (je_not (je_call F_is_letters (by decide) (by rfl) (ja_cons (je_var 0) ja_nil))) (js_cons js_no
  js_nil) js_nil)
  js_nil)
theorem j_how_many {g : Gb} (T : Tx g) (F_walks_of : FnS g 2 "walks_of" ["letters", "length"] m_walks_of) (F_need_number : FnS g 1 "need_number" ["number", "low", "high"] m_need_number) (F_need_letters : FnS g 3 "need_letters" ["letters"] m_need_letters) : JSs g ⟨["letters", "length"], defScope s_how_many, fun _ => true, 3⟩ b_how_many (defBody s_how_many) :=
  (js_cons (js_expr (je_call F_need_letters (by decide) (by rfl) (ja_cons (je_var 0) ja_nil)))
  (js_cons (js_expr (je_call F_need_number (by decide) (by rfl) (ja_cons (je_var 1) (ja_cons je_int (ja_cons je_non ja_nil)))))
  (js_cons (js_ret (je_call F_walks_of (by decide) (by rfl) (ja_cons (je_var 0) (ja_cons (je_var 1) ja_nil))))
  js_nil)))
theorem j__law_times {g : Gb} (T : Tx g) : JSs g ⟨["letters", "length", "found", "turn"], defScope s__law_times, fun _ => true, 0⟩ b__law_times (defBody s__law_times) :=
  (js_cons (js_asg je_int (jg_var 2))
  (js_cons (js_for (JI.t (ji_rg1 (by rfl) T.b_range (ja_cons (je_var 1) ja_nil))) (jg_var 3) (js_cons (js_asg (je_bin (fun X ok => op_mulD ok.K) (je_var 2) (je_bin (fun X ok => op_subD ok.K) (je_bin (fun X ok => op_mulD ok.K) je_int (je_var 0)) je_int)) (jg_var 2))
  js_nil))
  (js_cons (js_ret (je_var 2))
  js_nil)))
theorem j__law_many {g : Gb} (T : Tx g) (F__law_times : FnS g 1 "_law_times" ["letters", "length"] m__law_times) : JSs g ⟨["letters", "length"], defScope s__law_many, fun _ => true, 1⟩ b__law_many (defBody s__law_many) :=
  (js_cons (js_if (je_cmp (fun X ok => op_eqDD ok.K ok.room.units) eqD_bl (je_var 1) je_int) (js_cons (js_ret je_int)
  js_nil) js_nil)
  (js_cons (js_ret (je_bin (fun X ok => op_mulD ok.K) (je_bin (fun X ok => op_mulD ok.K) je_int (je_var 0)) (je_call F__law_times (by decide) (by rfl) (ja_cons (je_var 0) (ja_cons (je_bin (fun X ok => op_subD ok.K) (je_var 1) je_int) ja_nil)))))
  js_nil))
theorem j__law_take {g : Gb} (T : Tx g) : JSs g ⟨["well", "many", "found", "mixed"], defScope s__law_take, fun _ => true, 0⟩ b__law_take (defBody s__law_take) :=
  (js_cons (js_if (je_cmp (fun X ok => op_ltI ok.K op_gt) ltI_bl (je_ix (je_var 0) je_int) je_int) (js_cons (js_asg (je_bin (fun X ok => op_modD ok.K) (je_ty (fun X ok => cr_intD ok.K) (by rfl) T.b_int (by decide +kernel) (ja_cons (je_ix (je_var 0) je_int) ja_nil)) (je_var 1)) (jg_var 2))
  (js_cons (js_asg (je_bin (fun X ok => op_fdivD ok.K) (je_ix (je_var 0) je_int) (je_var 1)) (jg_sub (je_var 0) je_int))
  (js_cons (js_ret (je_var 2))
  js_nil))) js_nil)
  (js_cons (js_asg (je_bin (fun X ok => op_addD ok.K) (je_ix (je_var 0) je_int) je_int) (jg_sub (je_var 0) je_int))
  (js_cons (js_asg (je_bin (fun X ok => op_modD ok.K) (je_ty (fun X ok => cr_intD ok.K) (by rfl) T.b_int (by decide +kernel) (ja_cons (je_bin (fun X ok => op_addD ok.K) (je_bin (fun X ok => op_powD ok.K) (je_bin (fun X ok => op_addD ok.K) (je_ix (je_var 0) je_int) (je_bin (fun X ok => op_mulD ok.K) je_int (je_ix (je_var 0) je_int))) je_int) (je_bin (fun X ok => op_mulD ok.K) je_int (je_ix (je_var 0) je_int))) ja_nil)) (je_bin (fun X ok => op_addD ok.K) (je_bin (fun X ok => op_powD ok.K) je_int je_int) je_int)) (jg_var 3))
  (js_cons (js_ret (je_bin (fun X ok => op_modD ok.K) (je_ty (fun X ok => cr_intD ok.K) (by rfl) T.b_int (by decide +kernel) (ja_cons (je_bin (fun X ok => op_fdivD ok.K) (je_bin (fun X ok => op_modD ok.K) (je_ty (fun X ok => cr_intD ok.K) (by rfl) T.b_int (by decide +kernel) (ja_cons (je_bin (fun X ok => op_mulD ok.K) (je_var 3) (je_bin (fun X ok => op_addD ok.K) (je_var 3) je_int)) ja_nil)) (je_bin (fun X ok => op_addD ok.K) (je_bin (fun X ok => op_powD ok.K) je_int je_int) je_int)) je_int) ja_nil)) (je_var 1)))
  js_nil))))
theorem j__law_is {g : Gb} (T : Tx g) : JSs g ⟨["found", "due", "step"], defScope s__law_is, fun _ => true, 0⟩ b__law_is (defBody s__law_is) :=
  (js_cons (js_if (je_bool (jw_or (je_not (je_isi (t := .tuple) rfl (by rfl) T.b_isinstance (by rfl) T.b_tuple (je_var 0))) (jw_or1 (je_cmp (fun X ok => op_neDD ok.K ok.room.units) neD_bl (je_var 0) (je_var 1))))) (js_cons (js_ret je_bl)
  js_nil) js_nil)
  (js_cons (js_ret (je_bi (fun X ok => cr_allD ok.K ok.calm) (by rfl) T.b_all (by decide +kernel) (ja_cons (je_comp [(("step" : Str), 2)] (by decide +kernel) (JI.t (ji_seq (je_var 0))) (jg_var 2) (by decide) jt_no (je_bool (jw_and (je_isi (t := .int) rfl (by rfl) T.b_isinstance (by rfl) T.b_int (je_var 2)) (jw_and1 (je_not (je_isi (t := .bool) rfl (by rfl) T.b_isinstance (by rfl) T.b_bool (je_var 2))))))) ja_nil)))
  js_nil))
theorem j_steps_of {g : Gb} (T : Tx g) : JSs g ⟨["letters", "found", "letter"], defScope s_steps_of, fun _ => true, 0⟩ b_steps_of (defBody s_steps_of) :=
  (js_cons (js_asg (je_lst ja_nil) (jg_var 1))
  (js_cons (js_for (JI.t (ji_rg2 (by rfl) T.b_range (ja_cons je_int (ja_cons (je_bin (fun X ok => op_addD ok.K) (je_var 0) je_int) ja_nil)))) (jg_var 2) (js_cons (js_expr (je_bm PySem.F.slot_list_extend PySem.F.type_list_extend (fun X ok => mt_extendD ok.K) (je_var 1) (ja_cons (je_lst (ja_cons (je_var 2) (ja_cons (je_un (fun X ok => op_negD ok.K) (je_var 2)) ja_nil))) ja_nil)))
  js_nil))
  (js_cons (js_ret (je_var 1))
  js_nil)))
theorem j_steps_behind {g : Gb} (T : Tx g) (F_steps_of : FnS g 1 "steps_of" ["letters"] m_steps_of) : JSs g ⟨["letters", "walk", "step"], defScope s_steps_behind, fun _ => true, 1⟩ b_steps_behind (defBody s_steps_behind) :=
  (js_cons (js_ret (je_comp [(("step" : Str), 2)] (by decide +kernel) (JI.t (ji_seq (je_call F_steps_of (by decide) (by rfl) (ja_cons (je_var 0) ja_nil)))) (jg_var 2) (by decide) (jt_one (je_cmp (fun X ok => op_neDD ok.K ok.room.units) neD_bl (je_slc (je_var 1) (jo_yes (je_un (fun X ok => op_negD ok.K) je_int)) jo_no) (je_tup (ja_cons (je_un (fun X ok => op_negD ok.K) (je_var 2)) ja_nil)))) (je_var 2)))
  js_nil)
theorem j_walk_at {g : Gb} (T : Tx g) (F_steps_behind : FnS g 2 "steps_behind" ["letters", "walk"] m_steps_behind) (F_walks_behind : FnS g 1 "walks_behind" ["letters", "length"] m_walks_behind) (F_walks_of : FnS g 2 "walks_of" ["letters", "length"] m_walks_of) : JSs g ⟨["letters", "number", "length", "left", "here", "found", "turn", "each"], defScope s_walk_at, fun _ => true, 2⟩ b_walk_at (defBody s_walk_at) :=
  (js_cons (js_par3 (i := 2) (j := 3) (l := 4) rfl rfl rfl (by decide) (by decide) (by decide) (by rfl) (by rfl) (by rfl) (ja_cons je_int (ja_cons (je_var 1) (ja_cons je_int ja_nil))) (by rintro ⟨⟩ rfl; rfl))
  (js_cons (js_while (je_cmp (fun X ok => op_ltI ok.K op_ge) ltI_bl (je_var 3) (je_var 4)) (js_cons (js_par (i := 3) (j := 2) rfl rfl (by decide) (by rfl) (by rfl) (ja_cons (je_bin (fun X ok => op_subD ok.K) (je_var 3) (je_var 4)) (ja_cons (je_bin (fun X ok => op_addD ok.K) (je_var 2) je_int) ja_nil)) (by rintro ⟨⟩ rfl; rfl))
  (js_cons (js_asg (je_call F_walks_of (by decide) (by rfl) (ja_cons (je_var 0) (ja_cons (je_var 2) ja_nil))) (jg_var 4))
  js_nil)))
  (js_cons (js_asg (je_tup ja_nil) (jg_var 5))
  (js_cons (js_for (JI.t (ji_rg1 (by rfl) T.b_range (ja_cons (je_var 2) ja_nil))) (jg_var 6) (js_cons (js_asg (je_call F_walks_behind (by decide) (by rfl) (ja_cons (je_var 0) (ja_cons (je_bin (fun X ok => op_subD ok.K) (je_bin (fun X ok => op_subD ok.K) (je_var 2) (je_var 6)) je_int) ja_nil))) (jg_var 7))
  (js_cons (js_asg (je_bin (fun X ok => op_addD ok.K) (je_var 5) (je_tup (ja_cons (je_ix (je_call F_steps_behind (by decide) (by rfl) (ja_cons (je_var 0) (ja_cons (je_var 5) ja_nil))) (je_bin (fun X ok => op_fdivD ok.K) (je_var 3) (je_var 7))) ja_nil))) (jg_var 5))
  (js_cons (js_asg (je_bin (fun X ok => op_modD ok.K) (je_var 3) (je_var 7)) (jg_var 3))
  js_nil))))
  (js_cons (js_ret (je_var 5))
  js_nil)))))
theorem j_number_in {g : Gb} (T : Tx g) (F_walks_behind : FnS g 1 "walks_behind" ["letters", "length"] m_walks_behind) (F_steps_behind : FnS g 2 "steps_behind" ["letters", "walk"] m_steps_behind) (F_walks_of : FnS g 2 "walks_of" ["letters", "length"] m_walks_of) : JSs g ⟨["letters", "walk", "found", "length", "at", "step", "ahead"], defScope s_number_in, fun _ => true, 2⟩ b_number_in (defBody s_number_in) :=
  (js_cons (js_asg (je_bi (fun X ok => cr_sumD ok.K ok.calm) (by rfl) T.b_sum (by decide +kernel) (ja_cons (je_comp [(("length" : Str), 3)] (by decide +kernel) (JI.t (ji_rg1 (by rfl) T.b_range (ja_cons (je_bi (fun X ok => cr_lenD ok.K) (by rfl) T.b_len (by decide +kernel) (ja_cons (je_var 1) ja_nil)) ja_nil))) (jg_var 3) (by decide) jt_no (je_call F_walks_of (by decide) (by rfl) (ja_cons (je_var 0) (ja_cons (je_var 3) ja_nil)))) ja_nil)) (jg_var 2))
  (js_cons (js_for (ji_enum (by rfl) T.b_enumerate (ja_cons (je_var 1) ja_nil)) (jg_tup (jgs_cons (jg_var 4) (jgs_cons (jg_var 5) jgs_nil))) (js_cons (js_asg (je_bm PySem.F.slot_list_index PySem.F.type_list_index (fun X ok => mt_indexI ok.K) (je_call F_steps_behind (by decide) (by rfl) (ja_cons (je_var 0) (ja_cons (je_slc (je_var 1) jo_no (jo_yes (je_var 4))) ja_nil))) (ja_cons (je_var 5) ja_nil)) (jg_var 6))
  (js_cons (js_asg (je_bin (fun X ok => op_addD ok.K) (je_var 2) (je_bin (fun X ok => op_mulD ok.K) (je_var 6) (je_call F_walks_behind (by decide) (by rfl) (ja_cons (je_var 0) (ja_cons (je_bin (fun X ok => op_subD ok.K) (je_bin (fun X ok => op_subD ok.K) (je_bi (fun X ok => cr_lenD ok.K) (by rfl) T.b_len (by decide +kernel) (ja_cons (je_var 1) ja_nil)) (je_var 4)) je_int) ja_nil))))) (jg_var 2))
  js_nil)))
  (js_cons (js_ret (je_var 2))
  js_nil)))
theorem j_straightened {g : Gb} (T : Tx g) : JSs g ⟨["walk", "found", "step"], defScope s_straightened, fun _ => true, 0⟩ b_straightened (defBody s_straightened) :=
  (js_cons (js_asg (je_lst ja_nil) (jg_var 1))
  (js_cons (js_for (JI.t (ji_seq (je_var 0))) (jg_var 2) (js_cons (js_if (je_bool (jw_and (je_cmp (fun X ok => op_ltI ok.K op_gt) ltI_bl (je_bi (fun X ok => cr_lenD ok.K) (by rfl) T.b_len (by decide +kernel) (ja_cons (je_var 1) ja_nil)) je_int) (jw_and1 (je_cmp (fun X ok => op_eqDD ok.K ok.room.units) eqD_bl (je_ix (je_var 1) (je_un (fun X ok => op_negD ok.K) je_int)) (je_un (fun X ok => op_negD ok.K) (je_var 2)))))) (js_cons (js_expr (je_bm0 PySem.F.slot_list_pop PySem.F.type_list_pop (fun X ok => mt_popD ok.K) (je_var 1)))
  js_nil) (js_cons (js_expr (je_bm PySem.F.slot_list_append PySem.F.type_list_append (fun X ok => mt_appendD ok.K) (je_var 1) (ja_cons (je_var 2) ja_nil)))
  js_nil))
  js_nil))
  (js_cons (js_ret (je_ty (fun X ok => cr_tupleD ok.K) (by rfl) T.b_tuple (by decide +kernel) (ja_cons (je_var 1) ja_nil)))
  js_nil)))
theorem j_is_step {g : Gb} (T : Tx g) (F_is_integer : FnS g 1 "is_integer" ["value"] m_is_integer) : JSs g ⟨["value", "letters"], defScope s_is_step, fun _ => true, 1⟩ b_is_step (defBody s_is_step) :=
  (js_cons (js_ret (je_bool (jw_and (je_call F_is_integer (by decide) (by rfl) (ja_cons (je_var 0) ja_nil)) (jw_and1 (je_chain (fun X ok => op_ltI ok.K op_le) (fun X ok => op_ltI ok.K op_le) ltI_bl ltI_bl je_int (je_bi (fun X ok => cr_absD ok.K) (by rfl) T.b_abs (by decide +kernel) (ja_cons (je_var 0) ja_nil)) (je_var 1))))))
  js_nil)
theorem j_is_a_walk {g : Gb} (T : Tx g) (F_is_step : FnS g 2 "is_step" ["value", "letters"] m_is_step) : JSs g ⟨["value", "letters", "step"], defScope s_is_a_walk, fun _ => true, 2⟩ b_is_a_walk (defBody s_is_a_walk) :=
  (js_cons (js_ret (je_bool (jw_and (je_isi (t := .tuple) rfl (by rfl) T.b_isinstance (by rfl) T.b_tuple (je_var 0)) (jw_and1 (je_bi (fun X ok => cr_allD ok.K ok.calm) (by rfl) T.b_all (by decide +kernel) (ja_cons (je_comp [(("step" : Str), 2)] (by decide +kernel) (JI.t (ji_seq (je_var 0))) (jg_var 2) (by decide) jt_no (je_call F_is_step (by decide) (by rfl) (ja_cons (je_var 2) (ja_cons (je_var 1) ja_nil)))) ja_nil))))))
  js_nil)
theorem j_need_walk {g : Gb} (T : Tx g) (F_is_a_walk : FnS g 3 "is_a_walk" ["value", "letters"] m_is_a_walk) : JSs g ⟨["walk", "letters"], defScope s_need_walk, fun _ => true, 3⟩ b_need_walk (defBody s_need_walk) :=
  (js_cons (js_if (je_not (je_call F_is_a_walk (by decide) (by rfl) (ja_cons (je_var 0) (ja_cons (je_var 1) ja_nil)))) (js_cons js_no
  js_nil) js_nil)
  js_nil)
theorem j_next_walk {g : Gb} (T : Tx g) (F_walk_at : FnS g 3 "walk_at" ["letters", "number"] m_walk_at) (F_number_in : FnS g 3 "number_in" ["letters", "walk"] m_number_in) (F_straightened : FnS g 1 "straightened" ["walk"] m_straightened) (F_need_walk : FnS g 4 "need_walk" ["walk", "letters"] m_need_walk) (F_need_letters : FnS g 3 "need_letters" ["letters"] m_need_letters) : JSs g ⟨["letters", "walk"], defScope s_next_walk, fun _ => true, 4⟩ b_next_walk (defBody s_next_walk) :=
  (js_cons (js_expr (je_call F_need_letters (by decide) (by rfl) (ja_cons (je_var 0) ja_nil)))
  (js_cons (js_expr (je_call F_need_walk (by decide) (by rfl) (ja_cons (je_var 1) (ja_cons (je_var 0) ja_nil))))
  (js_cons (js_ret (je_call F_walk_at (by decide) (by rfl) (ja_cons (je_var 0) (ja_cons (je_bin (fun X ok => op_addD ok.K) (je_call F_number_in (by decide) (by rfl) (ja_cons (je_var 0) (ja_cons (je_call F_straightened (by decide) (by rfl) (ja_cons (je_var 1) ja_nil)) ja_nil))) je_int) ja_nil))))
  js_nil)))
theorem j__law_steps {g : Gb} (T : Tx g) : JSs g ⟨["letters", "found", "letter"], defScope s__law_steps, fun _ => true, 0⟩ b__law_steps (defBody s__law_steps) :=
  (js_cons (js_asg (je_lst ja_nil) (jg_var 1))
  (js_cons (js_for (JI.t (ji_rg2 (by rfl) T.b_range (ja_cons je_int (ja_cons (je_bin (fun X ok => op_addD ok.K) (je_var 0) je_int) ja_nil)))) (jg_var 2) (js_cons (js_asg (je_bin (fun X ok => op_addD ok.K) (je_var 1) (je_lst (ja_cons (je_var 2) (ja_cons (je_un (fun X ok => op_negD ok.K) (je_var 2)) ja_nil)))) (jg_var 1))
  js_nil))
  (js_cons (js_ret (je_var 1))
  js_nil)))
theorem j__law_least {g : Gb} (T : Tx g) (F__law_steps : FnS g 1 "_law_steps" ["letters"] m__law_steps) : JSs g ⟨["letters", "walk", "length", "found", "turn", "step"], defScope s__law_least, fun _ => true, 1⟩ b__law_least (defBody s__law_least) :=
  (js_cons (js_asg (je_var 1) (jg_var 3))
  (js_cons (js_for (JI.t (ji_rg1 (by rfl) T.b_range (ja_cons (je_bin (fun X ok => op_subD ok.K) (je_var 2) (je_bi (fun X ok => cr_lenD ok.K) (by rfl) T.b_len (by decide +kernel) (ja_cons (je_var 1) ja_nil))) ja_nil))) (jg_var 4) (js_cons (js_asg (je_bin (fun X ok => op_addD ok.K) (je_var 3) (je_tup (ja_cons (je_ix (je_comp [(("step" : Str), 5)] (by decide +kernel) (JI.t (ji_seq (je_call F__law_steps (by decide) (by rfl) (ja_cons (je_var 0) ja_nil)))) (jg_var 5) (by decide) (jt_one (je_cmp (fun X ok => op_neDD ok.K ok.room.units) neD_bl (je_slc (je_var 3) (jo_yes (je_un (fun X ok => op_negD ok.K) je_int)) jo_no) (je_tup (ja_cons (je_un (fun X ok => op_negD ok.K) (je_var 5)) ja_nil)))) (je_var 5)) je_int) ja_nil))) (jg_var 3))
  js_nil))
  (js_cons (js_ret (je_var 3))
  js_nil)))
theorem j__law_next {g : Gb} (T : Tx g) (F__law_least : FnS g 2 "_law_least" ["letters", "walk", "length"] m__law_least) (F__law_steps : FnS g 1 "_law_steps" ["letters"] m__law_steps) : JSs g ⟨["letters", "walk", "at", "order", "step", "later"], defScope s__law_next, fun _ => true, 2⟩ b__law_next (defBody s__law_next) :=
  (js_cons (js_for (JI.t (ji_rg3 (by rfl) T.b_range (ja_cons (je_bin (fun X ok => op_subD ok.K) (je_bi (fun X ok => cr_lenD ok.K) (by rfl) T.b_len (by decide +kernel) (ja_cons (je_var 1) ja_nil)) je_int) (ja_cons (je_un (fun X ok => op_negD ok.K) je_int) (ja_cons (je_un (fun X ok => op_negD ok.K) je_int) ja_nil))))) (jg_var 2) (js_cons (js_setLc 3 [(("step" : Str), 4)] (by decide +kernel) (JI.t (ji_seq (je_call F__law_steps (by decide) (by rfl) (ja_cons (je_var 0) ja_nil)))) (jg_var 4) (by decide) (jt_one (je_bool (jw_or (je_cmp (fun X ok => op_eqDD ok.K ok.room.units) eqD_bl (je_var 2) je_int) (jw_or1 (je_cmp (fun X ok => op_neDD ok.K ok.room.units) neD_bl (je_var 4) (je_un (fun X ok => op_negD ok.K) (je_ix (je_var 1) (je_bin (fun X ok => op_subD ok.K) (je_var 2) je_int)))))))) (je_var 4) rfl (by rfl) rfl (by rfl) rfl (by decide +kernel))
  (js_cons (js_asg (je_slc (je_var 3) (jo_yes (je_bin (fun X ok => op_addD ok.K) (je_bm PySem.F.slot_list_index PySem.F.type_list_index (fun X ok => mt_indexI ok.K) (je_var 3) (ja_cons (je_ix (je_var 1) (je_var 2)) ja_nil)) je_int)) jo_no) (jg_var 5))
  (js_cons (js_if (je_cmp (fun X ok => op_neDD ok.K ok.room.units) neD_bl (je_var 5) (je_lst ja_nil)) (js_cons (js_ret (je_call F__law_least (by decide) (by rfl) (ja_cons (je_var 0) (ja_cons (je_bin (fun X ok => op_addD ok.K) (je_slc (je_var 1) jo_no (jo_yes (je_var 2))) (je_tup (ja_cons (je_ix (je_var 5) je_int) ja_nil))) (ja_cons (je_bi (fun X ok => cr_lenD ok.K) (by rfl) T.b_len (by decide +kernel) (ja_cons (je_var 1) ja_nil)) ja_nil)))))
  js_nil) js_nil)
  js_nil))))
  (js_cons (js_ret (je_call F__law_least (by decide) (by rfl) (ja_cons (je_var 0) (ja_cons (je_tup ja_nil) (ja_cons (je_bin (fun X ok => op_addD ok.K) (je_bi (fun X ok => cr_lenD ok.K) (by rfl) T.b_len (by decide +kernel) (ja_cons (je_var 1) ja_nil)) je_int) ja_nil)))))
  js_nil))
theorem j_number_of {g : Gb} (T : Tx g) (F_number_in : FnS g 3 "number_in" ["letters", "walk"] m_number_in) (F_straightened : FnS g 1 "straightened" ["walk"] m_straightened) (F_need_walk : FnS g 4 "need_walk" ["walk", "letters"] m_need_walk) (F_need_letters : FnS g 3 "need_letters" ["letters"] m_need_letters) : JSs g ⟨["letters", "walk"], defScope s_number_of, fun _ => true, 4⟩ b_number_of (defBody s_number_of) :=
  (js_cons (js_expr (je_call F_need_letters (by decide) (by rfl) (ja_cons (je_var 0) ja_nil)))
  (js_cons (js_expr (je_call F_need_walk (by decide) (by rfl) (ja_cons (je_var 1) (ja_cons (je_var 0) ja_nil))))
  (js_cons (js_ret (je_call F_number_in (by decide) (by rfl) (ja_cons (je_var 0) (ja_cons (je_call F_straightened (by decide) (by rfl) (ja_cons (je_var 1) ja_nil)) ja_nil))))
  js_nil)))
theorem j__law_ahead {g : Gb} (T : Tx g) (F__law_steps : FnS g 1 "_law_steps" ["letters"] m__law_steps) (F__law_times : FnS g 1 "_law_times" ["letters", "length"] m__law_times) (F__law_many : FnS g 2 "_law_many" ["letters", "length"] m__law_many) : JSs g ⟨["letters", "walk", "found", "length", "at", "step"], defScope s__law_ahead, fun _ => true, 2⟩ b__law_ahead (defBody s__law_ahead) :=
  (js_cons (js_asg (je_bi (fun X ok => cr_sumD ok.K ok.calm) (by rfl) T.b_sum (by decide +kernel) (ja_cons (je_comp [(("length" : Str), 3)] (by decide +kernel) (JI.t (ji_rg1 (by rfl) T.b_range (ja_cons (je_bi (fun X ok => cr_lenD ok.K) (by rfl) T.b_len (by decide +kernel) (ja_cons (je_var 1) ja_nil)) ja_nil))) (jg_var 3) (by decide) jt_no (je_call F__law_many (by decide) (by rfl) (ja_cons (je_var 0) (ja_cons (je_var 3) ja_nil)))) ja_nil)) (jg_var 2))
  (js_cons (js_for (JI.t (ji_rg1 (by rfl) T.b_range (ja_cons (je_bi (fun X ok => cr_lenD ok.K) (by rfl) T.b_len (by decide +kernel) (ja_cons (je_var 1) ja_nil)) ja_nil))) (jg_var 4) (js_cons (js_for (JI.t (ji_seq (je_call F__law_steps (by decide) (by rfl) (ja_cons (je_var 0) ja_nil)))) (jg_var 5) (js_cons (js_if (je_cmp (fun X ok => op_eqDD ok.K ok.room.units) eqD_bl (je_var 5) (je_ix (je_var 1) (je_var 4))) (js_cons js_brk
  js_nil) js_nil)
  (js_cons (js_if (je_bool (jw_or (je_cmp (fun X ok => op_eqDD ok.K ok.room.units) eqD_bl (je_var 4) je_int) (jw_or1 (je_cmp (fun X ok => op_neDD ok.K ok.room.units) neD_bl (je_var 5) (je_un (fun X ok => op_negD ok.K) (je_ix (je_var 1) (je_bin (fun X ok => op_subD ok.K) (je_var 4) je_int))))))) (js_cons (js_asg (je_bin (fun X ok => op_addD ok.K) (je_var 2) (je_call F__law_times (by decide) (by rfl) (ja_cons (je_var 0) (ja_cons (je_bin (fun X ok => op_subD ok.K) (je_bin (fun X ok => op_subD ok.K) (je_bi (fun X ok => cr_lenD ok.K) (by rfl) T.b_len (by decide +kernel) (ja_cons (je_var 1) ja_nil)) (je_var 4)) je_int) ja_nil)))) (jg_var 2))
  js_nil) js_nil)
  js_nil)))
  js_nil))
  (js_cons (js_ret (je_var 2))
  js_nil)))
theorem j__law_walked {g : Gb} (T : Tx g) (F__law_is : FnS g 1 "_law_is" ["found", "due"] m__law_is) (F_next_walk : FnS g 5 "next_walk" ["letters", "walk"] m_next_walk) (F__law_next : FnS g 3 "_law_next" ["letters", "walk"] m__law_next) (F__law_number : FnS g 1 "_law_number" ["found", "due"] m__law_number) (F_number_of : FnS g 5 "number_of" ["letters", "walk"] m_number_of) (F__law_ahead : FnS g 3 "_law_ahead" ["letters", "walk"] m__law_ahead) (Kw1_next_walk : FnK g 5 "next_walk" ["letters", "walk"] ["walk", "letters"] 0 [1, 0] m_next_walk) (Kw2_number_of : FnK g 5 "number_of" ["letters", "walk"] ["walk", "letters"] 0 [1, 0] m_number_of) : JSs g ⟨["letters", "walk", "other", "due", "later"], defScope s__law_walked, fun _ => true, 5⟩ b__law_walked (defBody s__law_walked) :=
  (js_cons (js_asg (je_call F__law_ahead (by decide) (by rfl) (ja_cons (je_var 0) (ja_cons (je_var 2) ja_nil))) (jg_var 3))
  (js_cons (js_if (je_bool (jw_or (je_not (je_call F__law_number (by decide) (by rfl) (ja_cons (je_call F_number_of (by decide) (by rfl) (ja_cons (je_var 0) (ja_cons (je_var 1) ja_nil))) (ja_cons (je_var 3) ja_nil)))) (jw_or1 (je_not (je_call F__law_number (by decide) (by rfl) (ja_cons (je_callk0 Kw2_number_of (by decide) (by rfl) (jk_cons (je_var 1) (jk_cons (je_var 0) jk_nil))) (ja_cons (je_var 3) ja_nil))))))) (js_cons (js_ret je_bl)
  js_nil) js_nil)
  (js_cons (js_asg (je_call F__law_next (by decide) (by rfl) (ja_cons (je_var 0) (ja_cons (je_var 2) ja_nil))) (jg_var 4))
  (js_cons (js_ret (je_bool (jw_and (je_call F__law_is (by decide) (by rfl) (ja_cons (je_call F_next_walk (by decide) (by rfl) (ja_cons (je_var 0) (ja_cons (je_var 1) ja_nil))) (ja_cons (je_var 4) ja_nil))) (jw_and1 (je_call F__law_is (by decide) (by rfl) (ja_cons (je_callk0 Kw1_next_walk (by decide) (by rfl) (jk_cons (je_var 1) (jk_cons (je_var 0) jk_nil))) (ja_cons (je_var 4) ja_nil)))))))
  js_nil))))
theorem j_nth_walk {g : Gb} (T : Tx g) (F_walk_at : FnS g 3 "walk_at" ["letters", "number"] m_walk_at) (F_need_number : FnS g 1 "need_number" ["number", "low", "high"] m_need_number) (F_need_letters : FnS g 3 "need_letters" ["letters"] m_need_letters) : JSs g ⟨["letters", "number"], defScope s_nth_walk, fun _ => true, 3⟩ b_nth_walk (defBody s_nth_walk) :=
  (js_cons (js_expr (je_call F_need_letters (by decide) (by rfl) (ja_cons (je_var 0) ja_nil)))
  (js_cons (js_expr (je_call F_need_number (by decide) (by rfl) (ja_cons (je_var 1) (ja_cons je_int (ja_cons je_non ja_nil)))))
  (js_cons (js_ret (je_call F_walk_at (by decide) (by rfl) (ja_cons (je_var 0) (ja_cons (je_var 1) ja_nil))))
  js_nil)))
theorem j__law_joined {g : Gb} (T : Tx g) : JSs g ⟨["one", "other", "size"], defScope s__law_joined, fun _ => true, 0⟩ b__law_joined (defBody s__law_joined) :=
  (js_cons (js_asg je_int (jg_var 2))
  (js_cons (js_while (je_bool (jw_and (je_cmp (fun X ok => op_ltI ok.K op_lt) ltI_bl (je_var 2) (je_bi (fun X ok => cr_lenD ok.K) (by rfl) T.b_len (by decide +kernel) (ja_cons (je_var 0) ja_nil))) (jw_and (je_cmp (fun X ok => op_ltI ok.K op_lt) ltI_bl (je_var 2) (je_bi (fun X ok => cr_lenD ok.K) (by rfl) T.b_len (by decide +kernel) (ja_cons (je_var 1) ja_nil))) (jw_and1 (je_cmp (fun X ok => op_eqDD ok.K ok.room.units) eqD_bl (je_ix (je_var 0) (je_bin (fun X ok => op_subD ok.K) (je_bin (fun X ok => op_subD ok.K) (je_bi (fun X ok => cr_lenD ok.K) (by rfl) T.b_len (by decide +kernel) (ja_cons (je_var 0) ja_nil)) je_int) (je_var 2))) (je_un (fun X ok => op_negD ok.K) (je_ix (je_var 1) (je_var 2)))))))) (js_cons (js_asg (je_bin (fun X ok => op_addD ok.K) (je_var 2) je_int) (jg_var 2))
  js_nil))
  (js_cons (js_ret (je_bin (fun X ok => op_addD ok.K) (je_slc (je_var 0) jo_no (jo_yes (je_bin (fun X ok => op_subD ok.K) (je_bi (fun X ok => cr_lenD ok.K) (by rfl) T.b_len (by decide +kernel) (ja_cons (je_var 0) ja_nil)) (je_var 2)))) (je_slc (je_var 1) (jo_yes (je_var 2)) jo_no)))
  js_nil)))
theorem j__law_straight {g : Gb} (T : Tx g) (F__law_joined : FnS g 1 "_law_joined" ["one", "other"] m__law_joined) : JSs g ⟨["walk", "left", "step"], defScope s__law_straight, fun _ => true, 1⟩ b__law_straight (defBody s__law_straight) :=
  (js_cons (js_asg (je_tup ja_nil) (jg_var 1))
  (js_cons (js_for (JI.t (ji_seq (je_var 0))) (jg_var 2) (js_cons (js_asg (je_call F__law_joined (by decide) (by rfl) (ja_cons (je_var 1) (ja_cons (je_tup (ja_cons (je_var 2) ja_nil)) ja_nil))) (jg_var 1))
  js_nil))
  (js_cons (js_ret (je_var 1))
  js_nil)))
theorem j__law_walk {g : Gb} (T : Tx g) (F__law_take : FnS g 1 "_law_take" ["well", "many"] m__law_take) : JSs g ⟨["well", "letters", "most", "way", "size", "steps", "turn", "third", "step"], defScope s__law_walk, fun _ => true, 1⟩ b__law_walk (defBody s__law_walk) :=
  (js_cons (js_par (i := 3) (j := 4) rfl rfl (by decide) (by rfl) (by rfl) (ja_cons (je_call F__law_take (by decide) (by rfl) (ja_cons (je_var 0) (ja_cons je_int ja_nil))) (ja_cons (je_ix (je_lst (ja_cons (je_call F__law_take (by decide) (by rfl) (ja_cons (je_var 0) (ja_cons (je_bin (fun X ok => op_addD ok.K) (je_var 2) je_int) ja_nil))) (ja_cons (je_var 2) ja_nil))) (je_ty (fun X ok => cr_intD ok.K) (by rfl) T.b_int (by decide +kernel) (ja_cons (je_cmp (fun X ok => op_eqDD ok.K ok.room.units) eqD_bl (je_call F__law_take (by decide) (by rfl) (ja_cons (je_var 0) (ja_cons je_int ja_nil))) je_int) ja_nil))) ja_nil)) (by rintro ⟨⟩ rfl; rfl))
  (js_cons (js_setLc 5 [(("turn" : Str), 6)] (by decide +kernel) (JI.t (ji_rg1 (by rfl) T.b_range (ja_cons (je_var 4) ja_nil))) (jg_var 6) (by decide) jt_no (je_bin (fun X ok => op_mulD ok.K) (je_bin (fun X ok => op_addD ok.K) je_int (je_call F__law_take (by decide) (by rfl) (ja_cons (je_var 0) (ja_cons (je_var 1) ja_nil)))) (je_bin (fun X ok => op_subD ok.K) je_int (je_bin (fun X ok => op_mulD ok.K) je_int (je_call F__law_take (by decide) (by rfl) (ja_cons (je_var 0) (ja_cons je_int ja_nil)))))) rfl (by rfl) rfl (by rfl) rfl (by decide +kernel))
  (js_cons (js_if (je_cmp (fun X ok => op_eqDD ok.K ok.room.units) eqD_bl (je_var 3) je_int) (js_cons (js_asg (je_slc (je_bin (fun X ok => op_mulD ok.K) (je_slc (je_var 5) jo_no (jo_yes (je_bin (fun X ok => op_addD ok.K) je_int (je_call F__law_take (by decide) (by rfl) (ja_cons (je_var 0) (ja_cons je_int ja_nil)))))) (je_var 4)) jo_no (jo_yes (je_var 4))) (jg_var 5))
  js_nil) js_nil)
  (js_cons (js_if (je_cmp (fun X ok => op_eqDD ok.K ok.room.units) eqD_bl (je_var 3) je_int) (js_cons (js_asg (je_bin (fun X ok => op_fdivD ok.K) (je_var 4) je_int) (jg_var 7))
  (js_cons (js_asg (je_bin (fun X ok => op_addD ok.K) (je_slc (je_var 5) jo_no (jo_yes (je_bin (fun X ok => op_subD ok.K) (je_var 4) (je_var 7)))) (je_comp [(("step" : Str), 8)] (by decide +kernel) (JI.t (ji_seq (je_rev (je_slc (je_var 5) jo_no (jo_yes (je_var 7)))))) (jg_var 8) (by decide) jt_no (je_un (fun X ok => op_negD ok.K) (je_var 8)))) (jg_var 5))
  js_nil)) js_nil)
  (js_cons (js_if (je_cmp (fun X ok => op_eqDD ok.K ok.room.units) eqD_bl (je_var 3) je_int) (js_cons (js_setLc 5 [(("step" : Str), 8)] (by decide +kernel) (JI.t (ji_seq (je_var 5))) (jg_var 8) (by decide) jt_no (je_bi (fun X ok => cr_absD ok.K) (by rfl) T.b_abs (by decide +kernel) (ja_cons (je_var 8) ja_nil)) rfl (by rfl) rfl (by rfl) rfl (by decide +kernel))
  js_nil) js_nil)
  (js_cons (js_ret (je_ty (fun X ok => cr_tupleD ok.K) (by rfl) T.b_tuple (by decide +kernel) (ja_cons (je_var 5) ja_nil)))
  js_nil))))))
theorem j__law_all {g : Gb} (T : Tx g) (F__law_steps : FnS g 1 "_law_steps" ["letters"] m__law_steps) : JSs g ⟨["letters", "length", "found", "layer", "turn", "longer", "walk", "step"], defScope s__law_all, fun _ => true, 1⟩ b__law_all (defBody s__law_all) :=
  (js_cons (js_par (i := 2) (j := 3) rfl rfl (by decide) (by rfl) (by rfl) (ja_cons (je_lst (ja_cons (je_tup ja_nil) ja_nil)) (ja_cons (je_lst (ja_cons (je_tup ja_nil) ja_nil)) ja_nil)) (by rintro ⟨⟩ rfl; rfl))
  (js_cons (js_for (JI.t (ji_rg1 (by rfl) T.b_range (ja_cons (je_var 1) ja_nil))) (jg_var 4) (js_cons (js_asg (je_lst ja_nil) (jg_var 5))
  (js_cons (js_for (JI.t (ji_seq (je_var 3))) (jg_var 6) (js_cons (js_asg (je_bin (fun X ok => op_addD ok.K) (je_var 5) (je_comp [(("step" : Str), 7)] (by decide +kernel) (JI.t (ji_seq (je_call F__law_steps (by decide) (by rfl) (ja_cons (je_var 0) ja_nil)))) (jg_var 7) (by decide) (jt_one (je_cmp (fun X ok => op_neDD ok.K ok.room.units) neD_bl (je_slc (je_var 6) (jo_yes (je_un (fun X ok => op_negD ok.K) je_int)) jo_no) (je_tup (ja_cons (je_un (fun X ok => op_negD ok.K) (je_var 7)) ja_nil)))) (je_bin (fun X ok => op_addD ok.K) (je_var 6) (je_tup (ja_cons (je_var 7) ja_nil))))) (jg_var 5))
  js_nil))
  (js_cons (js_asg (je_var 5) (jg_var 3))
  (js_cons (js_asg (je_bin (fun X ok => op_addD ok.K) (je_var 2) (je_var 3)) (jg_var 2))
  js_nil)))))
  (js_cons (js_ret (je_var 2))
  js_nil)))
theorem j__law_short {g : Gb} (T : Tx g) (F__law_number : FnS g 1 "_law_number" ["found", "due"] m__law_number) (F_how_many : FnS g 4 "how_many" ["letters", "length"] m_how_many) (F__law_is : FnS g 1 "_law_is" ["found", "due"] m__law_is) (F_next_walk : FnS g 5 "next_walk" ["letters", "walk"] m_next_walk) (F_nth_walk : FnS g 4 "nth_walk" ["letters", "number"] m_nth_walk) (F_number_of : FnS g 5 "number_of" ["letters", "walk"] m_number_of) (F__law_all : FnS g 2 "_law_all" ["letters", "length"] m__law_all) : JSs g ⟨["letters", "walks", "at", "walk", "length", "due"], defScope s__law_short, fun _ => true, 5⟩ b__law_short (defBody s__law_short) :=
  (js_cons (js_asg (je_call F__law_all (by decide) (by rfl) (ja_cons (je_var 0) (ja_cons (je_ix (je_lst (ja_cons je_int (ja_cons je_int (ja_cons je_int (ja_cons je_int ja_nil))))) (je_bin (fun X ok => op_subD ok.K) (je_var 0) je_int)) ja_nil))) (jg_var 1))
  (js_cons (js_for (JI.t (ji_rg1 (by rfl) T.b_range (ja_cons (je_bi (fun X ok => cr_lenD ok.K) (by rfl) T.b_len (by decide +kernel) (ja_cons (je_var 1) ja_nil)) ja_nil))) (jg_var 2) (js_cons (js_asg (je_ix (je_var 1) (je_var 2)) (jg_var 3))
  (js_cons (js_if (je_bool (jw_or (je_not (je_call F__law_is (by decide) (by rfl) (ja_cons (je_call F_nth_walk (by decide) (by rfl) (ja_cons (je_var 0) (ja_cons (je_var 2) ja_nil))) (ja_cons (je_var 3) ja_nil)))) (jw_or1 (je_not (je_call F__law_number (by decide) (by rfl) (ja_cons (je_call F_number_of (by decide) (by rfl) (ja_cons (je_var 0) (ja_cons (je_var 3) ja_nil))) (ja_cons (je_var 2) ja_nil))))))) (js_cons (js_ret je_bl)
  js_nil) js_nil)
  (js_cons (js_if (je_bool (jw_and (je_cmp (fun X ok => op_ltI ok.K op_lt) ltI_bl (je_bin (fun X ok => op_addD ok.K) (je_var 2) je_int) (je_bi (fun X ok => cr_lenD ok.K) (by rfl) T.b_len (by decide +kernel) (ja_cons (je_var 1) ja_nil))) (jw_and1 (je_not (je_call F__law_is (by decide) (by rfl) (ja_cons (je_call F_next_walk (by decide) (by rfl) (ja_cons (je_var 0) (ja_cons (je_var 3) ja_nil))) (ja_cons (je_ix (je_var 1) (je_bin (fun X ok => op_addD ok.K) (je_var 2) je_int)) ja_nil))))))) (js_cons (js_ret je_bl)
  js_nil) js_nil)
  js_nil))))
  (js_cons (js_for (JI.t (ji_rg1 (by rfl) T.b_range (ja_cons (je_bin (fun X ok => op_addD ok.K) (je_bi (fun X ok => cr_lenD ok.K) (by rfl) T.b_len (by decide +kernel) (ja_cons (je_ix (je_var 1) (je_un (fun X ok => op_negD ok.K) je_int)) ja_nil)) je_int) ja_nil))) (jg_var 4) (js_cons (js_asg (je_bi (fun X ok => cr_lenD ok.K) (by rfl) T.b_len (by decide +kernel) (ja_cons (je_comp [(("walk" : Str), 3)] (by decide +kernel) (JI.t (ji_seq (je_var 1))) (jg_var 3) (by decide) (jt_one (je_cmp (fun X ok => op_eqDD ok.K ok.room.units) eqD_bl (je_bi (fun X ok => cr_lenD ok.K) (by rfl) T.b_len (by decide +kernel) (ja_cons (je_var 3) ja_nil)) (je_var 4))) (je_var 3)) ja_nil)) (jg_var 5))
  (js_cons (js_if (je_not (je_call F__law_number (by decide) (by rfl) (ja_cons (je_call F_how_many (by decide) (by rfl) (ja_cons (je_var 0) (ja_cons (je_var 4) ja_nil))) (ja_cons (je_var 5) ja_nil)))) (js_cons (js_ret je_bl)
  js_nil) js_nil)
  js_nil)))
  (js_cons (js_ret je_bl)
  js_nil))))
theorem j__law_great {g : Gb} (T : Tx g) (F__law_is : FnS g 1 "_law_is" ["found", "due"] m__law_is) (F__law_next : FnS g 3 "_law_next" ["letters", "walk"] m__law_next) (F_nth_walk : FnS g 4 "nth_walk" ["letters", "number"] m_nth_walk) (F__law_number : FnS g 1 "_law_number" ["found", "due"] m__law_number) (F_number_of : FnS g 5 "number_of" ["letters", "walk"] m_number_of) (F__law_steps : FnS g 1 "_law_steps" ["letters"] m__law_steps) (F__law_ahead : FnS g 3 "_law_ahead" ["letters", "walk"] m__law_ahead) (F__law_straight : FnS g 2 "_law_straight" ["walk"] m__law_straight) (Kw3_nth_walk : FnK g 4 "nth_walk" ["letters", "number"] ["number", "letters"] 0 [1, 0] m_nth_walk) : JSs g ⟨["letters", "number", "walk", "step"], defScope s__law_great, fun _ => true, 5⟩ b__law_great (defBody s__law_great) :=
  (js_cons (js_asg (je_call F_nth_walk (by decide) (by rfl) (ja_cons (je_var 0) (ja_cons (je_var 1) ja_nil))) (jg_var 2))
  (js_cons (js_if (je_bool (jw_or (je_not (je_call F__law_is (by decide) (by rfl) (ja_cons (je_var 2) (ja_cons (je_var 2) ja_nil)))) (jw_or1 (je_cmp (fun X ok => op_neDD ok.K ok.room.units) neD_bl (je_var 2) (je_call F__law_straight (by decide) (by rfl) (ja_cons (je_var 2) ja_nil)))))) (js_cons (js_ret je_bl)
  js_nil) js_nil)
  (js_cons (js_if (je_bool (jw_or (je_cmp (fun X ok => op_neDD ok.K ok.room.units) neD_bl (je_comp [(("step" : Str), 3)] (by decide +kernel) (JI.t (ji_seq (je_var 2))) (jg_var 3) (by decide) (jt_one (je_cmp (fun X ok => op_notInD ok.K) inD_bl (je_var 3) (je_call F__law_steps (by decide) (by rfl) (ja_cons (je_var 0) ja_nil)))) (je_var 3)) (je_lst ja_nil)) (jw_or1 (je_cmp (fun X ok => op_neDD ok.K ok.room.units) neD_bl (je_call F__law_ahead (by decide) (by rfl) (ja_cons (je_var 0) (ja_cons (je_var 2) ja_nil))) (je_var 1))))) (js_cons (js_ret je_bl)
  js_nil) js_nil)
  (js_cons (js_if (je_not (je_call F__law_is (by decide) (by rfl) (ja_cons (je_callk0 Kw3_nth_walk (by decide) (by rfl) (jk_cons (je_var 1) (jk_cons (je_var 0) jk_nil))) (ja_cons (je_var 2) ja_nil)))) (js_cons (js_ret je_bl)
  js_nil) js_nil)
  (js_cons (js_if (je_not (je_call F__law_number (by decide) (by rfl) (ja_cons (je_call F_number_of (by decide) (by rfl) (ja_cons (je_var 0) (ja_cons (je_var 2) ja_nil))) (ja_cons (je_var 1) ja_nil)))) (js_cons (js_ret je_bl)
  js_nil) js_nil)
  (js_cons (js_ret (je_call F__law_is (by decide) (by rfl) (ja_cons (je_call F_nth_walk (by decide) (by rfl) (ja_cons (je_var 0) (ja_cons (je_bin (fun X ok => op_addD ok.K) (je_var 1) je_int) ja_nil))) (ja_cons (je_call F__law_next (by decide) (by rfl) (ja_cons (je_var 0) (ja_cons (je_var 2) ja_nil))) ja_nil))))
  js_nil))))))
theorem j__law_right {g : Gb} (T : Tx g) (F__law_number : FnS g 1 "_law_number" ["found", "due"] m__law_number) (F_how_many : FnS g 4 "how_many" ["letters", "length"] m_how_many) (F__law_many : FnS g 2 "_law_many" ["letters", "length"] m__law_many) (F__law_take : FnS g 1 "_law_take" ["well", "many"] m__law_take) (F__law_walked : FnS g 6 "_law_walked" ["letters", "walk", "other"] m__law_walked) (F__law_is : FnS g 1 "_law_is" ["found", "due"] m__law_is) (F_nth_walk : FnS g 4 "nth_walk" ["letters", "number"] m_nth_walk) (F__law_ahead : FnS g 3 "_law_ahead" ["letters", "walk"] m__law_ahead) (F__law_straight : FnS g 2 "_law_straight" ["walk"] m__law_straight) (F__law_walk : FnS g 2 "_law_walk" ["well", "letters", "most"] m__law_walk) (F__law_short : FnS g 6 "_law_short" ["letters"] m__law_short) (F__law_great : FnS g 6 "_law_great" ["letters", "number"] m__law_great) (Kw0_how_many : FnK g 4 "how_many" ["letters", "length"] ["length", "letters"] 0 [1, 0] m_how_many) : JSs g ⟨["well", "letters", "most", "number", "walk", "at", "step", "more", "left", "last", "length", "due"], defScope s__law_right, fun _ => true, 6⟩ b__law_right (defBody s__law_right) :=
  (js_cons (js_asg (je_bin (fun X ok => op_addD ok.K) je_int (je_call F__law_take (by decide) (by rfl) (ja_cons (je_var 0) (ja_cons je_int ja_nil)))) (jg_var 1))
  (js_cons (js_asg je_int (jg_var 2))
  (js_cons (js_if (je_cmp (fun X ok => op_ltI ok.K op_gt) ltI_bl (je_var 1) je_int) (js_cons (js_asg (je_ix (je_lst (ja_cons (je_bin (fun X ok => op_powD ok.K) je_int je_int) (ja_cons (je_bin (fun X ok => op_powD ok.K) je_int je_int) (ja_cons (je_bin (fun X ok => op_powD ok.K) je_int je_int) (ja_cons (je_bin (fun X ok => op_subD ok.K) (je_bin (fun X ok => op_powD ok.K) je_int je_int) je_int) ja_nil))))) (je_call F__law_take (by decide) (by rfl) (ja_cons (je_var 0) (ja_cons je_int ja_nil)))) (jg_var 2))
  js_nil) js_nil)
  (js_cons (js_asg (je_ix (je_lst (ja_cons (je_call F__law_take (by decide) (by rfl) (ja_cons (je_var 0) (ja_cons (je_bin (fun X ok => op_addD ok.K) (je_var 2) je_int) ja_nil))) (ja_cons (je_var 2) ja_nil))) (je_ty (fun X ok => cr_intD ok.K) (by rfl) T.b_int (by decide +kernel) (ja_cons (je_cmp (fun X ok => op_eqDD ok.K ok.room.units) eqD_bl (je_call F__law_take (by decide) (by rfl) (ja_cons (je_var 0) (ja_cons je_int ja_nil))) je_int) ja_nil))) (jg_var 3))
  (js_cons (js_if (je_bool (jw_or (je_not (je_call F__law_short (by decide) (by rfl) (ja_cons (je_var 1) ja_nil))) (jw_or1 (je_not (je_call F__law_great (by decide) (by rfl) (ja_cons (je_var 1) (ja_cons (je_var 3) ja_nil))))))) (js_cons (js_ret je_bl)
  js_nil) js_nil)
  (js_cons (js_asg (je_call F__law_walk (by decide) (by rfl) (ja_cons (je_var 0) (ja_cons (je_var 1) (ja_cons je_int ja_nil)))) (jg_var 4))
  (js_cons (js_par (i := 5) (j := 6) rfl rfl (by decide) (by rfl) (by rfl) (ja_cons (je_call F__law_take (by decide) (by rfl) (ja_cons (je_var 0) (ja_cons (je_bin (fun X ok => op_addD ok.K) (je_bi (fun X ok => cr_lenD ok.K) (by rfl) T.b_len (by decide +kernel) (ja_cons (je_var 4) ja_nil)) je_int) ja_nil))) (ja_cons (je_bin (fun X ok => op_addD ok.K) je_int (je_call F__law_take (by decide) (by rfl) (ja_cons (je_var 0) (ja_cons (je_var 1) ja_nil)))) ja_nil)) (by rintro ⟨⟩ rfl; rfl))
  (js_cons (js_par (i := 7) (j := 8) rfl rfl (by decide) (by rfl) (by rfl) (ja_cons (je_bin (fun X ok => op_addD ok.K) (je_bin (fun X ok => op_addD ok.K) (je_slc (je_var 4) jo_no (jo_yes (je_var 5))) (je_tup (ja_cons (je_un (fun X ok => op_negD ok.K) (je_var 6)) (ja_cons (je_var 6) ja_nil)))) (je_slc (je_var 4) (jo_yes (je_var 5)) jo_no)) (ja_cons (je_call F__law_straight (by decide) (by rfl) (ja_cons (je_var 4) ja_nil)) ja_nil)) (by rintro ⟨⟩ rfl; rfl))
  (js_cons (js_asg (je_bin (fun X ok => op_mulD ok.K) (je_tup (ja_cons (je_un (fun X ok => op_negD ok.K) (je_var 1)) ja_nil)) (je_call F__law_take (by decide) (by rfl) (ja_cons (je_var 0) (ja_cons je_int ja_nil)))) (jg_var 9))
  (js_cons (js_if (je_bool (jw_or (je_not (je_call F__law_walked (by decide) (by rfl) (ja_cons (je_var 1) (ja_cons (je_var 4) (ja_cons (je_var 8) ja_nil))))) (jw_or1 (je_not (je_call F__law_walked (by decide) (by rfl) (ja_cons (je_var 1) (ja_cons (je_var 7) (ja_cons (je_var 8) ja_nil)))))))) (js_cons (js_ret je_bl)
  js_nil) js_nil)
  (js_cons (js_if (je_bool (jw_or (je_not (je_call F__law_walked (by decide) (by rfl) (ja_cons (je_var 1) (ja_cons (je_var 9) (ja_cons (je_var 9) ja_nil))))) (jw_or1 (je_not (je_call F__law_is (by decide) (by rfl) (ja_cons (je_call F_nth_walk (by decide) (by rfl) (ja_cons (je_var 1) (ja_cons (je_call F__law_ahead (by decide) (by rfl) (ja_cons (je_var 1) (ja_cons (je_var 8) ja_nil))) ja_nil))) (ja_cons (je_var 8) ja_nil))))))) (js_cons (js_ret je_bl)
  js_nil) js_nil)
  (js_cons (js_asg (je_call F__law_take (by decide) (by rfl) (ja_cons (je_var 0) (ja_cons je_int ja_nil))) (jg_var 10))
  (js_cons (js_asg (je_call F__law_many (by decide) (by rfl) (ja_cons (je_var 1) (ja_cons (je_var 10) ja_nil))) (jg_var 11))
  (js_cons (js_ret (je_bool (jw_and (je_call F__law_number (by decide) (by rfl) (ja_cons (je_call F_how_many (by decide) (by rfl) (ja_cons (je_var 1) (ja_cons (je_var 10) ja_nil))) (ja_cons (je_var 11) ja_nil))) (jw_and1 (je_call F__law_number (by decide) (by rfl) (ja_cons (je_callk0 Kw0_how_many (by decide) (by rfl) (jk_cons (je_var 10) (jk_cons (je_var 1) jk_nil))) (ja_cons (je_var 11) ja_nil)))))))
  js_nil))))))))))))))
theorem j__law_well {g : Gb} (T : Tx g) : JSs g ⟨["script", "k", "cell", "total", "one", "seed"], defScope s__law_well, fun _ => true, 0⟩ b__law_well (defBody s__law_well) :=
  (js_cons (js_asg (je_bin (fun X ok => op_addD ok.K) (je_bin (fun X ok => op_mulD ok.K) je_int (je_var 1)) je_int) (jg_var 2))
  (js_cons (js_if (je_cmp (fun X ok => op_ltI ok.K op_lt) ltI_bl (je_var 1) (je_bi (fun X ok => cr_lenD ok.K) (by rfl) T.b_len (by decide +kernel) (ja_cons (je_var 0) ja_nil))) (js_cons (js_asg (je_ix (je_var 0) (je_var 1)) (jg_var 2))
  js_nil) js_nil)
  (js_cons (js_asg (je_bi (fun X ok => cr_sumD ok.K ok.calm) (by rfl) T.b_sum (by decide +kernel) (ja_cons (je_comp [(("one" : Str), 4)] (by decide +kernel) (JI.t (ji_seq (je_var 0))) (jg_var 4) (by decide) jt_no (je_bin (fun X ok => op_modD ok.K) (je_ty (fun X ok => cr_intD ok.K) (by rfl) T.b_int (by decide +kernel) (ja_cons (je_var 4) ja_nil)) (je_bin (fun X ok => op_addD ok.K) (je_bin (fun X ok => op_powD ok.K) je_int je_int) je_int))) ja_nil)) (jg_var 3))
  (js_cons (js_asg (je_bin (fun X ok => op_modD ok.K) (je_ty (fun X ok => cr_intD ok.K) (by rfl) T.b_int (by decide +kernel) (ja_cons (je_bin (fun X ok => op_addD ok.K) (je_bin (fun X ok => op_addD ok.K) (je_bin (fun X ok => op_addD ok.K) (je_bin (fun X ok => op_mulD ok.K) (je_bi (fun X ok => cr_absD ok.K) (by rfl) T.b_abs (by decide +kernel) (ja_cons (je_var 2) ja_nil)) je_int) (je_bin (fun X ok => op_mulD ok.K) je_int (je_var 3))) (je_bin (fun X ok => op_mulD ok.K) je_int (je_var 1))) (je_ty (fun X ok => cr_intD ok.K) (by rfl) T.b_int (by decide +kernel) (ja_cons (je_cmp (fun X ok => op_ltI ok.K op_lt) ltI_bl (je_var 2) je_int) ja_nil))) ja_nil)) (je_bin (fun X ok => op_addD ok.K) (je_bin (fun X ok => op_powD ok.K) je_int je_int) je_int)) (jg_var 5))
  (js_cons (js_ret (je_lst (ja_cons (je_bi (fun X ok => cr_max2D ok.K ok.calm) (by rfl) T.b_max (by decide +kernel) (ja_cons je_int (ja_cons (je_bin (fun X ok => op_subD ok.K) (je_var 2) (je_bin (fun X ok => op_powD ok.K) je_int je_int)) ja_nil))) (ja_cons (je_var 5) (ja_cons je_int ja_nil)))))
  js_nil)))))
theorem j_law {g : Gb} (T : Tx g) (F__law_right : FnS g 7 "_law_right" ["well"] m__law_right) (F__law_well : FnS g 1 "_law_well" ["script", "k"] m__law_well) : JSs g ⟨["script", "k"], defScope s_law, fun _ => true, 7⟩ b_law (defBody s_law) :=
  (js_cons (js_for (JI.t (ji_rg1 (by rfl) T.b_range (ja_cons (je_bi (fun X ok => cr_max2D ok.K ok.calm) (by rfl) T.b_max (by decide +kernel) (ja_cons je_int (ja_cons (je_bi (fun X ok => cr_min2D ok.K ok.calm) (by rfl) T.b_min (by decide +kernel) (ja_cons je_int (ja_cons (je_bi (fun X ok => cr_lenD ok.K) (by rfl) T.b_len (by decide +kernel) (ja_cons (je_var 0) ja_nil)) ja_nil))) ja_nil))) ja_nil))) (jg_var 1) (js_cons (js_if (je_not (je_call F__law_right (by decide) (by rfl) (ja_cons (je_call F__law_well (by decide) (by rfl) (ja_cons (je_var 0) (ja_cons (je_var 1) ja_nil))) ja_nil))) (js_cons (js_ret je_bl)
  js_nil) js_nil)
  js_nil))
  (js_cons (js_ret je_bl)
  js_nil))
/-! ### each def keeps its meaning -/
theorem sc__law_number : FnScope ["found", "due"] ["found", "due"] (defScope s__law_number) := ⟨rfl, rfl, rfl, by decide +kernel, rfl, by decide +kernel, by decide +kernel⟩
theorem sc_walks_behind : FnScope ["letters", "length", "found", "turn"] ["letters", "length"] (defScope s_walks_behind) := ⟨rfl, rfl, rfl, by decide +kernel, rfl, by decide +kernel, by decide +kernel⟩
theorem sc_walks_of : FnScope ["letters", "length"] ["letters", "length"] (defScope s_walks_of) := ⟨rfl, rfl, rfl, by decide +kernel, rfl, by decide +kernel, by decide +kernel⟩
theorem sc_need_number : FnScope ["number", "low", "high"] ["number", "low", "high"] (defScope s_need_number) := ⟨rfl, rfl, rfl, by decide +kernel, rfl, by decide +kernel, by decide +kernel⟩
theorem sc_is_integer : FnScope ["value"] ["value"] (defScope s_is_integer) := ⟨rfl, rfl, rfl, by decide +kernel, rfl, by decide +kernel, by decide +kernel⟩
theorem sc_is_letters : FnScope ["value"] ["value"] (defScope s_is_letters) := ⟨rfl, rfl, rfl, by decide +kernel, rfl, by decide +kernel, by decide +kernel⟩
theorem sc_need_letters : FnScope ["letters"] ["letters"] (defScope s_need_letters) := ⟨rfl, rfl, rfl, by decide +kernel, rfl, by decide +kernel, by decide +kernel⟩
theorem sc_how_many : FnScope ["letters", "length"] ["letters", "length"] (defScope s_how_many) := ⟨rfl, rfl, rfl, by decide +kernel, rfl, by decide +kernel, by decide +kernel⟩
theorem sc__law_times : FnScope ["letters", "length", "found", "turn"] ["letters", "length"] (defScope s__law_times) := ⟨rfl, rfl, rfl, by decide +kernel, rfl, by decide +kernel, by decide +kernel⟩
theorem sc__law_many : FnScope ["letters", "length"] ["letters", "length"] (defScope s__law_many) := ⟨rfl, rfl, rfl, by decide +kernel, rfl, by decide +kernel, by decide +kernel⟩
theorem sc__law_take : FnScope ["well", "many", "found", "mixed"] ["well", "many"] (defScope s__law_take) := ⟨rfl, rfl, rfl, by decide +kernel, rfl, by decide +kernel, by decide +kernel⟩
theorem sc__law_is : FnScope ["found", "due", "step"] ["found", "due"] (defScope s__law_is) := ⟨rfl, rfl, rfl, by decide +kernel, rfl, by decide +kernel, by decide +kernel⟩
theorem sc_steps_of : FnScope ["letters", "found", "letter"] ["letters"] (defScope s_steps_of) := ⟨rfl, rfl, rfl, by decide +kernel, rfl, by decide +kernel, by decide +kernel⟩
theorem sc_steps_behind : FnScope ["letters", "walk", "step"] ["letters", "walk"] (defScope s_steps_behind) := ⟨rfl, rfl, rfl, by decide +kernel, rfl, by decide +kernel, by decide +kernel⟩
theorem sc_walk_at : FnScope ["letters", "number", "length", "left", "here", "found", "turn", "each"] ["letters", "number"] (defScope s_walk_at) := ⟨rfl, rfl, rfl, by decide +kernel, rfl, by decide +kernel, by decide +kernel⟩
theorem sc_number_in : FnScope ["letters", "walk", "found", "length", "at", "step", "ahead"] ["letters", "walk"] (defScope s_number_in) := ⟨rfl, rfl, rfl, by decide +kernel, rfl, by decide +kernel, by decide +kernel⟩
theorem sc_straightened : FnScope ["walk", "found", "step"] ["walk"] (defScope s_straightened) := ⟨rfl, rfl, rfl, by decide +kernel, rfl, by decide +kernel, by decide +kernel⟩
theorem sc_is_step : FnScope ["value", "letters"] ["value", "letters"] (defScope s_is_step) := ⟨rfl, rfl, rfl, by decide +kernel, rfl, by decide +kernel, by decide +kernel⟩
theorem sc_is_a_walk : FnScope ["value", "letters", "step"] ["value", "letters"] (defScope s_is_a_walk) := ⟨rfl, rfl, rfl, by decide +kernel, rfl, by decide +kernel, by decide +kernel⟩
theorem sc_need_walk : FnScope ["walk", "letters"] ["walk", "letters"] (defScope s_need_walk) := ⟨rfl, rfl, rfl, by decide +kernel, rfl, by decide +kernel, by decide +kernel⟩
theorem sc_next_walk : FnScope ["letters", "walk"] ["letters", "walk"] (defScope s_next_walk) := ⟨rfl, rfl, rfl, by decide +kernel, rfl, by decide +kernel, by decide +kernel⟩
theorem sc__law_steps : FnScope ["letters", "found", "letter"] ["letters"] (defScope s__law_steps) := ⟨rfl, rfl, rfl, by decide +kernel, rfl, by decide +kernel, by decide +kernel⟩
theorem sc__law_least : FnScope ["letters", "walk", "length", "found", "turn", "step"] ["letters", "walk", "length"] (defScope s__law_least) := ⟨rfl, rfl, rfl, by decide +kernel, rfl, by decide +kernel, by decide +kernel⟩
theorem sc__law_next : FnScope ["letters", "walk", "at", "order", "step", "later"] ["letters", "walk"] (defScope s__law_next) := ⟨rfl, rfl, rfl, by decide +kernel, rfl, by decide +kernel, by decide +kernel⟩
theorem sc_number_of : FnScope ["letters", "walk"] ["letters", "walk"] (defScope s_number_of) := ⟨rfl, rfl, rfl, by decide +kernel, rfl, by decide +kernel, by decide +kernel⟩
theorem sc__law_ahead : FnScope ["letters", "walk", "found", "length", "at", "step"] ["letters", "walk"] (defScope s__law_ahead) := ⟨rfl, rfl, rfl, by decide +kernel, rfl, by decide +kernel, by decide +kernel⟩
theorem sc__law_walked : FnScope ["letters", "walk", "other", "due", "later"] ["letters", "walk", "other"] (defScope s__law_walked) := ⟨rfl, rfl, rfl, by decide +kernel, rfl, by decide +kernel, by decide +kernel⟩
theorem sc_nth_walk : FnScope ["letters", "number"] ["letters", "number"] (defScope s_nth_walk) := ⟨rfl, rfl, rfl, by decide +kernel, rfl, by decide +kernel, by decide +kernel⟩
theorem sc__law_joined : FnScope ["one", "other", "size"] ["one", "other"] (defScope s__law_joined) := ⟨rfl, rfl, rfl, by decide +kernel, rfl, by decide +kernel, by decide +kernel⟩
theorem sc__law_straight : FnScope ["walk", "left", "step"] ["walk"] (defScope s__law_straight) := ⟨rfl, rfl, rfl, by decide +kernel, rfl, by decide +kernel, by decide +kernel⟩
theorem sc__law_walk : FnScope ["well", "letters", "most", "way", "size", "steps", "turn", "third", "step"] ["well", "letters", "most"] (defScope s__law_walk) := ⟨rfl, rfl, rfl, by decide +kernel, rfl, by decide +kernel, by decide +kernel⟩
theorem sc__law_all : FnScope ["letters", "length", "found", "layer", "turn", "longer", "walk", "step"] ["letters", "length"] (defScope s__law_all) := ⟨rfl, rfl, rfl, by decide +kernel, rfl, by decide +kernel, by decide +kernel⟩
theorem sc__law_short : FnScope ["letters", "walks", "at", "walk", "length", "due"] ["letters"] (defScope s__law_short) := ⟨rfl, rfl, rfl, by decide +kernel, rfl, by decide +kernel, by decide +kernel⟩
theorem sc__law_great : FnScope ["letters", "number", "walk", "step"] ["letters", "number"] (defScope s__law_great) := ⟨rfl, rfl, rfl, by decide +kernel, rfl, by decide +kernel, by decide +kernel⟩
theorem sc__law_right : FnScope ["well", "letters", "most", "number", "walk", "at", "step", "more", "left", "last", "length", "due"] ["well"] (defScope s__law_right) := ⟨rfl, rfl, rfl, by decide +kernel, rfl, by decide +kernel, by decide +kernel⟩
theorem sc__law_well : FnScope ["script", "k", "cell", "total", "one", "seed"] ["script", "k"] (defScope s__law_well) := ⟨rfl, rfl, rfl, by decide +kernel, rfl, by decide +kernel, by decide +kernel⟩
theorem sc_law : FnScope ["script", "k"] ["script"] (defScope s_law) := ⟨rfl, rfl, rfl, by decide +kernel, rfl, by decide +kernel, by decide +kernel⟩
theorem ok__law_number {g : Gb} (T : Tx g) {f : Addr} {fd : FuncData} (F : Fun g.K "_law_number" "_law_number" s__law_number f fd) : FnOk g.P g.w g.K g.mg g.base CX0 1 f fd ["found", "due"] (spD g.K 2 m__law_number) := fn_ok F sc__law_number (j__law_number T)
theorem F__law_number {g : Gb} (T : Tx g) : FnS g 1 "_law_number" ["found", "due"] m__law_number := by
  obtain ⟨f, fd, h1, F⟩ := T.f__law_number
  exact fnS_of rfl h1 F.kp (F.binds (ps := ["found", "due"]) fun _ _ _ _ _ _ us hl => match us, hl with | [_, _], _ => rfl) (ok__law_number T F)
theorem ok_walks_behind {g : Gb} (T : Tx g) {f : Addr} {fd : FuncData} (F : Fun g.K "walks_behind" "walks_behind" s_walks_behind f fd) : FnOk g.P g.w g.K g.mg g.base CX0 1 f fd ["letters", "length"] (spD g.K 2 m_walks_behind) := fn_ok F sc_walks_behind (j_walks_behind T)
theorem F_walks_behind {g : Gb} (T : Tx g) : FnS g 1 "walks_behind" ["letters", "length"] m_walks_behind := by
  obtain ⟨f, fd, h1, F⟩ := T.f_walks_behind
  exact fnS_of rfl h1 F.kp (F.binds (ps := ["letters", "length"]) fun _ _ _ _ _ _ us hl => match us, hl with | [_, _], _ => rfl) (ok_walks_behind T F)
theorem ok_walks_of {g : Gb} (T : Tx g) {f : Addr} {fd : FuncData} (F : Fun g.K "walks_of" "walks_of" s_walks_of f fd) : FnOk g.P g.w g.K g.mg g.base CX0 2 f fd ["letters", "length"] (spD g.K 2 m_walks_of) := fn_ok F sc_walks_of (j_walks_of T (F_walks_behind T))
theorem F_walks_of {g : Gb} (T : Tx g) : FnS g 2 "walks_of" ["letters", "length"] m_walks_of := by
  obtain ⟨f, fd, h1, F⟩ := T.f_walks_of
  exact fnS_of rfl h1 F.kp (F.binds (ps := ["letters", "length"]) fun _ _ _ _ _ _ us hl => match us, hl with | [_, _], _ => rfl) (ok_walks_of T F)
theorem ok_need_number {g : Gb} (T : Tx g) {f : Addr} {fd : FuncData} (F : Fun g.K "need_number" "need_number" s_need_number f fd) : FnOk g.P g.w g.K g.mg g.base CX0 1 f fd ["number", "low", "high"] (spD g.K 3 m_need_number) := fn_ok F sc_need_number (j_need_number T)
theorem F_need_number {g : Gb} (T : Tx g) : FnS g 1 "need_number" ["number", "low", "high"] m_need_number := by
  obtain ⟨f, fd, h1, F⟩ := T.f_need_number
  exact fnS_of rfl h1 F.kp (F.binds (ps := ["number", "low", "high"]) fun _ _ _ _ _ _ us hl => match us, hl with | [_, _, _], _ => rfl) (ok_need_number T F)
theorem ok_is_integer {g : Gb} (T : Tx g) {f : Addr} {fd : FuncData} (F : Fun g.K "is_integer" "is_integer" s_is_integer f fd) : FnOk g.P g.w g.K g.mg g.base CX0 1 f fd ["value"] (spD g.K 1 m_is_integer) := fn_ok F sc_is_integer (j_is_integer T)
theorem F_is_integer {g : Gb} (T : Tx g) : FnS g 1 "is_integer" ["value"] m_is_integer := by
  obtain ⟨f, fd, h1, F⟩ := T.f_is_integer
  exact fnS_of rfl h1 F.kp (F.binds (ps := ["value"]) fun _ _ _ _ _ _ us hl => match us, hl with | [_], _ => rfl) (ok_is_integer T F)
theorem ok_is_letters {g : Gb} (T : Tx g) {f : Addr} {fd : FuncData} (F : Fun g.K "is_letters" "is_letters" s_is_letters f fd) : FnOk g.P g.w g.K g.mg g.base CX0 2 f fd ["value"] (spD g.K 1 m_is_letters) := fn_ok F sc_is_letters (j_is_letters T (F_is_integer T))
theorem F_is_letters {g : Gb} (T : Tx g) : FnS g 2 "is_letters" ["value"] m_is_letters := by
  obtain ⟨f, fd, h1, F⟩ := T.f_is_letters
  exact fnS_of rfl h1 F.kp (F.binds (ps := ["value"]) fun _ _ _ _ _ _ us hl => match us, hl with | [_], _ => rfl) (ok_is_letters T F)
theorem ok_need_letters {g : Gb} (T : Tx g) {f : Addr} {fd : FuncData} (F : Fun g.K "need_letters" "need_letters" s_need_letters f fd) : FnOk g.P g.w g.K g.mg g.base CX0 3 f fd ["letters"] (spD g.K 1 m_need_letters) := fn_ok F sc_need_letters (j_need_letters T (F_is_letters T))
theorem F_need_letters {g : Gb} (T : Tx g) : FnS g 3 "need_letters" ["letters"] m_need_letters := by
  obtain ⟨f, fd, h1, F⟩ := T.f_need_letters
  exact fnS_of rfl h1 F.kp (F.binds (ps := ["letters"]) fun _ _ _ _ _ _ us hl => match us, hl with | [_], _ => rfl) (ok_need_letters T F)
theorem ok_how_many {g : Gb} (T : Tx g) {f : Addr} {fd : FuncData} (F : Fun g.K "how_many" "how_many" s_how_many f fd) : FnOk g.P g.w g.K g.mg g.base CX0 4 f fd ["letters", "length"] (spD g.K 2 m_how_many) := fn_ok F sc_how_many (j_how_many T (F_walks_of T) (F_need_number T) (F_need_letters T))
theorem F_how_many {g : Gb} (T : Tx g) : FnS g 4 "how_many" ["letters", "length"] m_how_many := by
  obtain ⟨f, fd, h1, F⟩ := T.f_how_many
  exact fnS_of rfl h1 F.kp (F.binds (ps := ["letters", "length"]) fun _ _ _ _ _ _ us hl => match us, hl with | [_, _], _ => rfl) (ok_how_many T F)
theorem Kw0_how_many {g : Gb} (T : Tx g) : FnK g 4 "how_many" ["letters", "length"] ["length", "letters"] 0 [1, 0] m_how_many := by
  obtain ⟨f, fd, h1, F⟩ := T.f_how_many
  refine fnK_of rfl h1 F.kp ?_ (by decide) (ok_how_many T F)
  obtain ⟨oc, od, kV, doc, pm, an, cdv, ct, osl, rfl, lk, hcd⟩ := F.ex
  intro s us ws h2 h3
  match us, ws, h2, h3 with
  | [], [_, _], _, _ => exact .of_eq rfl
theorem ok__law_times {g : Gb} (T : Tx g) {f : Addr} {fd : FuncData} (F : Fun g.K "_law_times" "_law_times" s__law_times f fd) : FnOk g.P g.w g.K g.mg g.base CX0 1 f fd ["letters", "length"] (spD g.K 2 m__law_times) := fn_ok F sc__law_times (j__law_times T)
theorem F__law_times {g : Gb} (T : Tx g) : FnS g 1 "_law_times" ["letters", "length"] m__law_times := by
  obtain ⟨f, fd, h1, F⟩ := T.f__law_times
  exact fnS_of rfl h1 F.kp (F.binds (ps := ["letters", "length"]) fun _ _ _ _ _ _ us hl => match us, hl with | [_, _], _ => rfl) (ok__law_times T F)
theorem ok__law_many {g : Gb} (T : Tx g) {f : Addr} {fd : FuncData} (F : Fun g.K "_law_many" "_law_many" s__law_many f fd) : FnOk g.P g.w g.K g.mg g.base CX0 2 f fd ["letters", "length"] (spD g.K 2 m__law_many) := fn_ok F sc__law_many (j__law_many T (F__law_times T))
theorem F__law_many {g : Gb} (T : Tx g) : FnS g 2 "_law_many" ["letters", "length"] m__law_many := by
  obtain ⟨f, fd, h1, F⟩ := T.f__law_many
  exact fnS_of rfl h1 F.kp (F.binds (ps := ["letters", "length"]) fun _ _ _ _ _ _ us hl => match us, hl with | [_, _], _ => rfl) (ok__law_many T F)
theorem ok__law_take {g : Gb} (T : Tx g) {f : Addr} {fd : FuncData} (F : Fun g.K "_law_take" "_law_take" s__law_take f fd) : FnOk g.P g.w g.K g.mg g.base CX0 1 f fd ["well", "many"] (spD g.K 2 m__law_take) := fn_ok F sc__law_take (j__law_take T)
theorem F__law_take {g : Gb} (T : Tx g) : FnS g 1 "_law_take" ["well", "many"] m__law_take := by
  obtain ⟨f, fd, h1, F⟩ := T.f__law_take
  exact fnS_of rfl h1 F.kp (F.binds (ps := ["well", "many"]) fun _ _ _ _ _ _ us hl => match us, hl with | [_, _], _ => rfl) (ok__law_take T F)
theorem ok__law_is {g : Gb} (T : Tx g) {f : Addr} {fd : FuncData} (F : Fun g.K "_law_is" "_law_is" s__law_is f fd) : FnOk g.P g.w g.K g.mg g.base CX0 1 f fd ["found", "due"] (spD g.K 2 m__law_is) := fn_ok F sc__law_is (j__law_is T)
theorem F__law_is {g : Gb} (T : Tx g) : FnS g 1 "_law_is" ["found", "due"] m__law_is := by
  obtain ⟨f, fd, h1, F⟩ := T.f__law_is
  exact fnS_of rfl h1 F.kp (F.binds (ps := ["found", "due"]) fun _ _ _ _ _ _ us hl => match us, hl with | [_, _], _ => rfl) (ok__law_is T F)
theorem ok_steps_of {g : Gb} (T : Tx g) {f : Addr} {fd : FuncData} (F : Fun g.K "steps_of" "steps_of" s_steps_of f fd) : FnOk g.P g.w g.K g.mg g.base CX0 1 f fd ["letters"] (spD g.K 1 m_steps_of) := fn_ok F sc_steps_of (j_steps_of T)
theorem F_steps_of {g : Gb} (T : Tx g) : FnS g 1 "steps_of" ["letters"] m_steps_of := by
  obtain ⟨f, fd, h1, F⟩ := T.f_steps_of
  exact fnS_of rfl h1 F.kp (F.binds (ps := ["letters"]) fun _ _ _ _ _ _ us hl => match us, hl with | [_], _ => rfl) (ok_steps_of T F)
theorem ok_steps_behind {g : Gb} (T : Tx g) {f : Addr} {fd : FuncData} (F : Fun g.K "steps_behind" "steps_behind" s_steps_behind f fd) : FnOk g.P g.w g.K g.mg g.base CX0 2 f fd ["letters", "walk"] (spD g.K 2 m_steps_behind) := fn_ok F sc_steps_behind (j_steps_behind T (F_steps_of T))
theorem F_steps_behind {g : Gb} (T : Tx g) : FnS g 2 "steps_behind" ["letters", "walk"] m_steps_behind := by
  obtain ⟨f, fd, h1, F⟩ := T.f_steps_behind
  exact fnS_of rfl h1 F.kp (F.binds (ps := ["letters", "walk"]) fun _ _ _ _ _ _ us hl => match us, hl with | [_, _], _ => rfl) (ok_steps_behind T F)
theorem ok_walk_at {g : Gb} (T : Tx g) {f : Addr} {fd : FuncData} (F : Fun g.K "walk_at" "walk_at" s_walk_at f fd) : FnOk g.P g.w g.K g.mg g.base CX0 3 f fd ["letters", "number"] (spD g.K 2 m_walk_at) := fn_ok F sc_walk_at (j_walk_at T (F_steps_behind T) (F_walks_behind T) (F_walks_of T))
theorem F_walk_at {g : Gb} (T : Tx g) : FnS g 3 "walk_at" ["letters", "number"] m_walk_at := by
  obtain ⟨f, fd, h1, F⟩ := T.f_walk_at
  exact fnS_of rfl h1 F.kp (F.binds (ps := ["letters", "number"]) fun _ _ _ _ _ _ us hl => match us, hl with | [_, _], _ => rfl) (ok_walk_at T F)
theorem ok_number_in {g : Gb} (T : Tx g) {f : Addr} {fd : FuncData} (F : Fun g.K "number_in" "number_in" s_number_in f fd) : FnOk g.P g.w g.K g.mg g.base CX0 3 f fd ["letters", "walk"] (spD g.K 2 m_number_in) := fn_ok F sc_number_in (j_number_in T (F_walks_behind T) (F_steps_behind T) (F_walks_of T))
theorem F_number_in {g : Gb} (T : Tx g) : FnS g 3 "number_in" ["letters", "walk"] m_number_in := by
  obtain ⟨f, fd, h1, F⟩ := T.f_number_in
  exact fnS_of rfl h1 F.kp (F.binds (ps := ["letters", "walk"]) fun _ _ _ _ _ _ us hl => match us, hl with | [_, _], _ => rfl) (ok_number_in T F)
theorem ok_straightened {g : Gb} (T : Tx g) {f : Addr} {fd : FuncData} (F : Fun g.K "straightened" "straightened" s_straightened f fd) : FnOk g.P g.w g.K g.mg g.base CX0 1 f fd ["walk"] (spD g.K 1 m_straightened) := fn_ok F sc_straightened (j_straightened T)
theorem F_straightened {g : Gb} (T : Tx g) : FnS g 1 "straightened" ["walk"] m_straightened := by
  obtain ⟨f, fd, h1, F⟩ := T.f_straightened
  exact fnS_of rfl h1 F.kp (F.binds (ps := ["walk"]) fun _ _ _ _ _ _ us hl => match us, hl with | [_], _ => rfl) (ok_straightened T F)
theorem ok_is_step {g : Gb} (T : Tx g) {f : Addr} {fd : FuncData} (F : Fun g.K "is_step" "is_step" s_is_step f fd) : FnOk g.P g.w g.K g.mg g.base CX0 2 f fd ["value", "letters"] (spD g.K 2 m_is_step) := fn_ok F sc_is_step (j_is_step T (F_is_integer T))
theorem F_is_step {g : Gb} (T : Tx g) : FnS g 2 "is_step" ["value", "letters"] m_is_step := by
  obtain ⟨f, fd, h1, F⟩ := T.f_is_step
  exact fnS_of rfl h1 F.kp (F.binds (ps := ["value", "letters"]) fun _ _ _ _ _ _ us hl => match us, hl with | [_, _], _ => rfl) (ok_is_step T F)
theorem ok_is_a_walk {g : Gb} (T : Tx g) {f : Addr} {fd : FuncData} (F : Fun g.K "is_a_walk" "is_a_walk" s_is_a_walk f fd) : FnOk g.P g.w g.K g.mg g.base CX0 3 f fd ["value", "letters"] (spD g.K 2 m_is_a_walk) := fn_ok F sc_is_a_walk (j_is_a_walk T (F_is_step T))
theorem F_is_a_walk {g : Gb} (T : Tx g) : FnS g 3 "is_a_walk" ["value", "letters"] m_is_a_walk := by
  obtain ⟨f, fd, h1, F⟩ := T.f_is_a_walk
  exact fnS_of rfl h1 F.kp (F.binds (ps := ["value", "letters"]) fun _ _ _ _ _ _ us hl => match us, hl with | [_, _], _ => rfl) (ok_is_a_walk T F)
theorem ok_need_walk {g : Gb} (T : Tx g) {f : Addr} {fd : FuncData} (F : Fun g.K "need_walk" "need_walk" s_need_walk f fd) : FnOk g.P g.w g.K g.mg g.base CX0 4 f fd ["walk", "letters"] (spD g.K 2 m_need_walk) := fn_ok F sc_need_walk (j_need_walk T (F_is_a_walk T))
theorem F_need_walk {g : Gb} (T : Tx g) : FnS g 4 "need_walk" ["walk", "letters"] m_need_walk := by
  obtain ⟨f, fd, h1, F⟩ := T.f_need_walk
  exact fnS_of rfl h1 F.kp (F.binds (ps := ["walk", "letters"]) fun _ _ _ _ _ _ us hl => match us, hl with | [_, _], _ => rfl) (ok_need_walk T F)
theorem ok_next_walk {g : Gb} (T : Tx g) {f : Addr} {fd : FuncData} (F : Fun g.K "next_walk" "next_walk" s_next_walk f fd) : FnOk g.P g.w g.K g.mg g.base CX0 5 f fd ["letters", "walk"] (spD g.K 2 m_next_walk) := fn_ok F sc_next_walk (j_next_walk T (F_walk_at T) (F_number_in T) (F_straightened T) (F_need_walk T) (F_need_letters T))
theorem F_next_walk {g : Gb} (T : Tx g) : FnS g 5 "next_walk" ["letters", "walk"] m_next_walk := by
  obtain ⟨f, fd, h1, F⟩ := T.f_next_walk
  exact fnS_of rfl h1 F.kp (F.binds (ps := ["letters", "walk"]) fun _ _ _ _ _ _ us hl => match us, hl with | [_, _], _ => rfl) (ok_next_walk T F)
theorem Kw1_next_walk {g : Gb} (T : Tx g) : FnK g 5 "next_walk" ["letters", "walk"] ["walk", "letters"] 0 [1, 0] m_next_walk := by
  obtain ⟨f, fd, h1, F⟩ := T.f_next_walk
  refine fnK_of rfl h1 F.kp ?_ (by decide) (ok_next_walk T F)
  obtain ⟨oc, od, kV, doc, pm, an, cdv, ct, osl, rfl, lk, hcd⟩ := F.ex
  intro s us ws h2 h3
  match us, ws, h2, h3 with
  | [], [_, _], _, _ => exact .of_eq rfl
theorem ok__law_steps {g : Gb} (T : Tx g) {f : Addr} {fd : FuncData} (F : Fun g.K "_law_steps" "_law_steps" s__law_steps f fd) : FnOk g.P g.w g.K g.mg g.base CX0 1 f fd ["letters"] (spD g.K 1 m__law_steps) := fn_ok F sc__law_steps (j__law_steps T)
theorem F__law_steps {g : Gb} (T : Tx g) : FnS g 1 "_law_steps" ["letters"] m__law_steps := by
  obtain ⟨f, fd, h1, F⟩ := T.f__law_steps
  exact fnS_of rfl h1 F.kp (F.binds (ps := ["letters"]) fun _ _ _ _ _ _ us hl => match us, hl with | [_], _ => rfl) (ok__law_steps T F)
theorem ok__law_least {g : Gb} (T : Tx g) {f : Addr} {fd : FuncData} (F : Fun g.K "_law_least" "_law_least" s__law_least f fd) : FnOk g.P g.w g.K g.mg g.base CX0 2 f fd ["letters", "walk", "length"] (spD g.K 3 m__law_least) := fn_ok F sc__law_least (j__law_least T (F__law_steps T))
theorem F__law_least {g : Gb} (T : Tx g) : FnS g 2 "_law_least" ["letters", "walk", "length"] m__law_least := by
  obtain ⟨f, fd, h1, F⟩ := T.f__law_least
  exact fnS_of rfl h1 F.kp (F.binds (ps := ["letters", "walk", "length"]) fun _ _ _ _ _ _ us hl => match us, hl with | [_, _, _], _ => rfl) (ok__law_least T F)
theorem ok__law_next {g : Gb} (T : Tx g) {f : Addr} {fd : FuncData} (F : Fun g.K "_law_next" "_law_next" s__law_next f fd) : FnOk g.P g.w g.K g.mg g.base CX0 3 f fd ["letters", "walk"] (spD g.K 2 m__law_next) := fn_ok F sc__law_next (j__law_next T (F__law_least T) (F__law_steps T))
theorem F__law_next {g : Gb} (T : Tx g) : FnS g 3 "_law_next" ["letters", "walk"] m__law_next := by
  obtain ⟨f, fd, h1, F⟩ := T.f__law_next
  exact fnS_of rfl h1 F.kp (F.binds (ps := ["letters", "walk"]) fun _ _ _ _ _ _ us hl => match us, hl with | [_, _], _ => rfl) (ok__law_next T F)
theorem ok_number_of {g : Gb} (T : Tx g) {f : Addr} {fd : FuncData} (F : Fun g.K "number_of" "number_of" s_number_of f fd) : FnOk g.P g.w g.K g.mg g.base CX0 5 f fd ["letters", "walk"] (spD g.K 2 m_number_of) := fn_ok F sc_number_of (j_number_of T (F_number_in T) (F_straightened T) (F_need_walk T) (F_need_letters T))
theorem F_number_of {g : Gb} (T : Tx g) : FnS g 5 "number_of" ["letters", "walk"] m_number_of := by
  obtain ⟨f, fd, h1, F⟩ := T.f_number_of
  exact fnS_of rfl h1 F.kp (F.binds (ps := ["letters", "walk"]) fun _ _ _ _ _ _ us hl => match us, hl with | [_, _], _ => rfl) (ok_number_of T F)
theorem Kw2_number_of {g : Gb} (T : Tx g) : FnK g 5 "number_of" ["letters", "walk"] ["walk", "letters"] 0 [1, 0] m_number_of := by
  obtain ⟨f, fd, h1, F⟩ := T.f_number_of
  refine fnK_of rfl h1 F.kp ?_ (by decide) (ok_number_of T F)
  obtain ⟨oc, od, kV, doc, pm, an, cdv, ct, osl, rfl, lk, hcd⟩ := F.ex
  intro s us ws h2 h3
  match us, ws, h2, h3 with
  | [], [_, _], _, _ => exact .of_eq rfl
theorem ok__law_ahead {g : Gb} (T : Tx g) {f : Addr} {fd : FuncData} (F : Fun g.K "_law_ahead" "_law_ahead" s__law_ahead f fd) : FnOk g.P g.w g.K g.mg g.base CX0 3 f fd ["letters", "walk"] (spD g.K 2 m__law_ahead) := fn_ok F sc__law_ahead (j__law_ahead T (F__law_steps T) (F__law_times T) (F__law_many T))
theorem F__law_ahead {g : Gb} (T : Tx g) : FnS g 3 "_law_ahead" ["letters", "walk"] m__law_ahead := by
  obtain ⟨f, fd, h1, F⟩ := T.f__law_ahead
  exact fnS_of rfl h1 F.kp (F.binds (ps := ["letters", "walk"]) fun _ _ _ _ _ _ us hl => match us, hl with | [_, _], _ => rfl) (ok__law_ahead T F)
theorem ok__law_walked {g : Gb} (T : Tx g) {f : Addr} {fd : FuncData} (F : Fun g.K "_law_walked" "_law_walked" s__law_walked f fd) : FnOk g.P g.w g.K g.mg g.base CX0 6 f fd ["letters", "walk", "other"] (spD g.K 3 m__law_walked) := fn_ok F sc__law_walked (j__law_walked T (F__law_is T) (F_next_walk T) (F__law_next T) (F__law_number T) (F_number_of T) (F__law_ahead T) (Kw1_next_walk T) (Kw2_number_of T))
theorem F__law_walked {g : Gb} (T : Tx g) : FnS g 6 "_law_walked" ["letters", "walk", "other"] m__law_walked := by
  obtain ⟨f, fd, h1, F⟩ := T.f__law_walked
  exact fnS_of rfl h1 F.kp (F.binds (ps := ["letters", "walk", "other"]) fun _ _ _ _ _ _ us hl => match us, hl with | [_, _, _], _ => rfl) (ok__law_walked T F)
theorem ok_nth_walk {g : Gb} (T : Tx g) {f : Addr} {fd : FuncData} (F : Fun g.K "nth_walk" "nth_walk" s_nth_walk f fd) : FnOk g.P g.w g.K g.mg g.base CX0 4 f fd ["letters", "number"] (spD g.K 2 m_nth_walk) := fn_ok F sc_nth_walk (j_nth_walk T (F_walk_at T) (F_need_number T) (F_need_letters T))
theorem F_nth_walk {g : Gb} (T : Tx g) : FnS g 4 "nth_walk" ["letters", "number"] m_nth_walk := by
  obtain ⟨f, fd, h1, F⟩ := T.f_nth_walk
  exact fnS_of rfl h1 F.kp (F.binds (ps := ["letters", "number"]) fun _ _ _ _ _ _ us hl => match us, hl with | [_, _], _ => rfl) (ok_nth_walk T F)
theorem Kw3_nth_walk {g : Gb} (T : Tx g) : FnK g 4 "nth_walk" ["letters", "number"] ["number", "letters"] 0 [1, 0] m_nth_walk := by
  obtain ⟨f, fd, h1, F⟩ := T.f_nth_walk
  refine fnK_of rfl h1 F.kp ?_ (by decide) (ok_nth_walk T F)
  obtain ⟨oc, od, kV, doc, pm, an, cdv, ct, osl, rfl, lk, hcd⟩ := F.ex
  intro s us ws h2 h3
  match us, ws, h2, h3 with
  | [], [_, _], _, _ => exact .of_eq rfl
theorem ok__law_joined {g : Gb} (T : Tx g) {f : Addr} {fd : FuncData} (F : Fun g.K "_law_joined" "_law_joined" s__law_joined f fd) : FnOk g.P g.w g.K g.mg g.base CX0 1 f fd ["one", "other"] (spD g.K 2 m__law_joined) := fn_ok F sc__law_joined (j__law_joined T)
theorem F__law_joined {g : Gb} (T : Tx g) : FnS g 1 "_law_joined" ["one", "other"] m__law_joined := by
  obtain ⟨f, fd, h1, F⟩ := T.f__law_joined
  exact fnS_of rfl h1 F.kp (F.binds (ps := ["one", "other"]) fun _ _ _ _ _ _ us hl => match us, hl with | [_, _], _ => rfl) (ok__law_joined T F)
theorem ok__law_straight {g : Gb} (T : Tx g) {f : Addr} {fd : FuncData} (F : Fun g.K "_law_straight" "_law_straight" s__law_straight f fd) : FnOk g.P g.w g.K g.mg g.base CX0 2 f fd ["walk"] (spD g.K 1 m__law_straight) := fn_ok F sc__law_straight (j__law_straight T (F__law_joined T))
theorem F__law_straight {g : Gb} (T : Tx g) : FnS g 2 "_law_straight" ["walk"] m__law_straight := by
  obtain ⟨f, fd, h1, F⟩ := T.f__law_straight
  exact fnS_of rfl h1 F.kp (F.binds (ps := ["walk"]) fun _ _ _ _ _ _ us hl => match us, hl with | [_], _ => rfl) (ok__law_straight T F)
theorem ok__law_walk {g : Gb} (T : Tx g) {f : Addr} {fd : FuncData} (F : Fun g.K "_law_walk" "_law_walk" s__law_walk f fd) : FnOk g.P g.w g.K g.mg g.base CX0 2 f fd ["well", "letters", "most"] (spD g.K 3 m__law_walk) := fn_ok F sc__law_walk (j__law_walk T (F__law_take T))
theorem F__law_walk {g : Gb} (T : Tx g) : FnS g 2 "_law_walk" ["well", "letters", "most"] m__law_walk := by
  obtain ⟨f, fd, h1, F⟩ := T.f__law_walk
  exact fnS_of rfl h1 F.kp (F.binds (ps := ["well", "letters", "most"]) fun _ _ _ _ _ _ us hl => match us, hl with | [_, _, _], _ => rfl) (ok__law_walk T F)
theorem ok__law_all {g : Gb} (T : Tx g) {f : Addr} {fd : FuncData} (F : Fun g.K "_law_all" "_law_all" s__law_all f fd) : FnOk g.P g.w g.K g.mg g.base CX0 2 f fd ["letters", "length"] (spD g.K 2 m__law_all) := fn_ok F sc__law_all (j__law_all T (F__law_steps T))
theorem F__law_all {g : Gb} (T : Tx g) : FnS g 2 "_law_all" ["letters", "length"] m__law_all := by
  obtain ⟨f, fd, h1, F⟩ := T.f__law_all
  exact fnS_of rfl h1 F.kp (F.binds (ps := ["letters", "length"]) fun _ _ _ _ _ _ us hl => match us, hl with | [_, _], _ => rfl) (ok__law_all T F)
theorem ok__law_short {g : Gb} (T : Tx g) {f : Addr} {fd : FuncData} (F : Fun g.K "_law_short" "_law_short" s__law_short f fd) : FnOk g.P g.w g.K g.mg g.base CX0 6 f fd ["letters"] (spD g.K 1 m__law_short) := fn_ok F sc__law_short (j__law_short T (F__law_number T) (F_how_many T) (F__law_is T) (F_next_walk T) (F_nth_walk T) (F_number_of T) (F__law_all T))
theorem F__law_short {g : Gb} (T : Tx g) : FnS g 6 "_law_short" ["letters"] m__law_short := by
  obtain ⟨f, fd, h1, F⟩ := T.f__law_short
  exact fnS_of rfl h1 F.kp (F.binds (ps := ["letters"]) fun _ _ _ _ _ _ us hl => match us, hl with | [_], _ => rfl) (ok__law_short T F)
theorem ok__law_great {g : Gb} (T : Tx g) {f : Addr} {fd : FuncData} (F : Fun g.K "_law_great" "_law_great" s__law_great f fd) : FnOk g.P g.w g.K g.mg g.base CX0 6 f fd ["letters", "number"] (spD g.K 2 m__law_great) := fn_ok F sc__law_great (j__law_great T (F__law_is T) (F__law_next T) (F_nth_walk T) (F__law_number T) (F_number_of T) (F__law_steps T) (F__law_ahead T) (F__law_straight T) (Kw3_nth_walk T))
theorem F__law_great {g : Gb} (T : Tx g) : FnS g 6 "_law_great" ["letters", "number"] m__law_great := by
  obtain ⟨f, fd, h1, F⟩ := T.f__law_great
  exact fnS_of rfl h1 F.kp (F.binds (ps := ["letters", "number"]) fun _ _ _ _ _ _ us hl => match us, hl with | [_, _], _ => rfl) (ok__law_great T F)
theorem ok__law_right {g : Gb} (T : Tx g) {f : Addr} {fd : FuncData} (F : Fun g.K "_law_right" "_law_right" s__law_right f fd) : FnOk g.P g.w g.K g.mg g.base CX0 7 f fd ["well"] (spD g.K 1 m__law_right) := fn_ok F sc__law_right (j__law_right T (F__law_number T) (F_how_many T) (F__law_many T) (F__law_take T) (F__law_walked T) (F__law_is T) (F_nth_walk T) (F__law_ahead T) (F__law_straight T) (F__law_walk T) (F__law_short T) (F__law_great T) (Kw0_how_many T))
theorem F__law_right {g : Gb} (T : Tx g) : FnS g 7 "_law_right" ["well"] m__law_right := by
  obtain ⟨f, fd, h1, F⟩ := T.f__law_right
  exact fnS_of rfl h1 F.kp (F.binds (ps := ["well"]) fun _ _ _ _ _ _ us hl => match us, hl with | [_], _ => rfl) (ok__law_right T F)
theorem ok__law_well {g : Gb} (T : Tx g) {f : Addr} {fd : FuncData} (F : Fun g.K "_law_well" "_law_well" s__law_well f fd) : FnOk g.P g.w g.K g.mg g.base CX0 1 f fd ["script", "k"] (spD g.K 2 m__law_well) := fn_ok F sc__law_well (j__law_well T)
theorem F__law_well {g : Gb} (T : Tx g) : FnS g 1 "_law_well" ["script", "k"] m__law_well := by
  obtain ⟨f, fd, h1, F⟩ := T.f__law_well
  exact fnS_of rfl h1 F.kp (F.binds (ps := ["script", "k"]) fun _ _ _ _ _ _ us hl => match us, hl with | [_, _], _ => rfl) (ok__law_well T F)
theorem ok_law {g : Gb} (T : Tx g) {f : Addr} {fd : FuncData} (F : Fun g.K "law" "law" s_law f fd) : FnOk g.P g.w g.K g.mg g.base CX0 8 f fd ["script"] (spD g.K 1 m_law) := fn_ok F sc_law (j_law T (F__law_right T) (F__law_well T))
theorem F_law {g : Gb} (T : Tx g) : FnS g 8 "law" ["script"] m_law := by
  obtain ⟨f, fd, h1, F⟩ := T.f_law
  exact fnS_of rfl h1 F.kp (F.binds (ps := ["script"]) fun _ _ _ _ _ _ us hl => match us, hl with | [_], _ => rfl) (ok_law T F)
/-! ### the end: what the top has left -/
theorem all_mk {l : PySem.W.OpenLaw} {w : World} {K : PySem.W.Frag} {h : Heap} {mg : Str → Option Value} {fa : Addr} (X : K.In h) (G : h.Ns mainGlobals mg) (hfa : mg "law" = some (.ref fa))
    {f0 : Addr} {od0 an0 : Option Addr} {sl0 : Array (Option Value)} {oc0 kV0 dc0 pm0 cd0 ct0 : Value}
    (a0 : PySem.W.nsIn K mainGlobals "_law_number" = some (some (.ref f0))) (l0 : K.lookup f0 = some ⟨oc0, od0, .func (PySem.W.fnOf "_law_number" "_law_number" (defArgs s__law_number) (defBody s__law_number) (defScope s__law_number) .none kV0 dc0 pm0 an0 cd0 ct0), sl0⟩) (c0 : PySem.W.codeIn K cd0 "_law_number" = true) (k0 : PySem.W.keepIn K (.ref f0) = true)
    {f1 : Addr} {od1 an1 : Option Addr} {sl1 : Array (Option Value)} {oc1 kV1 dc1 pm1 cd1 ct1 : Value}
    (a1 : PySem.W.nsIn K mainGlobals "walks_behind" = some (some (.ref f1))) (l1 : K.lookup f1 = some ⟨oc1, od1, .func (PySem.W.fnOf "walks_behind" "walks_behind" (defArgs s_walks_behind) (defBody s_walks_behind) (defScope s_walks_behind) .none kV1 dc1 pm1 an1 cd1 ct1), sl1⟩) (c1 : PySem.W.codeIn K cd1 "walks_behind" = true) (k1 : PySem.W.keepIn K (.ref f1) = true)
    {f2 : Addr} {od2 an2 : Option Addr} {sl2 : Array (Option Value)} {oc2 kV2 dc2 pm2 cd2 ct2 : Value}
    (a2 : PySem.W.nsIn K mainGlobals "walks_of" = some (some (.ref f2))) (l2 : K.lookup f2 = some ⟨oc2, od2, .func (PySem.W.fnOf "walks_of" "walks_of" (defArgs s_walks_of) (defBody s_walks_of) (defScope s_walks_of) .none kV2 dc2 pm2 an2 cd2 ct2), sl2⟩) (c2 : PySem.W.codeIn K cd2 "walks_of" = true) (k2 : PySem.W.keepIn K (.ref f2) = true)
    {f3 : Addr} {od3 an3 : Option Addr} {sl3 : Array (Option Value)} {oc3 kV3 dc3 pm3 cd3 ct3 : Value}
    (a3 : PySem.W.nsIn K mainGlobals "need_number" = some (some (.ref f3))) (l3 : K.lookup f3 = some ⟨oc3, od3, .func (PySem.W.fnOf "need_number" "need_number" (defArgs s_need_number) (defBody s_need_number) (defScope s_need_number) .none kV3 dc3 pm3 an3 cd3 ct3), sl3⟩) (c3 : PySem.W.codeIn K cd3 "need_number" = true) (k3 : PySem.W.keepIn K (.ref f3) = true)
    {f4 : Addr} {od4 an4 : Option Addr} {sl4 : Array (Option Value)} {oc4 kV4 dc4 pm4 cd4 ct4 : Value}
    (a4 : PySem.W.nsIn K mainGlobals "is_integer" = some (some (.ref f4))) (l4 : K.lookup f4 = some ⟨oc4, od4, .func (PySem.W.fnOf "is_integer" "is_integer" (defArgs s_is_integer) (defBody s_is_integer) (defScope s_is_integer) .none kV4 dc4 pm4 an4 cd4 ct4), sl4⟩) (c4 : PySem.W.codeIn K cd4 "is_integer" = true) (k4 : PySem.W.keepIn K (.ref f4) = true)
    {f5 : Addr} {od5 an5 : Option Addr} {sl5 : Array (Option Value)} {oc5 kV5 dc5 pm5 cd5 ct5 : Value}
    (a5 : PySem.W.nsIn K mainGlobals "is_letters" = some (some (.ref f5))) (l5 : K.lookup f5 = some ⟨oc5, od5, .func (PySem.W.fnOf "is_letters" "is_letters" (defArgs s_is_letters) (defBody s_is_letters) (defScope s_is_letters) .none kV5 dc5 pm5 an5 cd5 ct5), sl5⟩) (c5 : PySem.W.codeIn K cd5 "is_letters" = true) (k5 : PySem.W.keepIn K (.ref f5) = true)
    {f6 : Addr} {od6 an6 : Option Addr} {sl6 : Array (Option Value)} {oc6 kV6 dc6 pm6 cd6 ct6 : Value}
    (a6 : PySem.W.nsIn K mainGlobals "need_letters" = some (some (.ref f6))) (l6 : K.lookup f6 = some ⟨oc6, od6, .func (PySem.W.fnOf "need_letters" "need_letters" (defArgs s_need_letters) (defBody s_need_letters) (defScope s_need_letters) .none kV6 dc6 pm6 an6 cd6 ct6), sl6⟩) (c6 : PySem.W.codeIn K cd6 "need_letters" = true) (k6 : PySem.W.keepIn K (.ref f6) = true)
    {f7 : Addr} {od7 an7 : Option Addr} {sl7 : Array (Option Value)} {oc7 kV7 dc7 pm7 cd7 ct7 : Value}
    (a7 : PySem.W.nsIn K mainGlobals "how_many" = some (some (.ref f7))) (l7 : K.lookup f7 = some ⟨oc7, od7, .func (PySem.W.fnOf "how_many" "how_many" (defArgs s_how_many) (defBody s_how_many) (defScope s_how_many) .none kV7 dc7 pm7 an7 cd7 ct7), sl7⟩) (c7 : PySem.W.codeIn K cd7 "how_many" = true) (k7 : PySem.W.keepIn K (.ref f7) = true)
    {f8 : Addr} {od8 an8 : Option Addr} {sl8 : Array (Option Value)} {oc8 kV8 dc8 pm8 cd8 ct8 : Value}
    (a8 : PySem.W.nsIn K mainGlobals "_law_times" = some (some (.ref f8))) (l8 : K.lookup f8 = some ⟨oc8, od8, .func (PySem.W.fnOf "_law_times" "_law_times" (defArgs s__law_times) (defBody s__law_times) (defScope s__law_times) .none kV8 dc8 pm8 an8 cd8 ct8), sl8⟩) (c8 : PySem.W.codeIn K cd8 "_law_times" = true) (k8 : PySem.W.keepIn K (.ref f8) = true)
    {f9 : Addr} {od9 an9 : Option Addr} {sl9 : Array (Option Value)} {oc9 kV9 dc9 pm9 cd9 ct9 : Value}
    (a9 : PySem.W.nsIn K mainGlobals "_law_many" = some (some (.ref f9))) (l9 : K.lookup f9 = some ⟨oc9, od9, .func (PySem.W.fnOf "_law_many" "_law_many" (defArgs s__law_many) (defBody s__law_many) (defScope s__law_many) .none kV9 dc9 pm9 an9 cd9 ct9), sl9⟩) (c9 : PySem.W.codeIn K cd9 "_law_many" = true) (k9 : PySem.W.keepIn K (.ref f9) = true)
    {f10 : Addr} {od10 an10 : Option Addr} {sl10 : Array (Option Value)} {oc10 kV10 dc10 pm10 cd10 ct10 : Value}
    (a10 : PySem.W.nsIn K mainGlobals "_law_take" = some (some (.ref f10))) (l10 : K.lookup f10 = some ⟨oc10, od10, .func (PySem.W.fnOf "_law_take" "_law_take" (defArgs s__law_take) (defBody s__law_take) (defScope s__law_take) .none kV10 dc10 pm10 an10 cd10 ct10), sl10⟩) (c10 : PySem.W.codeIn K cd10 "_law_take" = true) (k10 : PySem.W.keepIn K (.ref f10) = true)
    {f11 : Addr} {od11 an11 : Option Addr} {sl11 : Array (Option Value)} {oc11 kV11 dc11 pm11 cd11 ct11 : Value}
    (a11 : PySem.W.nsIn K mainGlobals "_law_is" = some (some (.ref f11))) (l11 : K.lookup f11 = some ⟨oc11, od11, .func (PySem.W.fnOf "_law_is" "_law_is" (defArgs s__law_is) (defBody s__law_is) (defScope s__law_is) .none kV11 dc11 pm11 an11 cd11 ct11), sl11⟩) (c11 : PySem.W.codeIn K cd11 "_law_is" = true) (k11 : PySem.W.keepIn K (.ref f11) = true)
    {f12 : Addr} {od12 an12 : Option Addr} {sl12 : Array (Option Value)} {oc12 kV12 dc12 pm12 cd12 ct12 : Value}
    (a12 : PySem.W.nsIn K mainGlobals "steps_of" = some (some (.ref f12))) (l12 : K.lookup f12 = some ⟨oc12, od12, .func (PySem.W.fnOf "steps_of" "steps_of" (defArgs s_steps_of) (defBody s_steps_of) (defScope s_steps_of) .none kV12 dc12 pm12 an12 cd12 ct12), sl12⟩) (c12 : PySem.W.codeIn K cd12 "steps_of" = true) (k12 : PySem.W.keepIn K (.ref f12) = true)
    {f13 : Addr} {od13 an13 : Option Addr} {sl13 : Array (Option Value)} {oc13 kV13 dc13 pm13 cd13 ct13 : Value}
    (a13 : PySem.W.nsIn K mainGlobals "steps_behind" = some (some (.ref f13))) (l13 : K.lookup f13 = some ⟨oc13, od13, .func (PySem.W.fnOf "steps_behind" "steps_behind" (defArgs s_steps_behind) (defBody s_steps_behind) (defScope s_steps_behind) .none kV13 dc13 pm13 an13 cd13 ct13), sl13⟩) (c13 : PySem.W.codeIn K cd13 "steps_behind" = true) (k13 : PySem.W.keepIn K (.ref f13) = true)
    {f14 : Addr} {od14 an14 : Option Addr} {sl14 : Array (Option Value)} {oc14 kV14 dc14 pm14 cd14 ct14 : Value}
    (a14 : PySem.W.nsIn K mainGlobals "walk_at" = some (some (.ref f14))) (l14 : K.lookup f14 = some ⟨oc14, od14, .func (PySem.W.fnOf "walk_at" "walk_at" (defArgs s_walk_at) (defBody s_walk_at) (defScope s_walk_at) .none kV14 dc14 pm14 an14 cd14 ct14), sl14⟩) (c14 : PySem.W.codeIn K cd14 "walk_at" = true) (k14 : PySem.W.keepIn K (.ref f14) = true)
    {f15 : Addr} {od15 an15 : Option Addr} {sl15 : Array (Option Value)} {oc15 kV15 dc15 pm15 cd15 ct15 : Value}
    (a15 : PySem.W.nsIn K mainGlobals "number_in" = some (some (.ref f15))) (l15 : K.lookup f15 = some ⟨oc15, od15, .func (PySem.W.fnOf "number_in" "number_in" (defArgs s_number_in) (defBody s_number_in) (defScope s_number_in) .none kV15 dc15 pm15 an15 cd15 ct15), sl15⟩) (c15 : PySem.W.codeIn K cd15 "number_in" = true) (k15 : PySem.W.keepIn K (.ref f15) = true)
    {f16 : Addr} {od16 an16 : Option Addr} {sl16 : Array (Option Value)} {oc16 kV16 dc16 pm16 cd16 ct16 : Value}
    (a16 : PySem.W.nsIn K mainGlobals "straightened" = some (some (.ref f16))) (l16 : K.lookup f16 = some ⟨oc16, od16, .func (PySem.W.fnOf "straightened" "straightened" (defArgs s_straightened) (defBody s_straightened) (defScope s_straightened) .none kV16 dc16 pm16 an16 cd16 ct16), sl16⟩) (c16 : PySem.W.codeIn K cd16 "straightened" = true) (k16 : PySem.W.keepIn K (.ref f16) = true)
    {f17 : Addr} {od17 an17 : Option Addr} {sl17 : Array (Option Value)} {oc17 kV17 dc17 pm17 cd17 ct17 : Value}
    (a17 : PySem.W.nsIn K mainGlobals "is_step" = some (some (.ref f17))) (l17 : K.lookup f17 = some ⟨oc17, od17, .func (PySem.W.fnOf "is_step" "is_step" (defArgs s_is_step) (defBody s_is_step) (defScope s_is_step) .none kV17 dc17 pm17 an17 cd17 ct17), sl17⟩) (c17 : PySem.W.codeIn K cd17 "is_step" = true) (k17 : PySem.W.keepIn K (.ref f17) = true)
    {f18 : Addr} {od18 an18 : Option Addr} {sl18 : Array (Option Value)} {oc18 kV18 dc18 pm18 cd18 ct18 : Value}
    (a18 : PySem.W.nsIn K mainGlobals "is_a_walk" = some (some (.ref f18))) (l18 : K.lookup f18 = some ⟨oc18, od18, .func (PySem.W.fnOf "is_a_walk" "is_a_walk" (defArgs s_is_a_walk) (defBody s_is_a_walk) (defScope s_is_a_walk) .none kV18 dc18 pm18 an18 cd18 ct18), sl18⟩) (c18 : PySem.W.codeIn K cd18 "is_a_walk" = true) (k18 : PySem.W.keepIn K (.ref f18) = true)
    {f19 : Addr} {od19 an19 : Option Addr} {sl19 : Array (Option Value)} {oc19 kV19 dc19 pm19 cd19 ct19 : Value}
    (a19 : PySem.W.nsIn K mainGlobals "need_walk" = some (some (.ref f19))) (l19 : K.lookup f19 = some ⟨oc19, od19, .func (PySem.W.fnOf "need_walk" "need_walk" (defArgs s_need_walk) (defBody s_need_walk) (defScope s_need_walk) .none kV19 dc19 pm19 an19 cd19 ct19), sl19⟩) (c19 : PySem.W.codeIn K cd19 "need_walk" = true) (k19 : PySem.W.keepIn K (.ref f19) = true)
    {f20 : Addr} {od20 an20 : Option Addr} {sl20 : Array (Option Value)} {oc20 kV20 dc20 pm20 cd20 ct20 : Value}
    (a20 : PySem.W.nsIn K mainGlobals "next_walk" = some (some (.ref f20))) (l20 : K.lookup f20 = some ⟨oc20, od20, .func (PySem.W.fnOf "next_walk" "next_walk" (defArgs s_next_walk) (defBody s_next_walk) (defScope s_next_walk) .none kV20 dc20 pm20 an20 cd20 ct20), sl20⟩) (c20 : PySem.W.codeIn K cd20 "next_walk" = true) (k20 : PySem.W.keepIn K (.ref f20) = true)
    {f21 : Addr} {od21 an21 : Option Addr} {sl21 : Array (Option Value)} {oc21 kV21 dc21 pm21 cd21 ct21 : Value}
    (a21 : PySem.W.nsIn K mainGlobals "_law_steps" = some (some (.ref f21))) (l21 : K.lookup f21 = some ⟨oc21, od21, .func (PySem.W.fnOf "_law_steps" "_law_steps" (defArgs s__law_steps) (defBody s__law_steps) (defScope s__law_steps) .none kV21 dc21 pm21 an21 cd21 ct21), sl21⟩) (c21 : PySem.W.codeIn K cd21 "_law_steps" = true) (k21 : PySem.W.keepIn K (.ref f21) = true)
    {f22 : Addr} {od22 an22 : Option Addr} {sl22 : Array (Option Value)} {oc22 kV22 dc22 pm22 cd22 ct22 : Value}
    (a22 : PySem.W.nsIn K mainGlobals "_law_least" = some (some (.ref f22))) (l22 : K.lookup f22 = some ⟨oc22, od22, .func (PySem.W.fnOf "_law_least" "_law_least" (defArgs s__law_least) (defBody s__law_least) (defScope s__law_least) .none kV22 dc22 pm22 an22 cd22 ct22), sl22⟩) (c22 : PySem.W.codeIn K cd22 "_law_least" = true) (k22 : PySem.W.keepIn K (.ref f22) = true)
    {f23 : Addr} {od23 an23 : Option Addr} {sl23 : Array (Option Value)} {oc23 kV23 dc23 pm23 cd23 ct23 : Value}
    (a23 : PySem.W.nsIn K mainGlobals "_law_next" = some (some (.ref f23))) (l23 : K.lookup f23 = some ⟨oc23, od23, .func (PySem.W.fnOf "_law_next" "_law_next" (defArgs s__law_next) (defBody s__law_next) (defScope s__law_next) .none kV23 dc23 pm23 an23 cd23 ct23), sl23⟩) (c23 : PySem.W.codeIn K cd23 "_law_next" = true) (k23 : PySem.W.keepIn K (.ref f23) = true)
    {f24 : Addr} {od24 an24 : Option Addr} {sl24 : Array (Option Value)} {oc24 kV24 dc24 pm24 cd24 ct24 : Value}
    (a24 : PySem.W.nsIn K mainGlobals "number_of" = some (some (.ref f24))) (l24 : K.lookup f24 = some ⟨oc24, od24, .func (PySem.W.fnOf "number_of" "number_of" (defArgs s_number_of) (defBody s_number_of) (defScope s_number_of) .none kV24 dc24 pm24 an24 cd24 ct24), sl24⟩) (c24 : PySem.W.codeIn K cd24 "number_of" = true) (k24 : PySem.W.keepIn K (.ref f24) = true)
    {f25 : Addr} {od25 an25 : Option Addr} {sl25 : Array (Option Value)} {oc25 kV25 dc25 pm25 cd25 ct25 : Value}
    (a25 : PySem.W.nsIn K mainGlobals "_law_ahead" = some (some (.ref f25))) (l25 : K.lookup f25 = some ⟨oc25, od25, .func (PySem.W.fnOf "_law_ahead" "_law_ahead" (defArgs s__law_ahead) (defBody s__law_ahead) (defScope s__law_ahead) .none kV25 dc25 pm25 an25 cd25 ct25), sl25⟩) (c25 : PySem.W.codeIn K cd25 "_law_ahead" = true) (k25 : PySem.W.keepIn K (.ref f25) = true)
    {f26 : Addr} {od26 an26 : Option Addr} {sl26 : Array (Option Value)} {oc26 kV26 dc26 pm26 cd26 ct26 : Value}
    (a26 : PySem.W.nsIn K mainGlobals "_law_walked" = some (some (.ref f26))) (l26 : K.lookup f26 = some ⟨oc26, od26, .func (PySem.W.fnOf "_law_walked" "_law_walked" (defArgs s__law_walked) (defBody s__law_walked) (defScope s__law_walked) .none kV26 dc26 pm26 an26 cd26 ct26), sl26⟩) (c26 : PySem.W.codeIn K cd26 "_law_walked" = true) (k26 : PySem.W.keepIn K (.ref f26) = true)
    {f27 : Addr} {od27 an27 : Option Addr} {sl27 : Array (Option Value)} {oc27 kV27 dc27 pm27 cd27 ct27 : Value}
    (a27 : PySem.W.nsIn K mainGlobals "nth_walk" = some (some (.ref f27))) (l27 : K.lookup f27 = some ⟨oc27, od27, .func (PySem.W.fnOf "nth_walk" "nth_walk" (defArgs s_nth_walk) (defBody s_nth_walk) (defScope s_nth_walk) .none kV27 dc27 pm27 an27 cd27 ct27), sl27⟩) (c27 : PySem.W.codeIn K cd27 "nth_walk" = true) (k27 : PySem.W.keepIn K (.ref f27) = true)
    {f28 : Addr} {od28 an28 : Option Addr} {sl28 : Array (Option Value)} {oc28 kV28 dc28 pm28 cd28 ct28 : Value}
    (a28 : PySem.W.nsIn K mainGlobals "_law_joined" = some (some (.ref f28))) (l28 : K.lookup f28 = some ⟨oc28, od28, .func (PySem.W.fnOf "_law_joined" "_law_joined" (defArgs s__law_joined) (defBody s__law_joined) (defScope s__law_joined) .none kV28 dc28 pm28 an28 cd28 ct28), sl28⟩) (c28 : PySem.W.codeIn K cd28 "_law_joined" = true) (k28 : PySem.W.keepIn K (.ref f28) = true)
    {f29 : Addr} {od29 an29 : Option Addr} {sl29 : Array (Option Value)} {oc29 kV29 dc29 pm29 cd29 ct29 : Value}
    (a29 : PySem.W.nsIn K mainGlobals "_law_straight" = some (some (.ref f29))) (l29 : K.lookup f29 = some ⟨oc29, od29, .func (PySem.W.fnOf "_law_straight" "_law_straight" (defArgs s__law_straight) (defBody s__law_straight) (defScope s__law_straight) .none kV29 dc29 pm29 an29 cd29 ct29), sl29⟩) (c29 : PySem.W.codeIn K cd29 "_law_straight" = true) (k29 : PySem.W.keepIn K (.ref f29) = true)
    {f30 : Addr} {od30 an30 : Option Addr} {sl30 : Array (Option Value)} {oc30 kV30 dc30 pm30 cd30 ct30 : Value}
    (a30 : PySem.W.nsIn K mainGlobals "_law_walk" = some (some (.ref f30))) (l30 : K.lookup f30 = some ⟨oc30, od30, .func (PySem.W.fnOf "_law_walk" "_law_walk" (defArgs s__law_walk) (defBody s__law_walk) (defScope s__law_walk) .none kV30 dc30 pm30 an30 cd30 ct30), sl30⟩) (c30 : PySem.W.codeIn K cd30 "_law_walk" = true) (k30 : PySem.W.keepIn K (.ref f30) = true)
    {f31 : Addr} {od31 an31 : Option Addr} {sl31 : Array (Option Value)} {oc31 kV31 dc31 pm31 cd31 ct31 : Value}
    (a31 : PySem.W.nsIn K mainGlobals "_law_all" = some (some (.ref f31))) (l31 : K.lookup f31 = some ⟨oc31, od31, .func (PySem.W.fnOf "_law_all" "_law_all" (defArgs s__law_all) (defBody s__law_all) (defScope s__law_all) .none kV31 dc31 pm31 an31 cd31 ct31), sl31⟩) (c31 : PySem.W.codeIn K cd31 "_law_all" = true) (k31 : PySem.W.keepIn K (.ref f31) = true)
    {f32 : Addr} {od32 an32 : Option Addr} {sl32 : Array (Option Value)} {oc32 kV32 dc32 pm32 cd32 ct32 : Value}
    (a32 : PySem.W.nsIn K mainGlobals "_law_short" = some (some (.ref f32))) (l32 : K.lookup f32 = some ⟨oc32, od32, .func (PySem.W.fnOf "_law_short" "_law_short" (defArgs s__law_short) (defBody s__law_short) (defScope s__law_short) .none kV32 dc32 pm32 an32 cd32 ct32), sl32⟩) (c32 : PySem.W.codeIn K cd32 "_law_short" = true) (k32 : PySem.W.keepIn K (.ref f32) = true)
    {f33 : Addr} {od33 an33 : Option Addr} {sl33 : Array (Option Value)} {oc33 kV33 dc33 pm33 cd33 ct33 : Value}
    (a33 : PySem.W.nsIn K mainGlobals "_law_great" = some (some (.ref f33))) (l33 : K.lookup f33 = some ⟨oc33, od33, .func (PySem.W.fnOf "_law_great" "_law_great" (defArgs s__law_great) (defBody s__law_great) (defScope s__law_great) .none kV33 dc33 pm33 an33 cd33 ct33), sl33⟩) (c33 : PySem.W.codeIn K cd33 "_law_great" = true) (k33 : PySem.W.keepIn K (.ref f33) = true)
    {f34 : Addr} {od34 an34 : Option Addr} {sl34 : Array (Option Value)} {oc34 kV34 dc34 pm34 cd34 ct34 : Value}
    (a34 : PySem.W.nsIn K mainGlobals "_law_right" = some (some (.ref f34))) (l34 : K.lookup f34 = some ⟨oc34, od34, .func (PySem.W.fnOf "_law_right" "_law_right" (defArgs s__law_right) (defBody s__law_right) (defScope s__law_right) .none kV34 dc34 pm34 an34 cd34 ct34), sl34⟩) (c34 : PySem.W.codeIn K cd34 "_law_right" = true) (k34 : PySem.W.keepIn K (.ref f34) = true)
    {f35 : Addr} {od35 an35 : Option Addr} {sl35 : Array (Option Value)} {oc35 kV35 dc35 pm35 cd35 ct35 : Value}
    (a35 : PySem.W.nsIn K mainGlobals "_law_well" = some (some (.ref f35))) (l35 : K.lookup f35 = some ⟨oc35, od35, .func (PySem.W.fnOf "_law_well" "_law_well" (defArgs s__law_well) (defBody s__law_well) (defScope s__law_well) .none kV35 dc35 pm35 an35 cd35 ct35), sl35⟩) (c35 : PySem.W.codeIn K cd35 "_law_well" = true) (k35 : PySem.W.keepIn K (.ref f35) = true)
    {f36 : Addr} {od36 an36 : Option Addr} {sl36 : Array (Option Value)} {oc36 kV36 dc36 pm36 cd36 ct36 : Value}
    (a36 : PySem.W.nsIn K mainGlobals "law" = some (some (.ref f36))) (l36 : K.lookup f36 = some ⟨oc36, od36, .func (PySem.W.fnOf "law" "law" (defArgs s_law) (defBody s_law) (defScope s_law) .none kV36 dc36 pm36 an36 cd36 ct36), sl36⟩) (c36 : PySem.W.codeIn K cd36 "law" = true) (k36 : PySem.W.keepIn K (.ref f36) = true)
    (z0 : PySem.W.nsIn K mainGlobals "abs" = some none)
    (z1 : PySem.W.nsIn K mainGlobals "all" = some none)
    (z2 : PySem.W.nsIn K mainGlobals "bool" = some none)
    (z3 : PySem.W.nsIn K mainGlobals "enumerate" = some none)
    (z4 : PySem.W.nsIn K mainGlobals "int" = some none)
    (z5 : PySem.W.nsIn K mainGlobals "isinstance" = some none)
    (z6 : PySem.W.nsIn K mainGlobals "len" = some none)
    (z7 : PySem.W.nsIn K mainGlobals "max" = some none)
    (z8 : PySem.W.nsIn K mainGlobals "min" = some none)
    (z9 : PySem.W.nsIn K mainGlobals "range" = some none)
    (z10 : PySem.W.nsIn K mainGlobals "sum" = some none)
    (z11 : PySem.W.nsIn K mainGlobals "tuple" = some none)
    {t0 : Tok} (q0 : PySem.W.nsIn K mainGlobals "MOST_LETTERS" = some (some (.int 4 t0)))
    : ∃ fd : FuncData, (∀ (s : Shared) (v : Value), BindsTo s fd ⟨[v], []⟩ [("script", v)]) ∧ ∀ base : Heap, K.In base → base.Ns mainGlobals mg → FnOk l.prog w K mg base CX0 8 fa fd ["script"] (spD K 1 m_law) := by
  have e := hfa.symm.trans (PySem.W.mg_of X G a36)
  cases e
  refine ⟨PySem.W.fnOf "law" "law" (defArgs s_law) (defBody s_law) (defScope s_law) .none kV36 dc36 pm36 an36 cd36 ct36, fun s v => .of_eq rfl, fun base _ _ => ?_⟩
  have T : Tx ⟨l.prog, w, K, mg, base⟩ := {
    b_abs := PySem.W.mg_none_of X G z0
    b_all := PySem.W.mg_none_of X G z1
    b_bool := PySem.W.mg_none_of X G z2
    b_enumerate := PySem.W.mg_none_of X G z3
    b_int := PySem.W.mg_none_of X G z4
    b_isinstance := PySem.W.mg_none_of X G z5
    b_len := PySem.W.mg_none_of X G z6
    b_max := PySem.W.mg_none_of X G z7
    b_min := PySem.W.mg_none_of X G z8
    b_range := PySem.W.mg_none_of X G z9
    b_sum := PySem.W.mg_none_of X G z10
    b_tuple := PySem.W.mg_none_of X G z11
    k_MOST_LETTERS := ⟨_, PySem.W.mg_of X G q0⟩
    f__law_number := ⟨_, _, PySem.W.mg_of X G a0, fun_mk (st := s__law_number) l0 c0 k0⟩
    f_walks_behind := ⟨_, _, PySem.W.mg_of X G a1, fun_mk (st := s_walks_behind) l1 c1 k1⟩
    f_walks_of := ⟨_, _, PySem.W.mg_of X G a2, fun_mk (st := s_walks_of) l2 c2 k2⟩
    f_need_number := ⟨_, _, PySem.W.mg_of X G a3, fun_mk (st := s_need_number) l3 c3 k3⟩
    f_is_integer := ⟨_, _, PySem.W.mg_of X G a4, fun_mk (st := s_is_integer) l4 c4 k4⟩
    f_is_letters := ⟨_, _, PySem.W.mg_of X G a5, fun_mk (st := s_is_letters) l5 c5 k5⟩
    f_need_letters := ⟨_, _, PySem.W.mg_of X G a6, fun_mk (st := s_need_letters) l6 c6 k6⟩
    f_how_many := ⟨_, _, PySem.W.mg_of X G a7, fun_mk (st := s_how_many) l7 c7 k7⟩
    f__law_times := ⟨_, _, PySem.W.mg_of X G a8, fun_mk (st := s__law_times) l8 c8 k8⟩
    f__law_many := ⟨_, _, PySem.W.mg_of X G a9, fun_mk (st := s__law_many) l9 c9 k9⟩
    f__law_take := ⟨_, _, PySem.W.mg_of X G a10, fun_mk (st := s__law_take) l10 c10 k10⟩
    f__law_is := ⟨_, _, PySem.W.mg_of X G a11, fun_mk (st := s__law_is) l11 c11 k11⟩
    f_steps_of := ⟨_, _, PySem.W.mg_of X G a12, fun_mk (st := s_steps_of) l12 c12 k12⟩
    f_steps_behind := ⟨_, _, PySem.W.mg_of X G a13, fun_mk (st := s_steps_behind) l13 c13 k13⟩
    f_walk_at := ⟨_, _, PySem.W.mg_of X G a14, fun_mk (st := s_walk_at) l14 c14 k14⟩
    f_number_in := ⟨_, _, PySem.W.mg_of X G a15, fun_mk (st := s_number_in) l15 c15 k15⟩
    f_straightened := ⟨_, _, PySem.W.mg_of X G a16, fun_mk (st := s_straightened) l16 c16 k16⟩
    f_is_step := ⟨_, _, PySem.W.mg_of X G a17, fun_mk (st := s_is_step) l17 c17 k17⟩
    f_is_a_walk := ⟨_, _, PySem.W.mg_of X G a18, fun_mk (st := s_is_a_walk) l18 c18 k18⟩
    f_need_walk := ⟨_, _, PySem.W.mg_of X G a19, fun_mk (st := s_need_walk) l19 c19 k19⟩
    f_next_walk := ⟨_, _, PySem.W.mg_of X G a20, fun_mk (st := s_next_walk) l20 c20 k20⟩
    f__law_steps := ⟨_, _, PySem.W.mg_of X G a21, fun_mk (st := s__law_steps) l21 c21 k21⟩
    f__law_least := ⟨_, _, PySem.W.mg_of X G a22, fun_mk (st := s__law_least) l22 c22 k22⟩
    f__law_next := ⟨_, _, PySem.W.mg_of X G a23, fun_mk (st := s__law_next) l23 c23 k23⟩
    f_number_of := ⟨_, _, PySem.W.mg_of X G a24, fun_mk (st := s_number_of) l24 c24 k24⟩
    f__law_ahead := ⟨_, _, PySem.W.mg_of X G a25, fun_mk (st := s__law_ahead) l25 c25 k25⟩
    f__law_walked := ⟨_, _, PySem.W.mg_of X G a26, fun_mk (st := s__law_walked) l26 c26 k26⟩
    f_nth_walk := ⟨_, _, PySem.W.mg_of X G a27, fun_mk (st := s_nth_walk) l27 c27 k27⟩
    f__law_joined := ⟨_, _, PySem.W.mg_of X G a28, fun_mk (st := s__law_joined) l28 c28 k28⟩
    f__law_straight := ⟨_, _, PySem.W.mg_of X G a29, fun_mk (st := s__law_straight) l29 c29 k29⟩
    f__law_walk := ⟨_, _, PySem.W.mg_of X G a30, fun_mk (st := s__law_walk) l30 c30 k30⟩
    f__law_all := ⟨_, _, PySem.W.mg_of X G a31, fun_mk (st := s__law_all) l31 c31 k31⟩
    f__law_short := ⟨_, _, PySem.W.mg_of X G a32, fun_mk (st := s__law_short) l32 c32 k32⟩
    f__law_great := ⟨_, _, PySem.W.mg_of X G a33, fun_mk (st := s__law_great) l33 c33 k33⟩
    f__law_right := ⟨_, _, PySem.W.mg_of X G a34, fun_mk (st := s__law_right) l34 c34 k34⟩
    f__law_well := ⟨_, _, PySem.W.mg_of X G a35, fun_mk (st := s__law_well) l35 c35 k35⟩
    f_law := ⟨_, _, PySem.W.mg_of X G a36, fun_mk (st := s_law) l36 c36 k36⟩
  }
  exact ok_law T (fun_mk (st := s_law) l36 c36 k36)
end K01

namespace K01
open PySem Cs
theorem run_straightened (w : List Int) (s : Sto) (hw : w.length ≤ 100000) : Ev (m_straightened [tw w] s) s (tw (red w)) := by
  refine Exists.elim (forIts_inv (b := bodyF (gVar 2) b_straightened_1)
    (fun k env s' => (∃ z, env = [some (tw w), some (.ref s.n), z]) ∧ s'.get s.n = some (.lst ((((w.take k).foldl push []).reverse).map .int)) ∧ Le s s')
    (w.map .int) 0 [some (tw w), some (.ref s.n), none] (s.add (.lst []))
    ⟨⟨none, rfl⟩, by rw [get_add_same]; rfl, .add _ _⟩ ?step) ?rest
  case rest =>
    rintro env ⟨s', e, ⟨z, rfl⟩, hg, hl⟩
    refine ⟨s', ?_, hl⟩
    have e2 : (w.map D.int).length = w.length := by simp
    rw [e2, Nat.zero_add, List.take_length] at hg
    simp [m_straightened, b_straightened, fnB_eq, newL_ok', e, tuple_r _ hg, red, redS]
  case step =>
    rintro i x env s1 hx ⟨⟨z, rfl⟩, hg, hl⟩
    obtain ⟨n, hn, rfl⟩ := map_at hx
    rw [Nat.zero_add] at hg ⊢
    have hlen := foldl_push_len (w.take i) []
    rw [take_fold push [] hn]
    generalize (w.take i).foldl push [] = st at hg hlen ⊢
    have hst : st.length < sizeLine := by
      rw [size_eq]
      simp only [List.length_nil, List.length_take] at hlen
      omega
    cases st with
    | nil =>
      exact ⟨[some (tw w), some (.ref s.n), some (.int n)], _, .inl (by simp [b_straightened_1, len_r _ hg, isL_r _ hg, append_r _ hg, size_eq]; rfl), ⟨_, rfl⟩, by rw [get_set_same]; rfl, hl.set (Nat.le_refl _) _⟩
    | cons y r =>
      rw [List.reverse_cons, List.map_append] at hg
      rw [push_cons]
      by_cases hy : y = -n
      · rw [if_pos hy]
        exact ⟨[some (tw w), some (.ref s.n), some (.int n)], _, .inl (by simp [b_straightened_1, len_r _ hg, isL_r _ hg, ix_r _ hg, atI_last', hy, pop_r _ (show s1.get s.n = some (.lst (r.reverse.map D.int ++ [.int y])) from hg)]; rfl), ⟨_, rfl⟩, by rw [get_set_same, List.map_reverse], hl.set (Nat.le_refl _) _⟩
      · rw [if_neg hy]
        exact ⟨[some (tw w), some (.ref s.n), some (.int n)], _, .inl (by
          simp only [List.length_cons] at hst
          simp [b_straightened_1, len_r _ hg, isL_r _ hg, ix_r _ hg, atI_last', hy, append_r _ hg, hst]; rfl), ⟨_, rfl⟩, by rw [get_set_same]; simp, hl.set (Nat.le_refl _) _⟩
theorem run_is_integer (i : Int) (s : Sto) : m_is_integer [.int i] s = .ok (.bl true) s := by
  simp [m_is_integer, b_is_integer, fnB_eq, isiD, mapO, isTy]
theorem run_is_step (i l : Int) (s : Sto) : m_is_step [.int i, .int l] s = .ok (.bl (decide (1 ≤ i.natAbs ∧ (i.natAbs : Int) ≤ l))) s := by
  have e : (if i < 0 then -i else i) = (i.natAbs : Int) := by split <;> omega
  simp [m_is_step, b_is_step, fnB_eq, run_is_integer, e]
  by_cases h : 1 ≤ (i.natAbs : Int)
  · simp [h]; omega
  · simp [h]; omega
theorem getD_at {w : List Int} {i : Nat} (h : i < w.length) : w[i]? = some (w.getD i 0) := by
  rw [List.getD_eq_getElem?_getD, List.getElem?_eq_getElem h]; rfl
theorem join_push : ∀ (k : Nat) (ru v : List Int), Rdc ru → Rdc v → k ≤ ru.length → k ≤ v.length → (∀ i, i < k → ru.getD i 0 = -(v.getD i 0)) →
    ¬ (k < ru.length ∧ k < v.length ∧ ru.getD k 0 = -(v.getD k 0)) → v.foldl push ru = (v.drop k).reverse ++ ru.drop k := by
  intro k
  induction k with
  | zero =>
    intro ru v hr hv _ _ _ hn
    rw [List.drop_zero, List.drop_zero]
    refine foldl_push_str v ru ?_
    have gen : ∀ (w r : List Int), Rdc w → Rdc r → (∀ x y, w.head? = some x → r.head? = some y → x ≠ -y) → Rdc (w.reverse ++ r) := by
      intro w
      induction w with
      | nil => intro r _ hr _; exact hr
      | cons x w ih =>
        intro r hw hr hj
        rw [List.reverse_cons, List.append_assoc]
        refine ih (x :: r) hw.tail ?_ ?_
        · cases r with
          | nil => trivial
          | cons y r => exact ⟨hj x y rfl rfl, hr⟩
        · intro a b ha hb
          cases w with
          | nil => cases ha
          | cons z w =>
            have e1 : z = a := Option.some.inj ha
            have e2 : x = b := Option.some.inj hb
            subst e1 e2
            have := hw.1
            omega
    refine gen v ru hv hr fun x y hx hy q => hn ?_
    cases v with
    | nil => cases hx
    | cons a v =>
      cases ru with
      | nil => cases hy
      | cons b ru =>
        have e1 : a = x := Option.some.inj hx
        have e2 : b = y := Option.some.inj hy
        subst e1 e2
        exact ⟨by simp, by simp, by simp; omega⟩
  | succ k ih =>
    intro ru v hr hv h1 h2 hm hn
    cases ru with
    | nil => simp at h1
    | cons y ru =>
      cases v with
      | nil => simp at h2
      | cons x v =>
        have h0 := hm 0 (by omega)
        have e : y = -x := by simpa using h0
        rw [List.foldl_cons, push_cons, if_pos e, List.drop_succ_cons, List.drop_succ_cons]
        refine ih ru v hr.tail hv.tail (by simpa using h1) (by simpa using h2) (fun i hi => by simpa using hm (i + 1) (by omega)) fun q => hn ?_
        simpa using q
theorem run_law_joined (u v : List Int) (s : Sto) (hu : Rdc u) (hv : Rdc v) (h1 : u.length ≤ 100000) (h2 : v.length ≤ 100000) : m__law_joined [tw u, tw v] s = .ok (tw (v.foldl push u.reverse).reverse) s := by
  refine Exists.elim (whl_inv (c := c__law_joined_1) (b := b__law_joined_1)
    (fun env s' => s' = s ∧ ∃ k : Nat, k ≤ u.length ∧ k ≤ v.length ∧ (∀ i, i < k → u.reverse.getD i 0 = -(v.getD i 0)) ∧ env = [some (tw u), some (tw v), some (.int k)])
    (fun env s' => s' = s ∧ ∃ k : Nat, k ≤ u.length ∧ k ≤ v.length ∧ (∀ i, i < k → u.reverse.getD i 0 = -(v.getD i 0)) ∧ ¬ (k < u.length ∧ k < v.length ∧ u.reverse.getD k 0 = -(v.getD k 0)) ∧ env = [some (tw u), some (tw v), some (.int k)])
    (fun env => match env with | [_, _, some (.int k)] => u.length - k.toNat | _ => 0) 1000000
    [some (tw u), some (tw v), some (.int 0)] s ⟨rfl, 0, by omega, by omega, fun _ h => absurd h (by omega), rfl⟩ (by show u.length - (0 : Int).toNat < 1000000; omega) ?step) ?rest
  case rest =>
    rintro env ⟨s', e, rfl, k, a1, a2, a3, a4, rfl⟩
    have ej := join_push k u.reverse v hu.rev hv (by simpa using a1) a2 a3 (by simpa using a4)
    have el : (v.foldl push u.reverse).reverse = u.take (u.length - k) ++ v.drop k := by
      rw [ej, List.reverse_append, List.reverse_reverse, List.drop_reverse, List.reverse_reverse]
    rw [el]
    simp [-List.map_take, -List.map_drop, m__law_joined, b__law_joined, fnB_eq, sWhl, e, cut_map, cut_to (w := u) (k := u.length - k) (show ((u.length : Int) - k) = ((u.length - k : Nat) : Int) by omega), cut_from (w := v) (k := k) rfl, size_eq]
    rw [if_pos (by omega)]
    simp
  case step =>
    rintro env s1 ⟨rfl, k, a1, a2, a3, rfl⟩
    by_cases c1 : k < u.length
    · by_cases c2 : k < v.length
      · have e1 : L2.atI (u.map D.int) ((u.length : Int) - 1 - k) = some (.int (u.getD (u.length - 1 - k) 0)) := atI_at (by omega) (getD_at (by omega))
        have e2 : L2.atI (v.map D.int) (k : Int) = some (.int (v.getD k 0)) := atI_at rfl (getD_at c2)
        have er : u.reverse.getD k 0 = u.getD (u.length - 1 - k) 0 := by
          rw [List.getD_eq_getElem?_getD, List.getD_eq_getElem?_getD, List.getElem?_reverse c1]
        by_cases c3 : u.getD (u.length - 1 - k) 0 = -(v.getD k 0)
        · refine .inr ⟨s1, [some (tw u), some (tw v), some (.int ((k + 1 : Nat) : Int))], s1, ?_, .inl (by simp [b__law_joined_1]), ⟨rfl, k + 1, by omega, by omega, fun i hi => ?_, rfl⟩, ?_⟩
          · simp [c__law_joined_1, e1, e2, c1, c2]; simpa [c2] using c3
          · by_cases q : i = k
            · subst q; rw [er]; exact c3
            · exact a3 i (by omega)
          · show u.length - (((k + 1 : Nat) : Int)).toNat < u.length - ((k : Int)).toNat
            omega
        · refine .inl ⟨s1, ?_, rfl, k, a1, a2, a3, fun q => c3 (by rw [← er]; exact q.2.2), rfl⟩
          simp [c__law_joined_1, e1, e2, c1, c2]; simpa [c2] using c3
      · refine .inl ⟨s1, ?_, rfl, k, a1, a2, a3, fun q => c2 q.2.1, rfl⟩
        simp [c__law_joined_1, c1, c2]
    · refine .inl ⟨s1, ?_, rfl, k, a1, a2, a3, fun q => c1 q.1, rfl⟩
      simp [c__law_joined_1, c1]
theorem red_take {w : List Int} {i : Nat} {n : Int} (h : w[i]? = some n) : red (w.take (i + 1)) = (push (red (w.take i)).reverse n).reverse := by
  unfold red redS
  rw [take_fold push [] h, List.reverse_reverse]
theorem run_law_straight (w : List Int) (s : Sto) (hw : w.length ≤ 100000) : m__law_straight [tw w] s = .ok (tw (red w)) s := by
  refine Exists.elim (forIts_inv (b := bodyF (gVar 2) b__law_straight_1)
    (fun k env s' => s' = s ∧ ∃ z, env = [some (tw w), some (tw (red (w.take k))), z])
    (w.map .int) 0 [some (tw w), some (tw []), none] s ⟨rfl, none, rfl⟩ ?step) ?rest
  case rest =>
    rintro env ⟨s', e, rfl, z, rfl⟩
    have e2 : (w.map D.int).length = w.length := by simp
    rw [e2, Nat.zero_add, List.take_length] at e
    have e : forIts (bodyF (gVar 2) b__law_straight_1) (w.map D.int) [some (tw w), some (.tup []), none] s' = _ := e
    simp [m__law_straight, b__law_straight, fnB_eq, e]
  case step =>
    rintro i x env s1 hx ⟨rfl, z, rfl⟩
    obtain ⟨n, hn, rfl⟩ := map_at hx
    rw [Nat.zero_add]
    have hl : (red (w.take i)).length ≤ 100000 := by
      have := red_len (w.take i)
      simp only [List.length_take] at this
      omega
    have ej := run_law_joined (red (w.take i)) [n] s1 (red_str _) trivial hl (by simp)
    refine ⟨[some (tw w), some (tw (red (w.take (i + 1)))), some (.int n)], s1, .inl ?_, rfl, _, rfl⟩
    rw [red_take hn]
    have ej : m__law_joined [tw (red (w.take i)), .tup [.int n]] s1 = _ := ej
    simp [-List.map_reverse, b__law_straight_1, ej, size_eq]
/-- a walk of L letters -/
def WkL (L : Int) (w : List Int) : Prop := ∀ x ∈ w, x ≠ 0 ∧ (x.natAbs : Int) ≤ L
theorem run_is_a_walk {L : Int} (w : List Int) (s : Sto) (hw : w.length ≤ 100000) (h : WkL L w) : Ev (m_is_a_walk [tw w, .int L] s) s (.bl true) := by
  obtain ⟨s1, e, l⟩ := goIts_map (f := turnC (gVar 2) none e_is_a_walk_1 [some (tw w), some (.int L), none]) (fun d => .bl true) (w.map .int) s fun x hx s' hl => by
    obtain ⟨i, hi, rfl⟩ := List.mem_map.mp hx
    have := h i hi
    refine ⟨s', ?_, .refl _⟩
    simp [e_is_a_walk_1, run_is_step]
    omega
  have e2 : ((w.map D.int).map fun _ => D.bl true) = (w.map fun _ => true).map D.bl := by simp
  rw [e2] at e
  have hz : ((w.map fun _ => true).map D.bl).length ≤ sizeLine := by simp [size_eq]; omega
  refine ⟨s1.add (.lst ((w.map fun _ => true).map D.bl)), ?_, l.trans (.add _ _)⟩
  simp only [m_is_a_walk, b_is_a_walk, fnB_eq]
  simp [-List.map_map, isiD, mapO, isTy, goWk_its, e, newL_ok' _ hz, all_r _ (get_add_same s1 _)]
theorem run_need_walk {L : Int} (w : List Int) (s : Sto) (hw : w.length ≤ 100000) (h : WkL L w) : Ev (m_need_walk [tw w, .int L] s) s .non := by
  obtain ⟨s1, e, l⟩ := run_is_a_walk w s hw h
  exact ⟨s1, by simp [m_need_walk, b_need_walk, fnB_eq, e], l⟩
structure Well (s : Sto) (j : Nat) (c : Nat) : Prop where
  lt : j < s.n
  ex : ∃ (a b : Int) (k : Nat), s.get j = some (.lst [.int a, .int b, .int k]) ∧ b.natAbs < 2 ^ 110 ∧ k ≤ c
structure LeW (j : Nat) (s s' : Sto) : Prop where
  n : s.n ≤ s'.n
  get : ∀ i, i < s.n → i ≠ j → s'.get i = s.get i
theorem LeW.refl (j : Nat) (s : Sto) : LeW j s s := ⟨Nat.le_refl _, fun _ _ _ => rfl⟩
theorem LeW.trans {j : Nat} {s s1 s2 : Sto} (a : LeW j s s1) (b : LeW j s1 s2) : LeW j s s2 := ⟨Nat.le_trans a.n b.n, fun i h q => (b.get i (Nat.lt_of_lt_of_le h a.n) q).trans (a.get i h q)⟩
theorem LeW.of {j : Nat} {s s' : Sto} (a : Le s s') : LeW j s s' := ⟨a.n, fun i h _ => a.get i h⟩
theorem LeW.set {j : Nat} (s : Sto) (o : O) : LeW j s (s.set j o) := ⟨Nat.le_refl _, fun i _ q => get_set_ne q⟩
theorem Well.le {s s' : Sto} {j c : Nat} (h : Well s j c) (l : Le s s') : Well s' j c := ⟨Nat.lt_of_lt_of_le h.lt l.n, let ⟨a, b, k, e, q⟩ := h.ex; ⟨a, b, k, by rw [l.get j h.lt]; exact e, q⟩⟩
theorem Well.up {s : Sto} {j c c' : Nat} (h : Well s j c) (l : c ≤ c') : Well s j c' := ⟨h.lt, let ⟨a, b, k, e, q, r⟩ := h.ex; ⟨a, b, k, e, q, by omega⟩⟩
theorem mod_pos {a m : Int} (h : 0 < m) : 0 ≤ a % m ∧ a % m < m := ⟨Int.emod_nonneg _ (by omega), Int.emod_lt_of_pos _ h⟩
theorem run_law_take (j c : Nat) (m : Int) (s : Sto) (h : Well s j c) (hm : 0 < m) (hm2 : m < 2 ^ 200) (hc : c < 2 ^ 64) :
    ∃ d s', m__law_take [.ref j, .int m] s = .ok (.int d) s' ∧ 0 ≤ d ∧ d < m ∧ Well s' j (c + 1) ∧ LeW j s s' := by
  obtain ⟨a, b, k, e, hb, hk⟩ := h.ex
  have i0 : ixD (.ref j) (.int 0) s = .ok (.int a) s := by rw [ix_r _ e]; rfl
  by_cases ha : 0 < a
  · refine ⟨a % m, s.set j (.lst [.int (a / m), .int b, .int k]), ?_, (mod_pos hm).1, (mod_pos hm).2, ⟨h.lt, _, _, _, get_set_same _ _ _, hb, by omega⟩, .set _ _⟩
    have st : setD (.ref j) (.int 0) (.int (a / m)) s = .ok () (s.set j (.lst [.int (a / m), .int b, .int k])) := set_r _ e (k := 0) rfl _
    have hl : m.natAbs < lim4 := lim_lt (by omega)
    simp [m__law_take, b__law_take, fnB_eq, i0, ha, hm, hl, st]
  · have st : setD (.ref j) (.int 2) (.int ((k : Int) + 1)) s = .ok () (s.set j (.lst [.int a, .int b, .int ((k : Int) + 1)])) := set_r _ e (k := 2) rfl _
    have i2 : ixD (.ref j) (.int 2) s = .ok (.int k) s := by rw [ix_r _ e]; rfl
    have g : (s.set j (.lst [.int a, .int b, .int ((k : Int) + 1)])).get j = some (.lst [.int a, .int b, .int ((k : Int) + 1)]) := get_set_same _ _ _
    have w1 : ixD (.ref j) (.int 1) (s.set j (.lst [.int a, .int b, .int ((k : Int) + 1)])) = .ok (.int b) (s.set j (.lst [.int a, .int b, .int ((k : Int) + 1)])) := by rw [ix_r _ g]; rfl
    have w2 : ixD (.ref j) (.int 2) (s.set j (.lst [.int a, .int b, .int ((k : Int) + 1)])) = .ok (.int ((k : Int) + 1)) (s.set j (.lst [.int a, .int b, .int ((k : Int) + 1)])) := by rw [ix_r _ g]; rfl
    generalize hs2 : s.set j (.lst [.int a, .int b, .int ((k : Int) + 1)]) = s2 at *
    have m1 : ∀ x : Int, mulOk 314159 x = true := fun x => mulOk_l (by decide)
    have m2 : ∀ x : Int, mulOk 2718281 x = true := fun x => mulOk_l (by decide)
    have hp : (b + 314159 * ((k : Int) + 1)).natAbs < lim4 := lim_lt (by omega)
    have m3 : ∀ y : Int, mulOk (y % 1000000000000000000000000000000073) (y % 1000000000000000000000000000000073 + 40503) = true := fun y => mulOk_b (by omega) (by omega)
    have ex : ∃ q : Int, m__law_take [.ref j, .int m] s = .ok (.int (q % m)) s2 := by
      refine ⟨?q, ?h⟩
      case h =>
        simp [m__law_take, b__law_take, fnB_eq, i0, ha, hm, st, i2, w1, w2, m1, m2, hp, m3]
        rfl
    obtain ⟨q, eq⟩ := ex
    exact ⟨q % m, s2, eq, (mod_pos hm).1, (mod_pos hm).2, ⟨by rw [← hs2]; exact h.lt, a, b, k + 1, g, hb, by omega⟩, by rw [← hs2]; exact .set _ _⟩
theorem eqv_bl (a : Int) (s : Sto) : eqD (.int a) (.int 0) s = .ok (.bl (a == 0)) s := eqD_ii a 0 s
theorem run_law_is (w : List Int) (s : Sto) (hw : w.length ≤ 100000) : Ev (m__law_is [tw w, tw w] s) s (.bl true) := by
  obtain ⟨s1, e, l⟩ := goIts_map (f := turnC (gVar 2) none e__law_is_1 [some (tw w), some (tw w), none]) (fun d => .bl true) (w.map .int) s fun x hx s' hl => by
    obtain ⟨i, hi, rfl⟩ := List.mem_map.mp hx
    refine ⟨s', ?_, .refl _⟩
    simp [e__law_is_1, isiD, mapO, isTy]
  have e2 : ((w.map D.int).map fun _ => D.bl true) = (w.map fun _ => true).map D.bl := by simp
  rw [e2] at e
  have hz : ((w.map fun _ => true).map D.bl).length ≤ sizeLine := by simp [size_eq]; omega
  refine ⟨s1.add (.lst ((w.map fun _ => true).map D.bl)), ?_, l.trans (.add _ _)⟩
  simp only [m__law_is, b__law_is, fnB_eq]
  simp [-List.map_map, isiD, mapO, isTy, neD_tw, goWk_its, e, newL_ok' _ hz, all_r _ (get_add_same s1 _)]
theorem run_steps (j c : Nat) (L : Int) (k : Nat) (env : Cs.Env) (s : Sto) (h : Well s j c) (h1 : 1 ≤ L) (h2 : L ≤ 4) (hc : c + 2 * k < 2 ^ 63)
    (e0 : env[0]? = some (some (.ref j))) (e1 : env[1]? = some (some (.int L))) (hk : k ≤ 1000) :
    ∃ w s', goIts (turnC (gVar 6) none e__law_walk_1 env) (rgD 0 k) s = .ok (w.map .int) s' ∧ WkL L w ∧ w.length = k ∧ Well s' j (c + 2 * k) ∧ LeW j s s' := by
  have len : (rgD 0 k).length = k := by simp [rgD]
  have key := goIts_inv (f := turnC (gVar 6) none e__law_walk_1 env)
    (fun k acc s' => ∃ w : List Int, acc = w.map .int ∧ WkL L w ∧ w.length = k ∧ Well s' j (c + 2 * k) ∧ LeW j s s')
    (rgD 0 k) 0 [] s ⟨[], rfl, (fun _ q => nomatch q), rfl, h, .refl _ _⟩ (by
      rintro i x acc s1 hx ⟨w, rfl, hw, hl, hwell, hle⟩
      obtain ⟨hi, rfl⟩ := rgD_at hx
      rw [Nat.zero_add] at *
      obtain ⟨d1, s2, f1, a1, b1, w1, l1⟩ := run_law_take j _ L s1 hwell (by omega) (by omega) (by omega)
      obtain ⟨d2, s3, f2, a2, b2, w2, l2⟩ := run_law_take j _ 2 s2 w1 (by omega) (by omega) (by omega)
      have m1 : ∀ x : Int, mulOk 2 x = true := fun x => mulOk_l (by decide)
      have m2 : mulOk (1 + d1) (1 - 2 * d2) = true := mulOk_l (by omega)
      have g0 : (env.set 6 (some (.int ((i : Nat) : Int))))[0]? = some (some (.ref j)) := by
        rw [List.getElem?_set_ne (by decide)]; exact e0
      have g1 : (env.set 6 (some (.int ((i : Nat) : Int))))[1]? = some (some (.int L)) := by
        rw [List.getElem?_set_ne (by decide)]; exact e1
      refine ⟨some (.int ((1 + d1) * (1 - 2 * d2))), s3, ?_, w ++ [(1 + d1) * (1 - 2 * d2)], ?_, ?_, ?_, ?_, (hle.trans l1).trans l2⟩
      · simp [e__law_walk_1, g0, g1, f1, f2, m1, m2]
      · simp [conO]
      · intro y hy
        rcases List.mem_append.mp hy with hy | hy
        · exact hw y hy
        · have : y = (1 + d1) * (1 - 2 * d2) := by simpa using hy
          subst this
          have : d2 = 0 ∨ d2 = 1 := by omega
          rcases this with rfl | rfl
          · omega
          · omega
      · simp [hl]
      · exact w2.up (by omega))
  obtain ⟨ys, s', e, w, hy, hw, hl, hwell, hle⟩ := key
  rw [len, Nat.zero_add] at *
  rw [List.nil_append] at hy
  subst hy
  exact ⟨w, s', e, hw, hl, hwell, hle⟩
theorem WkL.take {L : Int} {w : List Int} (h : WkL L w) (n : Nat) : WkL L (w.take n) := fun x hx => h x (List.mem_of_mem_take hx)
theorem WkL.drop {L : Int} {w : List Int} (h : WkL L w) (n : Nat) : WkL L (w.drop n) := fun x hx => h x (List.mem_of_mem_drop hx)
theorem WkL.app {L : Int} {u v : List Int} (h : WkL L u) (g : WkL L v) : WkL L (u ++ v) := fun x hx => (List.mem_append.mp hx).elim (h x) (g x)
theorem WkL.bk {L : Int} {w : List Int} (h : WkL L w) : WkL L (Cs.bk w) := by
  intro x hx
  obtain ⟨y, hy, rfl⟩ := List.mem_map.mp (List.mem_reverse.mp hx)
  have := h y hy
  omega
theorem WkL.rp {L : Int} {w : List Int} (h : WkL L w) (t : Nat) : WkL L (List.replicate t w).flatten := by
  intro x hx
  obtain ⟨l, q1, q2⟩ := List.mem_flatten.mp hx
  exact h x ((List.eq_of_mem_replicate q1) ▸ q2)
theorem rep_len (t : Nat) (w : List Int) : ((List.replicate t w).flatten).length = t * w.length := by simp
theorem run_law_walk (j c : Nat) (L : Int) (M : Nat) (s : Sto) (h : Well s j c) (h1 : 1 ≤ L) (h2 : L ≤ 4) (hM : M ≤ 60) (hc : c < 2 ^ 60) :
    ∃ w s', m__law_walk [.ref j, .int L, .int M] s = .ok (tw w) s' ∧ WkL L w ∧ w.length ≤ M ∧ Well s' j (c + 200) ∧ LeW j s s' := by
  obtain ⟨d1, s1, f1, a1, b1, w1, l1⟩ := run_law_take j _ 4 s h (by omega) (by omega) (by omega)
  obtain ⟨d2, s2, f2, a2, b2, w2, l2⟩ := run_law_take j _ ((M : Int) + 1) s1 w1 (by omega) (by omega) (by omega)
  have w2' := w2.le (.add s2 (.lst [.int d2, .int M]))
  obtain ⟨d3, s3, f3, a3, b3, w3, l3⟩ := run_law_take j _ 6 (s2.add (.lst [.int d2, .int M])) w2' (by omega) (by omega) (by omega)
  have g3 : s3.get s2.n = some (.lst [.int d2, .int M]) := by
    rw [l3.get _ (Nat.lt_succ_self _) (fun q => absurd w2.lt (by omega)), get_add_same]
  have L3 : LeW j s s3 := ((l1.trans l2).trans (.of (.add _ _))).trans l3
  have hn2 : [D.int d2, D.int M].length ≤ sizeLine := by rw [size_eq]; simp
  have hn2' := newL_ok' s2 hn2
  obtain ⟨k, hk, e3⟩ : ∃ k : Nat, k ≤ M ∧ ixD (.ref s2.n) (.int (if d3 = 0 then 1 else 0)) s3 = .ok (.int (k : Int)) s3 := by
    rw [ix_r _ g3]
    by_cases q : d3 = 0
    · rw [if_pos q]; exact ⟨M, Nat.le_refl _, rfl⟩
    · rw [if_neg q]; exact ⟨d2.toNat, by omega, by
        show okO (some (.int d2)) s3 = _
        rw [show ((d2.toNat : Nat) : Int) = d2 by omega]; rfl⟩
  obtain ⟨w, s4, f4, hw, hl, w4, l4⟩ := run_steps j _ L k [some (.ref j), some (.int L), some (.int M), some (.int d1), some (.int k), none, none, none, none] s3 w3 h1 h2 (by omega) rfl rfl (by omega)
  have bk1 : bigI (k : Int) = true := bigI_of (by omega)
  have L4 := L3.trans l4
  have hnw : (w.map D.int).length ≤ sizeLine := by rw [List.length_map, size_eq]; omega
  have n4 := newL_ok' s4 hnw
  generalize hs5 : s4.add (.lst (w.map .int)) = s5 at *
  have g5 : s5.get s4.n = some (.lst (w.map .int)) := by rw [← hs5, get_add_same]
  have w5 : Well s5 j (c + 1 + 1 + 1 + 2 * k) := by rw [← hs5]; exact w4.le (.add _ _)
  have L5 : LeW j s s5 := by rw [← hs5]; exact L4.trans (.of (.add _ _))
  have q0 : d1 = 0 ∨ d1 = 1 ∨ d1 = 2 ∨ d1 = 3 := by omega
  rcases q0 with rfl | rfl | rfl | rfl
  · refine ⟨w, s5, ?_, hw, by omega, w5.up (by omega), L5⟩
    simp [m__law_walk, b__law_walk, fnB_eq, f1, f2, hn2', f3, e3, bk1, goWk_its, f4, n4, tuple_r _ g5]
  · obtain ⟨d6, s6, f6, a6, b6, w6, l6⟩ := run_law_take j _ 4 s5 w5 (by omega) (by omega) (by omega)
    have c1 : cutI w none (some (1 + d6)) = w.take (1 + d6).toNat := cut_to (by omega)
    have g6 : s6.get s4.n = some (.lst (w.map .int)) := by
      rw [l6.get _ (by rw [← hs5]; exact Nat.lt_succ_self _) (fun q => absurd w4.lt (by omega)), g5]
    have hz : (w.take (1 + d6).toNat).length ≤ 4 := by rw [List.length_take]; omega
    generalize hv : w.take (1 + d6).toNat = v at *
    have hv4 : WkL L v := hv ▸ hw.take _
    have g7 : (s6.add (.lst (v.map .int))).get s6.n = some (.lst (v.map .int)) := get_add_same _ _
    have e7 : mulD (.ref s6.n) (.int k) (s6.add (.lst (v.map .int))) = .ok (.ref (s6.add (.lst (v.map .int))).n) ((s6.add (.lst (v.map .int))).add (.lst (List.replicate (k : Int).toNat (v.map .int)).flatten)) :=
      mul_ri _ g7 (by omega) (by omega) (by
        rw [List.length_map, size_eq]
        have := Nat.mul_le_mul hz (show (k : Int).toNat ≤ 60 by omega)
        omega)
    rw [rep_map, Int.toNat_natCast] at e7
    have c2 : cutI (List.replicate k v).flatten none (some (k : Int)) = (List.replicate k v).flatten.take k := cut_to rfl
    generalize hs7 : s6.add (.lst (v.map .int)) = s7 at *
    generalize hs8 : s7.add (.lst (((List.replicate k v).flatten).map .int)) = s8 at *
    have g8 : s8.get s7.n = some (.lst (((List.replicate k v).flatten).map .int)) := by rw [← hs8, get_add_same]
    have e9 := slc_r s8 g8 none (some (k : Int))
    rw [cut_map, c2] at e9
    have g10 : (s8.add (.lst (((List.replicate k v).flatten.take k).map .int))).get s8.n = some (.lst (((List.replicate k v).flatten.take k).map .int)) := get_add_same _ _
    have w8 : Well s8 j (c + 1 + 1 + 1 + 2 * k + 1) := by rw [← hs8, ← hs7]; exact (w6.le (.add _ _)).le (.add _ _)
    have L8 : LeW j s s8 := by rw [← hs8, ← hs7]; exact ((L5.trans l6).trans (.of (.add _ _))).trans (.of (.add _ _))
    have e6 := slc_r s6 g6 none (some (1 + d6))
    rw [cut_map, c1, hs7] at e6
    refine ⟨(List.replicate k v).flatten.take k, s8.add (.lst (((List.replicate k v).flatten.take k).map .int)), ?_, (hv4.rp k).take _, by rw [List.length_take]; omega, (w8.le (.add _ _)).up (by omega), L8.trans (.of (.add _ _))⟩
    simp [-List.map_take, -List.map_flatten, m__law_walk, b__law_walk, fnB_eq, f1, f2, hn2', f3, e3, bk1, goWk_its, f4, n4, f6, e6, e7, e9, tuple_r _ g10]
  · have ht : ((k : Int) / 3) = ((k / 3 : Nat) : Int) := rfl
    have c1 : cutI w none (some ((k : Int) - ((k / 3 : Nat) : Int))) = w.take (k - k / 3) := cut_to (by omega)
    have c2 : cutI w none (some ((k / 3 : Nat) : Int)) = w.take (k / 3) := cut_to rfl
    have e6 := slc_r s5 g5 none (some ((k : Int) - ((k / 3 : Nat) : Int)))
    rw [cut_map, c1] at e6
    have g6 : (s5.add (.lst ((w.take (k - k / 3)).map .int))).get s5.n = some (.lst ((w.take (k - k / 3)).map .int)) := get_add_same _ _
    have hl6 : (w.take (k - k / 3)).length ≤ k - k / 3 := by rw [List.length_take]; omega
    have hl7 : (w.take (k / 3)).length ≤ k / 3 := by rw [List.length_take]; omega
    have h6 : WkL L (w.take (k - k / 3)) := hw.take _
    have h7 : WkL L (w.take (k / 3)) := hw.take _
    have w6 := w5.le (.add s5 (.lst ((w.take (k - k / 3)).map .int)))
    have L6 := L5.trans (.of (.add s5 (.lst ((w.take (k - k / 3)).map .int))))
    generalize w.take (k - k / 3) = v at *
    have g56 : (s5.add (.lst (v.map .int))).get s4.n = some (.lst (w.map .int)) := by
      rw [(Le.add s5 _).get s4.n (by rw [← hs5]; exact Nat.lt_succ_self _), g5]
    have ln6 : s5.n < (s5.add (.lst (v.map .int))).n := Nat.lt_succ_self _
    generalize s5.add (.lst (v.map .int)) = s6 at *
    have e7 := slc_r s6 g56 none (some ((k / 3 : Nat) : Int))
    rw [cut_map, c2] at e7
    generalize w.take (k / 3) = u at *
    have g7 : (s6.add (.lst (u.map .int))).get s6.n = some (.lst (u.map .int)) := get_add_same _ _
    have ge7 : Le s6 (s6.add (.lst (u.map .int))) := .add _ _
    generalize s6.add (.lst (u.map .int)) = s7 at *
    have e8 := rev_r s7 g7
    have g8 : (s7.add (.lst (u.map D.int).reverse)).get s7.n = some (.lst (u.map D.int).reverse) := get_add_same _ _
    have ge8 : Le s7 (s7.add (.lst (u.map D.int).reverse)) := .add _ _
    have ln8 : s7.n < (s7.add (.lst (u.map D.int).reverse)).n := Nat.lt_succ_self _
    generalize s7.add (.lst (u.map D.int).reverse) = s8 at *
    obtain ⟨s9, e9, l9⟩ := goWk_live (f := turnC (gVar 8) none e__law_walk_2 [some (.ref j), some (.int L), some (.int M), some (.int 2), some (.int k), some (.ref s4.n), none, some (.int ((k / 3 : Nat) : Int)), none]) (fun d => match d with | .int i => .int (-i) | d => d) s8 ln8 g8 (by simp; omega) (by
      intro x hx s' hl
      obtain ⟨i, hi, rfl⟩ := List.mem_map.mp (List.mem_reverse.mp hx)
      exact ⟨s', by simp [e__law_walk_2], .refl _⟩)
    have em : ((u.map D.int).reverse.map fun d => match d with | .int i => .int (-i) | d => d) = (Cs.bk u).map D.int := by
      unfold Cs.bk
      rw [← List.map_reverse, List.map_map, ← List.map_reverse, List.map_map]
      rfl
    rw [em] at e9
    have n9 := newL_ok' s9 (xs := (Cs.bk u).map D.int) (by rw [List.length_map, bk_len, size_eq]; omega)
    have g10 : (s9.add (.lst ((Cs.bk u).map .int))).get s9.n = some (.lst ((Cs.bk u).map .int)) := get_add_same _ _
    have ge10 : Le s9 (s9.add (.lst ((Cs.bk u).map .int))) := .add _ _
    generalize s9.add (.lst ((Cs.bk u).map .int)) = s10 at *
    have L10 : Le s6 s10 := ((ge7.trans ge8).trans l9).trans ge10
    have gv : s10.get s5.n = some (.lst (v.map .int)) := by rw [L10.get _ ln6, g6]
    have e11 := add_rr s10 gv g10 (by rw [List.length_map, List.length_map, bk_len, size_eq]; omega)
    rw [← List.map_append] at e11
    have g12 : (s10.add (.lst ((v ++ Cs.bk u).map .int))).get s10.n = some (.lst ((v ++ Cs.bk u).map .int)) := get_add_same _ _
    refine ⟨v ++ Cs.bk u, s10.add (.lst ((v ++ Cs.bk u).map .int)), ?_, h6.app h7.bk, by rw [List.length_append, bk_len]; omega, ((w6.le L10).le (.add _ _)).up (by omega), (L6.trans (.of L10)).trans (.of (.add _ _))⟩
    have hl3 : (3 : Int).natAbs < lim4 := lim_lt (by decide)
    have k3 : 3 < lim4 := lim_lt (by decide)
    simp only [m__law_walk, b__law_walk, fnB_eq, List.length_cons, List.length_nil, List.map_cons, List.map_nil, List.cons_append, List.nil_append, Nat.reduceAdd, Nat.reduceSub, List.replicate, if_true, s_Cons, s_Par, a_Cons, v_Call, v_Var, v_C, a_Nil, List.getElem?_cons_zero, List.getElem?_cons_succ, getV_some, bind_ok', f1, v_Bin, v_Lst, add_ii, f2, hn2', v_Bi, f3, eqD_ii, int_b, beq_iff_eq, e3, par2_ok, List.set_cons_zero, List.set_cons_succ, then_nx, s_Asg, v_Comp, i_Rg1, rg1W_ok, bk1, Int.toNat_natCast, goWk_its, wipeE_nil, wipeE_cons, f4, n4, st_ok', g_Var, s_If, t_Bin, truth_bl, Int.reduceBEq, Bool.false_eq_true, if_false, s_Nil, fdiv_ii, hl3, ht, v_Slc, o_No, o_Yes, toO_int, sub_ii, e6, v_Un, e7, e8, seqW_ref g8, i_Seq, e9, n9, e11, s_Ret, tuple_r _ g12, then_rt, fnR_rt, Int.reduceLT, and_self]
  · obtain ⟨s6, e6, l6⟩ := goWk_live (f := turnC (gVar 8) none e__law_walk_3 [some (.ref j), some (.int L), some (.int M), some (.int 3), some (.int k), some (.ref s4.n), none, none, none]) (fun d => match d with | .int i => .int (if i < 0 then -i else i) | d => d) s5 (by rw [← hs5]; exact Nat.lt_succ_self _) g5 (by simp; omega) (by
      intro x hx s' hl
      obtain ⟨i, hi, rfl⟩ := List.mem_map.mp hx
      exact ⟨s', by simp [e__law_walk_3], .refl _⟩)
    have em : ((w.map D.int).map fun d => match d with | .int i => .int (if i < 0 then -i else i) | d => d) = (w.map fun i => if i < 0 then -i else i).map D.int := by
      rw [List.map_map, List.map_map]
      rfl
    rw [em] at e6
    have hv : WkL L (w.map fun i => if i < 0 then -i else i) := by
      intro x hx
      obtain ⟨y, hy, rfl⟩ := List.mem_map.mp hx
      have := hw y hy
      split <;> omega
    have hlv : (w.map fun i => if i < 0 then -i else i).length = k := by rw [List.length_map]; exact hl
    generalize (w.map fun i : Int => if i < 0 then -i else i) = v at *
    have n6 := newL_ok' s6 (xs := v.map D.int) (by rw [List.length_map, size_eq]; omega)
    have g7 : (s6.add (.lst (v.map .int))).get s6.n = some (.lst (v.map .int)) := get_add_same _ _
    refine ⟨v, s6.add (.lst (v.map .int)), ?_, hv, by omega, ((w5.le l6).le (.add _ _)).up (by omega), (L5.trans (.of l6)).trans (.of (.add _ _))⟩
    simp [m__law_walk, b__law_walk, fnB_eq, f1, f2, hn2', f3, e3, bk1, goWk_its, f4, n4, seqW_ref g5, e6, n6, tuple_r _ g7]
theorem run_law_well (ns : List Int) (i : Nat) (s : Sto) (hn : ns.length ≤ 63) (hi : i ≤ 4) : ∃ j s', m__law_well [.fix (ns.map .int), .int i] s = .ok (.ref j) s' ∧ Well s' j 0 ∧ Le s s' := by
  obtain ⟨s1, e, l⟩ := goIts_map (f := turnC (gVar 4) none e__law_well_1 [some (.fix (ns.map .int)), some (.int i), some (.int (if i < ns.length then ns.getD i 0 else 11 * (i : Int) + 6)), none, none, none]) (fun d => match d with | .int i => .int (i % 1000000000000000000000000103) | d => d) (ns.map .int) s fun x hx s' hl => by
    obtain ⟨i, hi, rfl⟩ := List.mem_map.mp hx
    have l10 : 10 < lim4 := lim_lt (by decide)
    exact ⟨s', by simp [e__law_well_1, l10], .refl _⟩
  have e2 : ((ns.map D.int).map fun d => match d with | .int i => .int (i % 1000000000000000000000000103) | d => d) = (ns.map fun i => i % 1000000000000000000000000103).map D.int := by
    rw [List.map_map, List.map_map]; rfl
  rw [e2] at e
  generalize (ns.map fun i => i % 1000000000000000000000000103).sum = tot at *
  generalize hv : (ns.map fun i : Int => i % 1000000000000000000000000103) = v at *
  have hlv : v.length ≤ 63 := by rw [← hv, List.length_map]; exact hn
  have n1 := newL_ok' s1 (xs := v.map D.int) (by rw [List.length_map, size_eq]; omega)
  have g1 : (s1.add (.lst (v.map .int))).get s1.n = some (.lst (v.map .int)) := get_add_same _ _
  have l10 : 10 < lim4 := lim_lt (by decide)
  have su := sum_r _ g1
  have LL : Le s (s1.add (.lst (v.map .int))) := l.trans (.add _ _)
  generalize s1.add (.lst (v.map .int)) = s2 at *
  have ex : ∃ (a q : Int), m__law_well [.fix (ns.map .int), .int i] s = .ok (.ref s2.n) (s2.add (.lst [.int a, .int (q % 10000000000000000000000000000033), .int 0])) := by
    have m1 : ∀ x : Int, mulOk x 8929 = true := fun x => mulOk_r (by decide)
    have m2 : ∀ x : Int, mulOk 61 x = true := fun x => mulOk_l (by decide)
    have m3 : ∀ x : Int, mulOk 2 x = true := fun x => mulOk_l (by decide)
    have m4 : ∀ x : Int, mulOk 11 x = true := fun x => mulOk_l (by decide)
    have nz : ∀ a b c : D, newL [a, b, c] s2 = .ok (.ref s2.n) (s2.add (.lst [a, b, c])) := fun a b c => newL_ok' s2 (by rw [size_eq]; simp)
    by_cases c : i < ns.length
    · have e0 : L2.atI (ns.map D.int) (i : Int) = some (.int (ns.getD i 0)) := atI_at rfl (getD_at c)
      rw [if_pos c] at e
      generalize ns.getD i 0 = n at *
      refine ⟨?a, ?q, ?h⟩
      case h =>
        simp [m__law_well, b__law_well, fnB_eq, c, e0, goWk_its, e, n1, su, m1, m2, m3, m4, l10, nz]
        rfl
    · rw [if_neg c] at e
      refine ⟨?a2, ?q2, ?h2⟩
      case h2 =>
        simp [m__law_well, b__law_well, fnB_eq, c, goWk_its, e, n1, su, m1, m2, m3, m4, l10, nz]
        rfl
  obtain ⟨a, q, ex⟩ := ex
  refine ⟨_, _, ex, ⟨Nat.lt_succ_self _, a, _, 0, get_add_same _ _, ?_, Nat.le_refl _⟩, LL.trans (.add _ _)⟩
  omega
end K01

namespace K01
open PySem Cs
/-! ### walks in their order -/
def St : Nat → List Int
  | 0 => []
  | n + 1 => St n ++ [((n + 1 : Nat) : Int), -((n + 1 : Nat) : Int)]
/-- the steps that may stand behind a walk that ends so -/
def sb (L : Nat) (o : Option Int) : List Int := (St L).filter fun s => !(o == some (-s))
def N (L : Nat) : Nat → Nat
  | 0 => 1
  | k + 1 => 2 * L * (2 * L - 1) ^ k
def T (L : Nat) : Nat → Nat
  | 0 => 0
  | k + 1 => T L k + N L k
inductive Ok (L : Nat) : List Int → Nat → Prop
  | nil : Ok L [] 0
  | snoc {w : List Int} {r i : Nat} {s : Int} : Ok L w r → (sb L w.getLast?)[i]? = some s → Ok L (w ++ [s]) (r * (2 * L - 1) + i)
def Is (L n : Nat) (w : List Int) : Prop := ∃ r, Ok L w r ∧ n = T L w.length + r
/-- 1 to 4 letters -/
def LL (L : Nat) : Prop := L = 1 ∨ L = 2 ∨ L = 3 ∨ L = 4
theorem LL.pos {L : Nat} (h : LL L) : 1 ≤ L ∧ L ≤ 4 := by unfold LL at h; omega
theorem sb_len {L : Nat} (h : LL L) : (sb L none).length = 2 * L ∧ ∀ x ∈ St L, (sb L (some x)).length = 2 * L - 1 := by
  rcases h with rfl | rfl | rfl | rfl <;> decide
theorem sb_mem {L : Nat} {o : Option Int} {s : Int} (h : s ∈ sb L o) : s ∈ St L ∧ o ≠ some (-s) := by
  unfold sb at h
  rw [List.mem_filter] at h
  refine ⟨h.1, fun q => ?_⟩
  have := h.2
  rw [q] at this
  simp at this
theorem mem_sb {L : Nat} {o : Option Int} {s : Int} (h : s ∈ St L) (q : o ≠ some (-s)) : s ∈ sb L o := by
  unfold sb
  rw [List.mem_filter]
  exact ⟨h, by simpa using q⟩
theorem St_ok {L : Nat} (h : LL L) : ∀ x ∈ St L, x ≠ 0 ∧ x.natAbs ≤ L := by
  rcases h with rfl | rfl | rfl | rfl <;> decide
theorem ok_St {L : Nat} (h : LL L) {x : Int} (h0 : x ≠ 0) (h1 : x.natAbs ≤ L) : x ∈ St L := by
  have : x = 1 ∨ x = -1 ∨ x = 2 ∨ x = -2 ∨ x = 3 ∨ x = -3 ∨ x = 4 ∨ x = -4 := by have := h.pos; omega
  rcases h with rfl | rfl | rfl | rfl <;> rcases this with rfl | rfl | rfl | rfl | rfl | rfl | rfl | rfl <;> first | decide | (exfalso; revert h1; decide)
theorem Ok.mem {L : Nat} {w : List Int} {r : Nat} (h : Ok L w r) : ∀ x ∈ w, x ∈ St L := by
  induction h with
  | nil => intro x hx; cases hx
  | snoc h hs ih =>
    intro x hx
    rcases List.mem_append.mp hx with hx | hx
    · exact ih x hx
    · rw [List.mem_singleton.mp hx]
      exact (sb_mem (List.mem_of_getElem? hs)).1
theorem last_mem {w : List Int} {x : Int} (h : w.getLast? = some x) : x ∈ w := by
  rw [List.getLast?_eq_some_iff] at h
  obtain ⟨ys, rfl⟩ := h
  simp
theorem Ok.lt {L : Nat} (hL : LL L) {w : List Int} {r : Nat} (h : Ok L w r) : r < N L w.length := by
  induction h with
  | nil => exact Nat.one_pos
  | @snoc w r i s h hs ih =>
    have hi := (List.getElem?_eq_some_iff.mp hs).1
    have hp := hL.pos
    rw [List.length_append]
    show _ < N L (w.length + 1)
    cases hw : w.getLast? with
    | none =>
      rw [hw, (sb_len hL).1] at hi
      have e : w = [] := List.getLast?_eq_none_iff.mp hw
      subst e
      have : r = 0 := by have := ih; simp [N] at this; omega
      subst this
      simp [N]
      omega
    | some x =>
      rw [hw, (sb_len hL).2 x (h.mem x (last_mem hw))] at hi
      have hl : ∃ k, w.length = k + 1 := by
        cases w with
        | nil => cases hw
        | cons a w => exact ⟨w.length, rfl⟩
      obtain ⟨k, hk⟩ := hl
      rw [hk] at ih ⊢
      have e1 : N L (k + 1 + 1) = N L (k + 1) * (2 * L - 1) := by
        show 2 * L * (2 * L - 1) ^ (k + 1) = 2 * L * (2 * L - 1) ^ k * (2 * L - 1)
        rw [Nat.pow_succ, ← Nat.mul_assoc]
      rw [e1]
      calc r * (2 * L - 1) + i < r * (2 * L - 1) + (2 * L - 1) := by omega
        _ = (r + 1) * (2 * L - 1) := (Nat.succ_mul _ _).symm
        _ ≤ N L (k + 1) * (2 * L - 1) := Nat.mul_le_mul_right _ ih
theorem T_mono {L : Nat} {j k : Nat} (h : j < k) : T L j + N L j ≤ T L k := by
  induction k with
  | zero => omega
  | succ k ih =>
    show _ ≤ T L k + N L k
    by_cases e : j = k
    · subst e; exact Nat.le_refl _
    · exact Nat.le_trans (ih (by omega)) (Nat.le_add_right _ _)
theorem Ok.inj {L : Nat} (hL : LL L) {w : List Int} {r : Nat} (h : Ok L w r) : ∀ {w' : List Int}, Ok L w' r → w.length = w'.length → w = w' := by
  induction h with
  | nil => intro w' h' hl; cases w' with
    | nil => rfl
    | cons a w' => simp at hl
  | @snoc w r i s h hs ih =>
    intro w' h' hl
    generalize hr : r * (2 * L - 1) + i = q at h'
    cases h' with
    | nil => simp at hl
    | @snoc w' r' i' s' h' hs' =>
      have hl2 : w.length = w'.length := by simpa using hl
      have hp := hL.pos
      have hi := (List.getElem?_eq_some_iff.mp hs).1
      have hi' := (List.getElem?_eq_some_iff.mp hs').1
      have key : r = r' ∧ i = i' := by
        cases hw : w.getLast? with
        | none =>
          have e : w = [] := List.getLast?_eq_none_iff.mp hw
          subst e
          have e' : w' = [] := List.length_eq_zero_iff.mp (by simpa using hl2.symm)
          subst e'
          have a1 := h.lt hL
          have a2 := h'.lt hL
          simp [N] at a1 a2
          subst a1; subst a2
          simp at hr
          exact ⟨rfl, hr⟩
        | some x =>
          have b1 : i < 2 * L - 1 := by rw [hw, (sb_len hL).2 x (h.mem x (last_mem hw))] at hi; exact hi
          have b2 : i' < 2 * L - 1 := by
            cases hw' : w'.getLast? with
            | none =>
              have e' : w' = [] := List.getLast?_eq_none_iff.mp hw'
              subst e'
              have : w = [] := List.length_eq_zero_iff.mp (by simpa using hl2)
              subst this; cases hw
            | some y => rw [hw', (sb_len hL).2 y (h'.mem y (last_mem hw'))] at hi'; exact hi'
          have c1 : (r * (2 * L - 1) + i) / (2 * L - 1) = r := by
            rw [Nat.mul_comm, Nat.mul_add_div (by omega), Nat.div_eq_of_lt b1]; rfl
          have c2 : (r' * (2 * L - 1) + i') / (2 * L - 1) = r' := by
            rw [Nat.mul_comm, Nat.mul_add_div (by omega), Nat.div_eq_of_lt b2]; rfl
          have e : r = r' := by rw [← c1, ← c2, hr]
          subst e
          exact ⟨rfl, by omega⟩
      obtain ⟨rfl, rfl⟩ := key
      have e := ih h' hl2
      subst e
      rw [hs] at hs'
      rw [Option.some.inj hs']
/-- one walk a number -/
theorem Is.inj {L n : Nat} (hL : LL L) {w w' : List Int} (h : Is L n w) (h' : Is L n w') : w = w' := by
  obtain ⟨r, o, e⟩ := h
  obtain ⟨r', o', e'⟩ := h'
  have l1 := o.lt hL
  have l2 := o'.lt hL
  have hl : w.length = w'.length := by
    rcases Nat.lt_trichotomy w.length w'.length with q | q | q
    · have := T_mono (L := L) q; omega
    · exact q
    · have := T_mono (L := L) q; omega
  rw [hl] at e
  have : r = r' := by omega
  subst this
  exact o.inj hL o' hl
/-- every straight walk has a number -/
theorem ok_of {L : Nat} (hL : LL L) : ∀ (u : List Int), Rdc u → (∀ x ∈ u, x ∈ St L) → ∃ r, Ok L u.reverse r
  | [], _, _ => ⟨0, .nil⟩
  | s :: u, hr, hm => by
    obtain ⟨r, h⟩ := ok_of hL u hr.tail fun x hx => hm x (List.mem_cons_of_mem _ hx)
    have hs : s ∈ sb L u.reverse.getLast? := by
      refine mem_sb (hm s List.mem_cons_self) fun q => ?_
      rw [List.getLast?_reverse] at q
      cases u with
      | nil => cases q
      | cons y u =>
        have e : y = -s := Option.some.inj q
        exact hr.1 (by omega)
    obtain ⟨i, hi, e⟩ := List.getElem_of_mem hs
    refine ⟨r * (2 * L - 1) + i, ?_⟩
    rw [List.reverse_cons]
    exact h.snoc (by rw [List.getElem?_eq_getElem hi, e])
theorem Is.of {L : Nat} (hL : LL L) {w : List Int} (hr : Rdc w) (hm : ∀ x ∈ w, x ∈ St L) : ∃ n, Is L n w := by
  obtain ⟨r, h⟩ := ok_of hL w.reverse hr.rev fun x hx => hm x (List.mem_reverse.mp hx)
  rw [List.reverse_reverse] at h
  exact ⟨_, r, h, rfl⟩
theorem Ok.rdc {L : Nat} {w : List Int} {r : Nat} (h : Ok L w r) : Rdc w := by
  have : Rdc w.reverse := by
    induction h with
    | nil => trivial
    | @snoc w r i s h hs ih =>
      rw [List.reverse_append]
      show Rdc (s :: w.reverse)
      have hn := (sb_mem (List.mem_of_getElem? hs)).2
      cases hw : w.reverse with
      | nil => trivial
      | cons y u =>
        rw [hw] at ih
        refine ⟨fun e => hn ?_, ih⟩
        have : w.getLast? = some y := by
          have h2 := congrArg List.head? hw
          rw [List.head?_reverse] at h2
          exact h2
        rw [this, e]; simp
  have h2 := this.rev
  rw [List.reverse_reverse] at h2
  exact h2
/-! ### the next one -/
/-- led on by the first step there is, k times -/
theorem Ok.least {L : Nat} (hL : LL L) {w : List Int} {r : Nat} (h : Ok L w r) : ∃ s, (sb L w.getLast?)[0]? = some s := by
  have hp := hL.pos
  have : 0 < (sb L w.getLast?).length := by
    cases hw : w.getLast? with
    | none => rw [(sb_len hL).1]; omega
    | some x => rw [(sb_len hL).2 x (h.mem x (last_mem hw))]; omega
  exact ⟨_, List.getElem?_eq_getElem this⟩
def lead (L : Nat) (w : List Int) : Nat → List Int
  | 0 => w
  | k + 1 => lead L w k ++ [((sb L (lead L w k).getLast?)[0]?).getD 0]
theorem lead_len (L : Nat) (w : List Int) (k : Nat) : (lead L w k).length = w.length + k := by
  induction k with
  | zero => rfl
  | succ k ih => unfold lead; rw [List.length_append, ih]; rfl
theorem Ok.lead {L : Nat} (hL : LL L) {w : List Int} {r : Nat} (h : Ok L w r) (k : Nat) : Ok L (lead L w k) (r * (2 * L - 1) ^ k) := by
  induction k with
  | zero => simpa [K01.lead] using h
  | succ k ih =>
    obtain ⟨s, hs⟩ := ih.least hL
    unfold K01.lead
    rw [hs]
    have := ih.snoc hs
    rw [Nat.add_zero] at this
    rw [Nat.pow_succ, ← Nat.mul_assoc]
    exact this
end K01

namespace K01
open PySem Cs
/-- a new list of ints -/
def NewL (r : R D) (s : Sto) (xs : List Int) : Prop := ∃ j s', r = .ok (.ref j) s' ∧ s'.get j = some (.lst (xs.map .int)) ∧ Le s s' ∧ s.n ≤ j ∧ j < s'.n
theorem St_succ (n : Nat) : St (n + 1) = St n ++ [((n + 1 : Nat) : Int), -((n + 1 : Nat) : Int)] := rfl
theorem St_len (n : Nat) : (St n).length = 2 * n := by
  induction n with
  | zero => rfl
  | succ n ih => rw [St_succ, List.length_append, ih]; rfl
theorem run_steps_of (L : Nat) (s : Sto) (hL : LL L) : NewL (m_steps_of [.int L] s) s (St L) := by
  have hp := hL.pos
  refine Exists.elim (forIts_inv (b := bodyF (gVar 2) b_steps_of_1)
    (fun k env s' => (∃ z, env = [some (.int L), some (.ref s.n), z]) ∧ s'.get s.n = some (.lst ((St k).map .int)) ∧ Le s s' ∧ s.n < s'.n)
    (rgD 1 L) 0 [some (.int L), some (.ref s.n), none] (s.add (.lst []))
    ⟨⟨none, rfl⟩, get_add_same _ _, .add _ _, Nat.lt_succ_self _⟩ ?step) ?rest
  case rest =>
    rintro env ⟨s', e, ⟨z, rfl⟩, hg, hl, hn⟩
    have el : (rgD 1 L).length = L := by simp [rgD]
    rw [el, Nat.zero_add] at hg
    have b1 : bigI 1 = true := bigI_of (by decide)
    have b2 : bigI ((L : Int) + 1) = true := bigI_of (by omega)
    have e3 : ((L : Int) + 1 - 1).toNat = L := by omega
    refine ⟨s.n, s', ?_, hg, hl, Nat.le_refl _, hn⟩
    simp [m_steps_of, b_steps_of, fnB_eq, newL_ok', b1, b2, e3, e]
  case step =>
    rintro k x env s1 hx ⟨⟨z, rfl⟩, hg, hl, hn⟩
    obtain ⟨hk, rfl⟩ := rgD_at hx
    rw [Nat.zero_add] at *
    have e1 : (1 + (k : Int)) = ((k + 1 : Nat) : Int) := by omega
    rw [e1]
    have n1 := newL_ok' s1 (xs := [D.int ((k + 1 : Nat) : Int), D.int (-((k + 1 : Nat) : Int))]) (by rw [size_eq]; simp)
    have g1 : (s1.add (.lst [D.int ((k + 1 : Nat) : Int), D.int (-((k + 1 : Nat) : Int))])).get s1.n = some (.lst [D.int ((k + 1 : Nat) : Int), D.int (-((k + 1 : Nat) : Int))]) := get_add_same _ _
    have g0 : (s1.add (.lst [D.int ((k + 1 : Nat) : Int), D.int (-((k + 1 : Nat) : Int))])).get s.n = some (.lst ((St k).map .int)) := by rw [get_add_ne (by omega)]; exact hg
    have ex := extend_r _ g0 g1 (by rw [List.length_map, St_len, size_eq]; simp only [List.length_cons, List.length_nil]; omega)
    refine ⟨[some (.int L), some (.ref s.n), some (.int ((k + 1 : Nat) : Int))], _, .inl (by
      simp only [bodyF_eq, b_steps_of_1, g_Var, st_ok', s_Cons, s_Expr, v_Meth, v_Var, List.getElem?_cons_zero, List.getElem?_cons_succ, List.set_cons_zero, List.set_cons_succ, getV_some, bind_ok', isL_r _ hg, if_true, a_Cons, a_Nil, v_Lst, v_Un, neg_i, n1, ex, then_nx, s_Nil]
      rfl), ⟨_, rfl⟩, ?_, (hl.trans (.add _ _)).set (Nat.le_refl _) _, ?_⟩
    · rw [get_set_same, St_succ, List.map_append]; rfl
    · exact Nat.lt_trans hn (Nat.lt_succ_self _)
theorem run_law_steps (L : Nat) (s : Sto) (hL : LL L) : NewL (m__law_steps [.int L] s) s (St L) := by
  have hp := hL.pos
  refine Exists.elim (forIts_inv (b := bodyF (gVar 2) b__law_steps_1)
    (fun k env s' => ∃ j z, env = [some (.int L), some (.ref j), z] ∧ s'.get j = some (.lst ((St k).map .int)) ∧ Le s s' ∧ s.n ≤ j ∧ j < s'.n)
    (rgD 1 L) 0 [some (.int L), some (.ref s.n), none] (s.add (.lst []))
    ⟨s.n, none, rfl, get_add_same _ _, .add _ _, Nat.le_refl _, Nat.lt_succ_self _⟩ ?step) ?rest
  case rest =>
    rintro env ⟨s', e, j, z, rfl, hg, hl, hn, hn2⟩
    have el : (rgD 1 L).length = L := by simp [rgD]
    rw [el, Nat.zero_add] at hg
    have b1 : bigI 1 = true := bigI_of (by decide)
    have b2 : bigI ((L : Int) + 1) = true := bigI_of (by omega)
    have e3 : ((L : Int) + 1 - 1).toNat = L := by omega
    refine ⟨j, s', ?_, hg, hl, hn, hn2⟩
    simp [m__law_steps, b__law_steps, fnB_eq, newL_ok', b1, b2, e3, e]
  case step =>
    rintro k x env s1 hx ⟨j, z, rfl, hg, hl, hn, hn2⟩
    obtain ⟨hk, rfl⟩ := rgD_at hx
    rw [Nat.zero_add] at *
    have e1 : (1 + (k : Int)) = ((k + 1 : Nat) : Int) := by omega
    rw [e1]
    have n1 := newL_ok' s1 (xs := [D.int ((k + 1 : Nat) : Int), D.int (-((k + 1 : Nat) : Int))]) (by rw [size_eq]; simp)
    have g1 : (s1.add (.lst [D.int ((k + 1 : Nat) : Int), D.int (-((k + 1 : Nat) : Int))])).get s1.n = some (.lst [D.int ((k + 1 : Nat) : Int), D.int (-((k + 1 : Nat) : Int))]) := get_add_same _ _
    have g0 : (s1.add (.lst [D.int ((k + 1 : Nat) : Int), D.int (-((k + 1 : Nat) : Int))])).get j = some (.lst ((St k).map .int)) := by rw [get_add_ne (by omega)]; exact hg
    have ex := add_rr _ g0 g1 (by rw [List.length_map, St_len, size_eq]; simp only [List.length_cons, List.length_nil]; omega)
    have l2 : Le s1 (s1.add (.lst [D.int ((k + 1 : Nat) : Int), D.int (-((k + 1 : Nat) : Int))])) := .add _ _
    generalize s1.add (.lst [D.int ((k + 1 : Nat) : Int), D.int (-((k + 1 : Nat) : Int))]) = s2 at *
    refine ⟨[some (.int L), some (.ref s2.n), some (.int ((k + 1 : Nat) : Int))], _, .inl (by
      simp only [bodyF_eq, b__law_steps_1, g_Var, st_ok', s_Cons, s_Asg, v_Bin, v_Var, List.getElem?_cons_zero, List.getElem?_cons_succ, List.set_cons_zero, List.set_cons_succ, getV_some, bind_ok', a_Cons, a_Nil, v_Lst, v_Un, neg_i, n1, ex, then_nx, s_Nil]
      rfl), ⟨s2.n, _, rfl, ?_, (hl.trans l2).trans (.add _ _), ?_, Nat.lt_succ_self _⟩⟩
    · rw [get_add_same, St_succ, List.map_append]; rfl
    · exact Nat.le_trans hl.n l2.n
/-! ### the last step -/
theorem cut_last (w : List Int) : cutI w (some (-1)) none = w.getLast?.toList := by
  unfold cutI
  have e : HT.sIx w.length 0 (some (-1)) = w.length - 1 := by
    unfold HT.sIx
    dsimp only
    rw [if_pos (by decide)]
    omega
  rw [HT.sIx_none, e]
  cases h : w.getLast? with
  | none =>
    rw [List.getLast?_eq_none_iff.mp h]; rfl
  | some x =>
    obtain ⟨ys, rfl⟩ := List.getLast?_eq_some_iff.mp h
    simp
theorem last_eq (o : Option Int) (x : Int) : decide (o.toList = [x]) = (o == some x) := by
  cases o with
  | none => simp
  | some y => rw [Bool.eq_iff_iff]; simp
theorem fm_filter (p : Int → Bool) (l : List Int) : (l.map D.int).filterMap (fun d => match d with | .int i => if p i then some (D.int i) else none | d => none) = (l.filter p).map D.int := by
  induction l with
  | nil => rfl
  | cons x l ih =>
    rw [List.map_cons, List.filterMap_cons, List.filter_cons]
    dsimp only
    cases p x
    · exact ih
    · show D.int x :: _ = D.int x :: _
      rw [ih]
theorem run_behind_t (w : List Int) (i : Int) (s : Sto) (env : Cs.Env) (e1 : env[1]? = some (some (tw w))) (e2 : env[2]? = some (some (.int i))) :
    c_steps_behind_1.t env s = .ok (!(w.getLast? == some (-i))) s := by
  have eq := neD_tw (w.getLast?.toList) [-i] s
  rw [last_eq] at eq
  have eq : neD (tw (w.getLast?.toList)) (.tup [.int (-i)]) s = _ := eq
  simp only [c_steps_behind_1, t_Bin, v_Slc, v_Var, e1, getV_some, bind_ok', o_Yes, v_Un, v_C, neg_i, toO_int, o_No, slc_t, cut_map, cut_last, v_Tup, a_Cons, a_Nil, e2, List.length_cons, List.length_nil, size_eq]
  rw [if_pos (by decide)]
  simp only [bind_ok', eq, truth_bl]
theorem run_steps_behind (L : Nat) (w : List Int) (s : Sto) (hL : LL L) : NewL (m_steps_behind [.int L, tw w] s) s (sb L w.getLast?) := by
  have hp := hL.pos
  obtain ⟨j, s1, e1, g1, l1, n1, n2⟩ := run_steps_of L s hL
  obtain ⟨s2, e2, l2⟩ := goWk_live_fun (f := turnC (gVar 2) (some c_steps_behind_1) e_steps_behind_1 [some (.int L), some (tw w), none]) (fun d => match d with | .int i => if !(w.getLast? == some (-i)) then some (.int i) else none | d => none) s1 n2 g1 (by rw [List.length_map, St_len]; omega) (by
    intro x hx s' hl
    obtain ⟨i, hi, rfl⟩ := List.mem_map.mp hx
    refine ⟨s', ?_, .refl _⟩
    have et := run_behind_t w i s' [some (.int L), some (tw w), some (.int i)] rfl rfl
    simp only [turnC_some, g_Var, bind_ok', List.set_cons_zero, List.set_cons_succ, et, e_steps_behind_1, v_Var, List.getElem?_cons_zero, List.getElem?_cons_succ, getV_some]
    cases (!(w.getLast? == some (-i))) <;> rfl)
  have em : (((St L).map D.int).filterMap fun d => match d with | .int i => if !(w.getLast? == some (-i)) then some (D.int i) else none | d => none) = (sb L w.getLast?).map D.int := by
    exact fm_filter _ _
  rw [em] at e2
  have hz : ((sb L w.getLast?).map D.int).length ≤ sizeLine := by
    rw [List.length_map, size_eq]
    have : (sb L w.getLast?).length ≤ (St L).length := List.length_filter_le _ _
    rw [St_len] at this; omega
  have hn := newL_ok' s2 hz
  refine ⟨s2.n, s2.add (.lst ((sb L w.getLast?).map .int)), ?_, get_add_same _ _, (l1.trans l2).trans (.add _ _), Nat.le_trans l1.n l2.n, Nat.lt_succ_self _⟩
  simp only [m_steps_behind, b_steps_behind, fnB_eq, List.length_cons, List.length_nil, List.map_cons, List.map_nil, List.cons_append, List.nil_append, Nat.reduceAdd, Nat.reduceSub, List.replicate, if_true, s_Cons, s_Ret, v_Comp, i_Seq, v_Call, a_Cons, a_Nil, v_Var, List.getElem?_cons_zero, List.getElem?_cons_succ, getV_some, bind_ok', e1, seqW_ref g1, wipeE_nil, wipeE_cons, List.set_cons_zero, List.set_cons_succ, e2, hn, st_ok', then_rt, fnR_rt]
/-! ### how many -/
theorem two_cast {L : Nat} (hL : LL L) : (2 : Int) * (L : Int) - 1 = ((2 * L - 1 : Nat) : Int) := by have := hL.pos; omega
theorem run_behind_w (L k : Nat) (s : Sto) (hL : LL L) (hk : k ≤ 100000) : m_walks_behind [.int L, .int k] s = .ok (.int (((2 * L - 1) ^ k : Nat) : Int)) s := by
  have hp := hL.pos
  refine Exists.elim (forIts_inv (b := bodyF (gVar 3) b_walks_behind_1)
    (fun i env s' => s' = s ∧ ∃ z, env = [some (.int L), some (.int k), some (.int (((2 * L - 1) ^ i : Nat) : Int)), z])
    (rgD 0 k) 0 [some (.int L), some (.int k), some (.int 1), none] s ⟨rfl, none, rfl⟩ ?step) ?rest
  case rest =>
    rintro env ⟨s', e, rfl, z, rfl⟩
    have el : (rgD 0 k).length = k := by simp [rgD]
    rw [el, Nat.zero_add] at e
    have b1 : bigI (k : Int) = true := bigI_of (by omega)
    simp [m_walks_behind, b_walks_behind, fnB_eq, b1, e]
  case step =>
    rintro i x env s1 hx ⟨rfl, z, rfl⟩
    obtain ⟨hk, rfl⟩ := rgD_at hx
    rw [Nat.zero_add] at *
    have m1 : ∀ y : Int, mulOk 2 y = true := fun y => mulOk_l (by decide)
    have m2 : ∀ y : Int, mulOk y ((2 * L - 1 : Nat) : Int) = true := fun y => mulOk_r (by omega)
    have e2 : (((2 * L - 1) ^ i : Nat) : Int) * ((2 * L - 1 : Nat) : Int) = (((2 * L - 1) ^ (i + 1) : Nat) : Int) := by rw [Nat.pow_succ, Int.natCast_mul]
    refine ⟨[some (.int L), some (.int k), some (.int (((2 * L - 1) ^ (i + 1) : Nat) : Int)), some (.int (0 + (i : Int)))], s1, .inl ?_, rfl, _, rfl⟩
    simp only [bodyF_eq, b_walks_behind_1, g_Var, st_ok', s_Cons, s_Asg, v_Bin, v_Var, v_C, List.getElem?_cons_zero, List.getElem?_cons_succ, List.set_cons_zero, List.set_cons_succ, getV_some, bind_ok', mul_ii, m1, if_true, sub_ii, two_cast hL, m2, e2, then_nx, s_Nil]
theorem run_law_times (L k : Nat) (s : Sto) (hL : LL L) (hk : k ≤ 100000) : m__law_times [.int L, .int k] s = .ok (.int (((2 * L - 1) ^ k : Nat) : Int)) s := run_behind_w L k s hL hk
theorem run_walks_of (L k : Nat) (s : Sto) (hL : LL L) (hk : k ≤ 100000) : m_walks_of [.int L, .int k] s = .ok (.int (N L k : Nat)) s := by
  have hp := hL.pos
  cases k with
  | zero => simp [m_walks_of, b_walks_of, fnB_eq]; rfl
  | succ k =>
    have e := run_behind_w L k s hL (by omega)
    have m1 : ∀ y : Int, mulOk 2 y = true := fun y => mulOk_l (by decide)
    have m2 : ∀ y : Int, mulOk (2 * (L : Int)) y = true := fun y => mulOk_l (by omega)
    have e2 : ((k + 1 : Nat) : Int) - 1 = (k : Int) := by omega
    have e3 : (((k + 1 : Nat) : Int) == 0) = false := beq_eq_false_iff_ne.mpr (by omega)
    have e4 : 2 * (L : Int) * (((2 * L - 1) ^ k : Nat) : Int) = ((N L (k + 1) : Nat) : Int) := by
      show _ = ((2 * L * (2 * L - 1) ^ k : Nat) : Int)
      rw [Int.natCast_mul, Int.natCast_mul]; rfl
    simp only [m_walks_of, b_walks_of, fnB_eq, List.length_cons, List.length_nil, List.map_cons, List.map_nil, List.cons_append, List.nil_append, Nat.reduceAdd, Nat.reduceSub, List.replicate, if_true, s_Cons, s_If, t_Bin, v_Var, v_C, List.getElem?_cons_zero, List.getElem?_cons_succ, getV_some, bind_ok', eqD_ii, e3, truth_bl, st_ok', Bool.false_eq_true, if_false, s_Nil, then_nx, s_Ret, v_Bin, mul_ii, m1, v_Call, a_Cons, a_Nil, sub_ii, e2, e, m2, e4, then_rt, fnR_rt]
theorem run_law_many (L k : Nat) (s : Sto) (hL : LL L) (hk : k ≤ 100000) : m__law_many [.int L, .int k] s = .ok (.int (N L k : Nat)) s := run_walks_of L k s hL hk
end K01

namespace K01
open PySem Cs
theorem sb_nodup {L : Nat} (hL : LL L) (o : Option Int) : (sb L o).Nodup := by
  unfold sb
  refine List.Pairwise.filter _ ?_
  show (St L).Nodup
  rcases hL with rfl | rfl | rfl | rfl <;> decide
theorem sb_find {L : Nat} (hL : LL L) {o : Option Int} {i : Nat} {s : Int} (h : (sb L o)[i]? = some s) : (sb L o).findIdx? (· == s) = some i := by
  obtain ⟨hi, e⟩ := List.getElem?_eq_some_iff.mp h
  rw [List.findIdx?_eq_some_iff_getElem]
  refine ⟨hi, by simpa using e, fun j hj q => ?_⟩
  have q : (sb L o)[j] = s := by simpa using q
  exact (List.pairwise_iff_getElem.mp (sb_nodup hL o)) j i (by omega) hi hj (q.trans e.symm)
theorem Ok.unsnoc {L : Nat} {u : List Int} {s : Int} {r : Nat} (h : Ok L (u ++ [s]) r) : ∃ r0 i, Ok L u r0 ∧ (sb L u.getLast?)[i]? = some s ∧ r = r0 * (2 * L - 1) + i := by
  generalize hw : u ++ [s] = w at h
  cases h with
  | nil => simp at hw
  | @snoc w r i s' h hs =>
    obtain ⟨e1, e2⟩ := List.append_inj' hw rfl
    subst e1
    cases e2
    exact ⟨r, i, h, hs, rfl⟩
theorem Ok.det {L : Nat} (hL : LL L) {w : List Int} {r : Nat} (h : Ok L w r) : ∀ {r'}, Ok L w r' → r = r' := by
  induction h with
  | nil => intro r' h'; generalize hw : ([] : List Int) = w at h'; cases h' with
    | nil => rfl
    | snoc => simp at hw
  | @snoc w r i s h hs ih =>
    intro r' h'
    obtain ⟨r0, i', h0, hs', rfl⟩ := h'.unsnoc
    have e1 := ih h0
    have e2 := sb_find hL hs
    rw [sb_find hL hs'] at e2
    cases e2
    rw [e1]
theorem Ok.take {L : Nat} {w : List Int} {r : Nat} (h : Ok L w r) : ∀ k, ∃ rk, Ok L (w.take k) rk := by
  induction h with
  | nil => intro k; exact ⟨0, by rw [List.take_nil]; exact .nil⟩
  | @snoc w r i s h hs ih =>
    intro k
    by_cases hk : k ≤ w.length
    · rw [List.take_append_of_le_length hk]; exact ih k
    · rw [List.take_of_length_le (by rw [List.length_append]; simp only [List.length_cons, List.length_nil]; omega)]
      exact ⟨_, h.snoc hs⟩
theorem take_last {w : List Int} {k : Nat} {s : Int} (h : w[k]? = some s) : w.take (k + 1) = w.take k ++ [s] := by
  rw [List.take_add_one, h]; rfl
theorem T_sum (L k : Nat) : ((List.range k).map fun j => (N L j : Int)).sum = (T L k : Int) := by
  induction k with
  | zero => rfl
  | succ k ih => rw [List.range_succ, List.map_append, List.sum_append_int, ih]; simp [T]
theorem sum_many {f : Cs.Turn} (L n : Nat) (s : Sto) (h : ∀ k : Nat, k < n → ∀ s', f (.int (k : Int)) s' = .ok (some (.int (N L k : Nat))) s') :
    ∃ s1, goIts f (rgD 0 n) s = .ok (((List.range n).map fun j => (N L j : Int)).map .int) s1 ∧ Le s s1 := by
  obtain ⟨s1, e1, l1⟩ := goIts_map (f := f) (fun d => match d with | .int i => .int (N L i.toNat : Nat) | d => d) (rgD 0 n) s fun x hx s' hl => by
    obtain ⟨k, hk, rfl⟩ := List.mem_map.mp hx
    rw [List.mem_range] at hk
    have := h k hk s'
    refine ⟨s', ?_, .refl _⟩
    rw [show (0 : Int) + (k : Int) = (k : Int) by omega, this]
    simp
  refine ⟨s1, ?_, l1⟩
  rw [e1]
  congr 1
  unfold rgD
  rw [List.map_map, List.map_map]
  refine List.map_congr_left fun k hk => ?_
  simp
theorem run_number_in (L : Nat) (w : List Int) (r : Nat) (s : Sto) (hL : LL L) (h : Ok L w r) (hw : w.length ≤ 1000) : Ev (m_number_in [.int L, tw w] s) s (.int (T L w.length + r : Nat)) := by
  have hp := hL.pos
  obtain ⟨s1, e1, l1⟩ := sum_many (f := turnC (gVar 3) none e_number_in_1 [some (.int L), some (tw w), none, none, none, none, none]) L w.length s (fun k hk s' => by
    have := run_walks_of L k s' hL (by omega)
    simp [e_number_in_1, this])
  have hz : (((List.range w.length).map fun j => (N L j : Int)).map D.int).length ≤ sizeLine := by simp [size_eq]; omega
  have hn := newL_ok' s1 hz
  have g1 := get_add_same s1 (.lst (((List.range w.length).map fun j => (N L j : Int)).map D.int))
  have su := sum_r _ g1
  rw [T_sum] at su
  have l2 : Le s1 (s1.add (.lst (((List.range w.length).map fun j => (N L j : Int)).map D.int))) := .add _ _
  generalize s1.add (.lst (((List.range w.length).map fun j => (N L j : Int)).map D.int)) = s2 at *
  refine Exists.elim (forIts_inv (b := bodyF (gTup 2 (gsCons (gVar 4) (gsCons (gVar 5) gsNil))) b_number_in_2)
    (fun k env s' => Le s s' ∧ ∃ rk z4 z5 z6, Ok L (w.take k) rk ∧ env = [some (.int L), some (tw w), some (.int (T L w.length + rk * (2 * L - 1) ^ (w.length - k) : Nat)), none, z4, z5, z6])
    (enumD (w.map .int)) 0 [some (.int L), some (tw w), some (.int (T L w.length : Nat)), none, none, none, none] s2 ⟨l1.trans l2, 0, none, none, none, .nil, by simp⟩ ?step) ?rest
  case rest =>
    rintro env ⟨s', e, hl, rk, z4, z5, z6, hk, rfl⟩
    have el : (enumD (w.map D.int)).length = w.length := by simp [enumD]
    rw [el, Nat.zero_add, Nat.sub_self, Nat.pow_zero, Nat.mul_one] at e
    rw [el, Nat.zero_add, List.take_length] at hk
    have := h.det hL hk
    subst this
    have b1 : bigI (w.length : Int) = true := bigI_of (by omega)
    refine ⟨s', ?_, hl⟩
    simp only [m_number_in, b_number_in, fnB_eq, List.length_cons, List.length_nil, List.map_cons, List.map_nil, List.cons_append, List.nil_append, Nat.reduceAdd, Nat.reduceSub, List.replicate, if_true, s_Cons, s_Asg, v_Bi, a_Cons, a_Nil, v_Comp, i_Rg1, v_Var, List.getElem?_cons_zero, List.getElem?_cons_succ, getV_some, bind_ok', len_tup, List.length_map, rg1W_ok, b1, Int.toNat_natCast, goWk_its, wipeE_nil, wipeE_cons, List.set_cons_zero, List.set_cons_succ, e1, hn, su, st_ok', g_Var, then_nx, s_For, i_Enum, enW_ok, wkS_its, e, s_Ret, then_rt, fnR_rt]
  case step =>
    rintro k x env s3 hx ⟨hl, rk, z4, z5, z6, hk, rfl⟩
    rw [Nat.zero_add] at *
    obtain ⟨y, hy, rfl⟩ := enumD_at hx
    obtain ⟨n, hn, rfl⟩ := map_at hy
    have hkl := (List.getElem?_eq_some_iff.mp hn).1
    obtain ⟨rk1, hk1⟩ := h.take (k + 1)
    rw [take_last hn] at hk1
    obtain ⟨r0, i, h0, hs, rfl⟩ := hk1.unsnoc
    have := h0.det hL hk
    subst this
    obtain ⟨j, s4, e4, g4, l4, n4, n5⟩ := run_steps_behind L (w.take k) s3 hL
    have ei := index_r g4 (sb_find hL hs)
    have eb := run_behind_w L (w.length - k - 1) s4 hL (by omega)
    have c1 : cutI w none (some (k : Int)) = w.take k := cut_to rfl
    have hi := (List.getElem?_eq_some_iff.mp hs).1
    have hi2 : (sb L (w.take k).getLast?).length ≤ 8 := by
      have := List.length_filter_le (fun s => !((w.take k).getLast? == some (-s))) (St L)
      rw [St_len] at this; show (List.filter _ _).length ≤ 8; omega
    have m1 : ∀ y : Int, mulOk (i : Int) y = true := fun y => mulOk_l (by omega)
    have e5 : (w.length : Int) - (k : Int) - 1 = ((w.length - k - 1 : Nat) : Int) := by omega
    have e6 : (T L w.length + r0 * (2 * L - 1) ^ (w.length - k) : Nat) + (i : Int) * (((2 * L - 1) ^ (w.length - k - 1) : Nat) : Int) = ((T L w.length + (r0 * (2 * L - 1) + i) * (2 * L - 1) ^ (w.length - (k + 1)) : Nat) : Int) := by
      rw [show w.length - k - 1 = w.length - (k + 1) by omega, ← Int.natCast_mul, ← Int.natCast_add]
      congr 1
      rw [Nat.add_mul, show w.length - k = (w.length - (k + 1)) + 1 by omega, Nat.pow_succ, Nat.mul_assoc, Nat.mul_comm (2 * L - 1), Nat.add_assoc]
    refine ⟨[some (.int L), some (tw w), some (.int (T L w.length + (r0 * (2 * L - 1) + i) * (2 * L - 1) ^ (w.length - (k + 1)) : Nat)), none, some (.int k), some (.int n), some (.int i)], s4, .inl ?_, hl.trans l4, _, _, _, _, by rw [take_last hn]; exact hk1, rfl⟩
    simp only [bodyF_eq, g_Tup, List.length_cons, List.length_nil, Nat.reduceAdd, if_true, gs_Cons, g_Var, bind_ok', gs_Nil, st_ok', b_number_in_2, s_Cons, s_Asg, v_Meth, v_Call, a_Cons, a_Nil, v_Var, List.getElem?_cons_zero, List.getElem?_cons_succ, List.set_cons_zero, List.set_cons_succ, getV_some, v_Slc, o_No, o_Yes, toO_int, slc_t, cut_map, c1, e4, isL_r _ g4, ei, then_nx, v_Bin, v_Bi, len_tup, List.length_map, v_C, sub_ii, e5, eb, mul_ii, m1, add_ii, e6, s_Nil]
end K01

namespace K01
open PySem Cs
/-- numbers whose walks are short enough -/
def Sml (L n : Nat) : Prop := n < 2 ^ 200 ∧ (L = 1 → n ≤ 1000)
theorem T_ge {L : Nat} (hL : LL L) (k : Nat) : k ≤ T L k ∧ (2 ≤ L → 2 ^ k ≤ T L (k + 1)) := by
  have hp := hL.pos
  have np : ∀ j, 1 ≤ N L j := by
    intro j
    cases j with
    | zero => exact Nat.le_refl _
    | succ j => exact Nat.mul_pos (by omega) (Nat.pow_pos (by omega))
  constructor
  · induction k with
    | zero => exact Nat.zero_le _
    | succ k ih => show k + 1 ≤ T L k + N L k; have := np k; omega
  · intro h2
    show 2 ^ k ≤ T L k + N L k
    have : 2 ^ k ≤ N L k := by
      cases k with
      | zero => exact Nat.le_refl _
      | succ j =>
        show 2 ^ (j + 1) ≤ 2 * L * (2 * L - 1) ^ j
        rw [Nat.pow_succ, Nat.mul_comm]
        exact Nat.mul_le_mul (by omega) (Nat.pow_le_pow_left (by omega) j)
    omega
theorem len_small {L n k : Nat} (hL : LL L) (h : Sml L n) (hk : T L k ≤ n) : k ≤ 1000 := by
  obtain ⟨h1, h2⟩ := T_ge hL k
  by_cases q : L = 1
  · have := h.2 q; omega
  · have hp := hL.pos
    cases k with
    | zero => omega
    | succ k =>
      have := (T_ge hL k).2 (by omega)
      have h3 : 2 ^ k < 2 ^ 200 := by have := h.1; omega
      have := (Nat.pow_lt_pow_iff_right (by decide)).mp h3
      omega
theorem c_lim {L k : Nat} (hL : LL L) (hk : k ≤ 1000) : (2 * L - 1) ^ k < lim4 := by
  have hp := hL.pos
  have h1 : (2 * L - 1) ^ k ≤ (2 ^ 3) ^ k := Nat.pow_le_pow_left (by omega) k
  have h2 : (2 ^ 3) ^ k ≤ (2 ^ 3) ^ 1000 := Nat.pow_le_pow_right (by decide) hk
  have h3 : ((2 : Nat) ^ 3) ^ 1000 = 2 ^ 3000 := (Nat.pow_mul 2 3 1000).symm
  rw [h3] at h2
  exact Nat.lt_of_le_of_lt (Nat.le_trans h1 h2) (Nat.pow_lt_pow_right (by decide) (by decide))
theorem run_walk_at (L n : Nat) (s : Sto) (hL : LL L) (h : Sml L n) : ∃ w, Is L n w ∧ w.length ≤ 1000 ∧ Ev (m_walk_at [.int L, .int n] s) s (tw w) := by
  have hp := hL.pos
  -- how long
  obtain ⟨env, s1, e1, l1, k, hk1, hk2, rfl⟩ := whl_inv (c := c_walk_at_1) (b := b_walk_at_1)
    (fun env s' => s' = s ∧ ∃ k : Nat, T L k ≤ n ∧ env = [some (.int L), some (.int n), some (.int k), some (.int (n - T L k : Nat)), some (.int (N L k : Nat)), none, none, none])
    (fun env s' => s' = s ∧ ∃ k : Nat, T L k ≤ n ∧ n - T L k < N L k ∧ env = [some (.int L), some (.int n), some (.int k), some (.int (n - T L k : Nat)), some (.int (N L k : Nat)), none, none, none])
    (fun env => match env with | [_, _, some (.int k), _, _, _, _, _] => 2000 - k.toNat | _ => 0) 1000000
    [some (.int L), some (.int n), some (.int 0), some (.int n), some (.int 1), none, none, none] s ⟨rfl, 0, Nat.zero_le _, rfl⟩ (by show 2000 - _ < 1000000; omega) (by
      rintro env s1 ⟨rfl, k, hk, rfl⟩
      have hk0 := len_small hL h hk
      by_cases c : N L k ≤ n - T L k
      · have c' : ((N L k : Nat) : Int) ≤ ((n - T L k : Nat) : Int) := Int.ofNat_le.mpr c
        have ew := run_walks_of L (k + 1) s1 hL (by omega)
        have e2 : (k : Int) + 1 = ((k + 1 : Nat) : Int) := rfl
        have e3 : ((n - T L k : Nat) : Int) - ((N L k : Nat) : Int) = ((n - T L (k + 1) : Nat) : Int) := by
          show _ = ((n - (T L k + N L k) : Nat) : Int)
          omega
        have hk' : T L (k + 1) ≤ n := by show T L k + N L k ≤ n; omega
        have hk1 := len_small hL h hk'
        refine .inr ⟨s1, [some (.int L), some (.int n), some (.int ((k + 1 : Nat) : Int)), some (.int (n - T L (k + 1) : Nat)), some (.int (N L (k + 1) : Nat)), none, none, none], s1, ?_, .inl ?_, ⟨rfl, k + 1, hk', rfl⟩, ?_⟩
        · simp only [c_walk_at_1, t_Bin, v_Var, List.getElem?_cons_zero, List.getElem?_cons_succ, getV_some, bind_ok', ltI_ii, truth_bl, c', decide_true]
        · simp only [b_walk_at_1, s_Cons, s_Par, a_Cons, a_Nil, v_Bin, v_Var, v_C, List.getElem?_cons_zero, List.getElem?_cons_succ, getV_some, bind_ok', sub_ii, add_ii, e2, e3, st_ok', par2_ok, List.set_cons_zero, List.set_cons_succ, then_nx, s_Asg, v_Call, ew, g_Var, s_Nil]
        · show 2000 - (((k + 1 : Nat) : Int)).toNat < 2000 - ((k : Int)).toNat
          omega
      · have c' : ¬ ((N L k : Nat) : Int) ≤ ((n - T L k : Nat) : Int) := fun q => c (Int.ofNat_le.mp q)
        refine .inl ⟨s1, ?_, rfl, k, hk, by omega, rfl⟩
        simp only [c_walk_at_1, t_Bin, v_Var, List.getElem?_cons_zero, List.getElem?_cons_succ, getV_some, bind_ok', ltI_ii, truth_bl, c', decide_false])
  subst l1
  have hk0 := len_small hL h hk1
  -- its steps
  obtain ⟨env, s2, e2, l2, u, ru, l, z6, z7, hu, hul, hlt, hsum, rfl⟩ := forIts_inv (b := bodyF (gVar 6) b_walk_at_2)
    (fun i env s' => Le s1 s' ∧ ∃ (u : List Int) (ru l : Nat) (z6 z7 : Option D), Ok L u ru ∧ u.length = i ∧ l < (if i = 0 then N L k else (2 * L - 1) ^ (k - i)) ∧ ru * (2 * L - 1) ^ (k - i) + l = n - T L k ∧
      env = [some (.int L), some (.int n), some (.int k), some (.int l), some (.int (N L k : Nat)), some (tw u), z6, z7])
    (rgD 0 k) 0 [some (.int L), some (.int n), some (.int k), some (.int (n - T L k : Nat)), some (.int (N L k : Nat)), some (tw []), none, none] s1
    ⟨.refl _, [], 0, n - T L k, none, none, .nil, rfl, hk2, by rw [Nat.zero_mul, Nat.zero_add], rfl⟩ (by
      rintro i x env s2 hx ⟨hl, u, ru, l, z6, z7, hu, hul, hlt, hsum, rfl⟩
      obtain ⟨hi, rfl⟩ := rgD_at hx
      rw [Nat.zero_add] at *
      have hc : 0 < (2 * L - 1) ^ (k - i - 1) := Nat.pow_pos (by omega)
      have eb := run_behind_w L (k - i - 1) s2 hL (by omega)
      obtain ⟨j, s3, e3, g3, l3, n3, n3'⟩ := run_steps_behind L u s2 hL
      have hpow : (2 * L - 1) ^ (k - i) = (2 * L - 1) * (2 * L - 1) ^ (k - i - 1) := by
        rw [show k - i = (k - i - 1) + 1 by omega, Nat.pow_succ, Nat.mul_comm]; rfl
      have hq : l / (2 * L - 1) ^ (k - i - 1) < (sb L u.getLast?).length := by
        refine Nat.div_lt_of_lt_mul ?_
        cases hw : u.getLast? with
        | none =>
          have e : u = [] := List.getLast?_eq_none_iff.mp hw
          have : i = 0 := by rw [← hul, e]; rfl
          subst this
          rw [if_pos rfl] at hlt
          rw [(sb_len hL).1, Nat.mul_comm]
          obtain ⟨k', rfl⟩ : ∃ k', k = k' + 1 := ⟨k - 1, by omega⟩
          exact hlt
        | some y =>
          have : i ≠ 0 := by rw [← hul]; intro q; rw [List.length_eq_zero_iff.mp q] at hw; cases hw
          rw [if_neg this] at hlt
          rw [(sb_len hL).2 y (hu.mem y (last_mem hw)), Nat.mul_comm, ← hpow]
          exact hlt
      obtain ⟨x, hx'⟩ : ∃ x, (sb L u.getLast?)[l / (2 * L - 1) ^ (k - i - 1)]? = some x := ⟨_, List.getElem?_eq_getElem hq⟩
      have ex : L2.atI ((sb L u.getLast?).map D.int) ((l / (2 * L - 1) ^ (k - i - 1) : Nat) : Int) = some (.int x) := atI_at rfl hx'
      have f1 : (k : Int) - (0 + (i : Int)) - 1 = ((k - i - 1 : Nat) : Int) := by omega
      have f2 : (l : Int) / (((2 * L - 1) ^ (k - i - 1) : Nat) : Int) = ((l / (2 * L - 1) ^ (k - i - 1) : Nat) : Int) := (Int.natCast_ediv _ _).symm
      have f3 : (l : Int) % (((2 * L - 1) ^ (k - i - 1) : Nat) : Int) = ((l % (2 * L - 1) ^ (k - i - 1) : Nat) : Int) := (Int.natCast_emod _ _).symm
      have f4 : (0 : Int) < (((2 * L - 1) ^ (k - i - 1) : Nat) : Int) := Int.natCast_pos.mpr hc
      have f5 : ((((2 * L - 1) ^ (k - i - 1) : Nat) : Int)).natAbs < lim4 := by rw [Int.natAbs_natCast]; exact c_lim hL (by omega)
      have f6 : u.length + (0 + 1) ≤ 16777216 := by omega
      have f8 : (0 + 1 : Nat) ≤ 16777216 := by decide
      have f7 : D.tup (u.map D.int ++ [D.int x]) = tw (u ++ [x]) := by rw [tw, List.map_append]; rfl
      refine ⟨[some (.int L), some (.int n), some (.int k), some (.int (l % (2 * L - 1) ^ (k - i - 1) : Nat)), some (.int (N L k : Nat)), some (tw (u ++ [x])), some (.int (0 + (i : Int))), some (.int ((2 * L - 1) ^ (k - i - 1) : Nat))], s3, .inl ?_, hl.trans l3, _, _, _, _, _, hu.snoc hx', by rw [List.length_append, hul]; rfl, ?_, ?_, rfl⟩
      · simp only [bodyF_eq, b_walk_at_2, g_Var, st_ok', s_Cons, s_Asg, v_Call, a_Cons, a_Nil, v_Var, v_Bin, v_C, List.getElem?_cons_zero, List.getElem?_cons_succ, List.set_cons_zero, List.set_cons_succ, getV_some, bind_ok', sub_ii, f1, eb, then_nx, v_Tup, e3, fdiv_ii, f2, f4, f5, and_self, if_true, ix_r _ g3, ex, okO_some, List.length_cons, List.length_nil, size_eq, f8, add_tt, List.length_map, f6, f7, mod_ii, f3, s_Nil]
      · rw [if_neg (by omega), show k - (i + 1) = k - i - 1 by omega]
        exact Nat.mod_lt _ hc
      · rw [show k - (i + 1) = k - i - 1 by omega, Nat.add_mul, Nat.mul_assoc, ← hpow, ← hsum, Nat.add_assoc]
        congr 1
        rw [Nat.mul_comm]
        exact Nat.div_add_mod _ _)
  have el : (rgD 0 k).length = k := by simp [rgD]
  rw [el, Nat.zero_add] at hul hlt hsum
  have hl0 : l = 0 := by
    by_cases q : k = 0
    · subst q; rw [if_pos rfl] at hlt; simp [N] at hlt; exact hlt
    · rw [if_neg q, Nat.sub_self, Nat.pow_zero] at hlt; omega
  refine ⟨u, ⟨ru, hu, ?_⟩, by omega, s2, ?_, l2⟩
  · rw [Nat.sub_self, Nat.pow_zero, Nat.mul_one] at hsum; rw [hul]; omega
  · have b1 : bigI (k : Int) = true := bigI_of (by omega)
    have e0 : sWhl c_walk_at_1 b_walk_at_1 [some (.int L), some (.int n), some (.int 0), some (.int n), some (.int 1), none, none, none] s1 = _ := e1
    have e2' : forIts (bodyF (gVar 6) b_walk_at_2) (rgD 0 k) [some (.int L), some (.int n), some (.int k), some (.int (n - T L k : Nat)), some (.int (N L k : Nat)), some (.tup []), none, none] s1 = _ := e2
    simp only [m_walk_at, b_walk_at, fnB_eq, List.length_cons, List.length_nil, List.map_cons, List.map_nil, List.cons_append, List.nil_append, Nat.reduceAdd, Nat.reduceSub, List.replicate, if_true, s_Cons, s_Par3, a_Cons, a_Nil, v_C, v_Var, List.getElem?_cons_zero, List.getElem?_cons_succ, getV_some, bind_ok', st_ok', par3_ok, List.set_cons_zero, List.set_cons_succ, then_nx, e0, s_Asg, v_Tup, Nat.zero_le, g_Var, s_For, i_Rg1, rg1W_ok, b1, Int.toNat_natCast, wkS_its, e2', s_Ret, then_rt, fnR_rt]
end K01

namespace K01
open PySem Cs
/-- a loop over a list of the store that may break -/
theorem forLive_brk {b : D → Cs.Env → Sto → RS} (P : Nat → Cs.Env → Sto → Prop) (Q : Cs.Env → Sto → Prop) {i : Nat} {xs : List D} (hP : ∀ k env s, P k env s → s.get i = some (.lst xs)) : ∀ (f k : Nat) (env : Cs.Env) (s : Sto), P k env s → xs.length - k < f → k ≤ xs.length →
    (∀ k x env s, xs[k]? = some x → P k env s → (∃ env' s', (b x env s = .nx env' s' ∨ b x env s = .ct env' s') ∧ P (k + 1) env' s') ∨ ∃ env' s', b x env s = .bk env' s' ∧ Q env' s') →
    (∃ env' s', forLive b i f k env s = .nx env' s' ∧ P xs.length env' s') ∨ ∃ env' s', forLive b i f k env s = .nx env' s' ∧ Q env' s'
  | 0, k, env, s, _, hf, _, _ => absurd hf (Nat.not_lt_zero _)
  | f + 1, k, env, s, h, hf, hk, hs => by
    by_cases hj : k < xs.length
    · have go : ∀ r, (b xs[k] env s).turn (forLive b i f (k + 1)) = r → forLive b i (f + 1) k env s = r := by
        intro r hr
        unfold forLive
        rw [hP _ _ _ h]
        dsimp only
        rw [List.getElem?_eq_getElem hj]
        exact hr
      rcases hs k xs[k] env s (List.getElem?_eq_getElem hj) h with ⟨e1, s1, h1, p1⟩ | ⟨e1, s1, h1, q1⟩
      · have go2 : (b xs[k] env s).turn (forLive b i f (k + 1)) = forLive b i f (k + 1) e1 s1 := by
          rcases h1 with h1 | h1 <;> rw [h1] <;> rfl
        rcases forLive_brk P Q hP f (k + 1) e1 s1 p1 (by omega) (by omega) hs with ⟨e2, s2, h2, p2⟩ | ⟨e2, s2, h2, q2⟩
        · exact .inl ⟨e2, s2, go _ (go2.trans h2), p2⟩
        · exact .inr ⟨e2, s2, go _ (go2.trans h2), q2⟩
      · exact .inr ⟨e1, s1, go _ (by rw [h1]; rfl), q1⟩
    · refine .inl ⟨env, s, ?_, by rw [show xs.length = k by omega]; exact h⟩
      unfold forLive
      rw [hP _ _ _ h]
      dsimp only
      rw [List.getElem?_eq_none (by omega)]
/-- the steps that pass a test, drawn from a list of the store -/
theorem comp_filter {i j : Nat} {c e : Sem} {env : Cs.Env} {S : List Int} {s : Sto} (p : Int → Bool) (hj : j < s.n) (hg : s.get j = some (.lst (S.map .int))) (hS : S.length ≤ 1000)
    (h : ∀ x ∈ S, ∀ s', c.t (env.set i (some (.int x))) s' = .ok (p x) s' ∧ e.v (env.set i (some (.int x))) s' = .ok (.int x) s') :
    Ev (goWk (turnC (gVar i) (some c) e env) (.live j) s) s ((S.filter p).map .int) := by
  have := goWk_live_fun (f := turnC (gVar i) (some c) e env) (fun d => match d with | .int x => if p x then some (D.int x) else none | d => none) s hj hg (by rw [List.length_map]; omega) (by
    intro x hx s' hl
    obtain ⟨n, hn, rfl⟩ := List.mem_map.mp hx
    obtain ⟨h1, h2⟩ := h n hn s'
    refine ⟨s', ?_, .refl _⟩
    simp only [turnC_some, g_Var, bind_ok', h1, h2]
    cases p n <;> rfl)
  obtain ⟨s1, e1, l1⟩ := this
  exact ⟨s1, e1.trans (congrArg (fun z => R.ok z s1) (fm_filter p S)), l1⟩
/-- may x stand behind the first k steps? -/
theorem test_eq {w : List Int} {k : Nat} (hk : k ≤ w.length) (x : Int) : (((k : Int) == 0) || !(x == -(w.getD (k - 1) 0))) = !((w.take k).getLast? == some (-x)) := by
  cases k with
  | zero => rfl
  | succ k =>
    have hn := getD_at (w := w) (i := k) (by omega)
    rw [take_last hn, List.getLast?_concat]
    have e1 : (((k + 1 : Nat) : Int) == 0) = false := beq_eq_false_iff_ne.mpr (by omega)
    rw [e1, Bool.false_or, Nat.add_sub_cancel]
    congr 1
    rw [Bool.eq_iff_iff]
    simp only [beq_iff_eq, Option.some.injEq]
    omega
theorem run_law_least (L : Nat) (w : List Int) (r n : Nat) (s : Sto) (hL : LL L) (h : Ok L w r) (hn : w.length ≤ n) (hn2 : n ≤ 2000) : Ev (m__law_least [.int L, tw w, .int n] s) s (tw (lead L w (n - w.length))) := by
  have hp := hL.pos
  refine Exists.elim (forIts_inv (b := bodyF (gVar 4) b__law_least_1)
    (fun k env s' => Le s s' ∧ ∃ z, env = [some (.int L), some (tw w), some (.int n), some (tw (lead L w k)), z, none])
    (rgD 0 (n - w.length)) 0 [some (.int L), some (tw w), some (.int n), some (tw w), none, none] s ⟨.refl _, none, rfl⟩ ?step) ?rest
  case rest =>
    rintro env ⟨s', e, hl, z, rfl⟩
    have el : (rgD 0 (n - w.length)).length = n - w.length := by simp [rgD]
    rw [el, Nat.zero_add] at e
    have b1 : bigI ((n : Int) - (w.length : Int)) = true := bigI_of (by omega)
    have e3 : ((n : Int) - (w.length : Int)).toNat = n - w.length := by omega
    refine ⟨s', ?_, hl⟩
    simp [m__law_least, b__law_least, fnB_eq, b1, e3, e]
  case step =>
    rintro k x env s1 hx ⟨hl, z, rfl⟩
    obtain ⟨hk, rfl⟩ := rgD_at hx
    rw [Nat.zero_add] at *
    have hok := h.lead hL k
    obtain ⟨y, hy⟩ := hok.least hL
    have hy' : lead L w (k + 1) = lead L w k ++ [y] := by show lead L w k ++ [((sb L (lead L w k).getLast?)[0]?).getD 0] = _; rw [hy]; rfl
    rw [hy']
    obtain ⟨j, s2, e2, g2, l2, n2, n2'⟩ := run_law_steps L s1 hL
    have hll := lead_len L w k
    generalize lead L w k = u at *
    have et : ∀ (i : Int) (s' : Sto), c__law_least_2.t [some (.int L), some (tw w), some (.int n), some (tw u), some (.int (0 + (k : Int))), some (.int i)] s' = .ok (!(u.getLast? == some (-i))) s' := by
      intro i s'
      have eq := neD_tw (u.getLast?.toList) [-i] s'
      rw [last_eq] at eq
      have eq : neD (tw (u.getLast?.toList)) (.tup [.int (-i)]) s' = _ := eq
      simp only [c__law_least_2, t_Bin, v_Slc, v_Var, List.getElem?_cons_zero, List.getElem?_cons_succ, getV_some, bind_ok', o_Yes, v_Un, v_C, neg_i, toO_int, o_No, slc_t, cut_map, cut_last, v_Tup, a_Cons, a_Nil, List.length_cons, List.length_nil, size_eq]
      rw [if_pos (by decide)]
      simp only [bind_ok', eq, truth_bl]
    obtain ⟨s3, e3, l3⟩ := comp_filter (i := 5) (c := c__law_least_2) (e := e__law_least_2) (env := [some (.int L), some (tw w), some (.int n), some (tw u), some (.int (0 + (k : Int))), none]) (fun x => !(u.getLast? == some (-x))) n2' g2 (by rw [St_len]; omega) (by
      intro x hx s'
      exact ⟨et x s', by simp [e__law_least_2]⟩)
    have e3 : goWk _ _ s2 = .ok ((sb L u.getLast?).map .int) s3 := e3
    have hz : ((sb L u.getLast?).map D.int).length ≤ sizeLine := by
      rw [List.length_map, size_eq]
      have : (sb L u.getLast?).length ≤ (St L).length := List.length_filter_le _ _
      rw [St_len] at this; omega
    have n3 := newL_ok' s3 hz
    have g4 := get_add_same s3 (.lst ((sb L u.getLast?).map .int))
    have l4 : Le s3 (s3.add (.lst ((sb L u.getLast?).map .int))) := .add _ _
    generalize s3.add (.lst ((sb L u.getLast?).map .int)) = s4 at *
    have ex : L2.atI ((sb L u.getLast?).map D.int) 0 = some (.int y) := atI_at (j := 0) rfl hy
    have f6 : u.length + (0 + 1) ≤ 16777216 := by omega
    have f8 : (0 + 1 : Nat) ≤ 16777216 := by decide
    have f7 : D.tup (u.map D.int ++ [D.int y]) = tw (u ++ [y]) := by rw [tw, List.map_append]; rfl
    refine ⟨[some (.int L), some (tw w), some (.int n), some (tw (u ++ [y])), some (.int (0 + (k : Int))), none], s4, .inl ?_, ((hl.trans l2).trans l3).trans l4, _, rfl⟩
    simp only [bodyF_eq, b__law_least_1, g_Var, st_ok', s_Cons, s_Asg, v_Call, a_Cons, a_Nil, v_Var, v_Bin, v_C, List.getElem?_cons_zero, List.getElem?_cons_succ, List.set_cons_zero, List.set_cons_succ, getV_some, bind_ok', v_Tup, v_Comp, i_Seq, e2, seqW_ref g2, wipeE_nil, wipeE_cons, e3, n3, ix_r _ g4, ex, okO_some, List.length_cons, List.length_nil, size_eq, f8, if_true, add_tt, List.length_map, f6, f7, then_nx, s_Nil]
end K01

namespace K01
open PySem Cs
/-- the place among those that may stand, counted -/
theorem count_at {p : Int → Bool} {S : List Int} {k i : Nat} {s : Int} (hd : (S.filter p).Nodup) (hk : S[k]? = some s) (hp : p s = true) (hi : (S.filter p)[i]? = some s) : ((S.take k).filter p).length = i := by
  have e : S = S.take k ++ s :: S.drop (k + 1) := by
    obtain ⟨h1, h2⟩ := List.getElem?_eq_some_iff.mp hk
    have := List.drop_eq_getElem_cons h1
    rw [h2] at this
    rw [← this, List.take_append_drop]
  have e2 : S.filter p = (S.take k).filter p ++ s :: (S.drop (k + 1)).filter p := by
    conv => lhs; rw [e]
    rw [List.filter_append, List.filter_cons, if_pos hp]
  have h3 : (S.filter p)[((S.take k).filter p).length]? = some s := by
    rw [e2, List.getElem?_append_right (Nat.le_refl _), Nat.sub_self]; rfl
  obtain ⟨a1, a2⟩ := List.getElem?_eq_some_iff.mp hi
  obtain ⟨b1, b2⟩ := List.getElem?_eq_some_iff.mp h3
  have key := List.pairwise_iff_getElem.mp hd
  rcases Nat.lt_trichotomy ((S.take k).filter p).length i with q | q | q
  · exact absurd (b2.trans a2.symm) (key _ _ b1 a1 q)
  · exact q
  · exact absurd (a2.trans b2.symm) (key _ _ a1 b1 q)
theorem run_law_ahead (L : Nat) (w : List Int) (r : Nat) (s : Sto) (hL : LL L) (h : Ok L w r) (hw : w.length ≤ 1000) : Ev (m__law_ahead [.int L, tw w] s) s (.int (T L w.length + r : Nat)) := by
  have hp := hL.pos
  obtain ⟨s1, e1, l1⟩ := sum_many (f := turnC (gVar 3) none e__law_ahead_1 [some (.int L), some (tw w), none, none, none, none]) L w.length s (fun k hk s' => by
    have := run_law_many L k s' hL (by omega)
    simp [e__law_ahead_1, this])
  have hz : (((List.range w.length).map fun j => (N L j : Int)).map D.int).length ≤ sizeLine := by simp [size_eq]; omega
  have hn := newL_ok' s1 hz
  have g1 := get_add_same s1 (.lst (((List.range w.length).map fun j => (N L j : Int)).map D.int))
  have su := sum_r _ g1
  rw [T_sum] at su
  have l2 : Le s1 (s1.add (.lst (((List.range w.length).map fun j => (N L j : Int)).map D.int))) := .add _ _
  generalize s1.add (.lst (((List.range w.length).map fun j => (N L j : Int)).map D.int)) = s2 at *
  refine Exists.elim (forIts_inv (b := bodyF (gVar 4) b__law_ahead_2)
    (fun k env s' => Le s s' ∧ ∃ rk z4 z5, Ok L (w.take k) rk ∧ env = [some (.int L), some (tw w), some (.int (T L w.length + rk * (2 * L - 1) ^ (w.length - k) : Nat)), none, z4, z5])
    (rgD 0 w.length) 0 [some (.int L), some (tw w), some (.int (T L w.length : Nat)), none, none, none] s2 ⟨l1.trans l2, 0, none, none, .nil, by simp⟩ ?step) ?rest
  case rest =>
    rintro env ⟨s', e, hl, rk, z4, z5, hk, rfl⟩
    have el : (rgD 0 w.length).length = w.length := by simp [rgD]
    rw [el, Nat.zero_add, Nat.sub_self, Nat.pow_zero, Nat.mul_one] at e
    rw [el, Nat.zero_add, List.take_length] at hk
    have := h.det hL hk
    subst this
    have b1 : bigI (w.length : Int) = true := bigI_of (by omega)
    refine ⟨s', ?_, hl⟩
    simp only [m__law_ahead, b__law_ahead, fnB_eq, List.length_cons, List.length_nil, List.map_cons, List.map_nil, List.cons_append, List.nil_append, Nat.reduceAdd, Nat.reduceSub, List.replicate, if_true, s_Cons, s_Asg, v_Bi, a_Cons, a_Nil, v_Comp, i_Rg1, v_Var, List.getElem?_cons_zero, List.getElem?_cons_succ, getV_some, bind_ok', len_tup, List.length_map, rg1W_ok, b1, Int.toNat_natCast, goWk_its, wipeE_nil, wipeE_cons, List.set_cons_zero, List.set_cons_succ, e1, hn, su, st_ok', g_Var, then_nx, s_For, wkS_its, e, s_Ret, then_rt, fnR_rt]
  case step =>
    rintro k x env s3 hx ⟨hl, rk, z4, z5, hk, rfl⟩
    obtain ⟨hkl, rfl⟩ := rgD_at hx
    rw [Nat.zero_add, Int.zero_add] at *
    have hn : w[k]? = some (w.getD k 0) := getD_at hkl
    generalize w.getD k 0 = n at hn
    obtain ⟨rk1, hk1⟩ := h.take (k + 1)
    rw [take_last hn] at hk1
    obtain ⟨r0, i, h0, hs, rfl⟩ := hk1.unsnoc
    have := h0.det hL hk
    subst this
    obtain ⟨j, s4, e4, g4, l4, n4, n5⟩ := run_law_steps L s3 hL
    have hmem := sb_mem (List.mem_of_getElem? hs)
    have hps : (!((w.take k).getLast? == some (-n))) = true := by
      have := hmem.2
      simp only [Bool.not_eq_true', beq_eq_false_iff_ne]
      exact this
    have ixw : L2.atI (w.map D.int) (k : Int) = some (.int n) := atI_at rfl hn
    let each := (2 * L - 1) ^ (w.length - k - 1)
    let f0 := T L w.length + r0 * (2 * L - 1) ^ (w.length - k)
    have lv := forLive_brk (b := bodyF (gVar 5) b__law_ahead_3)
      (fun m env s' => Le s4 s' ∧ (∀ q, q < m → (St L)[q]? ≠ some n) ∧ ∃ z, env = [some (.int L), some (tw w), some (.int (f0 + (((St L).take m).filter fun y => !((w.take k).getLast? == some (-y))).length * each : Nat)), none, some (.int k), z])
      (fun env s' => Le s4 s' ∧ ∃ z, env = [some (.int L), some (tw w), some (.int (f0 + i * each : Nat)), none, some (.int k), z])
      (i := j) (xs := (St L).map .int) (fun m env s' q => by rw [q.1.get j n5]; exact g4) 1000000 0
      [some (.int L), some (tw w), some (.int f0), none, some (.int k), z5] s4 ⟨.refl _, fun q hq => absurd hq (Nat.not_lt_zero _), z5, by simp⟩
      (by rw [List.length_map, St_len]; omega) (Nat.zero_le _) (by
        rintro m x env s5 hx ⟨hl5, hno, z, rfl⟩
        obtain ⟨y, hy, rfl⟩ := map_at hx
        by_cases c : y = n
        · subst c
          have ec := count_at (p := fun y => !((w.take k).getLast? == some (-y))) (S := St L) (sb_nodup hL _) hy hps hs
          refine .inr ⟨[some (.int L), some (tw w), some (.int (f0 + i * each : Nat)), none, some (.int k), some (.int y)], s5, ?_, hl5, _, rfl⟩
          rw [ec]
          simp only [bodyF_eq, b__law_ahead_3, g_Var, st_ok', List.set_cons_zero, List.set_cons_succ, s_Cons, s_If, t_Bin, v_Var, v_Bin, List.getElem?_cons_zero, List.getElem?_cons_succ, getV_some, bind_ok', ix_t, ixw, okO_some, eqD_ii, beq_self_eq_true, truth_bl, if_true, s_Brk, then_bk]
        · have ct : (y == n) = false := beq_eq_false_iff_ne.mpr c
          have hno' : ∀ q, q < m + 1 → (St L)[q]? ≠ some n := by
            intro q hq
            by_cases e : q = m
            · subst e; rw [hy]; exact fun z => c (Option.some.inj z)
            · exact hno q (by omega)
          have tk : (St L).take (m + 1) = (St L).take m ++ [y] := take_last hy
          have et := test_eq (w := w) (k := k) (by omega) y
          have ek : (eqD (.int k) (.int 0) s5) = .ok (.bl ((k : Int) == 0)) s5 := eqD_ii _ _ _
          have eb := run_law_times L (w.length - k - 1) s5 hL (by omega)
          have e5 : (w.length : Int) - (k : Int) - 1 = ((w.length - k - 1 : Nat) : Int) := by omega
          -- the two tests, one after the other
          have tt : (xOr (xBin eqD (xVar 4) (xC (.int 0))) (xBin neD (xVar 5) (xUn negD (xBin ixD (xVar 1) (xBin subD (xVar 4) (xC (.int 1))))))).t [some (.int L), some (tw w), some (.int (f0 + (((St L).take m).filter fun y => !((w.take k).getLast? == some (-y))).length * each : Nat)), none, some (.int k), some (.int y)] s5 = .ok (!((w.take k).getLast? == some (-y))) s5 := by
            rw [← et]
            by_cases z : k = 0
            · subst z
              simp only [t_Or, t_Bin, v_Var, v_C, List.getElem?_cons_zero, List.getElem?_cons_succ, getV_some, bind_ok', eqD_ii, truth_bl]
              rfl
            · have e0 : ((k : Int) == 0) = false := beq_eq_false_iff_ne.mpr (by omega)
              have ix2 : L2.atI (w.map D.int) ((k : Int) - 1) = some (.int (w.getD (k - 1) 0)) := atI_at (by omega) (getD_at (by omega))
              simp only [t_Or, t_Bin, v_Var, v_C, v_Bin, v_Un, List.getElem?_cons_zero, List.getElem?_cons_succ, getV_some, bind_ok', eqD_ii, truth_bl, e0, Bool.false_eq_true, if_false, sub_ii, ix_t, ix2, okO_some, neg_i, neD_ii, Bool.false_or]
          refine .inl ⟨[some (.int L), some (tw w), some (.int (f0 + (((St L).take (m + 1)).filter fun y => !((w.take k).getLast? == some (-y))).length * each : Nat)), none, some (.int k), some (.int y)], s5, .inl ?_, hl5, hno', _, rfl⟩
          rw [tk, List.filter_append, List.length_append, List.filter_cons]
          by_cases z : (!((w.take k).getLast? == some (-y))) = true
          · rw [if_pos z]
            have e6 : (f0 + (((St L).take m).filter fun y => !((w.take k).getLast? == some (-y))).length * each : Nat) + (((2 * L - 1) ^ (w.length - k - 1) : Nat) : Int) = ((f0 + ((((St L).take m).filter fun y => !((w.take k).getLast? == some (-y))).length + (0 + 1)) * each : Nat) : Int) := by
              rw [← Int.natCast_add, Nat.add_mul, Nat.zero_add, Nat.one_mul, ← Nat.add_assoc]
            simp only [bodyF_eq, b__law_ahead_3, g_Var, st_ok', List.set_cons_zero, List.set_cons_succ, s_Cons, s_If, tt, z, if_true, t_Bin, v_Var, v_Bin, v_C, List.getElem?_cons_zero, List.getElem?_cons_succ, getV_some, bind_ok', ix_t, ixw, okO_some, eqD_ii, ct, truth_bl, Bool.false_eq_true, if_false, s_Nil, then_nx, s_Asg, v_Call, a_Cons, a_Nil, v_Bi, len_tup, List.length_map, sub_ii, e5, eb, add_ii, List.length_cons, List.length_nil, List.filter_nil]
            rw [e6]
          · rw [if_neg z]
            have z' : (!((w.take k).getLast? == some (-y))) = false := by simpa using z
            simp only [bodyF_eq, b__law_ahead_3, g_Var, st_ok', List.set_cons_zero, List.set_cons_succ, s_Cons, s_If, tt, z', if_true, t_Bin, v_Var, v_Bin, v_C, List.getElem?_cons_zero, List.getElem?_cons_succ, getV_some, bind_ok', ix_t, ixw, okO_some, eqD_ii, ct, truth_bl, Bool.false_eq_true, if_false, s_Nil, then_nx, List.length_nil, List.filter_nil, Nat.add_zero])
    have e6 : f0 + i * each = T L w.length + (r0 * (2 * L - 1) + i) * (2 * L - 1) ^ (w.length - (k + 1)) := by
      show T L w.length + r0 * (2 * L - 1) ^ (w.length - k) + i * (2 * L - 1) ^ (w.length - k - 1) = _
      rw [show w.length - k - 1 = w.length - (k + 1) by omega, Nat.add_mul, show w.length - k = (w.length - (k + 1)) + 1 by omega, Nat.pow_succ, Nat.mul_assoc, Nat.mul_comm (2 * L - 1), Nat.add_assoc]
    rcases lv with ⟨env', s5, e5, hl5, hno, z, rfl⟩ | ⟨env', s5, e5, hl5, z, rfl⟩
    · exfalso
      obtain ⟨q, hq, eq⟩ := List.getElem_of_mem hmem.1
      exact hno q (by rw [List.length_map]; exact hq) (by rw [List.getElem?_eq_getElem hq, eq])
    · refine ⟨_, s5, .inl ?_, (hl.trans l4).trans hl5, _, some (.int k), z, by rw [take_last hn]; exact hk1, by rw [← e6]⟩
      simp only [bodyF_eq, b__law_ahead_2, g_Var, st_ok', List.set_cons_zero, List.set_cons_succ, s_Cons, s_For, i_Seq, v_Call, a_Cons, a_Nil, v_Var, List.getElem?_cons_zero, List.getElem?_cons_succ, getV_some, bind_ok', e4, seqW_ref g4, wkS_live]
      have e5' : forLive (bodyF (gVar 5) b__law_ahead_3) j 1000000 0 [some (.int L), some (tw w), some (.int (T L w.length + r0 * (2 * L - 1) ^ (w.length - k) : Nat)), none, some (.int k), z5] s4 = _ := e5
      rw [e5']
      rfl
end K01

namespace K01
open PySem Cs
theorem neD_rr {s : Sto} {i j : Nat} {xs ys : List Int} (h1 : s.get i = some (.lst (xs.map .int))) (h2 : s.get j = some (.lst (ys.map .int))) : neD (.ref i) (.ref j) s = .ok (.bl (!decide (xs = ys))) s := by
  have e1 : ∀ {i : Nat} {xs : List Int}, s.get i = some (.lst (xs.map .int)) → pyd s 12 (.ref i) = some (.list (xs.map PyData.int)) := by
    intro i xs h
    show (match s.get i with | some (.lst xs) => (mapO (pyd s 11) xs).map PyData.list | _ => none) = _
    rw [h]
    dsimp only
    rw [pyd_ints]; rfl
  unfold neD
  rw [e1 h1, e1 h2]
  show R.ok (D.bl (!PyData.eqv _ _)) s = _
  rw [show PyData.eqv (.list (xs.map PyData.int)) (.list (ys.map PyData.int)) = PyData.eqvAll (xs.map .int) (ys.map .int) by simp [PyData.eqv], eqv_ints]
theorem run_law_next (L : Nat) (w : List Int) (r : Nat) (s : Sto) (hL : LL L) (h : Ok L w r) (hw : w.length ≤ 1000) : ∃ w', Is L (T L w.length + r + 1) w' ∧ w'.length ≤ 1001 ∧ Ev (m__law_next [.int L, tw w] s) s (tw w') := by
  have hp := hL.pos
  have key := forIts_ret (b := bodyF (gVar 2) b__law_next_1)
    (fun j env s' => Le s s' ∧ (if j < w.length ∨ w.length = 0 then ∃ rk, Ok L (w.take (w.length - j)) rk ∧ r + 1 = (rk + 1) * (2 * L - 1) ^ j else r + 1 = N L w.length) ∧ ∃ z2 z3 z5, env = [some (.int L), some (tw w), z2, z3, none, z5])
    (fun d s' => Le s s' ∧ ∃ w', Is L (T L w.length + r + 1) w' ∧ w'.length ≤ 1001 ∧ d = tw w')
    (rgdD ((w.length : Int) - 1) w.length) 0 [some (.int L), some (tw w), none, none, none, none] s
    ⟨.refl _, by rw [if_pos (by omega)]; exact ⟨r, by rw [Nat.sub_zero, List.take_length]; exact h, by rw [Nat.pow_zero, Nat.mul_one]⟩, none, none, none, rfl⟩ (by
      rintro j x env s1 hx ⟨hl, hj, z2, z3, z5, rfl⟩
      obtain ⟨hjl, rfl⟩ := rgdD_at hx
      rw [Nat.zero_add] at *
      rw [if_pos (.inl hjl)] at hj
      obtain ⟨rk, hk, er⟩ := hj
      obtain ⟨a, ha⟩ : ∃ a, w.length = a + 1 + j := ⟨w.length - 1 - j, by omega⟩
      have ea : w.length - j = a + 1 := by omega
      rw [ea] at hk
      have hn : w[a]? = some (w.getD a 0) := getD_at (by omega)
      generalize w.getD a 0 = n at hn
      rw [take_last hn] at hk
      obtain ⟨r0, i, h0, hs, rfl⟩ := hk.unsnoc
      have ei : (w.length : Int) - 1 - (j : Int) = (a : Int) := by omega
      rw [ei]
      -- the steps that may stand here
      obtain ⟨j2, s2, e2, g2, l2, n2, n2'⟩ := run_law_steps L s1 hL
      have et : ∀ (y : Int) (s' : Sto), c__law_next_2.t [some (.int L), some (tw w), some (.int a), z3, some (.int y), z5] s' = .ok (!((w.take a).getLast? == some (-y))) s' := by
        intro y s'
        rw [← test_eq (w := w) (k := a) (by omega) y]
        by_cases z : a = 0
        · subst z
          simp only [c__law_next_2, t_Or, t_Bin, v_Var, v_C, List.getElem?_cons_zero, List.getElem?_cons_succ, getV_some, bind_ok', eqD_ii, truth_bl]
          rfl
        · have e0 : ((a : Int) == 0) = false := beq_eq_false_iff_ne.mpr (by omega)
          have ix2 : L2.atI (w.map D.int) ((a : Int) - 1) = some (.int (w.getD (a - 1) 0)) := atI_at (by omega) (getD_at (by omega))
          simp only [c__law_next_2, t_Or, t_Bin, v_Var, v_C, v_Bin, v_Un, List.getElem?_cons_zero, List.getElem?_cons_succ, getV_some, bind_ok', eqD_ii, truth_bl, e0, Bool.false_eq_true, if_false, sub_ii, ix_t, ix2, okO_some, neg_i, neD_ii, Bool.false_or]
      obtain ⟨s3, e3, l3⟩ := comp_filter (i := 4) (c := c__law_next_2) (e := e__law_next_2) (env := [some (.int L), some (tw w), some (.int a), z3, none, z5]) (fun x => !((w.take a).getLast? == some (-x))) n2' g2 (by rw [St_len]; omega) (by
        intro x hx s'
        exact ⟨et x s', by simp [e__law_next_2]⟩)
      have e3 : goWk _ _ s2 = .ok ((sb L (w.take a).getLast?).map .int) s3 := e3
      have hb8 : (sb L (w.take a).getLast?).length ≤ 8 := by
        have : (sb L (w.take a).getLast?).length ≤ (St L).length := List.length_filter_le _ _
        rw [St_len] at this; omega
      have n3 := newL_ok' s3 (xs := (sb L (w.take a).getLast?).map D.int) (by rw [List.length_map, size_eq]; omega)
      have g4 := get_add_same s3 (.lst ((sb L (w.take a).getLast?).map .int))
      have l4 : Le s3 (s3.add (.lst ((sb L (w.take a).getLast?).map .int))) := .add _ _
      generalize s3.add (.lst ((sb L (w.take a).getLast?).map .int)) = s4 at *
      have ixw : L2.atI (w.map D.int) (a : Int) = some (.int n) := atI_at rfl hn
      have ex := index_r g4 (sb_find hL hs)
      have es := slc_r s4 g4 (some ((i : Int) + 1)) none
      rw [cut_map, cut_from (w := sb L (w.take a).getLast?) (k := i + 1) (i := (i : Int) + 1) (by omega)] at es
      have g5 := get_add_same s4 (.lst (((sb L (w.take a).getLast?).drop (i + 1)).map .int))
      have l5 : Le s4 (s4.add (.lst (((sb L (w.take a).getLast?).drop (i + 1)).map .int))) := .add _ _
      have m5 : s4.n < (s4.add (.lst (((sb L (w.take a).getLast?).drop (i + 1)).map .int))).n := Nat.lt_succ_self _
      generalize s4.add (.lst (((sb L (w.take a).getLast?).drop (i + 1)).map .int)) = s5 at *
      have n6 := newL_ok' s5 (xs := []) (by rw [size_eq]; simp)
      have g6 := get_add_same s5 (.lst [])
      have l6 : Le s5 (s5.add (.lst [])) := .add _ _
      have g56 : (s5.add (.lst [])).get s4.n = _ := (l6.get _ m5).trans g5
      generalize s5.add (.lst []) = s6 at *
      have ne := neD_rr (ys := []) g56 g6
      have LL6 := ((((hl.trans l2).trans l3).trans l4).trans l5).trans l6
      have hi := (List.getElem?_eq_some_iff.mp hs).1
      by_cases c : i + 1 < (sb L (w.take a).getLast?).length
      · -- there is a later one
        obtain ⟨x, hx⟩ : ∃ x, (sb L (w.take a).getLast?)[i + 1]? = some x := ⟨_, List.getElem?_eq_getElem c⟩
        have hne : ((sb L (w.take a).getLast?).drop (i + 1) = []) = False := by
          rw [eq_iff_iff, iff_false]
          intro q
          have := congrArg List.length q
          rw [List.length_drop] at this; simp only [List.length_nil] at this; omega
        have hok := h0.snoc hx
        have hu : (w.take a ++ [x]).length = a + 1 := by rw [List.length_append, List.length_take]; simp only [List.length_cons, List.length_nil]; omega
        obtain ⟨s7, e7, l7⟩ := run_law_least L (w.take a ++ [x]) _ w.length s6 hL hok (by omega) (by omega)
        have ix5 : L2.atI (((sb L (w.take a).getLast?).drop (i + 1)).map D.int) 0 = some (.int x) := atI_at (j := 0) rfl (by rw [List.getElem?_drop]; exact hx)
        have c1 : cutI w none (some (a : Int)) = w.take a := cut_to rfl
        have f6 : min a w.length + (0 + 1) ≤ 16777216 := by omega
        have f8 : (0 + 1 : Nat) ≤ 16777216 := by decide
        have f7 : D.tup ((w.take a).map D.int ++ [D.int x]) = tw (w.take a ++ [x]) := by rw [tw, List.map_append]; rfl
        refine .inr ⟨tw (lead L (w.take a ++ [x]) (w.length - (w.take a ++ [x]).length)), s7, ?_, LL6.trans l7, _, ⟨_, hok.lead hL _, ?_⟩, ?_, rfl⟩
        · simp only [hne, decide_false, Bool.not_false] at ne
          simp only [bodyF_eq, b__law_next_1, g_Var, st_ok', List.set_cons_zero, List.set_cons_succ, s_Cons, s_Asg, v_Comp, i_Seq, v_Call, a_Cons, a_Nil, v_Var, List.getElem?_cons_zero, List.getElem?_cons_succ, getV_some, bind_ok', e2, seqW_ref g2, wipeE_nil, wipeE_cons, e3, n3, then_nx, v_Slc, o_No, o_Yes, v_Bin, v_Meth, isL_r _ g4, if_true, ix_t, ixw, okO_some, ex, v_C, add_ii, toO_int, es, s_If, t_Bin, v_Lst, n6, ne, truth_bl, slc_t, cut_map, c1, ix_r _ g56, ix5, v_Tup, List.length_cons, List.length_nil, size_eq, f8, add_tt, List.length_map, List.length_take, f6, f7, v_Bi, len_tup, e7, s_Ret, then_rt]
        · rw [lead_len, hu]
          have : w.length - (a + 1) = j := by omega
          rw [this, show a + 1 + j = w.length by omega]
          have e9 : (r0 * (2 * L - 1) + (i + 1)) * (2 * L - 1) ^ j = r + 1 := by rw [er]; rfl
          rw [e9]; rfl
        · rw [lead_len, hu]; omega
      · -- none is later
        have hie : i + 1 = (sb L (w.take a).getLast?).length := by omega
        have hnil : (sb L (w.take a).getLast?).drop (i + 1) = [] := List.drop_eq_nil_of_le (by omega)
        refine .inl ⟨[some (.int L), some (tw w), some (.int a), some (.ref s3.n), none, some (.ref s4.n)], s6, .inl ?_, LL6, ?_, _, _, _, rfl⟩
        · simp only [hnil, decide_true, Bool.not_true] at ne
          simp only [bodyF_eq, b__law_next_1, g_Var, st_ok', List.set_cons_zero, List.set_cons_succ, s_Cons, s_Asg, v_Comp, i_Seq, v_Call, a_Cons, a_Nil, v_Var, List.getElem?_cons_zero, List.getElem?_cons_succ, getV_some, bind_ok', e2, seqW_ref g2, wipeE_nil, wipeE_cons, e3, n3, then_nx, v_Slc, o_No, o_Yes, v_Bin, v_Meth, isL_r _ g4, if_true, ix_t, ixw, okO_some, ex, v_C, add_ii, toO_int, es, s_If, t_Bin, v_Lst, n6, ne, truth_bl, Bool.false_eq_true, if_false, s_Nil]
        · cases a with
          | zero =>
            have hlen : (sb L (w.take 0).getLast?).length = 2 * L := (sb_len hL).1
            rw [if_neg (by omega)]
            have hr0 := h0.lt hL
            rw [List.length_take, Nat.zero_min] at hr0
            have : r0 = 0 := by simp [N] at hr0; exact hr0
            subst this
            rw [er, show w.length = j + 1 by omega]
            show (0 * (2 * L - 1) + i + 1) * (2 * L - 1) ^ j = 2 * L * (2 * L - 1) ^ j
            rw [Nat.zero_mul, Nat.zero_add, hie, hlen]
          | succ a =>
            rw [if_pos (by omega)]
            have hlast : (w.take (a + 1)).getLast? = some (w.getD a 0) := by rw [take_last (getD_at (show a < w.length by omega)), List.getLast?_concat]
            have hlen : (sb L (w.take (a + 1)).getLast?).length = 2 * L - 1 := by
              rw [hlast]; exact (sb_len hL).2 _ (h.mem _ (by rw [List.getD_eq_getElem?_getD, List.getElem?_eq_getElem (show a < w.length by omega)]; exact List.getElem_mem _))
            refine ⟨r0, by rw [show w.length - (j + 1) = a + 1 by omega]; exact h0, ?_⟩
            rw [er, Nat.add_assoc, hie, hlen, Nat.pow_succ, ← Nat.succ_mul, Nat.mul_assoc, Nat.mul_comm (2 * L - 1)])
  have b1 : bigI ((w.length : Int) - 1) = true := bigI_of (by omega)
  have b2 : bigI (-1) = true := bigI_of (by decide)
  have e3 : ((w.length : Int) - 1 - -1).toNat = w.length := by omega
  rcases key with ⟨env, s', e, hl, hj, z2, z3, z5, rfl⟩ | ⟨d, s', e, hl, w', hw', hl', rfl⟩
  · have el : (rgdD ((w.length : Int) - 1) w.length).length = w.length := by simp [rgdD]
    rw [el, Nat.zero_add] at hj
    have hr : r + 1 = N L w.length := by
      by_cases q : w.length = 0
      · rw [if_pos (.inr q)] at hj
        have := h.lt hL
        rw [q] at this ⊢
        simp [N] at this ⊢
        exact this
      · rw [if_neg (by omega)] at hj
        exact hj
    obtain ⟨s7, e7, l7⟩ := run_law_least L [] 0 (w.length + 1) s' hL .nil (Nat.zero_le _) (by omega)
    refine ⟨lead L [] (w.length + 1 - ([] : List Int).length), ⟨_, Ok.lead hL .nil _, ?_⟩, by rw [lead_len]; simp only [List.length_nil]; omega, s7, ?_, hl.trans l7⟩
    · rw [lead_len, Nat.zero_mul, Nat.add_assoc, hr]
      simp only [List.length_nil, Nat.zero_add, Nat.sub_zero]
      rfl
    · have e7 : m__law_least [.int L, .tup [], .int ((w.length : Int) + 1)] s' = _ := e7
      simp only [m__law_next, b__law_next, fnB_eq, List.length_cons, List.length_nil, List.map_cons, List.map_nil, List.cons_append, List.nil_append, Nat.reduceAdd, Nat.reduceSub, List.replicate, if_true, s_Cons, s_For, i_Rg3, a_Cons, a_Nil, v_Bin, v_Bi, v_Un, v_C, v_Var, List.getElem?_cons_zero, List.getElem?_cons_succ, getV_some, bind_ok', len_tup, List.length_map, sub_ii, neg_i, rg3W_ok, b1, b2, and_self, e3, st_ok', wkS_its, e, then_nx, s_Ret, v_Call, v_Tup, Nat.zero_le, add_ii, e7, then_rt, fnR_rt]
  · refine ⟨w', hw', hl', s', ?_, hl⟩
    simp only [m__law_next, b__law_next, fnB_eq, List.length_cons, List.length_nil, List.map_cons, List.map_nil, List.cons_append, List.nil_append, Nat.reduceAdd, Nat.reduceSub, List.replicate, if_true, s_Cons, s_For, i_Rg3, a_Cons, a_Nil, v_Bin, v_Bi, v_Un, v_C, v_Var, List.getElem?_cons_zero, List.getElem?_cons_succ, getV_some, bind_ok', len_tup, List.length_map, sub_ii, neg_i, rg3W_ok, b1, b2, and_self, e3, st_ok', wkS_its, e, then_rt, fnR_rt]
end K01

namespace K01
open PySem Cs
theorem run_need_letters (L : Nat) (s : Sto) (hL : LL L) : m_need_letters [.int L] s = .ok .non s := by
  have hp := hL.pos
  have h1 : (1 : Int) ≤ (L : Int) := by omega
  have h2 : (L : Int) ≤ 4 := by omega
  have h3 : 1 ≤ L := hp.1
  have h4 : L ≤ 4 := hp.2
  have e : m_is_letters [.int L] s = .ok (.bl true) s := by
    simp only [m_is_letters, b_is_letters, fnB_eq, List.length_cons, List.length_nil, List.map_cons, List.map_nil, List.cons_append, List.nil_append, Nat.reduceAdd, Nat.reduceSub, List.replicate, if_true, s_Cons, s_Ret, v_And, v_Call, a_Cons, a_Nil, v_Var, List.getElem?_cons_zero, List.getElem?_cons_succ, getV_some, bind_ok', run_is_integer, truth_bl, v_Chain, v_C, ltI_ii, h1, h2, decide_true, chain2_t, st_ok', then_rt, fnR_rt]
  simp [m_need_letters, b_need_letters, fnB_eq, e]
theorem run_need_nat (n : Nat) (s : Sto) : m_need_number [.int n, .int 0, .non] s = .ok .non s := by
  have e4 : isnNonD .non .non s = .ok (.bl false) s := rfl
  have e1 : ¬ (n : Int) < 0 := by omega
  simp [m_need_number, b_need_number, fnB_eq, e4, e1]
theorem run_law_number (a : Int) (s : Sto) : m__law_number [.int a, .int a] s = .ok (.bl true) s := by
  simp [m__law_number, b__law_number, fnB_eq, isiD, mapO, isTy]
theorem wk_St {L : Nat} (hL : LL L) {w : List Int} (h : WkL L w) : ∀ x ∈ w, x ∈ St L := fun x hx => ok_St hL (h x hx).1 (by have := (h x hx).2; omega)
theorem Ok.wk {L : Nat} (hL : LL L) {w : List Int} {r : Nat} (h : Ok L w r) : WkL L w := fun x hx => by
  have := St_ok hL x (h.mem x hx)
  omega
theorem ok_red {L : Nat} (hL : LL L) {w : List Int} (h : WkL L w) : ∃ r, Ok L (red w) r := by
  obtain ⟨n, r, hr, _⟩ := Is.of hL (red_str w) fun x hx => wk_St hL h x (red_mem hx)
  exact ⟨r, hr⟩
theorem run_number_of (L : Nat) (w : List Int) (r : Nat) (s : Sto) (hL : LL L) (h : WkL L w) (hr : Ok L (red w) r) (hw : w.length ≤ 1000) : Ev (m_number_of [.int L, tw w] s) s (.int (T L (red w).length + r : Nat)) := by
  have e0 := run_need_letters L s hL
  obtain ⟨s1, e1, l1⟩ := run_need_walk (L := L) w s (by omega) h
  obtain ⟨s2, e2, l2⟩ := run_straightened w s1 (by omega)
  obtain ⟨s3, e3, l3⟩ := run_number_in L (red w) r s2 hL hr (Nat.le_trans (red_len w) hw)
  exact ⟨s3, by simp [m_number_of, b_number_of, fnB_eq, e0, e1, e2, e3], (l1.trans l2).trans l3⟩
theorem run_nth_walk (L n : Nat) (s : Sto) (hL : LL L) (h : Sml L n) : ∃ w, Is L n w ∧ w.length ≤ 1000 ∧ Ev (m_nth_walk [.int L, .int n] s) s (tw w) := by
  have e0 := run_need_letters L s hL
  have e1 := run_need_nat n s
  obtain ⟨w, h1, h2, s2, e2, l2⟩ := run_walk_at L n s hL h
  exact ⟨w, h1, h2, s2, by simp [m_nth_walk, b_nth_walk, fnB_eq, e0, e1, e2], l2⟩
theorem run_next_walk (L : Nat) (w : List Int) (r : Nat) (s : Sto) (hL : LL L) (h : WkL L w) (hr : Ok L (red w) r) (hw : w.length ≤ 1000) (hs : Sml L (T L (red w).length + r + 1)) :
    ∃ w', Is L (T L (red w).length + r + 1) w' ∧ w'.length ≤ 1000 ∧ Ev (m_next_walk [.int L, tw w] s) s (tw w') := by
  have e0 := run_need_letters L s hL
  obtain ⟨s1, e1, l1⟩ := run_need_walk (L := L) w s (by omega) h
  obtain ⟨s2, e2, l2⟩ := run_straightened w s1 (by omega)
  obtain ⟨s3, e3, l3⟩ := run_number_in L (red w) r s2 hL hr (Nat.le_trans (red_len w) hw)
  obtain ⟨w', h1, h2, s4, e4, l4⟩ := run_walk_at L _ s3 hL hs
  have e5 : ((T L (red w).length + r : Nat) : Int) + 1 = ((T L (red w).length + r + 1 : Nat) : Int) := rfl
  refine ⟨w', h1, h2, s4, ?_, ((l1.trans l2).trans l3).trans l4⟩
  simp only [m_next_walk, b_next_walk, fnB_eq, List.length_cons, List.length_nil, List.map_cons, List.map_nil, List.cons_append, List.nil_append, Nat.reduceAdd, Nat.reduceSub, List.replicate, if_true, s_Cons, s_Expr, s_Ret, v_Call, a_Cons, a_Nil, v_Var, v_Bin, v_C, List.getElem?_cons_zero, List.getElem?_cons_succ, getV_some, bind_ok', e0, e1, st_ok', then_nx, e2, e3, add_ii, e5, e4, then_rt, fnR_rt]
theorem run_how_many (L k : Nat) (s : Sto) (hL : LL L) (hk : k ≤ 100000) : m_how_many [.int L, .int k] s = .ok (.int (N L k : Nat)) s := by
  have e0 := run_need_letters L s hL
  have e1 := run_need_nat k s
  have e2 := run_walks_of L k s hL hk
  simp [m_how_many, b_how_many, fnB_eq, e0, e1, e2]
theorem T_le {L : Nat} (hL : LL L) (k : Nat) : T L k ≤ 8 ^ k ∧ (L = 1 → T L k ≤ 2 * k) := by
  have hp := hL.pos
  have hN : ∀ j, N L j ≤ 8 ^ j := by
    intro j
    cases j with
    | zero => exact Nat.le_refl _
    | succ j =>
      show 2 * L * (2 * L - 1) ^ j ≤ 8 ^ (j + 1)
      rw [Nat.pow_succ, Nat.mul_comm (8 ^ j)]
      exact Nat.mul_le_mul (by omega) (Nat.pow_le_pow_left (by omega) j)
  constructor
  · induction k with
    | zero => exact Nat.zero_le _
    | succ k ih =>
      show T L k + N L k ≤ 8 ^ (k + 1)
      have := hN k
      rw [Nat.pow_succ]; omega
  · intro h1
    subst h1
    induction k with
    | zero => exact Nat.zero_le _
    | succ k ih =>
      show T 1 k + N 1 k ≤ 2 * (k + 1)
      have : N 1 k ≤ 2 := by
        cases k with
        | zero => decide
        | succ j => show 2 * 1 * (2 * 1 - 1) ^ j ≤ 2; simp
      omega
theorem sml_of {L k n : Nat} (hL : LL L) (hk : k ≤ 64) (h : n ≤ T L k) : Sml L n := by
  obtain ⟨h1, h2⟩ := T_le hL k
  refine ⟨?_, fun e => by have := h2 e; omega⟩
  have h3 : (8 : Nat) ^ k ≤ 8 ^ 64 := Nat.pow_le_pow_right (by decide) hk
  have h4 : (8 : Nat) ^ 64 < 2 ^ 200 := by decide
  omega
theorem Ok.sml {L : Nat} (hL : LL L) {w : List Int} {r : Nat} (h : Ok L w r) (hw : w.length ≤ 63) : Sml L (T L w.length + r + 1) :=
  sml_of hL (k := w.length + 1) (by omega) (by have := h.lt hL; show _ ≤ T L w.length + N L w.length; omega)
theorem run_law_walked (L : Nat) (w u : List Int) (s : Sto) (hL : LL L) (h : WkL L w) (hu : u = red w) (hw : w.length ≤ 63) : Ev (m__law_walked [.int L, tw w, tw u] s) s (.bl true) := by
  subst hu
  obtain ⟨r, hr⟩ := ok_red hL h
  have hrl := red_len w
  have hs := hr.sml hL (by omega)
  obtain ⟨s1, e1, l1⟩ := run_law_ahead L (red w) r s hL hr (by omega)
  obtain ⟨s2, e2, l2⟩ := run_number_of L w r s1 hL h hr (by omega)
  have e3 := run_law_number (T L (red w).length + r : Nat) s2
  obtain ⟨s4, e4, l4⟩ := run_number_of L w r s2 hL h hr (by omega)
  have e5 := run_law_number (T L (red w).length + r : Nat) s4
  obtain ⟨w', h6, n6, s6, e6, l6⟩ := run_law_next L (red w) r s4 hL hr (by omega)
  obtain ⟨w2, h7, n7, s7, e7, l7⟩ := run_next_walk L w r s6 hL h hr (by omega) hs
  have := h7.inj hL h6
  subst this
  obtain ⟨s8, e8, l8⟩ := run_law_is w2 s7 (by omega)
  obtain ⟨w3, h9, n9, s9, e9, l9⟩ := run_next_walk L w r s8 hL h hr (by omega) hs
  have := h9.inj hL h7
  subst this
  obtain ⟨s10, e10, l10⟩ := run_law_is w3 s9 (by omega)
  refine ⟨s10, ?_, (((((((l1.trans l2).trans l4).trans l6).trans l7).trans l8).trans l9).trans l10)⟩
  have p1 : ∀ d1 d2 : D, gPerm D.non 0 2 [1, 0] [] [d1, d2] = [d2, d1] := fun _ _ => rfl
  simp only [m__law_walked, b__law_walked, fnB_eq, List.length_cons, List.length_nil, List.map_cons, List.map_nil, List.cons_append, List.nil_append, Nat.reduceAdd, Nat.reduceSub, List.replicate, if_true, s_Cons, s_Asg, s_If, s_Ret, t_Or, t_Not, t_Call, v_Call, v_CallK, v_And, a_Cons, a_Nil, v_Var, List.getElem?_cons_zero, List.getElem?_cons_succ, List.set_cons_zero, List.set_cons_succ, getV_some, bind_ok', st_ok', g_Var, then_nx, e1, e2, e3, p1, e4, e5, truth_bl, Bool.not_true, Bool.false_eq_true, if_false, s_Nil, e6, e7, e8, e9, e10, then_rt, fnR_rt]
/-! ### great numbers -/
theorem in_St {s : Sto} {j : Nat} {S : List Int} {x : Int} (h : s.get j = some (.lst (S.map .int))) (hx : x ∈ S) : inD true (.int x) (.ref j) s = .ok (.bl false) s := by
  have e : items (.ref j) s = some (S.map .int) := by
    show (match s.get j with | some (.lst xs) => some xs | _ => none) = _
    rw [h]
  unfold inD
  rw [e]
  dsimp only
  have f : (flat (.int x) && (S.map D.int).all flat) = true := by
    rw [List.all_map]
    show (true && _) = true
    rw [Bool.true_and]
    exact List.all_eq_true.mpr fun _ _ => rfl
  have a : ((S.map D.int).any fun z => flatEq z (.int x)) = true := by
    rw [List.any_map, List.any_eq_true]
    exact ⟨x, hx, by show (x == x) = true; simp⟩
  rw [f, a]
  rfl
theorem run_law_great (L n : Nat) (s : Sto) (hL : LL L) (hs1 : Sml L n) (hs2 : Sml L (n + 1)) : Ev (m__law_great [.int L, .int n] s) s (.bl true) := by
  obtain ⟨w, h1, n1, s1, e1, l1⟩ := run_nth_walk L n s hL hs1
  obtain ⟨r, hr, rfl⟩ := id h1
  obtain ⟨s2, e2, l2⟩ := run_law_is w s1 (by omega)
  have e3 := run_law_straight w s2 (by omega)
  have hred : red w = w := red_of_str hr.rdc
  rw [hred] at e3
  have e4 := neD_tw w w s2
  rw [decide_eq_true rfl] at e4
  obtain ⟨s5, e5, l5⟩ := goIts_fun (f := turnC (gVar 3) (some c__law_great_1) e__law_great_1 [some (.int L), some (.int (T L w.length + r : Nat)), some (tw w), none]) (fun _ => none) (w.map .int) s2 (by
    intro x hx s' hl
    obtain ⟨i, hi, rfl⟩ := List.mem_map.mp hx
    obtain ⟨j, s6, e6, g6, l6, m6, m6'⟩ := run_law_steps L s' hL
    have := in_St g6 (hr.mem i hi)
    refine ⟨s6, ?_, l6⟩
    simp [c__law_great_1, e6, this])
  have fn : ∀ l : List D, l.filterMap (fun _ => (none : Option D)) = [] := fun l => by
    induction l with
    | nil => rfl
    | cons a l ih => rw [List.filterMap_cons]; exact ih
  rw [fn] at e5
  have n5 := newL_ok' s5 (xs := []) (by rw [size_eq]; simp)
  have g5 := get_add_same s5 (.lst [])
  have k5 : Le s5 (s5.add (.lst [])) := .add _ _
  have m5 : s5.n < (s5.add (.lst [])).n := Nat.lt_succ_self _
  generalize s5.add (.lst []) = s6 at *
  have n6 := newL_ok' s6 (xs := []) (by rw [size_eq]; simp)
  have g6 := get_add_same s6 (.lst [])
  have k6 : Le s6 (s6.add (.lst [])) := .add _ _
  have g56 := (k6.get _ m5).trans g5
  generalize s6.add (.lst []) = s7 at *
  have e7 := neD_rr (xs := []) (ys := []) g56 g6
  rw [decide_eq_true rfl] at e7
  obtain ⟨s8, e8, l8⟩ := run_law_ahead L w r s7 hL hr (by omega)
  obtain ⟨w2, h9, n9, s9, e9, l9⟩ := run_nth_walk L (T L w.length + r) s8 hL hs1
  have := h9.inj hL h1
  subst this
  obtain ⟨s10, e10, l10⟩ := run_law_is w2 s9 (by omega)
  obtain ⟨s11, e11, l11⟩ := run_number_of L w2 r s10 hL (hr.wk hL) (by rw [hred]; exact hr) (by omega)
  rw [hred] at e11
  have e12 := run_law_number (T L w2.length + r : Nat) s11
  obtain ⟨w3, h13, n13, s13, e13, l13⟩ := run_nth_walk L (T L w2.length + r + 1) s11 hL hs2
  obtain ⟨w4, h14, n14, s14, e14, l14⟩ := run_law_next L w2 r s13 hL hr (by omega)
  have := h14.inj hL h13
  subst this
  obtain ⟨s15, e15, l15⟩ := run_law_is w4 s14 (by omega)
  have p1 : ∀ d1 d2 : D, gPerm D.non 0 2 [1, 0] [] [d1, d2] = [d2, d1] := fun _ _ => rfl
  have c1 : ((T L w2.length + r : Nat) : Int) + 1 = ((T L w2.length + r + 1 : Nat) : Int) := rfl
  refine ⟨s15, ?_, ((((((((((l1.trans l2).trans l5).trans k5).trans k6).trans l8).trans l9).trans l10).trans l11).trans l13).trans l14).trans l15⟩
  simp only [m__law_great, b__law_great, fnB_eq, List.length_cons, List.length_nil, List.map_cons, List.map_nil, List.cons_append, List.nil_append, Nat.reduceAdd, Nat.reduceSub, List.replicate, if_true, s_Cons, s_Asg, s_If, s_Ret, t_Or, t_Not, t_Call, t_Bin, v_Bin, v_Call, v_CallK, v_Comp, v_Lst, v_C, i_Seq, seqW_tup, goWk_its, wipeE_nil, wipeE_cons, a_Cons, a_Nil, v_Var, List.getElem?_cons_zero, List.getElem?_cons_succ, List.set_cons_zero, List.set_cons_succ, getV_some, bind_ok', st_ok', g_Var, then_nx, e1, e2, e3, e4, e5, n5, n6, e7, e8, neD_ii, beq_self_eq_true, p1, e9, e10, e11, e12, add_ii, c1, e13, e14, e15, truth_bl, Bool.not_true, Bool.false_eq_true, if_false, s_Nil, then_rt, fnR_rt]
end K01

namespace K01
open PySem Cs
/-! ### all short walks -/
def ext (L : Nat) (w : List Int) : List (List Int) := (sb L w.getLast?).map fun s => w ++ [s]
def lay (L : Nat) : Nat → List (List Int)
  | 0 => [[]]
  | k + 1 => (lay L k).flatMap (ext L)
def allW (L : Nat) : Nat → List (List Int)
  | 0 => [[]]
  | k + 1 => allW L k ++ lay L (k + 1)
def kk (L : Nat) : Nat := if L = 1 then 12 else if L = 2 then 4 else 3
/-- the number of a walk, if it is straight -/
def rkB (L : Nat) : Option Int → Nat → List Int → Option Nat
  | _, r, [] => some r
  | o, r, s :: w => match (sb L o).findIdx? (· == s) with
    | some i => rkB L (some s) (r * (2 * L - 1) + i) w
    | none => none
theorem rkB_ok {L : Nat} : ∀ (w u : List Int) (r n : Nat), Ok L u r → rkB L u.getLast? r w = some n → Ok L (u ++ w) n
  | [], u, r, n, h, e => by cases e; rw [List.append_nil]; exact h
  | s :: w, u, r, n, h, e => by
    unfold rkB at e
    cases hf : (sb L u.getLast?).findIdx? (· == s) with
    | none => rw [hf] at e; cases e
    | some i =>
      rw [hf] at e
      obtain ⟨h1, h2, _⟩ := List.findIdx?_eq_some_iff_getElem.mp hf
      have h2 : (sb L u.getLast?)[i] = s := by simpa using h2
      have hs := h.snoc (show (sb L u.getLast?)[i]? = some s by rw [List.getElem?_eq_getElem h1, h2])
      have := rkB_ok w (u ++ [s]) _ n hs (by rw [List.getLast?_concat]; exact e)
      rw [List.append_assoc] at this
      exact this
def chkB (L i : Nat) (w : List Int) : Bool := match rkB L none 0 w with
  | some r => i == T L w.length + r
  | none => false
theorem chkB_ok {L i : Nat} {w : List Int} (h : chkB L i w = true) : Is L i w := by
  unfold chkB at h
  cases e : rkB L none 0 w with
  | none => rw [e] at h; cases h
  | some r =>
    rw [e] at h
    have h : i = T L w.length + r := by simpa using h
    exact ⟨r, by have := rkB_ok w [] 0 r .nil e; simpa using this, h⟩
def chkAll (L : Nat) : Nat → List (List Int) → Bool
  | _, [] => true
  | i, w :: ws => chkB L i w && chkAll L (i + 1) ws
theorem chkAll_ok {L : Nat} : ∀ (ws : List (List Int)) (i : Nat), chkAll L i ws = true → ∀ j w, ws[j]? = some w → Is L (i + j) w
  | [], i, _, j, w, e => by simp at e
  | x :: ws, i, h, j, w, e => by
    unfold chkAll at h
    rw [Bool.and_eq_true] at h
    cases j with
    | zero => cases e; exact chkB_ok h.1
    | succ j =>
      have := chkAll_ok ws (i + 1) h.2 j w (by simpa using e)
      rw [show i + (j + 1) = i + 1 + j by omega]; exact this
theorem all_is {L : Nat} (hL : LL L) : ∀ j w, (allW L (kk L))[j]? = some w → Is L j w := by
  intro j w h
  have := chkAll_ok (L := L) (allW L (kk L)) 0 (by rcases hL with rfl | rfl | rfl | rfl <;> decide +kernel) j w h
  rw [Nat.zero_add] at this; exact this
theorem all_len {L : Nat} (hL : LL L) : (allW L (kk L)).length ≤ 500 := by rcases hL with rfl | rfl | rfl | rfl <;> decide +kernel
theorem lay_len {L : Nat} (hL : LL L) : ∀ k, k ≤ kk L → (lay L k).length ≤ 500 ∧ (allW L k).length ≤ 500 := by
  rcases hL with rfl | rfl | rfl | rfl <;> decide +kernel
theorem all_wlen {L : Nat} (hL : LL L) : ∀ w ∈ allW L (kk L), w.length ≤ 12 := by rcases hL with rfl | rfl | rfl | rfl <;> decide +kernel
theorem all_last {L : Nat} (hL : LL L) : ((allW L (kk L)).getLast?.map (·.length)) = some (kk L) := by rcases hL with rfl | rfl | rfl | rfl <;> decide +kernel
theorem all_many {L : Nat} (hL : LL L) : ∀ j, j < kk L + 1 → ((allW L (kk L)).filter fun w => w.length == j).length = N L j := by
  rcases hL with rfl | rfl | rfl | rfl <;> decide +kernel
theorem flat_take {α β : Type} (f : α → List β) (l : List α) (m : Nat) : ((l.take m).flatMap f).length ≤ (l.flatMap f).length := by
  conv => rhs; rw [← List.take_append_drop m l]
  rw [List.flatMap_append, List.length_append]
  exact Nat.le_add_right _ _
theorem mapw_at {ws : List (List Int)} {i : Nat} {x : D} (h : (ws.map tw)[i]? = some x) : ∃ w, ws[i]? = some w ∧ x = tw w := by
  rw [List.getElem?_map] at h
  obtain ⟨n, h1, h2⟩ := Option.map_eq_some_iff.mp h
  exact ⟨n, h1, h2.symm⟩
/-- a walk and one step more, for each step that may stand there -/
theorem comp_ext {L j : Nat} {env : Cs.Env} {w : List Int} {s : Sto} (hL : LL L) (hj : j < s.n) (hg : s.get j = some (.lst ((St L).map .int))) (h6 : env[6]? = some (some (tw w))) (h7 : env.length = 8) (hw : w.length ≤ 1000) :
    Ev (goWk (turnC (gVar 7) (some c__law_all_3) e__law_all_3 env) (.live j) s) s ((ext L w).map tw) := by
  have := goWk_live_fun (f := turnC (gVar 7) (some c__law_all_3) e__law_all_3 env) (fun d => match d with | .int x => if !(w.getLast? == some (-x)) then some (tw (w ++ [x])) else none | d => none) s hj hg (by rw [List.length_map, St_len]; have := hL.pos; omega) (by
    intro x hx s' hl
    obtain ⟨n, hn, rfl⟩ := List.mem_map.mp hx
    have e6 : (env.set 7 (some (.int n)))[6]? = some (some (tw w)) := by rw [List.getElem?_set_ne (by decide)]; exact h6
    have e7 : (env.set 7 (some (.int n)))[7]? = some (some (.int n)) := by rw [List.getElem?_set_self (by omega)]
    have eq := neD_tw (w.getLast?.toList) [-n] s'
    rw [last_eq] at eq
    have eq : neD (tw (w.getLast?.toList)) (.tup [.int (-n)]) s' = _ := eq
    have f6 : w.length + (0 + 1) ≤ 16777216 := by omega
    have f8 : (0 + 1 : Nat) ≤ 16777216 := by decide
    have f7 : D.tup (w.map D.int ++ [D.int n]) = tw (w ++ [n]) := by rw [tw, List.map_append]; rfl
    refine ⟨s', ?_, .refl _⟩
    simp only [turnC_some, g_Var, bind_ok', c__law_all_3, t_Bin, v_Slc, v_Var, e6, e7, getV_some, o_Yes, v_Un, v_C, neg_i, toO_int, o_No, slc_t, cut_map, cut_last, v_Tup, a_Cons, a_Nil, List.length_cons, List.length_nil, size_eq, f8, if_true, eq, truth_bl, e__law_all_3, v_Bin, add_tt, List.length_map, f6, f7]
    cases (!(w.getLast? == some (-n))) <;> rfl)
  obtain ⟨s1, e1, l1⟩ := this
  refine ⟨s1, e1.trans (congrArg (fun z => R.ok z s1) ?_), l1⟩
  unfold ext sb
  induction St L with
  | nil => rfl
  | cons x l ih =>
    rw [List.map_cons, List.filterMap_cons, List.filter_cons]
    dsimp only
    cases (!(w.getLast? == some (-x)))
    · exact ih
    · show tw (w ++ [x]) :: _ = tw (w ++ [x]) :: _
      rw [ih]
theorem ext_len {L : Nat} (hL : LL L) (w : List Int) : (ext L w).length ≤ 8 := by
  unfold ext
  rw [List.length_map]
  have : (sb L w.getLast?).length ≤ (St L).length := List.length_filter_le _ _
  rw [St_len] at this; have := hL.pos; omega
theorem run_law_all (L : Nat) (s : Sto) (hL : LL L) : ∃ j s', m__law_all [.int L, .int (kk L)] s = .ok (.ref j) s' ∧ s'.get j = some (.lst ((allW L (kk L)).map tw)) ∧ Le s s' ∧ j < s'.n := by
  have hp := hL.pos
  have hkk : kk L ≤ 12 := by unfold kk; split <;> (try split) <;> omega
  have wl : ∀ k ≤ kk L, ∀ w ∈ lay L k, w.length ≤ 12 := by rcases hL with rfl | rfl | rfl | rfl <;> decide +kernel
  have n1 := newL_ok' s (xs := [D.tup []]) (by rw [size_eq]; simp)
  have g1 := get_add_same s (.lst [D.tup []])
  have l1 : Le s (s.add (.lst [D.tup []])) := .add _ _
  have m1 : s.n < (s.add (.lst [D.tup []])).n := Nat.lt_succ_self _
  generalize s.add (.lst [D.tup []]) = s1 at *
  have n2 := newL_ok' s1 (xs := [D.tup []]) (by rw [size_eq]; simp)
  have g2 := get_add_same s1 (.lst [D.tup []])
  have l2 : Le s1 (s1.add (.lst [D.tup []])) := .add _ _
  have m2 : s1.n < (s1.add (.lst [D.tup []])).n := Nat.lt_succ_self _
  have g12 := (l2.get _ m1).trans g1
  have m12 := Nat.lt_of_lt_of_le m1 l2.n
  generalize s1.add (.lst [D.tup []]) = s2 at *
  refine Exists.elim (forIts_inv (b := bodyF (gVar 4) b__law_all_1)
    (fun k env s' => Le s s' ∧ ∃ jf jl z4 z5 z6, env = [some (.int L), some (.int (kk L)), some (.ref jf), some (.ref jl), z4, z5, z6, none] ∧ s'.get jf = some (.lst ((allW L k).map tw)) ∧ s'.get jl = some (.lst ((lay L k).map tw)) ∧ jf < s'.n ∧ jl < s'.n)
    (rgD 0 (kk L)) 0 [some (.int L), some (.int (kk L)), some (.ref s.n), some (.ref s1.n), none, none, none, none] s2
    ⟨l1.trans l2, s.n, s1.n, none, none, none, rfl, g12, g2, m12, m2⟩ ?step) ?rest
  case rest =>
    rintro env ⟨s', e, hl, jf, jl, z4, z5, z6, rfl, gf, gl, hf, hjl⟩
    have el : (rgD 0 (kk L)).length = kk L := by simp [rgD]
    rw [el, Nat.zero_add] at gf
    have b1 : bigI (kk L : Int) = true := bigI_of (by omega)
    refine ⟨jf, s', ?_, gf, hl, hf⟩
    simp only [m__law_all, b__law_all, fnB_eq, List.length_cons, List.length_nil, List.map_cons, List.map_nil, List.cons_append, List.nil_append, Nat.reduceAdd, Nat.reduceSub, List.replicate, if_true, s_Cons, s_Par, a_Cons, a_Nil, v_Lst, v_Tup, Nat.zero_le, bind_ok', n1, n2, st_ok', par2_ok, List.set_cons_zero, List.set_cons_succ, then_nx, s_For, i_Rg1, v_Var, List.getElem?_cons_zero, List.getElem?_cons_succ, getV_some, rg1W_ok, b1, Int.toNat_natCast, wkS_its, e, s_Ret, then_rt, fnR_rt]
  case step =>
    rintro k x env s3 hx ⟨hl, jf, jl, z4, z5, z6, rfl, gf, gl, hf, hjl⟩
    obtain ⟨hk, rfl⟩ := rgD_at hx
    rw [Nat.zero_add] at *
    have n4 := newL_ok' s3 (xs := []) (by rw [size_eq]; simp)
    have g4 := get_add_same s3 (.lst [])
    have l4 : Le s3 (s3.add (.lst [])) := .add _ _
    have m4 : s3.n < (s3.add (.lst [])).n := Nat.lt_succ_self _
    generalize s3.add (.lst []) = s4 at *
    have gl4 := (l4.get _ hjl).trans gl
    have hjl4 := Nat.lt_of_lt_of_le hjl l4.n
    have hll := (lay_len hL (k + 1) (by omega)).1
    obtain ⟨env, s5, e5, l5, jn, z6', rfl, g5, m5⟩ := forLive_inv (b := bodyF (gVar 6) b__law_all_2)
      (fun m env s' => Le s4 s' ∧ ∃ jn z6, env = [some (.int L), some (.int (kk L)), some (.ref jf), some (.ref jl), some (.int (0 + (k : Int))), some (.ref jn), z6, none] ∧ s'.get jn = some (.lst ((((lay L k).take m).flatMap (ext L)).map tw)) ∧ jn < s'.n)
      (i := jl) (xs := (lay L k).map tw) (fun m env s' q => by rw [q.1.get jl hjl4]; exact gl4) 1000000 0
      [some (.int L), some (.int (kk L)), some (.ref jf), some (.ref jl), some (.int (0 + (k : Int))), some (.ref s3.n), z6, none] s4
      ⟨.refl _, s3.n, z6, rfl, g4, m4⟩ (by rw [List.length_map]; have := (lay_len hL k (by omega)).1; omega) (Nat.zero_le _) (by
        rintro m x env s6 hx ⟨hl6, jn, z6, rfl, g6, m6⟩
        obtain ⟨w, hw, rfl⟩ := mapw_at hx
        have hwl := wl k (by omega) w (List.mem_of_getElem? hw)
        obtain ⟨j7, s7, e7, g7, l7, n7, m7⟩ := run_law_steps L s6 hL
        obtain ⟨s8, e8, l8⟩ := comp_ext (env := [some (.int L), some (.int (kk L)), some (.ref jf), some (.ref jl), some (.int (0 + (k : Int))), some (.ref jn), some (tw w), none]) hL m7 g7 rfl rfl (by omega)
        have n9 := newL_ok' s8 (xs := (ext L w).map tw) (by rw [List.length_map, size_eq]; have := ext_len hL w; omega)
        have g9 := get_add_same s8 (.lst ((ext L w).map tw))
        have l9 : Le s8 (s8.add (.lst ((ext L w).map tw))) := .add _ _
        generalize s8.add (.lst ((ext L w).map tw)) = s9 at *
        have l69 := (l7.trans l8).trans l9
        have g69 := (l69.get _ m6).trans g6
        have tk : (lay L k).take (m + 1) = (lay L k).take m ++ [w] := by rw [List.take_add_one, hw]; rfl
        have fl : ((lay L k).take (m + 1)).flatMap (ext L) = ((lay L k).take m).flatMap (ext L) ++ ext L w := by
          rw [tk, List.flatMap_append]; simp
        have hz := flat_take (ext L) (lay L k) (m + 1)
        rw [fl, List.length_append] at hz
        have hz2 : ((lay L k).flatMap (ext L)).length ≤ 500 := hll
        have ea := add_rr s9 g69 g9 (by rw [List.length_map, List.length_map, size_eq]; omega)
        rw [← List.map_append, ← fl] at ea
        refine ⟨[some (.int L), some (.int (kk L)), some (.ref jf), some (.ref jl), some (.int (0 + (k : Int))), some (.ref s9.n), some (tw w), none], s9.add (.lst ((((lay L k).take (m + 1)).flatMap (ext L)).map tw)), .inl ?_, (hl6.trans l69).trans (.add _ _), s9.n, _, rfl, get_add_same _ _, Nat.lt_succ_self _⟩
        simp only [bodyF_eq, b__law_all_2, g_Var, st_ok', List.set_cons_zero, List.set_cons_succ, s_Cons, s_Asg, v_Bin, v_Comp, i_Seq, v_Call, a_Cons, a_Nil, v_Var, List.getElem?_cons_zero, List.getElem?_cons_succ, getV_some, bind_ok', e7, seqW_ref g7, wipeE_nil, wipeE_cons, e8, n9, ea, then_nx, s_Nil])
    rw [List.length_map, List.take_length] at g5
    have gf5 := (l5.get jf (Nat.lt_of_lt_of_le hf l4.n)).trans ((l4.get _ hf).trans gf)
    have hal := (lay_len hL (k + 1) (by omega)).2
    have hal : (allW L k ++ lay L (k + 1)).length ≤ 500 := hal
    rw [List.length_append] at hal
    have ea := add_rr s5 gf5 g5 (by rw [List.length_map, List.length_map, size_eq]; show _ + (lay L (k + 1)).length ≤ _; omega)
    have ea : addD (.ref jf) (.ref jn) s5 = .ok (.ref s5.n) (s5.add (.lst ((allW L (k + 1)).map tw))) := by
      rw [ea, ← List.map_append]; rfl
    have g5' : (s5.add (.lst ((allW L (k + 1)).map tw))).get jn = some (.lst ((lay L (k + 1)).map tw)) := by rw [get_add_ne (by omega)]; exact g5
    refine ⟨[some (.int L), some (.int (kk L)), some (.ref s5.n), some (.ref jn), some (.int (0 + (k : Int))), some (.ref jn), z6', none], s5.add (.lst ((allW L (k + 1)).map tw)), .inl ?_, ((hl.trans l4).trans l5).trans (.add _ _), s5.n, jn, _, _, _, rfl, get_add_same _ _, g5', Nat.lt_succ_self _, Nat.lt_succ_of_lt m5⟩
    simp only [bodyF_eq, b__law_all_1, g_Var, st_ok', List.set_cons_zero, List.set_cons_succ, s_Cons, s_Asg, v_Lst, a_Nil, bind_ok', n4, then_nx, s_For, i_Seq, v_Var, List.getElem?_cons_zero, List.getElem?_cons_succ, getV_some, seqW_ref gl4, wkS_live, e5, v_Bin, ea, s_Nil]
end K01

namespace K01
open PySem Cs
theorem run_law_short (L : Nat) (s : Sto) (hL : LL L) : Ev (m__law_short [.int L] s) s (.bl true) := by
  have hp := hL.pos
  have hkk : kk L ≤ 12 := by unfold kk; split <;> (try split) <;> omega
  have n1 := newL_ok' s (xs := [D.int 12, D.int 4, D.int 3, D.int 3]) (by rw [size_eq]; simp)
  have g1 := get_add_same s (.lst [D.int 12, D.int 4, D.int 3, D.int 3])
  have l1 : Le s (s.add (.lst [D.int 12, D.int 4, D.int 3, D.int 3])) := .add _ _
  generalize s.add (.lst [D.int 12, D.int 4, D.int 3, D.int 3]) = s1 at *
  have ik : L2.atI [D.int 12, D.int 4, D.int 3, D.int 3] ((L : Int) - 1) = some (.int (kk L : Nat)) := by
    rcases hL with rfl | rfl | rfl | rfl <;> rfl
  obtain ⟨j, s2, e2, g2, l2, m2⟩ := run_law_all L s1 hL
  have hlen := all_len hL
  have his := all_is hL
  have hwl := all_wlen hL
  have hmany := all_many hL
  have hlast := all_last hL
  generalize allW L (kk L) = W at *
  -- each walk by its number
  obtain ⟨env, s3, e3, l3, z2, z3, rfl⟩ := forIts_inv (b := bodyF (gVar 2) b__law_short_1)
    (fun k env s' => Le s2 s' ∧ ∃ z2 z3, env = [some (.int L), some (.ref j), z2, z3, none, none])
    (rgD 0 W.length) 0 [some (.int L), some (.ref j), none, none, none, none] s2 ⟨.refl _, none, none, rfl⟩ (by
      rintro k x env s3 hx ⟨hl, z2, z3, rfl⟩
      obtain ⟨hk, rfl⟩ := rgD_at hx
      rw [Int.zero_add]
      have g3 := (hl.get j m2).trans g2
      have hw : W[k]? = some W[k] := List.getElem?_eq_getElem hk
      have hI := his k _ hw
      have hwk := hwl _ (List.getElem_mem hk)
      generalize W[k] = w at hw hI hwk
      obtain ⟨r, hr, er⟩ := id hI
      have hred : red w = w := red_of_str hr.rdc
      have ix1 : L2.atI (W.map tw) (k : Int) = some (tw w) := L2.atI_nat (by rw [List.getElem?_map, hw]; rfl)
      have hs : ∀ n ≤ 501, Sml L n := fun n hn => ⟨by have : (501 : Nat) < 2 ^ 200 := by decide
                                                      omega, fun _ => by omega⟩
      obtain ⟨w1, h4, n4, s4, e4, l4⟩ := run_nth_walk L k s3 hL (hs k (by omega))
      have := h4.inj hL hI
      subst this
      obtain ⟨s5, e5, l5⟩ := run_law_is w1 s4 (by omega)
      obtain ⟨s6, e6, l6⟩ := run_number_of L w1 r s5 hL (hr.wk hL) (by rw [hred]; exact hr) (by omega)
      rw [hred, ← er] at e6
      have e7 := run_law_number (k : Nat) s6
      have g6 := ((((hl.trans l4).trans l5).trans l6).get j m2).trans g2
      have le6 := len_r _ g6
      rw [List.length_map] at le6
      by_cases c : k + 1 < W.length
      · have c' : (k : Int) + 1 < (W.length : Int) := by omega
        have hw2 : W[k + 1]? = some W[k + 1] := List.getElem?_eq_getElem c
        have hI2 := his (k + 1) _ hw2
        have hwk2 := hwl _ (List.getElem_mem c)
        generalize W[k + 1] = w2 at hw2 hI2 hwk2
        obtain ⟨w3, h8, n8, s8, e8, l8⟩ := run_next_walk L w1 r s6 hL (hr.wk hL) (by rw [hred]; exact hr) (by omega) (by rw [hred, ← er]; exact hs _ (by omega))
        rw [hred, ← er] at h8
        have := h8.inj hL hI2
        subst this
        have g8 := (((((hl.trans l4).trans l5).trans l6).trans l8).get j m2).trans g2
        have ix2 : L2.atI (W.map tw) ((k : Int) + 1) = some (tw w3) := L2.atI_nat (j := k + 1) (by rw [List.getElem?_map, hw2]; rfl)
        obtain ⟨s9, e9, l9⟩ := run_law_is w3 s8 (by omega)
        refine ⟨[some (.int L), some (.ref j), some (.int k), some (tw w1), none, none], s9, .inl ?_, ((((hl.trans l4).trans l5).trans l6).trans l8).trans l9, _, _, rfl⟩
        simp only [bodyF_eq, b__law_short_1, g_Var, st_ok', List.set_cons_zero, List.set_cons_succ, s_Cons, s_Asg, s_If, t_Or, t_Not, t_And, t_Call, t_Bin, v_Bin, v_Bi, v_C, v_Call, a_Cons, a_Nil, v_Var, List.getElem?_cons_zero, List.getElem?_cons_succ, getV_some, bind_ok', ix_r _ g3, ix1, okO_some, then_nx, e4, e5, truth_bl, Bool.not_true, Bool.false_eq_true, if_false, e6, e7, s_Nil, add_ii, le6, ltI_ii, c', decide_true, if_true, e8, ix_r _ g8, ix2, e9]
      · have c' : ¬ (k : Int) + 1 < (W.length : Int) := by omega
        refine ⟨[some (.int L), some (.ref j), some (.int k), some (tw w1), none, none], s6, .inl ?_, ((hl.trans l4).trans l5).trans l6, _, _, rfl⟩
        simp only [bodyF_eq, b__law_short_1, g_Var, st_ok', List.set_cons_zero, List.set_cons_succ, s_Cons, s_Asg, s_If, t_Or, t_Not, t_And, t_Call, t_Bin, v_Bin, v_Bi, v_C, v_Call, a_Cons, a_Nil, v_Var, List.getElem?_cons_zero, List.getElem?_cons_succ, getV_some, bind_ok', ix_r _ g3, ix1, okO_some, then_nx, e4, e5, truth_bl, Bool.not_true, Bool.false_eq_true, if_false, e6, e7, s_Nil, add_ii, le6, ltI_ii, c', decide_false])
  have g3 := (l3.get j m2).trans g2
  have le2 := len_r _ g2
  rw [List.length_map] at le2
  -- the last one
  obtain ⟨wl, hwl1, hwl2⟩ := Option.map_eq_some_iff.mp hlast
  obtain ⟨ys, hys⟩ := List.getLast?_eq_some_iff.mp hwl1
  have ixl : L2.atI (W.map tw) (-1) = some (tw wl) := by rw [hys, List.map_append]; exact L2.atI_last _ _
  obtain ⟨env, s4, e4, l4, z4, z5, rfl⟩ := forIts_inv (b := bodyF (gVar 4) b__law_short_2)
    (fun k env s' => Le s3 s' ∧ ∃ z4 z5, env = [some (.int L), some (.ref j), z2, z3, z4, z5])
    (rgD 0 (kk L + 1)) 0 [some (.int L), some (.ref j), z2, z3, none, none] s3 ⟨.refl _, none, none, rfl⟩ (by
      rintro k x env s5 hx ⟨hl, z4, z5, rfl⟩
      obtain ⟨hk, rfl⟩ := rgD_at hx
      rw [Int.zero_add]
      have g5 := ((l3.trans hl).get j m2).trans g2
      have m5 := Nat.lt_of_lt_of_le m2 (l3.trans hl).n
      obtain ⟨s6, e6, l6⟩ := goWk_live_fun (f := turnC (gVar 3) (some c__law_short_3) e__law_short_3 [some (.int L), some (.ref j), z2, none, some (.int k), z5]) (fun d => match d with | .tup xs => if xs.length == k then some (.tup xs) else none | d => none) s5 m5 g5 (by rw [List.length_map]; omega) (by
        intro x hx s' hl'
        obtain ⟨w, hw, rfl⟩ := List.mem_map.mp hx
        refine ⟨s', ?_, .refl _⟩
        have eb : (((w.length : Nat) : Int) == (k : Int)) = (w.length == k) := by rw [Bool.eq_iff_iff]; simp only [beq_iff_eq]; omega
        simp only [turnC_some, g_Var, bind_ok', List.set_cons_zero, List.set_cons_succ, c__law_short_3, e__law_short_3, t_Bin, v_Bi, v_Var, a_Cons, a_Nil, List.getElem?_cons_zero, List.getElem?_cons_succ, getV_some, len_tup, List.length_map, eqD_ii, truth_bl, eb]
        cases w.length == k <;> rfl)
      have em : ((W.map tw).filterMap fun d => match d with | .tup xs => if xs.length == k then some (D.tup xs) else none | d => none) = (W.filter fun w => w.length == k).map tw := by
        clear e6 g5 g3 ixl hys hwl1 hlast hmany hwl his hlen le2 e3 g2
        induction W with
        | nil => rfl
        | cons x l ih =>
          rw [List.map_cons, List.filterMap_cons, List.filter_cons]
          dsimp only
          rw [List.length_map]
          cases x.length == k
          · exact ih
          · show tw x :: _ = tw x :: _
            rw [ih]
      have e6 := e6.trans (congrArg (fun z => R.ok z s6) em)
      have hf : (W.filter fun w => w.length == k).length ≤ 500 := Nat.le_trans (List.length_filter_le _ _) hlen
      have n6 := newL_ok' s6 (xs := (W.filter fun w => w.length == k).map tw) (by rw [List.length_map, size_eq]; omega)
      have g7 := get_add_same s6 (.lst ((W.filter fun w => w.length == k).map tw))
      have l7 : Le s6 (s6.add (.lst ((W.filter fun w => w.length == k).map tw))) := .add _ _
      have le7 := len_r _ g7
      rw [List.length_map, hmany k (by omega)] at le7
      generalize s6.add (.lst ((W.filter fun w => w.length == k).map tw)) = s7 at *
      have e8 := run_how_many L k s7 hL (by omega)
      have e9 := run_law_number (N L k : Nat) s7
      refine ⟨[some (.int L), some (.ref j), z2, z3, some (.int k), some (.int (N L k : Nat))], s7, .inl ?_, (hl.trans l6).trans l7, _, _, rfl⟩
      simp only [bodyF_eq, b__law_short_2, g_Var, st_ok', List.set_cons_zero, List.set_cons_succ, s_Cons, s_Asg, v_Bi, a_Cons, a_Nil, v_Comp, i_Seq, v_Var, List.getElem?_cons_zero, List.getElem?_cons_succ, getV_some, bind_ok', seqW_ref g5, wipeE_nil, wipeE_cons, e6, n6, le7, then_nx, s_If, t_Not, t_Call, v_Call, e8, e9, truth_bl, Bool.not_true, Bool.false_eq_true, if_false, s_Nil])
  have b1 : bigI (W.length : Int) = true := bigI_of (by omega)
  have b2 : bigI ((kk L : Int) + 1) = true := bigI_of (by omega)
  have e5 : ((kk L : Int) + 1).toNat = kk L + 1 := by omega
  refine ⟨s4, ?_, ((l1.trans l2).trans l3).trans l4⟩
  simp only [m__law_short, b__law_short, fnB_eq, List.length_cons, List.length_nil, List.map_cons, List.map_nil, List.cons_append, List.nil_append, Nat.reduceAdd, Nat.reduceSub, List.replicate, if_true, s_Cons, s_Asg, v_Call, a_Cons, a_Nil, v_Var, v_Bin, v_Lst, v_C, v_Bi, List.getElem?_cons_zero, List.getElem?_cons_succ, getV_some, bind_ok', n1, sub_ii, ix_r _ g1, ik, okO_some, e2, st_ok', g_Var, List.set_cons_zero, List.set_cons_succ, then_nx, s_For, i_Rg1, le2, rg1W_ok, b1, Int.toNat_natCast, wkS_its, e3, v_Un, neg_i, ix_r _ g3, ixl, len_tup, List.length_map, hwl2, add_ii, b2, e5, e4, s_Ret, then_rt, fnR_rt]
end K01

namespace K01
open PySem Cs
theorem run_law_right (j c : Nat) (s : Sto) (h : Well s j c) (hc : c < 2 ^ 50) : ∃ s', m__law_right [.ref j] s = .ok (.bl true) s' ∧ LeW j s s' := by
  obtain ⟨d0, s0, e0, a0, b0, w0, l0⟩ := run_law_take j _ 4 s h (by omega) (by omega) (by omega)
  obtain ⟨L, hLd⟩ : ∃ L : Nat, 1 + d0 = (L : Int) := ⟨(1 + d0).toNat, by omega⟩
  have hL : LL L := by unfold LL; omega
  have hp := hL.pos
  have hL1 : (1 : Int) ≤ L := by omega
  have hL2 : (L : Int) ≤ 4 := by omega
  -- how great a number
  obtain ⟨most, s1, hm1, hm2, w1, l1, e1⟩ : ∃ (most : Nat) (s1 : Sto), most + 1 < 2 ^ 200 ∧ (L = 1 → most ≤ 799) ∧ Well s1 j (c + 1 + 1) ∧ LeW j s0 s1 ∧
      ∀ (q : EvS), (sCons (sIf (xBin (ltI fun i j => decide (j < i)) (xVar 1) (xC (.int 1))) (sCons (sAsg (gVar 2) (xBin ixD (xLst (aCons (xBin powD (xC (.int 10)) (xC (.int 3))) (aCons (xBin powD (xC (.int 10)) (xC (.int 18))) (aCons (xBin powD (xC (.int 10)) (xC (.int 40))) (aCons (xBin subD (xBin powD (xC (.int 10)) (xC (.int 60))) (xC (.int 2))) aNil))))) (xCall m__law_take (aCons (xVar 0) (aCons (xC (.int 4)) aNil))))) sNil) sNil) q)
        [some (.ref j), some (.int L), some (.int 799), none, none, none, none, none, none, none, none, none] s0 = q [some (.ref j), some (.int L), some (.int most), none, none, none, none, none, none, none, none, none] s1 := by
    have l10 : (10 : Int).natAbs < lim4 := lim_lt (by decide)
    by_cases q : 1 < (L : Int)
    · have np : ∀ s : Sto, newL [D.int (10 ^ 3), D.int (10 ^ 18), D.int (10 ^ 40), D.int (10 ^ 60 - 2)] s = .ok (.ref s.n) (s.add (.lst [D.int (10 ^ 3), D.int (10 ^ 18), D.int (10 ^ 40), D.int (10 ^ 60 - 2)])) := fun s => newL_ok' s (by rw [size_eq]; simp)
      have g := get_add_same s0 (.lst [D.int (10 ^ 3), D.int (10 ^ 18), D.int (10 ^ 40), D.int (10 ^ 60 - 2)])
      have w0' := w0.le (.add s0 (.lst [D.int (10 ^ 3), D.int (10 ^ 18), D.int (10 ^ 40), D.int (10 ^ 60 - 2)]))
      obtain ⟨d, s1, e1, a1, b1, w1, l1⟩ := run_law_take j _ 4 _ w0' (by omega) (by omega) (by omega)
      have g1 : s1.get s0.n = some (.lst [D.int (10 ^ 3), D.int (10 ^ 18), D.int (10 ^ 40), D.int (10 ^ 60 - 2)]) := by
        rw [l1.get _ (Nat.lt_succ_self _) (fun e => absurd w0.lt (by omega)), g]
      obtain ⟨most, hmo, ix⟩ : ∃ most : Nat, most + 1 < 2 ^ 200 ∧ L2.atI [D.int (10 ^ 3), D.int (10 ^ 18), D.int (10 ^ 40), D.int (10 ^ 60 - 2)] d = some (.int (most : Nat)) := by
        have : d = 0 ∨ d = 1 ∨ d = 2 ∨ d = 3 := by omega
        rcases this with rfl | rfl | rfl | rfl
        · exact ⟨10 ^ 3, by decide, rfl⟩
        · exact ⟨10 ^ 18, by decide, rfl⟩
        · exact ⟨10 ^ 40, by decide, rfl⟩
        · exact ⟨10 ^ 60 - 2, by decide, rfl⟩
      refine ⟨most, s1, hmo, fun e => by omega, w1, (LeW.of (.add _ _)).trans l1, fun qq => ?_⟩
      have t3 : (3 : Int).toNat = 3 := rfl
      have t18 : (18 : Int).toNat = 18 := rfl
      have t40 : (40 : Int).toNat = 40 := rfl
      have t60 : (60 : Int).toNat = 60 := rfl
      have k3 : (0 : Int) ≤ 3 ∧ (3 : Int) ≤ 1000 := by decide
      have k18 : (0 : Int) ≤ 18 ∧ (18 : Int) ≤ 1000 := by decide
      have k40 : (0 : Int) ≤ 40 ∧ (40 : Int) ≤ 1000 := by decide
      have k60 : (0 : Int) ≤ 60 ∧ (60 : Int) ≤ 1000 := by decide
      simp only [s_Cons, s_If, t_Bin, v_Bin, v_Var, v_C, List.getElem?_cons_zero, List.getElem?_cons_succ, getV_some, bind_ok', ltI_ii, q, decide_true, truth_bl, st_ok', if_true, s_Asg, v_Lst, v_Call, a_Cons, a_Nil, pow_ii, k3.1, k3.2, k18.1, k18.2, k40.1, k40.2, k60.1, k60.2, l10, and_self, t3, t18, t40, t60, sub_ii, np, e1, ix_r _ g1, ix, okO_some, g_Var, List.set_cons_zero, List.set_cons_succ, then_nx, s_Nil]
    · refine ⟨799, s0, by decide, fun _ => by omega, w0.up (by omega), .refl _ _, fun qq => ?_⟩
      simp only [s_Cons, s_If, t_Bin, v_Bin, v_Var, v_C, List.getElem?_cons_zero, List.getElem?_cons_succ, getV_some, bind_ok', ltI_ii, q, decide_false, truth_bl, st_ok', Bool.false_eq_true, if_false, s_Nil, then_nx]
      rfl
  obtain ⟨d2, s2, e2, a2, b2, w2, l2⟩ := run_law_take j _ ((most : Int) + 1) s1 w1 (by omega) (by omega) (by omega)
  have hn2 := newL_ok' s2 (xs := [D.int d2, D.int (most : Nat)]) (by rw [size_eq]; simp)
  have w2' := w2.le (.add s2 (.lst [D.int d2, D.int (most : Nat)]))
  obtain ⟨d3, s3, e3, a3, b3, w3, l3⟩ := run_law_take j _ 5 _ w2' (by omega) (by omega) (by omega)
  have g3 : s3.get s2.n = some (.lst [D.int d2, D.int (most : Nat)]) := by
    rw [l3.get _ (Nat.lt_succ_self _) (fun q => absurd w2.lt (by omega)), get_add_same]
  obtain ⟨n, hn, ix⟩ : ∃ n : Nat, n ≤ most ∧ ixD (.ref s2.n) (.int (if d3 = 0 then 1 else 0)) s3 = .ok (.int (n : Int)) s3 := by
    rw [ix_r _ g3]
    by_cases q : d3 = 0
    · rw [if_pos q]; exact ⟨most, Nat.le_refl _, rfl⟩
    · rw [if_neg q]; exact ⟨d2.toNat, by omega, by
        show okO (some (.int d2)) s3 = _
        rw [show ((d2.toNat : Nat) : Int) = d2 by omega]; rfl⟩
  have L3 : LeW j s s3 := (((l0.trans l1).trans l2).trans (.of (.add _ _))).trans l3
  obtain ⟨s4, e4, l4⟩ := run_law_short L s3 hL
  obtain ⟨s5, e5, l5⟩ := run_law_great L n s4 hL ⟨by omega, fun e => by have := hm2 e; omega⟩ ⟨by omega, fun e => by have := hm2 e; omega⟩
  have w5 := (w3.le l4).le l5
  obtain ⟨w, s6, e6, k6, n6, w6, l6⟩ := run_law_walk j _ L 58 s5 w5 hL1 hL2 (by omega) (by omega)
  have e6 : m__law_walk [.ref j, .int L, .int 58] s5 = .ok (tw w) s6 := e6
  obtain ⟨d7, s7, e7, a7, b7, w7, l7⟩ := run_law_take j _ ((w.length : Int) + 1) s6 w6 (by omega) (by omega) (by omega)
  obtain ⟨d8, s8, e8, a8, b8, w8, l8⟩ := run_law_take j _ L s7 w7 (by omega) (by omega) (by omega)
  obtain ⟨p, hp7⟩ : ∃ p : Nat, d7 = (p : Int) := ⟨d7.toNat, by omega⟩
  subst hp7
  have hpl : p ≤ w.length := by omega
  -- the step there and back
  have kx : WkL L [-(1 + d8), 1 + d8] := by
    intro x hx
    have : x = -(1 + d8) ∨ x = 1 + d8 := by simpa using hx
    rcases this with rfl | rfl <;> omega
  have kmore : WkL L (w.take p ++ [-(1 + d8), 1 + d8] ++ w.drop p) := ((k6.take p).app kx).app (k6.drop p)
  have lmore : (w.take p ++ [-(1 + d8), 1 + d8] ++ w.drop p).length ≤ 60 := by
    rw [List.length_append, List.length_append, List.length_take, List.length_drop]
    simp only [List.length_cons, List.length_nil]; omega
  have rmore : red (w.take p ++ [-(1 + d8), 1 + d8] ++ w.drop p) = red w := by
    unfold red redS
    rw [List.foldl_append, List.foldl_append]
    have : List.foldl push (List.foldl push [] (w.take p)) [-(1 + d8), 1 + d8] = List.foldl push [] (w.take p) := by
      show push (push _ (-(1 + d8))) (1 + d8) = _
      have := push_back (foldl_str (w.take p) [] trivial) (-(1 + d8)) (by omega)
      rw [Int.neg_neg] at this
      exact this
    rw [this, ← List.foldl_append, List.take_append_drop]
  have e9 := run_law_straight w s8 (by omega)
  obtain ⟨d10, s10, e10, a10, b10, w10, l10⟩ := run_law_take j _ 61 s8 w8 (by omega) (by omega) (by omega)
  obtain ⟨q10, hq10⟩ : ∃ q : Nat, d10 = (q : Int) := ⟨d10.toNat, by omega⟩
  subst hq10
  -- the last letter turned back, many times
  have klast : WkL L (List.replicate q10 (-(L : Int))) := by
    intro x hx
    rw [(List.mem_replicate.mp hx).2]; omega
  have rlast : red (List.replicate q10 (-(L : Int))) = List.replicate q10 (-(L : Int)) := by
    refine red_of_str ?_
    clear klast e10 a10 b10
    induction q10 with
    | zero => trivial
    | succ q ih =>
      cases q with
      | zero => trivial
      | succ q =>
        refine ⟨?_, ih⟩
        omega
  have hred := red_len w
  obtain ⟨s11, e11, l11⟩ := run_law_walked L w (red w) s10 hL k6 rfl (by omega)
  obtain ⟨s12, e12, l12⟩ := run_law_walked L _ (red w) s11 hL kmore rmore.symm (by omega)
  obtain ⟨s13, e13, l13⟩ := run_law_walked L _ _ s12 hL klast rlast.symm (by rw [List.length_replicate]; omega)
  obtain ⟨r, hr⟩ := ok_red hL k6
  obtain ⟨s14, e14, l14⟩ := run_law_ahead L (red w) r s13 hL hr (by omega)
  have hsm := hr.sml hL (by omega)
  obtain ⟨u, h15, n15, s15, e15, l15⟩ := run_nth_walk L (T L (red w).length + r) s14 hL ⟨by have := hsm.1; omega, fun e => by have := hsm.2 e; omega⟩
  have := h15.inj hL ⟨r, hr, rfl⟩
  subst this
  obtain ⟨s16, e16, l16⟩ := run_law_is (red w) s15 (by omega)
  have w16 := (((((w10.le l11).le l12).le l13).le l14).le l15).le l16
  obtain ⟨d17, s17, e17, a17, b17, w17, l17⟩ := run_law_take j _ 101 s16 w16 (by omega) (by omega) (by omega)
  obtain ⟨q17, hq17⟩ : ∃ q : Nat, d17 = (q : Int) := ⟨d17.toNat, by omega⟩
  subst hq17
  have e18 := run_law_many L q17 s17 hL (by omega)
  have e19 := run_how_many L q17 s17 hL (by omega)
  have e20 := run_law_number (N L q17 : Nat) s17
  refine ⟨s17, ?_, ?_⟩
  · have p1 : ∀ d1 d2 : D, gPerm D.non 0 2 [1, 0] [] [d1, d2] = [d2, d1] := fun _ _ => rfl
    have c1 : cutI w none (some (p : Int)) = w.take p := cut_to rfl
    have c2 : cutI w (some (p : Int)) none = w.drop p := cut_from rfl
    have u1 : D.tup ((w.take p).map D.int ++ [D.int (-(1 + d8)), D.int (1 + d8)] ++ (w.drop p).map D.int) = tw (w.take p ++ [-(1 + d8), 1 + d8] ++ w.drop p) := by rw [tw, List.map_append, List.map_append]; rfl
    have u2 : D.tup (List.replicate q10 [D.int (-(L : Int))]).flatten = tw (List.replicate q10 (-(L : Int))) := by
      have : (List.replicate q10 [D.int (-(L : Int))]).flatten = (List.replicate q10 (-(L : Int))).map D.int := by
        rw [List.map_replicate]
        clear e10 a10 b10 klast rlast e13
        induction q10 with
        | zero => rfl
        | succ q ih => rw [List.replicate_succ, List.flatten_cons, ih, List.replicate_succ]; rfl
      rw [this]
    have z1 : min p w.length + (0 + 1 + 1) ≤ 16777216 := by omega
    have z2 : min p w.length + (0 + 1 + 1) + (w.length - p) ≤ 16777216 := by omega
    have z3 : (0 + 1 + 1 : Nat) ≤ 16777216 := by decide
    have z4 : (0 + 1 : Nat) ≤ 16777216 := by decide
    have z5 : (0 + 1 : Nat) ≤ 1000 := by decide
    have z6 : (-1000 : Int) ≤ (q10 : Int) := by omega
    have z7 : (q10 : Int) ≤ 1000 := by omega
    simp only [m__law_right, b__law_right, fnB_eq, List.length_cons, List.length_nil, List.map_cons, List.map_nil, List.cons_append, List.nil_append, Nat.reduceAdd, Nat.reduceSub, List.replicate_succ, List.replicate_zero, if_true]
    rw [s_Cons, s_Asg]
    simp only [v_Bin, v_C, v_Call, a_Cons, a_Nil, v_Var, List.getElem?_cons_zero, List.getElem?_cons_succ, getV_some, bind_ok', e0, add_ii, hLd, st_ok', g_Var, List.set_cons_zero, List.set_cons_succ, then_nx]
    rw [s_Cons, s_Asg]
    simp only [v_C, st_ok', g_Var, List.set_cons_zero, List.set_cons_succ, then_nx]
    rw [e1]
    simp only [s_Cons, s_Par, s_Asg, s_If, s_Ret, t_Or, t_Not, t_Call, v_Bin, v_Un, v_Bi, v_C, v_Call, v_CallK, v_Lst, v_Tup, v_Slc, v_And, o_No, o_Yes, toO_int, slc_t, cut_map, c1, c2, a_Cons, a_Nil, v_Var, List.getElem?_cons_zero, List.getElem?_cons_succ, getV_some, bind_ok', add_ii, e2, hn2, e3, eqD_ii, int_b, beq_iff_eq, ix, st_ok', g_Var, List.set_cons_zero, List.set_cons_succ, then_nx, e4, e5, truth_bl, Bool.not_true, Bool.false_eq_true, if_false, s_Nil, e6, len_tup, List.length_map, e7, e8, par2_ok, neg_i, List.length_cons, List.length_nil, size_eq, z3, if_true, add_tt, List.length_take, z1, List.length_append, List.length_drop, z2, u1, e9, z4, e10, mul_ti, z5, z6, z7, and_self, Int.toNat_natCast, u2, e11, e12, e13, e14, e15, e16, e17, e18, e19, e20, p1, then_rt, fnR_rt]
  · exact (((((((((((((L3.trans (.of l4)).trans (.of l5)).trans l6).trans l7).trans l8).trans l10).trans (.of l11)).trans (.of l12)).trans (.of l13)).trans (.of l14)).trans (.of l15)).trans (.of l16)).trans l17)
theorem law_true (ns : List Int) (hn : ns.length ≤ 63) : ∃ s', m_law [.fix (ns.map .int)] Sto.new = .ok (.bl true) s' := by
  obtain ⟨m, hm, em⟩ : ∃ m : Nat, m ≤ 4 ∧ ∀ s, (max2B [.int 1, .int (if (ns.length : Int) < 3 then (ns.length : Int) else 3)] s) = .ok (.int (m : Int)) s := by
    refine ⟨max 1 (min 3 ns.length), by omega, fun s => ?_⟩
    rw [max2_ii]
    congr 2
    omega
  refine Exists.elim (forIts_inv (b := bodyF (gVar 1) b_law_1)
    (fun k env s' => ∃ z, env = [some (.fix (ns.map .int)), z])
    (rgD 0 m) 0 [some (.fix (ns.map .int)), none] Sto.new ⟨none, rfl⟩ ?step) ?rest
  case rest =>
    rintro env ⟨s', e, z, rfl⟩
    have b1 : bigI (m : Int) = true := bigI_of (by omega)
    refine ⟨s', ?_⟩
    simp only [m_law, b_law, fnB_eq, List.length_cons, List.length_nil, List.map_cons, List.map_nil, List.cons_append, List.nil_append, Nat.reduceAdd, Nat.reduceSub, List.replicate, if_true, s_Cons, s_For, i_Rg1, a_Cons, a_Nil, v_Bi, v_C, v_Var, List.getElem?_cons_zero, List.getElem?_cons_succ, getV_some, bind_ok', len_fix, List.length_map, min2_ii, em, rg1W_ok, b1, Int.toNat_natCast, st_ok', wkS_its, e, then_nx, s_Ret, then_rt, fnR_rt]
  case step =>
    rintro i x env s1 hx ⟨z, rfl⟩
    obtain ⟨hi, rfl⟩ := rgD_at hx
    rw [Int.zero_add]
    obtain ⟨j, s2, e2, w2, l2⟩ := run_law_well ns i s1 hn (by omega)
    obtain ⟨s3, e3, l3⟩ := run_law_right j 0 s2 w2 (by omega)
    exact ⟨[some (.fix (ns.map .int)), some (.int i)], s3, .inl (by simp [b_law_1, e2, e3]), _, rfl⟩
end K01

--END
open PySem PySem.W PyProof.Rows
set_option maxHeartbeats 0 in
theorem PySem.Challenge.cw_clubsturned_k01_walks_in_their_order_holds : PySem.Challenge.rw_clubsturned_k01_walks_in_their_order.Holds := by
  w_on; o_law; k_head; (case hw => w_witness2)
  k_fill
  refine L2.walk_of (l := PySem.Challenge.rw_clubsturned_k01_walks_in_their_order) (n := 63) (k := 8) (x := "script") (CX := fun _ => L2.CX0) (sp := fun w => Cs.spD _ 1 K01.m_law) rfl (by decide) rfl ⟨rfl, by decide, by decide⟩ (fun w h Y => PySem.W.kIn_of Y) ?F (fun _ H a ns hl ho hS => Cs.law_sp K01.law_true _ H a ns hl ho hS) (fun _ _ _ _ _ h => h)
  case F =>
    intro w mg fa h KX G hmg
    refine' K01.all_mk KX G hmg ?a0 ?l0 ?c0 ?k0 ?a1 ?l1 ?c1 ?k1 ?a2 ?l2 ?c2 ?k2 ?a3 ?l3 ?c3 ?k3 ?a4 ?l4 ?c4 ?k4 ?a5 ?l5 ?c5 ?k5 ?a6 ?l6 ?c6 ?k6 ?a7 ?l7 ?c7 ?k7 ?a8 ?l8 ?c8 ?k8 ?a9 ?l9 ?c9 ?k9 ?a10 ?l10 ?c10 ?k10 ?a11 ?l11 ?c11 ?k11 ?a12 ?l12 ?c12 ?k12 ?a13 ?l13 ?c13 ?k13 ?a14 ?l14 ?c14 ?k14 ?a15 ?l15 ?c15 ?k15 ?a16 ?l16 ?c16 ?k16 ?a17 ?l17 ?c17 ?k17 ?a18 ?l18 ?c18 ?k18 ?a19 ?l19 ?c19 ?k19 ?a20 ?l20 ?c20 ?k20 ?a21 ?l21 ?c21 ?k21 ?a22 ?l22 ?c22 ?k22 ?a23 ?l23 ?c23 ?k23 ?a24 ?l24 ?c24 ?k24 ?a25 ?l25 ?c25 ?k25 ?a26 ?l26 ?c26 ?k26 ?a27 ?l27 ?c27 ?k27 ?a28 ?l28 ?c28 ?k28 ?a29 ?l29 ?c29 ?k29 ?a30 ?l30 ?c30 ?k30 ?a31 ?l31 ?c31 ?k31 ?a32 ?l32 ?c32 ?k32 ?a33 ?l33 ?c33 ?k33 ?a34 ?l34 ?c34 ?k34 ?a35 ?l35 ?c35 ?k35 ?a36 ?l36 ?c36 ?k36 ?z0 ?z1 ?z2 ?z3 ?z4 ?z5 ?z6 ?z7 ?z8 ?z9 ?z10 ?z11 ?q0
    (case a0 => k_is); (case l0 => k_is); (case c0 => k_is); (case k0 => k_is); (case a1 => k_is); (case l1 => k_is); (case c1 => k_is); (case k1 => k_is); (case a2 => k_is); (case l2 => k_is); (case c2 => k_is); (case k2 => k_is); (case a3 => k_is); (case l3 => k_is); (case c3 => k_is); (case k3 => k_is); (case a4 => k_is); (case l4 => k_is); (case c4 => k_is); (case k4 => k_is); (case a5 => k_is); (case l5 => k_is); (case c5 => k_is); (case k5 => k_is); (case a6 => k_is); (case l6 => k_is); (case c6 => k_is); (case k6 => k_is); (case a7 => k_is); (case l7 => k_is); (case c7 => k_is); (case k7 => k_is); (case a8 => k_is); (case l8 => k_is); (case c8 => k_is); (case k8 => k_is); (case a9 => k_is); (case l9 => k_is); (case c9 => k_is); (case k9 => k_is); (case a10 => k_is); (case l10 => k_is); (case c10 => k_is); (case k10 => k_is); (case a11 => k_is); (case l11 => k_is); (case c11 => k_is); (case k11 => k_is); (case a12 => k_is); (case l12 => k_is); (case c12 => k_is); (case k12 => k_is); (case a13 => k_is); (case l13 => k_is); (case c13 => k_is); (case k13 => k_is); (case a14 => k_is); (case l14 => k_is); (case c14 => k_is); (case k14 => k_is); (case a15 => k_is); (case l15 => k_is); (case c15 => k_is); (case k15 => k_is); (case a16 => k_is); (case l16 => k_is); (case c16 => k_is); (case k16 => k_is); (case a17 => k_is); (case l17 => k_is); (case c17 => k_is); (case k17 => k_is); (case a18 => k_is); (case l18 => k_is); (case c18 => k_is); (case k18 => k_is); (case a19 => k_is); (case l19 => k_is); (case c19 => k_is); (case k19 => k_is); (case a20 => k_is); (case l20 => k_is); (case c20 => k_is); (case k20 => k_is); (case a21 => k_is); (case l21 => k_is); (case c21 => k_is); (case k21 => k_is); (case a22 => k_is); (case l22 => k_is); (case c22 => k_is); (case k22 => k_is); (case a23 => k_is); (case l23 => k_is); (case c23 => k_is); (case k23 => k_is); (case a24 => k_is); (case l24 => k_is); (case c24 => k_is); (case k24 => k_is); (case a25 => k_is); (case l25 => k_is); (case c25 => k_is); (case k25 => k_is); (case a26 => k_is); (case l26 => k_is); (case c26 => k_is); (case k26 => k_is); (case a27 => k_is); (case l27 => k_is); (case c27 => k_is); (case k27 => k_is); (case a28 => k_is); (case l28 => k_is); (case c28 => k_is); (case k28 => k_is); (case a29 => k_is); (case l29 => k_is); (case c29 => k_is); (case k29 => k_is); (case a30 => k_is); (case l30 => k_is); (case c30 => k_is); (case k30 => k_is); (case a31 => k_is); (case l31 => k_is); (case c31 => k_is); (case k31 => k_is); (case a32 => k_is); (case l32 => k_is); (case c32 => k_is); (case k32 => k_is); (case a33 => k_is); (case l33 => k_is); (case c33 => k_is); (case k33 => k_is); (case a34 => k_is); (case l34 => k_is); (case c34 => k_is); (case k34 => k_is); (case a35 => k_is); (case l35 => k_is); (case c35 => k_is); (case k35 => k_is); (case a36 => k_is); (case l36 => k_is); (case c36 => k_is); (case k36 => k_is); (case z0 => k_is); (case z1 => k_is); (case z2 => k_is); (case z3 => k_is); (case z4 => k_is); (case z5 => k_is); (case z6 => k_is); (case z7 => k_is); (case z8 => k_is); (case z9 => k_is); (case z10 => k_is); (case z11 => k_is); (case q0 => k_is)

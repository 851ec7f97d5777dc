import PyProof.Rows.All
import HandS.ForMost
import HandS.ForExc
import HandS.Wide
import HandS.TupAny
import HandS.TupLe
import HandS.Style
import HandS.Zip
import HandS.NoneIn
import HandS.IsInst
import HandS.Walk
import HandS.Deep
import KE.SortData
import HandS.Lambda
import HandS.Strs
import HandS.TupSets
import KE.KeyNested
import PyProof.Transfer
import KE.GoesEnum
import HandS.Defaults
import KE.GoesMore
import KE.GoesZip
import HandS.HeadHook4
import HandS.HeadEnd
import HandS.Head2
import HandS.EndTab
import PySem.Challenge.RW_sameentries_k06_whole_merging
set_option Elab.async false
set_option linter.all false
set_option maxRecDepth 100000
/-! Part A: the pure machine (data, terms, evaluation). -/
namespace Fz
open PySem PySem.Spec PyProof.Rows

abbrev D := PyData

/-- an outcome: a value, an exception of a class (by number), or nothing known -/
inductive R (α : Type) where
  | ok (a : α) | ex (c : Nat) | no
namespace R
def bind {α β : Type} : R α → (α → R β) → R β
  | .ok a, f => f a
  | .ex c, _ => .ex c
  | .no, _ => .no
/-- inside a comprehension nothing may be raised -/
def calm {α : Type} : R α → R α
  | .ok a => .ok a
  | .ex _ => .no
  | .no => .no
@[simp] theorem bind_ok {α β : Type} (a : α) (f : α → R β) : (R.ok a).bind f = f a := id rfl
@[simp] theorem bind_ex {α β : Type} (c : Nat) (f : α → R β) : (R.ex c : R α).bind f = .ex c := id rfl
@[simp] theorem bind_no {α β : Type} (f : α → R β) : (R.no : R α).bind f = .no := id rfl
@[simp] theorem calm_ok {α : Type} (a : α) : (R.ok a).calm = .ok a := id rfl
@[simp] theorem calm_ex {α : Type} (c : Nat) : (R.ex c : R α).calm = .no := id rfl
@[simp] theorem calm_no {α : Type} : (R.no : R α).calm = .no := id rfl
end R

/-- operations of one operand -/
inductive U where
  | nt | neg | len | all | any | sum | int | tup | lst | sorted | sset | lset | min | max
  | isStr | isInt | isBool | isTup | isLst | rng | enm | rev
  deriving DecidableEq
/-- operations of two operands -/
inductive B where
  | add | sub | mul | fdiv | mod | pow | eq | ne | lt | le | gt | ge | mem | nmem | iss | isn | ix
  | from | to | max2 | min2 | rng | zip | index | step
  deriving DecidableEq
/-- a target: one slot, or several -/
inductive Tg where
  | one (i : Nat) | tup (is : List Nat)
  deriving DecidableEq
def Tg.slots : Tg → List Nat
  | .one i => [i]
  | .tup is => is

/-- a slot's value: plain data, or a list that is the slot's own -/
inductive Sv where
  | val (d : D) | own (xs : List D)
abbrev Sd := List (Option Sv)

def boolsOf : List D → Option (List Bool)
  | [] => some []
  | .bool b :: r => (boolsOf r).map (b :: ·)
  | _ :: _ => none
def intsOf : List D → Option (List Int)
  | [] => some []
  | .int b :: r => (intsOf r).map (b :: ·)
  | _ :: _ => none

mutual
/-- x < y of data that can be compared -/
def ltD : D → D → Bool
  | .bool a, .bool b => !a && b
  | .int i, .int j => decide (i < j)
  | .str a, .str b => decide (a.cps.toList < b.cps.toList)
  | .list xs, .list ys => ltDs xs ys
  | .tuple xs, .tuple ys => ltDs xs ys
  | _, _ => false
def ltDs : List D → List D → Bool
  | [], [] => false
  | [], _ :: _ => true
  | _ :: _, [] => false
  | x :: xs, y :: ys => if PyData.eqv x y = true then ltDs xs ys else ltD x y
end
def leD (a b : D) : Bool := !ltD b a
def insD (x : D) : List D → List D
  | [] => [x]
  | y :: r => if leD x y = true then x :: y :: r else y :: insD x r
def isort : List D → List D
  | [] => []
  | x :: r => insD x (isort r)
def alikeAmong (xs : List D) : Bool := xs.all fun x => xs.all fun y => PySem.W.alike x y
def neTup : D → Bool
  | .tuple (_ :: _) => true
  | _ => false
def noTup : D → Bool
  | .tuple _ => false
  | .none => false
  | _ => true
def sortable (xs : List D) : Bool := alikeAmong xs && (xs.all neTup || xs.all noTup) && xs.all fun x => decide (x.depth ≤ 40)
def sortD (xs : List D) : R D := if sortable xs = true then .ok (.list (isort xs)) else .no
/-- the first of each -/
def firsts : List D → List D → List D
  | acc, [] => acc
  | acc, x :: r => if acc.any (fun y => PyData.eqv y x) then firsts acc r else firsts (acc ++ [x]) r
mutual
def keyOk : D → Bool
  | .none => true
  | .bool _ => true
  | .int _ => true
  | .str _ => true
  | .tuple xs => keyOks xs
  | _ => false
def keyOks : List D → Bool
  | [] => true
  | x :: r => keyOk x && keyOks r
end
/-- an int or a text -/
def flatKey : D → Bool
  | .int _ => true
  | .str _ => true
  | _ => false
/-- a tuple that is a key -/
def deepKey : D → Bool
  | .tuple xs => keyOks xs && decide ((PyData.tuple xs).depth ≤ 8)
  | _ => false
/-- the members of a set: ints and texts, or tuples (not too many) -/
def setOk (xs : List D) : Bool := (xs.all flatKey && decide (xs.length ≤ 4000)) || (xs.all deepKey && decide (xs.length ≤ 76))

def seqOf : D → Option (List D)
  | .list xs => some xs
  | .tuple xs => some xs
  | _ => none
/-- what is walked -/
def itemsOf : D → Option (List D)
  | .list xs => some xs
  | .tuple xs => some xs
  | .str s => some (s.cps.toList.map fun c => .str ⟨#[c]⟩)
  | _ => none
def rangeD (lo : Int) (n : Nat) : List D := (List.range n).map fun (i : Nat) => .int (lo + i)
def enumD (xs : List D) : List D := (List.range xs.length).map fun (i : Nat) => .tuple [.int i, xs.getD i .none]

def isNon : D → Bool
  | .none => true
  | _ => false
def isStr : D → Bool
  | .str _ => true
  | _ => false
def isTup : D → Bool
  | .tuple _ => true
  | _ => false
def isLst : D → Bool
  | .list _ => true
  | _ => false
def isInt : D → Bool
  | .int _ => true
  | .bool _ => true
  | _ => false
def isBool : D → Bool
  | .bool _ => true
  | _ => false
def ofO {α : Type} : Option α → R α
  | some a => .ok a
  | none => .no
def o1 : U → D → R D
  | .nt, .bool b => .ok (.bool (!b))
  | .neg, .int i => .ok (.int (-i))
  | .len, .list xs => .ok (.int xs.length)
  | .len, .tuple xs => .ok (.int xs.length)
  | .len, .str s => .ok (.int s.length)
  | .all, .list xs => (ofO (boolsOf xs)).bind fun bs => .ok (.bool (bs.all id))
  | .any, .list xs => (ofO (boolsOf xs)).bind fun bs => .ok (.bool (bs.any id))
  | .sum, .list xs => (ofO (intsOf xs)).bind fun ns => .ok (.int ns.sum)
  | .int, .int i => .ok (.int i)
  | .tup, .list xs => .ok (.tuple xs)
  | .tup, .tuple xs => .ok (.tuple xs)
  | .lst, .list xs => .ok (.list xs)
  | .lst, .tuple xs => .ok (.list xs)
  | .sorted, .list xs => sortD xs
  | .sorted, .tuple xs => sortD xs
  | .sset, .list xs => if setOk xs = true ∧ sortable xs = true then .ok (.list (isort (firsts [] xs))) else .no
  | .sset, .tuple xs => if setOk xs = true ∧ sortable xs = true then .ok (.list (isort (firsts [] xs))) else .no
  | .lset, .list xs => if setOk xs = true then .ok (.int (firsts [] xs).length) else .no
  | .isStr, d => .ok (.bool (isStr d))
  | .isTup, d => .ok (.bool (isTup d))
  | .isLst, d => .ok (.bool (isLst d))
  | .isInt, d => .ok (.bool (isInt d))
  | .isBool, d => .ok (.bool (isBool d))
  | .rng, .int n => if -1000000 ≤ n ∧ n ≤ 1000000 then .ok (.list (rangeD 0 n.toNat)) else .no
  | .enm, .list xs => .ok (.list (enumD xs))
  | .enm, .tuple xs => .ok (.list (enumD xs))
  | _, _ => .no

def canEq (a b : D) : Bool := decide (min a.depth b.depth ≤ 60)
def zipD : List D → List D → List D
  | x :: xs, y :: ys => .tuple [x, y] :: zipD xs ys
  | _, _ => []
def zipD3 : List D → List D → List D → List D
  | x :: xs, y :: ys, z :: zs => .tuple [x, y, z] :: zipD3 xs ys zs
  | _, _, _ => []
/-- xs[lo:hi] -/
def cutD {α : Type} (xs : List α) (lo hi : Option Int) : List α := (xs.drop (HT.sIx xs.length 0 lo)).take (HT.sIx xs.length xs.length hi - HT.sIx xs.length 0 lo)
def cutR (d : D) (lo hi : Option Int) : R D := match d with
  | .list xs => .ok (.list (cutD xs lo hi))
  | .tuple xs => .ok (.tuple (cutD xs lo hi))
  | _ => .no
def memD (x : D) (xs : List D) : Bool := xs.any fun y => PyData.eqv y x
def o2 : B → D → D → R D
  | .add, .int i, .int j => .ok (.int (i + j))
  | .add, .str a, .str b => if a.length + b.length ≤ sizeLine then .ok (.str (a ++ b)) else .no
  | .add, .tuple xs, .tuple ys => if xs.length + ys.length ≤ sizeLine then .ok (.tuple (xs ++ ys)) else .no
  | .add, .list xs, .list ys => if xs.length + ys.length ≤ sizeLine then .ok (.list (xs ++ ys)) else .no
  | .sub, .int i, .int j => .ok (.int (i - j))
  | .mul, .int i, .int j => if (i.natAbs < 2 ^ 64 ∨ j.natAbs < 2 ^ 64) then .ok (.int (i * j)) else .no
  | .fdiv, .int i, .int j => if 0 < j ∧ j < 2 ^ 64 then .ok (.int (i / j)) else .no
  | .mod, .int i, .int j => if 0 < j then .ok (.int (i % j)) else .no
  | .pow, .int i, .int j => if 0 ≤ j ∧ j ≤ 1000 ∧ i.natAbs < 2 ^ 64 then .ok (.int (i ^ j.toNat)) else .no
  | .eq, a, b => if canEq a b = true then .ok (.bool (PyData.eqv a b)) else .no
  | .ne, a, b => if canEq a b = true then .ok (.bool (!PyData.eqv a b)) else .no
  | .lt, .int i, .int j => .ok (.bool (decide (i < j)))
  | .le, .int i, .int j => .ok (.bool (decide (i ≤ j)))
  | .gt, .int i, .int j => .ok (.bool (decide (j < i)))
  | .ge, .int i, .int j => .ok (.bool (decide (j ≤ i)))
  | .lt, .str a, .str b => .ok (.bool (decide (a.cps.toList < b.cps.toList)))
  | .lt, .tuple xs, .tuple ys => if PySem.W.alike (.tuple xs) (.tuple ys) = true ∧ canEq (.tuple xs) (.tuple ys) = true then .ok (.bool (ltD (.tuple xs) (.tuple ys))) else .no
  | .mem, a, .list ys => if canEq a (.list ys) = true then .ok (.bool (memD a ys)) else .no
  | .mem, a, .tuple ys => if canEq a (.tuple ys) = true then .ok (.bool (memD a ys)) else .no
  | .nmem, a, .list ys => if canEq a (.list ys) = true then .ok (.bool (!memD a ys)) else .no
  | .nmem, a, .tuple ys => if canEq a (.tuple ys) = true then .ok (.bool (!memD a ys)) else .no
  | .mem, .str a, .str b => if a.length = 1 then .ok (.bool (decide (a.cps.getD 0 0 ∈ b.cps.toList))) else .no
  | .iss, a, .none => .ok (.bool (isNon a))
  | .isn, a, .none => .ok (.bool (!isNon a))
  | .iss, .bool a, .bool b => .ok (.bool (decide (a = b)))
  | .isn, .bool a, .bool b => .ok (.bool (!decide (a = b)))
  | .ix, .list xs, .int i => ofO (L2.atI xs i)
  | .ix, .tuple xs, .int i => ofO (L2.atI xs i)
  | .ix, .str s, .int i => (ofO (L2.atI s.cps.toList i)).bind fun c => .ok (.str ⟨#[c]⟩)
  | .from, d, .int i => cutR d (some i) none
  | .to, d, .int i => cutR d none (some i)
  | .max2, .int i, .int j => .ok (.int (if j > i then j else i))
  | .min2, .int i, .int j => .ok (.int (if j < i then j else i))
  | .rng, .int i, .int j => if -1000000 ≤ i ∧ i ≤ 1000000 ∧ -1000000 ≤ j ∧ j ≤ 1000000 then .ok (.list (rangeD i (j - i).toNat)) else .no
  | .zip, .list xs, .list ys => .ok (.list (zipD xs ys))
  | .zip, .tuple xs, .tuple ys => .ok (.list (zipD xs ys))
  | .step, .tuple xs, .int i => if i = -1 then .ok (.tuple xs.reverse) else .no
  | _, _, _ => .no
def selD : List Str → List D → D → R D
  | k :: ks, v :: vs, d => (match d with
    | .str x => if x = k then .ok v else selD ks vs d
    | _ => .no)
  | _, _, _ => .no

def look (τ : Sd) (i : Nat) : R D := match τ[i]? with
  | some (some (.val d)) => .ok d
  | _ => .no
def peek (τ : Sd) (i : Nat) : R D := match τ[i]? with
  | some (some (.val d)) => .ok d
  | some (some (.own xs)) => .ok (.list xs)
  | _ => .no
def setAll : Sd → List Nat → List D → Sd
  | τ, i :: is, d :: ds => setAll (τ.set i (some (.val d))) is ds
  | τ, _, _ => τ
def bindTg : Tg → D → Sd → R Sd
  | .one i, d, τ => .ok (τ.set i (some (.val d)))
  | .tup is, d, τ => (match seqOf d with
    | some ds => if ds.length = is.length then .ok (setAll τ is ds) else .no
    | none => .no)
def wipeD (τ : Sd) : List Nat → Sd
  | [] => τ
  | v :: vs => (wipeD τ vs).set v none

def setPar : Sd → List (Nat × Bool) → List D → R Sd
  | τ, [], [] => .ok τ
  | τ, (i, false) :: is, d :: ds => setPar (τ.set i (some (.val d))) is ds
  | τ, (i, true) :: is, .list xs :: ds => setPar (τ.set i (some (.own xs))) is ds
  | _, _, _ => .no
/-- a comprehension's turns: f gives none where the test falls -/
def turns (f : D → R (Option D)) : List D → R (List D)
  | [] => .ok []
  | x :: r => (f x).bind fun o => (turns f r).bind fun ys => .ok (match o with | some y => y :: ys | none => ys)
def asB : D → R Bool
  | .bool b => .ok b
  | _ => .no

end Fz

set_option Elab.async false
set_option linter.all false
set_option autoImplicit false
set_option maxRecDepth 100000
/-! Part A2: the order of data; sorting. -/
namespace Fz
open PySem PySem.Spec PySem.W PyProof.Rows

mutual
theorem eqv_alike : ∀ (a b : D), alike a b = true → PyData.eqv a b = true → a = b
  | .none, b, h, e => by cases b <;> first | rfl | simp [alike] at h
  | .bool x, b, h, e => by
    cases b <;> first | (simp [alike] at h; done) | skip
    simp [PyData.eqv] at e; rw [e]
  | .int x, b, h, e => by
    cases b <;> first | (simp [alike] at h; done) | skip
    simp [PyData.eqv] at e; rw [e]
  | .str x, b, h, e => by
    cases b <;> first | (simp [alike] at h; done) | skip
    simp [PyData.eqv] at e; rw [e]
  | .list xs, b, h, e => by
    cases b <;> first | (simp [alike] at h; done) | skip
    simp only [PyData.eqv] at e
    rw [eqvAll_alike xs _ (by simpa [alike] using h) e]
  | .tuple xs, b, h, e => by
    cases b <;> first | (simp [alike] at h; done) | skip
    simp only [PyData.eqv] at e
    rw [eqvAll_alike xs _ (by simpa [alike] using h) e]
  | .dict _, b, h, e => by cases b <;> simp [alike] at h
theorem eqvAll_alike : ∀ (xs ys : List D), alikeAll xs ys = true → PyData.eqvAll xs ys = true → xs = ys
  | [], ys, _, e => by cases ys <;> first | rfl | simp [PyData.eqvAll] at e
  | x :: xs, ys, h, e => by
    cases ys with
    | nil => simp [PyData.eqvAll] at e
    | cons y ys =>
      obtain ⟨h1, h2⟩ := alike_all_cons h
      rw [PyData.eqvAll, Bool.and_eq_true] at e
      rw [eqv_alike x y h1 e.1, eqvAll_alike xs ys h2 e.2]
end
mutual
theorem lt_data : ∀ (a b : D), alike a b = true → ltD a b = dataLt a b
  | .none, b, h => by cases b <;> first | (simp [alike] at h; done) | (simp [ltD]; rfl)
  | .bool x, b, h => by
    cases b <;> first | (simp [alike] at h; done) | skip
    rename_i y
    rw [dataLt_bool]
    cases x <;> cases y <;> rfl
  | .int x, b, h => by
    cases b <;> first | (simp [alike] at h; done) | skip
    rw [dataLt_int]; simp [ltD]
  | .str x, b, h => by
    cases b <;> first | (simp [alike] at h; done) | skip
    rw [dataLt_str]; simp [ltD]
  | .list xs, b, h => by
    cases b <;> first | (simp [alike] at h; done) | skip
    rw [dataLt_list]
    simp only [ltD]
    exact lts_data xs _ (by simpa [alike] using h)
  | .tuple xs, b, h => by
    cases b <;> first | (simp [alike] at h; done) | skip
    rw [dataLt_tuple]
    simp only [ltD]
    exact lts_data xs _ (by simpa [alike] using h)
  | .dict _, b, h => by cases b <;> simp [alike] at h
theorem lts_data : ∀ (xs ys : List D), alikeAll xs ys = true → ltDs xs ys = PyProof.Rows.lexLt itemOrd (keyToksAll xs) (keyToksAll ys)
  | [], [], _ => by simp only [ltDs, keyToksAll]; rfl
  | [], y :: ys, _ => by simp only [ltDs, keyToksAll]; rfl
  | x :: xs, [], _ => by simp only [ltDs, keyToksAll]; rfl
  | x :: xs, y :: ys, h => by
    obtain ⟨h1, h2⟩ := alike_all_cons h
    simp only [ltDs]
    by_cases e : PyData.eqv x y = true
    · rw [if_pos e, dataLt_all_yes h1 e]
      exact lts_data xs ys h2
    · rw [if_neg e, dataLt_all_no h1 (by simpa using e)]
      exact lt_data x y h1
end

mutual
theorem alike_symm : ∀ (a b : D), alike a b = true → alike b a = true
  | .none, b, h => by cases b <;> first | rfl | simp [alike] at h
  | .bool x, b, h => by cases b <;> first | rfl | simp [alike] at h
  | .int x, b, h => by cases b <;> first | rfl | simp [alike] at h
  | .str x, b, h => by cases b <;> first | rfl | simp [alike] at h
  | .list xs, b, h => by
    cases b <;> first | (simp [alike] at h; done) | skip
    simp only [alike] at h ⊢
    exact alikeAll_symm xs _ h
  | .tuple xs, b, h => by
    cases b <;> first | (simp [alike] at h; done) | skip
    simp only [alike] at h ⊢
    exact alikeAll_symm xs _ h
  | .dict _, b, h => by cases b <;> simp [alike] at h
theorem alikeAll_symm : ∀ (xs ys : List D), alikeAll xs ys = true → alikeAll ys xs = true
  | [], ys, _ => by cases ys <;> simp [alikeAll]
  | x :: xs, ys, h => by
    cases ys with
    | nil => simp [alikeAll]
    | cons y ys =>
      obtain ⟨h1, h2⟩ := alike_all_cons h
      simp [alikeAll, alike_symm x y h1, alikeAll_symm xs ys h2]
end

theorem eqv_sym {a b : D} (h : alike a b = true) : PyData.eqv a b = PyData.eqv b a := by
  cases e : PyData.eqv a b with
  | true => have := eqv_alike a b h e; subst this; exact e.symm
  | false =>
    cases e2 : PyData.eqv b a with
    | false => rfl
    | true => have := eqv_alike b a (alike_symm a b h) e2; subst this; rw [e] at e2; cases e2
mutual
theorem lt_conn : ∀ (a b : D), alike a b = true → ltD a b = false → ltD b a = false → a = b
  | .none, b, h, _, _ => by cases b <;> first | rfl | simp [alike] at h
  | .bool x, b, h, h1, h2 => by
    cases b <;> first | (simp [alike] at h; done) | skip
    rename_i y
    cases x <;> cases y <;> first | rfl | simp [ltD] at h1 h2
  | .int x, b, h, h1, h2 => by
    cases b <;> first | (simp [alike] at h; done) | skip
    rename_i y
    simp only [ltD, decide_eq_false_iff_not] at h1 h2
    have : x = y := by omega
    rw [this]
  | .str x, b, h, h1, h2 => by
    cases b <;> first | (simp [alike] at h; done) | skip
    rename_i y
    simp only [ltD, decide_eq_false_iff_not] at h1 h2
    have : x.cps.toList = y.cps.toList := List.le_antisymm h2 h1
    rw [str_of_cps this]
  | .list xs, b, h, h1, h2 => by
    cases b <;> first | (simp [alike] at h; done) | skip
    simp only [ltD] at h1 h2
    rw [lts_conn xs _ (by simpa [alike] using h) h1 h2]
  | .tuple xs, b, h, h1, h2 => by
    cases b <;> first | (simp [alike] at h; done) | skip
    simp only [ltD] at h1 h2
    rw [lts_conn xs _ (by simpa [alike] using h) h1 h2]
  | .dict _, b, h, _, _ => by cases b <;> simp [alike] at h
theorem lts_conn : ∀ (xs ys : List D), alikeAll xs ys = true → ltDs xs ys = false → ltDs ys xs = false → xs = ys
  | [], [], _, _, _ => rfl
  | [], y :: ys, _, h, _ => by simp [ltDs] at h
  | x :: xs, [], _, _, h => by simp [ltDs] at h
  | x :: xs, y :: ys, h, h1, h2 => by
    obtain ⟨a1, a2⟩ := alike_all_cons h
    simp only [ltDs] at h1 h2
    rw [← eqv_sym a1] at h2
    by_cases e : PyData.eqv x y = true
    · rw [if_pos e] at h1 h2
      rw [eqv_alike x y a1 e, lts_conn xs ys a2 h1 h2]
    · rw [if_neg e] at h1 h2
      have := lt_conn x y a1 h1 h2
      subst this
      exact absurd (eqv_refl_alike x a1) e
end

/-! ### sorting -/
abbrev leW : D → D → Bool := dataLe false id
theorem leW_eq (a b : D) : leW a b = !dataLt b a := rfl
theorem leD_leW {a b : D} (h : alike a b = true) : leD a b = leW a b := by
  rw [leW_eq, leD, lt_data b a (alike_symm a b h)]
theorem leW_total : TotalLe leW := sortLe_total _ _ _
theorem leD_anti {a b : D} (h : alike a b = true) (h1 : leD a b = true) (h2 : leD b a = true) : a = b := by
  unfold leD at h1 h2
  exact lt_conn a b h (by simpa using h2) (by simpa using h1)
theorem insD_perm (x : D) : ∀ l : List D, (insD x l).Perm (x :: l)
  | [] => .refl _
  | y :: r => by
    unfold insD
    split
    · exact .refl _
    · exact ((insD_perm x r).cons y).trans (.swap x y r)
theorem isort_perm : ∀ l : List D, (isort l).Perm l
  | [] => .refl _
  | x :: r => (insD_perm x (isort r)).trans ((isort_perm r).cons x)
theorem isort_length (l : List D) : (isort l).length = l.length := (isort_perm l).length_eq
theorem insD_sorted {x : D} : ∀ {l : List D}, (∀ y ∈ l, alike x y = true) → l.Pairwise (fun a b => leW a b = true) → (insD x l).Pairwise (fun a b => leW a b = true)
  | [], _, _ => by simp [insD]
  | y :: r, ha, hs => by
    obtain ⟨h1, h2⟩ := List.pairwise_cons.mp hs
    have hxy := ha y List.mem_cons_self
    unfold insD
    split
    · rename_i e
      rw [leD_leW hxy] at e
      refine List.pairwise_cons.mpr ⟨fun z hz => ?_, hs⟩
      rcases List.mem_cons.mp hz with rfl | hz
      · exact e
      · exact leW_total.trans _ _ _ e (h1 z hz)
    · rename_i e
      rw [leD_leW hxy] at e
      have hyx : leW y x = true := (leW_total.total x y).elim (fun z => absurd z e) id
      refine List.pairwise_cons.mpr ⟨fun z hz => ?_, insD_sorted (fun z hz => ha z (List.mem_cons_of_mem _ hz)) h2⟩
      rcases List.mem_cons.mp ((insD_perm x r).mem_iff.mp hz) with rfl | hz
      · exact hyx
      · exact h1 z hz
theorem isort_sorted : ∀ {l : List D}, AllAlike l → (isort l).Pairwise (fun a b => leW a b = true)
  | [], _ => by simp [isort]
  | x :: r, h => insD_sorted (fun y hy => h x List.mem_cons_self y (List.mem_cons_of_mem _ ((isort_perm r).mem_iff.mp hy))) (isort_sorted fun a ha b hb => h a (List.mem_cons_of_mem _ ha) b (List.mem_cons_of_mem _ hb))
/-- any two sorted arrangements of the same alike data are one -/
theorem sorted_one {l m n : List D} (h : AllAlike l) (hm : m.Perm l) (hn : n.Perm l) (sm : m.Pairwise (fun a b => leW a b = true)) (sn : n.Pairwise (fun a b => leW a b = true)) : m = n := by
  refine List.Perm.eq_of_pairwise (le := fun a b => leW a b = true) (fun a b ha hb h1 h2 => ?_) sm sn (hm.trans hn.symm)
  have al := h a (hm.mem_iff.mp ha) b (hn.mem_iff.mp hb)
  exact leD_anti al (by rw [leD_leW al]; exact h1) (by rw [leD_leW (alike_symm a b al)]; exact h2)
theorem isort_merge {l m : List D} (h : AllAlike l) (hm : m.Perm l) : m.mergeSort leW = isort l :=
  sorted_one h ((List.mergeSort_perm m leW).trans hm) (isort_perm l) (sort_pairwise leW_total m) (isort_sorted h)
end Fz

set_option Elab.async false
set_option linter.all false
set_option autoImplicit false
set_option maxRecDepth 100000
/-! Part B: data on the abstract heap; own lists hidden. -/
namespace Fz
open PySem PySem.Spec L2

abbrev Fr' := PySem.W.Frag
/-- the tables of the defs that make lambdas, each with the name that its code objects bear -/
class TabT where
  T : List (Addr × Str)
/-- all but the tables stay -/
abbrev Ex (H H' : Hp) : Prop := LamX.ExtN H H'
/-- .. and the tables stay tables of their kind -/
structure Same [TabT] (H H' : Hp) : Prop where
  ex : Ex H H'
  tab : LamX.Tabs TabT.T H → LamX.Tabs TabT.T H'
theorem Ex.refl (H : Hp) : Ex H H := LamX.ExtN.refl H
theorem Ex.trans {H H1 H2 : Hp} (a : Ex H H1) (b : Ex H1 H2) : Ex H H2 := LamX.ExtN.trans a b
theorem Ex.lst {H H' : Hp} (e : Ex H H') {a : Addr} {vs : List V} (h : H a = some (.lst vs)) : H' a = some (.lst vs) := e a _ h fun _ z => by cases z
section
variable [TabT]
theorem Same.refl (H : Hp) : Same H H := ⟨Ex.refl H, fun t => t⟩
theorem Same.trans {H H1 H2 : Hp} (a : Same H H1) (b : Same H1 H2) : Same H H2 := ⟨a.ex.trans b.ex, fun t => b.tab (a.tab t)⟩
theorem Same.of {H H' : Hp} (e : L2.Same H H') : Same H H' := ⟨LamX.ExtN.of e, fun t => t.ext e⟩
theorem Same.lst {H H' : Hp} (e : Same H H') {a : Addr} {vs : List V} (h : H a = some (.lst vs)) : H' a = some (.lst vs) := e.ex.lst h
instance coeSame {H H' : Hp} : Coe (Same H H') (Ex H H') := ⟨Same.ex⟩
end
/-- nothing stands at a, or a table -/
def Fr (H : Hp) (a : Addr) : Prop := ∀ o, H a = some o → ∃ ps, o = .tbl ps
theorem Fr.of {H : Hp} {a : Addr} (h : H a = none) : Fr H a := fun o e => by rw [h] at e; cases e
theorem Ex.free {H H' : Hp} (e : Ex H H') {a : Addr} (h : Fr H' a) : Fr H a := fun o q => by
  by_cases ht : ∃ ps, o = .tbl ps
  · exact ht
  · exact h o (e a o q fun ps z => ht ⟨ps, z⟩)
theorem Fr.lst {H : Hp} {a : Addr} {vs : List V} (h : Fr H a) (q : H a = some (.lst vs)) : False := by
  obtain ⟨ps, z⟩ := h _ q
  cases z
mutual
/-- the value v stands for d, over the heap H -/
inductive Rp (K : Fr') (H : Hp) : V → D → Prop
  | non : Rp K H .non .none
  | bl (b : Bool) : Rp K H (.bl b) (.bool b)
  | int (i : Int) : Rp K H (.int i) (.int i)
  | str (x : Str) (ok : PyData.strOk x = true) (sz : x.length ≤ sizeLine) : Rp K H (.str x) (.str x)
  | lst {a : Addr} {vs : List V} {ds : List D} (q : SqL K H a vs) (r : RpAll K H vs ds) (sz : ds.length ≤ sizeLine) : Rp K H (.ref a) (.list ds)
  | tup {a : Addr} {vs : List V} {ds : List D} (q : SqT K H a vs) (r : RpAll K H vs ds) (sz : ds.length ≤ sizeLine) : Rp K H (.ref a) (.tuple ds)
inductive RpAll (K : Fr') (H : Hp) : List V → List D → Prop
  | nil : RpAll K H [] []
  | cons {v : V} {vs : List V} {d : D} {ds : List D} : Rp K H v d → RpAll K H vs ds → RpAll K H (v :: vs) (d :: ds)
end

section
variable {K : Fr'} {H H' : Hp}
theorem rd_ex {a : Addr} {o : HO} (e : Ex H H') (hn : ∀ ps, o ≠ .tbl ps) (h : Rd H a o) : Rd H' a o := by
  rcases h with h | ⟨ob, h⟩
  · exact .inl (e _ _ h hn)
  · exact .inr ⟨ob, e _ _ h fun _ z => by cases z⟩
theorem sqL_same {a : Addr} {xs : List V} (e : Ex H H') (h : SqL K H a xs) : SqL K H' a xs := h.imp (rd_ex e fun _ z => by cases z) id
theorem sqT_same {a : Addr} {xs : List V} (e : Ex H H') (h : SqT K H a xs) : SqT K H' a xs := h.imp (rd_ex e fun _ z => by cases z) id
mutual
theorem Rp.mono (e : Ex H H') : ∀ {v : V} {d : D}, Rp K H v d → Rp K H' v d
  | _, _, .non => .non
  | _, _, .bl b => .bl b
  | _, _, .int i => .int i
  | _, _, .str x a b => .str x a b
  | _, _, .lst q r z => .lst (sqL_same e q) (RpAll.mono e r) z
  | _, _, .tup q r z => .tup (sqT_same e q) (RpAll.mono e r) z
theorem RpAll.mono (e : Ex H H') : ∀ {vs : List V} {ds : List D}, RpAll K H vs ds → RpAll K H' vs ds
  | _, _, .nil => .nil
  | _, _, .cons a b => .cons (Rp.mono e a) (RpAll.mono e b)
end
mutual
theorem Rp.dp : ∀ {v : V} {d : D}, Rp K H v d → Dp K H v d
  | _, _, .non => .non
  | _, _, .bl b => .bl b
  | _, _, .int i => .int i
  | _, _, .str x _ _ => .str x
  | _, _, .lst q r _ => .lst q (RpAll.dp r)
  | _, _, .tup q r _ => .tup q (RpAll.dp r)
theorem RpAll.dp : ∀ {vs : List V} {ds : List D}, RpAll K H vs ds → DpAll K H vs ds
  | _, _, .nil => .nil
  | _, _, .cons a b => .cons (Rp.dp a) (RpAll.dp b)
end
mutual
theorem Rp.lay : ∀ {v : V} {d : D}, Rp K H v d → d.canLay0 = true
  | _, _, .non => rfl
  | _, _, .bl b => rfl
  | _, _, .int i => rfl
  | _, _, .str x a _ => by simpa [PyData.canLay0] using a
  | _, _, .lst q r _ => by simpa [PyData.canLay0] using RpAll.lay r
  | _, _, .tup q r _ => by simpa [PyData.canLay0] using RpAll.lay r
theorem RpAll.lay : ∀ {vs : List V} {ds : List D}, RpAll K H vs ds → PyData.canLayAll0 ds = true
  | _, _, .nil => rfl
  | _, _, .cons a b => by simp [PyData.canLayAll0, Rp.lay a, RpAll.lay b]
end
theorem RpAll.length : ∀ {vs : List V} {ds : List D}, RpAll K H vs ds → vs.length = ds.length
  | _, _, .nil => rfl
  | _, _, .cons _ b => by simp [RpAll.length b]
theorem RpAll.append : ∀ {vs ws : List V} {ds es : List D}, RpAll K H vs ds → RpAll K H ws es → RpAll K H (vs ++ ws) (ds ++ es)
  | _, _, _, _, .nil, s => s
  | _, _, _, _, .cons a b, s => .cons a (RpAll.append b s)
theorem RpAll.get : ∀ {vs : List V} {ds : List D} {i : Nat} {d : D}, RpAll K H vs ds → ds[i]? = some d → ∃ v, vs[i]? = some v ∧ Rp K H v d
  | _, _, _, _, .nil, e => by simp at e
  | _, _, 0, _, .cons r _, e => by simp at e; subst e; exact ⟨_, rfl, r⟩
  | _, _, i + 1, d, .cons _ t, e => by
    obtain ⟨u, h1, h2⟩ := RpAll.get (i := i) (d := d) t (by simpa using e)
    exact ⟨u, by simpa using h1, h2⟩
theorem RpAll.getV : ∀ {vs : List V} {ds : List D} {i : Nat} {v : V}, RpAll K H vs ds → vs[i]? = some v → ∃ d, ds[i]? = some d ∧ Rp K H v d
  | _, _, _, _, .nil, e => by simp at e
  | _, _, 0, _, .cons r _, e => by simp at e; subst e; exact ⟨_, rfl, r⟩
  | _, _, i + 1, d, .cons _ t, e => by
    obtain ⟨u, h1, h2⟩ := RpAll.getV (i := i) (v := d) t (by simpa using e)
    exact ⟨u, by simpa using h1, h2⟩
theorem RpAll.take : ∀ {vs : List V} {ds : List D} (n : Nat), RpAll K H vs ds → RpAll K H (vs.take n) (ds.take n)
  | _, _, 0, _ => .nil
  | _, _, _ + 1, .nil => .nil
  | _, _, n + 1, .cons r t => .cons r (RpAll.take n t)
theorem RpAll.drop : ∀ {vs : List V} {ds : List D} (n : Nat), RpAll K H vs ds → RpAll K H (vs.drop n) (ds.drop n)
  | _, _, 0, r => r
  | _, _, _ + 1, .nil => .nil
  | _, _, n + 1, .cons _ t => RpAll.drop n t
theorem RpAll.mem : ∀ {vs : List V} {ds : List D} {d : D}, RpAll K H vs ds → d ∈ ds → ∃ v, v ∈ vs ∧ Rp K H v d
  | _, _, _, .nil, e => by cases e
  | _, _, d, .cons r t, e => by
    rcases List.mem_cons.mp e with h | h
    · subst h; exact ⟨_, List.mem_cons_self, r⟩
    · obtain ⟨v, h1, h2⟩ := RpAll.mem t h
      exact ⟨v, List.mem_cons_of_mem _ h1, h2⟩
/-- the value of a list (tuple), of a bool .. -/
theorem Rp.bool_of {v : V} {b : Bool} (h : Rp K H v (.bool b)) : v = .bl b := by cases h; rfl
theorem Rp.int_of {v : V} {i : Int} (h : Rp K H v (.int i)) : v = .int i := by cases h; rfl
theorem Rp.str_of {v : V} {x : Str} (h : Rp K H v (.str x)) : v = .str x ∧ PyData.strOk x = true ∧ x.length ≤ sizeLine := by
  cases h with
  | str x a b => exact ⟨rfl, a, b⟩
theorem Rp.none_of {v : V} (h : Rp K H v .none) : v = .non := by cases h; rfl
end

/-! ### hiding -/
open Classical in
/-- H without the objects of O -/
noncomputable def hide (H : Hp) (O : List Addr) : Hp := fun b => if b ∈ O then none else H b
open Classical in
noncomputable def unhide (H : Hp) (O : List Addr) (H2 : Hp) : Hp := fun b => if b ∈ O then H b else H2 b
theorem hide_in {H : Hp} {O : List Addr} {b : Addr} (h : b ∈ O) : hide H O b = none := if_pos h
theorem hide_out {H : Hp} {O : List Addr} {b : Addr} (h : b ∉ O) : hide H O b = H b := if_neg h
theorem unhide_in {H H2 : Hp} {O : List Addr} {b : Addr} (h : b ∈ O) : unhide H O H2 b = H b := if_pos h
theorem unhide_out {H H2 : Hp} {O : List Addr} {b : Addr} (h : b ∉ O) : unhide H O H2 b = H2 b := if_neg h
theorem hide_nil {H : Hp} : hide H [] = H := by funext b; exact hide_out (by simp)
theorem hide_some {H : Hp} {O : List Addr} {b : Addr} {o : HO} (h : hide H O b = some o) : b ∉ O ∧ H b = some o := by
  by_cases hb : b ∈ O
  · rw [hide_in hb] at h; cases h
  · exact ⟨hb, by rw [hide_out hb] at h; exact h⟩
theorem same_hide [TabT] {H : Hp} {O : List Addr} : Same (hide H O) H := .of fun b o h => (hide_some h).2
theorem ex_hide {H : Hp} {O : List Addr} : Ex (hide H O) H := .of fun b o h => (hide_some h).2
theorem Ex.hide {H H' : Hp} {O : List Addr} (e : Ex H H') : Ex (Fz.hide H O) (Fz.hide H' O) := fun b o h n => by
  obtain ⟨h1, h2⟩ := hide_some h
  rw [hide_out h1]; exact e b o h2 n
theorem Same.hide [TabT] {H H' : Hp} {O : List Addr} (e : Same H H') : Ex (Fz.hide H O) (Fz.hide H' O) := e.ex.hide
theorem hide_sub [TabT] {H : Hp} {O O' : List Addr} (h : ∀ a ∈ O', a ∈ O) : Same (hide H O) (hide H O') := .of fun b o e => by
  obtain ⟨h1, h2⟩ := hide_some e
  rw [hide_out fun z => h1 (h b z)]; exact h2
theorem same_upd [TabT] {H : Hp} {p : Addr} {o : HO} (h : H p = none) : Same H (upd H p o) := .of fun b u e => by
  rw [upd_ne]; exact e
  intro z; subst z; rw [h] at e; cases e
theorem hide_none {H : Hp} {O : List Addr} {b : Addr} (h : H b = none) : hide H O b = none := by
  by_cases hb : b ∈ O
  · exact hide_in hb
  · rw [hide_out hb]; exact h
theorem hide_upd_in {H : Hp} {O : List Addr} {b : Addr} {o : HO} (h : b ∈ O) : hide (upd H b o) O = hide H O := by
  funext c
  by_cases hc : c ∈ O
  · rw [hide_in hc, hide_in hc]
  · rw [hide_out hc, hide_out hc, upd_ne]
    intro z; subst z; exact hc h

/-- all of O are lists that stand in H -/
def Lsts (H : Hp) (O : List Addr) : Prop := ∀ a ∈ O, ∃ vs, H a = some (.lst vs)
theorem Lsts.mono {H H' : Hp} {O : List Addr} (h : Lsts H O) (e : Ex H H') : Lsts H' O := fun a ha => let ⟨vs, q⟩ := h a ha; ⟨vs, e.lst q⟩
theorem tab_hide {T : List (Addr × Str)} {H : Hp} {O : List Addr} (L : Lsts H O) (t : LamX.Tabs T H) : LamX.Tabs T (hide H O) := fun p hp => by
  obtain ⟨ps, h1, h2, h3⟩ := t p hp
  have no : ∀ {b : Addr} {o : HO}, H b = some o → (∀ vs, o ≠ .lst vs) → b ∉ O := fun {b o} e n z => by
    obtain ⟨vs, q⟩ := L b z
    rw [e] at q
    exact n vs (Option.some.inj q)
  refine ⟨ps, by rw [hide_out (no h1 fun _ z => by cases z)]; exact h1, h2, fun pos cv hc => ?_⟩
  obtain ⟨c, e1, e2⟩ := h3 pos cv hc
  exact ⟨c, e1, by rw [hide_out (no e2 fun vs z => by unfold LamX.CodeO at z; cases z)]; exact e2⟩
/-- the strong form, of heaps without the lists of O -/
theorem Same.hideS [TabT] {H H' : Hp} {O : List Addr} (e : Same H H') (L : Lsts H O) : Same (Fz.hide H O) (Fz.hide H' O) :=
  ⟨e.hide, fun t => tab_hide (L.mono e.ex) (e.tab (same_hide.tab t))⟩
noncomputable def objsOf (O : List Addr) (h : Heap) : List (Addr × Obj) := O.filterMap fun a => (h.get? a).map fun o => (a, o)
theorem mem_objsOf {O : List Addr} {h : Heap} {a : Addr} {o : Obj} (ha : a ∈ O) (e : h.get? a = some o) : (a, o) ∈ objsOf O h :=
  List.mem_filterMap.mpr ⟨a, ha, by rw [e]; rfl⟩
theorem of_objsOf {O : List Addr} {h : Heap} {p : Addr × Obj} (hp : p ∈ objsOf O h) : p.1 ∈ O ∧ h.get? p.1 = some p.2 := by
  obtain ⟨a, ha, e⟩ := List.mem_filterMap.mp hp
  cases q : h.get? a with
  | none => rw [q] at e; cases e
  | some o => rw [q] at e; cases e; exact ⟨ha, q⟩

section
variable {X : Cx} {pins : List (Addr × Obj)} {σ : St} {H H2 : Hp} {s s2 : Shared} {O : List Addr}
theorem Inv.fsFree (I : Inv X pins σ H s) : ∀ b ∈ X.fs, H b = none := fun b hb => by
  obtain ⟨_, o, ho, _⟩ := I.ok.funs.mem hb
  exact I.base.free b o ho (I.ok.frf b hb) fun z => I.ok.exfs b z hb
theorem Inv.hide (I : Inv X pins σ H s) (L : Lsts H O) : Inv X (pins ++ objsOf O s.heap) σ (Fz.hide H O) s := by
  have nl : ∀ {b : Addr} {o : HO}, H b = some o → (∀ vs, o ≠ .lst vs) → b ∉ O := fun {b o} e h z => by
    obtain ⟨vs, q⟩ := L b z
    rw [e] at q
    exact h vs (Option.some.inj q)
  refine ⟨I.ok, I.os, I.bare, ⟨I.base.keep, I.base.slot, fun b o q n hx => hide_none (I.base.free b o q n hx), I.base.there, fun b xs q => ?_, fun b o u q => ?_, fun b ps q => ?_⟩, I.loc, I.cell, hide_none I.free, fun x c h => hide_none (I.freeC x c h), fun p hp => ?_, fun a o e => ?_, I.len⟩
  · have z := I.base.tups b xs q
    rw [hide_out (nl z fun vs h => by cases h)]; exact z
  · have z := I.base.frzs b o u q
    rw [hide_out (nl z fun vs h => by cases h)]; exact z
  · obtain ⟨m, z⟩ := I.base.tbls b ps q
    exact ⟨m, by rw [hide_out (nl z fun vs h => by cases h)]; exact z⟩
  · rw [← List.append_assoc] at hp
    rcases List.mem_append.mp hp with hp | hp
    · obtain ⟨h1, h2, h3⟩ := I.pin p hp
      exact ⟨h1, hide_none h2, h3⟩
    · obtain ⟨h1, h2⟩ := of_objsOf hp
      obtain ⟨vs, hv⟩ := L _ h1
      obtain ⟨_, its, n, _, g⟩ := (show ObjOk X.prog X.w H s.heap p.1 (.lst vs) from I.hok _ _ hv)
      refine ⟨h2, hide_in h1, fun z => ?_, fun z => ?_, fun v => ?_⟩
      · rw [z, I.free] at hv; cases hv
      · rw [Inv.fsFree I _ z] at hv; cases hv
      · rw [h2] at g; rw [Option.some.inj g]; intro z; cases z
  · obtain ⟨h1, h2⟩ := hide_some e
    exact (I.hok a o h2).stay (fun b u _ q => q) (fun b q => by rw [hide_out (nl q fun vs h => by cases h)]; exact q) (fun b xs q => by rw [hide_out (nl q fun vs h => by cases h)]; exact q)
/-- the hidden ones again -/
theorem Inv.unhide (I : Inv X pins σ H s) (L : Lsts H O) (J : Inv X (pins ++ objsOf O s.heap) σ H2 s2) : Inv X pins σ (Fz.unhide H O H2) s2 ∧ ∀ a ∈ O, H2 a = none := by
  have hobj : ∀ a ∈ O, ∃ o, s.heap.get? a = some o := fun a ha => by
    obtain ⟨vs, hv⟩ := L a ha
    obtain ⟨_, its, n, _, g⟩ := (show ObjOk X.prog X.w H s.heap a (.lst vs) from I.hok _ _ hv)
    exact ⟨_, g⟩
  have hp : ∀ a ∈ O, ∃ o, s.heap.get? a = some o ∧ s2.heap.get? a = some o ∧ H2 a = none := fun a ha => by
    obtain ⟨o, g⟩ := hobj a ha
    obtain ⟨h1, h2, _⟩ := J.pin (a, o) (by rw [← List.append_assoc]; exact List.mem_append_right _ (mem_objsOf ha g))
    exact ⟨o, g, h1, h2⟩
  have no : ∀ {b : Addr} {o : HO}, H2 b = some o → b ∉ O := fun {b o} e z => by
    obtain ⟨_, _, _, h⟩ := hp b z
    rw [e] at h; cases h
  refine ⟨⟨J.ok, J.os, J.bare, ⟨J.base.keep, J.base.slot, fun b o q n hx => ?_, J.base.there, fun b xs q => ?_, fun b o u q => ?_, fun b ps q => ?_⟩, J.loc, J.cell, ?_, fun x c h => ?_, fun p hp' => ?_, fun a o e => ?_, J.len⟩, fun a ha => (hp a ha).choose_spec.2.2⟩
  · by_cases hb : b ∈ O
    · obtain ⟨vs, hv⟩ := L b hb
      rw [I.base.free b o q n hx] at hv; cases hv
    · rw [unhide_out hb]; exact J.base.free b o q n hx
  · have z := J.base.tups b xs q
    rw [unhide_out (no z)]; exact z
  · have z := J.base.frzs b o u q
    rw [unhide_out (no z)]; exact z
  · obtain ⟨m, z⟩ := J.base.tbls b ps q
    exact ⟨m, by rw [unhide_out (no z)]; exact z⟩
  · by_cases hb : X.env.locals ∈ O
    · obtain ⟨vs, hv⟩ := L _ hb
      rw [I.free] at hv; cases hv
    · rw [unhide_out hb]; exact J.free
  · by_cases hb : c ∈ O
    · obtain ⟨vs, hv⟩ := L _ hb
      rw [I.freeC x c h] at hv; cases hv
    · rw [unhide_out hb]; exact J.freeC x c h
  · obtain ⟨h1, h2, h3⟩ := J.pin p (by rw [← List.append_assoc]; exact List.mem_append_left _ hp')
    refine ⟨h1, ?_, h3⟩
    by_cases hb : p.1 ∈ O
    · obtain ⟨vs, hv⟩ := L _ hb
      rw [(I.pin p hp').2.1] at hv; cases hv
    · rw [unhide_out hb]; exact h2
  · by_cases ha : a ∈ O
    · rw [unhide_in ha] at e
      obtain ⟨vs, hv⟩ := L a ha
      rw [e] at hv
      cases hv
      obtain ⟨ob, g1, g2, _⟩ := hp a ha
      obtain ⟨z, its, n, r, g⟩ := (show ObjOk X.prog X.w H s.heap a (.lst vs) from I.hok _ _ e)
      rw [g1] at g
      exact ⟨z, its, n, r, by rw [g2]; exact g⟩
    · rw [unhide_out ha] at e
      exact (J.hok a o e).stay (fun b u _ q => q) (fun b q => by rw [unhide_out (no q)]; exact q) (fun b xs q => by rw [unhide_out (no q)]; exact q)
end

/-- an object that is neither a table nor a code object is written -/
theorem tab_put {T : List (Addr × Str)} {H : Hp} {a : Addr} {o0 o1 : HO} (q : H a = some o0) (n1 : ∀ ps, o0 ≠ .tbl ps) (n2 : ∀ φ, o0 ≠ .ext φ) (t : LamX.Tabs T H) : LamX.Tabs T (upd H a o1) := fun p hp => by
  obtain ⟨ps, h1, h2, h3⟩ := t p hp
  have no : ∀ {b : Addr} {o : HO}, H b = some o → o ≠ o0 → b ≠ a := fun {b o} e n z => by
    rw [z, q] at e
    exact n (Option.some.inj e).symm
  refine ⟨ps, by rw [upd_ne (no h1 fun z => n1 ps z.symm)]; exact h1, h2, fun pos cv hc => ?_⟩
  obtain ⟨c, e1, e2⟩ := h3 pos cv hc
  exact ⟨c, e1, by rw [upd_ne (no e2 fun z => n2 _ z.symm)]; exact e2⟩
theorem same_put [TabT] {H H' : Hp} {a : Addr} {o0 o1 : HO} (e : Same H H') (h : Fr H a) (q : H' a = some o0) (n1 : ∀ ps, o0 ≠ .tbl ps) (n2 : ∀ φ, o0 ≠ .ext φ) : Same H (upd H' a o1) := by
  refine ⟨fun b o g n => ?_, fun t => tab_put q n1 n2 (e.tab t)⟩
  rw [upd_ne fun z => ?_]
  · exact e.ex b o g n
  · subst z
    obtain ⟨ps, w⟩ := h o g
    exact n ps w
theorem same_updL [TabT] {H H' : Hp} {a : Addr} {vs ws : List V} (e : Same H H') (h : Fr H a) (q : H' a = some (.lst vs)) : Same H (upd H' a (.lst ws)) :=
  same_put e h q (fun _ z => by cases z) (fun _ z => by cases z)
theorem unhide_hide {H H2 : Hp} {O : List Addr} (h : ∀ a ∈ O, H2 a = none) : hide (unhide H O H2) O = H2 := by
  funext b
  by_cases hb : b ∈ O
  · rw [hide_in hb, h b hb]
  · rw [hide_out hb, unhide_out hb]
theorem same_unhide [TabT] {H H2 : Hp} {O : List Addr} (L : Lsts H O) (hn : ∀ a ∈ O, H2 a = none) (e : Same (hide H O) H2) : Same H (unhide H O H2) := by
  refine ⟨fun b o h n => ?_, fun t => ?_⟩
  · by_cases hb : b ∈ O
    · rw [unhide_in hb]; exact h
    · rw [unhide_out hb]; exact e.ex b o (by rw [hide_out hb]; exact h) n
  · refine (e.tab (tab_hide L t)).ext fun b o q => ?_
    rw [unhide_out fun z => ?_]
    · exact q
    · rw [hn b z] at q; cases q

/-! ### the slots -/
structure RS [TabT] (K : Fr') (O : List Addr) (H : Hp) (σ : St) (τ : Sd) : Prop where
  tab : LamX.Tabs TabT.T H
  len : σ.length = τ.length
  lst : Lsts H O
  val : ∀ (i : Nat) (d : D), τ[i]? = some (some (Sv.val d)) → ∃ v, σ[i]? = some (some v) ∧ Rp K (hide H O) v d
  own : ∀ (i : Nat) (xs : List D), τ[i]? = some (some (Sv.own xs)) → ∃ a vs, σ[i]? = some (some (.ref a)) ∧ a ∈ O ∧ H a = some (.lst vs) ∧ RpAll K (hide H O) vs xs ∧ xs.length ≤ sizeLine
  sep : ∀ (i j : Nat) (a : Addr) (xs ys : List D), i ≠ j → τ[i]? = some (some (Sv.own xs)) → τ[j]? = some (some (Sv.own ys)) → σ[i]? = some (some (.ref a)) → σ[j]? = some (some (.ref a)) → False
section
variable [TabT] {K : Fr'} {O : List Addr} {H H' : Hp} {σ : St} {τ : Sd}
theorem RS.mono (r : RS K O H σ τ) (e : Same H H') : RS K O H' σ τ :=
  ⟨e.tab r.tab, r.len, r.lst.mono e.ex, fun i d h => let ⟨v, h1, h2⟩ := r.val i d h; ⟨v, h1, h2.mono (Same.hide e)⟩,
    fun i xs h => let ⟨a, vs, h1, h2, h3, h4, h5⟩ := r.own i xs h; ⟨a, vs, h1, h2, e.lst h3, h4.mono (Same.hide e), h5⟩, r.sep⟩
theorem RS.setVal (r : RS K O H σ τ) {i : Nat} {v : V} {d : D} (h : Rp K (hide H O) v d) : RS K O H (σ.set i (some v)) (τ.set i (some (Sv.val d))) := by
  have key : ∀ {j : Nat} {z : Sv}, (τ.set i (some (Sv.val d)))[j]? = some (some z) → (j = i ∧ z = Sv.val d) ∨ (j ≠ i ∧ τ[j]? = some (some z)) := fun {j z} e => by
    by_cases hj : i = j
    · subst hj
      by_cases hl : i < τ.length
      · rw [List.getElem?_set_self hl] at e
        cases e; exact .inl ⟨rfl, rfl⟩
      · rw [List.getElem?_eq_none (by simpa using hl)] at e; cases e
    · rw [List.getElem?_set_ne hj] at e; exact .inr ⟨Ne.symm hj, e⟩
  refine ⟨r.tab, by simp [r.len], r.lst, fun j d' e => ?_, fun j xs e => ?_, fun j k a xs ys hjk e1 e2 e3 e4 => ?_⟩
  · rcases key e with ⟨rfl, z⟩ | ⟨hj, e⟩
    · cases z
      have hl : j < τ.length := by
        by_cases hl : j < τ.length
        · exact hl
        · rw [List.getElem?_eq_none (by simpa using hl)] at e; cases e
      exact ⟨v, by rw [List.getElem?_set_self (by rw [r.len]; exact hl)], h⟩
    · obtain ⟨u, h1, h2⟩ := r.val j d' e
      exact ⟨u, by rw [List.getElem?_set_ne (Ne.symm hj)]; exact h1, h2⟩
  · rcases key e with ⟨_, z⟩ | ⟨hj, e⟩
    · cases z
    · obtain ⟨a, vs, h1, h2⟩ := r.own j xs e
      exact ⟨a, vs, by rw [List.getElem?_set_ne (Ne.symm hj)]; exact h1, h2⟩
  · rcases key e1 with ⟨_, z⟩ | ⟨hj, e1⟩
    · cases z
    · rcases key e2 with ⟨_, z⟩ | ⟨hk, e2⟩
      · cases z
      · rw [List.getElem?_set_ne (Ne.symm hj)] at e3
        rw [List.getElem?_set_ne (Ne.symm hk)] at e4
        exact r.sep j k a xs ys hjk e1 e2 e3 e4
theorem RS.setNone (r : RS K O H σ τ) (i : Nat) : RS K O H (σ.set i none) (τ.set i none) := by
  have key : ∀ {j : Nat} {z : Sv}, (τ.set i none)[j]? = some (some z) → j ≠ i ∧ τ[j]? = some (some z) := fun {j z} e => by
    by_cases hj : i = j
    · subst hj
      by_cases hl : i < τ.length
      · rw [List.getElem?_set_self hl] at e
        cases e
      · rw [List.getElem?_eq_none (by simpa using hl)] at e; cases e
    · rw [List.getElem?_set_ne hj] at e; exact ⟨Ne.symm hj, e⟩
  refine ⟨r.tab, by simp [r.len], r.lst, fun j d' e => ?_, fun j xs e => ?_, fun j k a xs ys hjk e1 e2 e3 e4 => ?_⟩
  · obtain ⟨hj, e⟩ := key e
    obtain ⟨u, h1, h2⟩ := r.val j d' e
    exact ⟨u, by rw [List.getElem?_set_ne (Ne.symm hj)]; exact h1, h2⟩
  · obtain ⟨hj, e⟩ := key e
    obtain ⟨a, vs, h1, h2⟩ := r.own j xs e
    exact ⟨a, vs, by rw [List.getElem?_set_ne (Ne.symm hj)]; exact h1, h2⟩
  · obtain ⟨hj, e1⟩ := key e1
    obtain ⟨hk, e2⟩ := key e2
    rw [List.getElem?_set_ne (Ne.symm hj)] at e3
    rw [List.getElem?_set_ne (Ne.symm hk)] at e4
    exact r.sep j k a xs ys hjk e1 e2 e3 e4
theorem RS.wipe (r : RS K O H σ τ) : ∀ vs : List Nat, RS K O H (L2.wipe σ vs) (wipeD τ vs)
  | [] => r
  | v :: vs => (RS.wipe r vs).setNone v
theorem RS.setAll : ∀ {is : List Nat} {vs : List V} {ds : List D} {σ : St} {τ : Sd}, RS K O H σ τ → RpAll K (hide H O) vs ds → is.length = ds.length →
    ∃ σ', RS K O H σ' (Fz.setAll τ is ds)
  | [], _, _, σ, _, r, _, _ => ⟨σ, by cases ‹RpAll _ _ _ _› <;> simpa [Fz.setAll] using r⟩
  | i :: is, _, _, σ, τ, r, .cons h1 h2, hl => by
    obtain ⟨σ', q⟩ := RS.setAll (is := is) (r.setVal (i := i) h1) h2 (by simpa using hl)
    exact ⟨σ', by simpa [Fz.setAll] using q⟩
  | _ :: _, _, _, _, _, _, .nil, hl => by simp at hl
end
/-- one more hidden list that is new -/
theorem RS.hideMore [TabT] {K : Fr'} {O : List Addr} {H : Hp} {σ : St} {τ : Sd} {a : Addr} {vs : List V} (r : RS K O H σ τ) (h : H a = none) : RS K (a :: O) (upd H a (.lst vs)) σ τ := by
  have e : Same H (upd H a (.lst vs)) := same_upd h
  have hh : Ex (hide H O) (hide (upd H a (.lst vs)) (a :: O)) := .of fun b o q => by
    obtain ⟨h1, h2⟩ := hide_some q
    have hb : b ≠ a := by intro z; subst z; rw [h] at h2; cases h2
    rw [hide_out (by simp [hb, h1]), upd_ne hb]; exact h2
  refine ⟨e.tab r.tab, r.len, fun b hb => ?_, fun i d q => ?_, fun i xs q => ?_, r.sep⟩
  · rcases List.mem_cons.mp hb with rfl | hb
    · exact ⟨vs, upd_same⟩
    · exact (r.lst.mono e.ex) b hb
  · obtain ⟨v, h1, h2⟩ := r.val i d q
    exact ⟨v, h1, h2.mono hh⟩
  · obtain ⟨b, ws, h1, h2, h3, h4, h5⟩ := r.own i xs q
    exact ⟨b, ws, h1, List.mem_cons_of_mem _ h2, e.lst h3, h4.mono hh, h5⟩
end Fz

set_option Elab.async false
set_option linter.all false
set_option autoImplicit false
set_option maxRecDepth 100000
/-! Part C: the operations keep to the machine. -/
namespace Fz
open PySem PySem.Spec L2
variable [TabT]

/-- v stands for d; or v is an own list, looked at -/
def Vd (K : Fr') (O : List Addr) (H : Hp) (v : V) (d : D) : Prop :=
  Rp K (hide H O) v d ∨ ∃ a vs xs, v = .ref a ∧ d = .list xs ∧ a ∈ O ∧ H a = some (.lst vs) ∧ RpAll K (hide H O) vs xs ∧ xs.length ≤ sizeLine
section
variable {K : Fr'} {O : List Addr} {H H' : Hp} {v : V}
theorem Vd.mono {d : D} (h : Vd K O H v d) (e : Ex H H') : Vd K O H' v d := by
  rcases h with h | ⟨a, vs, xs, h1, h2, h3, h4, h5, h6⟩
  · exact .inl (h.mono e.hide)
  · exact .inr ⟨a, vs, xs, h1, h2, h3, e.lst h4, h5.mono e.hide, h6⟩
theorem Vd.rp {d : D} (h : Vd K O H v d) : Rp K H v d := by
  rcases h with h | ⟨a, vs, xs, rfl, rfl, h3, h4, h5, h6⟩
  · exact h.mono ex_hide
  · exact .lst (.of h4) (h5.mono ex_hide) h6
theorem Vd.list {xs : List D} (h : Vd K O H v (.list xs)) : ∃ a vs, v = .ref a ∧ SqL K H a vs ∧ RpAll K (hide H O) vs xs ∧ xs.length ≤ sizeLine := by
  rcases h with h | ⟨a, vs, xs, rfl, e, h3, h4, h5, h6⟩
  · cases h with
    | lst q r z => exact ⟨_, _, rfl, sqL_same ex_hide q, r, z⟩
  · cases e; exact ⟨a, vs, rfl, .of h4, h5, h6⟩
theorem Vd.tuple {xs : List D} (h : Vd K O H v (.tuple xs)) : ∃ a vs, v = .ref a ∧ SqT K (hide H O) a vs ∧ RpAll K (hide H O) vs xs ∧ xs.length ≤ sizeLine := by
  rcases h with h | ⟨a, vs, xs, rfl, e, h3, h4, h5, h6⟩
  · cases h with
    | tup q r z => exact ⟨_, _, rfl, q, r, z⟩
  · cases e
theorem Vd.int {i : Int} (h : Vd K O H v (.int i)) : v = .int i := h.rp.int_of
theorem Vd.bool {i : Bool} (h : Vd K O H v (.bool i)) : v = .bl i := h.rp.bool_of
theorem Vd.str {i : Str} (h : Vd K O H v (.str i)) : v = .str i ∧ PyData.strOk i = true ∧ i.length ≤ sizeLine := h.rp.str_of
theorem Vd.none (h : Vd K O H v .none) : v = .non := h.rp.none_of
/-- a new tuple, a new list -/
theorem rp_newT {p : Addr} {vs : List V} {ds : List D} (L : Lsts H O) (hp : H p = Option.none) (r : RpAll K (hide H O) vs ds) (z : ds.length ≤ sizeLine) : Rp K (hide (upd H p (.tup vs)) O) (.ref p) (.tuple ds) := by
  have hO : p ∉ O := fun h => by
    obtain ⟨ws, q⟩ := L p h
    rw [hp] at q; cases q
  exact .tup (.of (by rw [hide_out hO]; exact upd_same)) (r.mono (Same.hide (same_upd hp))) z
theorem rp_newL {p : Addr} {vs : List V} {ds : List D} (L : Lsts H O) (hp : H p = Option.none) (r : RpAll K (hide H O) vs ds) (z : ds.length ≤ sizeLine) : Rp K (hide (upd H p (.lst vs)) O) (.ref p) (.list ds) := by
  have hO : p ∉ O := fun h => by
    obtain ⟨ws, q⟩ := L p h
    rw [hp] at q; cases q
  exact .lst (.of (by rw [hide_out hO]; exact upd_same)) (r.mono (Same.hide (same_upd hp))) z
end

/-- what an operation of two operands is asked -/
def r2 (K : Fr') (g : D → D → R D) : R2 := fun x y H Q => ∃ O d1 d2 d, Lsts H O ∧ Vd K O H x d1 ∧ Vd K O H y d2 ∧ g d1 d2 = .ok d ∧ ∀ v H', Same H H' → Rp K (hide H' O) v d → Q v H'
abbrev O2ok (X : Cx) (f : Value → Value → Sem Value) (g : D → D → R D) : Prop := OpR X f (r2 X.K g)
def r1 (K : Fr') (g : D → R D) : List V → Hp → VK → Prop := fun xs H Q => ∃ O x d1 d, xs = [x] ∧ Lsts H O ∧ Vd K O H x d1 ∧ g d1 = .ok d ∧ ∀ v H', Same H H' → Rp K (hide H' O) v d → Q v H'
abbrev O1ok (X : Cx) (f : Value) (g : D → R D) : Prop := CallR X f (r1 X.K g)

theorem if_ok {c : Prop} [Decidable c] {d e : D} (h : (if c then R.ok d else R.no) = .ok e) : c ∧ d = e := by
  by_cases hc : c
  · rw [if_pos hc] at h; cases h; exact ⟨hc, rfl⟩
  · rw [if_neg hc] at h; cases h

theorem cat_lists {X : Cx} {pins : List (Addr × Obj)} {s : Shared} {σ : St} {H : Hp} {Q : VK} {a b : Addr} {v u : Value} {vs ws : List V} (I : Inv X pins σ H s) (rx : RelV (.ref a) v) (ry : RelV (.ref b) u)
    (s1 : SqL X.K H a vs) (s2 : SqL X.K H b ws) (hz : vs.length + ws.length ≤ sizeLine) (q : ∀ p, H p = none → Q (.ref p) (upd H p (.lst (vs ++ ws)))) :
    wpAny (model X.prog X.w) X.A (binaryOp .Add v u) (EP X pins σ Q) X.xe s := by
  cases rx; cases ry
  obtain ⟨its, r1, p1, z1⟩ := I.list s1
  obtain ⟨its2, r2, p2, z2⟩ := I.list s2
  have n1 := r1.length
  have n2 := r2.length
  obtain ⟨⟨cls, dd, data, sl⟩, n, ho, hc, hdd, hd⟩ := p1
  obtain ⟨⟨cls2, dd2, data2, sl2⟩, m, ho2, hc2, hdd2, hd2⟩ := p2
  simp only at hc hd hc2 hd2
  subst hc hd hc2 hd2
  have e : its.toArray ++ its2.toArray = (its ++ its2).toArray := by simp
  refine concat_meets ⟨_, ho, rfl⟩ ⟨_, ho2, rfl⟩ noFill_list_add seq_list_add PySem.F.slot_list_add PySem.F.entry_list_add (PySem.F.args_list_add_2 _ _) (PyProof.Rows.list_addW a b its.toArray its2.toArray n m dd dd2 sl sl2 (by simp only [List.size_toArray]; omega)) ⟨ho, ho2, ?_⟩
  rw [e]
  exact ⟨.ref _, _, I.lnew (t' := s.toks) (r1.append r2) (by rw [List.length_append]; omega), rfl, q _ I.fresh⟩

section
variable {X : Cx}
theorem add_ok : O2ok X (binaryOp .Add) (o2 .add) := by
  intro pins s σ H x y v u Q I rx ry h
  obtain ⟨O, d1, d2, d, L, v1, v2, e, q⟩ := h
  cases d1 <;> cases d2 <;> try (cases e)
  · rename_i i j
    cases v1.int; cases v2.int
    exact op_add pins s σ H _ _ v u Q I rx ry ⟨i, j, rfl, rfl, q _ _ (Same.refl _) (.int _)⟩
  · rename_i a b
    obtain ⟨hc, rfl⟩ := if_ok e
    obtain ⟨rfl, o1, z1⟩ := v1.str
    obtain ⟨rfl, o2, z2⟩ := v2.str
    refine op_add_str pins s σ H _ _ v u Q I rx ry ⟨a, b, rfl, rfl, hc, q _ _ (Same.refl _) (.str _ ?_ ?_)⟩
    · show (a.cps ++ b.cps).all _ = true
      rw [Array.all_append]
      simp only [PyData.strOk] at o1 o2
      rw [o1, o2]; rfl
    · show (a.cps ++ b.cps).size ≤ _
      rw [Array.size_append]; exact hc
  · rename_i xs ys
    obtain ⟨hc, rfl⟩ := if_ok e
    obtain ⟨a, vs, rfl, s1, r1, z1⟩ := v1.list
    obtain ⟨b, ws, rfl, s2, r2, z2⟩ := v2.list
    exact cat_lists I rx ry s1 s2 (by have := r1.length; have := r2.length; omega) fun p hp => q _ _ (same_upd hp) (rp_newL L hp (r1.append r2) (by simpa using hc))
  · rename_i xs ys
    obtain ⟨hc, rfl⟩ := if_ok e
    obtain ⟨a, vs, rfl, s1, r1, z1⟩ := v1.tuple
    obtain ⟨b, ws, rfl, s2, r2, z2⟩ := v2.tuple
    have n1 := r1.length
    have n2 := r2.length
    refine op_catA pins s σ H _ _ v u Q I rx ry ⟨a, b, vs, ws, rfl, rfl, sqT_same ex_hide s1, sqT_same ex_hide s2, by omega, fun h0 => ?_, fun h0 h1 => ?_, fun _ _ p hp => ?_⟩
    · subst h0
      cases r1
      exact q _ _ (Same.refl _) (.tup s2 r2 z2)
    · subst h1
      cases r2
      exact q _ _ (Same.refl _) (.tup s1 (by simpa using r1) (by simpa using z1))
    · exact q _ _ (same_upd hp) (rp_newT L hp (r1.append r2) (by simpa using hc))
end
end Fz

set_option Elab.async false
set_option linter.all false
set_option autoImplicit false
set_option maxRecDepth 100000
/-! Part D: further operations. -/
namespace Fz
open PySem PySem.Spec L2
variable [TabT]

section
variable {X : Cx}
theorem sub_ok : O2ok X (binaryOp .Sub) (o2 .sub) := by
  intro pins s σ H x y v u Q I rx ry h
  obtain ⟨O, d1, d2, d, L, v1, v2, e, q⟩ := h
  cases d1 <;> cases d2 <;> try (cases e)
  rename_i i j
  cases v1.int; cases v2.int
  exact op_sub pins s σ H _ _ v u Q I rx ry ⟨i, j, rfl, rfl, q _ _ (Same.refl _) (.int _)⟩
theorem mul_ok : O2ok X (binaryOp .Mult) (o2 .mul) := by
  intro pins s σ H x y v u Q I rx ry h
  obtain ⟨O, d1, d2, d, L, v1, v2, e, q⟩ := h
  cases d1 <;> cases d2 <;> try (cases e)
  rename_i i j
  obtain ⟨hc, rfl⟩ := if_ok e
  cases v1.int; cases v2.int
  refine op_mul pins s σ H _ _ v u Q I rx ry ⟨i, j, rfl, rfl, ?_, q _ _ (Same.refl _) (.int _)⟩
  rcases hc with h | h
  · exact .inl (by omega)
  · exact .inr (by omega)
theorem fdiv_ok : O2ok X (binaryOp .FloorDiv) (o2 .fdiv) := by
  intro pins s σ H x y v u Q I rx ry h
  obtain ⟨O, d1, d2, d, L, v1, v2, e, q⟩ := h
  cases d1 <;> cases d2 <;> try (cases e)
  rename_i i j
  obtain ⟨hc, rfl⟩ := if_ok e
  cases v1.int; cases v2.int
  exact op_fdivW pins s σ H _ _ v u Q I rx ry ⟨i, j, rfl, rfl, wide_div (b := 64) hc.1 (by omega) (by decide) (by decide), q _ _ (Same.refl _) (.int _)⟩
theorem mod_ok : O2ok X (binaryOp .Mod) (o2 .mod) := by
  intro pins s σ H x y v u Q I rx ry h
  obtain ⟨O, d1, d2, d, L, v1, v2, e, q⟩ := h
  cases d1 <;> cases d2 <;> try (cases e)
  rename_i i j
  obtain ⟨hc, rfl⟩ := if_ok e
  cases v1.int; cases v2.int
  exact op_mod pins s σ H _ _ v u Q I rx ry ⟨i, j, rfl, rfl, hc, q _ _ (Same.refl _) (.int _)⟩
theorem pow_ok : O2ok X (binaryOp .Pow) (o2 .pow) := by
  intro pins s σ H x y v u Q I rx ry h
  obtain ⟨O, d1, d2, d, L, v1, v2, e, q⟩ := h
  cases d1 <;> cases d2 <;> try (cases e)
  rename_i i j
  obtain ⟨hc, rfl⟩ := if_ok e
  cases v1.int; cases v2.int
  exact op_pow pins s σ H _ _ v u Q I rx ry ⟨i, j, rfl, rfl, ⟨hc.1, by have := hc.2.1; omega, hc.2.2⟩, q _ _ (Same.refl _) (.int _)⟩

theorem canEq_room {A : Around} {a b : D} (h : canEq a b = true) (hu : A.units + 64 < cLine) : A.units + min a.depth b.depth < cLine := by
  have := of_decide_eq_true h
  omega
theorem eq_ok (hu : X.A.units + 64 < cLine) : O2ok X (compareOp .Eq) (o2 .eq) := by
  intro pins s σ H x y v u Q I rx ry h
  obtain ⟨O, d1, d2, d, L, v1, v2, e, q⟩ := h
  have e' : (if canEq d1 d2 = true then R.ok (PyData.bool (PyData.eqv d1 d2)) else R.no) = .ok d := by
    cases d1 <;> cases d2 <;> exact e
  obtain ⟨hc, rfl⟩ := if_ok e'
  obtain ⟨as, r1⟩ := Dp.reads I d1 x v v1.rp.dp rx
  obtain ⟨bs, r2⟩ := Dp.reads I d2 y u v2.rp.dp ry
  exact SeqAt.compareEq_reads r1 r2 v1.rp.lay v2.rp.lay (canEq_room hc hu) ⟨.bl _, H, I, rfl, q _ _ (Same.refl _) (.bl _)⟩
theorem ne_ok (hu : X.A.units + 64 < cLine) : O2ok X (compareOp .NotEq) (o2 .ne) := by
  intro pins s σ H x y v u Q I rx ry h
  obtain ⟨O, d1, d2, d, L, v1, v2, e, q⟩ := h
  have e' : (if canEq d1 d2 = true then R.ok (PyData.bool (!PyData.eqv d1 d2)) else R.no) = .ok d := by
    cases d1 <;> cases d2 <;> exact e
  obtain ⟨hc, rfl⟩ := if_ok e'
  obtain ⟨as, r1⟩ := Dp.reads I d1 x v v1.rp.dp rx
  obtain ⟨bs, r2⟩ := Dp.reads I d2 y u v2.rp.dp ry
  exact SeqAt.neOverData X.prog X.w X.A X.xe s v u d1 d2 as bs _ r1 r2 v1.rp.lay v2.rp.lay (canEq_room hc hu) ⟨.bl _, H, I, rfl, q _ _ (Same.refl _) (.bl _)⟩
theorem lt_ok (hu : X.A.units + 64 < cLine) : O2ok X (compareOp .Lt) (o2 .lt) := by
  intro pins s σ H x y v u Q I rx ry h
  obtain ⟨O, d1, d2, d, L, v1, v2, e, q⟩ := h
  cases d1 <;> cases d2 <;> try (cases e)
  · rename_i i j
    cases v1.int; cases v2.int
    exact op_lt pins s σ H _ _ v u Q I rx ry ⟨i, j, rfl, rfl, q _ _ (Same.refl _) (.bl _)⟩
  · rename_i i j
    obtain ⟨rfl, _⟩ := v1.str
    obtain ⟨rfl, _⟩ := v2.str
    exact op_lt_str pins s σ H _ _ v u Q I rx ry ⟨i, j, rfl, rfl, q _ _ (Same.refl _) (.bl _)⟩
  · obtain ⟨hc, rfl⟩ := if_ok e
    obtain ⟨as, r1⟩ := Dp.reads I _ x v v1.rp.dp rx
    obtain ⟨bs, r2⟩ := Dp.reads I _ y u v2.rp.dp ry
    rw [lt_data _ _ hc.1] at q
    exact PySem.W.rcLt_alike _ _ X.A s v u as bs r1 r2 hc.1 (fun z => nomatch z) (canEq_room hc.2 hu) X.prog X.w X.xe _ ⟨.bl _, H, I, rfl, q _ _ (Same.refl _) (.bl _)⟩
theorem le_ok : O2ok X (compareOp .LtE) (o2 .le) := by
  intro pins s σ H x y v u Q I rx ry h
  obtain ⟨O, d1, d2, d, L, v1, v2, e, q⟩ := h
  cases d1 <;> cases d2 <;> try (cases e)
  rename_i i j
  cases v1.int; cases v2.int
  exact op_le pins s σ H _ _ v u Q I rx ry ⟨i, j, rfl, rfl, q _ _ (Same.refl _) (.bl _)⟩
theorem gt_ok : O2ok X (compareOp .Gt) (o2 .gt) := by
  intro pins s σ H x y v u Q I rx ry h
  obtain ⟨O, d1, d2, d, L, v1, v2, e, q⟩ := h
  cases d1 <;> cases d2 <;> try (cases e)
  rename_i i j
  cases v1.int; cases v2.int
  exact op_gt pins s σ H _ _ v u Q I rx ry ⟨i, j, rfl, rfl, q _ _ (Same.refl _) (.bl _)⟩
theorem ge_ok : O2ok X (compareOp .GtE) (o2 .ge) := by
  intro pins s σ H x y v u Q I rx ry h
  obtain ⟨O, d1, d2, d, L, v1, v2, e, q⟩ := h
  cases d1 <;> cases d2 <;> try (cases e)
  rename_i i j
  cases v1.int; cases v2.int
  exact op_ge pins s σ H _ _ v u Q I rx ry ⟨i, j, rfl, rfl, q _ _ (Same.refl _) (.bl _)⟩
theorem canEq_in {A : Around} {a : D} {ys : List D} (h : canEq a (.list ys) = true ∨ canEq a (.tuple ys) = true) (hu : A.units + 64 < cLine) : A.units + 1 + min (PyData.depthAll ys) a.depth < cLine := by
  have z : min a.depth (PyData.depthAll ys) ≤ 60 := by
    rcases h with h | h
    · have := of_decide_eq_true h
      simp only [PyData.depth] at this
      omega
    · have := of_decide_eq_true h
      simp only [PyData.depth] at this
      omega
  omega
theorem lay_items {K : Fr'} {H : Hp} {v : V} {ys : List D} (h : Rp K H v (.list ys)) : (PyData.list ys).canLay0 = true := h.lay
theorem mem_ok (hu : X.A.units + 64 < cLine) : O2ok X (compareOp .In) (o2 .mem) := by
  intro pins s σ H x y v u Q I rx ry h
  obtain ⟨O, d1, d2, d, L, v1, v2, e, q⟩ := h
  obtain ⟨as, r1⟩ := Dp.reads I d1 x v v1.rp.dp rx
  obtain ⟨bs, r2⟩ := Dp.reads I d2 y u v2.rp.dp ry
  cases d2 with
  | list ys =>
    have e' : (if canEq d1 (.list ys) = true then R.ok (PyData.bool (memD d1 ys)) else R.no) = .ok d := by cases d1 <;> exact e
    obtain ⟨hc, rfl⟩ := if_ok e'
    exact SeqAt.in_list_reads r2 r1 v2.rp.lay v1.rp.lay (canEq_in (.inl hc) hu) ⟨.bl _, H, I, rfl, q _ _ (Same.refl _) (.bl _)⟩
  | tuple ys =>
    have e' : (if canEq d1 (.tuple ys) = true then R.ok (PyData.bool (memD d1 ys)) else R.no) = .ok d := by cases d1 <;> exact e
    obtain ⟨hc, rfl⟩ := if_ok e'
    exact SeqAt.in_tuple_reads r2 r1 v2.rp.lay v1.rp.lay (canEq_in (.inr hc) hu) ⟨.bl _, H, I, rfl, q _ _ (Same.refl _) (.bl _)⟩
  | str b =>
    cases d1 <;> try (cases e)
    rename_i a
    obtain ⟨hc, rfl⟩ := if_ok e
    obtain ⟨rfl, _⟩ := v1.str
    obtain ⟨rfl, _⟩ := v2.str
    have ea : a = ⟨#[a.cps.getD 0 0]⟩ := by
      obtain ⟨⟨l⟩⟩ := a
      have hl : l.length = 1 := hc
      match l, hl with
      | [c], _ => rfl
    refine op_in_sign pins s σ H _ _ v u Q I rx ry ⟨a.cps.getD 0 0, b, by rw [← ea], rfl, q _ _ (Same.refl _) (.bl _)⟩
  | none => cases d1 <;> cases e
  | bool _ => cases d1 <;> cases e
  | int _ => cases d1 <;> cases e
  | dict _ => cases d1 <;> cases e
theorem nmem_ok (hu : X.A.units + 64 < cLine) : O2ok X (compareOp .NotIn) (o2 .nmem) := by
  intro pins s σ H x y v u Q I rx ry h
  obtain ⟨O, d1, d2, d, L, v1, v2, e, q⟩ := h
  obtain ⟨as, r1⟩ := Dp.reads I d1 x v v1.rp.dp rx
  obtain ⟨bs, r2⟩ := Dp.reads I d2 y u v2.rp.dp ry
  cases d2 with
  | list ys =>
    have e' : (if canEq d1 (.list ys) = true then R.ok (PyData.bool (!memD d1 ys)) else R.no) = .ok d := by cases d1 <;> exact e
    obtain ⟨hc, rfl⟩ := if_ok e'
    exact SeqAt.notIn_list_reads r2 r1 v2.rp.lay v1.rp.lay (canEq_in (.inl hc) hu) ⟨.bl _, H, I, rfl, q _ _ (Same.refl _) (.bl _)⟩
  | tuple ys =>
    have e' : (if canEq d1 (.tuple ys) = true then R.ok (PyData.bool (!memD d1 ys)) else R.no) = .ok d := by cases d1 <;> exact e
    obtain ⟨hc, rfl⟩ := if_ok e'
    exact SeqAt.notIn_tuple_reads r2 r1 v2.rp.lay v1.rp.lay (canEq_in (.inr hc) hu) ⟨.bl _, H, I, rfl, q _ _ (Same.refl _) (.bl _)⟩
  | none => cases d1 <;> cases e
  | str _ => cases d1 <;> cases e
  | bool _ => cases d1 <;> cases e
  | int _ => cases d1 <;> cases e
  | dict _ => cases d1 <;> cases e
theorem iss_ok : O2ok X (compareOp .Is) (o2 .iss) := by
  intro pins s σ H x y v u Q I rx ry h
  obtain ⟨O, d1, d2, d, L, v1, v2, e, q⟩ := h
  cases d2 with
  | none =>
    cases v2.none
    have e' : R.ok (PyData.bool (isNon d1)) = .ok d := by cases d1 <;> exact e
    cases e'
    refine op_isN pins s σ H _ _ v u Q I rx ry ⟨rfl, ?_⟩
    have k : decide (x = V.non) = (isNon d1) := by
      have r := v1.rp
      cases r <;> simp [isNon]
    rw [k]
    exact q _ _ (Same.refl _) (.bl _)
  | bool b =>
    cases d1 <;> try (cases e)
    cases v1.bool; cases v2.bool
    exact op_isBl pins s σ H _ _ v u Q I rx ry ⟨_, _, rfl, rfl, q _ _ (Same.refl _) (.bl _)⟩
  | str _ => cases d1 <;> cases e
  | int _ => cases d1 <;> cases e
  | dict _ => cases d1 <;> cases e
  | list _ => cases d1 <;> cases e
  | tuple _ => cases d1 <;> cases e
theorem isn_ok : O2ok X (compareOp .IsNot) (o2 .isn) := by
  intro pins s σ H x y v u Q I rx ry h
  obtain ⟨O, d1, d2, d, L, v1, v2, e, q⟩ := h
  cases d2 with
  | none =>
    cases v2.none
    have e' : R.ok (PyData.bool (!isNon d1)) = .ok d := by cases d1 <;> exact e
    cases e'
    refine op_notN pins s σ H _ _ v u Q I rx ry ⟨rfl, ?_⟩
    have k : (!decide (x = V.non)) = (!isNon d1) := by
      have r := v1.rp
      cases r <;> simp [isNon]
    rw [k]
    exact q _ _ (Same.refl _) (.bl _)
  | bool b =>
    cases d1 <;> try (cases e)
    cases v1.bool; cases v2.bool
    exact op_notBl pins s σ H _ _ v u Q I rx ry ⟨_, _, rfl, rfl, q _ _ (Same.refl _) (.bl _)⟩
  | str _ => cases d1 <;> cases e
  | int _ => cases d1 <;> cases e
  | dict _ => cases d1 <;> cases e
  | list _ => cases d1 <;> cases e
  | tuple _ => cases d1 <;> cases e
theorem ofO_ok {α : Type} {o : Option α} {a : α} (h : ofO o = .ok a) : o = some a := by
  cases o with
  | none => cases h
  | some b => cases h; rfl
theorem atI_rp {K : Fr'} {H : Hp} {vs : List V} {ds : List D} {i : Int} {d : D} (r : RpAll K H vs ds) (e : atI ds i = some d) : ∃ v, atI vs i = some v ∧ Rp K H v d := by
  unfold atI at e ⊢
  rw [r.length]
  cases k : ixN ds.length i with
  | none => rw [k] at e; cases e
  | some j =>
    rw [k] at e
    exact r.get e
theorem ix_ok : IxR X (r2 X.K (o2 .ix)) := by
  intro value slice pins s σ H x y v u Q I rx ry h hs
  obtain ⟨O, d1, d2, d, L, v1, v2, e, q⟩ := h
  cases d1 <;> cases d2 <;> try (cases e)
  · rename_i z i
    cases v2.int
    obtain ⟨rfl, ok, sz⟩ := v1.str
    cases k : atI z.cps.toList i with
    | none =>
      have e' : (ofO (atI z.cps.toList i)).bind (fun c => R.ok (PyData.str ⟨#[c]⟩)) = .ok d := e
      rw [k] at e'; cases e'
    | some c =>
      have e' : (ofO (atI z.cps.toList i)).bind (fun c => R.ok (PyData.str ⟨#[c]⟩)) = .ok d := e
      rw [k] at e'
      cases e'
      refine ix_str value slice pins s σ H _ _ v u Q I rx ry ⟨z, i, c, rfl, rfl, sz, k, q _ _ (Same.refl _) (.str _ ?_ ?_)⟩ hs
      · have hm : c ∈ z.cps.toList := by
          unfold atI at k
          cases k2 : ixN z.cps.toList.length i with
          | none => rw [k2] at k; cases k
          | some j => rw [k2] at k; exact List.mem_of_getElem? k
        have := (Array.all_eq_true_iff_forall_mem.mp ok) c (Array.mem_toList_iff.mp hm)
        simpa [PyData.strOk] using this
      · show (#[c] : Array Nat).size ≤ sizeLine
        rw [sizeLine_eq]; simp
  · rename_i xs i
    cases v2.int
    obtain ⟨a, vs, rfl, s1, r1, z1⟩ := v1.list
    obtain ⟨w, hw, rr⟩ := atI_rp r1 (ofO_ok e)
    exact ix_list value slice pins s σ H _ _ v u Q I rx ry ⟨a, vs, i, w, rfl, rfl, s1, hw, q _ _ (Same.refl _) rr⟩ hs
  · rename_i xs i
    cases v2.int
    obtain ⟨a, vs, rfl, s1, r1, z1⟩ := v1.tuple
    obtain ⟨w, hw, rr⟩ := atI_rp r1 (ofO_ok e)
    exact ix_tup value slice pins s σ H _ _ v u Q I rx ry ⟨a, vs, i, w, rfl, rfl, sqT_same ex_hide s1, hw, q _ _ (Same.refl _) rr⟩ hs

/-! ### slices -/
theorem cutV_rp {K : Fr'} {H : Hp} {vs : List V} {ds : List D} (r : RpAll K H vs ds) (lo hi : Option Int) : RpAll K H (cutV vs lo hi) (cutD ds lo hi) := by
  unfold cutV cutD
  rw [r.length]
  exact (r.drop _).take _
theorem cutD_length {α : Type} (xs : List α) (lo hi : Option Int) : (cutD xs lo hi).length ≤ xs.length := by
  unfold cutD
  rw [List.length_take, List.length_drop]
  omega
def rSl (K : Fr') : V → Option Int → Option Int → Hp → VK → Prop := fun x lo hi H Q => ∃ O d1 d, Lsts H O ∧ Vd K O H x d1 ∧ cutR d1 lo hi = .ok d ∧ ∀ v H', Same H H' → Rp K (hide H' O) v d → Q v H'
theorem sl_ok : SlR X (rSl X.K) := by
  intro pins s σ H x v vl vu lo hi sl Q I rx hs pl pu h
  obtain ⟨O, d1, d, L, v1, e, q⟩ := h
  cases d1 <;> try (cases e)
  · rename_i xs
    obtain ⟨a, vs, rfl, s1, r1, z1⟩ := v1.list
    exact sl_list pins s σ H _ v vl vu lo hi sl Q I rx hs pl pu ⟨a, vs, rfl, s1, fun p hp => q _ _ (same_upd hp) (rp_newL L hp (cutV_rp r1 lo hi) (Nat.le_trans (cutD_length _ _ _) z1))⟩
  · rename_i xs
    obtain ⟨a, vs, rfl, s1, r1, z1⟩ := v1.tuple
    have n1 := r1.length
    refine sl_tupA pins s σ H _ v vl vu lo hi sl Q I rx hs pl pu ⟨a, vs, rfl, sqT_same ex_hide s1, fun hw => q _ _ (Same.refl _) ?_, fun _ p hp => q _ _ (same_upd hp) (rp_newT L hp (cutV_rp r1 lo hi) (Nat.le_trans (cutD_length _ _ _) z1))⟩
    have e : cutD xs lo hi = xs := by
      unfold cutD
      rw [← n1, hw.1, hw.2, n1]
      simp
    rw [e]
    exact .tup s1 r1 z1

/-! ### calls of one argument -/
theorem len_ok : O1ok X (.builtin "len") (o1 .len) := by
  intro pins s σ H xs us Q I r h
  obtain ⟨O, x, d1, d, rfl, L, v1, e, q⟩ := h
  cases d1 <;> try (cases e)
  · obtain ⟨rfl, ok, z⟩ := v1.str
    exact call_len pins s σ H _ us Q I r ⟨_, _, rfl, ⟨z, rfl⟩, q _ _ (Same.refl _) (.int _)⟩
  · obtain ⟨a, vs, rfl, s1, r1, z1⟩ := v1.list
    exact call_len pins s σ H _ us Q I r ⟨_, _, rfl, .inl ⟨_, s1, r1.length.symm⟩, q _ _ (Same.refl _) (.int _)⟩
  · obtain ⟨a, vs, rfl, s1, r1, z1⟩ := v1.tuple
    exact call_len pins s σ H _ us Q I r ⟨_, _, rfl, .inr ⟨_, sqT_same ex_hide s1, r1.length.symm⟩, q _ _ (Same.refl _) (.int _)⟩
theorem boolsOf_rp {K : Fr'} {H : Hp} : ∀ {vs : List V} {ds : List D} {bs : List Bool}, RpAll K H vs ds → boolsOf ds = some bs → vs = bs.map V.bl
  | _, _, _, .nil, e => by cases e; rfl
  | _, _, bs, .cons (d := d) (ds := ds) h1 h2, e => by
    cases d <;> try (cases e)
    rename_i b
    cases h1
    have e' : (boolsOf ds).map (b :: ·) = some bs := e
    cases k : boolsOf ds with
    | none => rw [k] at e'; cases e'
    | some cs =>
      rw [k] at e'
      cases e'
      rw [boolsOf_rp h2 k]; rfl
theorem intsOf_rp {K : Fr'} {H : Hp} : ∀ {vs : List V} {ds : List D} {bs : List Int}, RpAll K H vs ds → intsOf ds = some bs → vs = bs.map V.int
  | _, _, _, .nil, e => by cases e; rfl
  | _, _, bs, .cons (d := d) (ds := ds) h1 h2, e => by
    cases d <;> try (cases e)
    rename_i b
    cases h1
    have e' : (intsOf ds).map (b :: ·) = some bs := e
    cases k : intsOf ds with
    | none => rw [k] at e'; cases e'
    | some cs =>
      rw [k] at e'
      cases e'
      rw [intsOf_rp h2 k]; rfl
theorem all_ok (hc : X.calm = true) : O1ok X (.builtin "all") (o1 .all) := by
  intro pins s σ H xs us Q I r h
  obtain ⟨O, x, d1, d, rfl, L, v1, e, q⟩ := h
  cases d1 <;> try (cases e)
  rename_i ds
  obtain ⟨a, vs, rfl, s1, r1, z1⟩ := v1.list
  have e' : (ofO (boolsOf ds)).bind (fun bs => R.ok (PyData.bool (bs.all id))) = .ok d := e
  cases k : boolsOf ds with
  | none => rw [k] at e'; cases e'
  | some bs =>
    rw [k] at e'
    cases e'
    rw [boolsOf_rp r1 k] at s1
    exact cr_all hc pins s σ H _ us Q I r ⟨a, bs, rfl, s1, q _ _ (Same.refl _) (.bl _)⟩
theorem any_ok (hc : X.calm = true) : O1ok X (.builtin "any") (o1 .any) := by
  intro pins s σ H xs us Q I r h
  obtain ⟨O, x, d1, d, rfl, L, v1, e, q⟩ := h
  cases d1 <;> try (cases e)
  rename_i ds
  obtain ⟨a, vs, rfl, s1, r1, z1⟩ := v1.list
  have e' : (ofO (boolsOf ds)).bind (fun bs => R.ok (PyData.bool (bs.any id))) = .ok d := e
  cases k : boolsOf ds with
  | none => rw [k] at e'; cases e'
  | some bs =>
    rw [k] at e'
    cases e'
    rw [boolsOf_rp r1 k] at s1
    exact cr_any hc pins s σ H _ us Q I r ⟨a, bs, rfl, s1, q _ _ (Same.refl _) (.bl _)⟩
theorem sum_ok (hc : X.calm = true) : O1ok X (.builtin "sum") (o1 .sum) := by
  intro pins s σ H xs us Q I r h
  obtain ⟨O, x, d1, d, rfl, L, v1, e, q⟩ := h
  cases d1 <;> try (cases e)
  rename_i ds
  obtain ⟨a, vs, rfl, s1, r1, z1⟩ := v1.list
  have e' : (ofO (intsOf ds)).bind (fun bs => R.ok (PyData.int bs.sum)) = .ok d := e
  cases k : intsOf ds with
  | none => rw [k] at e'; cases e'
  | some bs =>
    rw [k] at e'
    cases e'
    rw [intsOf_rp r1 k] at s1
    exact cr_sum hc pins s σ H _ us Q I r ⟨a, bs, rfl, s1, q _ _ (Same.refl _) (.int _)⟩
theorem int_ok : O1ok X (.type "int") (o1 .int) := by
  intro pins s σ H xs us Q I r h
  obtain ⟨O, x, d1, d, rfl, L, v1, e, q⟩ := h
  cases d1 <;> try (cases e)
  cases v1.int
  exact call_int1 pins s σ H _ us Q I r (.inl ⟨_, rfl, q _ _ (Same.refl _) (.int _)⟩)
theorem tup_ok : O1ok X (.type "tuple") (o1 .tup) := by
  intro pins s σ H xs us Q I r h
  obtain ⟨O, x, d1, d, rfl, L, v1, e, q⟩ := h
  cases d1 <;> try (cases e)
  · obtain ⟨a, vs, rfl, s1, r1, z1⟩ := v1.list
    exact call_tuple_of pins s σ H _ us Q I r ⟨a, vs, rfl, .inl ⟨s1, fun l hl => q _ _ (same_upd hl) (rp_newT L hl r1 z1)⟩⟩
  · obtain ⟨a, vs, rfl, s1, r1, z1⟩ := v1.tuple
    exact call_tuple_of pins s σ H _ us Q I r ⟨a, vs, rfl, .inr ⟨sqT_same ex_hide s1, q _ _ (Same.refl _) (.tup s1 r1 z1)⟩⟩
theorem lst_ok : O1ok X (.type "list") (o1 .lst) := by
  intro pins s σ H xs us Q I r h
  obtain ⟨O, x, d1, d, rfl, L, v1, e, q⟩ := h
  cases d1 <;> try (cases e)
  · obtain ⟨a, vs, rfl, s1, r1, z1⟩ := v1.list
    exact call_list_of pins s σ H _ us Q I r ⟨a, vs, rfl, .inl s1, fun l hl => q _ _ (same_upd hl) (rp_newL L hl r1 z1)⟩
  · obtain ⟨a, vs, rfl, s1, r1, z1⟩ := v1.tuple
    exact call_list_of pins s σ H _ us Q I r ⟨a, vs, rfl, .inr (sqT_same ex_hide s1), fun l hl => q _ _ (same_upd hl) (rp_newL L hl r1 z1)⟩
end
end Fz

set_option Elab.async false
set_option linter.all false
set_option autoImplicit false
set_option maxRecDepth 100000
/-! Part E: isinstance, sorted, min, max. -/
namespace Fz
open PySem PySem.Spec L2
variable [TabT]

section
variable {X : Cx}
def tyName : D → String
  | .none => "NoneType"
  | .bool _ => "bool"
  | .int _ => "int"
  | .str _ => "str"
  | .list _ => "list"
  | .tuple _ => "tuple"
  | .dict _ => "dict"
theorem Rp.ty {K : Fr'} {H : Hp} : ∀ {v : V} {d : D}, Rp K H v d → TyX K H v (.type (tyName d))
  | _, _, .non => .base .non
  | _, _, .bl b => .base (.bl b)
  | _, _, .int i => .base (.int i)
  | _, _, .str x _ _ => .base (.str x)
  | _, _, .lst q _ _ => by
    rcases q with (q | ⟨o, q⟩) | ⟨o, its, n, q, c, _⟩
    · exact .base (.lst q)
    · exact .base (.frz q)
    · exact .kList q c
  | _, _, .tup q _ _ => by
    rcases q with (q | ⟨o, q⟩) | ⟨o, its, n, q, c, _⟩
    · exact .base (.tup q)
    · exact .fTuple q
    · exact .kTuple q c
/-- isinstance(x, T) -/
def rInst (K : Fr') (T : String) (g : D → Bool) : List V → Hp → VK → Prop := fun xs H Q => ∃ O x d1, xs = [x, .ty T] ∧ Lsts H O ∧ Vd K O H x d1 ∧ Q (.bl (g d1)) H
theorem inst_ok {T : String} {g : D → Bool} (h : ∀ d, (∀ kvs, d ≠ .dict kvs) → kitB (tyName d) T = some (g d)) : CallR X (.builtin "isinstance") (rInst X.K T g) := by
  intro pins s σ H xs us Q I r hh
  obtain ⟨O, x, d1, rfl, L, v1, q⟩ := hh
  have nd : ∀ kvs, d1 ≠ .dict kvs := fun kvs z => by
    have := v1.rp
    subst z; cases this
  exact call_isi pins s σ H _ us Q I r ⟨x, .ty T, .type (tyName d1), .type T, g d1, rfl, .ty T, v1.rp.ty, kit_ty (h d1 nd), q⟩
theorem kit_str (d : D) (nd : ∀ kvs, d ≠ .dict kvs) : kitB (tyName d) "str" = some (isStr d) := by
  cases d with
  | none => exact (by decide +kernel : kitB "NoneType" "str" = some false)
  | bool _ => exact (by decide +kernel : kitB "bool" "str" = some false)
  | int _ => exact (by decide +kernel : kitB "int" "str" = some false)
  | str _ => exact (by decide +kernel : kitB "str" "str" = some true)
  | list _ => exact (by decide +kernel : kitB "list" "str" = some false)
  | tuple _ => exact (by decide +kernel : kitB "tuple" "str" = some false)
  | dict kvs => exact absurd rfl (nd kvs)
theorem kit_tup (d : D) (nd : ∀ kvs, d ≠ .dict kvs) : kitB (tyName d) "tuple" = some (isTup d) := by
  cases d with
  | none => exact (by decide +kernel : kitB "NoneType" "tuple" = some false)
  | bool _ => exact (by decide +kernel : kitB "bool" "tuple" = some false)
  | int _ => exact (by decide +kernel : kitB "int" "tuple" = some false)
  | str _ => exact (by decide +kernel : kitB "str" "tuple" = some false)
  | list _ => exact (by decide +kernel : kitB "list" "tuple" = some false)
  | tuple _ => exact (by decide +kernel : kitB "tuple" "tuple" = some true)
  | dict kvs => exact absurd rfl (nd kvs)
theorem kit_lst (d : D) (nd : ∀ kvs, d ≠ .dict kvs) : kitB (tyName d) "list" = some (isLst d) := by
  cases d with
  | none => exact (by decide +kernel : kitB "NoneType" "list" = some false)
  | bool _ => exact (by decide +kernel : kitB "bool" "list" = some false)
  | int _ => exact (by decide +kernel : kitB "int" "list" = some false)
  | str _ => exact (by decide +kernel : kitB "str" "list" = some false)
  | list _ => exact (by decide +kernel : kitB "list" "list" = some true)
  | tuple _ => exact (by decide +kernel : kitB "tuple" "list" = some false)
  | dict kvs => exact absurd rfl (nd kvs)
theorem kit_int (d : D) (nd : ∀ kvs, d ≠ .dict kvs) : kitB (tyName d) "int" = some (isInt d) := by
  cases d with
  | none => exact (by decide +kernel : kitB "NoneType" "int" = some false)
  | bool _ => exact (by decide +kernel : kitB "bool" "int" = some true)
  | int _ => exact (by decide +kernel : kitB "int" "int" = some true)
  | str _ => exact (by decide +kernel : kitB "str" "int" = some false)
  | list _ => exact (by decide +kernel : kitB "list" "int" = some false)
  | tuple _ => exact (by decide +kernel : kitB "tuple" "int" = some false)
  | dict kvs => exact absurd rfl (nd kvs)
theorem kit_bool (d : D) (nd : ∀ kvs, d ≠ .dict kvs) : kitB (tyName d) "bool" = some (isBool d) := by
  cases d with
  | none => exact (by decide +kernel : kitB "NoneType" "bool" = some false)
  | bool _ => exact (by decide +kernel : kitB "bool" "bool" = some true)
  | int _ => exact (by decide +kernel : kitB "int" "bool" = some false)
  | str _ => exact (by decide +kernel : kitB "str" "bool" = some false)
  | list _ => exact (by decide +kernel : kitB "list" "bool" = some false)
  | tuple _ => exact (by decide +kernel : kitB "tuple" "bool" = some false)
  | dict kvs => exact absurd rfl (nd kvs)

/-! ### sorted -/
theorem depth_le {xs : List D} (h : sortable xs = true) : ∀ d ∈ xs, d.depth ≤ 40 := by
  unfold sortable at h
  simp only [Bool.and_eq_true, List.all_eq_true, decide_eq_true_eq] at h
  exact h.2
theorem sortable_alike {xs : List D} (h : sortable xs = true) : PySem.W.AllAlike xs := by
  unfold sortable alikeAmong at h
  simp only [Bool.and_eq_true, List.all_eq_true] at h
  exact fun d hd d' hd' => h.1.1 d hd d' hd'
theorem sortable_kind {xs : List D} (h : sortable xs = true) : PySem.W.Sortable xs := by
  unfold sortable at h
  simp only [Bool.and_eq_true, Bool.or_eq_true, List.all_eq_true] at h
  rcases h.1.2 with h | h
  · refine .inl fun d hd => ?_
    have := h d hd
    cases d <;> try (cases this)
    rename_i l
    cases l with
    | nil => cases this
    | cons x r => exact ⟨x, r, rfl⟩
  · refine .inr fun d hd => ?_
    have := h d hd
    refine ⟨fun z => ?_, fun xs z => ?_⟩ <;> (subst z; cases this)
theorem readsAll_of {pins : List (Addr × Obj)} {σ : St} {H : Hp} {s : Shared} (I : Inv X pins σ H s) {O : List Addr} : ∀ {vs : List V} {ds : List D} {us : List Value}, RpAll X.K (hide H O) vs ds → Vals vs us →
    PySem.W.EachIs (fun u (d : D) => ∃ as, Reads s.heap u d as) us ds ∧ PySem.W.EachIs (fun u (d : D) => ∃ v, RelV v u ∧ Rp X.K (hide H O) v d) us ds
  | _, _, _, .nil, .nil => ⟨.nil, .nil⟩
  | _, _, _, .cons h1 h2, .cons r1 r2 => by
    obtain ⟨a, b⟩ := readsAll_of I h2 r2
    exact ⟨.cons (Dp.reads I _ _ _ (h1.mono ex_hide).dp r1) a, .cons ⟨_, r1, h1⟩ b⟩
theorem each_back {K : Fr'} {H : Hp} : ∀ {us : List Value} {ds : List D}, PySem.W.EachIs (fun u (d : D) => ∃ v, RelV v u ∧ Rp K H v d) us ds → ∃ vs, Vals vs us ∧ RpAll K H vs ds
  | _, _, .nil => ⟨[], .nil, .nil⟩
  | _, _, .cons ⟨v, r, h⟩ t => by
    obtain ⟨vs, a, b⟩ := each_back t
    exact ⟨v :: vs, .cons r a, .cons h b⟩
theorem id_map (xs : List D) : xs.map id = xs := by simp
theorem sorted_run {pins : List (Addr × Obj)} {σ : St} {H : Hp} {s : Shared} {Q : VK} {O : List Addr} {l : Addr} {its : List Value} {vs : List V} {ds : List D} (hu : X.A.units + 64 < cLine) (I : Inv X pins σ H s) (L : Lsts H O)
    (hl : s.heap.IsList l its.toArray) (rv : Vals vs its) (r1 : RpAll X.K (hide H O) vs ds) (z : ds.length ≤ sizeLine) (hs : sortable ds = true)
    (q : ∀ v H', Same H H' → Rp X.K (hide H' O) v (.list (isort ds)) → Q v H') : wpAny (model X.prog X.w) X.A (call (.builtin "sorted") [.ref l]) (EP X pins σ Q) X.xe s := by
  obtain ⟨er, e⟩ := readsAll_of I r1 rv
  refine PySem.W.sorted_data (β := D) (enc := id) (R := fun u d => ∃ v, RelV v u ∧ Rp X.K (hide H O) v d) hl e er (by rw [id_map]; exact sortable_alike hs) (by rw [id_map]; exact sortable_kind hs) z (fun b hb => ?_) (fun out hlen ho => ?_)
  · have := depth_le hs b hb
    show X.A.units + 2 + b.depth < cLine
    omega
  · have ho2 : PySem.W.EachIs (fun u (d : D) => ∃ v, RelV v u ∧ Rp X.K (hide H O) v d) out (isort ds) := by
      rw [← isort_merge (sortable_alike hs) (.refl ds)]; exact ho
    obtain ⟨ws, a, b⟩ := each_back ho2
    obtain ⟨ep, he'⟩ := PyProof.Rows.sortedAll_at s.heap its out.toArray
    have hn : H (s.heap.objs.size + 1) = none := I.hok.fresh (Nat.le_succ _)
    have hz : (isort ds).length ≤ sizeLine := by rw [isort_length]; exact z
    refine ⟨.ref _, upd H (s.heap.objs.size + 1) (.lst ws), I.laid (t' := s.toks) (fun _ _ => PyProof.Rows.sortedAll_old) (Nat.le_succ _) ⟨by rw [b.length]; exact hz, out, ep, a, he'⟩, rfl, q _ _ (same_upd hn) (rp_newL L hn b hz)⟩
theorem sortD_ok {ds : List D} {d : D} (h : sortD ds = .ok d) : sortable ds = true ∧ d = .list (isort ds) := by
  obtain ⟨h1, h2⟩ := if_ok h
  exact ⟨h1, h2.symm⟩
end
end Fz

set_option Elab.async false
set_option linter.all false
set_option autoImplicit false
set_option maxRecDepth 100000
/-! Part S: set(..) of plain keys, whatever the keys are; its members sorted. -/
namespace Fz
open PySem PySem.Spec PyProof.Rows L2

abbrev newSetObj (w : World) : Obj := { cls := .type "set", dict := none, data := .set #[] 0 (.fresh 0 0 (!w.params.followText "set-order")) }

/-- a kind of members: what a member is, how a set of them stands, how one is added -/
structure STh (P : Program) (w : World) (κ : Type) where
  is : Heap → κ → Value → Prop
  hash : κ → Int
  cap : Nat
  Rep : Heap → Addr → List (Value × κ) → Prop
  keep : ∀ {h h' : Heap} {k : κ} {v : Value}, is h k v → (∀ c o, h.get? c = some o → h'.get? c = some o) → is h' k v
  pyHash : ∀ {A : Around} {E : Value → Shared → Prop} {s : Shared} {k : κ} {v : Value} {Q : Int → Shared → Prop}, A.units + 20 < cLine → is s.heap k v →
    (∀ n, Q (hash k) { s with toks := s.toks + n }) → wpAny (model P w) A (PySem.pyHash v) Q E s
  raw : ∀ {h : Heap} {a : Addr} {L : List (Value × κ)}, Rep h a L → ∃ es ep t, SetAt h a es ep t ∧ t.fits es.size = true ∧ es.size < scanBound ∧ Ris t.place.toList ∧
    (w.params.followText "set-order" = true ∨ t.led = true) ∧ es.toList.map (·.2) = L.map (·.1)
  nd : ∀ {h : Heap} {a : Addr} {L : List (Value × κ)}, Rep h a L → (L.map (·.2)).Nodup
  keepR : ∀ {h h' : Heap} {a : Addr} {L : List (Value × κ)}, Rep h a L → (∀ o, h.get? a = some o → h'.get? a = some o) → (∀ p ∈ L, is h' p.2 p.1) → Rep h' a L
  fresh : ∀ {h : Heap} {a : Addr}, h.get? a = some (newSetObj w) → Rep h a []
  add : ∀ {A : Around} {E : Value → Shared → Prop} {s : Shared} {a : Addr} {L : List (Value × κ)} {x : Value} {k : κ} {Q : Bool → Shared → Prop}, A.units + 20 < cLine → Rep s.heap a L → is s.heap k x → L.length + 1 ≤ cap →
    (∀ b h' L', Heap.SameBut a s.heap h' → Rep h' a L' → (k ∈ L.map (·.2) → L' = L) → (k ∉ L.map (·.2) → L'.Perm ((x, k) :: L)) → Q b { s with heap := h' }) →
    wpAny (model P w) A (setAddHashed a x (hash k)) Q E s

section
variable {P : Program} {w : World} {κ : Type}
/-- what the set has of the first i members handed in -/
structure Have (ks : List (Value × κ)) (i : Nat) (L : List (Value × κ)) : Prop where
  sub : ∀ p ∈ L, p ∈ ks.take i
  all : ∀ p ∈ ks.take i, p.2 ∈ L.map (·.2)
  len : L.length ≤ i
theorem Have.zero (ks : List (Value × κ)) : Have ks 0 [] := ⟨fun p h => (by cases h), fun p h => (by simp at h), Nat.le_refl _⟩
theorem Have.same {ks L : List (Value × κ)} {i : Nat} {x : Value × κ} (g : Have ks i L) (h : ks[i]? = some x) (hm : x.2 ∈ L.map (·.2)) : Have ks (i + 1) L := by
  refine ⟨fun p hp => ?_, fun p hp => ?_, Nat.le_succ_of_le g.len⟩
  · rw [L2.take_next h]
    exact List.mem_append_left _ (g.sub p hp)
  · rw [L2.take_next h] at hp
    rcases List.mem_append.mp hp with z | z
    · exact g.all p z
    · rw [List.mem_singleton.mp z]; exact hm
theorem Have.more {ks L L' : List (Value × κ)} {i : Nat} {x : Value × κ} (g : Have ks i L) (h : ks[i]? = some x) (pm : L'.Perm (x :: L)) : Have ks (i + 1) L' := by
  refine ⟨fun p hp => ?_, fun p hp => ?_, ?_⟩
  · rw [L2.take_next h]
    rcases List.mem_cons.mp (pm.mem_iff.mp hp) with e | z
    · rw [e]; exact List.mem_append_right _ (List.mem_singleton.mpr rfl)
    · exact List.mem_append_left _ (g.sub p z)
  · rw [(pm.map (·.2)).mem_iff, List.map_cons]
    rw [L2.take_next h] at hp
    rcases List.mem_append.mp hp with z | z
    · exact List.mem_cons_of_mem _ (g.all p z)
    · rw [List.mem_singleton.mp z]; exact List.mem_cons_self
  · rw [pm.length_eq, List.length_cons]
    exact Nat.succ_le_succ g.len

variable {A : Around} {E : Value → Shared → Prop} {s : Shared}
theorem upd_loop (T : STh P w κ) {I : Addr} {fp wr : List Addr} {G : Array GenState → Array GenState → Prop} {n : Nat} {Pv : Nat → Value → Prop} {St : Nat → Shared → Prop} {R : Result → Shared → Prop}
    (W : WalksS P w A.in1 I fp wr G n Pv St) (S : Addr) (hSf : S ∉ fp) (ks : List (Value × κ)) (hn : n = ks.length) (hcap : ks.length ≤ T.cap) (hval : ∀ i v, Pv i v → ∃ p, ks[i]? = some p ∧ v = p.1)
    (h0 : Heap) (hk : ∀ p ∈ ks, T.is h0 p.2 p.1) (hS0 : h0.get? S = none) (hw0 : ∀ b ∈ wr, h0.get? b = none) (hu : A.in1.units + 20 < cLine) :
    ∀ (k i : Nat) (s : Shared), n - i = k → i ≤ n → St i s → (∀ b o, h0.get? b = some o → s.heap.get? b = some o) → (∃ L, T.Rep s.heap S L ∧ Have ks i L) →
      (∀ s' L, Moved (S :: wr) G s s' → T.Rep s'.heap S L → Have ks n L → (∀ b o, h0.get? b = some o → s'.heap.get? b = some o) → R (.ok (.ret .none)) s') →
      codeAny (model P w) A (.builtin "set.update.loop" ⟨[.ref S, .ref I], []⟩) R s := by
  have nSw : S ∉ wr := fun h => hSf (W.sub _ h)
  have sub' : ∀ b ∈ wr, b ∈ S :: wr := fun b hb => List.mem_cons_of_mem _ hb
  have kM : ∀ {s s' : Shared}, Moved wr G s s' → (∀ b o, h0.get? b = some o → s.heap.get? b = some o) → ∀ b o, h0.get? b = some o → s'.heap.get? b = some o := fun hm hkp b o e =>
    hm.heap b o (fun hb => by rw [hw0 b hb] at e; cases e) (hkp b o e)
  intro k
  induction k with
  | zero =>
    intro i s hk' hi hst hkp ⟨L, hS, g⟩ hR
    have hin : i = n := by omega
    subst hin
    refine codeAny_builtin F.entry_set_update_loop ?_
    rw [Around.under_plainId F.plain_set_update_loop _]
    show wpAny _ A.in1 (pyNext (.ref I) >>= _) _ _ s
    refine wpAny_bind (W.done s _ _ hst fun s' hm => ?_)
    show wpAny _ A.in1 (ret Value.none) _ _ s'
    have hkp' := kM hm hkp
    exact wpAny_pure (hR s' L (hm.mono sub') (T.keepR hS (fun o e => hm.heap S o nSw e) fun p hp => T.keep (hk p (List.mem_of_mem_take (g.sub p hp))) hkp') g hkp')
  | succ k ih =>
    intro i s hk' hi hst hkp ⟨L, hS, g⟩ hR
    have hlt : i < n := by omega
    refine codeAny_builtin F.entry_set_update_loop ?_
    rw [Around.under_plainId F.plain_set_update_loop _]
    show wpAny _ A.in1 (pyNext (.ref I) >>= _) _ _ s
    refine wpAny_bind (W.item i s _ _ hlt hst fun v s' hP hst' hm => ?_)
    obtain ⟨p, hp, rfl⟩ := hval i v hP
    have hkp' := kM hm hkp
    have hS' : T.Rep s'.heap S L := T.keepR hS (fun o e => hm.heap S o nSw e) fun q hq => T.keep (hk q (List.mem_of_mem_take (g.sub q hq))) hkp'
    have hx : T.is s'.heap p.2 p.1 := T.keep (hk p (List.mem_of_getElem? hp)) hkp'
    show wpAny _ A.in1 (holding [p.1] (setAdd S p.1) >>= _) _ _ s'
    refine wpAny_bind (wpAny_holding ?_)
    unfold setAdd
    refine wpAny_holding ?_
    refine wpAny_bind (T.pyHash hu hx fun nt => ?_)
    refine T.add (s := { s' with toks := s'.toks + nt }) hu hS' hx (by have := g.len; omega) fun b h' L' hsb hS2 c1 c2 => ?_
    have g' : Have ks (i + 1) L' := by
      rcases Classical.em (p.2 ∈ L.map (·.2)) with c | c
      · rw [c1 c]; exact g.same hp c
      · exact g.more hp (c2 c)
    have hkp2 : ∀ b o, h0.get? b = some o → h'.get? b = some o := fun b o e => (hsb.2 b (fun z => by rw [z, hS0] at e; cases e)).trans (hkp' b o e)
    refine wpAny_pure ⟨plainId_quiet F.plain_set_update_loop _, ih (i + 1) _ (by omega) hlt (W.frame _ s' _ _ hst' (Nat.le_add_right _ _) fun b hb o e => ?_) hkp2 ⟨L', hS2, g'⟩ fun s'' L2 hm'' hS'' g'' hkp'' => ?_⟩
    · rw [hsb.2 b (fun h : b = S => hSf (by rw [← h]; exact hb))]; exact e
    · refine hR s'' L2 (Moved.trans W.gtrans ((hm.mono sub').then_heap (Nat.le_add_right _ _) fun b o hb e => ?_) hm'') hS'' g'' hkp''
      rw [hsb.2 b (fun h : b = S => hb (by rw [h]; exact List.mem_cons_self))]; exact e

theorem none_ge {h : Heap} {b : Addr} (hb : h.objs.size ≤ b) : h.get? b = none := by
  cases q : h.get? b with
  | none => rfl
  | some o => exact absurd (Nat.lt_of_lt_of_le (Heap.lt_size q) hb) (Nat.lt_irrefl _)
theorem val_at {items : Array Value} {ks : List (Value × κ)} (hit : items.toList = ks.map (·.1)) (i : Nat) (v : Value) (hv : items[i]? = some v) : ∃ p, ks[i]? = some p ∧ v = p.1 := by
  have q : items.toList[i]? = some v := by rw [Array.getElem?_toList]; exact hv
  rw [hit, List.getElem?_map] at q
  cases hq : ks[i]? with
  | none => rw [hq] at q; cases q
  | some p => rw [hq] at q; exact ⟨p, rfl, (Option.some.inj q).symm⟩

set_option maxHeartbeats 3200000 in
theorem set_call (T : STh P w κ) {l : Addr} {items : Array Value} (ks : List (Value × κ)) {Q : Value → Shared → Prop} (hh : A.handled = none) (hl : s.heap.IsList l items ∨ s.heap.IsTuple l items) (hit : items.toList = ks.map (·.1))
    (hk : ∀ p ∈ ks, T.is s.heap p.2 p.1) (hcap : ks.length ≤ T.cap) (hu : A.units + 30 < cLine)
    (h : ∀ (h' : Heap) (tk : Nat) L, T.Rep h' s.heap.objs.size L → Have ks ks.length L → (∀ b o, s.heap.get? b = some o → h'.get? b = some o) → Q (.ref s.heap.objs.size) { s with heap := h', toks := tk }) :
    wpAny (model P w) A (call (.type "set") [.ref l]) Q E s := by
  have isz : items.size = ks.length := by
    have q := congrArg List.length hit
    rw [Array.length_toList, List.length_map] at q
    exact q
  obtain ⟨c, tl, hmro⟩ := F.called_set.mro
  have hmade := F.called_set.made
  have hsub := F.called_set.sub
  refine wpAny_call (codeAny_of_tree ?_)
  show wpAny _ _ (callAny (.type "set") _) _ _ _
  refine wpAny_pure ⟨Code.quiet_builtin _ (by decide +kernel), codeAny_builtin F.entry_type_call ?_⟩
  rw [Around.under_plain (weight_type_call_type "set" [.ref l] []) rfl]
  have h1 := F.called_set.notType
  have h2 := F.called_set.canCreate
  have hct := F.typeCall_set_1 (.ref l)
  repeat (any_goals (first | assumption | wp_step))
  refine codeAny_mono (code_set_led1 (.ref l) (E := E) (Q₁ := fun obj s₁ => obj = .ref s.heap.objs.size ∧ s₁ = { s with heap := s.heap.push (newSetObj w) }) ⟨rfl, rfl⟩) fun r s₁ hr => ?_
  cases r with
  | error e => exact hr
  | ok fl =>
    cases fl with
    | ret obj =>
      obtain ⟨rfl, rfl⟩ := hr
      have hS : (s.heap.push (newSetObj w)).get? s.heap.objs.size = some (newSetObj w) := Heap.get?_push_size _ rfl
      have hT : Shared.TypeIs { s with heap := s.heap.push (newSetObj w) } (.ref s.heap.objs.size) "set" := ⟨_, hS, rfl⟩
      have hli := F.called_set.init.lookup
      have hbi := F.called_set.init.bind (.ref s.heap.objs.size)
      repeat (any_goals (first | assumption | wp_step))
      refine codeAny_mono (codeAny_call_builtin (R := wants (fun r s₂ => r = .none ∧ ∃ h' tk L, s₂ = { s with heap := h', toks := tk } ∧ T.Rep h' s.heap.objs.size L ∧ Have ks ks.length L ∧
          (∀ b o, s.heap.get? b = some o → h'.get? b = some o)) E) F.called_set.init.plain F.entry_set_init (check_set_init_1 hT ?_)) fun r₂ s₂ hr₂ => ?_
      · have fin : ∀ (I : Addr) (s' : Shared) (L : List (Value × κ)), Moved (s.heap.objs.size :: [I]) (fun g g' => g' = g) { s with heap := s.heap.push (newSetObj w) } s' → True := fun _ _ _ _ => trivial
        rcases hl with hl | hl
        · obtain ⟨ol, hol, hcl, nl, hdl⟩ := hl
          obtain ⟨ocls, odict, odata, oslots⟩ := ol
          simp only at hcl hdl
          subst hcl; subst hdl
          have hol' : (s.heap.push (newSetObj w)).get? l = some { cls := .type "list", dict := odict, data := .seq items nl, slots := oslots } := Heap.get?_push_of_some _ hol
          have hsls := F.sub_list_set
          have hslf := F.sub_list_frozenset
          have hne : (Value.type "list" == Value.type "dict") = false := by decide
          have hl1 : (s.heap.push (newSetObj w)).IsList l items := ⟨_, hol', rfl, nl, rfl⟩
          unfold Builtin.«set.__init__» noKeywords Builtin.Frozenset.updateFrom
          generalize hPI : pyIter = PI
          wp_walk
          subst hPI
          refine wpAny_pyIter_list hl1 ?_
          refine wpAny_bind (wpAny_runValue ?_)
          have hlS : l < s.heap.objs.size := Heap.lt_size hol
          have hh3 : A.in1.in1.in1.handled = none := by simp [hh]
          have hneI : l ≠ (s.heap.push (newSetObj w)).objs.size := by
            rw [Heap.size_push]; exact Nat.ne_of_lt (Nat.lt_succ_of_lt hlS)
          have hSf : s.heap.objs.size ∉ [(s.heap.push (newSetObj w)).objs.size, l] := by
            rw [Heap.size_push]; simp only [List.mem_cons, List.mem_singleton, List.not_mem_nil, or_false, not_or]
            exact ⟨Nat.ne_of_lt (Nat.lt_succ_self _), Nat.ne_of_gt hlS⟩
          refine upd_loop T ((Walks.list hh3 _ l hneI items).toS) s.heap.objs.size hSf ks isz hcap (val_at hit) s.heap hk (none_ge (Nat.le_refl _)) (fun b hb => none_ge (by
              rw [List.mem_singleton.mp hb, Heap.size_push]
              exact Nat.le_succ _)) (by simpa using (show A.units + 3 + 20 < cLine by omega)) (items.size - 0) 0 _ (by omega) (Nat.zero_le _)
            ⟨⟨_, Heap.get?_push_size _ rfl, rfl, rfl⟩, (hl1.push _)⟩ (fun b o e => Heap.get?_push_of_some _ (Heap.get?_push_of_some _ e)) ⟨[], T.fresh (Heap.get?_push_of_some _ hS), Have.zero ks⟩ ?_
          intro s' L hm hS' g' hkp
          obtain ⟨h', g2, d', tk', os'⟩ := s'
          have eg : g2 = s.gens := hm.gens
          have ed : d' = s.drawn := hm.drawn
          have eo : os' = s.os := hm.os
          subst eg; subst ed; subst eo
          show wpAny _ _ _ _ _ _
          refine wpAny_pure ?_
          show wpAny _ _ (ret Value.none) _ _ _
          rw [isz] at g'
          exact wpAny_pure ⟨rfl, h', tk', L, rfl, hS', g', hkp⟩
        · obtain ⟨ol, hol, hcl, nl, hdl⟩ := hl
          obtain ⟨ocls, odict, odata, oslots⟩ := ol
          simp only at hcl hdl
          subst hcl; subst hdl
          have hol' : (s.heap.push (newSetObj w)).get? l = some { cls := .type "tuple", dict := odict, data := .seq items nl, slots := oslots } := Heap.get?_push_of_some _ hol
          have hsls := PySem.F.sub_tuple_set
          have hslf := PySem.F.sub_tuple_frozenset
          have hne : (Value.type "tuple" == Value.type "dict") = false := by decide
          have hl1 : (s.heap.push (newSetObj w)).IsTuple l items := ⟨_, hol', rfl, nl, rfl⟩
          unfold Builtin.«set.__init__» noKeywords Builtin.Frozenset.updateFrom
          generalize hPI : pyIter = PI
          wp_walk
          subst hPI
          refine wpAny_pyIter_tuple hl1 ?_
          refine wpAny_bind (wpAny_runValue ?_)
          have hlS : l < s.heap.objs.size := Heap.lt_size hol
          have hh3 : A.in1.in1.in1.handled = none := by simp [hh]
          have hneI : l ≠ (s.heap.push (newSetObj w)).objs.size := by
            rw [Heap.size_push]; exact Nat.ne_of_lt (Nat.lt_succ_of_lt hlS)
          have hSf : s.heap.objs.size ∉ [(s.heap.push (newSetObj w)).objs.size, l] := by
            rw [Heap.size_push]; simp only [List.mem_cons, List.mem_singleton, List.not_mem_nil, or_false, not_or]
            exact ⟨Nat.ne_of_lt (Nat.lt_succ_self _), Nat.ne_of_gt hlS⟩
          refine upd_loop T ((Walks.tuple hh3 _ l hneI items).toS) s.heap.objs.size hSf ks isz hcap (val_at hit) s.heap hk (none_ge (Nat.le_refl _)) (fun b hb => none_ge (by
              rw [List.mem_singleton.mp hb, Heap.size_push]
              exact Nat.le_succ _)) (by simpa using (show A.units + 3 + 20 < cLine by omega)) (items.size - 0) 0 _ (by omega) (Nat.zero_le _)
            ⟨⟨_, Heap.get?_push_size _ rfl, rfl, rfl⟩, (hl1.push _)⟩ (fun b o e => Heap.get?_push_of_some _ (Heap.get?_push_of_some _ e)) ⟨[], T.fresh (Heap.get?_push_of_some _ hS), Have.zero ks⟩ ?_
          intro s' L hm hS' g' hkp
          obtain ⟨h', g2, d', tk', os'⟩ := s'
          have eg : g2 = s.gens := hm.gens
          have ed : d' = s.drawn := hm.drawn
          have eo : os' = s.os := hm.os
          subst eg; subst ed; subst eo
          show wpAny _ _ _ _ _ _
          refine wpAny_pure ?_
          show wpAny _ _ (ret Value.none) _ _ _
          rw [isz] at g'
          exact wpAny_pure ⟨rfl, h', tk', L, rfl, hS', g', hkp⟩
      · cases r₂ with
        | error e => exact hr₂
        | ok fl₂ =>
          cases fl₂ with
          | ret r =>
            obtain ⟨rfl, h', tk, L, rfl, hS', g', hk'⟩ := hr₂
            repeat (any_goals (first | assumption | wp_step))
            exact h _ _ _ hS' g' hk'
          | _ => exact hr₂.elim
    | _ => exact hr.elim
end
end Fz

set_option Elab.async false
set_option linter.all false
set_option autoImplicit false
set_option maxRecDepth 100000
/-! Part S1: members that are ints and texts (found by a scan). -/
namespace Fz
open PySem PySem.Spec PyProof.Rows L2

section
variable {P : Program} {w : World}
def KIs (k : L2.Key) (v : Value) : Prop := keyIs k v = true
theorem KIs.inj {a b : L2.Key} {v : Value} (h : KIs a v) (h' : KIs b v) : a = b := by
  rcases keyIs_shape h with ⟨i, t, rfl, rfl⟩ | ⟨x, t, rfl, rfl⟩
  · rcases keyIs_shape h' with ⟨j, u, rfl, e⟩ | ⟨y, u, rfl, e⟩
    · injection e with e1 _; rw [e1]
    · exact nomatch e
  · rcases keyIs_shape h' with ⟨j, u, rfl, e⟩ | ⟨y, u, rfl, e⟩
    · exact nomatch e
    · injection e with e1 _; rw [e1]
theorem kis_scan {k : L2.Key} {v : Value} (h : KIs k v) : v.scannable = true := by
  rcases keyIs_shape h with ⟨i, t, rfl, rfl⟩ | ⟨x, t, rfl, rfl⟩ <;> rfl
/-- the set at a, of ints and texts -/
def Rep1 (w : World) (h : Heap) (a : Addr) (L : List (Value × L2.Key)) : Prop :=
  ∃ o es ep t, h.get? a = some o ∧ o.ExactSet ∧ o.data = .set es ep t ∧ es.toList = L.map (fun p => (keyH w p.2, p.1)) ∧ (∀ p ∈ L, KIs p.2 p.1) ∧ (L.map (·.2)).Nodup ∧
    es.size < scanBound ∧ t.fits es.size = true ∧ Ris t.place.toList ∧ (w.params.followText "set-order" = true ∨ t.led = true)
theorem rep1_elems {es : Array (Int × Value)} {L : List (Value × L2.Key)} (e : es.toList = L.map (fun p => (keyH w p.2, p.1))) (hk : ∀ p ∈ L, KIs p.2 p.1) : ElemsOf (mixKind P w) es.toList := fun q hq => by
  rw [e] at hq
  obtain ⟨p, hp, rfl⟩ := List.mem_map.mp hq
  exact ⟨⟨p.2, hk p hp, rfl⟩, kis_scan (hk p hp)⟩
theorem perm_rows {L : List (Value × L2.Key)} {rows : List (Int × Value)} (h : rows.Perm (L.map (fun p => (keyH w p.2, p.1)))) : ∃ L' : List (Value × L2.Key), rows = L'.map (fun p => (keyH w p.2, p.1)) ∧ L'.Perm L := by
  generalize hm : L.map (fun p => (keyH w p.2, p.1)) = l2 at h
  induction h generalizing L with
  | nil => exact ⟨[], rfl, by cases L with | nil => exact .nil | cons _ _ => cases hm⟩
  | cons x _ ih =>
    cases L with
    | nil => cases hm
    | cons p L =>
      rw [List.map_cons] at hm
      injection hm with h1 h2
      obtain ⟨L', e, pm⟩ := ih h2
      exact ⟨p :: L', by rw [List.map_cons, e, h1], pm.cons p⟩
  | swap x y l =>
    match L, hm with
    | p :: q :: L, hm =>
      rw [List.map_cons, List.map_cons] at hm
      injection hm with h1 h2
      injection h2 with h2 h3
      exact ⟨q :: p :: L, by rw [List.map_cons, List.map_cons, h1, h2, h3], .swap p q L⟩
    | [_], hm => simp at hm
    | [], hm => simp at hm
  | trans _ _ ih1 ih2 =>
    obtain ⟨L2, e2, p2⟩ := ih2 hm
    obtain ⟨L1, e1, p1⟩ := ih1 e2.symm
    exact ⟨L1, e1, p1.trans p2⟩

section
variable {A : Around} {E : Value → Shared → Prop} {s : Shared} {a : Addr}
theorem add1_tail {g : Bool → Sem Unit} (hg : ∀ (b : Bool) (s₁ : Shared) (Q' : Unit → Shared → Prop), Q' () s₁ → wpAny (model P w) A (g b) Q' E s₁)
    {o : Obj} {es : Array (Int × Value)} {ep : Nat} {t : SetTable} (ho : s.heap.get? a = some o) (hex : o.ExactSet) (hd : o.data = .set es ep t)
    {es1 : Array (Int × Value)} {t2 : SetTable} {L1 : List (Value × L2.Key)} (e1 : es1.toList = L1.map (fun p => (keyH w p.2, p.1))) (k1 : ∀ p ∈ L1, KIs p.2 p.1) (nd1 : (L1.map (·.2)).Nodup)
    (hb1 : es1.size < scanBound) (hf2 : t2.fits es1.size = true) (hr : Ris t2.place.toList) (hl : w.params.followText "set-order" = true ∨ t2.led = true) {wasDummy : Bool} {R : Option Bool → Shared → Prop}
    (hR : ∀ h' L', Heap.SameBut a s.heap h' → Rep1 w h' a L' → L'.Perm L1 → R (some true) { s with heap := h' }) :
    wpAny (model P w) A (do
        storeSet a es1 t2
        if (!wasDummy && t2.tooFull) = true then do
            g (relayAll t2 es1 (SetTable.grown es1.size)).2.2
            storeSet a (relayAll t2 es1 (SetTable.grown es1.size)).1 (relayAll t2 es1 (SetTable.grown es1.size)).2.1
            pure (some true)
          else pure (some true)) R E s := by
  refine wpAny_bind (wpAny_storeSet_of ho hd ?_ (fits_of_scanBound hb1))
  have ho1 := store_at (es' := es1) (t' := t2) ho hd
  have sb1 := Heap.SameBut.update s.heap a (Obj.putSet es1 t2)
  split
  · have pm := relayAll_perm t2 es1 (SetTable.grown es1.size)
    have hf3 := relayAll_fits t2 es1 (SetTable.grown es1.size)
    have hr3 := relayAll_ris t2 es1 (SetTable.grown es1.size)
    have hl3 := relayAll_led t2 es1 (SetTable.grown es1.size)
    generalize relayAll t2 es1 (SetTable.grown es1.size) = Z at pm hf3 hr3 hl3 ⊢
    obtain ⟨es2, t3, gave⟩ := Z
    dsimp only at pm hf3 hr3 hl3 ⊢
    have hsz : es2.size = es1.size := by rw [← Array.length_toList, pm.length_eq, Array.length_toList]
    have hb2 : es2.size < scanBound := by rw [hsz]; exact hb1
    rw [e1] at pm
    obtain ⟨L2, e2, p2⟩ := perm_rows pm
    refine wpAny_bind (hg _ _ _ ?_)
    refine wpAny_bind (wpAny_storeSet_of ho1 rfl ?_ (fits_of_scanBound hb2))
    have ho2 := store_at (es' := es2) (t' := t3) ho1 rfl
    refine wpAny_pure (hR _ L2 (sb1.trans (Heap.SameBut.update _ a _)) ?_ p2)
    exact ⟨_, es2, _, t3, ho2, hex, rfl, e2, fun p hp => k1 p (p2.mem_iff.mp hp), (p2.map (·.2)).nodup_iff.mpr nd1, hb2, hf3, hr3, hl.imp id fun z => by rw [hl3]; exact z⟩
  · exact wpAny_pure (hR _ L1 sb1 ⟨_, es1, _, t2, ho1, hex, rfl, e1, k1, nd1, hb1, hf2, hr, hl⟩ (.refl _))

theorem add1 {L : List (Value × L2.Key)} {x : Value} {k : L2.Key} {Q : Bool → Shared → Prop} (R : Rep1 w s.heap a L) (hx : KIs k x) (room : L.length + 1 ≤ 4000)
    (hQ : ∀ b h' L', Heap.SameBut a s.heap h' → Rep1 w h' a L' → (k ∈ L.map (·.2) → L' = L) → (k ∉ L.map (·.2) → L'.Perm ((x, k) :: L)) → Q b { s with heap := h' }) :
    wpAny (model P w) A (setAddHashed a x (keyH w k)) Q E s := by
  have R0 := R
  obtain ⟨o, es, ep, t, ho, hex, hd, er, hk, nd, hb, hf, hr, hl⟩ := R
  have hsc : x.scannable = true := kis_scan hx
  have hel : ElemsOf (mixKind P w) es.toList := rep1_elems er hk
  have hkey : (mixKind P w).is k x = true := hx
  show wpAny (model P w) A (setAddHashed a x ((mixKind P w).hash k)) Q E s
  unfold setAddHashed setAddHashedIn
  refine wpAny_holding (wpAny_bind (wpAny_setState_of ho hd hf ?_))
  dsimp only
  rw [byScan_of hsc hb hel]
  simp only [↓reduceIte]
  unfold setAddByScan
  refine wpAny_bind ?_
  refine wpAny_bind (wpAny_rule ?_)
  refine wpAny_bind (wpAny_setScan_of hkey ho hd hf hel ?_)
  have mem_iff : k ∈ L.map (·.2) ↔ ∃ e ∈ es.toList, (mixKind P w).is k e.2 = true := by
    rw [er]
    constructor
    · intro z
      obtain ⟨p, hp, e⟩ := List.mem_map.mp z
      exact ⟨_, List.mem_map.mpr ⟨p, hp, rfl⟩, by rw [← e]; exact hk p hp⟩
    · rintro ⟨e, he, q⟩
      obtain ⟨p, hp, rfl⟩ := List.mem_map.mp he
      exact List.mem_map.mpr ⟨p, hp, KIs.inj (hk p hp) q⟩
  cases hfi : List.findIdx? (fun e => (mixKind P w).is k e.2) es.toList with
  | some j =>
    dsimp only
    obtain ⟨hj, pj, _⟩ := List.findIdx?_eq_some_iff_getElem.mp hfi
    have hm : k ∈ L.map (·.2) := mem_iff.mpr ⟨es.toList[j], List.getElem_mem hj, pj⟩
    refine wpAny_pure (wpAny_pure ?_)
    exact hQ _ s.heap L (Heap.SameBut.refl a s.heap) R0 (fun _ => rfl) fun z => absurd hm z
  | none =>
    dsimp only
    have hnk : k ∉ L.map (·.2) := fun z => by
      obtain ⟨e, he, q⟩ := mem_iff.mp z
      have c := List.findIdx?_eq_none_iff.mp hfi e he
      rw [q] at c
      cases c
    have hgw : ∀ (b : Bool) {s₁ : Shared} {Q' : Unit → Shared → Prop}, Q' () s₁ → wpAny (model P w) A (match b with | true => rule "set.scan.the-table-gave-way" | false => pure ()) Q' E s₁ :=
      fun b s₁ Q' q => by cases b <;> first | exact wpAny_pure q | exact wpAny_rule q
    have pm := layNew_perm t es ((mixKind P w).hash k) x
    have hf1 := layNew_fits t es ((mixKind P w).hash k) x
    have hr1 := layNew_ris t es ((mixKind P w).hash k) x hr
    have hl1 := layNew_led t es ((mixKind P w).hash k) x
    generalize layNew t es ((mixKind P w).hash k) x = Z at pm hf1 hr1 hl1 ⊢
    obtain ⟨es1, t1, wasDummy, gave⟩ := Z
    dsimp only at pm hf1 hr1 hl1 ⊢
    rw [Array.toList_push] at pm
    have pc : es1.toList.Perm (((mixKind P w).hash k, x) :: es.toList) := pm.trans (List.perm_append_singleton _ _)
    have pc2 : es1.toList.Perm (((x, k) :: L).map (fun p => (keyH w p.2, p.1))) := by rw [List.map_cons, ← er]; exact pc
    obtain ⟨L1, e1, p1⟩ := perm_rows pc2
    have k1 : ∀ p ∈ L1, KIs p.2 p.1 := fun p hp => by
      rcases List.mem_cons.mp (p1.mem_iff.mp hp) with z | z
      · rw [z]; exact hx
      · exact hk p z
    have nd1 : (L1.map (·.2)).Nodup := (p1.map (·.2)).nodup_iff.mpr (List.nodup_cons.mpr ⟨hnk, nd⟩)
    have hsz : es1.size = L.length + 1 := by rw [← Array.length_toList, e1, List.length_map, p1.length_eq, List.length_cons]
    have hb1 : es1.size < scanBound := by rw [hsz]; unfold scanBound; omega
    have hled : w.params.followText "set-order" = true ∨ t1.led = true := hl.imp id fun z => by rw [hl1]; exact z
    have fin : ∀ h' L', Heap.SameBut a s.heap h' → Rep1 w h' a L' → L'.Perm L1 → Q true { s with heap := h' } := fun h' L' sb r pp => hQ true h' L' sb r (fun z => absurd z hnk) fun _ => pp.trans p1
    refine wpAny_bind (hgw _ ?_)
    split
    · refine wpAny_bind ?_
      rw [hashByValue_scannable 8 hsc]
      refine wpAny_pure ?_
      refine add1_tail ?_ ho hex hd e1 k1 nd1 hb1 ?_ ?_ ?_ ?_
      · intro b s₁ Q' q; cases b <;> first | exact wpAny_pure q | exact wpAny_rule q
      · first | (split <;> first | exact hf1 | exact SetTable.fits_plain_off hf1) | exact hf1
      · first | (split <;> exact hr1) | exact hr1
      · first | (split <;> exact hled) | exact hled
      · intro h' L' sb r pp; dsimp only; exact wpAny_pure (fin h' L' sb r pp)
    · refine wpAny_bind (wpAny_pure ?_)
      simp only [↓reduceIte]
      refine add1_tail ?_ ho hex hd e1 k1 nd1 hb1 hf1 hr1 hled ?_
      · intro b s₁ Q' q; cases b <;> first | exact wpAny_pure q | exact wpAny_rule q
      · intro h' L' sb r pp; dsimp only; exact wpAny_pure (fin h' L' sb r pp)
end
def th1 (P : Program) (w : World) : STh P w L2.Key where
  is := fun _ k v => KIs k v
  hash := keyH w
  cap := 4000
  Rep := Rep1 w
  keep := fun h _ => h
  pyHash := fun {A E s k v Q} _ hk h => by
    rcases keyIs_shape hk with ⟨i, t, rfl, rfl⟩ | ⟨x, t, rfl, rfl⟩
    · exact wpAny_pyHash_int (h 1)
    · exact wpAny_pyHash_str (h 1)
  raw := fun {h a L} ⟨o, es, ep, t, ho, hex, hd, er, hk, nd, hb, hf, hr, hl⟩ => ⟨es, ep, t, ⟨o, ho, hex.1, hd⟩, hf, hb, hr, hl, by rw [er, List.map_map]; rfl⟩
  nd := fun {h a L} ⟨o, es, ep, t, ho, hex, hd, er, hk, nd, _⟩ => nd
  keepR := fun {h h' a L} ⟨o, es, ep, t, ho, r⟩ k _ => ⟨o, es, ep, t, k o ho, r⟩
  fresh := fun {h a} ho => ⟨_, #[], 0, _, ho, ⟨rfl, rfl, rfl⟩, rfl, rfl, (fun p hp => by cases hp), List.nodup_nil, (by decide), (by rfl), List.Pairwise.nil, by
    show _ ∨ (!w.params.followText "set-order") = true
    cases w.params.followText "set-order"
    · exact .inr rfl
    · exact .inl rfl⟩
  add := fun {A E s a L x k Q} _ R hx room hQ => add1 R hx room hQ
end
end Fz

set_option Elab.async false
set_option linter.all false
set_option autoImplicit false
set_option maxRecDepth 100000
/-! Part S2: members that are tuples, nested, of ints, texts, None (found on the table's way). -/
namespace Fz
open PySem PySem.Spec PyProof.Rows L2

section
variable {P : Program} {w : World}
/-- a tuple that is a key -/
def NIs (h : Heap) (k : NestedKey) (v : Value) : Prop := (∃ a, v = .ref a) ∧ NestedIs h k v ∧ k.depth ≤ 8
theorem NIs.keep {h h' : Heap} {k : NestedKey} {v : Value} (x : NIs h k v) (hk : ∀ c o, h.get? c = some o → h'.get? c = some o) : NIs h' k v :=
  ⟨x.1, NestedIs.at (fun a o _ _ e _ => hk a o e) k v x.2.1, x.2.2⟩
theorem NIs.sameBut {h h' : Heap} {k : NestedKey} {v : Value} {a : Addr} {o : Obj} {es : Array (Int × Value)} {ep : Nat} {t : SetTable} (x : NIs h k v) (ho : h.get? a = some o) (hd : o.data = .set es ep t) (hs : Heap.SameBut a h h') : NIs h' k v :=
  ⟨x.1, NestedIs.at (fun b ob vs n hb hc => by
    refine (hs.2 b fun e => ?_).trans hb
    subst e
    rw [ho] at hb
    cases hb
    rw [hd] at hc
    cases hc) k v x.2.1, x.2.2⟩

def NoCls (P : Program) (w : World) (n : Nat) (s : Shared) (v : Value) : Prop := ∀ (A : Around) (E : Value → Shared → Prop) (Q : Bool → Shared → Prop), Q false s → wpAny (model P w) A (ofAClassStatement n v) Q E s
theorem noCls_tuple {n : Nat} {s : Shared} {a : Addr} {o : Obj} {vs : Array Value} {m : Nat} (ho : s.heap.get? a = some o) (hc : o.cls = .type "tuple") (hd : o.data = .seq vs m) (hq : ∀ v ∈ vs.toList, NoCls P w n s v) : NoCls P w (n + 1) s (.ref a) := fun A E Q h => by
  have hT : s.TypeIs (.ref a) "tuple" := ⟨o, ho, hc⟩
  unfold ofAClassStatement
  refine wpAny_bind (wpAny_typeOf hT ?_)
  dsimp only
  have e : (("tuple" : String) == "tuple") = true := by decide
  simp only [e, if_true, Bool.not_true, Bool.false_eq_true, if_false]
  try refine wpAny_bind (wpAny_pure ?_)
  try simp only [Bool.not_true, Bool.false_eq_true, if_false]
  show wpAny _ _ (seqItems? (.ref a) >>= _) _ _ s
  refine wpAny_bind (wpAny_seqItems ho hd ?_)
  dsimp only
  refine wpAny_bind ?_
  show wpAny _ _ (forIn vs _ _) _ _ s
  rw [← Array.forIn_toList]
  refine wpAny_forIn_list _ (fun rest r s' => r.1 = none ∧ s' = s ∧ ∀ v ∈ rest, NoCls P w n s v) _ ?_ ?_ _ _ ⟨rfl, rfl, hq⟩
  · rintro v rest r s' ⟨hr, rfl, hall⟩
    refine wpAny_bind (hall v List.mem_cons_self _ _ _ ?_)
    simp only [Bool.false_eq_true, if_false]
    exact wpAny_pure ⟨rfl, rfl, fun u hu' => hall u (List.mem_cons_of_mem _ hu')⟩
  · rintro ⟨r1, r2⟩ s' ⟨hr, rfl, _⟩
    simp only at hr
    subst hr
    exact wpAny_pure h
theorem noCls_plain {n : Nat} {s : Shared} {v : Value} (h : ∀ a, v ≠ .ref a) : NoCls P w n s v := fun A E Q q => by
  have e : ofAClassStatement n v = pure false := by
    cases v <;> first | (cases n <;> rfl) | exact absurd rfl (h _)
  rw [e]
  exact wpAny_pure q
mutual
theorem noCls_key : ∀ (k : NestedKey) (v : Value) (n : Nat) (s : Shared), NestedIs s.heap k v → k.depth ≤ n → NoCls P w n s v
  | .none, _, n, s, x, _ => by cases x; exact noCls_plain fun _ z => nomatch z
  | .num i, _, n, s, x, _ => by cases x <;> exact noCls_plain fun _ z => nomatch z
  | .text y, _, n, s, x, _ => by cases x; exact noCls_plain fun _ z => nomatch z
  | .tup ks, _, n, s, x, hn => by
    cases x with
    | tup hg hc hd hk =>
      simp only [NestedKey.depth] at hn
      cases n with
      | zero => omega
      | succ n => exact noCls_tuple hg hc hd (noCls_keys ks _ n s hk (by omega))
theorem noCls_keys : ∀ (ks : List NestedKey) (vs : List Value) (n : Nat) (s : Shared), NestedAll s.heap ks vs → NestedKey.depthAll ks ≤ n → ∀ v ∈ vs, NoCls P w n s v
  | [], _, n, s, x, _, v, hv => by cases x; cases hv
  | k :: ks, _, n, s, x, hn, v, hv => by
    cases x with
    | cons x1 x2 =>
      simp only [NestedKey.depthAll] at hn
      rcases List.mem_cons.mp hv with e | hv
      · rw [e]; exact noCls_key k _ n s x1 (by omega)
      · exact noCls_keys ks _ n s x2 (by omega) v hv
end
def SomeHB (P : Program) (w : World) (n : Nat) (s : Shared) (v : Value) : Prop := ∀ (A : Around) (E : Value → Shared → Prop) (Q : Bool → Shared → Prop), (∀ b, Q b s) → wpAny (model P w) A (hashByValue n v) Q E s
theorem hb_tuple {n : Nat} {s : Shared} {a : Addr} {o : Obj} {vs : Array Value} {m : Nat} (ho : s.heap.get? a = some o) (hc : o.cls = .type "tuple") (hd : o.data = .seq vs m) (hq : ∀ v ∈ vs.toList, SomeHB P w n s v) : SomeHB P w (n + 1) s (.ref a) := fun A E Q h => by
  have hT : s.TypeIs (.ref a) "tuple" := ⟨o, ho, hc⟩
  unfold hashByValue
  refine wpAny_bind (wpAny_specialOf hT F.slot_tuple_hash.lookup ?_)
  show wpAny _ _ (seqItems? (.ref a) >>= _) _ _ s
  refine wpAny_bind (wpAny_seqItems ho hd ?_)
  refine wpAny_bind ?_
  show wpAny _ _ (forIn vs _ _) _ _ s
  rw [← Array.forIn_toList]
  refine wpAny_forIn_list _ (fun rest r s' => r.1 = none ∧ s' = s ∧ ∀ v ∈ rest, SomeHB P w n s v) _ ?_ ?_ _ _ ⟨rfl, rfl, hq⟩
  · rintro v rest r s' ⟨hr, rfl, hall⟩
    refine wpAny_bind (hall v List.mem_cons_self _ _ _ fun b => ?_)
    cases b
    · simp only [Bool.not_false, if_true]
      exact wpAny_pure (wpAny_pure (h _))
    · simp only [Bool.not_true, Bool.false_eq_true, if_false]
      exact wpAny_pure ⟨rfl, rfl, fun u hu' => hall u (List.mem_cons_of_mem _ hu')⟩
  · rintro ⟨r1, r2⟩ s' ⟨hr, rfl, _⟩
    simp only at hr
    subst hr
    exact wpAny_pure (h _)
theorem hb_plain {n : Nat} {s : Shared} {v : Value} {b : Bool} (e : hashByValue n v = pure b) : SomeHB P w n s v := fun A E Q q => by
  rw [e]
  exact wpAny_pure (q _)
mutual
theorem hb_key : ∀ (k : NestedKey) (v : Value) (n : Nat) (s : Shared), NestedIs s.heap k v → k.depth ≤ n → SomeHB P w n s v
  | .none, _, n, s, x, _ => by cases x; exact hb_plain (b := true) (by cases n <;> rfl)
  | .num i, _, n, s, x, _ => by cases x <;> exact hb_plain (b := true) (by cases n <;> rfl)
  | .text y, _, n, s, x, _ => by cases x; exact hb_plain (b := false) (by cases n <;> rfl)
  | .tup ks, _, n, s, x, hn => by
    cases x with
    | tup hg hc hd hk =>
      simp only [NestedKey.depth] at hn
      cases n with
      | zero => omega
      | succ n => exact hb_tuple hg hc hd (hb_keys ks _ n s hk (by omega))
theorem hb_keys : ∀ (ks : List NestedKey) (vs : List Value) (n : Nat) (s : Shared), NestedAll s.heap ks vs → NestedKey.depthAll ks ≤ n → ∀ v ∈ vs, SomeHB P w n s v
  | [], _, n, s, x, _, v, hv => by cases x; cases hv
  | k :: ks, _, n, s, x, hn, v, hv => by
    cases x with
    | cons x1 x2 =>
      simp only [NestedKey.depthAll] at hn
      rcases List.mem_cons.mp hv with e | hv
      · rw [e]; exact hb_key k _ n s x1 (by omega)
      · exact hb_keys ks _ n s x2 (by omega) v hv
end
variable {A : Around} {E : Value → Shared → Prop} {s : Shared}
/-- a search among keys shows nothing -/
theorem seen_key {k : NestedKey} {v : Value} {Q : Bool → Shared → Prop} (hk : NIs s.heap k v) {ys : List Value} (hy : ∀ y ∈ ys, ∃ k', NIs s.heap k' y) (h : Q false s) :
    wpAny (model P w) A (searchCouldBeSeen v ys) Q E s := by
  obtain ⟨⟨b, rfl⟩, hk1, hk2⟩ := hk
  unfold searchCouldBeSeen
  refine wpAny_bind ?_
  refine wpAny_forIn_list _ (fun rest r s' => r.1 = none ∧ s' = s ∧ ∀ y ∈ rest, ∃ k', NIs s.heap k' y) _ ?_ ?_ _ _ ⟨rfl, rfl, hy⟩
  · rintro v rest r s' ⟨hr, rfl, hall⟩
    obtain ⟨k', ⟨c, rfl⟩, hc1, hc2⟩ := hall v List.mem_cons_self
    have rest' : ∀ y ∈ rest, ∃ k', NIs s'.heap k' y := fun u hu' => hall u (List.mem_cons_of_mem _ hu')
    dsimp only
    by_cases hv : (b == c || (carriedByValue (.ref b) && carriedByValue (.ref c))) = true
    · refine wp_if_pos hv ?_
      exact wpAny_pure ⟨rfl, rfl, rest'⟩
    · refine wp_if_neg hv ?_
      refine wpAny_bind (quiet_key k _ 8 s' hk1 hk2 _ _ _ ?_)
      simp only [Bool.not_true, Bool.false_eq_true, if_false]
      refine wpAny_bind (quiet_key k' _ 8 s' hc1 hc2 _ _ _ ?_)
      simp only [Bool.not_true, Bool.false_eq_true, if_false]
      refine wpAny_bind (noCls_key k _ 8 s' hk1 hk2 _ _ _ ?_)
      simp only [Bool.false_eq_true, if_false]
      refine wpAny_bind (noCls_key k' _ 8 s' hc1 hc2 _ _ _ ?_)
      simp only [Bool.false_eq_true, if_false]
      exact wpAny_pure ⟨rfl, rfl, rest'⟩
  · rintro ⟨r1, r2⟩ s' ⟨hr, rfl, _⟩
    simp only at hr
    subst hr
    exact wpAny_pure h

/-! ### the set -/
abbrev nh (w : World) (k : NestedKey) : Int := k.hash w
def rows2 (w : World) (L : List (Value × NestedKey)) : List (Int × Value) := L.map fun p => (nh w p.2, p.1)
structure Set2 (w : World) (h : Heap) (a : Addr) (L : List (Value × NestedKey)) (es : Array (Int × Value)) (ep : Nat) (t : SetTable) : Prop where
  ob : ∃ o, h.get? a = some o ∧ o.ExactSet ∧ o.data = .set es ep t
  rows : es.toList = rows2 w L
  tab : TabOk t (L.map fun p => nh w p.2)
  nd : (L.map (·.2)).Nodup
  mem : ∀ p ∈ L, NIs h p.2 p.1
  led : w.params.followText "set-order" = true ∨ t.led = true
  room : L.length * 5 < t.mask * 3
variable {a : Addr} {L : List (Value × NestedKey)} {es : Array (Int × Value)} {ep : Nat} {t : SetTable}
theorem rows2_size {es : Array (Int × Value)} {L : List (Value × NestedKey)} (h : es.toList = rows2 w L) : es.size = L.length := by
  have h := congrArg List.length h
  unfold rows2 at h
  rw [Array.length_toList, List.length_map] at h
  exact h
theorem Set2.size {h : Heap} (R : Set2 w h a L es ep t) : es.size = L.length := rows2_size R.rows
theorem Set2.few {h : Heap} (R : Set2 w h a L es ep t) : L.length ≤ 76 := by
  have := R.room
  rcases R.tab.mok with e | e | e <;> omega
theorem Set2.fits {h : Heap} (R : Set2 w h a L es ep t) : t.fits es.size = true := by
  have h1 := R.tab.sz
  rw [List.length_map] at h1
  have h2 := R.size
  have h3 := R.room
  unfold SetTable.fits SetTable.fill
  rw [R.tab.dm, Bool.and_eq_true, beq_iff_eq, decide_eq_true_eq]
  show t.place.size = es.size ∧ t.place.size + 0 ≤ t.mask
  omega
theorem Set2.entry {h' : Heap} (R : Set2 w h' a L es ep t) {i : Nat} {p : Value × NestedKey} (h : L[i]? = some p) : es[i]? = some (nh w p.2, p.1) := by
  rw [← Array.getElem?_toList, R.rows]
  unfold rows2
  rw [List.getElem?_map, h] <;> rfl
theorem Set2.gw {h : Heap} (R : Set2 w h a L es ep t) : ¬ t.gaveWay = true := by
  unfold SetTable.gaveWay
  rw [mask_odd R.tab.mok]
  decide
theorem eqB_key {x y : NestedKey} {u v : Value} {Q : Bool → Shared → Prop} (hu : A.units + 20 < cLine) (hx : NIs s.heap x u) (hy : NIs s.heap y v) (h : Q (decide (x = y)) s) : wpAny (model P w) A (eqBool u v) Q E s :=
  eqAt_key x y A s _ _ hx.2.1 hy.2.1 (by have := hx.2.2; omega) _ _ _ _ (by rw [← NestedKey.decide_eq]; exact h)
theorem same_ref {v : Value} {Q : Bool → Shared → Prop} (hv : ∃ b, v = .ref b) (h : Q true s) : wpAny (model P w) A (isSame v v) Q E s := by
  obtain ⟨b, rfl⟩ := hv
  exact wpAny_isSame_ref_self h

theorem search2_from (R : Set2 w s.heap a L es ep t) {x : Value} {k : NestedKey} (hx : NIs s.heap k x) (hu : A.units + 20 < cLine) {K : Nat} (hKf : K < 10 * SetTable.turns t.mask)
    (hK : way t.mask (nh w k) K ∉ t.place.toList) (hKb : ∀ c, c < K → way t.mask (nh w k) c ∈ t.place.toList) {Q : SetFound → Shared → Prop}
    (hin : k ∈ L.map (·.2) → Q (.there none) s) (hout : k ∉ L.map (·.2) → Q (.free (way t.mask (nh w k) K) false) s) :
    ∀ (f c : Nat) (stand : Option SetTable.Probe), stand.getD (t.probeStart (nh w k)) = nth t.mask (runAt t.mask (SetTable.bits (nh w k) % (t.mask + 1)) (SetTable.bits (nh w k))) c → c ≤ K → K - c < f →
      (∀ (i : Nat) p, L[i]? = some p → p.2 = k → ∃ c', c ≤ c' ∧ c' < K ∧ t.place.toList[i]? = some (way t.mask (nh w k) c')) →
      wpAny (model P w) A (setSearchFrom a x (nh w k) true f stand) Q E s
  | 0, c, stand, _, _, hf, _ => absurd hf (Nat.not_lt_zero _)
  | f + 1, c, stand, hst, hc, hf, hre => by
    obtain ⟨o, ho, hex, hd⟩ := R.ob
    rw [setSearchFrom_succ]
    refine wpAny_bind (wpAny_setState_of ho hd R.fits ?_)
    dsimp only
    refine wp_if_neg R.gw ?_
    try refine wpAny_bind (wpAny_pure ?_)
    have hnd : (nth t.mask (runAt t.mask (SetTable.bits (nh w k) % (t.mask + 1)) (SetTable.bits (nh w k))) c).dummy = none := by
      have key : ∀ (n : Nat) (p : SetTable.Probe), p.dummy = none → (nth t.mask p n).dummy = none := by
        intro n
        induction n with
        | zero => intro p h; exact h
        | succ n ih =>
          intro p h
          refine ih (adv t.mask p) ?_
          unfold adv
          split <;> exact h
      exact key c _ rfl
    have sh : ∀ q, nth t.mask (nth t.mask (runAt t.mask (SetTable.bits (nh w k) % (t.mask + 1)) (SetTable.bits (nh w k))) c) q = nth t.mask (runAt t.mask (SetTable.bits (nh w k) % (t.mask + 1)) (SetTable.bits (nh w k))) (c + q) := fun q => (nth_add t.mask c _ q).symm
    have e1 : ∀ q, (nth t.mask (nth t.mask (runAt t.mask (SetTable.bits (nh w k) % (t.mask + 1)) (SetTable.bits (nh w k))) c) q).j = way t.mask (nh w k) (c + q) := fun q => congrArg SetTable.Probe.j (sh q)
    have spec := go_spec t R.tab.ris R.tab.dm (fun i => (es[i]?.map (·.1)).getD 0) (nh w k) (10 * SetTable.turns t.mask) (K - c) _ hnd (by omega)
      (fun q hq => by rw [e1]; exact hKb (c + q) (by omega)) (by rw [e1, show c + (K - c) = K by omega]; exact hK)
    have hashAt : ∀ (i : Nat) p, L[i]? = some p → (fun i => (es[i]?.map (·.1)).getD 0) i = nh w p.2 := fun i p hp => by
      show (es[i]?.map (·.1)).getD 0 = _
      rw [R.entry hp] <;> rfl
    rcases spec with ⟨q, i, hq, hi, hh, hno, hpr⟩ | ⟨hno, hpr⟩
    · have hpr' : t.probe (fun i => (es[i]?.map (·.1)).getD 0) (nh w k) (stand.getD (t.probeStart (nh w k))) = some (.candidate (way t.mask (nh w k) (c + q)) i (nth t.mask (runAt t.mask (SetTable.bits (nh w k) % (t.mask + 1)) (SetTable.bits (nh w k))) (c + (q + 1)))) := by
        rw [hst, ← e1, ← sh]
        exact hpr
      rw [hpr']
      dsimp only
      rw [e1] at hi
      have hil : i < L.length := by
        have h1 : i < t.place.toList.length := (List.getElem?_eq_some_iff.mp hi).1
        have h2 := R.tab.sz
        rw [List.length_map] at h2
        rw [Array.length_toList] at h1
        omega
      have hp : L[i]? = some L[i] := List.getElem?_eq_getElem hil
      generalize hpe : L[i] = p at hp
      have hmem : p ∈ L := List.mem_of_getElem? hp
      have hpt := R.mem p hmem
      have rest : wpAny (model P w) A (searchRest a x (nh w k) true f es t (way t.mask (nh w k) (c + q)) i (nth t.mask (runAt t.mask (SetTable.bits (nh w k) % (t.mask + 1)) (SetTable.bits (nh w k))) (c + (q + 1)))) Q E s := by
        unfold searchRest
        rw [R.entry hp]
        dsimp only
        refine wpAny_bind (wpAny_holding (eqB_key hu hpt hx ?_))
        refine wpAny_bind (wpAny_setState_of ho hd R.fits ?_)
        dsimp only
        by_cases hkk : p.2 = k
        · refine wp_if_pos (by simp [hkk]) ?_
          refine wpAny_pure (hin ?_)
          exact List.mem_map.mpr ⟨p, hmem, hkk⟩
        · refine wp_if_neg (by simp [hkk]) ?_
          try refine wpAny_bind (wpAny_pure ?_)
          rw [sameMem]
          dsimp only
          have hsl : t.slot (way t.mask (nh w k) (c + q)) = .live i := slot_live R.tab.ris hi
          simp only [if_true, hsl, R.entry hp]
          refine wpAny_bind (same_ref hpt.1 (wpAny_bind (wpAny_pure ?_)))
          simp only [if_true]
          refine wp_if_neg (by simp [hkk]) ?_
          refine search2_from R hx hu hKf hK hKb hin hout f (c + (q + 1)) _ rfl (by omega) (by omega) fun i0 p0 h0 hk0 => ?_
          obtain ⟨c', a1, a2, a3⟩ := hre i0 p0 h0 hk0
          refine ⟨c', ?_, a2, a3⟩
          rcases Nat.lt_or_ge c' (c + q) with z | z
          · exfalso
            refine hno (c' - c) i0 (by omega) (by rw [e1, show c + (c' - c) = c' by omega]; exact a3) ?_
            exact (hashAt i0 p0 h0).trans (congrArg (nh w) hk0)
          · rcases Nat.lt_or_ge (c + q) c' with y | y
            · omega
            · exfalso
              have ec : c' = c + q := Nat.le_antisymm y z
              rw [ec] at a3
              have s0 := slot_live R.tab.ris a3
              rw [hsl] at s0
              injection s0 with s0
              rw [← s0, hp] at h0
              exact hkk ((congrArg Prod.snd (Option.some.inj h0)).trans hk0)
      by_cases hl : t.led = true
      · refine wp_if_neg (by simp [hl]) ?_
        try refine wpAny_bind (wpAny_pure ?_)
        exact rest
      · refine wp_if_pos (by simp [hl]) ?_
        refine wpAny_bind (seen_key hx (fun y hy => ?_) ?_)
        · obtain ⟨e, he, ee⟩ := List.mem_map.mp hy
          have he1 : e ∈ es ∧ e.1 = nh w k := by simpa using he
          have he2 : e ∈ es.toList := by simpa using he1.1
          rw [R.rows] at he2
          obtain ⟨p2, hp2, e2⟩ := List.mem_map.mp he2
          refine ⟨p2.2, ?_⟩
          rw [← ee, ← e2]
          exact R.mem p2 hp2
        · refine wp_if_neg (by decide) ?_
          try refine wpAny_bind (wpAny_pure ?_)
          exact rest
    · have hpr' : t.probe (fun i => (es[i]?.map (·.1)).getD 0) (nh w k) (stand.getD (t.probeStart (nh w k))) = some (.empty (way t.mask (nh w k) K) none) := by
        have e2 : way t.mask (nh w k) K = (nth t.mask (nth t.mask (runAt t.mask (SetTable.bits (nh w k) % (t.mask + 1)) (SetTable.bits (nh w k))) c) (K - c)).j := by
          rw [e1, show c + (K - c) = K by omega]
        rw [hst, e2]
        exact hpr
      rw [hpr']
      dsimp only
      refine wpAny_pure (hout fun hm => ?_)
      obtain ⟨p0, h0, hk0⟩ := List.mem_map.mp hm
      obtain ⟨i0, hi0, e0⟩ := List.getElem_of_mem h0
      have h00 : L[i0]? = some p0 := by rw [List.getElem?_eq_getElem hi0, e0]
      obtain ⟨c', a1, a2, a3⟩ := hre i0 p0 h00 hk0
      refine hno (c' - c) i0 (by omega) (by rw [e1, show c + (c' - c) = c' by omega]; exact a3) ?_
      exact (hashAt i0 p0 h00).trans (congrArg (nh w) hk0)
theorem search2 (R : Set2 w s.heap a L es ep t) {x : Value} {k : NestedKey} (hx : NIs s.heap k x) (hu : A.units + 20 < cLine) {Q : SetFound → Shared → Prop}
    (hin : k ∈ L.map (·.2) → Q (.there none) s)
    (hout : ∀ K, k ∉ L.map (·.2) → way t.mask (nh w k) K ∉ t.place.toList → (∀ c, c < K → way t.mask (nh w k) c ∈ t.place.toList) → Q (.free (way t.mask (nh w k) K) false) s) :
    wpAny (model P w) A (setSearch a x (nh w k) true) Q E s := by
  have hroom := R.room
  obtain ⟨K, hKf, hK, hKb⟩ := R.tab.first (by rw [List.length_map]; omega) (nh w k)
  have hbig : K < 100000 := by
    have : 10 * SetTable.turns t.mask ≤ 1420 := by
      unfold SetTable.turns
      rcases R.tab.mok with e | e | e <;> omega
    omega
  unfold setSearch
  refine search2_from R hx hu hKf hK hKb hin (fun hn => hout K hn hK hKb) 100000 0 none rfl (Nat.zero_le _) (by omega) fun i p hp hk => ?_
  have hi : (L.map fun p => nh w p.2)[i]? = some (nh w k) := by rw [List.getElem?_map, hp, ← hk] <;> rfl
  have hil : i < t.place.toList.length := by
    have h1 : i < L.length := (List.getElem?_eq_some_iff.mp hp).1
    have h2 := R.tab.sz
    rw [List.length_map] at h2
    rw [Array.length_toList]
    omega
  have hj := List.getElem?_eq_getElem hil
  obtain ⟨c, hc, e⟩ := R.tab.before hK hi hj
  exact ⟨c, Nat.zero_le _, hc, by rw [hj, e]⟩
end
end Fz

set_option Elab.async false
set_option linter.all false
set_option autoImplicit false
set_option maxRecDepth 100000
/-! Part S3: adding a tuple to a set; the kind. -/
namespace Fz
open PySem PySem.Spec PyProof.Rows L2
section
variable {P : Program} {w : World} {A : Around} {E : Value → Shared → Prop} {s : Shared}
theorem order2 (L : List (Value × NestedKey)) (es : Array (Int × Value)) (order : Array Nat) (hr : es.toList = rows2 w L) (hp : order.toList.Perm (List.range L.length)) :
    ∃ L2, (order.filterMap (es[·]?)).toList = rows2 w L2 ∧ L2.Perm L ∧ (L2.map fun p => nh w p.2) = order.toList.map fun i => (es.map (·.1)).getD i 0 := by
  have hsz : es.size = L.length := rows2_size hr
  have ent : ∀ i (h : i < L.length), es[i]? = some (nh w (L[i]).2, (L[i]).1) := fun i h => by
    rw [← Array.getElem?_toList, hr]
    unfold rows2
    rw [List.getElem?_map, List.getElem?_eq_getElem h] <;> rfl
  have key : ∀ l : List Nat, (∀ i ∈ l, i < L.length) → ∃ L2 : List (Value × NestedKey), l.filterMap (fun i => es[i]?) = rows2 w L2 ∧ L2 = l.filterMap (fun i => L[i]?) ∧ (L2.map fun p => nh w p.2) = l.map fun i => (es.map (·.1)).getD i 0 := by
    intro l
    induction l with
    | nil => intro _; exact ⟨[], rfl, rfl, rfl⟩
    | cons i l ih =>
      intro hl
      have hi := hl i List.mem_cons_self
      obtain ⟨L2, e1, e2, e3⟩ := ih fun j hj => hl j (List.mem_cons_of_mem _ hj)
      refine ⟨L[i] :: L2, ?_, ?_, ?_⟩
      · rw [List.filterMap_cons_some (ent i hi), e1] <;> rfl
      · rw [List.filterMap_cons_some (List.getElem?_eq_getElem hi), e2]
      · rw [List.map_cons, List.map_cons, e3]
        have hi2 : i < (es.map (·.1)).size := by rw [Array.size_map, hsz]; exact hi
        have e4 : (es.map (·.1)).getD i 0 = nh w (L[i]).2 := by
          have e5 : (es.map (·.1))[i]? = some (nh w (L[i]).2) := by rw [Array.getElem?_map, ent i hi] <;> rfl
          simp [Array.getD_eq_getD_getElem?, e5]
        rw [e4]
  obtain ⟨L2, e1, e2, e3⟩ := key order.toList fun i hi => List.mem_range.mp (hp.mem_iff.mp hi)
  refine ⟨L2, by first | (rw [Array.toList_filterMap]; exact e1) | simpa using e1, ?_, e3⟩
  have h1 : L2.Perm ((List.range L.length).filterMap fun i => L[i]?) := by
    rw [e2]
    exact hp.filterMap _
  have h2 : (List.range L.length).filterMap (fun i => L[i]?) = L := by
    have key2 : ∀ n, n ≤ L.length → (List.range n).filterMap (fun i => L[i]?) = L.take n := by
      intro n
      induction n with
      | zero => intro _; rfl
      | succ n ih =>
        intro hn
        have hlt : n < L.length := hn
        rw [List.range_succ, List.filterMap_append, ih (Nat.le_of_lt hlt), List.take_succ, List.getElem?_eq_getElem hlt]
        rw [List.filterMap_cons_some (List.getElem?_eq_getElem hlt)] <;> rfl
    rw [key2 L.length (Nat.le_refl _), List.take_length]
  rw [h2] at h1
  exact h1
theorem rows2_put (L : List (Value × NestedKey)) (p : Nat) (x : Value) (k : NestedKey) : rows2 w (L.take p ++ (x, k) :: L.drop p) = (rows2 w L).take p ++ (nh w k, x) :: (rows2 w L).drop p := by
  unfold rows2
  rw [List.map_append, List.map_cons, List.map_take, List.map_drop]
variable {a : Addr} {L : List (Value × NestedKey)} {es : Array (Int × Value)} {ep : Nat} {t : SetTable}
theorem relay2 {o : Obj} (ho : s.heap.get? a = some o) (hex : o.ExactSet) (hd : o.data = .set es ep t) (hrows : es.toList = rows2 w L) (hsz : t.place.size = es.size) (hdm : t.dummies = #[]) (hfl : es.size ≤ t.mask)
    (nd : (L.map (·.2)).Nodup) (tup : ∀ p ∈ L, NIs s.heap p.2 p.1) (ld : w.params.followText "set-order" = true ∨ t.led = true) {wanted M : Nat}
    (hw : SetTable.sizeAbove wanted - 1 = M) (hM : MaskOk M) (hw2 : SetTable.sizeAbove wanted ≤ 128) (hn : L.length * 5 < M * 3) {Q : Unit → Shared → Prop}
    (hQ : ∀ h' L' es' ep' t', Heap.SameBut a s.heap h' → Set2 w h' a L' es' ep' t' → L'.Perm L → Q () { s with heap := h' }) : wpAny (model P w) A (setRelay a wanted) Q E s := by
  have hsl : es.size = L.length := rows2_size hrows
  have hfits : t.fits es.size = true := by
    unfold SetTable.fits SetTable.fill
    rw [hdm, Bool.and_eq_true, beq_iff_eq, decide_eq_true_eq]
    show t.place.size = es.size ∧ t.place.size + 0 ≤ t.mask
    omega
  have hM128 : M ≤ 127 := by rcases hM with e | e | e <;> omega
  obtain ⟨t', order, e, hp, T, em, el, ep', ed⟩ := relaid_ok t (hs := es.map (·.1)) (wanted := wanted) hw hM (by rw [Array.size_map, hsl]; omega)
  rw [Array.size_map, hsl] at hp
  obtain ⟨L2, r1, r2, r3⟩ := order2 L es order hrows hp
  rw [← r3] at T
  have hs2 : (order.filterMap (es[·]?)).size = es.size := by rw [rows2_size r1, r2.length_eq, hsl]
  rw [setRelay_eq]
  refine wpAny_bind (wpAny_setState_of ho hd hfits ?_)
  dsimp only
  refine wp_if_neg (by rw [sizeLine_eq]; omega) ?_
  try refine wpAny_bind (wpAny_pure ?_)
  rw [e]
  dsimp only
  refine wpAny_bind ?_
  refine wp_if_neg (by rw [hs2]; simp) ?_
  try refine wpAny_bind (wpAny_pure ?_)
  refine wpAny_pure ?_
  dsimp only
  refine wpAny_storeSet_of ho hd ?_ (by rw [hs2, hsl, sizeLine_eq]; omega)
  have sb : Heap.SameBut a s.heap (s.heap.update a (Obj.putSet (order.filterMap (es[·]?)) t')) := Heap.SameBut.update ..
  refine hQ _ L2 (order.filterMap (es[·]?)) (ep + 1) t' sb ?_ r2
  refine ⟨⟨_, store_at ho hd, ⟨hex.1, hex.2.1, hex.2.2⟩, rfl⟩, r1, T, ?_, fun p hpm => (tup p (r2.mem_iff.mp hpm)).sameBut ho hd sb, by rw [el]; exact ld, ?_⟩
  · exact (r2.map (·.2)).nodup_iff.mpr nd
  · rw [r2.length_eq, em]
    exact hn
theorem tab_plain {t : SetTable} {hs : List Int} {b : Bool} (T : TabOk t hs) : TabOk { t with plain := b } hs := ⟨T.ris, T.dm, T.sz, T.mok, T.bd, T.reach⟩

theorem add2 (R : Set2 w s.heap a L es ep t) {x : Value} {k : NestedKey} (hx : NIs s.heap k x) (hu : A.units + 20 < cLine) (hcap : L.length + 1 ≤ 76) {Q : Bool → Shared → Prop}
    (hQ : ∀ b h' L' es' ep' t', Heap.SameBut a s.heap h' → Set2 w h' a L' es' ep' t' → (k ∈ L.map (·.2) → L' = L) → (k ∉ L.map (·.2) → L'.Perm ((x, k) :: L)) → Q b { s with heap := h' }) :
    wpAny (model P w) A (setAddHashed a x (nh w k)) Q E s := by
  obtain ⟨o, ho, hex, hd⟩ := R.ob
  have hsl := R.size
  have hroom := R.room
  obtain ⟨⟨xa, rfl⟩, hx1, hx2⟩ := id hx
  unfold setAddHashed
  refine wpAny_holding ?_
  rw [show (100000 : Nat) = 99999 + 1 from rfl, setAddHashedIn_succ]
  refine wpAny_bind (wpAny_setState_of ho hd R.fits ?_)
  dsimp only
  refine wp_if_neg (by simp [byScan, Value.scannable]) ?_
  try refine wpAny_bind (wpAny_pure ?_)
  refine wpAny_bind (search2 R hx hu (fun hm => ?_) fun K hm hK hb => ?_)
  · dsimp only
    exact wpAny_pure (hQ false s.heap L es ep t (Heap.SameBut.refl a s.heap) R (fun _ => rfl) fun z => absurd hm z)
  · dsimp only
    refine wpAny_bind (wpAny_setState_of ho hd R.fits ?_)
    dsimp only
    obtain ⟨q1, q2, q3, q4, q5, q6, q7, q8, q9⟩ := R.tab.put hK hb
    generalize hpt : t.put (way t.mask (nh w k) K) = pt at q1 q3 q4 q5 q6 q7 q8 q9 ⊢
    obtain ⟨t1, p⟩ := pt
    dsimp only at q1 q3 q4 q5 q6 q7 q8 q9 ⊢
    subst q1
    -- what follows, for the table as it is marked
    have go : ∀ t2 : SetTable, TabOk t2 ((L.map fun p => nh w p.2).take (SetTable.below t.place (way t.mask (nh w k) K)) ++ nh w k :: (L.map fun p => nh w p.2).drop (SetTable.below t.place (way t.mask (nh w k) K))) →
        t2.mask = t.mask → t2.led = t.led → t2.fill = (L.map fun p => nh w p.2).length + 1 →
        wpAny (model P w) A (do
          storeSet a (SetTable.insertAt es (SetTable.below t.place (way t.mask (nh w k) K)) (nh w k, Value.ref xa)) t2
          if (!false && t2.tooFull) = true then do
              setRelay a (SetTable.grown (es.size + 1))
              pure true
            else pure true) Q E s := by
      intro t2 q3 q4 q5 q9
      have hin : (SetTable.insertAt es (SetTable.below t.place (way t.mask (nh w k) K)) (nh w k, Value.ref xa)).toList = rows2 w (L.take (SetTable.below t.place (way t.mask (nh w k) K)) ++ (Value.ref xa, k) :: L.drop (SetTable.below t.place (way t.mask (nh w k) K))) := by
        rw [SetTable.toList_insertAt, rows2_put, R.rows]
      generalize hpp : SetTable.below t.place (way t.mask (nh w k) K) = p at q2 q3 hin ⊢
      have pm := put_perm L p (Value.ref xa, k)
      have hlen : (L.take p ++ (Value.ref xa, k) :: L.drop p).length = L.length + 1 := pm.length_eq
      have hhs : (L.take p ++ (Value.ref xa, k) :: L.drop p).map (fun p => nh w p.2) = (L.map fun p => nh w p.2).take p ++ nh w k :: (L.map fun p => nh w p.2).drop p := by
        rw [List.map_append, List.map_cons, List.map_take, List.map_drop]
      rw [← hhs] at q3
      have nd1 : ((L.take p ++ (Value.ref xa, k) :: L.drop p).map (·.2)).Nodup := by
        refine (pm.map (·.2)).nodup_iff.mpr ?_
        rw [List.map_cons]
        exact List.nodup_cons.mpr ⟨hm, R.nd⟩
      have hes : (SetTable.insertAt es p (nh w k, Value.ref xa)).size = L.length + 1 := by rw [rows2_size hin, hlen]
      generalize SetTable.insertAt es p (nh w k, Value.ref xa) = es1 at hin hes ⊢
      generalize L.take p ++ (Value.ref xa, k) :: L.drop p = L1 at pm hlen q3 nd1 hin
      refine wpAny_bind (wpAny_storeSet_of ho hd ?_ (by rw [hes, sizeLine_eq]; omega))
      have sb : Heap.SameBut a s.heap (s.heap.update a (Obj.putSet es1 t2)) := Heap.SameBut.update ..
      have ho1 := store_at (es' := es1) (t' := t2) ho hd
      generalize s.heap.update a (Obj.putSet es1 t2) = h1 at sb ho1 ⊢
      have tup1 : ∀ p ∈ L1, NIs h1 p.2 p.1 := fun p hp => by
        rcases List.mem_cons.mp (pm.mem_iff.mp hp) with e | hp
        · rw [e]; exact hx.sameBut ho hd sb
        · exact (R.mem p hp).sameBut ho hd sb
      have ld1 : w.params.followText "set-order" = true ∨ t2.led = true := by rw [q5]; exact R.led
      by_cases hf : t2.tooFull = true
      · refine wp_if_pos (by simp [hf]) ?_
        refine wpAny_bind ?_
        have hfull : (L.length + 1) * 5 ≥ t2.mask * 3 := by
          have h := hf
          unfold SetTable.tooFull at h
          rw [decide_eq_true_eq, q9, List.length_map] at h
          exact h
        rw [hsl]
        have hsz1 : t2.place.size = es1.size := by
          have h := q3.sz
          rw [List.length_map, hlen] at h
          rw [h, hes]
        have cases2 : (t.mask = 7 ∧ L.length = 4) ∨ (t.mask = 31 ∧ L.length = 18) := by
          rcases R.tab.mok with e | e | e
          · left; rw [q4, e] at hfull; rw [e] at hroom; exact ⟨e, by omega⟩
          · right; rw [q4, e] at hfull; rw [e] at hroom; exact ⟨e, by omega⟩
          · exfalso; rw [q4, e] at hfull; omega
        have go2 : ∀ M, SetTable.sizeAbove (SetTable.grown (L.length + 1)) - 1 = M → MaskOk M → SetTable.sizeAbove (SetTable.grown (L.length + 1)) ≤ 128 → (L.length + 1) * 5 < M * 3 →
            wpAny (model P w) A (setRelay a (SetTable.grown (L.length + 1))) (fun _ s' => wpAny (model P w) A (pure true) Q E s') E { s with heap := h1 } := fun M h1' h2' h3' h4' => by
          refine relay2 (s := { s with heap := h1 }) ho1 ⟨hex.1, hex.2.1, hex.2.2⟩ rfl hin hsz1 q3.dm (by rw [hes, q4]; rcases cases2 with ⟨e, e2⟩ | ⟨e, e2⟩ <;> omega) nd1 tup1 ld1 h1' h2' h3' (by rw [hlen]; exact h4') ?_
          intro h2 L2 es2 ep2 t3 sb2 R2 pm2
          exact wpAny_pure (hQ true h2 L2 es2 ep2 t3 (sb.trans sb2) R2 (fun z => absurd z hm) fun _ => pm2.trans pm)
        rcases cases2 with ⟨_, e2⟩ | ⟨_, e2⟩
        · refine go2 31 (by rw [e2, size_20]) (.inr (.inl rfl)) (by rw [e2, size_20]; decide) (by omega)
        · refine go2 127 (by rw [e2, size_76]) (.inr (.inr rfl)) (by rw [e2, size_76]; decide) (by omega)
      · refine wp_if_neg (by simp [hf]) ?_
        refine wpAny_pure (hQ true h1 L1 es1 (ep + 1) t2 sb ⟨⟨_, ho1, ⟨hex.1, hex.2.1, hex.2.2⟩, rfl⟩, hin, q3, nd1, tup1, ld1, ?_⟩ (fun z => absurd z hm) fun _ => pm)
        have h := hf
        unfold SetTable.tooFull at h
        rw [decide_eq_true_eq, q9, List.length_map] at h
        rw [hlen]
        omega
    by_cases hp1 : t1.plain = true
    · first
        | (refine wpAny_bind ?_; refine wp_if_pos hp1 ?_; refine hb_key k _ 8 s hx1 hx2 _ _ _ fun b => ?_)
        | refine wp_if_pos hp1 (wpAny_bind (hb_key k _ 8 s hx1 hx2 _ _ _ fun b => ?_))
      cases b
      · simp only [Bool.false_eq_true, if_false]
        exact go { t1 with plain := false } (tab_plain q3) q4 q5 q9
      · simp only [if_true]
        exact go t1 q3 q4 q5 q9
    · first
        | (refine wpAny_bind ?_; refine wp_if_neg hp1 ?_; refine wpAny_pure ?_)
        | refine wp_if_neg hp1 (wpAny_bind (wpAny_pure ?_))
      simp only [if_true]
      exact go t1 q3 q4 q5 q9
end
def th2 (P : Program) (w : World) : STh P w NestedKey where
  is := NIs
  hash := nh w
  cap := 76
  Rep := fun h a L => ∃ es ep t, Set2 w h a L es ep t
  keep := fun h k => h.keep k
  pyHash := fun {A E s k v Q} hu hk h => pyHash_key k v A s Q hk.2.1 (by have := hk.2.2; omega) (h _)
  raw := fun {h a L} ⟨es, ep, t, R⟩ => by
    obtain ⟨o, ho, hex, hd⟩ := R.ob
    exact ⟨es, ep, t, ⟨o, ho, hex.1, hd⟩, R.fits, by rw [R.size]; have := R.few; unfold scanBound; omega, R.tab.ris, R.led, by rw [R.rows]; unfold rows2; rw [List.map_map]; rfl⟩
  nd := fun {h a L} ⟨es, ep, t, R⟩ => R.nd
  keepR := fun {h h' a L} ⟨es, ep, t, R⟩ k hm => by
    obtain ⟨o, ho, r⟩ := R.ob
    exact ⟨es, ep, t, ⟨o, k o ho, r⟩, R.rows, R.tab, R.nd, hm, R.led, R.room⟩
  fresh := fun {h a} ho => ⟨#[], 0, _, {
    ob := ⟨_, ho, ⟨rfl, rfl, rfl⟩, rfl⟩
    rows := rfl
    tab := ⟨List.Pairwise.nil, rfl, rfl, .inl rfl, fun x hx => (by cases hx), fun i h j hi => (by simp at hi)⟩
    nd := List.nodup_nil
    mem := fun p hp => (by cases hp)
    led := by
      show _ ∨ (!w.params.followText "set-order") = true
      cases w.params.followText "set-order"
      · exact .inr rfl
      · exact .inl rfl
    room := by show 0 * 5 < 7 * 3; decide }⟩
  add := fun {A E s a L x k Q} hu ⟨es, ep, t, R⟩ hx room hQ => add2 R hx hu room fun b h' L' es' ep' t' sb R' c1 c2 => hQ b h' L' sb ⟨es', ep', t', R'⟩ c1 c2
end Fz

set_option Elab.async false
set_option linter.all false
set_option autoImplicit false
set_option maxRecDepth 100000
/-! Part T: set(xs), sorted(set(xs)), len(set(xs)), sorted(xs) of data. -/
namespace Fz
open PySem PySem.Spec PyProof.Rows L2
variable [TabT]
section
variable {X : Cx} {pins : List (Addr × Obj)} {σ : L2.St} {H : Hp} {s : Shared} {Q : VK} {O : List Addr}
/-- sorted(x), from what gathering x's items gives -/
theorem sorted_from {a : Addr} {us : List Value} {vs : List V} {ds : List D} (hu : X.A.units + 64 < cLine) (I : Inv X pins σ H s) (L : Lsts H O)
    (col : ∀ (E : Value → Shared → Prop) (Q' : List Value → Shared → Prop), (∀ s1 out, (∀ b o, s.heap.get? b = some o → s1.heap.get? b = some o) → s1.gens = s.gens → s1.os = s.os → out.Perm us → Q' out s1) →
      wpAny (model X.prog X.w) X.A.in1 (collect (.ref a)) Q' E s)
    (rv : Vals vs us) (r1 : RpAll X.K (hide H O) vs ds) (z : ds.length ≤ sizeLine) (hs : sortable ds = true)
    (q : ∀ v H', Same H H' → Rp X.K (hide H' O) v (.list (isort ds)) → Q v H') : wpAny (model X.prog X.w) X.A (call (.builtin "sorted") [.ref a]) (EP X pins σ Q) X.xe s := by
  refine Calls.call_function_entry kind_sorted plain_sorted entry_sorted (args_sorted1 _) ?_
  unfold Builtin.«sorted»
  refine wpAny_bind (m := checkCount "sorted" 1 1 _) (wpAny_pure ?_)
  refine wpAny_bind (col _ _ fun s1 out k1 g1 o1 pm => ?_)
  -- the items in their new order
  obtain ⟨es2, e2⟩ : ∃ es2 : List D, PySem.W.EachIs (fun u (d : D) => (∃ v, RelV v u ∧ Rp X.K (hide H O) v d) ∧ ∃ as, Reads s.heap u d as) out es2 ∧ es2.Perm ds := by
    obtain ⟨er, e⟩ := readsAll_of I r1 rv
    have both : PySem.W.EachIs (fun u (d : D) => (∃ v, RelV v u ∧ Rp X.K (hide H O) v d) ∧ ∃ as, Reads s.heap u d as) us ds := by
      have go : ∀ {us : List Value} {ds : List D}, PySem.W.EachIs (fun u (d : D) => ∃ as, Reads s.heap u d as) us ds → PySem.W.EachIs (fun u (d : D) => ∃ v, RelV v u ∧ Rp X.K (hide H O) v d) us ds →
          PySem.W.EachIs (fun u (d : D) => (∃ v, RelV v u ∧ Rp X.K (hide H O) v d) ∧ ∃ as, Reads s.heap u d as) us ds := by
        intro us ds h1 h2
        induction h1 with
        | nil => exact .nil
        | cons a _ ih => cases h2 with | cons b t => exact .cons ⟨b, a⟩ (ih t)
      exact go er e
    have perm : ∀ {us out : List Value}, out.Perm us → ∀ {ds : List D}, PySem.W.EachIs (fun u (d : D) => (∃ v, RelV v u ∧ Rp X.K (hide H O) v d) ∧ ∃ as, Reads s.heap u d as) us ds →
        ∃ es2 : List D, PySem.W.EachIs (fun u (d : D) => (∃ v, RelV v u ∧ Rp X.K (hide H O) v d) ∧ ∃ as, Reads s.heap u d as) out es2 ∧ es2.Perm ds := by
      intro us out p
      induction p with
      | nil => intro ds h; cases h; exact ⟨[], .nil, .refl _⟩
      | cons x _ ih =>
        intro ds h
        cases h with
        | cons a t => obtain ⟨e2, h1, h2⟩ := ih t; exact ⟨_ :: e2, .cons a h1, h2.cons _⟩
      | swap x y l =>
        intro ds h
        cases h with
        | cons a t => cases t with | cons b t => exact ⟨_ :: _ :: _, .cons b (.cons a t), .swap _ _ _⟩
      | trans _ _ ih1 ih2 =>
        intro ds h
        obtain ⟨e2, h1, h2⟩ := ih2 h
        obtain ⟨e1, h3, h4⟩ := ih1 h1
        exact ⟨e1, h3, h4.trans h2⟩
    exact perm pm both
  obtain ⟨e2, pd⟩ := e2
  have hlen : out.length ≤ sizeLine := by rw [e2.length, pd.length_eq]; exact z
  refine wpAny_bind (wpAny_newList ?_ hlen)
  have hoL : (s1.heap.push (seqObj "list" out.toArray 0)).get? s1.heap.objs.size = some (seqObj "list" out.toArray 0) := Heap.get?_push_size _ rfl
  have al := sortable_alike hs
  have al2 : PySem.W.AllAlike es2 := fun d hd d' hd' => al d (pd.mem_iff.mp hd) d' (pd.mem_iff.mp hd')
  have so2 : PySem.W.Sortable es2 := by
    rcases sortable_kind hs with h | h
    · exact .inl fun d hd => h d (pd.mem_iff.mp hd)
    · exact .inr fun d hd => h d (pd.mem_iff.mp hd)
  have er2 : PySem.W.EachIs (fun u (d : D) => ∃ as, Reads (s1.heap.push (seqObj "list" out.toArray 0)) u (id d) as ∧ s1.heap.objs.size ∉ as) out es2 := e2.mono fun u d ⟨_, as, r⟩ => by
    have r1 : Reads s1.heap u d as := PyProof.Rows.Reads.keeps k1 r
    refine ⟨as, PyProof.Rows.Reads.keeps (fun _ _ q => Heap.get?_push_of_some _ q) r1, fun hm => ?_⟩
    obtain ⟨o, ho⟩ := PyProof.On.reads_mem_get r1 _ hm
    exact absurd (Heap.lt_size ho) (Nat.lt_irrefl _)
  refine wpAny_bind (wpAny_holding (PySem.W.list_sort_data (s := { s1 with heap := s1.heap.push (seqObj "list" out.toArray 0) }) (β := D) (enc := id) (R := fun u d => ∃ v, RelV v u ∧ Rp X.K (hide H O) v d) hoL (e2.mono fun u d h => h.1) er2
    (by rw [id_map]; exact al2) (by rw [id_map]; exact so2) (by rw [pd.length_eq]; exact z) (fun b hb => ?_) fun res hres ho => ?_))
  · have := depth_le hs b (pd.mem_iff.mp hb)
    show X.A.units + 1 + 1 + b.depth < cLine
    omega
  · have ho2 : PySem.W.EachIs (fun u (d : D) => ∃ v, RelV v u ∧ Rp X.K (hide H O) v d) res (isort ds) := by
      rw [← isort_merge al pd]; exact ho
    obtain ⟨ws, a2, b2⟩ := each_back ho2
    obtain ⟨c, hc⟩ := sortedHeap_at (vs := out) (out := res.toArray) hoL
    have hz2 : (isort ds).length ≤ sizeLine := by rw [isort_length]; exact z
    obtain ⟨h1, g, dr, tk, os⟩ := s1
    obtain ⟨h0, g0, dr0, tk0, os0⟩ := s
    dsimp only at k1 g1 o1 hc hoL ⊢
    subst g1 o1
    have I1 : Inv X pins σ H { heap := h1, gens := g, drawn := dr0, toks := tk, os := os } := I.kept (t' := tk) k1
    have hn : H h1.objs.size = none := I1.hok.fresh (Nat.le_refl _)
    refine wpAny_pure ⟨_, rfl, .ref h1.objs.size, upd H h1.objs.size (.lst ws), ?_, rfl, q _ _ (same_upd hn) (rp_newL L hn b2 hz2)⟩
    have I2 : Inv X pins σ (upd H h1.objs.size (.lst ws)) { heap := sortedHeap (h1.push (seqObj "list" out.toArray 0)) h1.objs.size out res.toArray, gens := g, drawn := dr0, toks := tk, os := os } :=
      I1.laid (t' := tk) (fun b u e => by
        have hlt := Heap.lt_size e
        show (sortedHeap (h1.push (seqObj "list" out.toArray 0)) h1.objs.size out res.toArray).get? b = some u
        rw [sortedHeap_old (Nat.ne_of_lt hlt) (by rw [size_push']; exact Nat.lt_succ_of_lt hlt)]
        exact Heap.get?_push_of_some _ e) (Nat.le_refl _) ⟨by rw [b2.length]; exact hz2, res, c, a2, hc⟩
    exact ⟨I2.ok, I2.os, I2.bare, I2.base, I2.loc, I2.cell, I2.free, I2.freeC, I2.pin, I2.hok, I2.len⟩
theorem sorted_ok (hu : X.A.units + 64 < cLine) : O1ok X (.builtin "sorted") (o1 .sorted) := by
  intro pins s σ H xs us Q I r h
  obtain ⟨O, x, d1, d, rfl, L, v1, e, q⟩ := h
  cases d1 <;> try (cases e)
  · rename_i ds
    obtain ⟨a, vs, rfl, s1, r1, z1⟩ := v1.list
    obtain ⟨hs, rfl⟩ := sortD_ok e
    rw [Vals.ref1 r]
    obtain ⟨its, rv, pl, _⟩ := I.list s1
    exact sorted_run hu I L pl.isList rv r1 z1 hs q
  · rename_i ds
    obtain ⟨a, vs, rfl, s1, r1, z1⟩ := v1.tuple
    obtain ⟨hs, rfl⟩ := sortD_ok e
    rw [Vals.ref1 r]
    obtain ⟨its, rv, ⟨o, ho, hc, n, hd⟩, hz⟩ := I.tuple (sqT_same ex_hide s1)
    have hl := rv.length
    refine sorted_from (us := its) hu I L (fun E Q' hq => ?_) rv r1 z1 hs q
    refine wpAny_collect_seq a (.inr rfl) ho hc hd (fun h' k => ?_) (by simp only [List.size_toArray]; omega)
    exact hq _ _ k rfl rfl (by simp)

/-! ### keys -/
mutual
def nk : D → NestedKey
  | .none => .none
  | .bool b => .num (if b = true then 1 else 0)
  | .int i => .num i
  | .str x => .text x
  | .tuple xs => .tup (nks xs)
  | _ => .none
def nks : List D → List NestedKey
  | [] => []
  | x :: r => nk x :: nks r
end
mutual
theorem nk_depth : ∀ d : D, keyOk d = true → (nk d).depth = d.depth
  | .none, _ => by simp [nk, NestedKey.depth, PyData.depth]
  | .bool _, _ => by simp [nk, NestedKey.depth, PyData.depth]
  | .int _, _ => by simp [nk, NestedKey.depth, PyData.depth]
  | .str _, _ => by simp [nk, NestedKey.depth, PyData.depth]
  | .tuple xs, h => by simp only [nk, NestedKey.depth, PyData.depth]; rw [nks_depth xs (by simpa [keyOk] using h)]
  | .list _, h => by simp [keyOk] at h
  | .dict _, h => by simp [keyOk] at h
theorem nks_depth : ∀ xs : List D, keyOks xs = true → NestedKey.depthAll (nks xs) = PyData.depthAll xs
  | [], _ => by simp [nks, NestedKey.depthAll, PyData.depthAll]
  | x :: r, h => by
    simp only [keyOks, Bool.and_eq_true] at h
    simp only [nks, NestedKey.depthAll, PyData.depthAll]
    rw [nk_depth x h.1, nks_depth r h.2]
end
theorem b01 (a b : Bool) : ((if a = true then (1 : Int) else 0) = (if b = true then 1 else 0)) ↔ a = b := by cases a <;> cases b <;> simp
mutual
theorem nk_eqv : ∀ a b : D, keyOk a = true → keyOk b = true → PyData.eqv a b = NestedKey.beq (nk a) (nk b)
  | .none, b, _, hb => by cases b <;> first | rfl | (simp [keyOk] at hb; done)
  | .bool x, b, _, hb => by
    cases b <;> first | (simp [keyOk] at hb; done) | rfl | (rename_i y; cases x <;> cases y <;> rfl) | (simp only [PyData.eqv, nk, NestedKey.beq]; rw [Bool.beq_eq_decide_eq])
  | .int x, b, _, hb => by
    cases b <;> first | (simp [keyOk] at hb; done) | rfl | (simp only [PyData.eqv, nk, NestedKey.beq]; rw [Bool.beq_eq_decide_eq])
  | .str x, b, _, hb => by
    cases b <;> first | (simp [keyOk] at hb; done) | rfl | (simp only [PyData.eqv, nk, NestedKey.beq]; rw [Bool.beq_eq_decide_eq])
  | .tuple xs, b, ha, hb => by
    cases b <;> first | (simp [keyOk] at hb; done) | rfl | skip
    rename_i ys
    simp only [PyData.eqv, nk, NestedKey.beq]
    exact nks_eqv xs ys (by simpa [keyOk] using ha) (by simpa [keyOk] using hb)
  | .list _, _, h, _ => by simp [keyOk] at h
  | .dict _, _, h, _ => by simp [keyOk] at h
theorem nks_eqv : ∀ xs ys : List D, keyOks xs = true → keyOks ys = true → PyData.eqvAll xs ys = NestedKey.beqAll (nks xs) (nks ys)
  | [], ys, _, _ => by cases ys <;> simp [nks, PyData.eqvAll, NestedKey.beqAll]
  | x :: xs, ys, ha, hb => by
    cases ys with
    | nil => simp [nks, PyData.eqvAll, NestedKey.beqAll]
    | cons y ys =>
      simp only [keyOks, Bool.and_eq_true] at ha hb
      simp only [nks, PyData.eqvAll, NestedKey.beqAll]
      rw [nk_eqv x y ha.1 hb.1, nks_eqv xs ys ha.2 hb.2]
end
theorem nk_eq {a b : D} (ha : keyOk a = true) (hb : keyOk b = true) : PyData.eqv a b = true ↔ nk a = nk b := by
  rw [nk_eqv a b ha hb, ← NestedKey.decide_eq, decide_eq_true_eq]
mutual
theorem nk_is (I : Inv X pins σ H s) : ∀ (d : D) (v : V) (u : Value), Rp X.K H v d → RelV v u → keyOk d = true → NestedIs s.heap (nk d) u
  | .none, _, _, h, r, _ => by cases h; cases r; exact .none
  | .bool b, _, _, h, r, _ => by cases h; cases r; exact .bool rfl
  | .int i, _, _, h, r, _ => by cases h; obtain ⟨t, rfl⟩ := r; exact .int i t
  | .str x, _, _, h, r, _ => by
    obtain ⟨rfl, _⟩ := h.str_of
    obtain ⟨t, rfl⟩ := r
    exact .text x t
  | .tuple xs, _, _, h, r, hk => by
    cases h with
    | tup q ra _ =>
      cases r
      obtain ⟨its, rv, ⟨o, ho, hc, n, hd⟩, _⟩ := I.tuple q
      exact .tup ho hc hd (by simpa using nks_is I xs _ _ ra rv (by simpa [keyOk] using hk))
  | .list _, _, _, _, _, hk => by simp [keyOk] at hk
  | .dict _, _, _, _, _, hk => by simp [keyOk] at hk
theorem nks_is (I : Inv X pins σ H s) : ∀ (ds : List D) (vs : List V) (us : List Value), RpAll X.K H vs ds → Vals vs us → keyOks ds = true → NestedAll s.heap (nks ds) us
  | [], _, _, h, r, _ => by cases h; cases r; exact .nil
  | d :: ds, _, _, h, r, hk => by
    cases h with
    | cons h1 h2 =>
      cases r with
      | cons r1 r2 =>
        simp only [keyOks, Bool.and_eq_true] at hk
        exact .cons (nk_is I d _ _ h1 r1 hk.1) (nks_is I ds _ _ h2 r2 hk.2)
end
def k1 : D → L2.Key
  | .int i => .inl i
  | .str x => .inr x
  | _ => .inl 0
theorem k1_eq {a b : D} (ha : flatKey a = true) (hb : flatKey b = true) : PyData.eqv a b = true ↔ k1 a = k1 b := by
  cases a <;> first | (simp [flatKey] at ha; done) | skip
  all_goals cases b <;> first | (simp [flatKey] at hb; done) | skip
  all_goals simp [PyData.eqv, k1]
theorem k1_is {K : Fr'} {H : Hp} {d : D} {v : V} {u : Value} (h : Rp K H v d) (r : RelV v u) (hk : flatKey d = true) : KIs (k1 d) u := by
  cases d <;> first | (simp [flatKey] at hk; done) | skip
  · cases h; obtain ⟨t, rfl⟩ := r; exact keyIs_int _ _
  · obtain ⟨rfl, _⟩ := h.str_of
    obtain ⟨t, rfl⟩ := r
    exact keyIs_str _ _

/-! ### the first of each -/
section
variable {κ : Type} {key : D → κ}
theorem firsts_spec : ∀ (ds acc : List D), (∀ a ∈ acc ++ ds, ∀ b ∈ acc ++ ds, PyData.eqv a b = true ↔ key a = key b) → (acc.map key).Nodup →
    ((firsts acc ds).map key).Nodup ∧ (∀ k, k ∈ (firsts acc ds).map key ↔ k ∈ acc.map key ∨ k ∈ ds.map key) ∧ ∀ d ∈ firsts acc ds, d ∈ acc ++ ds
  | [], acc, _, nd => ⟨nd, fun k => by simp [firsts], fun d h => by simpa [firsts] using h⟩
  | x :: r, acc, hk, nd => by
    have hx : x ∈ acc ++ x :: r := by simp
    unfold firsts
    by_cases hm : acc.any (fun y => PyData.eqv y x) = true
    · rw [if_pos hm]
      obtain ⟨a1, a2, a3⟩ := firsts_spec r acc (fun a ha b hb => hk a (by grind) b (by grind)) nd
      obtain ⟨y, hy, e⟩ := List.any_eq_true.mp hm
      have ek : key y = key x := (hk y (by simp [hy]) x hx).mp e
      refine ⟨a1, fun k => ?_, fun d hd => ?_⟩
      · rw [a2 k, List.map_cons, List.mem_cons]
        constructor
        · rintro (h | h)
          · exact .inl h
          · exact .inr (.inr h)
        · rintro (h | h | h)
          · exact .inl h
          · exact .inl (by rw [h, ← ek]; exact List.mem_map.mpr ⟨y, hy, rfl⟩)
          · exact .inr h
      · have := a3 d hd
        grind
    · rw [if_neg hm]
      have nx : key x ∉ acc.map key := fun z => by
        obtain ⟨y, hy, e⟩ := List.mem_map.mp z
        exact hm (List.any_eq_true.mpr ⟨y, hy, (hk y (by simp [hy]) x hx).mpr e⟩)
      have nd2 : ((acc ++ [x]).map key).Nodup := by
        rw [List.map_append, List.nodup_append]
        refine ⟨nd, by simp, fun a ha b hb => ?_⟩
        simp at hb
        subst hb
        intro z; subst z; exact nx ha
      obtain ⟨a1, a2, a3⟩ := firsts_spec r (acc ++ [x]) (fun a ha b hb => hk a (by grind) b (by grind)) nd2
      refine ⟨a1, fun k => ?_, fun d hd => ?_⟩
      · rw [a2 k]
        simp only [List.map_append, List.mem_append, List.map_cons, List.map_nil, List.mem_cons, List.not_mem_nil, or_false]
        grind
      · have := a3 d hd
        grind
end
end
end Fz

set_option Elab.async false
set_option linter.all false
set_option autoImplicit false
set_option maxRecDepth 100000
/-! Part U: the calls set(xs), sorted(set), len(set). -/
namespace Fz
open PySem PySem.Spec PyProof.Rows L2
variable [TabT]
/-- the object o is a set whose members stand for ds -/
def SetDat (w : World) (K : Fr') (H : Hp) (o : Obj) (ds : List D) : Prop :=
  ∃ es ep t vs, o.cls = .type "set" ∧ o.data = .set es ep t ∧ t.fits es.size = true ∧ es.size < scanBound ∧ Ris t.place.toList ∧ (w.params.followText "set-order" = true ∨ t.led = true) ∧
    Vals vs (es.toList.map (·.2)) ∧ RpAll K H vs ds
def setAt (a : Addr) (o : Obj) : HO := .ext fun h => h.get? a = some o
theorem SetDat.mono {w : World} {K : Fr'} {H H' : Hp} {o : Obj} {ds : List D} (h : SetDat w K H o ds) (e : Ex H H') : SetDat w K H' o ds := by
  obtain ⟨es, ep, t, vs, h1, h2, h3, h4, h5, h6, h7, h8⟩ := h
  exact ⟨es, ep, t, vs, h1, h2, h3, h4, h5, h6, h7, h8.mono e⟩
theorem setAt_ok {P : Program} {w : World} {H : Hp} {h : Heap} {a : Addr} {o : Obj} (e : h.get? a = some o) : ObjOk P w H h a (setAt a o) :=
  ⟨e, ⟨o, e⟩, fun h1 h2 p k => k o p⟩
theorem sortable_sub {ds es : List D} (h : sortable ds = true) (s : ∀ d ∈ es, d ∈ ds) : sortable es = true := by
  unfold sortable alikeAmong at h ⊢
  simp only [Bool.and_eq_true, Bool.or_eq_true, List.all_eq_true, decide_eq_true_eq] at h ⊢
  refine ⟨⟨fun x hx y hy => h.1.1 x (s x hx) y (s y hy), ?_⟩, fun x hx => h.2 x (s x hx)⟩
  rcases h.1.2 with q | q
  · exact .inl fun x hx => q x (s x hx)
  · exact .inr fun x hx => q x (s x hx)

section
variable {X : Cx} {pins : List (Addr × Obj)} {σ : L2.St} {H : Hp} {s : Shared} {Q : VK} {O : List Addr} {κ : Type}
/-- members with their keys -/
theorem pick_rows {key : D → κ} {us : List Value} {vs : List V} {ds : List D} (rv : Vals vs us) (r1 : RpAll X.K (hide H O) vs ds) :
    ∀ (L : List (Value × κ)), (∀ p ∈ L, p ∈ us.zip (ds.map key)) → ∃ vs' ds', Vals vs' (L.map (·.1)) ∧ RpAll X.K (hide H O) vs' ds' ∧ ds'.map key = L.map (·.2) ∧ ∀ d ∈ ds', d ∈ ds
  | [], _ => ⟨[], [], .nil, .nil, rfl, fun _ h => by cases h⟩
  | p :: L, h => by
    obtain ⟨vs', ds', a1, a2, a3, a4⟩ := pick_rows rv r1 L fun q hq => h q (List.mem_cons_of_mem _ hq)
    obtain ⟨i, hi, e⟩ := List.getElem_of_mem (h p List.mem_cons_self)
    have hi1 : i < us.length := by simp at hi; omega
    have hi2 : i < ds.length := by simp at hi; omega
    have e' : us[i] = p.1 ∧ key ds[i] = p.2 := by
      rw [List.getElem_zip, List.getElem_map] at e
      rw [← e]
      exact ⟨rfl, rfl⟩
    obtain ⟨v, hv, rp⟩ := r1.get (List.getElem?_eq_getElem hi2)
    obtain ⟨u, hu, rel⟩ := rv.get hv
    have eu : u = p.1 := by
      rw [List.getElem?_eq_getElem hi1] at hu
      exact (Option.some.inj hu).symm.trans e'.1
    refine ⟨v :: vs', ds[i] :: ds', ?_, .cons rp a2, ?_, fun d hd => ?_⟩
    · rw [List.map_cons]; exact .cons (eu ▸ rel) a1
    · rw [List.map_cons, List.map_cons, a3, e'.2]
    · rcases List.mem_cons.mp hd with rfl | hd
      · exact List.getElem_mem _
      · exact a4 d hd
/-- set(xs), over a kind of members -/
theorem set_of (T : STh X.prog X.w κ) (key : D → κ) {l : Addr} {its : List Value} {vs : List V} {ds : List D} (hc : X.calm = true) (hu : X.A.units + 64 < cLine) (I : Inv X pins σ H s)
    (hl : s.heap.IsList l its.toArray ∨ s.heap.IsTuple l its.toArray) (rv : Vals vs its) (r1 : RpAll X.K (hide H O) vs ds)
    (hk : ∀ v u d, Rp X.K (hide H O) v d → RelV v u → d ∈ ds → T.is s.heap (key d) u) (hcap : ds.length ≤ T.cap) (hq : ∀ a ∈ ds, ∀ b ∈ ds, PyData.eqv a b = true ↔ key a = key b)
    (q : ∀ a o ds', H a = none → SetDat X.w X.K (hide H O) o ds' → ds'.length = (firsts [] ds).length → (∀ d ∈ ds', d ∈ ds) → (PySem.W.AllAlike ds → ds'.Perm (firsts [] ds)) → Q (.ref a) (upd H a (setAt a o))) :
    wpAny (model X.prog X.w) X.A (call (.type "set") [.ref l]) (EP X pins σ Q) X.xe s := by
  have n1 := r1.length
  have n2 := rv.length
  have hz : (its.zip (ds.map key)).map (·.1) = its := List.map_fst_zip (by simp; omega)
  have hz2 : (its.zip (ds.map key)).map (·.2) = ds.map key := List.map_snd_zip (by simp; omega)
  refine set_call T (items := its.toArray) (its.zip (ds.map key)) (I.ok.hd hc) hl (by rw [hz]) (fun p hp => ?_) (by simp; omega) (by omega) fun h' tk L R g k => ?_
  · obtain ⟨i, hi, e⟩ := List.getElem_of_mem hp
    have hi1 : i < its.length := by simp at hi; omega
    have hi2 : i < ds.length := by simp at hi; omega
    rw [List.getElem_zip, List.getElem_map] at e
    obtain ⟨v, hv, rp⟩ := r1.get (List.getElem?_eq_getElem hi2)
    obtain ⟨u, hu', rel⟩ := rv.get hv
    rw [List.getElem?_eq_getElem hi1] at hu'
    rw [← e]
    exact hk v _ _ rp ((Option.some.inj hu').symm ▸ rel) (List.getElem_mem _)
  · have g' : ∀ p ∈ L, p ∈ its.zip (ds.map key) := fun p hp => List.mem_of_mem_take (g.sub p hp)
    obtain ⟨vs', ds', a1, a2, a3, a4⟩ := pick_rows (X := X) rv r1 L g'
    obtain ⟨es, ep, t, ⟨o, ho, hcl, hd⟩, hf, hsz, hr, hled, hrows⟩ := T.raw R
    have nd := T.nd R
    obtain ⟨f1, f2, f3⟩ := firsts_spec (key := key) ds [] (by simpa using hq) (by simp)
    have mem : ∀ x, x ∈ ds'.map key ↔ x ∈ (firsts [] ds).map key := fun x => by
      rw [f2 x, a3]
      simp only [List.map_nil, List.not_mem_nil, false_or]
      constructor
      · intro hx
        obtain ⟨p, hp, rfl⟩ := List.mem_map.mp hx
        rw [← hz2]
        exact List.mem_map.mpr ⟨p, g' p hp, rfl⟩
      · intro hx
        rw [← hz2] at hx
        obtain ⟨p, hp, rfl⟩ := List.mem_map.mp hx
        exact g.all p (by rw [List.take_length]; exact hp)
    have nd' : (ds'.map key).Nodup := by rw [a3]; exact nd
    have pk : (ds'.map key).Perm ((firsts [] ds).map key) := (List.perm_ext_iff_of_nodup nd' f1).mpr mem
    have hn : H s.heap.objs.size = none := I.hok.fresh (Nat.le_refl _)
    refine ⟨.ref s.heap.objs.size, upd H s.heap.objs.size (setAt s.heap.objs.size o), I.laid (t' := tk) k (Nat.le_refl _) (setAt_ok ho), rfl, q _ o ds' hn ⟨es, ep, t, vs', hcl, hd, hf, hsz, hr, hled, by rw [hrows]; exact a1, a2⟩ ?_ a4 fun al => ?_⟩
    · have := pk.length_eq
      simpa using this
    · refine (List.perm_ext_iff_of_nodup (L2.nodup_of_map nd') (L2.nodup_of_map f1)).mpr fun d => ?_
      have inj : ∀ a ∈ ds, ∀ b ∈ ds, key a = key b → a = b := fun a ha b hb e => eqv_alike a b (al a ha b hb) ((hq a ha b hb).mpr e)
      constructor
      · intro h
        obtain ⟨d2, h2, e⟩ := List.mem_map.mp ((mem (key d)).mp (List.mem_map.mpr ⟨d, h, rfl⟩))
        rw [← inj d2 (by simpa using f3 d2 h2) d (a4 d h) e]; exact h2
      · intro h
        obtain ⟨d2, h2, e⟩ := List.mem_map.mp ((mem (key d)).mpr (List.mem_map.mpr ⟨d, h, rfl⟩))
        rw [← inj d2 (a4 d2 h2) d (by simpa using f3 d h) e]; exact h2
theorem th1_cap : (th1 X.prog X.w).cap = 4000 := rfl
theorem th2_cap : (th2 X.prog X.w).cap = 76 := rfl
theorem deep_key {d : D} (h : deepKey d = true) : keyOk d = true ∧ d.depth ≤ 8 ∧ ∃ xs, d = .tuple xs := by
  cases d <;> first | (simp [deepKey] at h; done) | skip
  simp only [deepKey, Bool.and_eq_true, decide_eq_true_eq] at h
  exact ⟨by simpa [keyOk] using h.1, h.2, _, rfl⟩
/-- set(xs) -/
def rSet (w : World) (K : Fr') : List V → Hp → VK → Prop := fun xs H Q => ∃ O x d1 ds, xs = [x] ∧ Lsts H O ∧ Vd K O H x d1 ∧ seqOf d1 = some ds ∧ setOk ds = true ∧
  ∀ a o ds', H a = none → SetDat w K (hide H O) o ds' → ds'.length = (firsts [] ds).length → (∀ d ∈ ds', d ∈ ds) → (PySem.W.AllAlike ds → ds'.Perm (firsts [] ds)) → Q (.ref a) (upd H a (setAt a o))
theorem set_ok (hc : X.calm = true) (hu : X.A.units + 64 < cLine) : CallR X (.type "set") (rSet X.w X.K) := by
  intro pins s σ H xs us Q I r h
  obtain ⟨O, x, d1, ds, rfl, L, v1, e, hs, q⟩ := h
  have main : ∀ (a : Addr) (vs : List V) (its : List Value), us = [Value.ref a] → (s.heap.IsList a its.toArray ∨ s.heap.IsTuple a its.toArray) → Vals vs its → RpAll X.K (hide H O) vs ds →
      wpAny (model X.prog X.w) X.A (call (.type "set") us) (EP X pins σ Q) X.xe s := by
    intro a vs its eu hl rv r1
    rw [eu]
    unfold setOk at hs
    simp only [Bool.or_eq_true, Bool.and_eq_true, List.all_eq_true, decide_eq_true_eq] at hs
    rcases hs with hs | hs
    · exact set_of (th1 X.prog X.w) k1 hc hu I hl rv r1 (fun v u d rp rel hd => k1_is rp rel (hs.1 d hd)) (by rw [th1_cap]; exact hs.2) (fun a ha b hb => k1_eq (hs.1 a ha) (hs.1 b hb)) q
    · refine set_of (th2 X.prog X.w) nk hc hu I hl rv r1 (fun v u d rp rel hd => ?_) (by rw [th2_cap]; exact hs.2) (fun a ha b hb => nk_eq (deep_key (hs.1 a ha)).1 (deep_key (hs.1 b hb)).1) q
      obtain ⟨k1, k2, ys, k3⟩ := deep_key (hs.1 d hd)
      refine ⟨?_, nk_is I d v u (rp.mono ex_hide) rel k1, by rw [nk_depth d k1]; exact k2⟩
      subst k3
      cases rp with
      | tup _ _ _ => exact ⟨_, rel⟩
  cases d1 <;> try (cases e)
  · obtain ⟨a, vs, rfl, s1, r1, z1⟩ := v1.list
    obtain ⟨its, rv, pl, _⟩ := I.list s1
    exact main a vs its (Vals.ref1 r) (.inl pl.isList) rv r1
  · obtain ⟨a, vs, rfl, s1, r1, z1⟩ := v1.tuple
    obtain ⟨its, rv, pl, _⟩ := I.tuple (sqT_same ex_hide s1)
    exact main a vs its (Vals.ref1 r) (.inr pl) rv r1
/-- sorted(the set) -/
def rSortSet (w : World) (K : Fr') : List V → Hp → VK → Prop := fun xs H Q => ∃ O a o ds', xs = [.ref a] ∧ Lsts H O ∧ H a = some (setAt a o) ∧ SetDat w K (hide H O) o ds' ∧ sortable ds' = true ∧ ds'.length ≤ sizeLine ∧
  ∀ v H', Same H H' → Rp K (hide H' O) v (.list (isort ds')) → Q v H'
theorem sortSet_ok (hc : X.calm = true) (hu : X.A.units + 64 < cLine) : CallR X (.builtin "sorted") (rSortSet X.w X.K) := by
  intro pins s σ H xs us Q I r h
  obtain ⟨O, a, o, ds', rfl, L, ha, hd, hs, hz, q⟩ := h
  rw [Vals.ref1 r]
  obtain ⟨es, ep, t, vs, h1, h2, h3, h4, h5, h6, h7, h8⟩ := hd
  have ho : s.heap.get? a = some o := (show ObjOk X.prog X.w H s.heap a (setAt a o) from I.hok a _ ha).1
  refine sorted_from hu I L (fun E Q' hq => ?_) h7 h8 hz hs q
  exact collect_set (A := X.A.in1) (by simpa using I.ok.hd hc) ⟨o, ho, h1, h2⟩ h3 h4 h5 h6 fun s1 out k1 _ g1 o1 pm => hq s1 out k1 g1 o1 pm
/-- len(the set) -/
def rLenSet (w : World) (K : Fr') : List V → Hp → VK → Prop := fun xs H Q => ∃ O a o ds', xs = [.ref a] ∧ H a = some (setAt a o) ∧ SetDat w K (hide H O) o ds' ∧ Q (.int ds'.length) H
end
end Fz

set_option Elab.async false
set_option linter.all false
set_option autoImplicit false
set_option maxRecDepth 100000
/-! Part V: readings of expressions by the machine. -/
namespace Fz
open PySem PySem.Spec L2
variable [TabT]

/-- what stands behind an exception: the lists of O are no longer known -/
structure Off (O : List Addr) (H H' : Hp) : Prop where
  ex : Ex (hide H O) H'
  tab : LamX.Tabs TabT.T H → LamX.Tabs TabT.T H'
theorem Off.after {O : List Addr} {H H1 H' : Hp} (e : Same H H1) (h : Off O H1 H') : Off O H H' := ⟨e.hide.trans h.ex, fun t => h.tab (e.tab t)⟩
theorem Off.of {O : List Addr} {H H' : Hp} (L : Lsts H O) (h : Same (hide H O) H') : Off O H H' := ⟨h.ex, fun t => h.tab (tab_hide L t)⟩
theorem Off.from {O : List Addr} {Hb H H' : Hp} (sb : Same Hb (hide H O)) (h : Off O H H') : Same Hb H' := ⟨sb.ex.trans h.ex, fun t => h.tab (same_hide.tab (sb.tab t))⟩
def Ans {α β : Type} (C : Nat → Addr) (W : WX) (O : List Addr) (H : Hp) (σ : St) (rel : Hp → β → α → Prop) (Q : β → Hp → Prop) : R α → Prop
  | .ok a => ∀ b H', Same H H' → rel H' b a → Q b H'
  | .ex c => ∀ H', Off O H H' → W (.ref (C c)) none σ H'
  | .no => False
/-- the reading: some machine state stands for the slots, and what the machine answers is what comes -/
def tR {α β : Type} (K : Fr') (C : Nat → Addr) (W : WX) (rel : List Addr → Hp → β → α → Prop) (r : Sd → R α) : St → Hp → (β → Hp → Prop) → Prop :=
  fun σ H Q => ∃ O τ, RS K O H σ τ ∧ Ans C W O H σ (rel O) Q (r τ)
def rS (K : Fr') (O : List Addr) (H : Hp) (v : V) (d : D) : Prop := Rp K (hide H O) v d
def rP (K : Fr') (O : List Addr) (H : Hp) (v : V) (d : D) : Prop := Vd K O H v d
def rM (K : Fr') (m : Bool) : List Addr → Hp → V → D → Prop := if m = true then rS K else rP K
def rA (K : Fr') (O : List Addr) (H : Hp) (vs : List V) (ds : List D) : Prop := RpAll K (hide H O) vs ds
def rB (O : List Addr) (H : Hp) (b c : Bool) : Prop := b = c
section
variable {α β γ δ : Type} {C : Nat → Addr} {W : WX} {O : List Addr} {H H1 : Hp} {σ : St} {K : Fr'}
theorem Ans.mono {rel : Hp → β → α → Prop} {Q : β → Hp → Prop} {r : R α} (h : Ans C W O H σ rel Q r) (e : Same H H1) : Ans C W O H1 σ rel Q r := by
  cases r with
  | ok a => exact fun b H' e' q => h b H' (e.trans e') q
  | ex c => exact fun H' e' => h H' (e'.after e)
  | no => exact h
theorem Ans.step {rel : Hp → β → α → Prop} {Q : β → Hp → Prop} {rel1 : Hp → δ → γ → Prop} {Q1 : δ → Hp → Prop} {ra : R γ} {k : γ → R α} (h : Ans C W O H σ rel Q (ra.bind k))
    (f : ∀ a b H1, Same H H1 → rel1 H1 b a → Ans C W O H1 σ rel Q (k a) → Q1 b H1) : Ans C W O H σ rel1 Q1 ra := by
  cases ra with
  | ok a => exact fun b H' e q => f a b H' e q (Ans.mono h e)
  | ex c => exact h
  | no => exact h
theorem Ans.imp {rel rel1 : Hp → β → α → Prop} {Q Q1 : β → Hp → Prop} {r : R α} (h : Ans C W O H σ rel Q r) (f : ∀ b a H1, Same H H1 → rel1 H1 b a → (rel H1 b a → Q b H1) → Q1 b H1) : Ans C W O H σ rel1 Q1 r := by
  cases r with
  | ok a => exact fun b H' e q => f b a H' e q fun z => h b H' e z
  | ex c => exact h
  | no => exact h
theorem rM_true : rM K true = rS K := rfl
theorem rM_false : rM K false = rP K := rfl
/-- a plain value is one in both ways -/
theorem rM_of {m : Bool} {v : V} {d : D} (h : Rp K (hide H O) v d) : rM K m O H v d := by
  cases m
  · exact .inl h
  · exact h
theorem rM_vd {m : Bool} {v : V} {d : D} (h : rM K m O H v d) : Vd K O H v d := by
  cases m
  · exact h
  · exact .inl h
end

section
variable {X : Cx} {C : Nat → Addr} {W : WX}
abbrev PEx (X : Cx) (C : Nat → Addr) (W : WX) (m : Bool) (e : Expr) (r : Sd → R D) : Prop := PE X e (tR X.K C W (rM X.K m) r)
abbrev PAx (X : Cx) (C : Nat → Addr) (W : WX) (e : List Expr) (r : Sd → R (List D)) : Prop := PA X e (tR X.K C W (rA X.K) r)
abbrev PTx (X : Cx) (C : Nat → Addr) (W : WX) (e : Expr) (r : Sd → R Bool) : Prop := PT X e (tR X.K C W rB r)
theorem _root_.L2.PE.fimp {e : Expr} {t u : TE} (h : PE X e t) (f : ∀ σ H Q, u σ H Q → t σ H Q) : PE X e u := ⟨fun pins s σ H Q I q => h.run pins s σ H Q I (f σ H Q q)⟩
theorem _root_.L2.PT.fimp {e : Expr} {t u : TT} (h : PT X e t) (f : ∀ σ H Q, u σ H Q → t σ H Q) : PT X e u := ⟨fun pins s σ H Q I q => h.run pins s σ H Q I (f σ H Q q)⟩
theorem _root_.L2.PW.fimp {e : Expr} {t u : TT} (h : PW X e t) (f : ∀ σ H Q, u σ H Q → t σ H Q) : PW X e u := ⟨fun wh pins s σ H Q I q => h.run wh pins s σ H Q I (f σ H Q q)⟩
theorem _root_.L2.PA.fimp {e : List Expr} {t u : TA} (h : PA X e t) (f : ∀ σ H Q, u σ H Q → t σ H Q) : PA X e u := ⟨fun p pins s σ H Q I q => h.run p pins s σ H Q I (f σ H Q q)⟩
theorem _root_.L2.PS.fimp {e : Stmt} {t u : TS} (h : PS X e t) (f : ∀ D σ H, u D σ H → t D σ H) : PS X e u := ⟨fun pins s σ H D I q => h.run pins s σ H D I (f D σ H q)⟩
theorem _root_.L2.PSs.fimp {e : List Stmt} {t u : TS} (h : PSs X e t) (f : ∀ D σ H, u D σ H → t D σ H) : PSs X e u := ⟨fun pins s σ H D I q => h.run pins s σ H D I (f D σ H q)⟩
theorem _root_.L2.PG.fimp {e : Expr} {t u : TG} (h : PG X e t) (f : ∀ v σ H Q, u v σ H Q → t v σ H Q) : PG X e u := ⟨fun pins s σ H v w Q I r q => h.run pins s σ H v w Q I r (f v σ H Q q)⟩
theorem _root_.L2.PI.fimp {tg e : Expr} {t u : TI} (h : PI X tg e t) (f : ∀ σ H Q, u σ H Q → t σ H Q) : PI X tg e u := ⟨fun pins s σ H Q I q => h.run pins s σ H Q I (f σ H Q q)⟩

theorem ex_weak {m : Bool} {e : Expr} {r : Sd → R D} (h : PEx X C W true e r) : PEx X C W m e r :=
  h.fimp fun σ H Q ⟨O, τ, rs, a⟩ => ⟨O, τ, rs, a.imp fun b d H1 _ z f => f (rM_of z)⟩

theorem ex_var {m : Bool} {i : Nat} {x : Str} {pos : Pos} (hN : X.N[i]? = some x) (hv : Vis X.env.scope x) (hd : (x == ("__debug__" : Str)) = false) (hcd : (x == ("__classdict__" : Str)) = false) :
    PEx X C W m (.Name x pos) (fun τ => look τ i) :=
  (pe_var hN hv hd hcd).fimp fun σ H Q ⟨O, τ, rs, a⟩ => by
    replace a : Ans C W O H σ (rM X.K m O) Q (look τ i) := a
    unfold look at a
    split at a
    · rename_i d e
      obtain ⟨v, h1, h2⟩ := rs.val i d e
      exact ⟨v, h1, a v H (Same.refl _) (rM_of h2)⟩
    · exact a.elim
theorem ex_pk {i : Nat} {x : Str} {pos : Pos} (hN : X.N[i]? = some x) (hv : Vis X.env.scope x) (hd : (x == ("__debug__" : Str)) = false) (hcd : (x == ("__classdict__" : Str)) = false) :
    PEx X C W false (.Name x pos) (fun τ => peek τ i) :=
  (pe_var hN hv hd hcd).fimp fun σ H Q ⟨O, τ, rs, a⟩ => by
    replace a : Ans C W O H σ (rM X.K false O) Q (peek τ i) := a
    unfold peek at a
    split at a
    · rename_i d e
      obtain ⟨v, h1, h2⟩ := rs.val i d e
      exact ⟨v, h1, a v H (Same.refl _) (rM_of h2)⟩
    · rename_i xs e
      obtain ⟨p, vs, h1, h2, h3, h4, h5⟩ := rs.own i xs e
      exact ⟨.ref p, h1, a _ H (Same.refl _) (.inr ⟨p, vs, xs, rfl, rfl, h2, h3, h4, h5⟩)⟩
    · exact a.elim
theorem ex_cst {m : Bool} {e : Expr} {v : V} {d : D} (h : PE X e (tC v)) (hr : ∀ H, Rp X.K H v d) : PEx X C W m e (fun _ => .ok d) :=
  h.fimp fun σ H Q ⟨O, τ, rs, a⟩ => a v H (Same.refl _) (rM_of (hr _))

/-- two operands in a row -/
theorem two {ra rb : Sd → R D} {g : D → D → R D} {m ma mb : Bool} (hg : ∀ x y c, g x y ≠ .ex c) {σ : St} {H : Hp} {Q : VK}
    (h : tR X.K C W (rM X.K m) (fun τ => (ra τ).bind fun x => (rb τ).bind fun y => g x y) σ H Q) :
    tOp (r2 X.K g) (tR X.K C W (rM X.K ma) ra) (tR X.K C W (rM X.K mb) rb) σ H Q := by
  obtain ⟨O, τ, rs, a⟩ := h
  refine ⟨O, τ, rs, a.step fun x v H1 e1 v1 a1 => ⟨O, τ, rs.mono e1, a1.step fun y u H2 e2 v2 a2 => ?_⟩⟩
  cases hz : g x y with
  | ok d =>
    rw [hz] at a2
    exact ⟨O, x, y, d, (rs.mono (e1.trans e2)).lst, (rM_vd v1).mono e2, rM_vd v2, hz, fun w H' e q => a2 w H' e (rM_of q)⟩
  | ex c => exact absurd hz (hg x y c)
  | no => rw [hz] at a2; exact a2.elim
variable {a b c : Expr} {ra rb rc : Sd → R D} {pos : Pos}
theorem ex_op {op : Operator} {g : D → D → R D} {m ma mb : Bool} (ho : OpR X (binaryOp op) (r2 X.K g)) (hg : ∀ x y c, g x y ≠ .ex c) (ha : PEx X C W ma a ra) (hb : PEx X C W mb b rb) :
    PEx X C W m (.BinOp a op b pos) (fun τ => (ra τ).bind fun x => (rb τ).bind fun y => g x y) :=
  (pe_op ho ha hb).fimp fun σ H Q h => two hg h
theorem ex_cmp {op : CmpOp} {g : D → D → R D} {m ma mb : Bool} (ho : OpR X (compareOp op) (r2 X.K g)) (hg : ∀ x y c, g x y ≠ .ex c) (ha : PEx X C W ma a ra) (hb : PEx X C W mb b rb) (hm : behindInMarks op b = false) :
    PEx X C W m (.Compare a [op] [b] pos) (fun τ => (ra τ).bind fun x => (rb τ).bind fun y => g x y) :=
  (pe_cmpR ho ha hb hm).fimp fun σ H Q h => two hg h
theorem ex_ix {m ma mb : Bool} {g : D → D → R D} (ho : IxR X (r2 X.K g)) (hg : ∀ x y c, g x y ≠ .ex c) (ha : PEx X C W ma a ra) (hb : PEx X C W mb b rb) (hs : PlainIx b) :
    PEx X C W m (.Subscript a b pos) (fun τ => (ra τ).bind fun x => (rb τ).bind fun y => g x y) :=
  (pe_ix ho ha hb hs).fimp fun σ H Q h => two hg h
/-- as a test: the operation's answers are bools -/
theorem xt_cmp {op : CmpOp} {g : D → D → R D} {ma mb : Bool} (ho : OpR X (compareOp op) (r2 X.K g)) (hg : ∀ x y c, g x y ≠ .ex c) (ha : PEx X C W ma a ra) (hb : PEx X C W mb b rb) (hm : behindInMarks op b = false) :
    PTx X C W (.Compare a [op] [b] pos) (fun τ => ((ra τ).bind fun x => (rb τ).bind fun y => g x y).bind asB) := by
  refine (pt_cmpR ho ha hb hm).fimp fun σ H Q h => ?_
  obtain ⟨O, τ, rs, h⟩ := h
  refine two (m := true) (g := g) hg ⟨O, τ, rs, Ans.step h fun d v H1 e r z => ?_⟩
  cases d <;> try exact z.elim
  rename_i k
  cases Rp.bool_of r
  exact ⟨k, rfl, z k H1 (Same.refl _) rfl⟩
theorem xt_val {e : Expr} {r : Sd → R D} (h : PEx X C W true e r) (he : ∀ whole, isTrue e X.env whole = (do let v ← whole; standAt e.pos; holding [v] (truthy v))) :
    PTx X C W e (fun τ => (r τ).bind asB) := by
  refine (pt_val h he).fimp fun σ H Q hh => ?_
  obtain ⟨O, τ, rs, hh⟩ := hh
  refine ⟨O, τ, rs, Ans.step hh fun d v H1 e r z => ?_⟩
  cases d <;> try exact z.elim
  rename_i k
  cases Rp.bool_of r
  exact ⟨k, rfl, z k H1 (Same.refl _) rfl⟩
theorem xt_not {r : Sd → R Bool} (h : PTx X C W a r) : PTx X C W (.UnaryOp .Not a pos) (fun τ => (r τ).bind fun k => .ok !k) := by
  refine (pt_not h).fimp fun σ H Q hh => ?_
  obtain ⟨O, τ, rs, hh⟩ := hh
  refine ⟨O, τ, rs, Ans.step hh fun k b H1 e r z => ?_⟩
  cases r
  exact z _ H1 (Same.refl _) rfl
theorem ex_not {m : Bool} (h : PEx X C W true a ra) : PEx X C W m (.UnaryOp .Not a pos) (fun τ => (ra τ).bind (o1 .nt)) := by
  refine (pe_not h).fimp fun σ H Q hh => ?_
  obtain ⟨O, τ, rs, hh⟩ := hh
  refine ⟨O, τ, rs, Ans.step hh fun d v H1 e r z => ?_⟩
  cases d <;> try exact z.elim
  rename_i k
  cases Rp.bool_of r
  exact ⟨k, rfl, z _ H1 (Same.refl _) (rM_of (.bl _))⟩
theorem ex_neg {m : Bool} (h : PEx X C W true a ra) : PEx X C W m (.UnaryOp .USub a pos) (fun τ => (ra τ).bind (o1 .neg)) := by
  refine (pe_un un_neg h).fimp fun σ H Q hh => ?_
  obtain ⟨O, τ, rs, hh⟩ := hh
  refine ⟨O, τ, rs, Ans.step hh fun d v H1 e r z => ?_⟩
  cases d <;> try exact z.elim
  rename_i k
  cases Rp.int_of r
  exact ⟨k, rfl, z _ H1 (Same.refl _) (rM_of (.int _))⟩
/-- a if c else b -/
theorem ex_ite {m : Bool} {rt : Sd → R Bool} {e1 e2 : Expr} {r1 r2 : Sd → R D} (hc : PTx X C W c rt) (h1 : PEx X C W m e1 r1) (h2 : PEx X C W m e2 r2) :
    PEx X C W m (.IfExp c e1 e2 pos) (fun τ => (rt τ).bind fun k => if k = true then r1 τ else r2 τ) := by
  refine (pe_ifExp hc h1 h2).fimp fun σ H Q hh => ?_
  obtain ⟨O, τ, rs, hh⟩ := hh
  refine ⟨O, τ, rs, Ans.step hh fun k k' H1 e r z => ?_⟩
  cases r
  cases k
  · exact ⟨O, τ, rs.mono e, z⟩
  · exact ⟨O, τ, rs.mono e, z⟩
/-! #### and, or -/
variable {rest : List Expr}
theorem ex_one {op : BoolOp} {m : Bool} (h : PEx X C W true a ra) : PEx X C W m (.BoolOp op [a] pos) (fun τ => (ra τ).bind fun x => (asB x).bind fun k => .ok (.bool k)) := by
  refine (pe_one (pos := pos) h).fimp fun σ H Q hh => ?_
  obtain ⟨O, τ, rs, hh⟩ := hh
  refine ⟨O, τ, rs, Ans.step hh fun d v H1 e r z => ?_⟩
  cases d <;> try exact z.elim
  exact z v H1 (Same.refl _) (rM_of r)
theorem ex_and {m : Bool} {rr : Sd → R D} (h : PEx X C W true a ra) (h2 : PEx X C W m (.BoolOp .And (b :: rest) pos) rr) :
    PEx X C W m (.BoolOp .And (a :: b :: rest) pos) (fun τ => (ra τ).bind fun x => (asB x).bind fun k => if k = true then rr τ else .ok (.bool false)) := by
  refine (pe_and h h2).fimp fun σ H Q hh => ?_
  obtain ⟨O, τ, rs, hh⟩ := hh
  refine ⟨O, τ, rs, Ans.step hh fun d v H1 e r z => ?_⟩
  cases d <;> try exact z.elim
  rename_i k
  cases Rp.bool_of r
  refine ⟨k, rfl, ?_⟩
  cases k
  · exact z _ H1 (Same.refl _) (rM_of (.bl _))
  · exact ⟨O, τ, rs.mono e, z⟩
theorem ex_or {m : Bool} {rr : Sd → R D} (h : PEx X C W true a ra) (h2 : PEx X C W m (.BoolOp .Or (b :: rest) pos) rr) :
    PEx X C W m (.BoolOp .Or (a :: b :: rest) pos) (fun τ => (ra τ).bind fun x => (asB x).bind fun k => if k = true then .ok (.bool true) else rr τ) := by
  refine (pe_or h h2).fimp fun σ H Q hh => ?_
  obtain ⟨O, τ, rs, hh⟩ := hh
  refine ⟨O, τ, rs, Ans.step hh fun d v H1 e r z => ?_⟩
  cases d <;> try exact z.elim
  rename_i k
  cases Rp.bool_of r
  refine ⟨k, rfl, ?_⟩
  cases k
  · exact ⟨O, τ, rs.mono e, z⟩
  · exact z _ H1 (Same.refl _) (rM_of (.bl _))
abbrev PWx (X : Cx) (C : Nat → Addr) (W : WX) (e : Expr) (r : Sd → R Bool) : Prop := PW X e (tR X.K C W rB r)
theorem xw_and1 {r : Sd → R Bool} (h : PTx X C W a r) : PWx X C W (.BoolOp .And [a] pos) r := pw_and1 h
theorem xw_or1 {r : Sd → R Bool} (h : PTx X C W a r) : PWx X C W (.BoolOp .Or [a] pos) r := pw_or1 h
theorem xw_and {r rr : Sd → R Bool} (h : PTx X C W a r) (h2 : PWx X C W (.BoolOp .And (b :: rest) pos) rr) :
    PWx X C W (.BoolOp .And (a :: b :: rest) pos) (fun τ => (r τ).bind fun k => if k = true then rr τ else .ok false) := by
  refine (pw_and h h2).fimp fun σ H Q hh => ?_
  obtain ⟨O, τ, rs, hh⟩ := hh
  refine ⟨O, τ, rs, Ans.step hh fun k k' H1 e r z => ?_⟩
  cases r
  cases k
  · exact z _ H1 (Same.refl _) rfl
  · exact ⟨O, τ, rs.mono e, z⟩
theorem xw_or {r rr : Sd → R Bool} (h : PTx X C W a r) (h2 : PWx X C W (.BoolOp .Or (b :: rest) pos) rr) :
    PWx X C W (.BoolOp .Or (a :: b :: rest) pos) (fun τ => (r τ).bind fun k => if k = true then .ok true else rr τ) := by
  refine (pw_or h h2).fimp fun σ H Q hh => ?_
  obtain ⟨O, τ, rs, hh⟩ := hh
  refine ⟨O, τ, rs, Ans.step hh fun k k' H1 e r z => ?_⟩
  cases r
  cases k
  · exact ⟨O, τ, rs.mono e, z⟩
  · exact z _ H1 (Same.refl _) rfl
/-! #### a < b < c -/
def chR (g g' : D → D → R D) (ra rb rc : Sd → R D) : Sd → R D := fun τ => (ra τ).bind fun x => (rb τ).bind fun y => (g x y).bind fun z => (asB z).bind fun k =>
      if k = true then (rc τ).bind fun w => g' y w else .ok (.bool false)
theorem chain_rd {g g' : D → D → R D} {m ma mb mc : Bool} (hg : ∀ x y c, g x y ≠ .ex c) (hg' : ∀ x y c, g' x y ≠ .ex c) {σ : St} {H : Hp} {Q : VK}
    (h : tR X.K C W (rM X.K m) (chR g g' ra rb rc) σ H Q) :
    tChain (r2 X.K g) (r2 X.K g') (tR X.K C W (rM X.K ma) ra) (tR X.K C W (rM X.K mb) rb) (tR X.K C W (rM X.K mc) rc) σ H Q := by
  obtain ⟨O, τ, rs, a⟩ := h
  refine ⟨O, τ, rs, a.step fun x v H1 e1 v1 a1 => ⟨O, τ, rs.mono e1, a1.step fun y u H2 e2 v2 a2 => ?_⟩⟩
  cases hz : g x y with
  | ex c => exact absurd hz (hg x y c)
  | no => rw [hz] at a2; exact a2.elim
  | ok d =>
    rw [hz] at a2
    refine ⟨O, x, y, d, (rs.mono (e1.trans e2)).lst, (rM_vd v1).mono e2, rM_vd v2, hz, fun w H3 e3 q => ?_⟩
    cases d <;> try exact a2.elim
    rename_i k
    cases Rp.bool_of q
    refine ⟨k, rfl, ?_⟩
    cases k
    · exact a2 _ H3 e3 (rM_of (.bl _))
    · refine ⟨O, τ, rs.mono ((e1.trans e2).trans e3), Ans.step (Ans.mono a2 e3) fun z' w' H4 e4 v4 a4 => ?_⟩
      cases hz' : g' y z' with
      | ex c => exact absurd hz' (hg' y z' c)
      | no => rw [hz'] at a4; exact a4.elim
      | ok d' =>
        rw [hz'] at a4
        exact ⟨O, y, z', d', (rs.mono (((e1.trans e2).trans e3).trans e4)).lst, (rM_vd v2).mono (e3.trans e4), rM_vd v4, hz', fun w H' e q => a4 w H' e (rM_of q)⟩
theorem ex_chain {op op' : CmpOp} {g g' : D → D → R D} {m ma mb mc : Bool} (ho : OpR X (compareOp op) (r2 X.K g)) (ho' : OpR X (compareOp op') (r2 X.K g')) (hg : ∀ x y c, g x y ≠ .ex c) (hg' : ∀ x y c, g' x y ≠ .ex c)
    (ha : PEx X C W ma a ra) (hb : PEx X C W mb b rb) (hc : PEx X C W mc c rc) (hm : lastMarks [op, op'] [b, c] = false) : PEx X C W m (.Compare a [op, op'] [b, c] pos) (chR g g' ra rb rc) :=
  (pe_chain ho ho' ha hb hc hm).fimp fun σ H Q h => chain_rd hg hg' h
theorem xt_chain {op op' : CmpOp} {g g' : D → D → R D} {ma mb mc : Bool} (ho : OpR X (compareOp op) (r2 X.K g)) (ho' : OpR X (compareOp op') (r2 X.K g')) (hg : ∀ x y c, g x y ≠ .ex c) (hg' : ∀ x y c, g' x y ≠ .ex c)
    (ha : PEx X C W ma a ra) (hb : PEx X C W mb b rb) (hc : PEx X C W mc c rc) (hm : lastMarks [op, op'] [b, c] = false) : PTx X C W (.Compare a [op, op'] [b, c] pos) (fun τ => (chR g g' ra rb rc τ).bind asB) := by
  refine (pt_chain ho ho' ha hb hc hm).fimp fun σ H Q h => ?_
  obtain ⟨O, τ, rs, h⟩ := h
  refine chain_rd (m := true) hg hg' ⟨O, τ, rs, Ans.step h fun d v H1 e r z => ?_⟩
  cases d <;> try exact z.elim
  rename_i k
  cases Rp.bool_of r
  exact ⟨k, rfl, z k H1 (Same.refl _) rfl⟩
/-! #### argument lists, displays, calls -/
theorem xa_nil : PAx X C W [] (fun _ => .ok []) := pa_nil.fimp fun σ H Q ⟨O, τ, rs, h⟩ => h [] H (Same.refl _) .nil
theorem xa_cons {es : List Expr} {rr : Sd → R (List D)} (h : PEx X C W true a ra) (h2 : PAx X C W es rr) (hs : starEach (a :: es) X.env = (false, eval a X.env) :: starEach es X.env) :
    PAx X C W (a :: es) (fun τ => (ra τ).bind fun x => (rr τ).bind fun xs => .ok (x :: xs)) := by
  refine (pa_cons h h2 hs).fimp fun σ H Q hh => ?_
  obtain ⟨O, τ, rs, hh⟩ := hh
  refine ⟨O, τ, rs, Ans.step hh fun d v H1 e r z => ⟨O, τ, rs.mono e, Ans.step z fun ds vs H2 e2 r2 z2 => ?_⟩⟩
  exact z2 _ H2 (Same.refl _) (.cons (Rp.mono (Same.hide e2) r) r2)
variable {es : List Expr} {rr : Sd → R (List D)}
theorem ex_tup {m : Bool} {x1 : Nat} (h : PAx X C W es rr) (hl : es.length ≤ sizeLine) (hr : ∀ τ ds, rr τ = .ok ds → ds.length = es.length) : PEx X C W m (.Tuple es x1 pos) (fun τ => (rr τ).bind fun ds => .ok (.tuple ds)) := by
  refine (pe_tup h).fimp fun σ H Q hh => ?_
  obtain ⟨O, τ, rs, hh⟩ := hh
  refine ⟨O, τ, rs, ?_⟩
  dsimp only at hh
  cases hz : rr τ with
  | ex c => rw [hz] at hh; exact hh
  | no => rw [hz] at hh; exact hh
  | ok ds =>
    rw [hz] at hh
    intro vs H1 e r
    have n1 := hr τ ds hz
    have n2 := RpAll.length r
    exact ⟨by omega, fun p hp => hh _ _ (e.trans (same_upd hp)) (rM_of (rp_newT (rs.mono e).lst hp r (by omega)))⟩
/-- a list that no one else knows -/
def rF (K : Fr') (O : List Addr) (H0 : Hp) : Hp → V → D → Prop := fun H' v d => ∃ p vs xs, v = .ref p ∧ d = .list xs ∧ Fr H0 p ∧ H' p = some (.lst vs) ∧ RpAll K (hide H' (p :: O)) vs xs ∧ xs.length ≤ sizeLine
def tF (K : Fr') (C : Nat → Addr) (W : WX) (r : Sd → R D) : TE := fun σ H Q => ∃ O τ, RS K O H σ τ ∧ Ans C W O H σ (rF K O H) Q (r τ)
abbrev PFx (X : Cx) (C : Nat → Addr) (W : WX) (e : Expr) (r : Sd → R D) : Prop := PE X e (tF X.K C W r)
theorem rF_rp {K : Fr'} {O : List Addr} {H0 H : Hp} {v : V} {d : D} (L : Lsts H0 O) (h : rF K O H0 H v d) : Rp K (hide H O) v d := by
  obtain ⟨p, vs, xs, rfl, rfl, h1, h2, h3, h4⟩ := h
  have hO : p ∉ O := fun h => by
    obtain ⟨ws, q⟩ := L p h
    exact h1.lst q
  exact .lst (.of (by rw [hide_out hO]; exact h2)) (h3.mono (hide_sub fun a h => List.mem_cons_of_mem _ h).ex) h4
theorem ex_fresh {m : Bool} {e : Expr} {r : Sd → R D} (h : PFx X C W e r) : PEx X C W m e r :=
  h.fimp fun σ H Q ⟨O, τ, rs, a⟩ => ⟨O, τ, rs, a.imp fun b d H1 _ z f => f (rM_of (rF_rp rs.lst z))⟩
theorem hide_upd_cons {H : Hp} {O : List Addr} {p : Addr} {o : HO} (hp : H p = none) : hide (upd H p o) (p :: O) = hide H O := by
  funext b
  by_cases hb : b = p
  · subst hb
    rw [hide_in List.mem_cons_self, hide_none hp]
  · by_cases hO : b ∈ O
    · rw [hide_in (List.mem_cons_of_mem _ hO), hide_in hO]
    · rw [hide_out (by simp [hb, hO]), hide_out hO, upd_ne hb]
theorem rF_new {K : Fr'} {O : List Addr} {H0 H : Hp} {p : Addr} {vs : List V} {xs : List D} (e : Same H0 H) (hp : H p = none) (r : RpAll K (hide H O) vs xs) (z : xs.length ≤ sizeLine) : rF K O H0 (upd H p (.lst vs)) (.ref p) (.list xs) :=
  ⟨p, vs, xs, rfl, rfl, e.ex.free (.of hp), upd_same, by rw [hide_upd_cons hp]; exact r, z⟩
theorem ex_lst (h : PAx X C W es rr) (hl : es.length ≤ sizeLine) (hr : ∀ τ ds, rr τ = .ok ds → ds.length = es.length) : PFx X C W (.List es pos) (fun τ => (rr τ).bind fun ds => .ok (.list ds)) := by
  refine (pe_lst h).fimp fun σ H Q hh => ?_
  obtain ⟨O, τ, rs, hh⟩ := hh
  refine ⟨O, τ, rs, ?_⟩
  dsimp only at hh
  cases hz : rr τ with
  | ex c => rw [hz] at hh; exact hh
  | no => rw [hz] at hh; exact hh
  | ok ds =>
    rw [hz] at hh
    intro vs H1 e r
    have n1 := hr τ ds hz
    have n2 := RpAll.length r
    exact ⟨by omega, fun p hp => hh _ _ (e.trans (same_upd hp)) (rF_new e hp r (by omega))⟩
/-- f(a), f a built-in -/
theorem one {g : D → R D} {m ma : Bool} (hg : ∀ x c, g x ≠ .ex c) {σ : St} {H : Hp} {Q : VK}
    (h : tR X.K C W (rM X.K m) (fun τ => (ra τ).bind g) σ H Q) : tCB (r1 X.K g) (tCons (tR X.K C W (rM X.K ma) ra) tNil) σ H Q := by
  obtain ⟨O, τ, rs, h⟩ := h
  refine ⟨O, τ, rs, Ans.step h fun d v H1 e r z => ?_⟩
  cases hz : g d with
  | ex c => exact absurd hz (hg d c)
  | no => rw [hz] at z; exact z.elim
  | ok d' =>
    rw [hz] at z
    exact ⟨O, v, d, d', rfl, (rs.mono e).lst, rM_vd r, hz, fun w H' e q => z w H' e (rM_of q)⟩
theorem ex_callB {g : D → R D} {m ma : Bool} {x : Str} {p : Pos} {id : String} (hc : CallR X (.builtin id) (r1 X.K g)) (hg : ∀ x c, g x ≠ .ex c) (hgl : Gl X x) (hm : X.mg x = none) (hv : bootBuiltins x = some (.builtin id)) (ha : PEx X C W ma a ra)
    (hs : starEach [a] X.env = (false, eval a X.env) :: starEach [] X.env) (hn : x ≠ "__name__" := by decide) (hdb : (x == ("__debug__" : Str)) = false := by decide) :
    PEx X C W m (.Call (.Name x p) [a] [] pos) (fun τ => (ra τ).bind g) :=
  (pe_callB hc hgl hm hv (pa_cons ha pa_nil hs) hn hdb hs rfl).fimp fun σ H Q h => one hg h
theorem ex_callTy {g : D → R D} {m ma : Bool} {x : Str} {p : Pos} {T : String} (hc : CallR X (.type T) (r1 X.K g)) (hg : ∀ x c, g x ≠ .ex c) (hgl : Gl X x) (hm : X.mg x = none) (hv : bootBuiltins x = some (.type T)) (ha : PEx X C W ma a ra)
    (hs : starEach [a] X.env = (false, eval a X.env) :: starEach [] X.env) (hn : x ≠ "__name__" := by decide) (hdb : (x == ("__debug__" : Str)) = false := by decide) :
    PEx X C W m (.Call (.Name x p) [a] [] pos) (fun τ => (ra τ).bind g) :=
  (pe_callTy hc hgl hm hv (pa_cons ha pa_nil hs) hn hdb hs rfl).fimp fun σ H Q h => one hg h
end
end Fz

set_option Elab.async false
set_option linter.all false
set_option autoImplicit false
set_option maxRecDepth 100000
/-! Part I: what is walked. -/
namespace Fz
open PySem PySem.Spec PyProof.Rows L2
variable [TabT]

set_option maxHeartbeats 1000000 in
theorem meets_enum1 {v : Value} {o : Obj} {H : Heap → Prop} (B : Begins v o H) :
    Meets (Builtin.«enumerate.__new__» ⟨[.type "enumerate", v], []⟩) (fun _ R s => H s.heap ∧
      R (.ok (.ret (.ref (s.heap.push o).objs.size))) { s with heap := (s.heap.push o).push { cls := .type "enumerate", data := .fields #[.none, .bool false, .ref s.heap.objs.size, rawInt 0, .none, .none] } }) :=
  .of_wp fun prog w A R s h => by
    obtain ⟨hp, g, d, tk, os⟩ := s; obtain ⟨h1, h⟩ := h
    have hsub := sub_enumerate
    have q1 : ∀ {A' : Around} {E : Value → Shared → Prop} {Q : Value → Shared → Prop}, Q (.ref hp.objs.size) ⟨hp.push o, g, d, tk, os⟩ → wpAny (model prog w) A' (pyIter v) Q E ⟨hp, g, d, tk, os⟩ :=
      fun q => B.iter prog w _ _ ⟨hp, g, d, tk, os⟩ _ h1 q
    wp_walk using q1
    refine wpAny_stack_any fun st => wpAny_pure ?_
    split
    · rename_i c _ _ _ _ _
      cases (c == Value.type "enumerate")
      · wp_walk using q1
        exact ⟨_, rfl, h⟩
      · wp_walk using q1
        exact ⟨_, rfl, h⟩
    · wp_walk using q1
      exact ⟨_, rfl, h⟩
section
variable {prog : Program} {w : World} {A : Around} {E : Value → Shared → Prop} {s : Shared}
theorem enum_begins1 {v : Value} {o : Obj} {H : Heap → Prop} {Q : Value → Shared → Prop} (B : Begins v o H) (h1 : H s.heap)
    (h : ∀ h', IsEnum h' (s.heap.objs.size + 1) s.heap.objs.size 0 .none → h'.get? s.heap.objs.size = some o → h'.objs.size = s.heap.objs.size + 2 →
      (∀ b o, s.heap.get? b = some o → h'.get? b = some o) → Q (.ref (s.heap.objs.size + 1)) { s with heap := h' }) :
    wpAny (model prog w) A (call (.type "enumerate") [v]) Q E s := by
  refine callType_new F.called_enumerate (by decide) (F.typeCall_enumerate_1 _) (F.newCall_enumerate_1 _) (fun obj => F.args_object_init_2 obj _) F.entry_enumerate_new
    (meets_enum1 B) ⟨h1, ?_⟩
  have hz : (s.heap.push o).objs.size = s.heap.objs.size + 1 := Heap.size_push ..
  show _ ∧ _
  rw [hz]
  have he : IsEnum ((s.heap.push o).push { cls := .type "enumerate", data := .fields #[.none, .bool false, .ref s.heap.objs.size, rawInt 0, .none, .none] }) (s.heap.objs.size + 1) s.heap.objs.size 0 .none := by
    have := Heap.get?_push_size (s.heap.push o) (o := { cls := .type "enumerate", data := .fields #[.none, .bool false, .ref s.heap.objs.size, rawInt 0, .none, .none] }) rfl
    rw [hz] at this; exact this
  refine ⟨⟨_, he, rfl⟩, h _ he (Heap.get?_push_of_some _ (Heap.get?_push_size _ B.free)) (by rw [Heap.size_push, hz]) fun b o x => Heap.get?_push_of_some _ (Heap.get?_push_of_some _ x)⟩
end

/-- enumerate of a tuple -/
def IteT (K : Fr') (a : Addr) : It :=
  ⟨fun i H => ∃ (xs : List V) (x : V), SqT K H a xs ∧ xs[i]? = some x, fun i H v H' => ∃ T x, v = .ref T ∧ H T = none ∧ H' = upd H T (.tup [.int (i : Nat), x]) ∧ ∀ xs, SqT K H a xs → xs[i]? = some x, fun i H => ∃ xs : List V, SqT K H a xs ∧ xs.length ≤ i⟩
theorem turn_enumT {P : Program} {w : World} {K : Fr'} {elts : List Expr} {kk : Nat} {tpos : Pos} (a e it : Addr) :
    Turn P w K (.Tuple elts kk tpos) (IteT K a) [e, it] e (fun i h => (∃ old, IsEnum h e it ((i : Nat) : Int) old) ∧ h.IsTupleIter it a i ∧ e ≠ it ∧ a ≠ it ∧ e ≠ a) where
  mem := by simp
  obj := fun i h st b hb => by
    obtain ⟨⟨old, he⟩, ⟨o, ho, hc, hd⟩, _⟩ := st
    have e' : b = e ∨ b = it := by simpa using hb
    rcases e' with z | z
    · rw [z]; exact ⟨_, he, fun v q => nomatch q⟩
    · rw [z]; exact ⟨o, ho, fun v q => by rw [hd] at q; cases q⟩
  keep := fun i h h' st k => let ⟨⟨old, he⟩, hi, hne⟩ := st; ⟨⟨old, k e (by simp) _ he⟩, hi.at fun o q => k it (by simp) o q, hne⟩
  item := by
    intro X hP hw hK hc i pins s σ H E I hf st hg
    subst hP hw hK
    obtain ⟨⟨old, he⟩, hit, hne, hai, hea⟩ := st
    obtain ⟨xs, x, hq, hx⟩ := hg
    obtain ⟨its, rv, p, hz⟩ := I.tuple hq
    obtain ⟨u, hu, ru⟩ := rv.get hx
    have hel : e < s.heap.objs.size := Heap.lt_size he
    have hil : it < s.heap.objs.size := by obtain ⟨_, q, _⟩ := hit; exact Heap.lt_size q
    have hin : i < its.toArray.size := by
      have := (List.getElem?_eq_some_iff.mp hu).1
      simpa using this
    have D := Draws.tuple (prog := X.prog) (w := X.w) (A := X.A.in1) (I.ok.hd hc) it a hai its.toArray
    refine wpAny_pyNext_enum_itemD D he ⟨hit, p⟩ hin hne (by simp [hne, hea]) fun u' h' tk hP ho hst' hT hsz hk => ?_
    have eu : u' = u := by
      have h1 : its.toArray[i]? = some u := by simpa using hu
      rw [h1] at hP; exact (Option.some.inj hP).symm
    subst eu
    refine ⟨_, rfl, wpAny_letOwnedTupleGo_enum (s := { s with heap := h', toks := tk + 1 }) ho fun h'' he' sb => ?_⟩
    have hT2 : h''.get? s.heap.objs.size = some { cls := .type "tuple", data := .seq #[.int i tk, u'] } := (sb.2 _ (Nat.ne_of_gt hel)).trans hT
    have new : ObjOk X.prog X.w (upd H s.heap.objs.size (.tup [.int (i : Nat), x])) h'' s.heap.objs.size (.tup [.int (i : Nat), x]) :=
      ⟨by show 2 ≤ sizeLine; decide, [.int i tk, u'], .cons ⟨_, rfl⟩ (.cons ru .nil), ⟨_, hT2, rfl, _, rfl⟩⟩
    have I1 : Inv X pins σ (upd H s.heap.objs.size (.tup [.int (i : Nat), x])) { s with heap := h'', toks := tk + 1 } :=
      I.turnedNew (ch := [e, it]) (fun b ob hb q => (sb.2 b (fun z => hb (by simp [z]))).trans (hk b ob (fun z => hb (by simp [z])) (fun z => hb (by simp [z])) q)) hf (Nat.le_refl _) new
    refine ⟨.ref s.heap.objs.size, _, I1, rfl, ⟨_, x, rfl, I.hok.fresh (Nat.le_refl _), rfl, fun ys hy => by rw [I.tuple_inj hy hq]; exact hx⟩, ⟨⟨u', ?_⟩, hst'.1.at fun o q => (sb.2 it (Ne.symm hne)).trans q, hne, hai, hea⟩, fun b hb => ?_⟩
    · have e1 : ((i + 1 : Nat) : Int) = (i : Int) + 1 := by omega
      rw [e1]; exact he'
    · have hb' : b < s.heap.objs.size := by
        have e' : b = e ∨ b = it := by simpa using hb
        rcases e' with z | z
        · rw [z]; exact hel
        · rw [z]; exact hil
      rw [upd_ne (Nat.ne_of_lt hb')]
      exact (hf b hb).1
  done := by
    intro X hP hw hK hc i pins s σ H E I hf st hg
    subst hP hw hK
    obtain ⟨⟨old, he⟩, hit, hne, hai, hea⟩ := st
    obtain ⟨xs, hq, hx⟩ := hg
    obtain ⟨its, rv, p, hz⟩ := I.tuple hq
    obtain ⟨f0, f1, f2, f3, f4, f5⟩ := hf it (by simp)
    have hl := rv.length
    have hT : s.TypeIs (.ref e) "enumerate" := ⟨_, he, rfl⟩
    unfold pyNext
    refine wpAny_bind (wpAny_attempt (wpAny_callSpecial?_slot (name := Str.ofString "__next__") hT F.slot_enumerate_next
      (wpAny_call_entry F.slot_enumerate_next hT F.entry_enumerate_next ?_ (F.args_enumerate_next_1 _))))
    show wpAny _ _ (field (.ref e) 2 >>= _) _ _ _
    refine wpAny_bind (wpAny_field he rfl (x := .ref it) rfl ?_)
    refine wpAny_bind (wpAny_nextOf_tuple_end (A := X.A.in1) (I.ok.hd hc) hit p (by simp; omega) fun h' x he' hx' => ?_)
    obtain ⟨o, ho, hc'⟩ := hx'
    refine wpAny_bind (wpAny_isInstance (T := "StopIteration") (b := true) ⟨o, ho, hc'⟩ isSubtype_stop ?_)
    exact wpAny_pure ⟨rfl, I.turned (t' := s.toks) (fun b o hb q => he' b o hb q) f0 f1 f3 f4 f5⟩
  self := fun A i s Q E st h => let ⟨⟨_, he⟩, _⟩ := st; wpAny_pyIter_enum he h
def iEnumT (K : Fr') (ta : TA) : TI := fun σ H R => ta σ H fun vs H1 => ∃ a xs, vs = [.ref a] ∧ SqT K H1 a xs ∧ R (IteT K a) H1
theorem pi_enumT {X : Cx} {e : Expr} {ta : TA} {p pos tpos : Pos} {elts : List Expr} {kk : Nat} (hg : Gl X "enumerate") (hm : X.mg "enumerate" = none) (ha : PA X [e] ta) (hs : starEach [e] X.env = [(false, eval e X.env)]) :
    PI X (.Tuple elts kk tpos) (.Call (.Name "enumerate" p) [e] [] pos) (iEnumT X.K ta) := by
  refine ⟨fun pins s σ H R I h => ?_⟩
  refine Call_ (ld_blt I hg hm boot_enumerate (PyProof.Rows.callWith_type1 (thn (ha.run pos pins s σ H _ I h) fun us s1 ⟨vs, H1, I1, r1, q1⟩ => ?_) hs rfl))
  obtain ⟨a, xs, ex, hq, q⟩ := q1
  subst ex
  cases r1 with
  | cons r rr =>
    cases rr
    cases r
    obtain ⟨its, rv, p', hz⟩ := I1.tuple hq
    have hal : a < s1.heap.objs.size := by obtain ⟨_, z, _⟩ := p'; exact Heap.lt_size z
    refine enum_begins1 (begins_tuple a its.toArray) p' fun h' he hit hsz hk => wpAny_pyIter_enum he ?_
    have I2 : Inv X pins σ H1 { s1 with heap := h' } := I1.kept (t' := s1.toks) hk
    refine ⟨s1.heap.objs.size + 1, [s1.heap.objs.size + 1, s1.heap.objs.size], _, _, H1, rfl, I2, turn_enumT a (s1.heap.objs.size + 1) s1.heap.objs.size, ⟨⟨.none, he⟩, ⟨_, hit, rfl, rfl⟩, Nat.succ_ne_self _, Nat.ne_of_lt hal, Nat.ne_of_gt (Nat.lt_succ_of_lt hal)⟩, fun b hb => ?_, q⟩
    have e' : b = s1.heap.objs.size + 1 ∨ b = s1.heap.objs.size := by simpa using hb
    have hle : s1.heap.objs.size ≤ b := by
      rcases e' with z | z
      · rw [z]; exact Nat.le_add_right _ _
      · rw [z]; exact Nat.le_refl _
    exact I1.fpOk hle (I1.hok.fresh hle)
theorem walk_enumT {K : Fr'} {a : Addr} {xs : List V} : Walk (IteT K a) xs.length (fun H => SqT K H a xs) (YPair (fun i => some (.int (i : Nat))) (fun i => xs[i]?)) := by
  refine ⟨fun i _ hi q => ⟨xs, xs[i], q, by simp [hi]⟩, fun _ q => ⟨xs, q, Nat.le_refl _⟩, fun i H v H' _ q y => ?_⟩
  obtain ⟨T, x, h1, h2, h3, h4⟩ := y
  exact ⟨T, .int (i : Nat), x, h1, h2, h3, rfl, h4 xs q⟩

/-- what comes at turn i: an item as it is, or a new tuple of items; Hs: the heap in which the items are told -/
def YD (K : Fr') (Hs : Hp) (ds : List D) : Nat → Hp → V → Hp → Prop := fun i H1 v H2 =>
  (H2 = H1 ∧ ∃ d, ds[i]? = some d ∧ Rp K Hs v d) ∨ (∃ T vs es, v = .ref T ∧ H1 T = none ∧ H2 = upd H1 T (.tup vs) ∧ ds[i]? = some (.tuple es) ∧ RpAll K Hs vs es ∧ es.length ≤ sizeLine)
theorem YD.rp {K : Fr'} {Hs : Hp} {ds : List D} {i : Nat} {H1 H2 : Hp} {v : V} {O : List Addr} (y : YD K Hs ds i H1 v H2) (L : Lsts H1 O) (e : Ex Hs (hide H1 O)) :
    ∃ d, ds[i]? = some d ∧ Same H1 H2 ∧ Rp K (hide H2 O) v d := by
  rcases y with ⟨rfl, d, h1, h2⟩ | ⟨T, vs, es, rfl, h1, rfl, h2, h3, h4⟩
  · exact ⟨d, h1, Same.refl _, h2.mono e⟩
  · exact ⟨_, h2, same_upd h1, rp_newT L h1 (h3.mono e) h4⟩
/-- m: what is walked is plain (else an own list, that must not change) -/
def Still (m : Bool) (O : List Addr) (H H' : Hp) : Prop := if m = true then Ex (hide H O) H' else Ex H H'
theorem Still.same {m : Bool} {O : List Addr} {H H' : Hp} (h : Still m O H H') : Ex (hide H O) H' := by
  cases m
  · exact ex_hide.trans h
  · exact h
theorem Still.of {m : Bool} {O : List Addr} {H H' : Hp} (h : Ex H H') : Still m O H H' := by
  cases m
  · exact h
  · exact ex_hide.trans h
def rI (K : Fr') (m : Bool) (O : List Addr) (H : Hp) (J : It) (ds : List D) : Prop := ds.length ≤ sizeLine ∧ Walk J ds.length (Still m O H) (YD K (hide H O) ds)
abbrev PIx (X : Cx) (C : Nat → Addr) (W : WX) (m : Bool) (tg e : Expr) (r : Sd → R (List D)) : Prop := PI X tg e (tR X.K C W (rI X.K m) r)
section
variable {X : Cx} {C : Nat → Addr} {W : WX} {tg e : Expr}
theorem Vd.listM {K : Fr'} {O : List Addr} {H : Hp} {v : V} {xs : List D} {m : Bool} (h : rM K m O H v (.list xs)) : ∃ a vs, v = .ref a ∧ SqL K H a vs ∧ (∀ H', Still m O H H' → SqL K H' a vs) ∧ RpAll K (hide H O) vs xs ∧ xs.length ≤ sizeLine := by
  cases m
  · obtain ⟨a, vs, rfl, h1, h2, h3⟩ := Vd.list h
    exact ⟨a, vs, rfl, h1, fun H' e => sqL_same e h1, h2, h3⟩
  · cases (h : Rp _ _ _ _) with
    | lst q r z => exact ⟨_, _, rfl, sqL_same ex_hide q, fun H' e => sqL_same e q, r, z⟩
theorem Vd.tupleM {K : Fr'} {O : List Addr} {H : Hp} {v : V} {xs : List D} {m : Bool} (h : rM K m O H v (.tuple xs)) : ∃ a vs, v = .ref a ∧ SqT K H a vs ∧ (∀ H', Still m O H H' → SqT K H' a vs) ∧ RpAll K (hide H O) vs xs ∧ xs.length ≤ sizeLine := by
  obtain ⟨a, vs, rfl, h1, h2, h3⟩ := Vd.tuple (rM_vd h)
  exact ⟨a, vs, rfl, sqT_same ex_hide h1, fun H' e => sqT_same e.same h1, h2, h3⟩
theorem yd_at {K : Fr'} {Hs : Hp} {vs : List V} {ds : List D} (r : RpAll K Hs vs ds) {i : Nat} {H1 H2 : Hp} {v : V} (y : YAt vs i H1 v H2) : YD K Hs ds i H1 v H2 := by
  obtain ⟨h1, h2⟩ := y
  obtain ⟨d, h3, h4⟩ := RpAll.getV r h2
  exact .inl ⟨h1, d, h3, h4⟩
theorem str1_ok {x : Str} {c : Nat} (h : PyData.strOk x = true) (hc : c ∈ x.cps) : PyData.strOk ⟨#[c]⟩ = true := by
  unfold PyData.strOk at h ⊢
  rw [Array.all_eq_true_iff_forall_mem] at h ⊢
  intro y hy
  have : y = c := by simpa using hy
  subst this
  exact h y hc
/-- a value that is walked -/
theorem xi_val {m : Bool} {r : Sd → R D} (h : PEx X C W m e r) : PIx X C W m tg e (fun τ => (r τ).bind fun d => ofO (itemsOf d)) := by
  refine ⟨fun pins s σ H R I hh => ?_⟩
  obtain ⟨O, τ, rs, hh⟩ := hh
  dsimp only at hh
  cases hz : r τ with
  | no => rw [hz] at hh; exact hh.elim
  | ex c => exact (pi_list (tg := tg) h).run pins s σ H R I ⟨O, τ, rs, by rw [hz] at hh ⊢; exact hh⟩
  | ok d =>
    rw [hz] at hh
    cases d with
    | list xs =>
      refine (pi_list (tg := tg) h).run pins s σ H R I ⟨O, τ, rs, by
        rw [hz]
        intro v H1 e1 rv
        obtain ⟨a, vs, rfl, h1, h2, h3, h4⟩ := Vd.listM rv
        refine ⟨a, rfl, ⟨vs, h1⟩, hh _ H1 e1 ⟨h4, ?_⟩⟩
        have n := h3.length
        show Walk _ _ _ _
        rw [← n]
        exact (walk_list (K := X.K) (a := a) (xs := vs)).mono (fun H' e => h2 H' e) fun i H1 x H2 hi hg y => yd_at h3 y⟩
    | tuple xs =>
      refine (pi_tup (tg := tg) h).run pins s σ H R I ⟨O, τ, rs, by
        rw [hz]
        intro v H1 e1 rv
        obtain ⟨a, vs, rfl, h1, h2, h3, h4⟩ := Vd.tupleM rv
        refine ⟨a, rfl, ⟨vs, h1⟩, hh _ H1 e1 ⟨h4, ?_⟩⟩
        have n := h3.length
        show Walk _ _ _ _
        rw [← n]
        exact (walk_tup (K := X.K) (a := a) (xs := vs)).mono (fun H' e => h2 H' e) fun i H1 x H2 hi hg y => yd_at h3 y⟩
    | str x =>
      refine (pi_str (tg := tg) h).run pins s σ H R I ⟨O, τ, rs, by
        rw [hz]
        intro v H1 e1 rv
        obtain ⟨rfl, h1, h2⟩ := Vd.str (rM_vd rv)
        refine ⟨x, rfl, hh _ H1 e1 ⟨by rw [List.length_map, Array.length_toList]; exact h2, ?_⟩⟩
        show Walk _ (x.cps.toList.map _).length _ _
        rw [List.length_map, Array.length_toList]
        refine (walk_str (z := x)).mono (fun H' e => trivial) fun i H1 v H2 hi hg y => ?_
        obtain ⟨rfl, c, hc, rfl⟩ := y
        have hm : c ∈ x.cps := Array.mem_of_getElem? hc
        exact .inl ⟨rfl, .str ⟨#[c]⟩, by simp [hc], .str _ (str1_ok h1 hm) (by show 1 ≤ sizeLine; decide)⟩⟩
    | _ => exact hh.elim
variable {a b : Expr} {ra rb : Sd → R D} {p pos : Pos}
theorem range_get {lo : Int} {n i : Nat} (h : i < n) : (rangeD lo n)[i]? = some (.int (lo + i)) := by
  unfold rangeD
  rw [List.getElem?_map, List.getElem?_range h]
  rfl
theorem range_len {lo : Int} {n : Nat} : (rangeD lo n).length = n := by simp [rangeD]
theorem if_pos_R {α : Type} {c : Prop} [Decidable c] {x y : R α} (h : c) : (if c then x else y) = x := if_pos h
theorem xi_rng1 {m ma : Bool} (hg : Gl X "range") (hm : X.mg "range" = none) (h : PEx X C W ma a ra) (hs : starEach [a] X.env = [(false, eval a X.env)]) :
    PIx X C W m tg (.Call (.Name "range" p) [a] [] pos) (fun τ => ((ra τ).bind (o1 .rng)).bind fun d => ofO (itemsOf d)) := by
  refine (pi_range1 hg hm (pa_cons h pa_nil hs) hs).fimp fun σ H Rr hh => ?_
  obtain ⟨O, τ, rs, hh⟩ := hh
  refine ⟨O, τ, rs, ?_⟩
  dsimp only at hh
  cases hz : ra τ with
  | no => rw [hz] at hh; exact hh
  | ex c => rw [hz] at hh; exact hh
  | ok d =>
    rw [hz] at hh
    intro v H1 e1 rv
    cases d <;> try exact hh.elim
    rename_i j
    cases Vd.int (rM_vd rv)
    by_cases hj : -1000000 ≤ j ∧ j ≤ 1000000
    · replace hh : Ans C W O H σ (rI X.K m O) Rr (((if -1000000 ≤ j ∧ j ≤ 1000000 then R.ok (.list (rangeD 0 j.toNat)) else .no) : R D).bind fun d => ofO (itemsOf d)) := hh
      rw [if_pos hj] at hh
      refine ⟨j, rfl, by omega, by omega, hh _ H1 e1 ⟨by rw [range_len, sizeLine_eq]; omega, ?_⟩⟩
      show Walk _ (rangeD 0 j.toNat).length _ _
      rw [range_len]
      refine walk_range.mono (fun _ _ => trivial) fun i H1 v H2 hi hg y => ?_
      obtain ⟨rfl, rfl⟩ := y
      exact .inl ⟨rfl, _, range_get hi, .int _⟩
    · replace hh : Ans C W O H σ (rI X.K m O) Rr (((if -1000000 ≤ j ∧ j ≤ 1000000 then R.ok (.list (rangeD 0 j.toNat)) else .no) : R D).bind fun d => ofO (itemsOf d)) := hh
      rw [if_neg hj] at hh
      exact hh.elim
theorem xi_rng2 {m ma mb : Bool} (hg : Gl X "range") (hm : X.mg "range" = none) (h : PEx X C W ma a ra) (h2 : PEx X C W mb b rb) (hs : starEach [a, b] X.env = [(false, eval a X.env), (false, eval b X.env)]) (hs2 : starEach [b] X.env = [(false, eval b X.env)]) :
    PIx X C W m tg (.Call (.Name "range" p) [a, b] [] pos) (fun τ => ((ra τ).bind fun x => (rb τ).bind fun y => o2 .rng x y).bind fun d => ofO (itemsOf d)) := by
  refine (pi_range2 hg hm (pa_cons h (pa_cons h2 pa_nil hs2) (by rw [hs, hs2])) hs hs2).fimp fun σ H Rr hh => ?_
  obtain ⟨O, τ, rs, hh⟩ := hh
  refine ⟨O, τ, rs, ?_⟩
  dsimp only at hh
  cases hz : ra τ with
  | no => rw [hz] at hh; exact hh
  | ex c => rw [hz] at hh; exact hh
  | ok d =>
    rw [hz] at hh
    intro v H1 e1 rv
    refine ⟨O, τ, rs.mono e1, ?_⟩
    cases hz2 : rb τ with
    | no => rw [hz2] at hh; exact hh
    | ex c => rw [hz2] at hh; exact Ans.mono (r := (.ex c : R (List D))) hh e1
    | ok d2 =>
      rw [hz2] at hh
      intro v2 H2 e2 rv2
      cases d <;> try exact hh.elim
      cases d2 <;> try exact hh.elim
      rename_i i j
      cases Vd.int (rM_vd rv)
      cases Vd.int (rM_vd rv2)
      by_cases hj : -1000000 ≤ i ∧ i ≤ 1000000 ∧ -1000000 ≤ j ∧ j ≤ 1000000
      · replace hh : Ans C W O H σ (rI X.K m O) Rr (((if -1000000 ≤ i ∧ i ≤ 1000000 ∧ -1000000 ≤ j ∧ j ≤ 1000000 then R.ok (.list (rangeD i (j - i).toNat)) else .no) : R D).bind fun d => ofO (itemsOf d)) := hh
        rw [if_pos hj] at hh
        refine ⟨i, j, rfl, ⟨by omega, by omega, by omega, by omega⟩, hh _ H2 (e1.trans e2) ⟨by rw [range_len, sizeLine_eq]; omega, ?_⟩⟩
        show Walk _ (rangeD i (j - i).toNat).length _ _
        rw [range_len]
        refine walk_range.mono (fun _ _ => trivial) fun i H1 v H2 hi hg y => ?_
        obtain ⟨rfl, rfl⟩ := y
        exact .inl ⟨rfl, _, range_get hi, .int _⟩
      · replace hh : Ans C W O H σ (rI X.K m O) Rr (((if -1000000 ≤ i ∧ i ≤ 1000000 ∧ -1000000 ≤ j ∧ j ≤ 1000000 then R.ok (.list (rangeD i (j - i).toNat)) else .no) : R D).bind fun d => ofO (itemsOf d)) := hh
        rw [if_neg hj] at hh
        exact hh.elim
theorem enum_get {xs : List D} {i : Nat} {d : D} (h : xs[i]? = some d) : (enumD xs)[i]? = some (.tuple [.int i, d]) := by
  have hl : i < xs.length := (List.getElem?_eq_some_iff.mp h).1
  unfold enumD
  rw [List.getElem?_map, List.getElem?_range hl]
  simp [List.getD, h]
theorem enum_len {xs : List D} : (enumD xs).length = xs.length := by simp [enumD]
theorem yd_enum {K : Fr'} {Hs : Hp} {vs : List V} {ds : List D} (r : RpAll K Hs vs ds) {i : Nat} {H1 H2 : Hp} {v : V} (y : YPair (fun i => some (.int (i : Nat))) (fun i => vs[i]?) i H1 v H2) : YD K Hs (enumD ds) i H1 v H2 := by
  obtain ⟨T, x, y, h1, h2, h3, h4, h5⟩ := y
  cases h4
  obtain ⟨d, h6, h7⟩ := RpAll.getV r h5
  exact .inr ⟨T, _, _, h1, h2, h3, enum_get h6, .cons (.int _) (.cons h7 .nil), by show 2 ≤ sizeLine; decide⟩
theorem xi_enum {m : Bool} {elts : List Expr} {kk : Nat} {tpos : Pos} (hg : Gl X "enumerate") (hm : X.mg "enumerate" = none) (h : PEx X C W m a ra) (hs : starEach [a] X.env = [(false, eval a X.env)]) :
    PIx X C W m (.Tuple elts kk tpos) (.Call (.Name "enumerate" p) [a] [] pos) (fun τ => ((ra τ).bind (o1 .enm)).bind fun d => ofO (itemsOf d)) := by
  refine ⟨fun pins s σ H R I hh => ?_⟩
  obtain ⟨O, τ, rs, hh⟩ := hh
  dsimp only at hh
  cases hz : ra τ with
  | no => rw [hz] at hh; exact hh.elim
  | ex c => exact (pi_enum hg hm (pa_cons h pa_nil hs) hs).run pins s σ H R I ⟨O, τ, rs, by rw [hz] at hh ⊢; exact hh⟩
  | ok d =>
    rw [hz] at hh
    cases d with
    | list xs =>
      refine (pi_enum hg hm (pa_cons h pa_nil hs) hs).run pins s σ H R I ⟨O, τ, rs, by
        rw [hz]
        intro v H1 e1 rv
        obtain ⟨a, vs, rfl, h1, h2, h3, h4⟩ := Vd.listM rv
        refine ⟨a, vs, rfl, h1, hh _ H1 e1 ⟨by rw [enum_len]; exact h4, ?_⟩⟩
        have n := h3.length
        show Walk _ (enumD xs).length _ _
        rw [enum_len, ← n]
        exact (walk_enum (K := X.K) (a := a) (xs := vs)).mono (fun H' e => h2 H' e) fun i H1 x H2 hi hg y => yd_enum h3 y⟩
    | tuple xs =>
      refine (pi_enumT hg hm (pa_cons h pa_nil hs) hs).run pins s σ H R I ⟨O, τ, rs, by
        rw [hz]
        intro v H1 e1 rv
        obtain ⟨a, vs, rfl, h1, h2, h3, h4⟩ := Vd.tupleM rv
        refine ⟨a, vs, rfl, h1, hh _ H1 e1 ⟨by rw [enum_len]; exact h4, ?_⟩⟩
        have n := h3.length
        show Walk _ (enumD xs).length _ _
        rw [enum_len, ← n]
        exact (walk_enumT (K := X.K) (a := a) (xs := vs)).mono (fun H' e => h2 H' e) fun i H1 x H2 hi hg y => yd_enum h3 y⟩
    | _ => exact hh.elim
theorem zip_get : ∀ {xs ys : List D} {i : Nat} {d e : D}, xs[i]? = some d → ys[i]? = some e → (zipD xs ys)[i]? = some (.tuple [d, e])
  | [], _, _, _, _, h, _ => by simp at h
  | _ :: _, [], _, _, _, _, h => by simp at h
  | x :: xs, y :: ys, 0, d, e, h, h2 => by simp at h h2; subst h h2; rfl
  | x :: xs, y :: ys, i + 1, d, e, h, h2 => by
    simp only [zipD, List.getElem?_cons_succ] at h h2 ⊢
    exact zip_get h h2
theorem zip_len : ∀ {xs ys : List D}, (zipD xs ys).length = min xs.length ys.length
  | [], _ => by simp [zipD]
  | _ :: _, [] => by simp [zipD]
  | x :: xs, y :: ys => by simp only [zipD, List.length_cons, zip_len (xs := xs) (ys := ys)]; omega
theorem yd_zip {K : Fr'} {Hs : Hp} {vs ws : List V} {ds es : List D} (r : RpAll K Hs vs ds) (r2 : RpAll K Hs ws es) {i : Nat} {H1 H2 : Hp} {v : V} (y : YPair (fun i => vs[i]?) (fun i => ws[i]?) i H1 v H2) : YD K Hs (zipD ds es) i H1 v H2 := by
  obtain ⟨T, x, y, h1, h2, h3, h4, h5⟩ := y
  obtain ⟨d, h6, h7⟩ := RpAll.getV r h4
  obtain ⟨d', h8, h9⟩ := RpAll.getV r2 h5
  exact .inr ⟨T, _, _, h1, h2, h3, zip_get h6 h8, .cons h7 (.cons h9 .nil), by show 2 ≤ sizeLine; decide⟩
theorem walk_zipT {K : Fr'} {a b : Addr} {xs ys : List V} {n : Nat} (hn : n = min xs.length ys.length) : Walk (RZ.ItzT K a b) n (fun H => SqT K H a xs ∧ SqT K H b ys) (YPair (fun i => xs[i]?) (fun i => ys[i]?)) := by
  subst hn
  refine ⟨fun i _ hi q => ?_, fun _ q => ⟨xs, ys, q.1, q.2, by omega⟩, fun i H v H' _ q y => ?_⟩
  · have h1 : i < xs.length := by omega
    have h2 : i < ys.length := by omega
    exact ⟨xs, ys, xs[i], ys[i], q.1, q.2, by simp [h1], by simp [h2]⟩
  · obtain ⟨T, x, z, h1, h2, h3, h4, h5⟩ := y
    exact ⟨T, x, z, h1, h2, h3, h4 xs q.1, h5 ys q.2⟩
theorem Still.after {m : Bool} {O : List Addr} {H H1 H' : Hp} (e : Same H H1) (h : Still m O H1 H') : Still m O H H' := by
  cases m
  · exact e.ex.trans h
  · exact (Same.hide e).trans h
theorem xi_zip {m : Bool} {elts : List Expr} {kk : Nat} {tpos : Pos} (hg : Gl X "zip") (hm : X.mg "zip" = none) (h : PEx X C W m a ra) (h2 : PEx X C W m b rb) (hs : starEach [a, b] X.env = (false, eval a X.env) :: starEach [b] X.env) (hs2 : starEach [b] X.env = (false, eval b X.env) :: starEach [] X.env)  (hpl : (backTo pos (starEach [b] X.env)).any (·.1) = false) :
    PIx X C W m (.Tuple elts kk tpos) (.Call (.Name "zip" p) [a, b] [] pos) (fun τ => ((ra τ).bind fun x => (rb τ).bind fun y => o2 .zip x y).bind fun d => ofO (itemsOf d)) := by
  refine (RZ.pi_zipA hg hm (pa_cons h (pa_cons h2 pa_nil hs2) hs) hs hpl).fimp fun σ H Rr hh => ?_
  obtain ⟨O, τ, rs, hh⟩ := hh
  refine ⟨O, τ, rs, ?_⟩
  dsimp only at hh
  cases hz : ra τ with
  | no => rw [hz] at hh; exact hh
  | ex c => rw [hz] at hh; exact hh
  | ok d =>
    rw [hz] at hh
    intro v H1 e1 rv
    refine ⟨O, τ, rs.mono e1, ?_⟩
    cases hz2 : rb τ with
    | no => rw [hz2] at hh; exact hh
    | ex c => rw [hz2] at hh; exact Ans.mono (r := (.ex c : R (List D))) hh e1
    | ok d2 =>
      rw [hz2] at hh
      intro v2 H2 e2 rv2
      cases d <;> try exact hh.elim
      · cases d2 <;> try exact hh.elim
        rename_i xs ys
        obtain ⟨a1, vs, rfl, h1, h2, h3, h4⟩ := Vd.listM rv
        obtain ⟨a2, ws, rfl, g1, g2, g3, g4⟩ := Vd.listM rv2
        refine ⟨a1, a2, vs, ws, rfl, .inl ⟨sqL_same e2 h1, g1, hh _ H2 (e1.trans e2) ⟨by rw [zip_len]; omega, ?_⟩⟩⟩
        show Walk _ (zipD xs ys).length _ _
        have n1 := h3.length
        have n2 := g3.length
        refine (walk_zip (K := X.K) (a := a1) (b := a2) (xs := vs) (ys := ws) (n := (zipD xs ys).length) (by rw [zip_len, n1, n2])).mono (fun H' e => ⟨h2 H' (Still.after e2 e), g2 H' e⟩) fun i H1 x H2 hi hg y => yd_zip (h3.mono (Same.hide e2)) g3 y
      · cases d2 <;> try exact hh.elim
        rename_i xs ys
        obtain ⟨a1, vs, rfl, h1, h2, h3, h4⟩ := Vd.tupleM rv
        obtain ⟨a2, ws, rfl, g1, g2, g3, g4⟩ := Vd.tupleM rv2
        refine ⟨a1, a2, vs, ws, rfl, .inr ⟨sqT_same e2 h1, g1, hh _ H2 (e1.trans e2) ⟨by rw [zip_len]; omega, ?_⟩⟩⟩
        show Walk _ (zipD xs ys).length _ _
        have n1 := h3.length
        have n2 := g3.length
        refine (walk_zipT (K := X.K) (a := a1) (b := a2) (xs := vs) (ys := ws) (n := (zipD xs ys).length) (by rw [zip_len, n1, n2])).mono (fun H' e => ⟨h2 H' (Still.after e2 e), g2 H' e⟩) fun i H1 x H2 hi hg y => yd_zip (h3.mono (Same.hide e2)) g3 y
end
end Fz

set_option Elab.async false
set_option linter.all false
set_option maxRecDepth 100000
/-! Part M: terms, statements, their evaluation. -/
namespace Fz
open PySem PySem.Spec PyProof.Rows

inductive E where
  | var (i : Nat) | pk (i : Nat) | cst (d : D)
  | tup (es : List E) | lst (es : List E)
  | u (o : U) (a : E) | b (o : B) (a b : E) | cut (a b c : E) | zip3 (a b c : E)
  | and (es : List E) | or (es : List E) | ite (c a b : E) | chain (o p : B) (a b c : E)
  | call (f : Nat) (es : List E)
  | sel (ks : List Str) (es : List E) (k : E)
  | comp (g : Tg) (s c e : E)
  | top
  | thunk (f : Nat) (e : E)

/-- the slots without the lists of their own -/
def unown (τ : Sd) : Sd := τ.map fun o => match o with
  | some (.val d) => some (.val d)
  | _ => none
/-- an outcome handed to a def that tries it (the second: what comes without own lists) -/
def thkR (m : List D → R D) : R D → R D → R D
  | .ok d, _ => m [.bool true, d]
  | .ex _, .ex c => m [.bool false, .int c]
  | _, _ => .no
def cvD : Option Bool → D
  | some b => .bool b
  | none => .none
/-- a def that tries what it is handed: what it returns if all goes well (none: what it got), the class it catches, what it returns then -/
structure TD where
  ret : Option (Option Bool)
  exc : Nat
  val : Option Bool
def mT (t : TD) : List D → R D
  | [.bool true, d] => .ok (match t.ret with | some c => cvD c | none => d)
  | [.bool false, .int c] => if c = t.exc then .ok (cvD t.val) else .no
  | _ => .no
/-- zip of three tuples -/
def z3R (x y z : D) : R D := match x, y, z with
  | .tuple xs, .tuple ys, .tuple zs => .ok (.list (zipD3 xs ys zs))
  | _, _, _ => .no
def asI : D → R Int
  | .int i => .ok i
  | _ => .no
mutual
def ev (Φ : Nat → List D → R D) : E → Sd → R D
  | .var i, τ => look τ i
  | .pk i, τ => peek τ i
  | .cst d, _ => .ok d
  | .tup es, τ => (evs Φ es τ).bind fun ds => .ok (.tuple ds)
  | .lst es, τ => (evs Φ es τ).bind fun ds => .ok (.list ds)
  | .u o a, τ => (ev Φ a τ).bind (o1 o)
  | .b o a b, τ => (ev Φ a τ).bind fun x => (ev Φ b τ).bind (o2 o x)
  | .cut a b c, τ => (ev Φ a τ).bind fun x => (ev Φ b τ).bind fun y => (asI y).bind fun i => (ev Φ c τ).bind fun z => (asI z).bind fun j => cutR x (some i) (some j)
  | .zip3 a b c, τ => (ev Φ a τ).bind fun x => (ev Φ b τ).bind fun y => (ev Φ c τ).bind fun z => z3R x y z
  | .and es, τ => evA Φ es τ
  | .or es, τ => evO Φ es τ
  | .chain o p a b c, τ => (ev Φ a τ).bind fun x => (ev Φ b τ).bind fun y => (o2 o x y).bind fun z => (asB z).bind fun k =>
      if k = true then (ev Φ c τ).bind fun w => o2 p y w else .ok (.bool false)
  | .ite c a b, τ => ((ev Φ c τ).bind asB).bind fun k => if k = true then ev Φ a τ else ev Φ b τ
  | .call f es, τ => (evs Φ es τ).bind (Φ f)
  | .sel ks es k, τ => (evs Φ es τ).bind fun vs => (ev Φ k τ).bind (selD ks vs)
  | .comp g s c e, τ => (ev Φ s τ).bind fun d => (ofO (itemsOf d)).bind fun ds =>
      (turns (fun x => (bindTg g x (wipeD τ g.slots)).bind fun τ2 => ((ev Φ c τ2).bind asB).bind fun k =>
        if k = true then (ev Φ e τ2).bind fun y => .ok (some y) else .ok none) ds).calm.bind fun ys => .ok (.list ys)
  | .top, _ => .no
  | .thunk f e, τ => thkR (Φ f) (ev Φ e τ) (ev Φ e (unown τ))
def evs (Φ : Nat → List D → R D) : List E → Sd → R (List D)
  | [], _ => .ok []
  | e :: r, τ => (ev Φ e τ).bind fun x => (evs Φ r τ).bind fun xs => .ok (x :: xs)
def evA (Φ : Nat → List D → R D) : List E → Sd → R D
  | [], _ => .no
  | e :: r, τ => (ev Φ e τ).bind fun x => (asB x).bind fun c => match r with
    | [] => .ok (.bool c)
    | _ :: _ => if c = true then evA Φ r τ else .ok (.bool false)
def evO (Φ : Nat → List D → R D) : List E → Sd → R D
  | [], _ => .no
  | e :: r, τ => (ev Φ e τ).bind fun x => (asB x).bind fun c => match r with
    | [] => .ok (.bool c)
    | _ :: _ => if c = true then .ok (.bool true) else evO Φ r τ
end

/-! ### statements -/
inductive S where
  | ex (e : E) | set (g : Tg) (e : E) | own (i : Nat) (e : E) | par (l : List (Nat × Bool × E))
  | ret (e : E) | ife (c : E) (a b : List S) | for_ (g : Tg) (e : E) (b : List S) | whl (c : E) (b : List S)
  | app (i : Nat) (e : E) | ext (i : Nat) (e : E) | raise (c : Nat) | pass | fz (l : List Nat) (s : S) | top

inductive SR where
  | nx (τ : Sd) | rt (d : D) | ex (c : Nat) | no
def SR.thn : SR → (Sd → SR) → SR
  | .nx τ, f => f τ
  | .rt d, _ => .rt d
  | .ex c, _ => .ex c
  | .no, _ => .no
def R.toS {α : Type} : R α → (α → SR) → SR
  | .ok a, f => f a
  | .ex c, _ => .ex c
  | .no, _ => .no
@[simp] theorem SR.thn_nx (τ : Sd) (f : Sd → SR) : (SR.nx τ).thn f = f τ := id rfl
@[simp] theorem SR.thn_rt (d : D) (f : Sd → SR) : (SR.rt d).thn f = .rt d := id rfl
@[simp] theorem SR.thn_ex (c : Nat) (f : Sd → SR) : (SR.ex c).thn f = .ex c := id rfl
@[simp] theorem SR.thn_no (f : Sd → SR) : SR.no.thn f = .no := id rfl
@[simp] theorem R.toS_ok {α : Type} (a : α) (f : α → SR) : (R.ok a).toS f = f a := id rfl
@[simp] theorem R.toS_ex {α : Type} (c : Nat) (f : α → SR) : (R.ex c : R α).toS f = .ex c := id rfl
@[simp] theorem R.toS_no {α : Type} (f : α → SR) : (R.no : R α).toS f = .no := id rfl

def frz1 (τ : Sd) (i : Nat) : Sd := match τ[i]? with
  | some (some (.own xs)) => τ.set i (some (.val (.list xs)))
  | _ => τ
def frz (τ : Sd) : List Nat → Sd
  | [] => τ
  | i :: r => frz (frz1 τ i) r
def loopF (f : D → Sd → SR) : List D → Sd → SR
  | [], τ => .nx τ
  | x :: r, τ => (f x τ).thn (loopF f r)
def loopW (c : Sd → R Bool) (f : Sd → SR) : Nat → Sd → SR
  | 0, _ => .no
  | n + 1, τ => (c τ).toS fun b => if b = true then (f τ).thn (loopW c f n) else .nx τ

def ownAt (τ : Sd) (i : Nat) : R (List D) := match τ[i]? with
  | some (some (.own xs)) => .ok xs
  | _ => .no
mutual
def x1 (Φ : Nat → List D → R D) (F : Nat) : S → Sd → SR
  | .ex e, τ => (ev Φ e τ).toS fun _ => .nx τ
  | .set g e, τ => (ev Φ e τ).toS fun d => (bindTg g d τ).toS .nx
  | .own i e, τ => (ev Φ e τ).toS fun d => (match d with
      | .list xs => .nx (τ.set i (some (.own xs)))
      | _ => .no)
  | .par l, τ => (evs Φ (l.map (·.2.2)) τ).toS fun ds => (setPar τ (l.map fun p => (p.1, p.2.1)) ds).toS .nx
  | .ret e, τ => (ev Φ e τ).toS .rt
  | .ife c a b, τ => ((ev Φ c τ).bind asB).toS fun k => if k = true then xs Φ F a τ else xs Φ F b τ
  | .for_ g e b, τ => ((ev Φ e τ).bind fun d => ofO (itemsOf d)).toS fun ds => loopF (fun x τ => (bindTg g x τ).toS (fun τ2 => xs Φ F b τ2)) ds τ
  | .whl c b, τ => loopW (fun τ => (ev Φ c τ).bind asB) (fun τ => xs Φ F b τ) F τ
  | .app i e, τ => (ownAt τ i).toS fun xs => (ev Φ e τ).toS fun d => if xs.length < sizeLine then .nx (τ.set i (some (.own (xs ++ [d])))) else .no
  | .ext i e, τ => (ownAt τ i).toS fun xs => (ev Φ e τ).toS fun d => (ofO (seqOf d)).toS fun ys => if xs.length + ys.length ≤ sizeLine then .nx (τ.set i (some (.own (xs ++ ys)))) else .no
  | .raise c, _ => .ex c
  | .pass, τ => .nx τ
  | .fz l s, τ => x1 Φ F s (frz τ l)
  | .top, _ => .no
def xs (Φ : Nat → List D → R D) (F : Nat) : List S → Sd → SR
  | [], τ => .nx τ
  | s :: r, τ => (x1 Φ F s τ).thn fun τ2 => xs Φ F r τ2
end

/-- a def's mirror: its slots, the arguments first -/
def startD (n : Nat) (ds : List D) : Sd := ds.map (fun d => some (.val d)) ++ List.replicate (n - ds.length) none
def run (Φ : Nat → List D → R D) (F n k : Nat) (body : List S) (ds : List D) : R D :=
  if ds.length = k then (match xs Φ F body (startD n ds) with
    | .rt d => .ok d
    | .nx _ => .ok .none
    | .ex c => .ex c
    | .no => .no) else .no
end Fz

set_option Elab.async false
set_option linter.all false
set_option autoImplicit false
set_option maxRecDepth 100000
/-! Part J: targets, comprehensions, calls of the program's own functions. -/
namespace Fz
open PySem PySem.Spec L2
variable [TabT]

theorem wipe_get (σ : St) : ∀ (js : List Nat) (k : Nat), (L2.wipe σ js)[k]? = if k ∈ js then (σ[k]?).map (fun _ => none) else σ[k]?
  | [], k => by simp [L2.wipe]
  | v :: vs, k => by
    have ih := wipe_get σ vs k
    unfold L2.wipe
    by_cases hv : v = k
    · subst hv
      simp only [List.mem_cons, true_or, if_true]
      by_cases hl : v < σ.length
      · rw [List.getElem?_set_self (by rw [L2.wipe_length]; exact hl), List.getElem?_eq_getElem hl]; rfl
      · rw [List.getElem?_eq_none (by rw [List.length_set, L2.wipe_length]; omega), List.getElem?_eq_none (by omega)]; rfl
    · rw [List.getElem?_set_ne hv, ih]
      simp only [List.mem_cons, show ¬ k = v from fun e => hv e.symm, false_or]
theorem wipe_wipe (σ : St) (js : List Nat) : L2.wipe (L2.wipe σ js) js = L2.wipe σ js := by
  apply List.ext_getElem?
  intro k
  rw [wipe_get, wipe_get]
  by_cases h : k ∈ js
  · simp only [h, if_true, Option.map_map]; rfl
  · simp only [h, if_false]
def setSt : St → List Nat → List V → St
  | σ, i :: is, v :: vs => setSt (σ.set i (some v)) is vs
  | σ, _, _ => σ
theorem setSt_len : ∀ {is : List Nat} {vs : List V} {σ : St}, (setSt σ is vs).length = σ.length
  | [], _, _ => by simp [setSt]
  | _ :: _, [], _ => by simp [setSt]
  | i :: is, v :: vs, σ => by rw [setSt, setSt_len, List.length_set]
theorem setSt_get : ∀ {is : List Nat} {vs : List V} {σ : St} {k : Nat}, k ∉ is → (setSt σ is vs)[k]? = σ[k]?
  | [], _, _, _, _ => by simp [setSt]
  | _ :: _, [], _, _, _ => by simp [setSt]
  | i :: is, v :: vs, σ, k, h => by
    rw [setSt, setSt_get (fun z => h (List.mem_cons_of_mem _ z)), List.getElem?_set_ne (fun e => h (by simp [e]))]
theorem wipe_setSt {is : List Nat} {vs : List V} {σ : St} : L2.wipe (setSt σ is vs) is = L2.wipe σ is := by
  apply List.ext_getElem?
  intro k
  rw [wipe_get, wipe_get]
  by_cases h : k ∈ is
  · simp only [h, if_true]
    by_cases hl : k < σ.length
    · rw [List.getElem?_eq_getElem hl, List.getElem?_eq_getElem (by rw [setSt_len]; exact hl)]; rfl
    · rw [List.getElem?_eq_none (l := setSt σ is vs) (by rw [setSt_len]; omega), List.getElem?_eq_none (l := σ) (by omega)]
  · simp only [h, if_false]
    exact setSt_get h
theorem RS.setSt {K : Fr'} {O : List Addr} {H : Hp} : ∀ {is : List Nat} {vs : List V} {ds : List D} {σ : St} {τ : Sd}, RS K O H σ τ → RpAll K (hide H O) vs ds → is.length = ds.length → RS K O H (Fz.setSt σ is vs) (Fz.setAll τ is ds)
  | [], vs, ds, σ, τ, r, q, _ => by cases q <;> simpa [Fz.setAll, Fz.setSt] using r
  | i :: is, _, _, σ, τ, r, .cons h1 h2, hl => by
    have q := RS.setSt (is := is) (r.setVal (i := i) h1) h2 (by simpa using hl)
    simpa [Fz.setAll, Fz.setSt] using q
  | _ :: _, _, _, _, _, _, .nil, hl => by simp at hl

/-! ### targets -/
def tG (K : Fr') (g : Tg) : TG := fun v σ H Q => ∃ O τ d τ2, RS K O H σ τ ∧ Rp K (hide H O) v d ∧ bindTg g d τ = .ok τ2 ∧ ∀ σ2, RS K O H σ2 τ2 → L2.wipe σ2 g.slots = L2.wipe σ g.slots → Q σ2 H
/-- a name that is stored -/
def Sto (X : Cx) (x : Str) (i : Nat) : Prop := X.N[i]? = some x ∧ Loc X.env.scope x ∧ (X.fn x = true ∨ X.env.scope.names.lookup x = some .local)
section
variable {X : Cx}
theorem xg_name {i : Nat} {x : Str} {pos : Pos} (hN : X.N.Nodup) (h : Sto X x i) : PG X (.Name x pos) (tG X.K (.one i)) := by
  refine (pg_name hN h.1 h.2.1 h.2.2).fimp fun v σ H Q ⟨O, τ, d, τ2, rs, rp, hb, q⟩ => ?_
  cases hb
  exact q _ (rs.setVal rp) (wipe_setSt (is := [i]) (vs := [v]))
def gsN : List Nat → TGs
  | [] => gNil
  | i :: is => gCons (gName i) (gsN is)
inductive Stos (X : Cx) : List Expr → List Nat → Prop
  | nil : Stos X [] []
  | cons {x : Str} {pos : Pos} {i : Nat} {es : List Expr} {is : List Nat} : Sto X x i → Stos X es is → Stos X (.Name x pos :: es) (i :: is)
theorem gsN_rd : ∀ {is : List Nat} {vs : List V} {σ : St} {H : Hp} {Q : St → Hp → Prop}, vs.length = is.length → Q (setSt σ is vs) H → gsN is vs σ H Q
  | [], [], σ, H, Q, _, h => ⟨rfl, h⟩
  | i :: is, v :: vs, σ, H, Q, hl, h => ⟨v, vs, rfl, gsN_rd (by simpa using hl) h⟩
  | [], _ :: _, _, _, _, hl, _ => by simp at hl
  | _ :: _, [], _, _, _, hl, _ => by simp at hl
theorem stos_pgs {es : List Expr} {is : List Nat} (hN : X.N.Nodup) (h : Stos X es is) : PGs X es (gsN is) ∧ (assignEach es X.env).length = is.length ∧ (assignEach es X.env).findIdx? (·.1) = none := by
  induction h with
  | nil => exact ⟨pgs_nil, rfl, rfl⟩
  | cons s _ ih =>
    obtain ⟨h1, h2, h3⟩ := ih
    refine ⟨pgs_cons (pg_name hN s.1 s.2.1 s.2.2) h1 rfl, ?_, ?_⟩
    · show List.length (_ :: assignEach _ X.env) = _
      rw [List.length_cons, h2]; rfl
    · show List.findIdx? _ (_ :: assignEach _ X.env) = none
      rw [List.findIdx?_cons]
      simp only [h3]
      rfl
theorem xg_tup {es : List Expr} {is : List Nat} {k : Nat} {pos : Pos} (hc : X.calm = true) (hN : X.N.Nodup) (h : Stos X es is) : PG X (.Tuple es k pos) (tG X.K (.tup is)) := by
  obtain ⟨h1, h2, h3⟩ := stos_pgs hN h
  refine ⟨fun pins s σ H v u Q I r hh => ?_⟩
  obtain ⟨O, τ, d, τ2, rs, rp, hb, q⟩ := hh
  unfold bindTg at hb
  cases d with
  | list ds =>
    simp only [seqOf] at hb
    split at hb
    · rename_i hl
      cases hb
      cases rp with
      | lst qq rr z =>
        have n := rr.length
        exact (pg_unl hc h1 h2 h3).run pins s σ H _ u Q I r ⟨_, _, rfl, sqL_same ex_hide qq, by omega, gsN_rd (by omega) (q _ (rs.setSt rr hl.symm) wipe_setSt)⟩
    · cases hb
  | tuple ds =>
    simp only [seqOf] at hb
    split at hb
    · rename_i hl
      cases hb
      cases rp with
      | tup qq rr z =>
        have n := rr.length
        exact (pg_tup hc h1 h2 h3).run pins s σ H _ u Q I r ⟨_, _, rfl, sqT_same ex_hide qq, by omega, gsN_rd (by omega) (q _ (rs.setSt rr hl.symm) wipe_setSt)⟩
    · cases hb
  | _ => cases hb

/-! ### comprehensions -/
theorem turns_len {f : D → R (Option D)} : ∀ {ds ys : List D}, turns f ds = .ok ys → ys.length ≤ ds.length
  | [], ys, h => by cases h; simp
  | d :: ds, ys, h => by
    unfold turns at h
    cases hf : f d with
    | ok o =>
      rw [hf] at h
      simp only [R.bind_ok] at h
      cases ht : turns f ds with
      | ok zs =>
        rw [ht] at h
        cases h
        have := turns_len ht
        cases o
        · simp only [List.length_cons]; omega
        · simp only [List.length_cons]; omega
      | ex c => rw [ht] at h; cases h
      | no => rw [ht] at h; cases h
    | ex c => rw [hf] at h; cases h
    | no => rw [hf] at h; cases h
theorem turns_step {f : D → R (Option D)} {d : D} {ds ys : List D} (h : turns f (d :: ds) = .ok ys) : ∃ o zs, f d = .ok o ∧ turns f ds = .ok zs ∧ ys = (match o with | some y => y :: zs | none => zs) := by
  unfold turns at h
  cases hf : f d with
  | ok o =>
    rw [hf] at h
    simp only [R.bind_ok] at h
    cases ht : turns f ds with
    | ok zs => rw [ht] at h; cases h; exact ⟨o, zs, rfl, rfl, rfl⟩
    | ex c => rw [ht] at h; cases h
    | no => rw [ht] at h; cases h
  | ex c => rw [hf] at h; cases h
  | no => rw [hf] at h; cases h
theorem ex_hide1 {O : List Addr} {H1 H2 : Hp} {a : Addr} (h : Fr H1 a) (e : Ex H1 H2) : Ex (hide H1 O) (hide H2 (a :: O)) := fun b o q n => by
  obtain ⟨h1, h2⟩ := hide_some q
  have hb : b ≠ a := fun z => by
    subst z
    obtain ⟨ps, w⟩ := h o h2
    exact n ps w
  rw [hide_out (by simp [hb, h1])]
  exact e b o h2 n
theorem same_hide1 {O : List Addr} {H1 H2 : Hp} {a : Addr} (h : Fr H1 a) (e : Same H1 H2) (L : Lsts H2 (a :: O)) : Same (hide H1 O) (hide H2 (a :: O)) :=
  ⟨ex_hide1 h e.ex, fun t => tab_hide L (e.tab (same_hide.tab t))⟩
theorem RS.hide1 {K : Fr'} {O : List Addr} {H1 H2 : Hp} {σ : St} {τ : Sd} {a : Addr} {vs : List V} (r : RS K O H1 σ τ) (h : Fr H1 a) (e : Same H1 H2) (h2 : H2 a = some (.lst vs)) : RS K (a :: O) H2 σ τ := by
  have hh : Ex (hide H1 O) (hide H2 (a :: O)) := ex_hide1 h e.ex
  refine ⟨e.tab r.tab, r.len, fun b hb => ?_, fun i d q => ?_, fun i xs q => ?_, r.sep⟩
  · rcases List.mem_cons.mp hb with z | z
    · rw [z]; exact ⟨vs, h2⟩
    · exact (r.lst.mono e.ex) b z
  · obtain ⟨v, g1, g2⟩ := r.val i d q
    exact ⟨v, g1, g2.mono hh⟩
  · obtain ⟨b, ws, g1, g2, g3, g4, g5⟩ := r.own i xs q
    exact ⟨b, ws, g1, List.mem_cons_of_mem _ g2, e.lst g3, g4.mono hh, g5⟩
/-- nothing is raised within -/
abbrev W0 : WX := fun _ _ _ _ => False
/-- one turn of a comprehension -/
def turnR (g : Tg) (rt : Sd → R Bool) (re : Sd → R D) (τ : Sd) (x : D) : R (Option D) := (bindTg g x (wipeD τ g.slots)).bind fun τ2 => (rt τ2).bind fun k =>
        if k = true then (re τ2).bind fun y => .ok (some y) else .ok none
variable {C : Nat → Addr} {W : WX}
theorem ex_comp {elt tg iter : Expr} {ifs : List Expr} {scope : Scope} {own : List (Str × Nat)} {pos : Pos} {g : Tg} {ms : Bool} {rsrc : Sd → R (List D)} {rt : Sd → R Bool} {re : Sd → R D} (hc : X.calm = true) (hN : X.N.Nodup) (hi : PIx X C W ms tg iter rsrc) (ok : BlkOk X.N X.env.scope scope own) (hown : own.map (·.2) = g.slots)
    (hg : ∀ (s : Shared) (H : Hp) (Cc : Addr) (cl : List (Str × Addr)) (fp : List Addr), PG (X.blk s H scope (compEnvC scope cl Cc X.env) fp) tg (tG X.K g))
    (ht : ∀ (s : Shared) (H : Hp) (Cc : Addr) (cl : List (Str × Addr)) (fp : List Addr), PTs (X.blk s H scope (compEnvC scope cl Cc X.env) fp) ifs (tR X.K C W0 rB rt))
    (he : ∀ (s : Shared) (H : Hp) (Cc : Addr) (cl : List (Str × Addr)) (fp : List Addr), PEx (X.blk s H scope (compEnvC scope cl Cc X.env) fp) C W0 true elt re) :
    ∀ {σ : St} {H : Hp} {Q : VK}, tF X.K C W (fun τ => (rsrc τ).bind fun ds => (turns (turnR g rt re τ) ds).calm.bind fun ys => .ok (.list ys)) σ H Q →
      tLc (tR X.K C W (rI X.K ms) rsrc) (tG X.K g) (tR X.K C W0 rB rt) (tR X.K C W0 (rM X.K true) re) (own.map (·.2)) σ H Q := by
  intro σ H Q hh
  obtain ⟨O, τ, rs, hh⟩ := hh
  refine ⟨O, τ, rs, Ans.step hh fun ds J H1 e1 wk a1 => ?_⟩
  intro Dd hD
  cases hys : turns (turnR g rt re τ) ds with
  | ex c => rw [hys] at a1; exact a1.elim
  | no => rw [hys] at a1; exact a1.elim
  | ok ys =>
  rw [hys] at a1
  obtain ⟨hsz, wk⟩ := wk
  have hlen := turns_len hys
  have rs1 := rs.mono e1
  rw [hown]
  refine lc_it wk (fun i H2 => Same H1 H2 ∧ ∃ acc ya rest, H2 Dd = some (.lst acc) ∧ RpAll X.K (hide H2 (Dd :: O)) acc ya ∧ turns (turnR g rt re τ) (ds.drop i) = .ok rest ∧ ya ++ rest = ys) ?_ ?_ ?_ ?_
  · exact ⟨same_upd hD, [], [], ys, upd_same, .nil, by simpa using hys, rfl⟩
  · exact fun i H2 _ p => Still.of p.1
  · intro i x H2 H3 hi ⟨e2, acc, ya, rest, h1, h2, h3, h4⟩ y
    have rsD : RS X.K (Dd :: O) H2 σ τ := rs1.hide1 (.of hD) e2 h1
    obtain ⟨d, hd, e3, rp⟩ := y.rp (O := Dd :: O) rsD.lst (ex_hide1 (.of hD) e2.ex)
    have hdrop : ds.drop i = d :: ds.drop (i + 1) := by
      obtain ⟨hl, q⟩ := List.getElem?_eq_some_iff.mp hd
      rw [List.drop_eq_getElem_cons hl, q]
    rw [hdrop] at h3
    obtain ⟨o, zs, hf, hzs, hrest⟩ := turns_step h3
    unfold turnR at hf
    cases hb : bindTg g d (wipeD τ g.slots) with
    | ex c => rw [hb] at hf; cases hf
    | no => rw [hb] at hf; cases hf
    | ok τ2 =>
      rw [hb] at hf
      simp only [R.bind_ok] at hf
      refine ⟨Dd :: O, wipeD τ g.slots, d, τ2, (rsD.mono e3).wipe g.slots, rp, hb, fun σ2 rs2 hw => ⟨?_, ?_⟩⟩
      · rw [hw]; exact wipe_wipe σ g.slots
      cases hk : rt τ2 with
      | ex c => rw [hk] at hf; cases hf
      | no => rw [hk] at hf; cases hf
      | ok k =>
        rw [hk] at hf
        simp only [R.bind_ok] at hf
        refine ⟨Dd :: O, τ2, rs2, ?_⟩
        rw [hk]
        intro b H4 e4 hbk
        cases hbk
        cases k with
        | false =>
          simp only [Bool.false_eq_true, if_false] at hf ⊢
          cases hf
          exact ⟨e2.trans (e3.trans e4), acc, ya, rest, e4.lst (e3.lst h1), h2.mono (Same.hide (e3.trans e4)), by rw [hrest]; exact hzs, h4⟩
        | true =>
          simp only [if_true] at hf ⊢
          cases hr : re τ2 with
          | ex c => rw [hr] at hf; cases hf
          | no => rw [hr] at hf; cases hf
          | ok yv =>
            rw [hr] at hf
            simp only [R.bind_ok] at hf
            cases hf
            have hrest' : rest = yv :: zs := hrest
            subst hrest'
            refine ⟨Dd :: O, τ2, rs2.mono e4, ?_⟩
            rw [hr]
            intro v H5 e5 rv
            have e6 := e3.trans (e4.trans e5)
            have hD5 : H5 Dd = some (.lst acc) := e6.lst h1
            have n1 := h2.length
            have n2 : ya.length + (zs.length + 1) = ys.length := by rw [← h4]; simp
            refine ⟨acc, hD5, by omega, ?_, acc ++ [v], ya ++ [yv], zs, upd_same, ?_, hzs, by simpa using h4⟩
            · exact same_updL (e2.trans e6) (.of hD) hD5
            · rw [hide_upd_in List.mem_cons_self]
              exact (h2.mono (Same.hide e6)).append (.cons rv .nil)
  · intro H2 ⟨e2, acc, ya, rest, h1, h2, h3, h4⟩
    have hr : rest = [] := by
      rw [List.drop_eq_nil_of_le (Nat.le_refl _)] at h3
      cases h3; rfl
    subst hr
    rw [List.append_nil] at h4
    subst h4
    exact a1 _ H2 e2 ⟨Dd, acc, ya, rfl, rfl, e1.ex.free (.of hD), h1, h2, by omega⟩
theorem ex_lc {elt tg iter : Expr} {ifs : List Expr} {scope : Scope} {own : List (Str × Nat)} {pos : Pos} {g : Tg} {ms : Bool} {rsrc : Sd → R (List D)} {rt : Sd → R Bool} {re : Sd → R D} (hc : X.calm = true) (hN : X.N.Nodup) (hi : PIx X C W ms tg iter rsrc) (ok : BlkOk X.N X.env.scope scope own) (hown : own.map (·.2) = g.slots)
    (hg : ∀ (s : Shared) (H : Hp) (Cc : Addr) (cl : List (Str × Addr)) (fp : List Addr), PG (X.blk s H scope (compEnvC scope cl Cc X.env) fp) tg (tG X.K g))
    (ht : ∀ (s : Shared) (H : Hp) (Cc : Addr) (cl : List (Str × Addr)) (fp : List Addr), PTs (X.blk s H scope (compEnvC scope cl Cc X.env) fp) ifs (tR X.K C W0 rB rt))
    (he : ∀ (s : Shared) (H : Hp) (Cc : Addr) (cl : List (Str × Addr)) (fp : List Addr), PEx (X.blk s H scope (compEnvC scope cl Cc X.env) fp) C W0 true elt re) (hs : ∀ x, foldedSetIterable iter X.env x = pure x) :
    PFx X C W (.ListComp elt [⟨tg, iter, ifs, 0⟩] scope pos) (fun τ => (rsrc τ).bind fun ds => (turns (turnR g rt re τ) ds).calm.bind fun ys => .ok (.list ys)) :=
  (pe_lc hc hN hi ok hg ht he hs).fimp fun σ H Q h => ex_comp (pos := pos) hc hN hi ok hown hg ht he h

/-! ### calls -/
/-- what a def promises: the mirror's answer -/
def spM (K : Fr') (C : Nat → Addr) (m : List D → R D) : Sp := fun vs H Q E => ∃ ds, RpAll K H vs ds ∧ LamX.Tabs TabT.T H ∧ (match m ds with
  | .ok d => ∀ v H', Same H H' → Rp K H' v d → Q v H'
  | .ex c => ∀ H', Same H H' → E (.ref (C c)) none H'
  | .no => False)
/-- the def x answers as m -/
def Fn (X : Cx) (C : Nat → Addr) (x : Str) (m : List D → R D) : Prop := ∃ k f fd ps, FnOk X.prog X.w X.K X.mg X.base (L2.CX X.prog X.w) k f fd ps (spM X.K C m) ∧ Room k X.A ∧ X.mg x = some (.ref f) ∧ PySem.W.keepIn X.K (.ref f) = true ∧ Binds X.K fd ps [] ∧ (x == ("__debug__" : Str)) = false
theorem ex_call {m : List D → R D} {x : Str} {p pos : Pos} {e : Expr} {es : List Expr} {rr : Sd → R (List D)} {md : Bool} (F : Fn X C x m) (hg : Gl X x) (tk : Takes X W) (ha : PAx X C W (e :: es) rr)
    (he : starEach (e :: es) X.env = (false, eval e X.env) :: starEach es X.env) (hpl : (backTo pos (starEach es X.env)).any (·.1) = false) :
    PEx X C W md (.Call (.Name x p) (e :: es) [] pos) (fun τ => (rr τ).bind m) := by
  obtain ⟨k, f, fd, ps, F, hr, hm, hk, hb, hdb⟩ := F
  refine ⟨fun pins s σ H Q I h => ?_⟩
  obtain ⟨O, τ, rs, h⟩ := h
  refine wpAny_Call_Name_kw (ld_glob I hg hm ?_ hdb)
  refine PySem.W.callWith_K (h₀ := X.base) I.ok.mod.kin hk (thn (ha.run pos pins s σ H (fun vs H1 => Same H H1 ∧ ∃ ds, RpAll X.K (hide H1 O) vs ds ∧ Ans C W O H1 σ (rM X.K md O) Q (m ds)) I ⟨O, τ, rs, Ans.step h fun ds vs H1 e1 r a => ⟨e1, ds, r, a⟩⟩) fun us s1 ⟨vs, H1, I1, r, e1, ds, rp, q⟩ => ⟨I1.kIn, ?_⟩) he hpl
  have L := (rs.mono e1).lst
  have Ih := Inv.hide I1 L
  refine thn (run_fnS (Q := fun v H2 => Same (hide H1 O) H2 ∧ (∀ H3, hide H3 O = H2 → Same H1 H3 → Q v H3)) (E := WE W) F hr hb (passAt tk σ) Ih r ⟨ds, rp, tab_hide L (rs.mono e1).tab, ?_⟩) fun v s2 hq => ?_
  · cases hmd : m ds with
    | ok d =>
      rw [hmd] at q
      exact fun v H2 e2 rv => ⟨e2, fun H3 e3 e4 => q v H3 e4 (rM_of (by rw [e3]; exact rv))⟩
    | ex c => rw [hmd] at q; exact fun H' e' => q H' (.of L e')
    | no => rw [hmd] at q; exact q.elim
  · obtain ⟨u, H2, I2, r2, e2, q2⟩ := hq
    obtain ⟨I3, hn⟩ := Inv.unhide I1 L I2
    exact ⟨u, _, I3, r2, q2 _ (unhide_hide hn) (same_unhide L hn e2)⟩
theorem ex_call0 {m : List D → R D} {x : Str} {p pos : Pos} {md : Bool} (F : Fn X C x m) (hg : Gl X x) (tk : Takes X W) :
    PEx X C W md (.Call (.Name x p) [] [] pos) (fun τ => (R.ok ([] : List D)).bind m) := by
  obtain ⟨k, f, fd, ps, F, hr, hm, hk, hb, hdb⟩ := F
  refine ⟨fun pins s σ H Q I h => ?_⟩
  obtain ⟨O, τ, rs, q⟩ := h
  refine wpAny_Call_Name_kw (ld_glob I hg hm ?_ hdb)
  refine PySem.W.callWith_K0 I.kIn hk ?_
  have L := rs.lst
  have Ih := Inv.hide I L
  replace q : Ans C W O H σ (rM X.K md O) Q (m []) := q
  refine thn (run_fnS (us := []) (vs := []) (Q := fun v H2 => Same (hide H O) H2 ∧ (∀ H3, hide H3 O = H2 → Same H H3 → Q v H3)) (E := WE W) F hr hb (passAt tk σ) Ih .nil ⟨[], .nil, tab_hide L rs.tab, ?_⟩) fun v s2 hq => ?_
  · cases hmd : m [] with
    | ok d =>
      rw [hmd] at q
      exact fun v H2 e2 rv => ⟨e2, fun H3 e3 e4 => q v H3 e4 (rM_of (by rw [e3]; exact rv))⟩
    | ex c => rw [hmd] at q; exact fun H' e' => q H' (.of L e')
    | no => rw [hmd] at q; exact q.elim
  · obtain ⟨u, H2, I2, r2, e2, q2⟩ := hq
    obtain ⟨I3, hn⟩ := Inv.unhide I L I2
    exact ⟨u, _, I3, r2, q2 _ (unhide_hide hn) (same_unhide L hn e2)⟩
end
end Fz

set_option Elab.async false
set_option linter.all false
set_option autoImplicit false
set_option maxRecDepth 100000
/-! Part K: more expressions. -/
namespace Fz
open PySem PySem.Spec L2
variable [TabT]
section
variable {X : Cx} {C : Nat → Addr} {W : WX} {a b c : Expr} {ra rb rc : Sd → R D} {p p2 pos pos2 : Pos}
theorem cutR_calm (d : D) (l h : Option Int) (n : Nat) : cutR d l h ≠ .ex n := by cases d <;> (intro h; cases h)
theorem cut_end {m : Bool} {O : List Addr} {H : Hp} {σ : St} {τ : Sd} {Q : VK} {x : D} {v : V} {l h : Option Int} (rs : RS X.K O H σ τ) (vd : Vd X.K O H v x) (z : Ans C W O H σ (rM X.K m O) Q (cutR x l h)) : rSl X.K v l h H Q := by
  cases hz : cutR x l h with
  | ex c => exact absurd hz (cutR_calm x l h c)
  | no => rw [hz] at z; exact z.elim
  | ok d => rw [hz] at z; exact ⟨O, x, d, rs.lst, vd, hz, fun w H' e q => z w H' e (rM_of q)⟩
theorem ex_from {m ma mb : Bool} (ha : PEx X C W ma a ra) (hb : PEx X C W mb b rb) : PEx X C W m (.Subscript a (.Slice (some b) none none p2) pos) (fun τ => (ra τ).bind fun x => (rb τ).bind fun y => o2 .from x y) := by
  refine (pe_slice sl_ok ha (po_some hb) po_none).fimp fun σ H Q hh => ?_
  obtain ⟨O, τ, rs, hh⟩ := hh
  refine ⟨O, τ, rs, Ans.step hh fun x v H1 e1 r1 z1 => ⟨O, τ, rs.mono e1, Ans.step z1 fun y u H2 e2 r2 z2 => ?_⟩⟩
  cases y <;> try (cases x <;> exact z2.elim)
  rename_i i
  cases Vd.int (rM_vd r2)
  exact ⟨i, rfl, cut_end (m := m) (rs.mono (e1.trans e2)) ((rM_vd r1).mono e2) (by cases x <;> exact z2)⟩
theorem ex_to {m ma mb : Bool} (ha : PEx X C W ma a ra) (hb : PEx X C W mb b rb) : PEx X C W m (.Subscript a (.Slice none (some b) none p2) pos) (fun τ => (ra τ).bind fun x => (rb τ).bind fun y => o2 .to x y) := by
  refine (pe_slice sl_ok ha po_none (po_some hb)).fimp fun σ H Q hh => ?_
  obtain ⟨O, τ, rs, hh⟩ := hh
  refine ⟨O, τ, rs, Ans.step hh fun x v H1 e1 r1 z1 => ⟨O, τ, rs.mono e1, Ans.step z1 fun y u H2 e2 r2 z2 => ?_⟩⟩
  cases y <;> try (cases x <;> exact z2.elim)
  rename_i i
  cases Vd.int (rM_vd r2)
  exact ⟨i, rfl, cut_end (m := m) (rs.mono (e1.trans e2)) ((rM_vd r1).mono e2) (by cases x <;> exact z2)⟩
theorem ex_cut {m ma mb mc : Bool} (ha : PEx X C W ma a ra) (hb : PEx X C W mb b rb) (hc : PEx X C W mc c rc) : PEx X C W m (.Subscript a (.Slice (some b) (some c) none p2) pos) (fun τ => (ra τ).bind fun x => (rb τ).bind fun y => (asI y).bind fun i => (rc τ).bind fun z => (asI z).bind fun j => cutR x (some i) (some j)) := by
  refine (pe_slice sl_ok ha (po_some hb) (po_some hc)).fimp fun σ H Q hh => ?_
  obtain ⟨O, τ, rs, hh⟩ := hh
  refine ⟨O, τ, rs, Ans.step hh fun x v H1 e1 r1 z1 => ⟨O, τ, rs.mono e1, Ans.step z1 fun y u H2 e2 r2 z2 => ?_⟩⟩
  cases y <;> try exact z2.elim
  rename_i i
  cases Vd.int (rM_vd r2)
  refine ⟨i, rfl, O, τ, rs.mono (e1.trans e2), Ans.step z2 fun w t H3 e3 r3 z3 => ?_⟩
  cases w <;> try exact z3.elim
  rename_i j
  cases Vd.int (rM_vd r3)
  exact ⟨j, rfl, cut_end (m := m) (rs.mono ((e1.trans e2).trans e3)) ((rM_vd r1).mono (e2.trans e3)) z3⟩
/-- isinstance(a, T) -/
theorem ex_inst {m ma : Bool} {T : String} {x : Str} {g : D → Bool} (hk : ∀ d, (∀ kvs, d ≠ .dict kvs) → kitB (tyName d) T = some (g d)) (hgl : Gl X "isinstance") (hm : X.mg "isinstance" = none) (hg2 : Gl X x) (hm2 : X.mg x = none) (hv2 : bootBuiltins x = some (.type T)) (ha : PEx X C W ma a ra)
    (hs : starEach [a, .Name x p2] X.env = (false, eval a X.env) :: starEach [.Name x p2] X.env) (hn : x ≠ "__name__") (hd : (x == ("__debug__" : Str)) = false) :
    PEx X C W m (.Call (.Name "isinstance" p) [a, .Name x p2] [] pos) (fun τ => (ra τ).bind fun d => .ok (.bool (g d))) := by
  refine (pe_callB (inst_ok hk) hgl hm (by decide +kernel) (pa_cons ha (pa_cons (pe_bltn (v := .ty T) hg2 hm2 hv2 rfl hn hd) pa_nil rfl) hs) (by decide) (by decide) hs rfl).fimp fun σ H Q hh => ?_
  obtain ⟨O, τ, rs, hh⟩ := hh
  refine ⟨O, τ, rs, Ans.step hh fun d v H1 e r z => ?_⟩
  exact ⟨O, v, d, rfl, (rs.mono e).lst, rM_vd r, z _ H1 (Same.refl _) (rM_of (.bl _))⟩
omit [TabT] in
theorem firsts_sub : ∀ (xs acc : List D) (d : D), d ∈ firsts acc xs → d ∈ acc ∨ d ∈ xs
  | [], acc, d, h => .inl h
  | x :: r, acc, d, h => by
    unfold firsts at h
    split at h
    · rcases firsts_sub r acc d h with h | h
      · exact .inl h
      · exact .inr (List.mem_cons_of_mem _ h)
    · rcases firsts_sub r _ d h with h | h
      · rcases List.mem_append.mp h with h | h
        · exact .inl h
        · exact .inr (by simpa using .inl (by simpa using h))
      · exact .inr (List.mem_cons_of_mem _ h)
omit [TabT] in
theorem firsts_len : ∀ (xs acc : List D), (firsts acc xs).length ≤ acc.length + xs.length
  | [], acc => by simp [firsts]
  | x :: r, acc => by
    unfold firsts
    split
    · have := firsts_len r acc; simp only [List.length_cons]; omega
    · have := firsts_len r (acc ++ [x]); simp only [List.length_cons, List.length_append, List.length_nil] at this ⊢; omega
omit [TabT] in
theorem isort_eq {l m : List D} (h : PySem.W.AllAlike m) (hm : m.Perm l) : isort m = isort l := by
  have hl : PySem.W.AllAlike l := fun a ha b hb => h a (hm.mem_iff.mpr ha) b (hm.mem_iff.mpr hb)
  rw [← isort_merge hl hm, isort_merge h (List.Perm.refl m)]
/-- sorted(set(a)) -/
theorem ex_sset {m ma : Bool} (hc : X.calm = true) (hu : X.A.units + 64 < cLine) (hgl : Gl X "sorted") (hm : X.mg "sorted" = none) (hg2 : Gl X "set") (hm2 : X.mg "set" = none) (ha : PEx X C W ma a ra)
    (hs : starEach [a] X.env = (false, eval a X.env) :: starEach [] X.env) :
    PEx X C W m (.Call (.Name "sorted" p) [.Call (.Name "set" p2) [a] [] pos2] [] pos) (fun τ => (ra τ).bind (o1 .sset)) := by
  refine (pe_callB (sortSet_ok hc hu) hgl hm (by decide +kernel) (pa_cons (pe_callTy (set_ok hc hu) hg2 hm2 (by decide +kernel) (pa_cons ha pa_nil hs) (by decide) (by decide) hs rfl) pa_nil rfl) (by decide) (by decide) rfl rfl).fimp fun σ H Q hh => ?_
  obtain ⟨O, τ, rs, hh⟩ := hh
  refine ⟨O, τ, rs, Ans.step hh fun d v H1 e r z => ?_⟩
  have rs1 := rs.mono e
  have key : ∀ ds, seqOf d = some ds → Ans C W O H1 σ (rM X.K m O) Q (if setOk ds = true ∧ sortable ds = true then .ok (.list (isort (firsts [] ds))) else .no) → rSet X.w X.K [v] H1 (fun x H1 => rSortSet X.w X.K [x] H1 Q) := by
    intro ds hds z
    split at z
    · rename_i hk
      refine ⟨O, v, d, ds, rfl, rs1.lst, rM_vd r, hds, hk.1, fun a o ds' hn sd hl hsub hperm => ?_⟩
      have e2 : Same H1 (upd H1 a (setAt a o)) := same_upd hn
      have hp := hperm (sortable_alike hk.2)
      have so := sortable_sub hk.2 hsub
      have hl1 := firsts_len ds []
      have hl2 : ds.length ≤ sizeLine := by
        have := rM_vd r
        cases d <;> try cases hds
        · obtain ⟨_, _, _, _, _, z⟩ := Vd.list this; exact z
        · obtain ⟨_, _, _, _, _, z⟩ := Vd.tuple this; exact z
      refine ⟨O, a, o, ds', rfl, (rs1.mono e2).lst, upd_same, sd.mono (Same.hide e2), so, by simp at hl1; omega, fun v H' e3 rv => ?_⟩
      rw [isort_eq (sortable_alike so) hp] at rv
      exact z v H' (e2.trans e3) (rM_of rv)
    · exact z.elim
  cases d <;> try exact z.elim
  · exact key _ rfl z
  · exact key _ rfl z
theorem ex_max2 {m ma mb : Bool} (hc : X.calm = true) (hgl : Gl X "max") (hm : X.mg "max" = none) (ha : PEx X C W ma a ra) (hb : PEx X C W mb b rb)
    (hs : starEach [a, b] X.env = (false, eval a X.env) :: starEach [b] X.env) (hs2 : starEach [b] X.env = (false, eval b X.env) :: starEach [] X.env) (hpl : (backTo pos (starEach [b] X.env)).any (·.1) = false) :
    PEx X C W m (.Call (.Name "max" p) [a, b] [] pos) (fun τ => (ra τ).bind fun x => (rb τ).bind fun y => o2 .max2 x y) := by
  refine (pe_callB (call_max2 hc) hgl hm (by decide +kernel) (pa_cons ha (pa_cons hb pa_nil hs2) hs) (by decide) (by decide) hs hpl).fimp fun σ H Q hh => ?_
  obtain ⟨O, τ, rs, hh⟩ := hh
  refine ⟨O, τ, rs, Ans.step hh fun x v H1 e1 r1 z1 => ⟨O, τ, rs.mono e1, Ans.step z1 fun y u H2 e2 r2 z2 => ?_⟩⟩
  cases x <;> try (cases y <;> exact z2.elim)
  cases y <;> try exact z2.elim
  cases Vd.int (rM_vd r1)
  cases Vd.int (rM_vd r2)
  exact ⟨_, _, rfl, z2 _ H2 (Same.refl _) (rM_of (.int _))⟩
theorem ex_min2 {m ma mb : Bool} (hc : X.calm = true) (hgl : Gl X "min") (hm : X.mg "min" = none) (ha : PEx X C W ma a ra) (hb : PEx X C W mb b rb)
    (hs : starEach [a, b] X.env = (false, eval a X.env) :: starEach [b] X.env) (hs2 : starEach [b] X.env = (false, eval b X.env) :: starEach [] X.env) (hpl : (backTo pos (starEach [b] X.env)).any (·.1) = false) :
    PEx X C W m (.Call (.Name "min" p) [a, b] [] pos) (fun τ => (ra τ).bind fun x => (rb τ).bind fun y => o2 .min2 x y) := by
  refine (pe_callB (call_min2 hc) hgl hm (by decide +kernel) (pa_cons ha (pa_cons hb pa_nil hs2) hs) (by decide) (by decide) hs hpl).fimp fun σ H Q hh => ?_
  obtain ⟨O, τ, rs, hh⟩ := hh
  refine ⟨O, τ, rs, Ans.step hh fun x v H1 e1 r1 z1 => ⟨O, τ, rs.mono e1, Ans.step z1 fun y u H2 e2 r2 z2 => ?_⟩⟩
  cases x <;> try (cases y <;> exact z2.elim)
  cases y <;> try exact z2.elim
  cases Vd.int (rM_vd r1)
  cases Vd.int (rM_vd r2)
  exact ⟨_, _, rfl, z2 _ H2 (Same.refl _) (rM_of (.int _))⟩
end
end Fz

set_option Elab.async false
set_option linter.all false
set_option autoImplicit false
set_option maxRecDepth 100000
/-! Part K2: {'a': x, ..}[k]. -/
namespace Fz
open PySem PySem.Spec L2
variable [TabT]

/-- the lists and tuples stay -/
def SameQ (H H' : Hp) : Prop := ∀ b o, H b = some o → (∀ kvs, o ≠ .dK kvs) → H' b = some o
section
variable {K : Fr'} {H H' : Hp}
theorem rd_lst (e : SameQ H H') {a : Addr} {xs : List V} (h : Rd H a (.lst xs)) : Rd H' a (.lst xs) := by
  rcases h with h | ⟨o, h⟩
  · exact .inl (e _ _ h fun _ z => by cases z)
  · exact .inr ⟨o, e _ _ h fun _ z => by cases z⟩
theorem rd_tup (e : SameQ H H') {a : Addr} {xs : List V} (h : Rd H a (.tup xs)) : Rd H' a (.tup xs) := by
  rcases h with h | ⟨o, h⟩
  · exact .inl (e _ _ h fun _ z => by cases z)
  · exact .inr ⟨o, e _ _ h fun _ z => by cases z⟩
mutual
theorem Rp.monoQ (e : SameQ H H') : ∀ {v : V} {d : D}, Rp K H v d → Rp K H' v d
  | _, _, .non => .non
  | _, _, .bl b => .bl b
  | _, _, .int i => .int i
  | _, _, .str x a b => .str x a b
  | _, _, .lst q r z => .lst (q.imp (rd_lst e) id) (RpAll.monoQ e r) z
  | _, _, .tup q r z => .tup (q.imp (rd_tup e) id) (RpAll.monoQ e r) z
theorem RpAll.monoQ (e : SameQ H H') : ∀ {vs : List V} {ds : List D}, RpAll K H vs ds → RpAll K H' vs ds
  | _, _, .nil => .nil
  | _, _, .cons a b => .cons (Rp.monoQ e a) (RpAll.monoQ e b)
end
end
def rsL : List (Sd → R D) → Sd → R (List D)
  | [], _ => .ok []
  | r :: rs, τ => (r τ).bind fun x => (rsL rs τ).bind fun xs => .ok (x :: xs)
inductive PEl (X : Cx) (C : Nat → Addr) (W : WX) : List Expr → List (Sd → R D) → Prop
  | nil : PEl X C W [] []
  | cons {x : Expr} {xs : List Expr} {r : Sd → R D} {rs : List (Sd → R D)} : PEx X C W true x r → PEl X C W xs rs → PEl X C W (x :: xs) (r :: rs)
inductive Keys : List Str → List (Option Expr) → Prop
  | nil : Keys [] []
  | cons {k : Str} {ks : List Str} {j : Nat} {p : Pos} {es : List (Option Expr)} : Keys ks es → Keys (k :: ks) (some (.Constant (.str k) j p) :: es)
section
variable {X : Cx} {C : Nat → Addr} {W : WX}
def trsOf (K : Fr') (C : Nat → Addr) (W : WX) : List Str → List (Sd → R D) → List (TE × TE)
  | k :: ks, r :: rs => (tC (.str k), tR K C W (rM K true) r) :: trsOf K C W ks rs
  | _, _ => []
theorem pps_of {pos : Pos} {ks : List Str} {es : List (Option Expr)} (hk : Keys ks es) : ∀ {xs : List Expr} {rs : List (Sd → R D)}, PEl X C W xs rs → ks.length = rs.length → PPs X pos es xs (trsOf X.K C W ks rs) := by
  induction hk with
  | nil =>
    intro xs rs h hl
    cases h with
    | nil => exact pps_nil
    | cons _ _ => simp at hl
  | cons hk ih =>
    intro xs rs h hl
    cases h with
    | nil => simp at hl
    | cons p q => exact pps_cons pe_str p (ih q (by simpa using hl))
theorem pairs_rd {O : List Addr} {σ : St} {τ : Sd} : ∀ {ks : List Str} {rs : List (Sd → R D)} {H : Hp} {Q : List (V × V) → Hp → Prop}, ks.length = rs.length → RS X.K O H σ τ →
    Ans C W O H σ (fun H' (ps : List (V × V)) ds => ∃ vs, RpAll X.K (hide H' O) vs ds ∧ ps = (ks.zip vs).map fun p => (V.str p.1, p.2)) Q (rsL rs τ) → tPairs (trsOf X.K C W ks rs) σ H Q
  | [], [], H, Q, _, r, h => h [] H (Same.refl _) ⟨[], .nil, rfl⟩
  | [], _ :: _, _, _, hl, _, _ => by simp at hl
  | _ :: _, [], _, _, hl, _, _ => by simp at hl
  | k :: ks, r :: rs, H, Q, hl, rr, h => by
    show tR X.K C W (rM X.K true) r σ H fun y H2 => tPairs (trsOf X.K C W ks rs) σ H2 fun ps H3 => Q ((.str k, y) :: ps) H3
    refine ⟨O, τ, rr, Ans.step (show Ans C W O H σ _ Q ((r τ).bind fun x => (rsL rs τ).bind fun xs => .ok (x :: xs)) from h) fun d v H1 e rv a1 => ?_⟩
    refine pairs_rd (by simpa using hl) (rr.mono e) (Ans.step a1 fun ds ps H2 e2 q z => ?_)
    obtain ⟨vs, q1, rfl⟩ := q
    exact z _ H2 (Same.refl _) ⟨v :: vs, .cons (Rp.mono (Same.hide e2) rv) q1, rfl⟩
def kvOf (ks : List Str) (vs : List V) : List (Key × V) := (ks.zip vs).map fun p => (Sum.inr p.1, p.2)
theorem kv_keys : ∀ {ks : List Str} {vs : List V} {k : Str}, k ∉ ks → valV (kvOf ks vs) (Sum.inr k) = none
  | [], _, _, _ => rfl
  | _ :: _, [], _, _ => rfl
  | a :: ks, v :: vs, k, h => by
    show valV ((Sum.inr a, v) :: kvOf ks vs) _ = none
    rw [valV_neg (fun e => h (by simp [Sum.inr.inj e]))]
    exact kv_keys fun z => h (List.mem_cons_of_mem _ z)
theorem val_merge : ∀ {ks : List Str} {vs : List V} {acc : List (Key × V)} {k : Str}, ks.Nodup → valV (mergeK acc (kvOf ks vs)) (Sum.inr k) = (match valV (kvOf ks vs) (Sum.inr k) with | some v => some v | none => valV acc (Sum.inr k))
  | [], _, _, _, _ => rfl
  | _ :: _, [], _, _, _ => rfl
  | a :: ks, v :: vs, acc, k, h => by
    show valV (mergeK (putK acc (Sum.inr a) v) (kvOf ks vs)) _ = (match valV ((Sum.inr a, v) :: kvOf ks vs) (Sum.inr k) with | some v => some v | none => valV acc (Sum.inr k))
    obtain ⟨h1, h2⟩ := List.nodup_cons.mp h
    rw [val_merge h2, valV_put]
    by_cases e : k = a
    · subst e
      rw [kv_keys h1, valV_pos (p := (Sum.inr k, v)) rfl]
      simp
    · rw [valV_neg (p := (Sum.inr a, v)) (fun z => e (Sum.inr.inj z).symm)]
      cases valV (kvOf ks vs) (Sum.inr k) with
      | some u => rfl
      | none => simp only; rw [if_neg (fun z => e (Sum.inr.inj z))]
theorem sel_get {K : Fr'} {H : Hp} : ∀ {ks : List Str} {vs : List V} {ds : List D} {x : Str} {d : D}, RpAll K H vs ds → selD ks ds (.str x) = .ok d → ∃ v, valV (kvOf ks vs) (Sum.inr x) = some v ∧ Rp K H v d
  | [], _, ds, _, _, _, h => by cases ds <;> cases h
  | _ :: _, _, _, _, _, .nil, h => by cases h
  | k :: ks, _, _, x, d, .cons (v := v) (vs := vs) (d := d') (ds := ds) r t, h => by
    unfold selD at h
    simp only at h
    split at h
    · rename_i e
      cases h
      exact ⟨v, valV_pos (p := (Sum.inr k, v)) (congrArg Sum.inr e.symm), r⟩
    · rename_i e
      obtain ⟨u, q1, q2⟩ := sel_get t h
      exact ⟨u, (valV_neg (p := (Sum.inr k, v)) (fun z => e (Sum.inr.inj z).symm)).trans q1, q2⟩
theorem selD_calm : ∀ (ks : List Str) (ds : List D) (d : D) (c : Nat), selD ks ds d ≠ .ex c
  | [], ds, d, c => by cases ds <;> (intro h; cases h)
  | _ :: _, [], d, c => by intro h; cases h
  | k :: ks, v :: vs, d, c => by
    unfold selD
    split
    · split
      · intro h; cases h
      · exact selD_calm ks vs _ c
    · intro h; cases h
theorem selD_str : ∀ {ks : List Str} {ds : List D} {d e : D}, selD ks ds d = .ok e → ∃ x, d = .str x
  | [], ds, d, e, h => by cases ds <;> cases h
  | _ :: _, [], d, e, h => by cases h
  | k :: ks, v :: vs, d, e, h => by
    unfold selD at h
    split at h
    · exact ⟨_, rfl⟩
    · cases h
theorem ex_sel {m mk : Bool} {ks : List Str} {keys : List (Option Expr)} {xs : List Expr} {rs : List (Sd → R D)} {k : Expr} {rk : Sd → R D} {pos dpos : Pos} (hu : X.A.units + 64 < cLine) (hk : Keys ks keys) (hv : PEl X C W xs rs) (hl : ks.length = rs.length) (h0 : ks ≠ []) (h15 : ks.length ≤ 15) (hn : ks.Nodup) (he : PEx X C W mk k rk) (hs : NoSl k) :
    PEx X C W m (.Subscript (.Dict keys xs dpos) k pos) (fun τ => (rsL rs τ).bind fun ds => (rk τ).bind (selD ks ds)) := by
  have kl : keys.length = ks.length := by
    clear hl h0 h15 hn
    induction hk with
    | nil => rfl
    | cons _ ih => simp [ih]
  have ka : keys.all (·.isSome) = true := by
    clear hl h0 h15 hn kl
    induction hk with
    | nil => rfl
    | cons _ ih => simpa using ih
  have xl : xs.length = rs.length := by
    clear hl
    induction hv with
    | nil => rfl
    | cons _ _ ih => simp [ih]
  refine (pe_dget (by omega) (pe_disp (pps_of hk hv hl) ka (by omega) (fun z => h0 (by rw [z] at kl; exact List.length_eq_zero_iff.mp kl.symm)) (by omega)) he hs).fimp fun σ H Q hh => ?_
  obtain ⟨O, τ, r, hh⟩ := hh
  intro p hp
  have e0 : Same H (L2.upd H p (.dK [])) := same_upd hp
  dsimp only at hh
  refine pairs_rd hl (r.mono e0) ?_
  cases hr : rsL rs τ with
  | no => rw [hr] at hh; exact hh
  | ex c => rw [hr] at hh; exact Ans.mono (r := (.ex c : R D)) hh e0
  | ok ds =>
  rw [hr] at hh
  intro ps H2 e2 q
  obtain ⟨vs, q1, rfl⟩ := q
  have hp2 : H2 p = some (.dK []) := e2.ex _ _ upd_same fun _ z => by cases z
  refine ⟨hp2, kvOf ks vs, by simp [kvOf, List.map_map]; intros; rfl, ?_, ?_⟩
  · have : (kvOf ks vs).length ≤ ks.length := by simp [kvOf, List.length_zip]; omega
    omega
  have e3 : Same H (L2.upd H2 p (.dK (mergeK [] (kvOf ks vs)))) := same_put (e0.trans e2) (.of hp) hp2 (fun _ z => by cases z) (fun _ z => by cases z)
  have eq : SameQ (hide H2 O) (hide (L2.upd H2 p (.dK (mergeK [] (kvOf ks vs)))) O) := fun b o hb hd => by
    obtain ⟨h1, h2⟩ := hide_some hb
    have hbp : b ≠ p := by intro z; subst z; rw [hp2] at h2; cases h2; exact hd [] rfl
    rw [hide_out h1, upd_ne hbp]; exact h2
  refine ⟨O, τ, r.mono e3, Ans.step (Ans.mono hh e3) fun d y H4 e4 ry z => ?_⟩
  cases hz : selD ks ds d with
  | ex c => exact absurd hz (selD_calm ks ds d c)
  | no => rw [hz] at z; exact z.elim
  | ok d' =>
    rw [hz] at z
    obtain ⟨x, rfl⟩ := selD_str hz
    obtain ⟨v, g1, g2⟩ := sel_get q1 hz
    obtain ⟨rfl, _, _⟩ := Vd.str (rM_vd ry)
    have hg : valV (mergeK [] (kvOf ks vs)) (Sum.inr x) = some v := by
      rw [val_merge hn, g1]
    refine ⟨p, v, rfl, ?_, z v H4 (Same.refl _) (rM_of ((g2.monoQ eq).mono (Same.hide e4)))⟩
    have := DGet.k (k := Sum.inr x) (e4.ex _ _ (upd_same (H := H2) (a := p) (o := .dK (mergeK [] (kvOf ks vs)))) fun _ z => by cases z)
    rw [hg] at this
    exact this
end
end Fz

set_option Elab.async false
set_option linter.all false
set_option autoImplicit false
set_option maxRecDepth 100000
/-! Part K3: t[::-1]. -/
namespace Fz
open PySem PySem.Spec PyProof.Rows L2
variable [TabT]
section
variable {prog : Program} {w : World} {A : Around} {E : Value → Shared → Prop} {s : Shared}
theorem slice_rev {sl : Addr} {tk : Tok} {n : Nat} {Q : Int × Int × Nat → Shared → Prop} (hs : s.heap.IsSliceOf sl .none .none (.int (-1) tk))
    (h : Q ((n : Int) - 1, -1, n) s) : wpAny (model prog w) A (Builtin.Slice.sliceApplied (.ref sl) (pure (n : Int))) Q E s := by
  obtain ⟨os, hos, hcs, hds⟩ := id hs
  unfold Builtin.Slice.sliceApplied Builtin.Slice.sliceFields
  refine wpAny_bind (wpAny_bind (wpAny_field hos hds (x := .none) rfl (wpAny_bind (wpAny_field hos hds (x := .none) rfl (wpAny_bind (wpAny_field hos hds (x := .int (-1) tk) rfl (wpAny_pure ?_)))))))
  refine wpAny_bind (slicePart_int ?_)
  show wpAny _ _ (if ((-1 : Int) == 0) = true then _ else _) _ _ s
  rw [if_neg (by decide)]
  refine wpAny_bind (slicePart_none (wpAny_bind (slicePart_none (wpAny_bind (wpAny_pure ?_)))))
  show wpAny _ _ (pure ((n : Int) - 1, (-1 : Int), Builtin.Slice.slicePlaces ((n : Int) - 1) (-1) (-1))) _ _ s
  have : Builtin.Slice.slicePlaces ((n : Int) - 1) (-1) (-1) = n := by
    unfold Builtin.Slice.slicePlaces
    have h1 : ¬ ((-1 : Int) > 0) := by omega
    simp only [h1, if_false]
    split
    · simp <;> omega
    · omega
  rw [this]
  exact wpAny_pure h
theorem pick_rev (xs : Array Value) : ((List.range xs.size).filterMap fun (m : Nat) => xs[((xs.size : Int) - 1 + (m : Int) * (-1)).toNat]?).toArray = xs.toList.reverse.toArray := by
  congr 1
  have key : ∀ k, k ≤ xs.size → ((List.range k).filterMap fun (m : Nat) => xs[((xs.size : Int) - 1 + (m : Int) * (-1)).toNat]?) = xs.toList.reverse.take k := by
    intro k
    induction k with
    | zero => intro _; rfl
    | succ k ih =>
      intro hk
      rw [List.range_succ, List.filterMap_append, ih (by omega)]
      have e : ((xs.size : Int) - 1 + (k : Int) * (-1)).toNat = xs.size - 1 - k := by omega
      have hl : xs.size - 1 - k < xs.size := by omega
      rw [List.take_succ]
      congr 1
      simp only [List.filterMap_cons, List.filterMap_nil, e]
      rw [List.getElem?_reverse (by simp; omega)]
      simp [hl]
  rw [key xs.size (Nat.le_refl _)]
  exact List.take_of_length_le (by simp)
theorem getItem_rev {t sl : Addr} {items : Array Value} {tk : Tok} {Q : Value → Shared → Prop} (ht : IsTup s.heap t items) (hs : s.heap.IsSliceOf sl .none .none (.int (-1) tk))
    (h : Q (.ref s.heap.objs.size) { s with heap := s.heap.push { cls := .type "tuple", data := .seq items.toList.reverse.toArray } })
    (hsz : items.size ≤ sizeLine) : wpAny (model prog w) A (getItem (.ref t) (.ref sl)) Q E s := by
  have htake : sizeOk (.seq items.toList.reverse.toArray) := by
    show items.toList.reverse.toArray.size ≤ sizeLine
    rw [List.size_toArray, List.length_reverse, Array.length_toList]
    omega
  obtain ⟨os, hos, hcs, hds⟩ := id hs
  have hTs : s.TypeIs (.ref sl) "slice" := ⟨os, hos, hcs⟩
  unfold getItem
  try with_reducible refine wpAny_holding ?_
  first | refine wpAny_bind (wpAny_pure ?_) | skip
  refine wpAny_bind (wpAny_sequenceKey ht.typeIs (by decide) ?_)
  refine wpAny_bind (wpAny_callSpecial?_slot (name := Str.ofString "__getitem__") ht.typeIs PyProof.Rows.slot_tuple_getitem
    (wpAny_call_entry PyProof.Rows.slot_tuple_getitem ht.typeIs entry_tuple_getitem ?_ (args_tuple_getitem _ _)))
  show wpAny _ _ (Builtin.Tuple.tupleItemsOf (.ref t) >>= _) _ _ s
  refine wpAny_bind (tupleItemsOf_ ht ?_)
  refine wpAny_bind (wpAny_typeOf hTs ?_)
  rw [if_pos (by decide)]
  refine wpAny_bind (slice_rev hs ?_)
  show wpAny _ _ (if (((items.size : Int) - 1) == 0 && (-1 : Int) == 1 && items.size == items.size) = true then _ else _) _ _ s
  rw [if_neg (by simp), pick_rev]
  first
    | exact wpAny_bind (m := Builtin.Tuple.tupleExact _) (wpAny_newObj_type (wpAny_pure ⟨_, rfl, wpAny_pure h⟩) htake)
    | exact wpAny_bind (m := Builtin.Tuple.tupleExact _) (wpAny_newObj_type (wpAny_bind (wpAny_pure (wpAny_pure ⟨_, rfl, wpAny_pure h⟩))) htake)
    | exact wpAny_bind (wpAny_bind (m := Builtin.Tuple.tupleExact _) (wpAny_newObj_type (wpAny_pure (wpAny_pure ⟨_, rfl, wpAny_pure h⟩)) htake))
    | exact wpAny_bind (wpAny_bind (m := Builtin.Tuple.tupleExact _) (wpAny_newObj_type (wpAny_pure ⟨_, rfl, wpAny_pure h⟩) htake))
end
theorem vals_reverse {vs : List V} {us : List Value} (h : Vals vs us) : Vals vs.reverse us.reverse := by
  induction h with
  | nil => exact .nil
  | cons a b ih =>
    rw [List.reverse_cons, List.reverse_cons]
    exact ih.append (.cons a .nil)
section
variable {X : Cx} {e st : Expr} {te ts : TE} {pos p2 : Pos}
def tRev (K : Fr') (te ts : TE) : TE := fun σ H Q => te σ H fun x H1 => ts σ H1 fun y H2 => y = .int (-1) ∧ ∃ a xs, x = .ref a ∧ SqT K H2 a xs ∧ ∀ p, H2 p = none → Q (.ref p) (upd H2 p (.tup xs.reverse))
theorem pe_rev (he : PE X e te) (hst : PE X st ts) : PE X (.Subscript e (.Slice none none (some st) p2) pos) (tRev X.K te ts) := by
  refine ⟨fun pins s σ H Q I h => ?_⟩
  refine Subscript_ (thn (he.run pins s σ H _ I h) fun v s1 ⟨x, H1, I1, r1, q1⟩ => ?_)
  refine wpAny_Slice ?_
  rw [evalPart_none]
  refine wpAny_pure (wpAny_pure ?_)
  rw [evalPart_some]
  refine thn (hst.run pins s1 σ H1 _ I1 q1) fun u s3 ⟨y, H3, I3, r3, q3⟩ => ?_
  obtain ⟨rfl, a, xs, rfl, hx, q⟩ := q3
  obtain ⟨tk, rfl⟩ := r3
  cases r1
  have I4 : Inv X pins σ H3 { s3 with heap := s3.heap.push { cls := .type "slice", data := .fields #[.none, .none, .int (-1) tk] } } := I3.kept (t' := s3.toks) fun b ob q => Heap.get?_push_of_some _ q
  obtain ⟨its, r, ht, hz⟩ := I4.tuple hx
  have hlen : its.toArray.size = xs.length := by rw [List.size_toArray]; exact r.length.symm
  refine tail_any (ops := [.ref a, .ref s3.heap.objs.size]) ht.typeIs PyProof.Rows.slot_tuple_getitem.lookup ?_ (by with_unfolding_all rfl)
  refine getItem_rev ht (Heap.IsSliceOf.new ..) ?_ (by rw [hlen]; exact hz)
  refine ⟨.ref _, _, I4.laid (t' := s3.toks) (o := .tup xs.reverse) (fun b ob q => Heap.get?_push_of_some _ q) (Nat.le_refl _) ?_, rfl, q _ (I4.hok.fresh (Nat.le_refl _))⟩
  refine ⟨by rw [List.length_reverse]; exact hz, _, vals_reverse r, ?_⟩
  exact IsTup.new _ _
end
section
variable {K : Fr'} {H : Hp}
theorem RpAll.reverse : ∀ {vs : List V} {ds : List D}, RpAll K H vs ds → RpAll K H vs.reverse ds.reverse
  | _, _, .nil => .nil
  | _, _, .cons a b => by
    rw [List.reverse_cons, List.reverse_cons]
    exact RpAll.append (RpAll.reverse b) (.cons a .nil)
end
section
variable {X : Cx} {C : Nat → Addr} {W : WX} {a b : Expr} {ra rb : Sd → R D} {p2 pos : Pos}
theorem ex_rev {m ma mb : Bool} (ha : PEx X C W ma a ra) (hb : PEx X C W mb b rb) : PEx X C W m (.Subscript a (.Slice none none (some b) p2) pos) (fun τ => (ra τ).bind fun x => (rb τ).bind fun y => o2 .step x y) := by
  refine (pe_rev ha hb).fimp fun σ H Q hh => ?_
  obtain ⟨O, τ, rs, hh⟩ := hh
  refine ⟨O, τ, rs, Ans.step hh fun x v H1 e1 r1 z1 => ⟨O, τ, rs.mono e1, Ans.step z1 fun y u H2 e2 r2 z2 => ?_⟩⟩
  cases y <;> try (cases x <;> exact z2.elim)
  rename_i i
  cases Vd.int (rM_vd r2)
  cases x <;> try exact z2.elim
  rename_i xs
  have z3 : Ans C W O H2 σ (rM X.K m O) Q (if i = -1 then R.ok (.tuple xs.reverse) else .no) := z2
  by_cases hi : i = -1
  · rw [if_pos hi] at z3
    subst hi
    obtain ⟨q, vs, rfl, h1, h2, h3⟩ := Vd.tuple (rM_vd r1)
    refine ⟨rfl, q, vs, rfl, sqT_same e2 (sqT_same ex_hide h1), fun p hp => ?_⟩
    exact z3 _ _ (same_upd hp) (rM_of (rp_newT (rs.mono (e1.trans e2)).lst hp (h2.mono (Same.hide e2)).reverse (by rw [List.length_reverse]; exact h3)))
  · rw [if_neg hi] at z3
    exact z3.elim
end
end Fz

set_option Elab.async false
set_option linter.all false
set_option autoImplicit false
set_option maxRecDepth 100000
/-! Part Th: f(lambda: e), where the def f tries its argument. -/
namespace Fz
open PySem PySem.Spec L2 LamX
variable [TabT]
def cvV : Option Bool → V
  | some b => .bl b
  | none => .non
def cvE : Expr → Option (Option Bool)
  | .Constant (.bool b) _ _ => some (some b)
  | .Constant .none _ _ => some none
  | _ => none
theorem cv_pe {X : Cx} {x : Expr} {c : Option Bool} (h : cvE x = some c) : PE X x (tC (cvV c)) := by
  unfold cvE at h
  split at h
  · cases h; exact pe_bl
  · cases h; exact pe_non
  · cases h
theorem cv_rp {K : Fr'} {H : Hp} (c : Option Bool) : Rp K H (cvV c) (cvD c) := by
  cases c with
  | none => exact .non
  | some b => exact .bl b
/-- the body of a def that tries its argument: the class that it catches, by name -/
def thkS (a e : Str) : List Stmt → Option (Option (Option Bool) × Option Bool)
  | [.Try [.Return (some (.Call (.Name a1 _) [] [] _)) _] [.ExceptHandler (some (.Name e1 _)) none [.Return (some c) _] _] [] [] _] =>
      if a1 == a && e1 == e then (cvE c).map fun v => (none, v) else none
  | [.Try [.Expr (.Call (.Name a1 _) [] [] _) _] [.ExceptHandler (some (.Name e1 _)) none [.Return (some c) _] _] [] [] _, .Return (some d) _] =>
      if a1 == a && e1 == e then (cvE c).bind fun v => (cvE d).map fun u => (some u, v) else none
  | _ => none
/-- what the def makes of its argument's reading -/
def TTm (K : Fr') (CS : Addr) (ret : Option (Option Bool)) (val : Option Bool) : (XK → Hp → VK → Prop) → Hp → VK → Prop := fun tl H Q =>
  tl (fun cls _ H' => PySem.W.exmOne K cls (.ref CS) = some true ∧ Q (cvV val) H') H fun v H' => Q (match ret with | some u => cvV u | none => v) H'
theorem gives {X : Cx} {Ng : List Str} {x a e q : Str} {sg : Scope} {g CS : Addr} {cdg : Value} {bg : List Stmt} {ret : Option (Option Bool)} {val : Option Bool} (hb : thkS a e bg = some (ret, val))
    (hge : sg.names.lookup e = some .globalImplicit) (hme : X.mg e = some (.ref CS)) (hde : (e == ("__debug__" : Str)) = false) (h0 : ∀ f : Addr, (L2.start Ng [V.ref f])[0]? = some (some (V.ref f))) :
    GivesTo X Ng x sg g cdg bg a q (TTm X.K CS ret val) := by
  intro f c' s H Q tl act hc h
  let Z := (cxOf C8.CX0 X.prog X.w X.K X.mg X.base Ng x sg g cdg X.A X.stack s H C8.E0).nox
  have nm : Names Z e (.ref CS) := ⟨hge, hde, .inl hme⟩
  let Ech : XK := fun cls _ H' => PySem.W.exmOne X.K cls (.ref CS) = some true ∧ Q (cvV val) H'
  unfold thkS at hb
  split at hb
  · rename_i a1 p1 p2 p3 e1 p4 cx p6 p7 p8
    split at hb
    · rename_i hae
      simp only [Bool.and_eq_true, beq_iff_eq] at hae
      obtain ⟨rfl, rfl⟩ := hae
      cases hcv : cvE cx with
      | none => rw [hcv] at hb; cases hb
      | some v =>
        rw [hcv] at hb
        cases hb
        refine ⟨_, pss_one (ps_try_only (X := Z) (c := .ref CS) (tb := fun W Dd τ H2 => (∀ cls d τ' H', Ech cls d H' → W cls d τ' H') ∧ τ[0]? = some (some (.ref f)) ∧ H2 c' = some (CodeO c' q) ∧ tl Ech H2 Dd.rt)
          rfl rfl nm L2.takes0 (fun W pn xe tk _ => ⟨fun pins s' τ H2 Dd I hh => ?_⟩) (fun _ _ _ _ _ _ _ => pss_one (ps_ret (cv_pe hcv)))), ?_⟩
        · exact (pss_one (ps_ret (act W pn xe Ech p1 p2 tk hh.1))).run pins s' τ H2 Dd I hh.2
        · exact ⟨fun cls d τ' H' w => ⟨true, w.1, fun _ _ _ => w.2, fun z => by cases z⟩, h0 f, hc, h⟩
    · cases hb
  · rename_i a1 p1 p2 p3 e1 p4 cx p6 p7 p8 dx p9
    split at hb
    · rename_i hae
      simp only [Bool.and_eq_true, beq_iff_eq] at hae
      obtain ⟨rfl, rfl⟩ := hae
      cases hcv : cvE cx with
      | none => rw [hcv] at hb; cases hb
      | some v =>
        cases hcd : cvE dx with
        | none => rw [hcv, hcd] at hb; cases hb
        | some u =>
          rw [hcv, hcd] at hb
          cases hb
          refine ⟨_, pss_cons (ps_try_only (X := Z) (c := .ref CS) (tb := fun W Dd τ H2 => (∀ cls d τ' H', Ech cls d H' → W cls d τ' H') ∧ τ[0]? = some (some (.ref f)) ∧ H2 c' = some (CodeO c' q) ∧ tl Ech H2 fun _ H3 => Dd.nx τ H3)
            rfl rfl nm L2.takes0 (fun W pn xe tk _ => ⟨fun pins s' τ H2 Dd I hh => ?_⟩) (fun _ _ _ _ _ _ _ => pss_one (ps_ret (cv_pe hcv)))) (pss_one (ps_ret (cv_pe hcd))), ?_⟩
          · exact (pss_one (ps_expr (act W pn xe Ech p1 p2 tk hh.1))).run pins s' τ H2 Dd I hh.2
          · exact ⟨fun cls d τ' H' w => ⟨true, w.1, fun _ _ _ => w.2, fun z => by cases z⟩, h0 f, hc, h⟩
    · cases hb
  · cases hb
theorem un_get {τ : Sd} {i : Nat} {z : Sv} (h : (unown τ)[i]? = some (some z)) : ∃ d, z = .val d ∧ τ[i]? = some (some (.val d)) := by
  unfold unown at h
  rw [List.getElem?_map] at h
  cases ht : τ[i]? with
  | none => rw [ht] at h; cases h
  | some o =>
    rw [ht] at h
    cases o with
    | none => cases h
    | some v =>
      cases v with
      | val d => cases h; exact ⟨d, rfl, rfl⟩
      | own xs => cases h
theorem RS.unown {K : Fr'} {O : List Addr} {H : Hp} {σ : St} {τ : Sd} (r : RS K O H σ τ) : RS K [] H σ (Fz.unown τ) := by
  refine ⟨r.tab, by simp [Fz.unown, r.len], fun a h => (by cases h), fun i d e => ?_, fun i xs e => ?_, fun i j a xs ys _ e _ _ _ => ?_⟩
  · obtain ⟨d', z, q⟩ := un_get e
    cases z
    obtain ⟨v, h1, h2⟩ := r.val i d q
    exact ⟨v, h1, by rw [hide_nil]; exact h2.mono ex_hide⟩
  · obtain ⟨d', z, q⟩ := un_get e
    cases z
  · obtain ⟨d', z, q⟩ := un_get e
    cases z
/-- the def x tries its argument, as m tells; here lambdas can be made -/
structure ThkAt (X : Cx) (C : Nat → Addr) (x : Str) (m : List D → R D) : Prop where
  ex : ∃ (t : TD) (a e : Str) (g c P : Addr) (pg : Arguments) (bg : List Stmt) (sg : Scope) (kws : List (Str × V)) (fd : FuncData) (Ng : List Str),
    m = mT t ∧ X.mg x = some (.ref g) ∧ FunD X.K x x pg bg sg [] kws g fd ∧ L2.Binds X.K fd [a] [] ∧ FnScope Ng [a] sg ∧ Ng[0]? = some a ∧ Vis sg a ∧ thkS a e bg = some (t.ret, t.val) ∧
    sg.names.lookup e = some .globalImplicit ∧ X.mg e = some (.ref (C t.exc)) ∧ PySem.W.exmOne X.K (.ref (C t.exc)) (.ref (C t.exc)) = some true ∧
    (x == ("__debug__" : Str)) = false ∧ (a == ("__debug__" : Str)) = false ∧ (a == ("__classdict__" : Str)) = false ∧ (e == ("__debug__" : Str)) = false ∧
    TabB X.base X.mg c P ∧ X.env.code = .ref c ∧ (P, X.env.qual ++ "<lambda>") ∈ TabT.T ∧ ∀ p ∈ TabT.T, p.1 = P → p.2 = X.env.qual ++ "<lambda>"
def noPar : Arguments → Bool
  | ⟨[], [], none, [], [], none, []⟩ => true
  | _ => false
def WE' (E : XK) : WX := fun cls d _ H => E cls d H
theorem ex_thunk {X : Cx} {C : Nat → Addr} {W : WX} {x : Str} {m : List D → R D} {lv : Nat} {params : Arguments} {body : Expr} {scope : Scope} {r : Sd → R D} {p lpos pos : Pos} {md : Bool} (T : ThkAt X C x m) (hg : Gl X x) (hr : Room (lv + 2) X.A) (L : LamS X.env.scope scope) (hp : noPar params = true)
    (hbody : ∀ (A : Around) (outer : List Env) (s : Shared) (H : Hp) (E : XK) (f c' : Addr), Room lv (A.deeper (lamEnv X scope s.heap.objs.size f c')) → PEx (lamCx X A outer s H E scope f c') C (WE' E) true body r) :
    PEx X C W md (.Call (.Name x p) [.Lambda params body scope lpos] [] pos) (fun τ => thkR m (r τ) (r (unown τ))) := by
  obtain ⟨t, a, e, g, c, P, pg, bg, sg, kws, fd, Ng, rfl, hm, F, hb, Sg, hN, hva, hsh, hge, hme, hex, d1, d2, d3, d4, TB, hcode, hT, hu⟩ := T.ex
  obtain ⟨oc, od, dV, kV, doc, pm, an, cdv, ct, osl, rfl, lk, hcd, _, _⟩ := F.ex
  have h0 : ∀ f : Addr, (L2.start Ng [V.ref f])[0]? = some (some (V.ref f)) := fun f => rfl
  have G : GivesTo X Ng x sg g cdv bg a (X.env.qual ++ "<lambda>") (TTm X.K (C t.exc) t.ret t.val) := gives hsh hge hme d4 h0
  have hpar : params = ⟨[], [], none, [], [], none, []⟩ := by
    unfold noPar at hp
    split at hp
    · rfl
    · cases hp
  subst hpar
  refine (pe_lamcall (T := TabT.T) (t := fun E => tR X.K C (WE' E) (rM X.K true) r) hg hm F.kp lk hcd hb Sg hN hva G TB hcode hT hu hr L rfl (fun _ _ _ _ _ => rfl) hbody d1 d2 d3).fimp fun σ H Q hh => ?_
  obtain ⟨O, τ, rs, h⟩ := hh
  refine ⟨rs.tab, fun H1 e1 t1 => ?_⟩
  have es : Same H H1 := ⟨e1, fun _ => t1⟩
  show tR X.K C (WE' fun cls _ H' => PySem.W.exmOne X.K cls (.ref (C t.exc)) = some true ∧ Q (cvV t.val) H') (rM X.K true) r σ H1 fun v H' => Q (match t.ret with | some u => cvV u | none => v) H'
  cases hv : r τ with
  | no => simp only [hv, thkR] at h; exact h.elim
  | ok d =>
    simp only [hv, thkR, mT] at h
    refine ⟨O, τ, rs.mono es, ?_⟩
    rw [hv]
    intro b H2 e2 q
    cases ht : t.ret with
    | none => rw [ht] at h; exact h b H2 (es.trans e2) (rM_of q)
    | some u => rw [ht] at h; exact h (cvV u) H2 (es.trans e2) (rM_of (cv_rp u))
  | ex k =>
    cases hw : r (Fz.unown τ) with
    | no => simp only [hv, hw, thkR] at h; exact h.elim
    | ok d => simp only [hv, hw, thkR] at h; exact h.elim
    | ex k2 =>
      simp only [hv, hw, thkR, mT] at h
      by_cases hk : (k2 : Int) = (t.exc : Int)
      · have hk' : k2 = t.exc := by omega
        subst hk'
        rw [if_pos rfl] at h
        refine ⟨[], Fz.unown τ, (rs.mono es).unown, ?_⟩
        rw [hw]
        intro H2 e2
        have e3 : Same H1 H2 := ⟨by have := e2.ex; rw [hide_nil] at this; exact this, e2.tab⟩
        exact ⟨hex, h (cvV t.val) H2 (es.trans e3) (rM_of (cv_rp t.val))⟩
      · rw [if_neg hk] at h
        exact h.elim
end Fz

set_option Elab.async false
set_option linter.all false
set_option autoImplicit false
set_option maxRecDepth 100000
/-! Part Z: zip of three tuples. -/
namespace Fz
open PySem PySem.Spec PyProof.Rows L2
/-- the three tuples as they stand; each turn's items in a new tuple -/
def It3 (K : Fr') (a b c : Addr) : It where
  go := fun i H => ∃ xs ys zs x y z, (SqT K H a xs ∧ SqT K H b ys ∧ SqT K H c zs) ∧ xs[i]? = some x ∧ ys[i]? = some y ∧ zs[i]? = some z
  yld := fun i H v H' => ∃ T x y z, v = .ref T ∧ H T = none ∧ H' = upd H T (.tup [x, y, z]) ∧ ∀ xs ys zs, SqT K H a xs → SqT K H b ys → SqT K H c zs → xs[i]? = some x ∧ ys[i]? = some y ∧ zs[i]? = some z
  stop := fun i H => ∃ xs ys zs, (SqT K H a xs ∧ SqT K H b ys ∧ SqT K H c zs) ∧ i = min (min xs.length ys.length) zs.length
/-- the cells of zip(a, b, c), made from place n on -/
abbrev cells3 (n : Nat) : List Addr := [n + 5, n + 3, n + 4, n, n + 1, n + 2]
def St3 (n : Nat) (a b c : Addr) (i : Nat) (h : Heap) : Prop := IsZip h (n + 5) (n + 3) (n + 4) .none ∧ IsTupOf3 h (n + 3) (.ref n) (.ref (n + 1)) (.ref (n + 2)) ∧ (∃ u v w, IsTupOf3 h (n + 4) u v w) ∧ h.IsTupleIter n a i ∧ h.IsTupleIter (n + 1) b i ∧ h.IsTupleIter (n + 2) c i
theorem sep3 {n : Nat} {a b c : Addr} (ha : a < n) (hb : b < n) (hc : c < n) : ZipSep3 (n + 5) (n + 3) (n + 4) n (n + 1) (n + 2) [n, a] [n + 1, b] [n + 2, c] := by
  refine ⟨?_, ?_, ?_, ?_, ?_, ?_, ?_, ?_, ?_, ?_, ?_, ?_, ?_, ?_, ?_, ?_, ?_, ?_, ?_, ?_, ?_⟩ <;> simp [Addr] at * <;> omega
theorem cells_cases {n : Nat} {q : Addr} (h : q ∈ cells3 n) : q = n + 5 ∨ q = n + 3 ∨ q = n + 4 ∨ q = n ∨ q = n + 1 ∨ q = n + 2 := by simpa [cells3] using h
theorem St3.there {n i : Nat} {a b c : Addr} {h : Heap} (st : St3 n a b c i h) : ∀ q ∈ cells3 n, ∃ o, h.get? q = some o ∧ ∀ v, o.data ≠ .cell v := fun q hq => by
  obtain ⟨s1, s2, ⟨u, v, w, s3⟩, ⟨o4, e4, _, d4⟩, ⟨o5, e5, _, d5⟩, ⟨o6, e6, _, d6⟩⟩ := st
  rcases cells_cases hq with rfl | rfl | rfl | rfl | rfl | rfl
  · exact ⟨_, s1, nofun⟩
  · exact ⟨_, s2, nofun⟩
  · exact ⟨_, s3, nofun⟩
  · exact ⟨o4, e4, fun v z => by rw [d4] at z; cases z⟩
  · exact ⟨o5, e5, fun v z => by rw [d5] at z; cases z⟩
  · exact ⟨o6, e6, fun v z => by rw [d6] at z; cases z⟩
theorem St3.keep {n i : Nat} {a b c : Addr} {h h' : Heap} (st : St3 n a b c i h) (k : ∀ q ∈ cells3 n, ∀ o, h.get? q = some o → h'.get? q = some o) : St3 n a b c i h' := by
  obtain ⟨s1, s2, ⟨u, v, w, s3⟩, s4, s5, s6⟩ := st
  exact ⟨k _ (by simp [cells3]) _ s1, k _ (by simp [cells3]) _ s2, ⟨u, v, w, k _ (by simp [cells3]) _ s3⟩, s4.at (k _ (by simp [cells3])), s5.at (k _ (by simp [cells3])), s6.at (k _ (by simp [cells3]))⟩
theorem turn3 {P : Program} {w : World} {K : Fr'} {elts : List Expr} {kk : Nat} {tpos : Pos} {n : Nat} {a b c : Addr} (ha : a < n) (hb : b < n) (hc : c < n) :
    Turn P w K (.Tuple elts kk tpos) (It3 K a b c) (cells3 n) (n + 5) (St3 n a b c) where
  mem := by simp [cells3]
  obj := fun i h st => st.there
  keep := fun i h h' st k => st.keep k
  item := by
    rintro X rfl rfl rfl calm i pins s σ H E I hf st ⟨xs, ys, zs, x, y, z, ⟨q1, q2, q3⟩, g1, g2, g3⟩
    obtain ⟨s1, s2, ⟨t1, t2, t3, s3⟩, s4, s5, s6⟩ := id st
    obtain ⟨us1, r1, p1, _⟩ := I.tuple q1
    obtain ⟨us2, r2, p2, _⟩ := I.tuple q2
    obtain ⟨us3, r3, p3, _⟩ := I.tuple q3
    obtain ⟨u1, k1, v1⟩ := r1.get g1
    obtain ⟨u2, k2, v2⟩ := r2.get g2
    obtain ⟨u3, k3, v3⟩ := r3.get g3
    have hh : X.A.in1.handled = none := I.ok.hd calm
    have l1 : i < us1.toArray.size := by rw [List.size_toArray]; exact (List.getElem?_eq_some_iff.mp k1).1
    have l2 : i < us2.toArray.size := by rw [List.size_toArray]; exact (List.getElem?_eq_some_iff.mp k2).1
    have l3 : i < us3.toArray.size := by rw [List.size_toArray]; exact (List.getElem?_eq_some_iff.mp k3).1
    have hlt : ∀ q ∈ cells3 n, q < s.heap.objs.size := fun q hq => by
      obtain ⟨o, e, _⟩ := st.there q hq
      exact Heap.lt_size e
    refine wpAny_pyNext_zipD3_item (sep3 ha hb hc) (Draws.tuple hh n a (Nat.ne_of_lt ha) us1.toArray) (Draws.tuple hh (n + 1) b (by simp [Addr] at *; omega) us2.toArray) (Draws.tuple hh (n + 2) c (by simp [Addr] at *; omega) us3.toArray)
      s1 s2 s3 ⟨s4, p1⟩ ⟨s5, p2⟩ ⟨s6, p3⟩ l1 l2 l3 fun w1 w2 w3 h1 tk e1 e2 e3 z1 z2 d1 d2 d3 z3 hsz hk => ?_
    have f1 : w1 = u1 := by simp [k1] at e1; exact e1.symm
    have f2 : w2 = u2 := by simp [k2] at e2; exact e2.symm
    have f3 : w3 = u3 := by simp [k3] at e3; exact e3.symm
    subst f1 f2 f3
    refine ⟨_, rfl, wpAny_letOwnedTupleGo_zip (s := { s with heap := h1, toks := tk }) z1 fun h2 z1' sb => ?_⟩
    have hnew : s.heap.objs.size ∉ cells3 n := fun hm => Nat.lt_irrefl _ (hlt _ hm)
    have T2 : h2.get? s.heap.objs.size = some { cls := .type "tuple", data := .seq #[w1, w2, w3] } := (sb.2 _ fun e => hnew (by rw [e]; simp [cells3])).trans z3
    have J : Inv X pins σ (upd H s.heap.objs.size (.tup [x, y, z])) { s with heap := h2, toks := tk } :=
      I.turnedNew (ch := cells3 n) (fun q o hq e => (sb.2 q fun z => hq (by rw [z]; simp [cells3])).trans (hk q o (fun z => hq (by rw [z]; simp [cells3])) (fun z => hq (by rw [z]; simp [cells3])) (fun z => hq (by rw [z]; simp [cells3])) (fun z => hq (by rw [z]; simp [cells3])) (fun z => hq (by rw [z]; simp [cells3])) e)) hf (Nat.le_refl _)
        ⟨by show 3 ≤ sizeLine; decide, [w1, w2, w3], .cons v1 (.cons v2 (.cons v3 .nil)), ⟨_, T2, rfl, _, rfl⟩⟩
    have ne5 : ∀ {q : Addr}, q ≠ n + 5 → ∀ {o : Obj}, h1.get? q = some o → h2.get? q = some o := fun {q} hq {o} e => (sb.2 q hq).trans e
    refine ⟨.ref s.heap.objs.size, _, J, rfl, ⟨_, x, y, z, rfl, I.hok.fresh (Nat.le_refl _), rfl, fun xs' ys' zs' a1 a2 a3 => ⟨by rw [I.tuple_inj a1 q1]; exact g1, by rw [I.tuple_inj a2 q2]; exact g2, by rw [I.tuple_inj a3 q3]; exact g3⟩⟩, ⟨z1', ?_, ⟨w1, w2, w3, ?_⟩, ?_, ?_, ?_⟩, fun q hq => ?_⟩
    · exact ne5 (by simp [Addr]) (hk _ _ (by simp [Addr]) (by simp [Addr]) (by simp [Addr]) (by simp [Addr]) (by simp [Addr]) s2)
    · exact ne5 (by simp [Addr]) z2
    · exact d1.1.at fun o e => ne5 (by simp [Addr]) e
    · exact d2.1.at fun o e => ne5 (by simp [Addr]) e
    · exact d3.1.at fun o e => ne5 (by simp [Addr]) e
    · rw [upd_ne (Nat.ne_of_lt (hlt q hq))]
      exact (hf q hq).1
  done := by
    rintro X rfl rfl rfl calm i pins s σ H E I hf st ⟨xs, ys, zs, ⟨q1, q2, q3⟩, hi⟩
    obtain ⟨s1, s2, ⟨t1, t2, t3, s3⟩, s4, s5, s6⟩ := id st
    obtain ⟨us1, r1, p1, _⟩ := I.tuple q1
    obtain ⟨us2, r2, p2, _⟩ := I.tuple q2
    obtain ⟨us3, r3, p3, _⟩ := I.tuple q3
    have m1 := r1.length
    have m2 := r2.length
    have m3 := r3.length
    have hh : X.A.in1.handled = none := I.ok.hd calm
    refine wpAny_pyNext_zipD3_end (sep3 ha hb hc) (Draws.tuple hh n a (Nat.ne_of_lt ha) us1.toArray) (Draws.tuple hh (n + 1) b (by simp [Addr] at *; omega) us2.toArray) (Draws.tuple hh (n + 2) c (by simp [Addr] at *; omega) us3.toArray)
      s1 s2 s3 ⟨s4, p1⟩ ⟨s5, p2⟩ ⟨s6, p3⟩ (by simp; omega) (by simp; omega) (by simp; omega) (by simp; omega) fun h1 tk hk => ?_
    exact ⟨rfl, I.turnedL (ch := cells3 n) (fun q o hq e => hk q o (fun z => hq (by rw [z]; simp [cells3])) (fun z => hq (by rw [z]; simp [cells3])) (fun z => hq (by rw [z]; simp [cells3])) (fun z => hq (by rw [z]; simp [cells3])) (fun z => hq (by rw [z]; simp [cells3])) e) hf⟩
  self := fun A i s Q E st h => wpAny_pyIter_zip st.1 h
def iZip3 (K : Fr') (ta : TA) : TI := fun σ H Rr => ta σ H fun vs H1 => ∃ a b c xs ys zs, vs = [.ref a, .ref b, .ref c] ∧ SqT K H1 a xs ∧ SqT K H1 b ys ∧ SqT K H1 c zs ∧ Rr (It3 K a b c) H1
theorem pi_zip3 {X : Cx} {e1 e2 e3 : Expr} {ta : TA} {p pos tpos : Pos} {elts : List Expr} {kk : Nat} (hg : Gl X "zip") (hm : X.mg "zip" = none) (ha : PA X [e1, e2, e3] ta)
    (hs : starEach [e1, e2, e3] X.env = (false, eval e1 X.env) :: starEach [e2, e3] X.env) (hpl : (backTo pos (starEach [e2, e3] X.env)).any (·.1) = false) :
    PI X (.Tuple elts kk tpos) (.Call (.Name "zip" p) [e1, e2, e3] [] pos) (iZip3 X.K ta) := by
  refine ⟨fun pins s σ H Rr I h => Call_ (ld_blt I hg hm PyProof.Rows.boot_zip (PyProof.Rows.callWith_type1 (thn (ha.run pos pins s σ H _ I h) ?_) hs hpl))⟩
  rintro us s1 ⟨vs, H1, I1, rv, a, b, c, xs, ys, zs, rfl, q1, q2, q3, q⟩
  cases rv with
  | cons ra rv =>
  cases rv with
  | cons rb rv =>
  cases rv with
  | cons rc rv =>
  cases rv
  cases ra
  cases rb
  cases rc
  obtain ⟨us1, _, p1, _⟩ := I1.tuple q1
  obtain ⟨us2, _, p2, _⟩ := I1.tuple q2
  obtain ⟨us3, _, p3, _⟩ := I1.tuple q3
  have la : a < s1.heap.objs.size := by obtain ⟨_, z, _⟩ := id p1; exact Heap.lt_size z
  have lb : b < s1.heap.objs.size := by obtain ⟨_, z, _⟩ := id p2; exact Heap.lt_size z
  have lc : c < s1.heap.objs.size := by obtain ⟨_, z, _⟩ := id p3; exact Heap.lt_size z
  refine zip_begins3 (begins_tuple a us1.toArray) (begins_tuple b us2.toArray) (begins_tuple c us3.toArray) p1 p2 p3 fun h1 z1 z2 z3 z4 z5 z6 hsz hk => wpAny_pyIter_zip z1 ?_
  refine ⟨s1.heap.objs.size + 5, cells3 s1.heap.objs.size, _, _, H1, rfl, I1.kept (t' := s1.toks) hk, turn3 la lb lc, ⟨z1, z2, ⟨_, _, _, z3⟩, ⟨_, z4, rfl, rfl⟩, ⟨_, z5, rfl, rfl⟩, ⟨_, z6, rfl, rfl⟩⟩, fun d hd => ?_, q⟩
  have hle : s1.heap.objs.size ≤ d := by
    have := cells_cases hd
    simp only [Addr] at *
    omega
  exact I1.fpOk hle (I1.hok.fresh hle)
/-- a new tuple of three at each turn -/
def Y3 (f g h : Nat → Option V) : Nat → Hp → V → Hp → Prop := fun i H v H' => ∃ T x y z, v = .ref T ∧ H T = none ∧ H' = upd H T (.tup [x, y, z]) ∧ f i = some x ∧ g i = some y ∧ h i = some z
theorem walk3 {K : Fr'} {a b c : Addr} {xs ys zs : List V} {n : Nat} (hn : n = min (min xs.length ys.length) zs.length) : Walk (It3 K a b c) n (fun H => SqT K H a xs ∧ SqT K H b ys ∧ SqT K H c zs) (Y3 (fun i => xs[i]?) (fun i => ys[i]?) (fun i => zs[i]?)) where
  goes := fun i H hi q => ⟨xs, ys, zs, xs[i], ys[i], zs[i], q, by simp, by simp, by simp⟩
  stops := fun H q => ⟨xs, ys, zs, q, hn⟩
  yields := fun i H v H' hi q ⟨T, x, y, z, h1, h2, h3, h4⟩ => ⟨T, x, y, z, h1, h2, h3, h4 xs ys zs q.1 q.2.1 q.2.2⟩
theorem zip3_get : ∀ {xs ys zs : List D} {i : Nat} {d e f : D}, xs[i]? = some d → ys[i]? = some e → zs[i]? = some f → (zipD3 xs ys zs)[i]? = some (.tuple [d, e, f])
  | [], _, _, _, _, _, _, h, _, _ => by simp at h
  | _ :: _, [], _, _, _, _, _, _, h, _ => by simp at h
  | _ :: _, _ :: _, [], _, _, _, _, _, _, h => by simp at h
  | x :: xs, y :: ys, z :: zs, 0, d, e, f, h, h2, h3 => by simp at h h2 h3; subst h h2 h3; rfl
  | x :: xs, y :: ys, z :: zs, i + 1, d, e, f, h, h2, h3 => by
    simp only [zipD3, List.getElem?_cons_succ] at h h2 h3 ⊢
    exact zip3_get h h2 h3
theorem zip3_len : ∀ {xs ys zs : List D}, (zipD3 xs ys zs).length = min (min xs.length ys.length) zs.length
  | [], _, _ => by simp [zipD3]
  | _ :: _, [], _ => by simp [zipD3]
  | _ :: _, _ :: _, [] => by simp [zipD3]
  | x :: xs, y :: ys, z :: zs => by simp only [zipD3, List.length_cons, zip3_len (xs := xs) (ys := ys) (zs := zs)]; omega
section
variable [TabT] {X : Cx} {C : Nat → Addr} {W : WX} {a b c : Expr} {ra rb rc : Sd → R D} {p pos : Pos}
theorem z3_no {x y z : D} (h : ∀ xs ys zs, ¬ (x = .tuple xs ∧ y = .tuple ys ∧ z = .tuple zs)) : z3R x y z = .no := by
  unfold z3R
  split
  · exact absurd ⟨rfl, rfl, rfl⟩ (h _ _ _)
  · rfl
theorem xi_zip3 {m : Bool} {elts : List Expr} {kk : Nat} {tpos : Pos} (hg : Gl X "zip") (hm : X.mg "zip" = none) (h : PEx X C W m a ra) (h2 : PEx X C W m b rb) (h3 : PEx X C W m c rc)
    (s1 : starEach [a, b, c] X.env = (false, eval a X.env) :: starEach [b, c] X.env) (s2 : starEach [b, c] X.env = (false, eval b X.env) :: starEach [c] X.env) (s3 : starEach [c] X.env = (false, eval c X.env) :: starEach [] X.env) (hpl : (backTo pos (starEach [b, c] X.env)).any (·.1) = false) :
    PIx X C W m (.Tuple elts kk tpos) (.Call (.Name "zip" p) [a, b, c] [] pos) (fun τ => ((ra τ).bind fun x => (rb τ).bind fun y => (rc τ).bind fun z => z3R x y z).bind fun d => ofO (itemsOf d)) := by
  refine (pi_zip3 hg hm (pa_cons h (pa_cons h2 (pa_cons h3 pa_nil s3) s2) s1) s1 hpl).fimp fun σ H Rr hh => ?_
  obtain ⟨O, τ, rs, hh⟩ := hh
  refine ⟨O, τ, rs, ?_⟩
  dsimp only at hh
  cases z1 : ra τ with
  | no => rw [z1] at hh; exact hh
  | ex k => rw [z1] at hh; exact hh
  | ok d1 =>
  rw [z1] at hh
  intro v1 H1 e1 r1
  refine ⟨O, τ, rs.mono e1, ?_⟩
  cases z2 : rb τ with
  | no => rw [z2] at hh; exact hh
  | ex k => rw [z2] at hh; exact Ans.mono (r := (.ex k : R (List D))) hh e1
  | ok d2 =>
  rw [z2] at hh
  intro v2 H2 e2 r2
  refine ⟨O, τ, rs.mono (e1.trans e2), ?_⟩
  cases z3 : rc τ with
  | no => rw [z3] at hh; exact hh
  | ex k => rw [z3] at hh; exact Ans.mono (r := (.ex k : R (List D))) hh (e1.trans e2)
  | ok d3 =>
  rw [z3] at hh
  intro v3 H3 e3 r3
  by_cases ht : ∃ xs ys zs, d1 = .tuple xs ∧ d2 = .tuple ys ∧ d3 = .tuple zs
  · obtain ⟨xs, ys, zs, rfl, rfl, rfl⟩ := ht
    obtain ⟨a1, us, rfl, g1, g2, g3, g4⟩ := Vd.tupleM r1
    obtain ⟨a2, vs, rfl, k1, k2, k3, k4⟩ := Vd.tupleM r2
    obtain ⟨a3, ws, rfl, l1, l2, l3, l4⟩ := Vd.tupleM r3
    have n1 := g3.length
    have n2 := k3.length
    have n3 := l3.length
    refine ⟨a1, a2, a3, us, vs, ws, rfl, sqT_same (e2.trans e3).ex g1, sqT_same e3.ex k1, l1, hh _ H3 ((e1.trans e2).trans e3) ⟨by rw [zip3_len]; omega, ?_⟩⟩
    show Walk _ (zipD3 xs ys zs).length _ _
    refine (walk3 (K := X.K) (a := a1) (b := a2) (c := a3) (xs := us) (ys := vs) (zs := ws) (n := (zipD3 xs ys zs).length) (by rw [zip3_len, n1, n2, n3])).mono (fun H' e => ⟨g2 H' (Still.after (e2.trans e3) e), k2 H' (Still.after e3 e), l2 H' e⟩) fun i H4 x H5 hi hg y => ?_
    obtain ⟨T, x, y, z, t1, t2, t3, t4, t5, t6⟩ := y
    obtain ⟨x', b1, c1⟩ := RpAll.getV (g3.mono (Same.hide (e2.trans e3))) t4
    obtain ⟨y', b2, c2⟩ := RpAll.getV (k3.mono (Same.hide e3)) t5
    obtain ⟨z', b3, c3⟩ := RpAll.getV l3 t6
    exact .inr ⟨T, _, _, t1, t2, t3, zip3_get b1 b2 b3, .cons c1 (.cons c2 (.cons c3 .nil)), by show 3 ≤ sizeLine; decide⟩
  · have hz : z3R d1 d2 d3 = .no := z3_no fun xs ys zs hq => ht ⟨xs, ys, zs, hq⟩
    simp only [R.bind_ok, hz, R.bind_no] at hh
    exact hh.elim
end
end Fz

set_option Elab.async false
set_option linter.all false
set_option autoImplicit false
set_option maxRecDepth 100000
/-! Part L: the checker of expressions, and that it is sound. -/
namespace Fz
open PySem PySem.Spec L2

structure Cfg where
  N : List Str
  sc : Scope
  st : List Str
  fns : List (Str × Nat)
  glo : List (Str × D)
  exs : List (Str × Nat)
  thk : List (Str × Nat) := []

mutual
def eqD : D → D → Bool
  | .none, .none => true
  | .bool a, .bool b => a == b
  | .int a, .int b => decide (a = b)
  | .str a, .str b => decide (a = b)
  | .list a, .list b => eqDs a b
  | .tuple a, .tuple b => eqDs a b
  | _, _ => false
def eqDs : List D → List D → Bool
  | [], [] => true
  | a :: r, b :: s => eqD a b && eqDs r s
  | _, _ => false
end
mutual
theorem eqD_ok : ∀ (a b : D), eqD a b = true → a = b
  | .none, b, h => by cases b <;> first | rfl | (simp [eqD] at h)
  | .bool a, b, h => by cases b <;> simp [eqD] at h; rw [h]
  | .int a, b, h => by cases b <;> simp [eqD] at h; rw [h]
  | .str a, b, h => by cases b <;> simp [eqD] at h; rw [h]
  | .list a, b, h => by cases b <;> simp [eqD] at h; rw [eqDs_ok a _ h]
  | .tuple a, b, h => by cases b <;> simp [eqD] at h; rw [eqDs_ok a _ h]
  | .dict a, b, h => by cases b <;> simp [eqD] at h
theorem eqDs_ok : ∀ (a b : List D), eqDs a b = true → a = b
  | [], b, h => by cases b <;> first | rfl | (simp [eqDs] at h)
  | x :: r, b, h => by
    cases b with
    | nil => simp [eqDs] at h
    | cons y s =>
      simp only [eqDs, Bool.and_eq_true] at h
      rw [eqD_ok x y h.1, eqDs_ok r s h.2]
end

def visB (c : Cfg) (x : Str) : Bool := match c.sc.names.lookup x with
  | some .local => true
  | some .cell => true
  | some .free => true
  | _ => false
def glB (c : Cfg) (x : Str) : Bool := match c.sc.names.lookup x with
  | some .globalImplicit => true
  | _ => false
def nmB (x : Str) : Bool := !(x == ("__debug__" : Str)) && !(x == ("__classdict__" : Str)) && !(x == ("__name__" : Str))
def slotB (c : Cfg) (i : Nat) (x : Str) : Bool := decide (c.N[i]? = some x) && visB c x && nmB x
def bltB (c : Cfg) (k x : Str) : Bool := x == k && glB c x
def nostar : Expr → Bool
  | .Starred .. => false
  | _ => true
def plainT : Expr → Bool
  | .UnaryOp .. => false
  | .BoolOp .. => false
  | .IfExp .. => false
  | .Compare .. => false
  | _ => true
def noSet : Expr → Bool
  | .Set .. => false
  | _ => true
def noSlice : Expr → Bool
  | .Slice .. => false
  | _ => true
def cstB (c : Cfg) (d : D) : Expr → Bool
  | .Constant (.int i) _ _ => eqD d (.int i)
  | .Constant (.bool i) _ _ => eqD d (.bool i)
  | .Constant .none _ _ => eqD d .none
  | .Constant (.str s) _ _ => eqD d (.str s) && PyData.strOk s && decide (s.length ≤ sizeLine)
  | .Name x _ => glB c x && nmB x && (match c.glo.lookup x with | some d' => eqD d d' | none => false)
  | _ => false
inductive Md where
  | str | pk | tst | src (m : Bool) (tg : Expr)
def Md.sub : Md → Md
  | .tst => .tst
  | _ => .str
def plB (md : Md) (x : Expr) : Bool := match md with
  | .tst => plainT x
  | _ => true
def tgTup : Md → Bool
  | .src _ (.Tuple ..) => true
  | _ => false
/-- a source's way for what is walked -/
def Md.deep : Md → Md
  | .src true _ => .str
  | _ => .pk
def u1n : U → Option Str
  | .len => some "len"
  | .all => some "all"
  | .any => some "any"
  | .sum => some "sum"
  | .int => some "int"
  | .tup => some "tuple"
  | .lst => some "list"
  | .sorted => some "sorted"
  | _ => none
def instn : U → Option Str
  | .isStr => some "str"
  | .isTup => some "tuple"
  | .isLst => some "list"
  | .isInt => some "int"
  | .isBool => some "bool"
  | _ => none
def opn : B → Operator → Bool
  | .add, .Add => true
  | .sub, .Sub => true
  | .mul, .Mult => true
  | .fdiv, .FloorDiv => true
  | .mod, .Mod => true
  | .pow, .Pow => true
  | _, _ => false
def cmpn : B → CmpOp → Bool
  | .eq, .Eq => true
  | .ne, .NotEq => true
  | .lt, .Lt => true
  | .le, .LtE => true
  | .gt, .Gt => true
  | .ge, .GtE => true
  | .mem, .In => true
  | .nmem, .NotIn => true
  | .iss, .Is => true
  | .isn, .IsNot => true
  | _, _ => false
/-- the names and slots of a target -/
def tgB (c : Cfg) : Tg → Expr → Option (List (Str × Nat))
  | .one i, .Name x _ => if c.N[i]? = some x ∧ x ∈ c.st then some [(x, i)] else none
  | .tup is, .Tuple es _ _ => go is es
  | _, _ => none
where go : List Nat → List Expr → Option (List (Str × Nat))
  | [], [] => some []
  | i :: is, .Name x _ :: es => if c.N[i]? = some x ∧ x ∈ c.st then (go is es).map ((x, i) :: ·) else none
  | _, _ => none
def Cfg.blk (c : Cfg) (scope : Scope) : Cfg := { c with sc := relS scope c.sc, st := (scope.names.filter fun p => p.2 == .local || p.2 == .cell).map (·.1), thk := [] }
def Cfg.lam (c : Cfg) (scope : Scope) : Cfg := { c with sc := scope, st := [], thk := [] }

def keysB : List Str → List (Option Expr) → Bool
  | [], [] => true
  | k :: ks, some (.Constant (.str x) _ _) :: es => decide (k = x) && keysB ks es
  | _, _ => false
def trueE : E → Bool
  | .cst (.bool true) => true
  | _ => false
mutual
def ck (c : Cfg) : Md → E → Expr → Bool
  | _, .var i, x => (match x with
    | .Name n _ => slotB c i n
    | _ => false)
  | md, .pk i, x => (match md, x with
    | .pk, .Name n _ => slotB c i n
    | .src false _, .Name n _ => slotB c i n
    | _, _ => false)
  | _, .cst d, x => cstB c d x
  | _, .tup es, x => (match x with
    | .Tuple xs _ _ => decide (xs.length ≤ sizeLine) && ckL c es xs
    | _ => false)
  | _, .lst es, x => (match x with
    | .List xs _ => decide (xs.length ≤ sizeLine) && ckL c es xs
    | _ => false)
  | md, .u o a, x => (match x with
    | .UnaryOp .Not y _ => o == .nt && ck c md.sub a y
    | .UnaryOp .USub y _ => o == .neg && plB md x && ck c .str a y
    | .Call (.Name n _) [y] [] _ => (match o with
      | .rng => (match md with | .src _ _ => true | _ => false) && bltB c "range" n && nostar y && ck c .pk a y
      | .enm => tgTup md && bltB c "enumerate" n && nostar y && ck c md.deep a y
      | .sset => (match y with
        | .Call (.Name n2 _) [z] [] _ => bltB c "sorted" n && bltB c "set" n2 && nostar z && ck c .pk a z
        | _ => false)
      | o => (match u1n o with | some k => bltB c k n | none => false) && nostar y && ck c .pk a y)
    | .Call (.Name n _) [y, .Name t _] [] _ => (match instn o with | some k => bltB c k t | none => false) && bltB c "isinstance" n && nostar y && ck c .pk a y
    | _ => false)
  | md, .b o a b, x => (match x with
    | .BinOp y op z _ => opn o op && ck c .pk a y && ck c .pk b z
    | .Compare y [op] [z] _ => cmpn o op && noSet z && ck c .pk a y && ck c .pk b z
    | .Subscript y (.Slice (some z) none none _) _ => o == .from && ck c .pk a y && ck c .pk b z
    | .Subscript y (.Slice none (some z) none _) _ => o == .to && ck c .pk a y && ck c .pk b z
    | .Subscript y (.Slice none none (some z) _) _ => o == .step && ck c .pk a y && ck c .pk b z
    | .Subscript y z _ => o == .ix && noSlice z && ck c .pk a y && ck c .pk b z
    | .Call (.Name n _) [y, z] [] _ => nostar y && nostar z && (match o with
      | .rng => (match md with | .src _ _ => true | _ => false) && bltB c "range" n && ck c .pk a y && ck c .pk b z
      | .zip => tgTup md && bltB c "zip" n && ck c md.deep a y && ck c md.deep b z
      | .max2 => bltB c "max" n && ck c .pk a y && ck c .pk b z
      | .min2 => bltB c "min" n && ck c .pk a y && ck c .pk b z
      | _ => false)
    | _ => false)
  | _, .cut a b d, x => (match x with
    | .Subscript y (.Slice (some z) (some w) none _) _ => ck c .pk a y && ck c .pk b z && ck c .pk d w
    | _ => false)
  | md, .zip3 a b d, x => (match x with
    | .Call (.Name n _) [y, z, w] [] _ => tgTup md && bltB c "zip" n && nostar y && nostar z && nostar w && ck c md.deep a y && ck c md.deep b z && ck c md.deep d w
    | _ => false)
  | _, .top, _ => true
  | _, .thunk f e, x => (match x with
    | .Call (.Name n _) [.Lambda params body scope _] [] _ => (match c.thk.lookup n with | some f' => f == f' | none => false) && glB c n && noPar params && LamX.lamSB c.sc scope && ck (c.lam scope) .str e body
    | _ => false)
  | md, .and es, x => (match x with
    | .BoolOp .And xs _ => ckB c md.sub es xs
    | _ => false)
  | md, .or es, x => (match x with
    | .BoolOp .Or xs _ => ckB c md.sub es xs
    | _ => false)
  | md, .ite t a b, x => (match md, x with
    | .tst, _ => false
    | _, .IfExp y z w _ => ck c .tst t y && ck c .str a z && ck c .str b w
    | _, _ => false)
  | _, .chain o p a b d, x => (match x with
    | .Compare y [op, op'] [z, w] _ => cmpn o op && cmpn p op' && noSet w && ck c .pk a y && ck c .pk b z && ck c .pk d w
    | _ => false)
  | _, .call f es, x => (match x with
    | .Call (.Name n _) xs [] _ => (match c.fns.lookup n with | some f' => f == f' | none => false) && glB c n && ckL c es xs
    | _ => false)
  | _, .sel ks es k, x => (match x with
    | .Subscript (.Dict keys xs _) y _ => keysB ks keys && decide (ks.length = es.length) && !ks.isEmpty && decide (ks.length ≤ 15) && decide ks.Nodup && noSlice y && ckL c es xs && ck c .pk k y
    | _ => false)
  | _, .comp g s t e, x => (match x with
    | .ListComp elt [⟨tg, iter, ifs, 0⟩] scope _ => (match tgB (c.blk scope) g tg with
      | some own => blkC c.N c.sc scope own && decide (own.map (·.2) = g.slots) && noSet iter && ck c (.src false tg) s iter && ck (c.blk scope) .str e elt && (match ifs with
        | [] => trueE t
        | [y] => ck (c.blk scope) .tst t y
        | _ => false)
      | none => false)
    | _ => false)
def ckL (c : Cfg) : List E → List Expr → Bool
  | [], xs => xs.isEmpty
  | e :: es, xs => (match xs with
    | [] => false
    | x :: r => nostar x && ck c .str e x && ckL c es r)
/-- the parts of and, or -/
def ckB (c : Cfg) (md : Md) : List E → List Expr → Bool
  | [], _ => false
  | e :: es, xs => (match xs with
    | [] => false
    | x :: r => ck c md e x && (match es, r with
      | [], [] => true
      | _, _ => ckB c md es r))
end
end Fz

set_option Elab.async false
set_option linter.all false
set_option autoImplicit false
set_option maxRecDepth 100000
/-! Part N: soundness of the expressions' checker. -/
namespace Fz
open PySem PySem.Spec L2
variable [TabT]

def bnl : List Str := ["len", "all", "any", "sum", "int", "tuple", "list", "sorted", "set", "isinstance", "range", "enumerate", "zip", "max", "min", "str", "bool"]
/-- a module's constant -/
def Glo (X : Cx) (x : Str) (d : D) : Prop := ∃ v u, X.mg x = some u ∧ RelV v u ∧ ∀ H, Rp X.K H v d
/-- the def x answers as m, at a level -/
def FnAt (X : Cx) (C : Nat → Addr) (lv : Nat) (x : Str) (m : List D → R D) : Prop := ∃ k f fd ps, k ≤ lv ∧ FnOk X.prog X.w X.K X.mg X.base (L2.CX X.prog X.w) k f fd ps (spM X.K C m) ∧ X.mg x = some (.ref f) ∧ PySem.W.keepIn X.K (.ref f) = true ∧ Binds X.K fd ps [] ∧ (x == ("__debug__" : Str)) = false
structure Good (X : Cx) (c : Cfg) (C : Nat → Addr) (Φ : Nat → List D → R D) (W : WX) : Prop where
  calm : X.calm = true
  nd : X.N.Nodup
  N : X.N = c.N
  sc : X.env.scope = c.sc
  sto : ∀ x ∈ c.st, Loc X.env.scope x ∧ (X.fn x = true ∨ X.env.scope.names.lookup x = some .local)
  un : X.A.units + 64 < cLine
  free : ∀ x ∈ bnl, X.mg x = none
  fns : ∀ x f, c.fns.lookup x = some f → Fn X C x (Φ f)
  glo : ∀ x d, c.glo.lookup x = some d → Glo X x d
  tk : Takes X W
  lam : c.thk ≠ [] → ∃ lv, Room (lv + 2) X.A ∧ (∀ x f, c.fns.lookup x = some f → FnAt X C lv x (Φ f)) ∧ ∀ x f, c.thk.lookup x = some f → ThkAt X C x (Φ f)

theorem lookup_rel (p : Str → Bool) : ∀ (names : List (Str × NameKind)) (x : Str) (k : NameKind), k ≠ .free → names.lookup x = some k →
    (names.map fun (q : Str × NameKind) => if (q.2 == .free && p q.1) then (q.1, NameKind.cell) else (q.1, q.2)).lookup x = some k
  | [], x, k, _, h => by simp at h
  | (n, m) :: r, x, k, hk, h => by
    simp only [List.map_cons]
    rw [List.lookup_cons] at h
    by_cases e : (x == n) = true
    · rw [e] at h
      simp only [Option.some.injEq] at h
      subst h
      have : (m == NameKind.free) = false := by cases m <;> first | rfl | exact absurd rfl hk
      simp only [this, Bool.false_and, Bool.false_eq_true, if_false]
      rw [List.lookup_cons, e]
    · have e : (x == n) = false := by simpa using e
      rw [e] at h
      split <;> (rw [List.lookup_cons, e]; exact lookup_rel p r x k hk h)
theorem relS_lookup {scope sc : Scope} {x : Str} {k : NameKind} (hk : k ≠ .free) (h : scope.names.lookup x = some k) : (relS scope sc).names.lookup x = some k := by
  unfold relS
  have := lookup_rel (fun n => sc.kind == .function && sc.names.lookup n == some .cell) scope.names x k hk h
  simp only [← Bool.and_assoc] at this
  exact this
theorem mem_lookup : ∀ {names : List (Str × NameKind)} {p : Str × NameKind}, (∀ y ∈ names, names.lookup y.1 = some y.2) → p ∈ names → names.lookup p.1 = some p.2 := fun h hp => h _ hp

section
variable {X : Cx} {c : Cfg} {C : Nat → Addr} {Φ : Nat → List D → R D} {W : WX}
theorem Good.blk (g : Good X c C Φ W) {scope : Scope} {own : List (Str × Nat)} (ok : BlkOk X.N X.env.scope scope own) (s : Shared) (H : Hp) (Cc : Addr) (cl : List (Str × Addr)) (fp : List Addr) :
    Good (X.blk s H scope (compEnvC scope cl Cc X.env) fp) (c.blk scope) C Φ W0 where
  calm := g.calm
  nd := g.nd
  N := g.N
  sc := by
    show relabel scope X.env = relS scope c.sc
    rw [← g.sc]; rfl
  sto := fun x hx => by
    show Loc (relS scope X.env.scope) x ∧ _
    obtain ⟨p, hp, rfl⟩ := List.mem_map.mp hx
    obtain ⟨hp1, hp2⟩ := List.mem_filter.mp hp
    have hl := ok.uniq p hp1
    have hk : p.2 = .local ∨ p.2 = .cell := by simpa using hp2
    rcases hk with hk | hk
    · rw [hk] at hl
      have := relS_lookup (sc := X.env.scope) (by decide) hl
      exact ⟨.inl this, .inr this⟩
    · rw [hk] at hl
      have := relS_lookup (sc := X.env.scope) (by decide) hl
      exact ⟨.inr this, .inl (by show (scope.names.lookup p.1 == some .cell) = true; rw [hl]; rfl)⟩
  un := g.un
  free := g.free
  fns := g.fns
  glo := g.glo
  tk := takes0
  lam := fun h => absurd rfl h
/-- .. within a lambda -/
theorem Good.lamc (g : Good X c C Φ W) {lv : Nat} (hf : ∀ x f, c.fns.lookup x = some f → FnAt X C lv x (Φ f)) {A : Around} {outer : List Env} {s : Shared} {H : Hp} {E : XK} {scope : Scope} {f c' : Addr} (hr : Room lv (A.deeper (LamX.lamEnv X scope s.heap.objs.size f c'))) :
    Good (LamX.lamCx X A outer s H E scope f c') (c.lam scope) C Φ (WE' E) where
  calm := rfl
  nd := g.nd
  N := g.N
  sc := rfl
  sto := fun x h => by cases h
  un := hr.units
  free := g.free
  fns := fun x k hl => by
    obtain ⟨j, a, fd, ps, hj, h1, h2, h3, h4, h5⟩ := hf x k hl
    exact ⟨j, a, fd, ps, h1, hr.mono hj, h2, h3, h4, h5⟩
  glo := g.glo
  tk := takes_of rfl rfl rfl rfl
  lam := fun h => absurd rfl h

/-- what the checker's word means -/
def Snd (X : Cx) (C : Nat → Addr) (Φ : Nat → List D → R D) (W : WX) (e : E) (x : Expr) : Md → Prop
  | .str => PEx X C W true x (ev Φ e)
  | .pk => PEx X C W false x (ev Φ e)
  | .tst => PTx X C W x (fun τ => (ev Φ e τ).bind asB)
  | .src m tg => PIx X C W m tg x (fun τ => (ev Φ e τ).bind fun d => ofO (itemsOf d))
def SndAll (C : Nat → Addr) (Φ : Nat → List D → R D) (e : E) : Prop := ∀ {X : Cx} {c : Cfg} {W : WX}, Good X c C Φ W → ∀ (md : Md) (x : Expr), ck c md e x = true → Snd X C Φ W e x md
def SndL (C : Nat → Addr) (Φ : Nat → List D → R D) (es : List E) : Prop := ∀ e ∈ es, SndAll C Φ e

theorem plain_true {x : Expr} {env : Env} (h : plainT x = true) : ∀ whole, isTrue x env whole = (do let v ← whole; standAt x.pos; holding [v] (truthy v)) := by
  intro whole
  cases x <;> first | rfl | (cases h)
theorem snd_of {e : E} {x : Expr} {md : Md} (h : ∀ m, PEx X C W m x (ev Φ e)) (hp : plB md x = true) : Snd X C Φ W e x md := by
  cases md with
  | str => exact h true
  | pk => exact h false
  | tst => exact xt_val (h true) (plain_true hp)
  | src m tg => exact xi_val (h m)
theorem star1 {x : Expr} {es : List Expr} {env : Env} (h : nostar x = true) : starEach (x :: es) env = (false, eval x env) :: starEach es env := by
  cases x <;> first | rfl | (cases h)
theorem nomark' {x : Expr} {op : CmpOp} (h : noSet x = true) : behindInMarks op x = false := by
  cases x <;> first | rfl | (cases h)
theorem noset' {x : Expr} {env : Env} (h : noSet x = true) : ∀ v, foldedSetIterable x env v = pure v := by
  intro v
  cases x <;> first | rfl | (cases h)
theorem noslice' {x : Expr} (h : noSlice x = true) : PlainIx x := by
  intro o i
  cases x <;> first | rfl | (cases h)
theorem vis_of (g : Good X c C Φ W) {x : Str} (h : visB c x = true) : Vis X.env.scope x := by
  unfold visB at h
  rw [← g.sc] at h
  unfold Vis
  split at h
  · rename_i e; exact .inl e
  · rename_i e; exact .inr (.inl e)
  · rename_i e; exact .inr (.inr e)
  · cases h
theorem gl_of (g : Good X c C Φ W) {x : Str} (h : glB c x = true) : Gl X x := by
  unfold glB at h
  rw [← g.sc] at h
  split at h
  · rename_i e; exact e
  · cases h
theorem nm_of {x : Str} (h : nmB x = true) : (x == ("__debug__" : Str)) = false ∧ (x == ("__classdict__" : Str)) = false ∧ x ≠ "__name__" := by
  unfold nmB at h
  simp only [Bool.and_eq_true, Bool.not_eq_true'] at h
  exact ⟨h.1.1, h.1.2, fun e => by rw [e] at h; simp at h⟩
theorem blt_of (g : Good X c C Φ W) {k x : Str} (h : bltB c k x = true) : x = k ∧ Gl X x := by
  unfold bltB at h
  simp only [Bool.and_eq_true, beq_iff_eq] at h
  exact ⟨h.1, gl_of g h.2⟩
theorem slot_of (g : Good X c C Φ W) {i : Nat} {x : Str} (h : slotB c i x = true) : X.N[i]? = some x ∧ Vis X.env.scope x ∧ (x == ("__debug__" : Str)) = false ∧ (x == ("__classdict__" : Str)) = false := by
  unfold slotB at h
  simp only [Bool.and_eq_true, decide_eq_true_eq] at h
  exact ⟨by rw [g.N]; exact h.1.1, vis_of g h.1.2, (nm_of h.2).1, (nm_of h.2).2.1⟩

theorem s_var (i : Nat) : SndAll C Φ (.var i) := by
  intro X c W g md x h
  unfold ck at h
  split at h
  · obtain ⟨h1, h2, h3, h4⟩ := slot_of g h
    refine snd_of (fun m => ?_) (by cases md <;> rfl)
    have := ex_var (C := C) (W := W) (m := m) (pos := by assumption) h1 h2 h3 h4
    exact this
  · cases h
theorem s_pk (i : Nat) : SndAll C Φ (.pk i) := by
  intro X c W g md x h
  unfold ck at h
  split at h
  · obtain ⟨h1, h2, h3, h4⟩ := slot_of g h
    exact ex_pk h1 h2 h3 h4
  · obtain ⟨h1, h2, h3, h4⟩ := slot_of g h
    exact xi_val (ex_pk h1 h2 h3 h4)
  · cases h
theorem s_cst (d : D) : SndAll C Φ (.cst d) := by
  intro X c W g md x h
  unfold ck at h
  unfold cstB at h
  split at h
  · cases eqD_ok _ _ h
    exact snd_of (fun m => ex_cst pe_int fun H => .int _) (by cases md <;> rfl)
  · cases eqD_ok _ _ h
    exact snd_of (fun m => ex_cst pe_bl fun H => .bl _) (by cases md <;> rfl)
  · cases eqD_ok _ _ h
    exact snd_of (fun m => ex_cst pe_non fun H => .non) (by cases md <;> rfl)
  · simp only [Bool.and_eq_true, decide_eq_true_eq] at h
    cases eqD_ok _ _ h.1.1
    exact snd_of (fun m => ex_cst pe_str fun H => .str _ h.1.2 h.2) (by cases md <;> rfl)
  · simp only [Bool.and_eq_true] at h
    obtain ⟨⟨h1, h2⟩, h3⟩ := h
    split at h3
    · rename_i d' hd
      cases eqD_ok _ _ h3
      obtain ⟨v, u, hm, hr, hp⟩ := g.glo _ _ hd
      exact snd_of (fun m => ex_cst (pe_glob (gl_of g h1) hm hr (nm_of h2).1) hp) (by cases md <;> rfl)
    · cases h3
  · cases h
/-- a list of parts -/
theorem list_ok {es : List E} (ih : SndL C Φ es) (g : Good X c C Φ W) : ∀ {xs : List Expr}, ckL c es xs = true → PAx X C W xs (evs Φ es) ∧ xs.length = es.length ∧ (∀ x ∈ xs, nostar x = true) := by
  induction es with
  | nil =>
    intro xs h
    unfold ckL at h
    have : xs = [] := by simpa using h
    subst this
    exact ⟨xa_nil, rfl, fun _ h => by cases h⟩
  | cons e es ih2 =>
    intro xs h
    unfold ckL at h
    split at h
    · cases h
    · rename_i x r
      simp only [Bool.and_eq_true] at h
      obtain ⟨⟨h1, h2⟩, h3⟩ := h
      obtain ⟨q1, q2, q3⟩ := ih2 (fun e he => ih e (List.mem_cons_of_mem _ he)) h3
      have p : PEx X C W true x (ev Φ e) := ih e List.mem_cons_self g .str x h2
      refine ⟨?_, by simp [q2], fun y hy => ?_⟩
      · have := xa_cons p q1 (star1 h1)
        exact this
      · rcases List.mem_cons.mp hy with rfl | hy
        · exact h1
        · exact q3 y hy
theorem evs_len : ∀ {es : List E} {τ : Sd} {ds : List D}, evs Φ es τ = .ok ds → ds.length = es.length
  | [], τ, ds, h => by simp only [evs] at h; cases h; rfl
  | e :: es, τ, ds, h => by
    simp only [evs] at h
    cases h1 : ev Φ e τ with
    | ok d =>
      rw [h1] at h
      simp only [R.bind_ok] at h
      cases h2 : evs Φ es τ with
      | ok r => rw [h2] at h; cases h; simp [evs_len h2]
      | ex c => rw [h2] at h; cases h
      | no => rw [h2] at h; cases h
    | ex c => rw [h1] at h; cases h
    | no => rw [h1] at h; cases h
theorem s_tup {es : List E} (ih : SndL C Φ es) : SndAll C Φ (.tup es) := by
  intro X c W g md x h
  unfold ck at h
  split at h
  · simp only [Bool.and_eq_true, decide_eq_true_eq] at h
    obtain ⟨p, hl, _⟩ := list_ok ih g h.2
    refine snd_of (fun m => ?_) (by cases md <;> rfl)
    have := ex_tup (m := m) (pos := by assumption) (x1 := by assumption) p h.1 (fun τ ds hd => by rw [evs_len hd, hl])
    exact this
  · cases h
theorem s_lst {es : List E} (ih : SndL C Φ es) : SndAll C Φ (.lst es) := by
  intro X c W g md x h
  unfold ck at h
  split at h
  · simp only [Bool.and_eq_true, decide_eq_true_eq] at h
    obtain ⟨p, hl, _⟩ := list_ok ih g h.2
    refine snd_of (fun m => ?_) (by cases md <;> rfl)
    have := ex_fresh (m := m) (ex_lst (pos := by assumption) p h.1 (fun τ ds hd => by rw [evs_len hd, hl]))
    exact this
  · cases h

theorem ofO_calm {α : Type} (o : Option α) (c : Nat) : ofO o ≠ .ex c := by cases o <;> (intro h; cases h)
theorem bind_calm {α β : Type} {r : R α} {f : α → R β} {c : Nat} (h1 : ∀ c, r ≠ .ex c) (h2 : ∀ a c, f a ≠ .ex c) : r.bind f ≠ .ex c := by
  cases r with
  | ok a => exact h2 a c
  | ex c => exact absurd rfl (h1 c)
  | no => intro h; cases h
theorem ite_calm {α : Type} {p : Prop} [Decidable p] {a : α} {c : Nat} : (if p then R.ok a else R.no) ≠ .ex c := by split <;> (intro h; cases h)
theorem o1_calm (o : U) (d : D) (c : Nat) : o1 o d ≠ .ex c := by
  unfold o1
  split <;> first
    | exact ite_calm
    | exact bind_calm (fun c => ofO_calm _ c) (fun a c h => by cases h)
    | (unfold sortD; exact ite_calm)
    | (intro h; cases h)
theorem o2_calm (o : B) (x y : D) (c : Nat) : o2 o x y ≠ .ex c := by
  unfold o2
  split <;> first
    | exact ite_calm
    | exact ofO_calm _ c
    | exact bind_calm (fun c => ofO_calm _ c) (fun a c h => by cases h)
    | exact cutR_calm _ _ _ c
    | (intro h; cases h)
theorem sub_md {md : Md} (h : md.sub = .tst) : md = .tst := by cases md <;> first | rfl | (cases h)
/-- and, or: only as values and as tests -/
theorem snd_sub {e : E} {x : Expr} {md : Md} (h : md ≠ .tst → ∀ m, PEx X C W m x (ev Φ e)) (ht : md = .tst → PTx X C W x (fun τ => (ev Φ e τ).bind asB)) : Snd X C Φ W e x md := by
  cases md with
  | str => exact h (by intro h; cases h) true
  | pk => exact h (by intro h; cases h) false
  | tst => exact ht rfl
  | src m tg => exact xi_val (h (by intro h; cases h) m)
variable {a b : E}
theorem deep_ok {md : Md} {e : E} {x : Expr} (ih : SndAll C Φ e) (g : Good X c C Φ W) (h : ck c md.deep e x = true) : ∀ m tg, md = .src m tg → PEx X C W m x (ev Φ e) := by
  intro m tg e'
  subst e'
  cases m
  · exact ih g .pk x h
  · exact ih g .str x h
theorem u1_ok (g : Good X c C Φ W) {o : U} {k n : Str} {y : Expr} {p pos : Pos} {m : Bool} (hk : u1n o = some k) (hb : bltB c k n = true) (hs : nostar y = true) (ha : PEx X C W false y (ev Φ a)) : PEx X C W m (.Call (.Name n p) [y] [] pos) (ev Φ (.u o a)) := by
  obtain ⟨rfl, hg⟩ := blt_of g hb
  have fr : ∀ {k : Str}, k ∈ bnl → X.mg k = none := fun {k} h => g.free k h
  cases o <;> simp only [u1n, Option.some.injEq, reduceCtorEq] at hk <;> subst hk
  · exact ex_callB len_ok (o1_calm _) hg (fr (by decide +kernel)) (by decide +kernel) ha (star1 hs)
  · exact ex_callB (all_ok g.calm) (o1_calm _) hg (fr (by decide +kernel)) (by decide +kernel) ha (star1 hs)
  · exact ex_callB (any_ok g.calm) (o1_calm _) hg (fr (by decide +kernel)) (by decide +kernel) ha (star1 hs)
  · exact ex_callB (sum_ok g.calm) (o1_calm _) hg (fr (by decide +kernel)) (by decide +kernel) ha (star1 hs)
  · exact ex_callTy int_ok (o1_calm _) hg (fr (by decide +kernel)) (by decide +kernel) ha (star1 hs)
  · exact ex_callTy tup_ok (o1_calm _) hg (fr (by decide +kernel)) (by decide +kernel) ha (star1 hs)
  · exact ex_callTy lst_ok (o1_calm _) hg (fr (by decide +kernel)) (by decide +kernel) ha (star1 hs)
  · exact ex_callB (sorted_ok g.un) (o1_calm _) hg (fr (by decide +kernel)) (by decide +kernel) ha (star1 hs)
theorem inst1_ok (g : Good X c C Φ W) {o : U} {k n t : Str} {y : Expr} {p p2 pos : Pos} {m : Bool} (hk : instn o = some k) (hb2 : bltB c k t = true) (hb : bltB c "isinstance" n = true) (hs : nostar y = true) (ha : PEx X C W false y (ev Φ a)) : PEx X C W m (.Call (.Name n p) [y, .Name t p2] [] pos) (ev Φ (.u o a)) := by
  obtain ⟨rfl, hg⟩ := blt_of g hb
  obtain ⟨rfl, hg2⟩ := blt_of g hb2
  have fr : ∀ {k : Str}, k ∈ bnl → X.mg k = none := fun {k} h => g.free k h
  cases o <;> simp only [instn, Option.some.injEq, reduceCtorEq] at hk <;> subst hk
  · exact ex_inst kit_str hg (fr (by decide +kernel)) hg2 (fr (by decide +kernel)) (by decide +kernel) ha (star1 hs) (by decide) (by decide)
  · exact ex_inst kit_int hg (fr (by decide +kernel)) hg2 (fr (by decide +kernel)) (by decide +kernel) ha (star1 hs) (by decide) (by decide)
  · exact ex_inst kit_bool hg (fr (by decide +kernel)) hg2 (fr (by decide +kernel)) (by decide +kernel) ha (star1 hs) (by decide) (by decide)
  · exact ex_inst kit_tup hg (fr (by decide +kernel)) hg2 (fr (by decide +kernel)) (by decide +kernel) ha (star1 hs) (by decide) (by decide)
  · exact ex_inst kit_lst hg (fr (by decide +kernel)) hg2 (fr (by decide +kernel)) (by decide +kernel) ha (star1 hs) (by decide) (by decide)
end
end Fz

set_option Elab.async false
set_option linter.all false
set_option autoImplicit false
set_option maxRecDepth 100000
/-! Part O: soundness of the expressions' checker, the compound terms. -/
namespace Fz
open PySem PySem.Spec L2
variable [TabT]
section
variable {X : Cx} {c : Cfg} {C : Nat → Addr} {Φ : Nat → List D → R D} {W : WX} {a b d : E}
theorem not_test {r : Sd → R D} : (fun τ => ((r τ).bind asB).bind fun k => R.ok !k) = (fun τ => ((r τ).bind (o1 .nt)).bind asB) := by
  funext τ
  cases r τ with
  | ok d => cases d <;> rfl
  | ex c => rfl
  | no => rfl
theorem s_u {o : U} (ih : SndAll C Φ a) : SndAll C Φ (.u o a) := by
  intro X c W g md x h
  unfold ck at h
  split at h
  · rename_i y pos
    simp only [Bool.and_eq_true, beq_iff_eq] at h
    obtain ⟨rfl, h⟩ := h
    refine snd_sub (fun hm m => ?_) (fun hm => ?_)
    · have hs : md.sub = .str := by cases md <;> first | rfl | exact absurd rfl hm
      rw [hs] at h
      have := ex_not (m := m) (pos := pos) (show PEx X C W true y (ev Φ a) from ih g .str y h)
      exact this
    · subst hm
      have := xt_not (pos := pos) (show PTx X C W y (fun τ => (ev Φ a τ).bind asB) from ih g .tst y h)
      rw [not_test] at this
      exact this
  · rename_i y pos
    simp only [Bool.and_eq_true, beq_iff_eq] at h
    obtain ⟨⟨rfl, h1⟩, h2⟩ := h
    refine snd_of (fun m => ?_) h1
    have := ex_neg (m := m) (pos := pos) (show PEx X C W true y (ev Φ a) from ih g .str y h2)
    exact this
  · rename_i n p y pos
    split at h
    · simp only [Bool.and_eq_true] at h
      obtain ⟨⟨⟨h1, h2⟩, h3⟩, h4⟩ := h
      obtain ⟨rfl, hg⟩ := blt_of g h2
      split at h1
      · exact xi_rng1 hg (g.free _ (by decide +kernel)) (show PEx X C W false y (ev Φ a) from ih g .pk y h4) (star1 h3)
      · cases h1
    · simp only [Bool.and_eq_true] at h
      obtain ⟨⟨⟨h1, h2⟩, h3⟩, h4⟩ := h
      obtain ⟨rfl, hg⟩ := blt_of g h2
      unfold tgTup at h1
      split at h1
      · exact xi_enum hg (g.free _ (by decide +kernel)) (deep_ok ih g h4 _ _ rfl) (star1 h3)
      · cases h1
    · split at h
      · rename_i n2 p2 z pos2
        simp only [Bool.and_eq_true] at h
        obtain ⟨⟨⟨h1, h2⟩, h3⟩, h4⟩ := h
        obtain ⟨rfl, hg⟩ := blt_of g h1
        obtain ⟨rfl, hg2⟩ := blt_of g h2
        refine snd_of (fun m => ?_) (by cases md <;> rfl)
        exact ex_sset g.calm g.un hg (g.free _ (by decide +kernel)) hg2 (g.free _ (by decide +kernel)) (show PEx X C W false z (ev Φ a) from ih g .pk z h4) (star1 h3)
      · cases h
    · simp only [Bool.and_eq_true] at h
      obtain ⟨⟨h1, h2⟩, h3⟩ := h
      split at h1
      · rename_i k hk
        exact snd_of (fun m => u1_ok g hk h1 h2 (ih g .pk y h3)) (by cases md <;> rfl)
      · cases h1
  · rename_i n p y t p2 pos
    simp only [Bool.and_eq_true] at h
    obtain ⟨⟨⟨h1, h2⟩, h3⟩, h4⟩ := h
    split at h1
    · rename_i k hk
      exact snd_of (fun m => inst1_ok g hk h1 h2 h3 (ih g .pk y h4)) (by cases md <;> rfl)
    · cases h1
  · cases h
theorem op_of (g : Good X c C Φ W) {o : B} {op : Operator} (h : opn o op = true) : OpR X (binaryOp op) (r2 X.K (o2 o)) := by
  unfold opn at h
  split at h
  · exact add_ok
  · exact sub_ok
  · exact mul_ok
  · exact fdiv_ok
  · exact mod_ok
  · exact pow_ok
  · cases h
theorem cmp_of (g : Good X c C Φ W) {o : B} {op : CmpOp} (h : cmpn o op = true) : OpR X (compareOp op) (r2 X.K (o2 o)) := by
  unfold cmpn at h
  split at h
  · exact eq_ok g.un
  · exact ne_ok g.un
  · exact lt_ok g.un
  · exact le_ok
  · exact gt_ok
  · exact ge_ok
  · exact mem_ok g.un
  · exact nmem_ok g.un
  · exact iss_ok
  · exact isn_ok
  · cases h
theorem pl2 {es : List Expr} {env : Env} {pos : Pos} (h : ∀ x ∈ es, nostar x = true) : (backTo pos (starEach es env)).any (·.1) = false := by
  induction es with
  | nil => rfl
  | cons x r ih =>
    rw [star1 (h x List.mem_cons_self)]
    have := ih fun y hy => h y (List.mem_cons_of_mem _ hy)
    unfold backTo at this ⊢
    rw [List.map_cons, List.any_cons, this]
    rfl
theorem s_b {o : B} (iha : SndAll C Φ a) (ihb : SndAll C Φ b) : SndAll C Φ (.b o a b) := by
  intro X c W g md x h
  have pa : ∀ {y : Expr}, ck c .pk a y = true → PEx X C W false y (ev Φ a) := fun h => iha g .pk _ h
  have pb : ∀ {y : Expr}, ck c .pk b y = true → PEx X C W false y (ev Φ b) := fun h => ihb g .pk _ h
  unfold ck at h
  split at h
  · rename_i y op z pos
    simp only [Bool.and_eq_true] at h
    exact snd_of (fun m => ex_op (op_of g h.1.1) (o2_calm o) (pa h.1.2) (pb h.2)) (by cases md <;> rfl)
  · rename_i y op z pos
    simp only [Bool.and_eq_true] at h
    obtain ⟨⟨⟨h1, h2⟩, h3⟩, h4⟩ := h
    refine snd_sub (fun hm m => ?_) (fun hm => ?_)
    · exact ex_cmp (cmp_of g h1) (o2_calm o) (pa h3) (pb h4) (nomark' h2)
    · exact xt_cmp (cmp_of g h1) (o2_calm o) (pa h3) (pb h4) (nomark' h2)
  · simp only [Bool.and_eq_true, beq_iff_eq] at h
    obtain ⟨⟨rfl, h1⟩, h2⟩ := h
    exact snd_of (fun m => ex_from (pa h1) (pb h2)) (by cases md <;> rfl)
  · simp only [Bool.and_eq_true, beq_iff_eq] at h
    obtain ⟨⟨rfl, h1⟩, h2⟩ := h
    exact snd_of (fun m => ex_to (pa h1) (pb h2)) (by cases md <;> rfl)
  · simp only [Bool.and_eq_true, beq_iff_eq] at h
    obtain ⟨⟨rfl, h1⟩, h2⟩ := h
    exact snd_of (fun m => ex_rev (pa h1) (pb h2)) (by cases md <;> rfl)
  · simp only [Bool.and_eq_true, beq_iff_eq] at h
    obtain ⟨⟨⟨rfl, h0⟩, h1⟩, h2⟩ := h
    exact snd_of (fun m => ex_ix ix_ok (o2_calm .ix) (pa h1) (pb h2) (noslice' h0)) (by cases md <;> rfl)
  · rename_i n p y z pos
    simp only [Bool.and_eq_true] at h
    obtain ⟨⟨h1, h2⟩, h⟩ := h
    have s1 : starEach [y, z] X.env = (false, eval y X.env) :: starEach [z] X.env := star1 h1
    have s2 : starEach [z] X.env = (false, eval z X.env) :: starEach [] X.env := star1 h2
    have s3 : (backTo pos (starEach [z] X.env)).any (·.1) = false := pl2 fun x hx => by
      have : x = z := by simpa using hx
      subst this; exact h2
    split at h
    · simp only [Bool.and_eq_true] at h
      obtain ⟨⟨⟨h3, h4⟩, h5⟩, h6⟩ := h
      obtain ⟨rfl, hg⟩ := blt_of g h4
      split at h3
      · exact xi_rng2 hg (g.free _ (by decide +kernel)) (pa h5) (pb h6) (by rw [s1, s2]; rfl) s2
      · cases h3
    · simp only [Bool.and_eq_true] at h
      obtain ⟨⟨⟨h3, h4⟩, h5⟩, h6⟩ := h
      obtain ⟨rfl, hg⟩ := blt_of g h4
      unfold tgTup at h3
      split at h3
      · exact xi_zip hg (g.free _ (by decide +kernel)) (deep_ok iha g h5 _ _ rfl) (deep_ok ihb g h6 _ _ rfl) s1 s2 s3
      · cases h3
    · simp only [Bool.and_eq_true] at h
      obtain ⟨⟨h4, h5⟩, h6⟩ := h
      obtain ⟨rfl, hg⟩ := blt_of g h4
      exact snd_of (fun m => ex_max2 g.calm hg (g.free _ (by decide +kernel)) (pa h5) (pb h6) s1 s2 s3) (by cases md <;> rfl)
    · simp only [Bool.and_eq_true] at h
      obtain ⟨⟨h4, h5⟩, h6⟩ := h
      obtain ⟨rfl, hg⟩ := blt_of g h4
      exact snd_of (fun m => ex_min2 g.calm hg (g.free _ (by decide +kernel)) (pa h5) (pb h6) s1 s2 s3) (by cases md <;> rfl)
    · cases h
  · cases h
theorem s_zip3 (iha : SndAll C Φ a) (ihb : SndAll C Φ b) (ihd : SndAll C Φ d) : SndAll C Φ (.zip3 a b d) := by
  intro X c W g md x h
  unfold ck at h
  split at h
  · rename_i n p y z w pos
    simp only [Bool.and_eq_true] at h
    obtain ⟨⟨⟨⟨⟨⟨⟨h1, h2⟩, h3⟩, h4⟩, h5⟩, h6⟩, h7⟩, h8⟩ := h
    obtain ⟨rfl, hg⟩ := blt_of g h2
    unfold tgTup at h1
    split at h1
    · exact xi_zip3 hg (g.free _ (by decide +kernel)) (deep_ok iha g h6 _ _ rfl) (deep_ok ihb g h7 _ _ rfl) (deep_ok ihd g h8 _ _ rfl) (star1 h3) (star1 h4) (star1 h5) (pl2 fun q hq => by
        have : q = z ∨ q = w := by simpa using hq
        rcases this with rfl | rfl <;> assumption)
    · cases h1
  · cases h
theorem s_cut (iha : SndAll C Φ a) (ihb : SndAll C Φ b) (ihd : SndAll C Φ d) : SndAll C Φ (.cut a b d) := by
  intro X c W g md x h
  unfold ck at h
  split at h
  · simp only [Bool.and_eq_true] at h
    exact snd_of (fun m => ex_cut (show PEx X C W false _ (ev Φ a) from iha g .pk _ h.1.1) (show PEx X C W false _ (ev Φ b) from ihb g .pk _ h.1.2) (show PEx X C W false _ (ev Φ d) from ihd g .pk _ h.2)) (by cases md <;> rfl)
  · cases h
theorem s_ite (ihd : SndAll C Φ d) (iha : SndAll C Φ a) (ihb : SndAll C Φ b) : SndAll C Φ (.ite d a b) := by
  intro X c W g md x h
  unfold ck at h
  split at h
  · cases h
  · simp only [Bool.and_eq_true] at h
    refine snd_sub (fun hm m => ?_) (fun hm => absurd hm (by assumption))
    exact ex_ite (ihd g .tst _ h.1.1) (ex_weak (show PEx X C W true _ (ev Φ a) from iha g .str _ h.1.2)) (ex_weak (show PEx X C W true _ (ev Φ b) from ihb g .str _ h.2))
  · cases h
theorem s_chain {o p : B} (iha : SndAll C Φ a) (ihb : SndAll C Φ b) (ihd : SndAll C Φ d) : SndAll C Φ (.chain o p a b d) := by
  intro X c W g md x h
  unfold ck at h
  split at h
  · rename_i y op op' z w pos
    simp only [Bool.and_eq_true] at h
    obtain ⟨⟨⟨⟨⟨h1, h2⟩, h3⟩, h4⟩, h5⟩, h6⟩ := h
    have hm : lastMarks [op, op'] [z, w] = false := nomark' h3
    refine snd_sub (fun _ m => ?_) (fun _ => ?_)
    · exact ex_chain (cmp_of g h1) (cmp_of g h2) (o2_calm o) (o2_calm p) (show PEx X C W false _ (ev Φ a) from iha g .pk _ h4) (show PEx X C W false _ (ev Φ b) from ihb g .pk _ h5) (show PEx X C W false _ (ev Φ d) from ihd g .pk _ h6) hm
    · exact xt_chain (cmp_of g h1) (cmp_of g h2) (o2_calm o) (o2_calm p) (show PEx X C W false _ (ev Φ a) from iha g .pk _ h4) (show PEx X C W false _ (ev Φ b) from ihb g .pk _ h5) (show PEx X C W false _ (ev Φ d) from ihd g .pk _ h6) hm
  · cases h
theorem s_call {f : Nat} {es : List E} (ih : SndL C Φ es) : SndAll C Φ (.call f es) := by
  intro X c W g md x h
  unfold ck at h
  split at h
  · rename_i n p xs pos
    simp only [Bool.and_eq_true] at h
    obtain ⟨⟨h1, h2⟩, h4⟩ := h
    split at h1
    · rename_i f' hf
      have e : f = f' := by simpa using h1
      subst e
      obtain ⟨pa, hl, hn⟩ := list_ok ih g h4
      cases xs with
      | nil =>
        cases es with
        | nil => exact snd_of (fun m => ex_call0 (g.fns _ _ hf) (gl_of g h2) g.tk) (by cases md <;> rfl)
        | cons e es => simp at hl
      | cons y r =>
        exact snd_of (fun m => ex_call (g.fns _ _ hf) (gl_of g h2) g.tk pa (star1 (hn y List.mem_cons_self)) (pl2 fun x hx => hn x (List.mem_cons_of_mem _ hx))) (by cases md <;> rfl)
    · cases h1
  · cases h

theorem tg_go (g : Good X c C Φ W) : ∀ {is : List Nat} {es : List Expr} {own : List (Str × Nat)}, tgB.go c is es = some own → Stos X es is ∧ own.map (·.2) = is
  | [], [], own, h => by
    unfold tgB.go at h
    cases h
    exact ⟨.nil, rfl⟩
  | [], _ :: _, own, h => by unfold tgB.go at h; cases h
  | i :: is, [], own, h => by unfold tgB.go at h; cases h
  | i :: is, e :: es, own, h => by
    cases e with
    | Name x pos =>
      unfold tgB.go at h
      split at h
      · rename_i hx
        cases ho : tgB.go c is es with
        | none => rw [ho] at h; cases h
        | some o =>
          rw [ho] at h
          cases h
          obtain ⟨q1, q2⟩ := tg_go g ho
          obtain ⟨z1, z2⟩ := g.sto x hx.2
          exact ⟨.cons ⟨by rw [g.N]; exact hx.1, z1, z2⟩ q1, by simp [q2]⟩
      · cases h
    | _ => unfold tgB.go at h; cases h
theorem tg_ok (g : Good X c C Φ W) {t : Tg} {e : Expr} {own : List (Str × Nat)} (h : tgB c t e = some own) : PG X e (tG X.K t) := by
  unfold tgB at h
  split at h
  · split at h
    · rename_i hx
      obtain ⟨z1, z2⟩ := g.sto _ hx.2
      exact xg_name g.nd ⟨by rw [g.N]; exact hx.1, z1, z2⟩
    · cases h
  · obtain ⟨q1, q2⟩ := tg_go g h
    exact xg_tup g.calm g.nd q1
  · cases h
theorem pts_true {X : Cx} : PTs X [] (tR X.K C W0 rB (fun τ => (ev Φ (.cst (.bool true)) τ).bind asB)) := by
  refine ⟨fun pins s σ H Q I h => pts_nil.run pins s σ H Q I ?_⟩
  obtain ⟨O, τ, rs, h⟩ := h
  exact h true H (Same.refl _) rfl
theorem comp_ok {gt : Tg} {t : E} (ihs : SndAll C Φ a) (iht : SndAll C Φ t) (ihe : SndAll C Φ b) (g : Good X c C Φ W) {elt tg iter : Expr} {ifs : List Expr} {scope : Scope} {pos : Pos} {own : List (Str × Nat)}
    (hT : tgB (c.blk scope) gt tg = some own) (h1 : blkC c.N c.sc scope own = true) (h2 : own.map (·.2) = gt.slots) (h3 : noSet iter = true) (h4 : ck c (.src false tg) a iter = true) (h5 : ck (c.blk scope) .str b elt = true) (h6 : (match ifs with
        | [] => trueE t
        | [y] => ck (c.blk scope) .tst t y
        | _ => false) = true) :
    (∀ {σ : St} {H : Hp} {Q : VK}, tF X.K C W (ev Φ (.comp gt a t b)) σ H Q →
      tLc (tR X.K C W (rI X.K false) (fun τ => (ev Φ a τ).bind fun d => ofO (itemsOf d))) (tG X.K gt) (tR X.K C W0 rB (fun τ => (ev Φ t τ).bind asB)) (tR X.K C W0 (rM X.K true) (ev Φ b)) (own.map (·.2)) σ H Q) ∧
    PIx X C W false tg iter (fun τ => (ev Φ a τ).bind fun d => ofO (itemsOf d)) ∧ BlkOk X.N X.env.scope scope own ∧
    (∀ (s : Shared) (H : Hp) (Cc : Addr) (cl : List (Str × Addr)) (fp : List Addr), PG (X.blk s H scope (compEnvC scope cl Cc X.env) fp) tg (tG X.K gt)) ∧
    (∀ (s : Shared) (H : Hp) (Cc : Addr) (cl : List (Str × Addr)) (fp : List Addr), PTs (X.blk s H scope (compEnvC scope cl Cc X.env) fp) ifs (tR X.K C W0 rB (fun τ => (ev Φ t τ).bind asB))) ∧
    (∀ (s : Shared) (H : Hp) (Cc : Addr) (cl : List (Str × Addr)) (fp : List Addr), PEx (X.blk s H scope (compEnvC scope cl Cc X.env) fp) C W0 true elt (ev Φ b)) := by
  have ok : BlkOk X.N X.env.scope scope own := by rw [g.N, g.sc]; exact blkOk_by h1
  have pi : PIx X C W false tg iter (fun τ => (ev Φ a τ).bind fun d => ofO (itemsOf d)) := ihs g (.src false tg) iter h4
  have pg : ∀ (s : Shared) (H : Hp) (Cc : Addr) (cl : List (Str × Addr)) (fp : List Addr), PG (X.blk s H scope (compEnvC scope cl Cc X.env) fp) tg (tG X.K gt) := fun s H Cc cl fp => tg_ok (g.blk ok s H Cc cl fp) hT
  have pe : ∀ (s : Shared) (H : Hp) (Cc : Addr) (cl : List (Str × Addr)) (fp : List Addr), PEx (X.blk s H scope (compEnvC scope cl Cc X.env) fp) C W0 true elt (ev Φ b) := fun s H Cc cl fp => ihe (g.blk ok s H Cc cl fp) .str elt h5
  have pt : ∀ (s : Shared) (H : Hp) (Cc : Addr) (cl : List (Str × Addr)) (fp : List Addr), PTs (X.blk s H scope (compEnvC scope cl Cc X.env) fp) ifs (tR X.K C W0 rB (fun τ => (ev Φ t τ).bind asB)) := fun s H Cc cl fp => by
    split at h6
    · unfold trueE at h6
      split at h6
      · exact pts_true
      · cases h6
    · rename_i y
      exact pts_one (iht (g.blk ok s H Cc cl fp) .tst y h6)
    · cases h6
  refine ⟨fun {σ H Q} hh => ?_, pi, ok, pg, pt, pe⟩
  have fe : ev Φ (.comp gt a t b) = (fun τ => ((ev Φ a τ).bind fun d => ofO (itemsOf d)).bind fun ds => (turns (turnR gt (fun τ => (ev Φ t τ).bind asB) (ev Φ b) τ) ds).calm.bind fun ys => .ok (.list ys)) := by
    funext τ
    rw [ev]
    cases ev Φ a τ <;> rfl
  rw [fe] at hh
  exact ex_comp (pos := pos) g.calm g.nd pi ok h2 pg pt pe hh
theorem s_comp {gt : Tg} {t : E} (ihs : SndAll C Φ a) (iht : SndAll C Φ t) (ihe : SndAll C Φ b) : SndAll C Φ (.comp gt a t b) := by
  intro X c W g md x h
  unfold ck at h
  split at h
  · split at h
    · rename_i own hT
      simp only [Bool.and_eq_true, decide_eq_true_eq] at h
      obtain ⟨⟨⟨⟨⟨h1, h2⟩, h3⟩, h4⟩, h5⟩, h6⟩ := h
      obtain ⟨q, pi, ok, pg, pt, pe⟩ := comp_ok (pos := by assumption) ihs iht ihe g hT h1 h2 h3 h4 h5 h6
      refine snd_of (fun m => ex_fresh ?_) (by cases md <;> rfl)
      exact (pe_lc g.calm g.nd pi ok pg pt pe (noset' h3)).fimp fun σ H Q hh => q hh
    · cases h
  · cases h

theorem keys_ok : ∀ {ks : List Str} {es : List (Option Expr)}, keysB ks es = true → Keys ks es
  | [], [], _ => .nil
  | [], _ :: _, h => by simp [keysB] at h
  | _ :: _, [], h => by simp [keysB] at h
  | k :: ks, some e :: es, h => by
    cases e with
    | Constant v j p =>
      cases v with
      | str x =>
        simp only [keysB, Bool.and_eq_true, decide_eq_true_eq] at h
        obtain ⟨rfl, h⟩ := h
        exact .cons (keys_ok h)
      | _ => simp [keysB] at h
    | _ => simp [keysB] at h
  | k :: ks, none :: es, h => by simp [keysB] at h
theorem evs_rsL : ∀ (es : List E), evs Φ es = rsL (es.map (ev Φ))
  | [] => rfl
  | e :: es => by
    funext τ
    show ((ev Φ e τ).bind fun x => (evs Φ es τ).bind fun xs => R.ok (x :: xs)) = _
    rw [evs_rsL es]; rfl
theorem pel_of (g : Good X c C Φ W) : ∀ {es : List E} {xs : List Expr}, SndL C Φ es → ckL c es xs = true → PEl X C W xs (es.map (ev Φ))
  | [], xs, _, h => by
    unfold ckL at h
    have : xs = [] := by simpa using h
    subst this
    exact .nil
  | e :: es, xs, ih, h => by
    unfold ckL at h
    split at h
    · cases h
    · simp only [Bool.and_eq_true] at h
      exact .cons (ih e List.mem_cons_self g .str _ h.1.2) (pel_of g (fun z hz => ih z (List.mem_cons_of_mem _ hz)) h.2)
theorem noSl' {x : Expr} (h : noSlice x = true) : NoSl x := by
  intro o i
  cases x <;> first | rfl | (cases h)
theorem s_sel {ks : List Str} {es : List E} {k : E} (ih : SndL C Φ es) (ihk : SndAll C Φ k) : SndAll C Φ (.sel ks es k) := by
  intro X c W g md x h
  unfold ck at h
  split at h
  · rename_i keys xs dp y pos
    simp only [Bool.and_eq_true, decide_eq_true_eq, Bool.not_eq_true'] at h
    obtain ⟨⟨⟨⟨⟨⟨⟨h1, h2⟩, h3⟩, h4⟩, h5⟩, h6⟩, h7⟩, h8⟩ := h
    refine snd_of (fun m => ?_) (by cases md <;> rfl)
    have := ex_sel (m := m) (pos := pos) (dpos := dp) g.un (keys_ok h1) (pel_of g ih h7) (by simpa using h2) (fun z => by rw [z] at h3; cases h3) h4 h5 (show PEx X C W false y (ev Φ k) from ihk g .pk y h8) (noSl' h6)
    rw [← evs_rsL] at this
    exact this
  · cases h
theorem and_val (g : Good X c C Φ W) {pos : Pos} {m : Bool} : ∀ {es : List E} {xs : List Expr}, SndL C Φ es → ckB c .str es xs = true → PEx X C W m (.BoolOp .And xs pos) (evA Φ es)
  | [], xs, _, h => by unfold ckB at h; cases h
  | e :: es, [], _, h => by unfold ckB at h; cases h
  | e :: es, x :: r, ih, h => by
    unfold ckB at h
    simp only [Bool.and_eq_true] at h
    obtain ⟨h1, h2⟩ := h
    have p : PEx X C W true x (ev Φ e) := ih e List.mem_cons_self g .str x h1
    cases es with
    | nil =>
      cases r with
      | nil => exact ex_one p
      | cons y r => simp only [ckB] at h2; cases h2
    | cons e2 es =>
      cases r with
      | nil => simp only [ckB] at h2; cases h2
      | cons y r =>
        have := and_val g (pos := pos) (m := m) (fun z hz => ih z (List.mem_cons_of_mem _ hz)) h2
        exact ex_and p this
theorem or_val (g : Good X c C Φ W) {pos : Pos} {m : Bool} : ∀ {es : List E} {xs : List Expr}, SndL C Φ es → ckB c .str es xs = true → PEx X C W m (.BoolOp .Or xs pos) (evO Φ es)
  | [], xs, _, h => by unfold ckB at h; cases h
  | e :: es, [], _, h => by unfold ckB at h; cases h
  | e :: es, x :: r, ih, h => by
    unfold ckB at h
    simp only [Bool.and_eq_true] at h
    obtain ⟨h1, h2⟩ := h
    have p : PEx X C W true x (ev Φ e) := ih e List.mem_cons_self g .str x h1
    cases es with
    | nil =>
      cases r with
      | nil => exact ex_one p
      | cons y r => simp only [ckB] at h2; cases h2
    | cons e2 es =>
      cases r with
      | nil => simp only [ckB] at h2; cases h2
      | cons y r =>
        have := or_val g (pos := pos) (m := m) (fun z hz => ih z (List.mem_cons_of_mem _ hz)) h2
        exact ex_or p this
theorem and_tst (g : Good X c C Φ W) {pos : Pos} : ∀ {es : List E} {xs : List Expr}, SndL C Φ es → ckB c .tst es xs = true → PWx X C W (.BoolOp .And xs pos) (fun τ => (evA Φ es τ).bind asB)
  | [], xs, _, h => by unfold ckB at h; cases h
  | e :: es, [], _, h => by unfold ckB at h; cases h
  | e :: es, x :: r, ih, h => by
    unfold ckB at h
    simp only [Bool.and_eq_true] at h
    obtain ⟨h1, h2⟩ := h
    have p : PTx X C W x (fun τ => (ev Φ e τ).bind asB) := ih e List.mem_cons_self g .tst x h1
    cases es with
    | nil =>
      cases r with
      | nil =>
        have := xw_and1 (pos := pos) p
        refine cast ?_ this
        congr 2
        funext τ
        show _ = ((ev Φ e τ).bind fun x => (asB x).bind fun c => R.ok (.bool c)).bind asB
        cases ev Φ e τ with
        | ok d => cases d <;> rfl
        | ex c => rfl
        | no => rfl
      | cons y r => simp only [ckB] at h2; cases h2
    | cons e2 es =>
      cases r with
      | nil => simp only [ckB] at h2; cases h2
      | cons y r =>
        have := xw_and p (and_tst g (pos := pos) (fun z hz => ih z (List.mem_cons_of_mem _ hz)) h2)
        refine cast ?_ this
        congr 2
        funext τ
        show _ = ((ev Φ e τ).bind fun x => (asB x).bind fun c => if c = true then evA Φ (e2 :: es) τ else .ok (.bool false)).bind asB
        cases ev Φ e τ with
        | ok d =>
          cases d <;> try rfl
          rename_i k
          cases k <;> rfl
        | ex c => rfl
        | no => rfl
theorem or_tst (g : Good X c C Φ W) {pos : Pos} : ∀ {es : List E} {xs : List Expr}, SndL C Φ es → ckB c .tst es xs = true → PWx X C W (.BoolOp .Or xs pos) (fun τ => (evO Φ es τ).bind asB)
  | [], xs, _, h => by unfold ckB at h; cases h
  | e :: es, [], _, h => by unfold ckB at h; cases h
  | e :: es, x :: r, ih, h => by
    unfold ckB at h
    simp only [Bool.and_eq_true] at h
    obtain ⟨h1, h2⟩ := h
    have p : PTx X C W x (fun τ => (ev Φ e τ).bind asB) := ih e List.mem_cons_self g .tst x h1
    cases es with
    | nil =>
      cases r with
      | nil =>
        have := xw_or1 (pos := pos) p
        refine cast ?_ this
        congr 2
        funext τ
        show _ = ((ev Φ e τ).bind fun x => (asB x).bind fun c => R.ok (.bool c)).bind asB
        cases ev Φ e τ with
        | ok d => cases d <;> rfl
        | ex c => rfl
        | no => rfl
      | cons y r => simp only [ckB] at h2; cases h2
    | cons e2 es =>
      cases r with
      | nil => simp only [ckB] at h2; cases h2
      | cons y r =>
        have := xw_or p (or_tst g (pos := pos) (fun z hz => ih z (List.mem_cons_of_mem _ hz)) h2)
        refine cast ?_ this
        congr 2
        funext τ
        show _ = ((ev Φ e τ).bind fun x => (asB x).bind fun c => if c = true then .ok (.bool true) else evO Φ (e2 :: es) τ).bind asB
        cases ev Φ e τ with
        | ok d =>
          cases d <;> try rfl
          rename_i k
          cases k <;> rfl
        | ex c => rfl
        | no => rfl
theorem s_and {es : List E} (ih : SndL C Φ es) : SndAll C Φ (.and es) := by
  intro X c W g md x h
  unfold ck at h
  split at h
  · refine snd_sub (fun hm m => ?_) (fun hm => ?_)
    · have hs : md.sub = .str := by cases md <;> first | rfl | exact absurd rfl hm
      rw [hs] at h
      exact and_val g ih h
    · subst hm
      exact (and_tst g ih h).pt
  · cases h
theorem s_or {es : List E} (ih : SndL C Φ es) : SndAll C Φ (.or es) := by
  intro X c W g md x h
  unfold ck at h
  split at h
  · refine snd_sub (fun hm m => ?_) (fun hm => ?_)
    · have hs : md.sub = .str := by cases md <;> first | rfl | exact absurd rfl hm
      rw [hs] at h
      exact or_val g ih h
    · subst hm
      exact (or_tst g ih h).pt
  · cases h
end
theorem s_thunk {C : Nat → Addr} {Φ : Nat → List D → R D} {f : Nat} {a : E} (ih : SndAll C Φ a) : SndAll C Φ (.thunk f a) := by
  intro X c W g md x h
  unfold ck at h
  split at h
  · simp only [Bool.and_eq_true] at h
    obtain ⟨⟨⟨⟨h1, h2⟩, h3⟩, h4⟩, h5⟩ := h
    split at h1
    · rename_i f' hl
      have e : f = f' := by simpa using h1
      subst e
      obtain ⟨lv, hr, hf, ht⟩ := g.lam fun z => by rw [z] at hl; cases hl
      refine snd_of (fun m => ?_) (by cases md <;> rfl)
      exact ex_thunk (ht _ _ hl) (gl_of g h2) hr (by rw [g.sc]; exact LamX.lamS_by h4) h3 fun A outer s H E f2 c' hrm => ih (g.lamc hf hrm) .str _ h5
    · cases h1
  · cases h
mutual
theorem sound (C : Nat → Addr) (Φ : Nat → List D → R D) : ∀ e : E, SndAll C Φ e
  | .var i => s_var i
  | .pk i => s_pk i
  | .cst d => s_cst d
  | .tup es => s_tup (soundL C Φ es)
  | .lst es => s_lst (soundL C Φ es)
  | .u o a => s_u (sound C Φ a)
  | .b o a b => s_b (sound C Φ a) (sound C Φ b)
  | .cut a b d => s_cut (sound C Φ a) (sound C Φ b) (sound C Φ d)
  | .zip3 a b d => s_zip3 (sound C Φ a) (sound C Φ b) (sound C Φ d)
  | .thunk f e => s_thunk (sound C Φ e)
  | .top => fun _ md x _ => by
    cases md with
    | str => exact ⟨fun _ _ _ _ _ _ h => by obtain ⟨_, _, _, h⟩ := h; exact h.elim⟩
    | pk => exact ⟨fun _ _ _ _ _ _ h => by obtain ⟨_, _, _, h⟩ := h; exact h.elim⟩
    | tst => exact ⟨fun _ _ _ _ _ _ h => by obtain ⟨_, _, _, h⟩ := h; exact h.elim⟩
    | src m tg => exact ⟨fun _ _ _ _ _ _ h => by obtain ⟨_, _, _, h⟩ := h; exact h.elim⟩
  | .and es => s_and (soundL C Φ es)
  | .or es => s_or (soundL C Φ es)
  | .ite t a b => s_ite (sound C Φ t) (sound C Φ a) (sound C Φ b)
  | .chain o p a b d => s_chain (sound C Φ a) (sound C Φ b) (sound C Φ d)
  | .call f es => s_call (soundL C Φ es)
  | .sel ks es k => s_sel (soundL C Φ es) (sound C Φ k)
  | .comp g s t e => s_comp (sound C Φ s) (sound C Φ t) (sound C Φ e)
theorem soundL (C : Nat → Addr) (Φ : Nat → List D → R D) : ∀ es : List E, SndL C Φ es
  | [] => fun _ h => by cases h
  | e :: es => fun x hx => by
    rcases List.mem_cons.mp hx with h | h
    · rw [h]; exact sound C Φ e
    · exact soundL C Φ es x h
end
end Fz

set_option Elab.async false
set_option linter.all false
set_option autoImplicit false
set_option maxRecDepth 100000
/-! Part P: statements. -/
namespace Fz
open PySem PySem.Spec L2
variable [TabT]

theorem ext_list (l : Addr) (items : Array Value) (n : Nat) (b : Addr) (items2 : Array Value) (n2 : Nat) (dd : Option Addr) (sl : Array (Option Value)) (hc0 : ¬(!items.isEmpty && Builtin.List.listTooLong (items.size + items2.size)) = true) (hc1 : items.size ≤ sizeLine) (hs2 : items.size + items2.size ≤ sizeLine + 1) :
    Meets (Builtin.«list.extend» ⟨[.ref l, .ref b], []⟩) (fun _ R s => s.heap.get? l = some { cls := .type "list", dict := none, data := .seq items n, slots := #[] } ∧ s.heap.get? b = some { cls := .type "list", dict := dd, data := .seq items2 n2, slots := sl } ∧ R (.ok (.ret Value.none)) { s with heap := s.heap.update l (Obj.mapSeq fun x => x ++ items2), toks := s.toks }) :=
  .of_wp fun prog w A R s h => by
    obtain ⟨hp, g, d, tk, os⟩ := s; obtain ⟨hl, hb, h⟩ := h; have f1 := AutoSeq1.idx_int; have f2 := AutoSeq1.sub_tuple_tuple; have f3 := AutoSeq1.sub_list_list; have f4 := AutoSeq1.sub_tuple_list; have f5 := AutoSeq1.sub_list_tuple;
    have hz' : (items ++ items2).size ≤ sizeLine + 1 := by rw [Array.size_append]; exact hs2
    wp_walk using (wpAny_updateSeq hl rfl (hz := hc1) (_hz' := hz')), AutoSeq1.wpAny_loadPart' hl, AutoSeq1.wpAny_loadPart' hb; exact ⟨_, rfl, h⟩
theorem ext_tuple (l : Addr) (items : Array Value) (n : Nat) (b : Addr) (items2 : Array Value) (n2 : Nat) (dd : Option Addr) (sl : Array (Option Value)) (hc0 : ¬(!items.isEmpty && Builtin.List.listTooLong (items.size + items2.size)) = true) (hc1 : items.size ≤ sizeLine) (hs2 : items.size + items2.size ≤ sizeLine + 1) :
    Meets (Builtin.«list.extend» ⟨[.ref l, .ref b], []⟩) (fun _ R s => s.heap.get? l = some { cls := .type "list", dict := none, data := .seq items n, slots := #[] } ∧ s.heap.get? b = some { cls := .type "tuple", dict := dd, data := .seq items2 n2, slots := sl } ∧ R (.ok (.ret Value.none)) { s with heap := s.heap.update l (Obj.mapSeq fun x => x ++ items2), toks := s.toks }) :=
  .of_wp fun prog w A R s h => by
    obtain ⟨hp, g, d, tk, os⟩ := s; obtain ⟨hl, hb, h⟩ := h; have f1 := AutoSeq1.idx_int; have f2 := AutoSeq1.sub_tuple_tuple; have f3 := AutoSeq1.sub_list_list; have f4 := AutoSeq1.sub_tuple_list; have f5 := AutoSeq1.sub_list_tuple;
    have hz' : (items ++ items2).size ≤ sizeLine + 1 := by rw [Array.size_append]; exact hs2
    wp_walk using (wpAny_updateSeq hl rfl (hz := hc1) (_hz' := hz')), AutoSeq1.wpAny_loadPart' hl, AutoSeq1.wpAny_loadPart' hb; exact ⟨_, rfl, h⟩
def rExt (K : Fr') : V → List V → Hp → VK → Prop := fun x vs H Q => ∃ l b xs zs, x = .ref l ∧ vs = [.ref b] ∧ H l = some (.lst xs) ∧ (SqL K H b zs ∨ SqT K H b zs) ∧ xs.length + zs.length ≤ sizeLine ∧ Q .non (upd H l (.lst (xs ++ zs)))
theorem mt_ext {X : Cx} : MtM X "list.extend" (rExt X.K) := by
  intro pins s σ H x vs v us Q I rx rv h
  obtain ⟨l, b, xs, zs, rfl, rfl, hH, hB, hz, q⟩ := h
  cases rx
  obtain ⟨u, rfl, ru⟩ := rv.one
  cases ru
  obtain ⟨z, its, n, r, hl, e⟩ := I.lstM hH
  have fin : ∀ (its2 : List Value), Vals zs its2 → EP X pins σ Q .none { s with heap := s.heap.update l (Obj.mapSeq fun x => x ++ its2.toArray), toks := s.toks } := fun its2 r2 =>
    ⟨.non, _, I.lset (its' := its ++ its2) hH e (by simp) (r.append r2) (by rw [List.length_append]; omega), rfl, q⟩
  rcases hB with hB | hB
  · obtain ⟨its2, r2, p2, z2⟩ := I.list hB
    have n2 := r2.length
    have hsz : its.toArray.size + its2.toArray.size ≤ sizeLine := by rw [List.size_toArray, List.size_toArray]; omega
    have hlong : ¬ (!its.toArray.isEmpty && Builtin.List.listTooLong (its.toArray.size + its2.toArray.size)) = true := by
      rw [notLongL hsz, Bool.and_false]
      exact Bool.false_ne_true
    obtain ⟨⟨cls2, dd2, data2, sl2⟩, m, ho2, hc2, hdd2, hd2⟩ := p2
    simp only at hc2 hd2
    subst hc2 hd2
    exact call_meets F.slot_list_extend ⟨_, e, rfl⟩ F.entry_list_extend (F.args_list_extend_2 _ _)
      (ext_list l its.toArray n b its2.toArray m dd2 sl2 hlong (by rw [List.size_toArray]; omega) (by omega)) ⟨e, ho2, fin its2 r2⟩
  · obtain ⟨its2, r2, p2, z2⟩ := I.tuple hB
    have n2 := r2.length
    have hsz : its.toArray.size + its2.toArray.size ≤ sizeLine := by rw [List.size_toArray, List.size_toArray]; omega
    have hlong : ¬ (!its.toArray.isEmpty && Builtin.List.listTooLong (its.toArray.size + its2.toArray.size)) = true := by
      rw [notLongL hsz, Bool.and_false]
      exact Bool.false_ne_true
    obtain ⟨⟨cls2, dd2, data2, sl2⟩, ho2, hc2, m, hd2⟩ := p2
    simp only at hc2 hd2
    subst hc2 hd2
    exact call_meets F.slot_list_extend ⟨_, e, rfl⟩ F.entry_list_extend (F.args_list_extend_2 _ _)
      (ext_tuple l its.toArray n b its2.toArray m dd2 sl2 hlong (by rw [List.size_toArray]; omega) (by omega)) ⟨e, ho2, fin its2 r2⟩

/-! ### readings -/
def AnsS (K : Fr') (C : Nat → Addr) (W : WX) (Hb : Hp) (Dd : Ends) : SR → Prop
  | .nx τ => ∀ σ O H, RS K O H σ τ → Same Hb (hide H O) → Dd.nx σ H
  | .rt d => ∀ v H, Same Hb H → Rp K H v d → Dd.rt v H
  | .ex c => ∀ σ H, Same Hb H → W (.ref (C c)) none σ H
  | .no => False
def tS (K : Fr') (C : Nat → Addr) (W : WX) (r : Sd → SR) : TS := fun Dd σ H => ∃ Hb O τ, RS K O H σ τ ∧ Same Hb (hide H O) ∧ AnsS K C W Hb Dd (r τ)
abbrev PSx (X : Cx) (C : Nat → Addr) (W : WX) (st : Stmt) (r : Sd → SR) : Prop := PS X st (tS X.K C W r)
abbrev PSsx (X : Cx) (C : Nat → Addr) (W : WX) (st : List Stmt) (r : Sd → SR) : Prop := PSs X st (tS X.K C W r)
section
variable {K : Fr'} {C : Nat → Addr} {W : WX} {Hb Hb' : Hp} {Dd : Ends}
theorem AnsS.rebase {r : SR} (h : AnsS K C W Hb Dd r) (e : Same Hb Hb') : AnsS K C W Hb' Dd r := by
  cases r with
  | nx τ => exact fun σ O H rs s => h σ O H rs (e.trans s)
  | rt d => exact fun v H s r => h v H (e.trans s) r
  | ex c => exact fun σ H s => h σ H (e.trans s)
  | no => exact h
theorem AnsS.step {α β : Type} {O : List Addr} {H : Hp} {σ : St} {rel : Hp → β → α → Prop} {Q : β → Hp → Prop} {ra : R α} {k : α → SR} (h : AnsS K C W Hb Dd (ra.toS k)) (sb : Same Hb (hide H O))
    (f : ∀ a b H1, Same H H1 → rel H1 b a → AnsS K C W Hb Dd (k a) → Q b H1) : Ans C W O H σ rel Q ra := by
  cases ra with
  | ok a => exact fun b H1 e r => f a b H1 e r h
  | ex c => exact fun H' e => h σ H' (e.from sb)
  | no => exact h
/-- with another end -/
theorem AnsS.thn {Dd' : Ends} {r : SR} {k : Sd → SR} (h : AnsS K C W Hb Dd (r.thn k)) (hn : ∀ τ, AnsS K C W Hb Dd (k τ) → ∀ σ O H, RS K O H σ τ → Same Hb (hide H O) → Dd'.nx σ H) (hr : Dd'.rt = Dd.rt) : AnsS K C W Hb Dd' r := by
  cases r with
  | nx τ => exact fun σ O H rs s => hn τ h σ O H rs s
  | rt d => exact fun v H s r => by rw [hr]; exact h v H s r
  | ex c => exact h
  | no => exact h
end
section
variable {K : Fr'} {O : List Addr} {H : Hp} {σ : St} {τ : Sd}
theorem get_set {α : Type} {l : List α} {i j : Nat} {x y : α} (h : (l.set i x)[j]? = some y) : (j = i ∧ y = x ∧ i < l.length) ∨ (j ≠ i ∧ l[j]? = some y) := by
  by_cases hj : i = j
  · subst hj
    by_cases hl : i < l.length
    · rw [List.getElem?_set_self hl] at h
      exact .inl ⟨rfl, (Option.some.inj h).symm, hl⟩
    · rw [List.getElem?_eq_none (by simpa using hl)] at h; cases h
  · rw [List.getElem?_set_ne hj] at h; exact .inr ⟨Ne.symm hj, h⟩
/-- an own list changes -/
theorem RS.upd (r : RS K O H σ τ) {i : Nat} {l : Addr} {xs ys : List D} {ws : List V} (hi : τ[i]? = some (some (.own xs))) (hs : σ[i]? = some (some (.ref l))) (hO : l ∈ O) (hw : RpAll K (hide H O) ws ys) (hz : ys.length ≤ sizeLine) :
    RS K O (L2.upd H l (.lst ws)) σ (τ.set i (some (.own ys))) := by
  have hh : hide (L2.upd H l (.lst ws)) O = hide H O := hide_upd_in hO
  have hil : i < τ.length := (List.getElem?_eq_some_iff.mp hi).1
  refine ⟨tab_put (r.lst l hO).choose_spec (fun _ z => by cases z) (fun _ z => by cases z) r.tab, by simp [r.len], fun a ha => ?_, fun j d e => ?_, fun j zs e => ?_, fun j k a zs zs' hjk e1 e2 e3 e4 => ?_⟩
  · by_cases hal : a = l
    · subst hal; exact ⟨ws, upd_same⟩
    · obtain ⟨vs, q⟩ := r.lst a ha
      exact ⟨vs, by rw [upd_ne hal]; exact q⟩
  · rw [hh]
    rcases get_set e with ⟨_, z, _⟩ | ⟨_, e⟩
    · cases z
    · exact r.val j d e
  · rw [hh]
    rcases get_set e with ⟨rfl, z, _⟩ | ⟨hj, e⟩
    · cases z
      exact ⟨l, ws, hs, hO, upd_same, hw, hz⟩
    · obtain ⟨a, vs, h1, h2, h3, h4, h5⟩ := r.own j zs e
      have : a ≠ l := by
        intro z; subst z
        exact r.sep j i a zs xs hj e hi h1 hs
      exact ⟨a, vs, h1, h2, by rw [upd_ne this]; exact h3, h4, h5⟩
  · have key : ∀ {j : Nat} {zs : List D}, (τ.set i (some (.own ys)))[j]? = some (some (.own zs)) → ∃ zs', τ[j]? = some (some (.own zs')) := fun {j zs} e => by
      rcases get_set e with ⟨rfl, _, _⟩ | ⟨_, e⟩
      · exact ⟨xs, hi⟩
      · exact ⟨zs, e⟩
    obtain ⟨z1, q1⟩ := key e1
    obtain ⟨z2, q2⟩ := key e2
    exact r.sep j k a z1 z2 hjk q1 q2 e3 e4
/-- a new own list in a slot -/
theorem RS.setOwn {H0 : Hp} (r : RS K O H0 σ τ) (e : Same H0 H) {i : Nat} {p : Addr} {ys : List D} {ws : List V} (hn : Fr H0 p) (hp : H p = some (.lst ws)) (hw : RpAll K (hide H (p :: O)) ws ys) (hz : ys.length ≤ sizeLine) :
    RS K (p :: O) H (σ.set i (some (.ref p))) (τ.set i (some (.own ys))) := by
  have r1 : RS K (p :: O) H σ τ := r.hide1 hn e hp
  have np : ∀ {j : Nat} {zs : List D} , τ[j]? = some (some (.own zs)) → σ[j]? = some (some (.ref p)) → False := fun {j zs} h1 h2 => by
    obtain ⟨a, vs, q1, q2, q3, _⟩ := r.own j zs h1
    rw [h2] at q1
    cases q1
    exact hn.lst q3
  have hll : ∀ {j : Nat}, j < τ.length → j < σ.length := fun h => by rw [r.len]; exact h
  refine ⟨r1.tab, by simp [r.len], r1.lst, fun j d e => ?_, fun j zs e => ?_, fun j k a zs zs' hjk e1 e2 e3 e4 => ?_⟩
  · rcases get_set e with ⟨_, z, _⟩ | ⟨hj, e⟩
    · cases z
    · obtain ⟨v, h1, h2⟩ := r1.val j d e
      exact ⟨v, by rw [List.getElem?_set_ne (Ne.symm hj)]; exact h1, h2⟩
  · rcases get_set e with ⟨rfl, z, hl⟩ | ⟨hj, e⟩
    · cases z
      exact ⟨p, ws, by rw [List.getElem?_set_self (hll hl)], List.mem_cons_self, hp, hw, hz⟩
    · obtain ⟨a, vs, h1, h2, h3⟩ := r1.own j zs e
      exact ⟨a, vs, by rw [List.getElem?_set_ne (Ne.symm hj)]; exact h1, h2, h3⟩
  · rcases get_set e1 with ⟨hj, z, hl⟩ | ⟨hj, e1'⟩
    · rcases get_set e2 with ⟨hk, _, _⟩ | ⟨hk, e2'⟩
      · exact hjk (hj.trans hk.symm)
      · rw [hj, List.getElem?_set_self (hll hl)] at e3
        cases e3
        rw [List.getElem?_set_ne (Ne.symm hk)] at e4
        exact np e2' e4
    · rw [List.getElem?_set_ne (Ne.symm hj)] at e3
      rcases get_set e2 with ⟨hk, z, hl⟩ | ⟨hk, e2'⟩
      · rw [hk, List.getElem?_set_self (hll hl)] at e4
        cases e4
        exact np e1' e3
      · rw [List.getElem?_set_ne (Ne.symm hk)] at e4
        exact r.sep j k a zs zs' hjk e1' e2' e3 e4
theorem RS.frz1 (r : RS K O H σ τ) (i : Nat) : ∃ O', RS K O' H σ (Fz.frz1 τ i) ∧ ∀ a ∈ O', a ∈ O := by
  unfold Fz.frz1
  split
  · rename_i xs hi
    obtain ⟨l, vs, h1, h2, h3, h4, h5⟩ := r.own i xs hi
    have hs : ∀ a ∈ O.filter (fun b => decide (b ≠ l)), a ∈ O := fun a ha => (List.mem_filter.mp ha).1
    have hl : l ∉ O.filter (fun b => decide (b ≠ l)) := fun z => by simpa using (List.mem_filter.mp z).2
    have hil : i < σ.length := (List.getElem?_eq_some_iff.mp h1).1
    refine ⟨O.filter (fun b => decide (b ≠ l)), ⟨r.tab, by simp [r.len], fun a ha => r.lst a (hs a ha), fun j d e => ?_, fun j zs e => ?_, fun j k a zs zs' hjk e1 e2 e3 e4 => ?_⟩, hs⟩
    · rcases get_set e with ⟨rfl, z, _⟩ | ⟨hj, e⟩
      · cases z
        exact ⟨.ref l, h1, .lst (.of (by rw [hide_out hl]; exact h3)) (h4.mono (hide_sub hs).ex) h5⟩
      · obtain ⟨v, q1, q2⟩ := r.val j d e
        exact ⟨v, q1, q2.mono (hide_sub hs).ex⟩
    · rcases get_set e with ⟨_, z, _⟩ | ⟨hj, e⟩
      · cases z
      · obtain ⟨a, ws, q1, q2, q3, q4, q5⟩ := r.own j zs e
        have : a ≠ l := by
          intro z; subst z
          exact r.sep j i a zs xs hj e hi q1 h1
        exact ⟨a, ws, q1, List.mem_filter.mpr ⟨q2, by simpa using this⟩, q3, q4.mono (hide_sub hs).ex, q5⟩
    · rcases get_set e1 with ⟨_, z, _⟩ | ⟨hj, e1⟩
      · cases z
      · rcases get_set e2 with ⟨_, z, _⟩ | ⟨hk, e2⟩
        · cases z
        · exact r.sep j k a zs zs' hjk e1 e2 e3 e4
  · exact ⟨O, r, fun a h => h⟩
theorem RS.frz : ∀ (l : List Nat) {τ : Sd} {O : List Addr}, RS K O H σ τ → ∃ O', RS K O' H σ (Fz.frz τ l) ∧ ∀ a ∈ O', a ∈ O
  | [], τ, O, r => ⟨O, r, fun a h => h⟩
  | i :: l, τ, O, r => by
    obtain ⟨O1, r1, s1⟩ := r.frz1 i
    obtain ⟨O2, r2, s2⟩ := RS.frz l r1
    exact ⟨O2, r2, fun a h => s1 a (s2 a h)⟩
end

/-! ### rules -/
section
variable {X : Cx} {C : Nat → Addr} {W : WX} {pos : Pos}
theorem xs_expr {e : Expr} {r : Sd → R D} {m : Bool} (h : PEx X C W m e r) (hs : swapsWith e none pos.line X.env = pure false) : PSx X C W (.Expr e pos) (fun τ => (r τ).toS fun _ => .nx τ) :=
  (ps_expr h hs).fimp fun Dd σ H ⟨Hb, O, τ, rs, sb, hh⟩ => ⟨O, τ, rs, AnsS.step hh sb fun d v H1 e1 _ z => z σ O H1 (rs.mono e1) (sb.trans (e1.hideS rs.lst))⟩
theorem xs_ret {e : Expr} {r : Sd → R D} (h : PEx X C W true e r) : PSx X C W (.Return (some e) pos) (fun τ => (r τ).toS .rt) :=
  (ps_ret h).fimp fun Dd σ H ⟨Hb, O, τ, rs, sb, hh⟩ => ⟨O, τ, rs, AnsS.step hh sb fun d v H1 e1 q z => z v H1 ((sb.trans (e1.hideS rs.lst)).trans same_hide) (Rp.mono ex_hide q)⟩
theorem xs_pass : PSx X C W (.Pass pos) .nx := ps_pass.fimp fun Dd σ H ⟨Hb, O, τ, rs, sb, hh⟩ => hh σ O H rs sb
theorem xs_if {c : Expr} {a b : List Stmt} {rc : Sd → R Bool} {ra rb : Sd → SR} (hc : PTx X C W c rc) (ha : PSsx X C W a ra) (hb : PSsx X C W b rb) : PSx X C W (.If c a b pos) (fun τ => (rc τ).toS fun k => if k = true then ra τ else rb τ) := by
  refine (ps_if hc ha hb).fimp fun Dd σ H ⟨Hb, O, τ, rs, sb, hh⟩ => ⟨O, τ, rs, AnsS.step hh sb fun k k' H1 e1 q z => ?_⟩
  cases q
  cases k
  · exact ⟨Hb, O, τ, rs.mono e1, sb.trans (e1.hideS rs.lst), z⟩
  · exact ⟨Hb, O, τ, rs.mono e1, sb.trans (e1.hideS rs.lst), z⟩
theorem xs_nil : PSsx X C W [] .nx := pss_nil.fimp fun Dd σ H ⟨Hb, O, τ, rs, sb, hh⟩ => hh σ O H rs sb
theorem xs_cons {st : Stmt} {rest : List Stmt} {r : Sd → SR} {k : Sd → SR} (h : PSx X C W st r) (h2 : PSsx X C W rest k) : PSsx X C W (st :: rest) (fun τ => (r τ).thn k) :=
  (pss_cons h h2).fimp fun Dd σ H ⟨Hb, O, τ, rs, sb, hh⟩ => ⟨Hb, O, τ, rs, sb, AnsS.thn hh (fun τ z σ' O' H' rs' s' => ⟨Hb, O', τ, rs', s', z⟩) rfl⟩
theorem xs_fz {st : Stmt} {r : Sd → SR} {l : List Nat} (h : PSx X C W st r) : PSx X C W st (fun τ => r (frz τ l)) :=
  h.fimp fun Dd σ H ⟨Hb, O, τ, rs, sb, hh⟩ => by
    obtain ⟨O', rs', s'⟩ := rs.frz l
    exact ⟨Hb, O', frz τ l, rs', sb.trans (hide_sub s'), hh⟩
theorem xs_raise {e : Expr} {a : Nat} (hc : X.calm = true) (tk : Takes X W) (h : PMk X e (fun _ H Q => Q (.ref (C a)) none H)) : PSx X C W (.Raise (some e) none pos) (fun _ => .ex a) :=
  (ps_raise hc tk h).fimp fun Dd σ H ⟨Hb, O, τ, rs, sb, hh⟩ => hh σ H (sb.trans same_hide)
/-- a store by a target -/
theorem xs_asg {tg e : Expr} {g : Tg} {r : Sd → R D} (h : PEx X C W true e r) (hg : PG X tg (tG X.K g)) (hs : swapsWithSole [tg] e pos.line X.env = pure false) (hw : swappedStores [tg] e X.env = pure none) (h1 : (assignEach [tg] X.env).map (·.2) = [assign tg X.env]) :
    PSx X C W (.Assign [tg] e pos) (fun τ => (r τ).toS fun d => (bindTg g d τ).toS .nx) := by
  refine (ps_asg h hg hs hw h1).fimp fun Dd σ H ⟨Hb, O, τ, rs, sb, hh⟩ => ⟨O, τ, rs, AnsS.step hh sb fun d v H1 e1 q z => ?_⟩
  cases hb : bindTg g d τ with
  | ex c => exfalso; revert hb; unfold bindTg; split <;> (try split) <;> (try split) <;> (intro h; cases h)
  | no => rw [hb] at z; exact z.elim
  | ok τ2 =>
    rw [hb] at z
    exact ⟨O, τ, d, τ2, rs.mono e1, q, hb, fun σ2 rs2 _ => z σ2 O H1 rs2 (sb.trans (e1.hideS rs.lst))⟩
/-- name = [..]: the new list in a slot, by any rule that stores it -/
theorem xs_set_of {st : Stmt} {te : TE} {i : Nat} {r : Sd → R D} (h : PS X st (tAsg te (gName i))) (ht : ∀ {σ : St} {H : Hp} {Q : VK}, tF X.K C W r σ H Q → te σ H Q) :
    PSx X C W st (fun τ => (r τ).toS fun d => (bindTg (.one i) d τ).toS .nx) :=
  h.fimp fun Dd σ H ⟨Hb, O, τ, rs, sb, hh⟩ => ht ⟨O, τ, rs, AnsS.step hh sb fun d v H1 e1 q z => z _ O H1 ((rs.mono e1).setVal (rF_rp rs.lst q)) (sb.trans (e1.hideS rs.lst))⟩
theorem xs_own_of {st : Stmt} {te : TE} {i : Nat} {r : Sd → R D} (h : PS X st (tAsg te (gName i))) (ht : ∀ {σ : St} {H : Hp} {Q : VK}, tF X.K C W r σ H Q → te σ H Q) :
    PSx X C W st (fun τ => (r τ).toS fun d => (match d with
      | .list xs => .nx (τ.set i (some (.own xs)))
      | _ => .no)) := by
  refine h.fimp fun Dd σ H ⟨Hb, O, τ, rs, sb, hh⟩ => ht ⟨O, τ, rs, AnsS.step hh sb fun d v H1 e1 q z => ?_⟩
  obtain ⟨p, vs, xs, rfl, rfl, h1, h2, h3, h4⟩ := q
  exact z _ (p :: O) H1 (rs.setOwn e1 h1 h2 h3 h4) (sb.trans (same_hide1 h1 e1 (rs.setOwn (i := i) e1 h1 h2 h3 h4).lst))
/-! #### loops -/
theorem xs_for {tg iter : Expr} {body : List Stmt} {g : Tg} {rsr : Sd → R (List D)} {rb : Sd → SR} (hp : PassesOwn (model X.prog X.w) X.A X.env X.xe) (hc : X.calm = true) (hi : PIx X C W true tg iter rsr) (hg : PG X tg (tG X.K g)) (hb : PSsx X C W body rb)
    (hf : PS X (.For tg iter body [] pos) (tFor (tR X.K C W (rI X.K true) rsr) (tG X.K g) (tS X.K C W rb))) : PSx X C W (.For tg iter body [] pos) (fun τ => (rsr τ).toS fun ds => loopF (fun x τ => (bindTg g x τ).toS rb) ds τ) := by
  refine hf.fimp fun Dd σ H ⟨Hb0, O, τ, rs, sb0, hh⟩ => ⟨O, τ, rs, AnsS.step hh sb0 fun ds J H1 e1 wk z0 => ?_⟩
  obtain ⟨_, wk⟩ := wk
  have z : AnsS X.K C W (hide H1 O) Dd (loopF (fun x τ => (bindTg g x τ).toS rb) ds τ) := z0.rebase (sb0.trans (e1.hideS rs.lst))
  refine for_it wk (fun i σ' H' => ∃ O' τ', RS X.K O' H' σ' τ' ∧ Same (hide H1 O) (hide H' O') ∧ AnsS X.K C W (hide H1 O) Dd (loopF (fun x τ => (bindTg g x τ).toS rb) (ds.drop i) τ')) ?_ ?_ ?_ ?_
  · exact ⟨O, τ, rs.mono e1, Same.refl _, by simpa using z⟩
  · exact fun i σ' H' _ ⟨O', τ', _, s', _⟩ => s'.ex.trans ex_hide
  · intro i x σ' H2 H3 hi2 ⟨O', τ', rs', s', a⟩ y
    obtain ⟨d, hd, e3, rp⟩ := y.rp (O := O') rs'.lst s'
    have hdrop : ds.drop i = d :: ds.drop (i + 1) := by
      obtain ⟨hl, q⟩ := List.getElem?_eq_some_iff.mp hd
      rw [List.drop_eq_getElem_cons hl, q]
    rw [hdrop] at a
    simp only [loopF] at a
    cases hbt : bindTg g d τ' with
    | ex c => exfalso; revert hbt; unfold bindTg; split <;> (try split) <;> (try split) <;> (intro h; cases h)
    | no => rw [hbt] at a; exact a.elim
    | ok τ2 =>
      rw [hbt] at a
      simp only [R.toS_ok] at a
      exact ⟨O', τ', d, τ2, rs'.mono e3, rp, hbt, fun σ2 rs2 _ => ⟨hide H1 O, O', τ2, rs2, s'.trans (e3.hideS rs'.lst), AnsS.thn a (fun τ3 z3 σ3 O3 H4 rs3 s3 => ⟨O3, τ3, rs3, s3, z3⟩) rfl⟩⟩
  · intro σ' H2 ⟨O', τ', rs', s', a⟩
    rw [List.drop_eq_nil_of_le (Nat.le_refl _)] at a
    exact a σ' O' H2 rs' s'
theorem xs_while {c : Expr} {body : List Stmt} {rc : Sd → R Bool} {rb : Sd → SR} {n : Nat} (hp : PassesOwn (model X.prog X.w) X.A X.env X.xe) (hc : PTx X C W c rc) (hb : PSsx X C W body rb) :
    PSx X C W (.While c body [] pos) (fun τ => loopW rc rb n τ) := by
  refine (ps_while hp hc hb).fimp fun Dd σ H ⟨Hb, O, τ, rs, sb, hh⟩ => ?_
  refine ⟨fun m σ' H' => ∃ O' τ', RS X.K O' H' σ' τ' ∧ Same Hb (hide H' O') ∧ AnsS X.K C W Hb Dd (loopW rc rb m τ'), ⟨n, O, τ, rs, sb, hh⟩, ?_⟩
  rintro m σ' H' ⟨O', τ', rs', s', a⟩
  cases m with
  | zero => exact a.elim
  | succ m =>
    simp only [loopW] at a
    refine ⟨O', τ', rs', AnsS.step a s' fun k k' H1 e1 q z => ?_⟩
    cases q
    cases k
    · exact z σ' O' H1 (rs'.mono e1) (s'.trans (e1.hideS rs'.lst))
    · refine ⟨fun σ2 H2 => ∃ O2 τ2, RS X.K O2 H2 σ2 τ2 ∧ Same Hb (hide H2 O2) ∧ AnsS X.K C W Hb Dd (loopW rc rb m τ2), fun σ2 H2 w => ⟨m, Nat.lt_succ_self m, w⟩, ?_⟩
      exact ⟨Hb, O', τ', rs'.mono e1, s'.trans (e1.hideS rs'.lst), AnsS.thn z (fun τ3 z3 σ3 O3 H4 rs3 s3 => ⟨O3, τ3, rs3, s3, z3⟩) rfl⟩
/-! #### methods of own lists -/
theorem few1 {y : Expr} {env : Env} {cpos : Pos} (h : nostar y = true) : ((backTo cpos (starEach [y] env)).all (fun x => !x.1) && (backToKw cpos (keywordEach [] env)).all (fun x => x.1.isSome)
      && decide (([y] : List Expr).length + ([] : List Keyword).length + (if ([] : List Keyword).isEmpty then 0 else 1) < 30)) = true := by
  rw [star1 h]; rfl
theorem xs_app {i : Nat} {x : Str} {p apos cpos : Pos} {y : Expr} {r : Sd → R D} (hN : X.N[i]? = some x) (hv : Vis X.env.scope x) (hd : (x == ("__debug__" : Str)) = false) (hcd : (x == ("__classdict__" : Str)) = false) (h : PEx X C W true y r) (hs : nostar y = true) (hline : (apos.endLine == cpos.line) = true) :
    PSx X C W (.Expr (.Call (.Attribute (.Name x p) "append" apos) [y] [] cpos) pos) (fun τ => (ownAt τ i).toS fun xs => (r τ).toS fun d => if xs.length < sizeLine then .nx (τ.set i (some (.own (xs ++ [d])))) else .no) := by
  refine (ps_expr (pe_bm PySem.F.plainAttrs_list PySem.F.slot_list_append PySem.F.type_list_append mt_append (pe_var hN hv hd hcd) (pa_cons h pa_nil (star1 hs)) rfl (few1 hs) hline (star1 hs) rfl) rfl).fimp fun Dd σ H ⟨Hb, O, τ, rs, sb, hh⟩ => ?_
  replace hh : AnsS X.K C W Hb Dd ((ownAt τ i).toS fun xs => (r τ).toS fun d => if xs.length < sizeLine then .nx (τ.set i (some (.own (xs ++ [d])))) else .no) := hh
  unfold ownAt at hh
  split at hh
  · rename_i xs hi
    obtain ⟨l, vs, h1, h2, h3, h4, h5⟩ := rs.own i xs hi
    refine ⟨.ref l, h1, .inl ⟨rfl, _, .of h3⟩, O, τ, rs, AnsS.step hh sb fun d v H1 e1 q z => ?_⟩
    have n := h4.length
    by_cases hz : xs.length < sizeLine
    · rw [if_pos hz] at z
      refine ⟨l, vs, v, rfl, rfl, e1.lst h3, by omega, z σ O _ ((rs.mono e1).upd hi h1 h2 ((h4.mono (Same.hide e1)).append (.cons q .nil)) (by simp; omega)) ?_⟩
      rw [hide_upd_in h2]
      exact sb.trans (e1.hideS rs.lst)
    · rw [if_neg hz] at z; exact z.elim
  · exact hh.elim
theorem xs_ext {i : Nat} {x : Str} {p apos cpos : Pos} {y : Expr} {r : Sd → R D} {m : Bool} (hN : X.N[i]? = some x) (hv : Vis X.env.scope x) (hd : (x == ("__debug__" : Str)) = false) (hcd : (x == ("__classdict__" : Str)) = false) (h : PEx X C W m y r) (hs : nostar y = true) (hline : (apos.endLine == cpos.line) = true) :
    PSx X C W (.Expr (.Call (.Attribute (.Name x p) "extend" apos) [y] [] cpos) pos) (fun τ => (ownAt τ i).toS fun xs => (r τ).toS fun d => (ofO (seqOf d)).toS fun ys => if xs.length + ys.length ≤ sizeLine then .nx (τ.set i (some (.own (xs ++ ys)))) else .no) := by
  refine (ps_expr (pe_bm PySem.F.plainAttrs_list PySem.F.slot_list_extend PySem.F.type_list_extend mt_ext (pe_var hN hv hd hcd) (pa_cons h pa_nil (star1 hs)) rfl (few1 hs) hline (star1 hs) rfl) rfl).fimp fun Dd σ H ⟨Hb, O, τ, rs, sb, hh⟩ => ?_
  replace hh : AnsS X.K C W Hb Dd ((ownAt τ i).toS fun xs => (r τ).toS fun d => (ofO (seqOf d)).toS fun ys => if xs.length + ys.length ≤ sizeLine then .nx (τ.set i (some (.own (xs ++ ys)))) else .no) := hh
  unfold ownAt at hh
  split at hh
  · rename_i xs hi
    obtain ⟨l, vs, h1, h2, h3, h4, h5⟩ := rs.own i xs hi
    refine ⟨.ref l, h1, .inl ⟨rfl, _, .of h3⟩, O, τ, rs, AnsS.step hh sb fun d v H1 e1 q z => ?_⟩
    have n := h4.length
    have key : ∀ (ys : List D) (b : Addr) (ws : List V), (SqL X.K H1 b ws ∨ SqT X.K H1 b ws) → RpAll X.K (hide H1 O) ws ys → AnsS X.K C W Hb Dd (if xs.length + ys.length ≤ sizeLine then .nx (τ.set i (some (.own (xs ++ ys)))) else .no) →
        rExt X.K (.ref l) [.ref b] H1 (fun x H1 => Dd.nx σ H1) := by
      intro ys b ws hq hr z
      have n2 := hr.length
      by_cases hz : xs.length + ys.length ≤ sizeLine
      · rw [if_pos hz] at z
        refine ⟨l, b, vs, ws, rfl, rfl, e1.lst h3, hq, by omega, z σ O _ ((rs.mono e1).upd hi h1 h2 ((h4.mono (Same.hide e1)).append hr) (by simp; omega)) ?_⟩
        rw [hide_upd_in h2]
        exact sb.trans (e1.hideS rs.lst)
      · rw [if_neg hz] at z; exact z.elim
    cases d <;> try exact z.elim
    · obtain ⟨b, ws, rfl, q1, q2, q3⟩ := Vd.list (rM_vd q)
      exact key _ b ws (.inl q1) q2 z
    · obtain ⟨b, ws, rfl, q1, q2, q3⟩ := Vd.tuple (rM_vd q)
      exact key _ b ws (.inr (sqT_same ex_hide q1)) q2 z
  · exact hh.elim
/-! #### a, b = x, y -/
theorem setPar_all : ∀ {is : List Nat} {ds : List D} {τ : Sd}, is.length = ds.length → setPar τ (is.map fun i => (i, false)) ds = .ok (setAll τ is ds)
  | [], [], τ, _ => rfl
  | i :: is, d :: ds, τ, h => by
    simp only [List.map_cons, setPar, setAll]
    exact setPar_all (by simpa using h)
  | [], _ :: _, _, h => by simp at h
  | _ :: _, [], _, h => by simp at h
theorem xs_par2 {i j : Nat} {x y : Str} {a b : Expr} {rr : Sd → R (List D)} {px py pt : Pos} {kt k2 : Nat} {pt2 : Pos} (hc : X.calm = true) (hN : X.N.Nodup) (hi : X.N[i]? = some x) (hj : X.N[j]? = some y) (hij : i ≠ j)
    (hx : X.env.scope.names.lookup x = some .local) (hy : X.env.scope.names.lookup y = some .local) (ha : PAx X C W [a, b] rr) (hr : ∀ τ ds, rr τ = .ok ds → ds.length = 2)
    (hw : swappedStores [.Tuple [.Name x px, .Name y py] kt pt] (.Tuple [a, b] k2 pt2) X.env = pure (some [x, y])) :
    PSx X C W (.Assign [.Tuple [.Name x px, .Name y py] kt pt] (.Tuple [a, b] k2 pt2) pos) (fun τ => (rr τ).toS fun ds => (setPar τ [(i, false), (j, false)] ds).toS .nx) := by
  refine (ps_par hc hN hi hj hij hx hy ha hw rfl).fimp fun Dd σ H ⟨Hb, O, τ, rs, sb, hh⟩ => ⟨O, τ, rs, ?_⟩
  dsimp only at hh
  cases hz : rr τ with
  | ex c => rw [hz] at hh; exact fun H' e => hh σ H' (e.from sb)
  | no => rw [hz] at hh; exact hh.elim
  | ok ds =>
    rw [hz] at hh
    have n := hr τ ds hz
    intro vs H1 e1 q
    have n2 := RpAll.length q
    match ds, vs, q, n, hh with
    | [d1, d2], [v1, v2], q, _, hh => exact ⟨v1, v2, rfl, hh _ O H1 ((rs.mono e1).setSt (is := [i, j]) q rfl) (sb.trans (e1.hideS rs.lst))⟩
theorem xs_par3 {i j l : Nat} {x y z : Str} {a b c : Expr} {rr : Sd → R (List D)} {px py pz pt : Pos} {kt k2 : Nat} {pt2 : Pos} (hc : X.calm = true) (hN : X.N.Nodup) (hi : X.N[i]? = some x) (hj : X.N[j]? = some y) (hl : X.N[l]? = some z) (hij : i ≠ j) (hil : i ≠ l) (hjl : j ≠ l)
    (hx : X.env.scope.names.lookup x = some .local) (hy : X.env.scope.names.lookup y = some .local) (hz : X.env.scope.names.lookup z = some .local) (ha : PAx X C W [a, b, c] rr) (hr : ∀ τ ds, rr τ = .ok ds → ds.length = 3)
    (hw : swappedStores [.Tuple [.Name x px, .Name y py, .Name z pz] kt pt] (.Tuple [a, b, c] k2 pt2) X.env = pure (some [x, y, z])) :
    PSx X C W (.Assign [.Tuple [.Name x px, .Name y py, .Name z pz] kt pt] (.Tuple [a, b, c] k2 pt2) pos) (fun τ => (rr τ).toS fun ds => (setPar τ [(i, false), (j, false), (l, false)] ds).toS .nx) := by
  refine (ps_par3 hc hN hi hj hl hij hil hjl hx hy hz ha hw rfl).fimp fun Dd σ H ⟨Hb, O, τ, rs, sb, hh⟩ => ⟨O, τ, rs, ?_⟩
  dsimp only at hh
  cases hz : rr τ with
  | ex c => rw [hz] at hh; exact fun H' e => hh σ H' (e.from sb)
  | no => rw [hz] at hh; exact hh.elim
  | ok ds =>
    rw [hz] at hh
    have n := hr τ ds hz
    intro vs H1 e1 q
    have n2 := RpAll.length q
    match ds, vs, q, n, hh with
    | [d1, d2, d3], [v1, v2, v3], q, _, hh => exact ⟨v1, v2, v3, rfl, hh _ O H1 ((rs.mono e1).setSt (is := [i, j, l]) q rfl) (sb.trans (e1.hideS rs.lst))⟩
end
end Fz

set_option Elab.async false
set_option linter.all false
set_option autoImplicit false
set_option maxRecDepth 100000
/-! Part P2: several stores at once, own lists among them. -/
namespace Fz
open PySem PySem.Spec L2
variable [TabT]
section
variable {K : Fr'} {O : List Addr} {H : Hp} {σ : St} {τ : Sd}
theorem RS.pushNone (r : RS K O H σ τ) : RS K O H (σ ++ [none]) (τ ++ [none]) := by
  have key : ∀ {j : Nat} {z : Sv}, (τ ++ [none])[j]? = some (some z) → τ[j]? = some (some z) := fun {j z} e => by
    by_cases h : j < τ.length
    · rwa [List.getElem?_append_left h] at e
    · rw [List.getElem?_append_right (by omega)] at e
      cases hj : j - τ.length with
      | zero => rw [hj] at e; cases e
      | succ k => rw [hj] at e; cases e
  have key2 : ∀ {j : Nat} {z : Sv}, τ[j]? = some (some z) → (σ ++ [none])[j]? = σ[j]? := fun {j z} e => by
    have h : j < τ.length := (List.getElem?_eq_some_iff.mp e).1
    rw [List.getElem?_append_left (by rw [r.len]; exact h)]
  refine ⟨r.tab, by simp [r.len], r.lst, fun j d e => ?_, fun j xs e => ?_, fun j k a xs ys hjk e1 e2 e3 e4 => ?_⟩
  · rw [key2 (key e)]; exact r.val j d (key e)
  · rw [key2 (key e)]; exact r.own j xs (key e)
  · rw [key2 (key e1)] at e3
    rw [key2 (key e2)] at e4
    exact r.sep j k a xs ys hjk (key e1) (key e2) e3 e4
theorem set_end {α : Type} (l : List α) (x y : α) : (l ++ [x]).set l.length y = l ++ [y] := by
  rw [List.set_append_right _ _ (Nat.le_refl _), Nat.sub_self]; rfl
theorem RS.pushVal (r : RS K O H σ τ) {v : V} {d : D} (h : Rp K (hide H O) v d) : RS K O H (σ ++ [some v]) (τ ++ [some (.val d)]) := by
  have := r.pushNone.setVal (i := τ.length) h
  rw [set_end] at this
  rw [← r.len, set_end] at this
  exact this
theorem RS.pushOwn {H0 : Hp} (r : RS K O H0 σ τ) (e : Same H0 H) {p : Addr} {ys : List D} {ws : List V} (hn : Fr H0 p) (hp : H p = some (.lst ws)) (hw : RpAll K (hide H (p :: O)) ws ys) (hz : ys.length ≤ sizeLine) :
    RS K (p :: O) H (σ ++ [some (.ref p)]) (τ ++ [some (.own ys)]) := by
  have := r.pushNone.setOwn e (i := τ.length) hn hp hw hz
  rw [set_end] at this
  rw [← r.len, set_end] at this
  exact this
theorem RS.rename {σ' : St} {τ' : Sd} (r : RS K O H σ τ) (hlen : σ'.length = τ'.length) (ρ : Nat → Nat) (h : ∀ j z, τ'[j]? = some (some z) → τ[ρ j]? = some (some z) ∧ σ[ρ j]? = σ'[j]?)
    (inj : ∀ j k z z', τ'[j]? = some (some z) → τ'[k]? = some (some z') → ρ j = ρ k → j = k) : RS K O H σ' τ' := by
  refine ⟨r.tab, hlen, r.lst, fun j d e => ?_, fun j xs e => ?_, fun j k a xs ys hjk e1 e2 e3 e4 => ?_⟩
  · obtain ⟨h1, h2⟩ := h j _ e
    rw [← h2]; exact r.val _ d h1
  · obtain ⟨h1, h2⟩ := h j _ e
    rw [← h2]; exact r.own _ xs h1
  · obtain ⟨h1, h2⟩ := h j _ e1
    obtain ⟨h3, h4⟩ := h k _ e2
    exact r.sep (ρ j) (ρ k) a xs ys (fun e => hjk (inj j k _ _ e1 e2 e)) h1 h3 (by rw [h2]; exact e3) (by rw [h4]; exact e4)
/-- the first one behind goes to slot i -/
theorem RS.move {x : Option V} {y : Option Sv} {u : St} {t : Sd} (hl : σ.length = τ.length) (r : RS K O H (σ ++ x :: u) (τ ++ y :: t)) (i : Nat) : RS K O H (σ.set i x ++ u) (τ.set i y ++ t) := by
  have hlu : u.length = t.length := by have := r.len; simp at this; omega
  refine r.rename (by simp [hl, hlu]) (fun j => if j < τ.length then (if j = i then τ.length else j) else j + 1) (fun j z e => ?_) (fun j k z z' e1 e2 h => ?_)
  · by_cases hj : j < τ.length
    · rw [List.getElem?_append_left (by simpa using hj)] at e
      rw [List.getElem?_append_left (l₁ := σ.set i x) (by simp; omega)]
      simp only [hj, if_true]
      rcases get_set e with ⟨rfl, h, hi⟩ | ⟨hji, e⟩
      · simp only [if_true]
        rw [List.getElem?_append_right (Nat.le_refl _), Nat.sub_self, List.getElem?_append_right (by omega), hl, Nat.sub_self, List.getElem?_set_self (by omega)]
        exact ⟨by rw [h]; rfl, rfl⟩
      · simp only [hji, if_false]
        rw [List.getElem?_append_left hj, List.getElem?_append_left (by omega), List.getElem?_set_ne (Ne.symm hji)]
        exact ⟨e, rfl⟩
    · rw [List.getElem?_append_right (by simpa using hj)] at e
      rw [List.getElem?_append_right (l₁ := σ.set i x) (by simp; omega)]
      simp only [hj, if_false]
      simp only [List.length_set] at e ⊢
      have e1 : j + 1 - τ.length = (j - τ.length) + 1 := by omega
      have e2 : j + 1 - σ.length = (j - σ.length) + 1 := by omega
      rw [List.getElem?_append_right (by omega), e1, List.getElem?_append_right (by omega), e2]
      exact ⟨e, rfl⟩
  · split at h <;> split at h <;> (try split at h) <;> (try split at h) <;> omega
theorem RS.prefix {u : St} {t : Sd} (r : RS K O H (σ ++ u) (τ ++ t)) (hl : σ.length = τ.length) : RS K O H σ τ := by
  have at_ : ∀ {j : Nat} {z : Option Sv}, τ[j]? = some z → (τ ++ t)[j]? = some z ∧ (σ ++ u)[j]? = σ[j]? := fun {j z} e => by
    have h : j < τ.length := (List.getElem?_eq_some_iff.mp e).1
    exact ⟨by rw [List.getElem?_append_left h]; exact e, List.getElem?_append_left (by omega)⟩
  refine ⟨r.tab, hl, r.lst, fun j d e => ?_, fun j xs e => ?_, fun j k a xs ys hjk e1 e2 e3 e4 => ?_⟩
  · obtain ⟨h1, h2⟩ := at_ e
    rw [← h2]; exact r.val j d h1
  · obtain ⟨h1, h2⟩ := at_ e
    rw [← h2]; exact r.own j xs h1
  · obtain ⟨h1, h2⟩ := at_ e1
    obtain ⟨h3, h4⟩ := at_ e2
    exact r.sep j k a xs ys hjk h1 h3 (by rw [h2]; exact e3) (by rw [h4]; exact e4)
end
/-- what is put into the slots -/
def svOf : Bool → D → Sv
  | true, .list xs => .own xs
  | _, d => .val d
def svs : List Bool → List D → List Sv
  | b :: bs, d :: ds => svOf b d :: svs bs ds
  | _, _ => []
def isL : Bool → D → Bool
  | true, .list _ => true
  | true, _ => false
  | false, _ => true
def setSv : Sd → List Nat → List Sv → Sd
  | τ, i :: is, v :: vs => setSv (τ.set i (some v)) is vs
  | τ, _, _ => τ
/-- the readings of a row, some of them new lists -/
def tMix (K : Fr') (C : Nat → Addr) (W : WX) : List (Bool × (Sd → R D)) → TA
  | [] => tNil
  | (b, r) :: l => tCons (if b = true then tF K C W r else tR K C W (rM K true) r) (tMix K C W l)
section
variable {X : Cx} {C : Nat → Addr} {W : WX} {pos : Pos}
theorem mix_rd {σ : St} {τ : Sd} (hl : σ.length = τ.length) : ∀ {l : List (Bool × (Sd → R D))} {u : St} {t : Sd} {O : List Addr} {H : Hp} {Q : List V → Hp → Prop}, RS X.K O H (σ ++ u) (τ ++ t) →
    (match rsL (l.map (·.2)) τ with
      | .ok ds => ∀ vs O' H', Same (hide H O) (hide H' O') → Same H H' → RS X.K O' H' (σ ++ u ++ vs.map some) (τ ++ t ++ (svs (l.map (·.1)) ds).map some) → vs.length = l.length → setPar τ [] [] = .ok τ → (∀ is : List Nat, is.length = l.length → ∀ τ1, setPar τ1 (is.zip (l.map (·.1))) ds = .ok (setSv τ1 is (svs (l.map (·.1)) ds))) → Q vs H'
      | .ex c => ∀ H', Off O H H' → W (.ref (C c)) none σ H'
      | .no => False) → tMix X.K C W l σ H Q
  | [], u, t, O, H, Q, r, h => by
    refine h [] O H (Same.refl _) (Same.refl _) (by simpa [svs] using r) rfl rfl fun is his τ1 => ?_
    cases is with
    | nil => rfl
    | cons _ _ => simp at his
  | (b, rd) :: l, u, t, O, H, Q, r, h => by
    have r0 := r.prefix hl
    simp only [List.map_cons, rsL] at h
    have goal : ∀ (d : D) (v : V) (O1 : List Addr) (H1 : Hp), rd τ = .ok d → isL b d = true → Same (hide H O) (hide H1 O1) → Same H H1 → RS X.K O1 H1 (σ ++ (u ++ [some v])) (τ ++ (t ++ [some (svOf b d)])) → tMix X.K C W l σ H1 fun xs H2 => Q (v :: xs) H2 := by
      intro d v O1 H1 hd hb e1 e1' r1
      rw [hd] at h
      simp only [R.bind_ok] at h
      refine mix_rd hl r1 ?_
      cases hz : rsL (l.map (·.2)) τ with
      | no => rw [hz] at h; exact h
      | ex c => rw [hz] at h; exact fun H' e => h H' ⟨e1.ex.trans e.ex, fun t => e.tab (e1'.tab t)⟩
      | ok ds =>
        rw [hz] at h
        intro vs O' H' e2 e2' r2 hlen _ hsp
        refine h (v :: vs) O' H' (e1.trans e2) (e1'.trans e2') ?_ (by simp [hlen]) rfl fun is his τ1 => ?_
        · simpa [svs, List.append_assoc] using r2
        · cases is with
          | nil => simp at his
          | cons i is =>
            cases b with
            | false => exact hsp is (by simpa using his) (τ1.set i (some (.val d)))
            | true =>
              cases d <;> try (cases hb)
              rename_i xs
              exact hsp is (by simpa using his) (τ1.set i (some (.own xs)))
    cases b with
    | false =>
      show tR X.K C W (rM X.K true) rd σ H fun x H1 => tMix X.K C W l σ H1 fun xs H2 => Q (x :: xs) H2
      refine ⟨O, τ, r0, ?_⟩
      cases hd : rd τ with
      | no => rw [hd] at h; exact h
      | ex c => rw [hd] at h; exact h
      | ok d =>
        intro v H1 e1 rv
        exact goal d v O H1 hd rfl (e1.hideS r.lst) e1 (by have := (r.mono e1).pushVal rv; simpa [svOf, List.append_assoc] using this)
    | true =>
      show tF X.K C W rd σ H fun x H1 => tMix X.K C W l σ H1 fun xs H2 => Q (x :: xs) H2
      refine ⟨O, τ, r0, ?_⟩
      cases hd : rd τ with
      | no => rw [hd] at h; exact h
      | ex c => rw [hd] at h; exact h
      | ok d =>
        intro v H1 e1 rv
        obtain ⟨p, ws, xs, rfl, rfl, h1, h2, h3, h4⟩ := rv
        exact goal _ _ (p :: O) H1 hd rfl (same_hide1 h1 e1 (r.pushOwn e1 h1 h2 h3 h4).lst) e1 (by have := r.pushOwn e1 h1 h2 h3 h4; simpa [svOf, List.append_assoc] using this)
theorem move_all {K : Fr'} {O : List Addr} {H : Hp} : ∀ {is : List Nat} {vs : List V} {ts : List Sv} {σ : St} {τ : Sd}, is.length = vs.length → vs.length = ts.length → σ.length = τ.length → RS K O H (σ ++ vs.map some) (τ ++ ts.map some) → RS K O H (setSt σ is vs) (setSv τ is ts)
  | [], [], [], σ, τ, _, _, _, r => by simpa [setSt, setSv] using r
  | i :: is, v :: vs, t :: ts, σ, τ, h1, h2, hl, r => by
    simp only [List.map_cons] at r
    have := RS.move hl r i
    simp only [setSt, setSv]
    exact move_all (by simpa using h1) (by simpa using h2) (by simp [hl]) this
  | [], _ :: _, _, _, _, h1, _, _, _ => by simp at h1
  | _ :: _, [], _, _, _, h1, _, _, _ => by simp at h1
  | _, [], _ :: _, _, _, _, h2, _, _ => by simp at h2
  | _, _ :: _, [], _, _, _, h2, _, _ => by simp at h2
theorem svs_len : ∀ {bs : List Bool} {ds : List D}, bs.length = ds.length → (svs bs ds).length = ds.length
  | [], [], _ => rfl
  | b :: bs, d :: ds, h => by simp only [svs, List.length_cons]; rw [svs_len (by simpa using h)]
  | [], _ :: _, h => by simp at h
  | _ :: _, [], h => by simp at h
theorem rsL_len : ∀ {rs : List (Sd → R D)} {τ : Sd} {ds : List D}, rsL rs τ = .ok ds → ds.length = rs.length
  | [], τ, ds, h => by simp only [rsL] at h; cases h; rfl
  | e :: es, τ, ds, h => by
    simp only [rsL] at h
    cases h1 : e τ with
    | ok d =>
      rw [h1] at h
      simp only [R.bind_ok] at h
      cases h2 : rsL es τ with
      | ok r => rw [h2] at h; cases h; simp [rsL_len h2]
      | ex c => rw [h2] at h; cases h
      | no => rw [h2] at h; cases h
    | ex c => rw [h1] at h; cases h
    | no => rw [h1] at h; cases h
theorem zip_proj {α β γ : Type} : ∀ (l : List (α × β × γ)), (l.map (·.1)).zip (l.map (·.2.1)) = l.map fun p => (p.1, p.2.1)
  | [] => rfl
  | a :: l => by simp [zip_proj l]
/-- the stores: from any rule whose reading is the row's, then the slots -/
theorem xs_mix {st : Stmt} {l : List (Nat × Bool × (Sd → R D))} (h : PS X st (fun Dd σ H => tMix X.K C W (l.map (·.2)) σ H fun vs H1 => ∀ H2, Same H1 H2 → Dd.nx (setSt σ (l.map (·.1)) vs) H2)) :
    PSx X C W st (fun τ => (rsL (l.map (·.2.2)) τ).toS fun ds => (setPar τ (l.map fun p => (p.1, p.2.1)) ds).toS .nx) := by
  refine h.fimp fun Dd σ H ⟨Hb, O, τ, rs, sb, hh⟩ => ?_
  refine mix_rd (u := []) (t := []) rs.len (by simpa using rs) ?_
  have em : (l.map (·.2)).map (·.2) = l.map (·.2.2) := by simp [List.map_map]
  rw [em]
  dsimp only at hh
  cases hz : rsL (l.map (·.2.2)) τ with
  | no => rw [hz] at hh; exact hh
  | ex c => rw [hz] at hh; exact fun H' e => hh σ H' (e.from sb)
  | ok ds =>
    rw [hz] at hh
    intro vs O' H' e1 e1' r hlen _ hsp H2 e2
    have hb : (l.map (·.2)).map (·.1) = l.map (·.2.1) := by simp [List.map_map]
    have hz' := hsp (l.map (·.1)) (by simp) τ
    have hzip : (l.map (·.1)).zip ((l.map (·.2)).map (·.1)) = l.map fun p => (p.1, p.2.1) := by
      rw [hb]; exact zip_proj l
    rw [hzip] at hz'
    rw [R.toS_ok, hz', R.toS_ok] at hh
    have hdl := rsL_len hz
    have r' : RS X.K O' H' (σ ++ vs.map some) (τ ++ (svs ((l.map (·.2)).map (·.1)) ds).map some) := by simpa using r
    refine hh _ O' H2 ((move_all (by simpa using hlen.symm) ?_ rs.len r').mono e2) ((sb.trans e1).trans (e2.hideS r'.lst))
    rw [svs_len (by simp [hdl]), hdl, hlen]; simp
theorem tR_mono {σ : St} {H : Hp} {r : Sd → R D} {m : Bool} {Q Q' : VK} (h : tR X.K C W (rM X.K m) r σ H Q) (f : ∀ v H1, Q v H1 → Q' v H1) : tR X.K C W (rM X.K m) r σ H Q' := by
  obtain ⟨O, τ, rs, a⟩ := h
  exact ⟨O, τ, rs, a.imp fun b d H1 _ z g => f b H1 (g z)⟩
theorem tF_mono {σ : St} {H : Hp} {r : Sd → R D} {Q Q' : VK} (h : tF X.K C W r σ H Q) (f : ∀ v H1, Q v H1 → Q' v H1) : tF X.K C W r σ H Q' := by
  obtain ⟨O, τ, rs, a⟩ := h
  exact ⟨O, τ, rs, a.imp fun b d H1 _ z g => f b H1 (g z)⟩
theorem mix_mono {σ : St} : ∀ {l : List (Bool × (Sd → R D))} {H : Hp} {Q Q' : List V → Hp → Prop}, tMix X.K C W l σ H Q → (∀ vs H1, vs.length = l.length → Q vs H1 → Q' vs H1) → tMix X.K C W l σ H Q'
  | [], H, Q, Q', h, f => f [] H rfl h
  | (b, r) :: l, H, Q, Q', h, f => by
    cases b with
    | false => exact tR_mono (m := true) (show tR X.K C W (rM X.K true) r σ H _ from h) fun v H1 q => mix_mono q fun vs H2 hl z => f _ H2 (by simp [hl]) z
    | true => exact tF_mono (show tF X.K C W r σ H _ from h) fun v H1 q => mix_mono q fun vs H2 hl z => f _ H2 (by simp [hl]) z
inductive PMx (X : Cx) (C : Nat → Addr) (W : WX) : List Expr → List (Bool × (Sd → R D)) → Prop
  | nil : PMx X C W [] []
  | val {x : Expr} {xs : List Expr} {r : Sd → R D} {l : List (Bool × (Sd → R D))} : nostar x = true → PEx X C W true x r → PMx X C W xs l → PMx X C W (x :: xs) ((false, r) :: l)
  | own {x : Expr} {xs : List Expr} {r : Sd → R D} {l : List (Bool × (Sd → R D))} : nostar x = true → PFx X C W x r → PMx X C W xs l → PMx X C W (x :: xs) ((true, r) :: l)
theorem PMx.pa {xs : List Expr} {l : List (Bool × (Sd → R D))} (h : PMx X C W xs l) : PA X xs (tMix X.K C W l) ∧ xs.length = l.length := by
  induction h with
  | nil => exact ⟨pa_nil, rfl⟩
  | val n p _ ih => exact ⟨pa_cons p ih.1 (star1 n), by simp [ih.2]⟩
  | own n p _ ih => exact ⟨pa_cons p ih.1 (star1 n), by simp [ih.2]⟩
/-- not swapped: the tuple is made, then taken apart -/
theorem xs_parU {ts vs : List Expr} {k k2 : Nat} {p p2 : Pos} {l : List (Nat × Bool × (Sd → R D))} (hc : X.calm = true) (hN : X.N.Nodup) (hm : PMx X C W vs (l.map (·.2))) (hl : l.length ≤ sizeLine) (hs : Stos X ts (l.map (·.1)))
    (hw : swappedStores [.Tuple ts k p] (.Tuple vs k2 p2) X.env = pure none) :
    PSx X C W (.Assign [.Tuple ts k p] (.Tuple vs k2 p2) pos) (fun τ => (rsL (l.map (·.2.2)) τ).toS fun ds => (setPar τ (l.map fun p => (p.1, p.2.1)) ds).toS .nx) := by
  obtain ⟨g1, g2, g3⟩ := stos_pgs hN hs
  refine xs_mix ((ps_asg (pe_tup hm.pa.1) (pg_tup hc g1 g2 g3) rfl hw rfl).fimp fun Dd σ H hh => ?_)
  refine mix_mono hh fun vs H1 hlen z => ⟨by rw [hlen]; simpa using hl, fun q hq => ⟨q, vs, rfl, .of upd_same, by rw [hlen]; simp, gsN_rd (by rw [hlen]; simp) (z _ (same_upd hq))⟩⟩
theorem xs_parS2 {i j : Nat} {x y : Str} {a b : Expr} {b1 b2 : Bool} {r1 r2 : Sd → R D} {px py pt pt2 : Pos} {kt k2 : Nat} (hc : X.calm = true) (hN : X.N.Nodup) (hi : X.N[i]? = some x) (hj : X.N[j]? = some y) (hij : i ≠ j)
    (hx : X.env.scope.names.lookup x = some .local) (hy : X.env.scope.names.lookup y = some .local) (hm : PMx X C W [a, b] [(b1, r1), (b2, r2)])
    (hw : swappedStores [.Tuple [.Name x px, .Name y py] kt pt] (.Tuple [a, b] k2 pt2) X.env = pure (some [x, y])) :
    PSx X C W (.Assign [.Tuple [.Name x px, .Name y py] kt pt] (.Tuple [a, b] k2 pt2) pos) (fun τ => (rsL [r1, r2] τ).toS fun ds => (setPar τ [(i, b1), (j, b2)] ds).toS .nx) := by
  refine xs_mix (l := [(i, b1, r1), (j, b2, r2)]) ((ps_par hc hN hi hj hij hx hy hm.pa.1 hw rfl).fimp fun Dd σ H hh => ?_)
  refine mix_mono hh fun vs H1 hlen z => ?_
  match vs, hlen, z with
  | [v, w], _, z => exact ⟨v, w, rfl, z H1 (Same.refl _)⟩
theorem xs_parS3 {i j l : Nat} {x y z : Str} {a b c : Expr} {b1 b2 b3 : Bool} {r1 r2 r3 : Sd → R D} {px py pz pt pt2 : Pos} {kt k2 : Nat} (hc : X.calm = true) (hN : X.N.Nodup) (hi : X.N[i]? = some x) (hj : X.N[j]? = some y) (hl : X.N[l]? = some z) (hij : i ≠ j) (hil : i ≠ l) (hjl : j ≠ l)
    (hx : X.env.scope.names.lookup x = some .local) (hy : X.env.scope.names.lookup y = some .local) (hz : X.env.scope.names.lookup z = some .local) (hm : PMx X C W [a, b, c] [(b1, r1), (b2, r2), (b3, r3)])
    (hw : swappedStores [.Tuple [.Name x px, .Name y py, .Name z pz] kt pt] (.Tuple [a, b, c] k2 pt2) X.env = pure (some [x, y, z])) :
    PSx X C W (.Assign [.Tuple [.Name x px, .Name y py, .Name z pz] kt pt] (.Tuple [a, b, c] k2 pt2) pos) (fun τ => (rsL [r1, r2, r3] τ).toS fun ds => (setPar τ [(i, b1), (j, b2), (l, b3)] ds).toS .nx) := by
  refine xs_mix (l := [(i, b1, r1), (j, b2, r2), (l, b3, r3)]) ((ps_par3 hc hN hi hj hl hij hil hjl hx hy hz hm.pa.1 hw rfl).fimp fun Dd σ H hh => ?_)
  refine mix_mono hh fun vs H1 hlen z => ?_
  match vs, hlen, z with
  | [u, v, w], _, z => exact ⟨u, v, w, rfl, z H1 (Same.refl _)⟩
end
end Fz

set_option Elab.async false
set_option linter.all false
set_option autoImplicit false
set_option maxRecDepth 100000
/-! Part Q: the checker of statements. -/
namespace Fz
open PySem PySem.Spec L2

def isComp : Expr → Bool
  | .ListComp .. => true
  | .SetComp .. => true
  | .DictComp .. => true
  | _ => false
def isTupX : Expr → Bool
  | .Tuple .. => true
  | .List .. => true
  | _ => false
theorem sw_no {x : Expr} {t : Option Expr} {l : Nat} {env : Env} (h : isComp x = false) : swapsWith x t l env = pure false := by
  cases x <;> first | rfl | (cases h)
theorem sw_tup {x : Expr} {es : List Expr} {k : Nat} {p : Pos} {l : Nat} {env : Env} : swapsWith x (some (.Tuple es k p)) l env = pure false := by
  cases x <;> rfl
theorem st_no {tg x : Expr} {env : Env} (h : isTupX tg = false ∨ isTupX x = false) : swappedStores [tg] x env = pure none := by
  rcases h with h | h
  · cases tg <;> first | rfl | (cases h)
  · cases x <;> first | (cases tg <;> rfl) | (cases h)
def isStar : Expr → Bool
  | .Starred .. => true
  | _ => false
theorem star_f {a : Expr} (h : nostar a = true) : isStar a = false := by
  cases a <;> first | rfl | (cases h)
def fmN (env : Env) (l : Nat) (t : Expr) : Option Str := match t with
  | .Name id pos => if (env.kindOf id == some .local && pos.line == l) = true then some id else none
  | _ => none
theorem fmN_is {env : Env} {x : Str} {p : Pos} {l : Nat} (h : env.kindOf x = some .local) (hl : (p.line == l) = true) : fmN env l (.Name x p) = some x := by
  show (if (env.kindOf x == some .local && p.line == l) = true then some x else none) = some x
  rw [h, hl]; rfl
theorem dups2 {x y : Str} (h : (x == y) = false) : [x, y].eraseDups = [x, y] := by
  have h' : (y == x) = false := by rw [beq_eq_false_iff_ne] at h ⊢; exact fun e => h e.symm
  simp [List.eraseDups_cons, h', h]
theorem dups3 {x y z : Str} (h : (x == y) = false) (h1 : (x == z) = false) (h2 : (y == z) = false) : [x, y, z].eraseDups = [x, y, z] := by
  have h' : (y == x) = false := by rw [beq_eq_false_iff_ne] at h ⊢; exact fun e => h e.symm
  have h1' : (z == x) = false := by rw [beq_eq_false_iff_ne] at h1 ⊢; exact fun e => h1 e.symm
  have h2' : (z == y) = false := by rw [beq_eq_false_iff_ne] at h2 ⊢; exact fun e => h2 e.symm
  simp [List.eraseDups_cons, h', h, h1', h2']
theorem sw2 {x y : Str} {px py pt pt2 : Pos} {kt k2 : Nat} {a b : Expr} {env : Env} (hk : env.scope.kind = .function) (hx : env.scope.names.lookup x = some .local) (hy : env.scope.names.lookup y = some .local) (hl : (py.line == px.line) = true) (hxy : (x == y) = false)
    (na : nostar a = true) (nb : nostar b = true) (hf : [a, b].all (foldedForSure 8) = false) (hc : [a, b].all (constantsAlone 8) = false) :
    swappedStores [.Tuple [.Name x px, .Name y py] kt pt] (.Tuple [a, b] k2 pt2) env = pure (some [x, y]) := by
  have kx : env.kindOf x = some .local := hx
  have ky : env.kindOf y = some .local := hy
  have hb : env.blockKind = .function := by unfold Env.blockKind; rw [hk]; rfl
  unfold swappedStores
  have hfm : List.filterMap (fmN env px.line) [Expr.Name x px, .Name y py] = [x, y] := by
    rw [List.filterMap_cons_some (fmN_is kx (by simp)), List.filterMap_cons_some (fmN_is ky hl)]; rfl
  simp only [hb, hf, hc]
  refine (if_neg (fun h => Bool.noConfusion (show false = true from h))).trans ((if_neg fun h => ?_).trans ((if_neg fun h => ?_).trans ?_))
  · have h' : (isStar a || (isStar b || false)) = true := h
    rw [star_f na, star_f nb] at h'
    cases h'
  · have h' : ((List.filterMap (fmN env px.line) [Expr.Name x px, .Name y py]).length != 2 || (List.filterMap (fmN env px.line) [Expr.Name x px, .Name y py]).eraseDups.length != (List.filterMap (fmN env px.line) [Expr.Name x px, .Name y py]).length) = true := h
    rw [hfm, dups2 hxy] at h'
    cases h'
  · exact congrArg (fun l => (pure (some l) : Sem (Option (List Str)))) hfm
theorem sw3 {x y z : Str} {px py pz pt pt2 : Pos} {kt k2 : Nat} {a b c : Expr} {env : Env} (hk : env.scope.kind = .function) (hx : env.scope.names.lookup x = some .local) (hy : env.scope.names.lookup y = some .local) (hz : env.scope.names.lookup z = some .local) (hl : (py.line == px.line) = true) (hl2 : (pz.line == px.line) = true) (hxy : (x == y) = false) (hxz : (x == z) = false) (hyz : (y == z) = false)
    (na : nostar a = true) (nb : nostar b = true) (nc : nostar c = true) (hf : [a, b, c].all (foldedForSure 8) = false) (hc : [a, b, c].all (constantsAlone 8) = false) :
    swappedStores [.Tuple [.Name x px, .Name y py, .Name z pz] kt pt] (.Tuple [a, b, c] k2 pt2) env = pure (some [x, y, z]) := by
  have kx : env.kindOf x = some .local := hx
  have ky : env.kindOf y = some .local := hy
  have kz : env.kindOf z = some .local := hz
  have hb : env.blockKind = .function := by unfold Env.blockKind; rw [hk]; rfl
  unfold swappedStores
  have hfm : List.filterMap (fmN env px.line) [Expr.Name x px, .Name y py, .Name z pz] = [x, y, z] := by
    rw [List.filterMap_cons_some (fmN_is kx (by simp)), List.filterMap_cons_some (fmN_is ky hl), List.filterMap_cons_some (fmN_is kz hl2)]; rfl
  simp only [hb, hf, hc]
  refine (if_neg (fun h => Bool.noConfusion (show false = true from h))).trans ((if_neg fun h => ?_).trans ((if_neg fun h => ?_).trans ?_))
  · have h' : (isStar a || (isStar b || (isStar c || false))) = true := h
    rw [star_f na, star_f nb, star_f nc] at h'
    cases h'
  · have h' : ((List.filterMap (fmN env px.line) [Expr.Name x px, .Name y py, .Name z pz]).length != 3 || (List.filterMap (fmN env px.line) [Expr.Name x px, .Name y py, .Name z pz]).eraseDups.length != (List.filterMap (fmN env px.line) [Expr.Name x px, .Name y py, .Name z pz]).length) = true := h
    rw [hfm, dups3 hxy hxz hyz] at h'
    cases h'
  · exact congrArg (fun l => (pure (some l) : Sem (Option (List Str)))) hfm

def locB (c : Cfg) (i : Nat) (x : Str) : Bool := decide (c.N[i]? = some x) && (match c.sc.names.lookup x with | some .local => true | _ => false)
def funB (c : Cfg) : Bool := match c.sc.kind with | .function => true | _ => false
def callX : Expr → Bool
  | .Call .. => true
  | _ => false
def stoB (c : Cfg) (i : Nat) (x : Str) : Bool := decide (c.N[i]? = some x) && decide (x ∈ c.st)
/-- [elt for ..] -/
def ckC (c : Cfg) (g : Tg) (s t e : E) : Expr → Bool
  | .ListComp elt [⟨tg, iter, ifs, 0⟩] scope _ => (match tgB (c.blk scope) g tg with
      | some own => blkC c.N c.sc scope own && decide (own.map (·.2) = g.slots) && noSet iter && ck c (.src false tg) s iter && ck (c.blk scope) .str e elt && (match ifs with
        | [] => trueE t
        | [y] => ck (c.blk scope) .tst t y
        | _ => false)
      | none => false)
  | _ => false
/-- a list that is new -/
def ckF (c : Cfg) (e : E) (x : Expr) : Bool := match e with
  | .lst es => (match x with
    | .List xs _ => decide (xs.length ≤ sizeLine) && ckL c es xs
    | _ => false)
  | .comp g s t b => ckC c g s t b x
  | _ => false
def ckM (c : Cfg) : List (Nat × Bool × E) → List Expr → Bool
  | [], [] => true
  | (_, b, e) :: l, x :: xs => nostar x && (if b = true then ckF c e x else ck c .str e x) && ckM c l xs
  | _, _ => false
def tgN (c : Cfg) : List Nat → List Expr → Bool
  | [], [] => true
  | i :: is, .Name x _ :: es => stoB c i x && tgN c is es
  | _, _ => false
def fmC (c : Cfg) (l : Nat) (t : Expr) : Option Str := match t with
  | .Name id pos => if (c.sc.names.lookup id == some .local && pos.line == l) = true then some id else none
  | _ => none
def lineOf (ts : List Expr) : Nat := (ts.head?.map (·.pos.line)).getD 0
def swNo (c : Cfg) (ts vs : List Expr) : Bool := !(ts.length == 2 || ts.length == 3) || ((ts.filterMap (fmC c (lineOf ts))).length != ts.length) || vs.all (foldedForSure 8)
theorem sw_none {ts vs : List Expr} {k k2 : Nat} {p p2 : Pos} {env : Env} (h : (!(ts.length == 2 || ts.length == 3) || ((ts.filterMap (fmN env (lineOf ts))).length != ts.length) || vs.all (foldedForSure 8)) = true) :
    swappedStores [.Tuple ts k p] (.Tuple vs k2 p2) env = pure none := by
  unfold swappedStores
  dsimp only
  split
  · rfl
  · rename_i h1
    split
    · rfl
    · split
      · rfl
      · rename_i h3
        split
        · rfl
        · rename_i h4
          exfalso
          have h3' : ¬ ((ts.filterMap (fmN env (lineOf ts))).length != ts.length || (ts.filterMap (fmN env (lineOf ts))).eraseDups.length != (ts.filterMap (fmN env (lineOf ts))).length) = true := h3
          have h4' : ¬ vs.all (foldedForSure 8) = true := h4
          simp only [Bool.or_eq_true, not_or] at h h1 h3'
          rcases h with (h | h) | h
          · exact h1.1.1 h
          · exact h3'.1 h
          · exact h4' h
def ckP (c : Cfg) (l : List (Nat × Bool × E)) (tg y : Expr) : Bool := match tg, y with
  | .Tuple ts _ _, .Tuple vs _ _ => funB c && decide (l.length ≤ sizeLine) && ckM c l vs && ((swNo c ts vs && tgN c (l.map (·.1)) ts) || (match l, ts, vs with
    | [(i, _), (j, _)], [.Name x px, .Name y py], [a, b] => locB c i x && locB c j y && (py.line == px.line) && !(x == y) && decide (i ≠ j) && nostar a && nostar b && !([a, b].all (foldedForSure 8)) && !([a, b].all (constantsAlone 8))
    | [(i, _), (j, _), (l, _)], [.Name x px, .Name y py, .Name z pz], [a, b, d] => locB c i x && locB c j y && locB c l z && (py.line == px.line) && (pz.line == px.line) && !(x == y) && !(x == z) && !(y == z) && decide (i ≠ j) && decide (i ≠ l) && decide (j ≠ l) && nostar a && nostar b && nostar d && !([a, b, d].all (foldedForSure 8)) && !([a, b, d].all (constantsAlone 8))
    | _, _, _ => false))
  | _, _ => false
mutual
def cs (c : Cfg) : S → Stmt → Bool
  | .ex e, x => (match x with
    | .Expr y _ => callX y && ck c .pk e y
    | _ => false)
  | .set g e, x => (match x with
    | .Assign [tg] y _ => (tgB c g tg).isSome && (if isComp y = true then (match g, tg with
        | .one i, .Name n _ => funB c && ckF c e y
        | .tup _, .Tuple _ _ _ => !isTupX y && ck c .str e y
        | _, _ => false) else (!isTupX tg || !isTupX y) && nostar tg && ck c .str e y)
    | _ => false)
  | .own i e, x => (match x with
    | .Assign [.Name n _] y _ => stoB c i n && funB c && ckF c e y
    | _ => false)
  | .par l, x => (match x with
    | .Assign [tg] y _ => ckP c l tg y
    | _ => false)
  | .ret e, x => (match x with
    | .Return (some y) _ => ck c .str e y
    | _ => false)
  | .ife t a b, x => (match x with
    | .If y u v _ => ck c .tst t y && css c a u && css c b v
    | _ => false)
  | .for_ g e b, x => (match x with
    | .For tg it body [] _ => (tgB c g tg).isSome && noSet it && ck c (.src true tg) e it && css c b body
    | _ => false)
  | .whl t b, x => (match x with
    | .While y body [] _ => ck c .tst t y && css c b body
    | _ => false)
  | .app i e, x => (match x with
    | .Expr (.Call (.Attribute (.Name n _) m apos) [y] [] cpos) _ => m == ("append" : Str) && slotB c i n && nostar y && (apos.endLine == cpos.line) && ck c .str e y
    | _ => false)
  | .ext i e, x => (match x with
    | .Expr (.Call (.Attribute (.Name n _) m apos) [y] [] cpos) _ => m == ("extend" : Str) && slotB c i n && nostar y && (apos.endLine == cpos.line) && ck c .pk e y
    | _ => false)
  | .raise k, x => (match x with
    | .Raise (some (.Call (.Name n _) [.Constant (.str _) _ _] [] _)) none _ => (match c.exs.lookup n with | some k' => k == k' | none => false) && glB c n
    | _ => false)
  | .pass, x => (match x with
    | .Pass _ => true
    | _ => false)
  | .fz _ s, x => cs c s x
  | .top, _ => true
def css (c : Cfg) : List S → List Stmt → Bool
  | [], xs => xs.isEmpty
  | s :: ss, xs => (match xs with
    | [] => false
    | x :: r => cs c s x && css c ss r)
end
end Fz

set_option Elab.async false
set_option linter.all false
set_option autoImplicit false
set_option maxRecDepth 100000
/-! Part R: soundness of the statements' checker. -/
namespace Fz
open PySem PySem.Spec L2
variable [TabT]

/-- the exception class x is the k-th -/
def Exs (X : Cx) (x : Str) (a : Addr) : Prop := ∀ (m : Str) (j : Nat) (p p2 pos : Pos), Gl X x → PMk X (.Call (.Name x p) [.Constant (.str m) j p2] [] pos) (fun _ H Q => Q (.ref a) none H)
structure GoodS (X : Cx) (c : Cfg) (C : Nat → Addr) (Φ : Nat → List D → R D) (W : WX) : Prop extends Good X c C Φ W where
  exs : ∀ x k, c.exs.lookup x = some k → Exs X x (C k)
  own : PassesOwn (model X.prog X.w) X.A X.env X.xe
section
variable {X : Cx} {c : Cfg} {C : Nat → Addr} {Φ : Nat → List D → R D} {W : WX} {F : Nat}
theorem fun_of (g : Good X c C Φ W) (h : funB c = true) : X.env.scope.kind = .function := by
  unfold funB at h
  rw [g.sc]
  split at h
  · assumption
  · cases h
theorem loc_of (g : Good X c C Φ W) {i : Nat} {x : Str} (h : locB c i x = true) : X.N[i]? = some x ∧ X.env.scope.names.lookup x = some .local := by
  unfold locB at h
  simp only [Bool.and_eq_true, decide_eq_true_eq] at h
  obtain ⟨h1, h2⟩ := h
  rw [← g.N] at h1
  rw [← g.sc] at h2
  split at h2
  · exact ⟨h1, by assumption⟩
  · cases h2
theorem sto_of (g : Good X c C Φ W) {i : Nat} {x : Str} (h : stoB c i x = true) : Sto X x i := by
  unfold stoB at h
  simp only [Bool.and_eq_true, decide_eq_true_eq] at h
  obtain ⟨z1, z2⟩ := g.sto x h.2
  exact ⟨by rw [g.N]; exact h.1, z1, z2⟩
/-- a store of a new list, by the rule that fits -/
theorem fresh_asg (g : Good X c C Φ W) {e : E} {y : Expr} {i : Nat} {x : Str} {p pos : Pos} (hs : Sto X x i) (hf : X.env.scope.kind = .function) (h : ckF c e y = true) :
    ∃ te, PS X (.Assign [.Name x p] y pos) (tAsg te (gName i)) ∧ ∀ {σ : St} {H : Hp} {Q : VK}, tF X.K C W (ev Φ e) σ H Q → te σ H Q := by
  unfold ckF at h
  split at h
  · split at h
    · rename_i es _ xs ps
      simp only [Bool.and_eq_true, decide_eq_true_eq] at h
      obtain ⟨pa, hl, _⟩ := list_ok (soundL C Φ es) g h.2
      have := ex_lst (pos := ps) pa h.1 (fun τ ds hd => by rw [evs_len hd, hl])
      exact ⟨_, ps_set g.nd hs.1 hs.2.1 this rfl hs.2.2, fun hh => hh⟩
    · cases h
  · rename_i gt s t b
    unfold ckC at h
    split at h
    · rename_i elt tg iter ifs scope ps
      split at h
      · rename_i own hT
        simp only [Bool.and_eq_true, decide_eq_true_eq] at h
        obtain ⟨⟨⟨⟨⟨h1, h2⟩, h3⟩, h4⟩, h5⟩, h6⟩ := h
        obtain ⟨q, pi, ok, pg, pt, pe⟩ := comp_ok (pos := ps) (sound C Φ s) (sound C Φ t) (sound C Φ b) g hT h1 h2 h3 h4 h5 h6
        refine ⟨_, ?_, q⟩
        cases hsw : (X.env.kindOf x == some .local && p.line == ps.line && !(scope.names.any fun (n, k) => n == x && (k == .local || k == .cell))) with
        | true =>
          simp only [Bool.and_eq_true, Bool.not_eq_true'] at hsw
          have hloc : X.env.scope.names.lookup x = some .local := by have := hsw.1.1; rw [beq_iff_eq] at this; exact this
          exact ps_setLc g.calm g.nd hs.1 hloc (sw_true hf hloc hsw.1.2 hsw.2) pi ok pg pt pe (noset' h3)
        | false =>
          refine ps_set g.nd hs.1 hs.2.1 (pe_lc g.calm g.nd pi ok pg pt pe (noset' h3)) ?_ hs.2.2
          have hb : X.env.blockKind = .function := by unfold Env.blockKind; rw [hf]; rfl
          have hsw' : (X.env.blockKind == .function && X.env.kindOf x == some .local && p.line == ps.line && !(scope.names.any fun (n, k) => n == x && (k == .local || k == .cell))) = false := by
            rw [hb]; exact hsw
          show (pure (X.env.blockKind == .function && X.env.kindOf x == some .local && p.line == ps.line && !(scope.names.any fun (n, k) => n == x && (k == .local || k == .cell))) : Sem Bool) = pure false
          rw [hsw']
      · cases h
    · cases h
  · cases h
abbrev SndS (C : Nat → Addr) (Φ : Nat → List D → R D) (F : Nat) (s : S) : Prop := ∀ {X : Cx} {c : Cfg} {W : WX}, GoodS X c C Φ W → ∀ (x : Stmt), cs c s x = true → PSx X C W x (x1 Φ F s)
abbrev SndSs (C : Nat → Addr) (Φ : Nat → List D → R D) (F : Nat) (s : List S) : Prop := ∀ {X : Cx} {c : Cfg} {W : WX}, GoodS X c C Φ W → ∀ (x : List Stmt), css c s x = true → PSsx X C W x (xs Φ F s)
theorem fresh_pe (g : Good X c C Φ W) {e : E} {y : Expr} (h : ckF c e y = true) : PFx X C W y (ev Φ e) := by
  unfold ckF at h
  split at h
  · split at h
    · rename_i es _ xs ps
      simp only [Bool.and_eq_true, decide_eq_true_eq] at h
      obtain ⟨pa, hl, _⟩ := list_ok (soundL C Φ es) g h.2
      exact ex_lst (pos := ps) pa h.1 (fun τ ds hd => by rw [evs_len hd, hl])
    · cases h
  · rename_i gt s t b
    unfold ckC at h
    split at h
    · rename_i elt tg iter ifs scope ps
      split at h
      · rename_i own hT
        simp only [Bool.and_eq_true, decide_eq_true_eq] at h
        obtain ⟨⟨⟨⟨⟨h1, h2⟩, h3⟩, h4⟩, h5⟩, h6⟩ := h
        obtain ⟨q, pi, ok, pg, pt, pe⟩ := comp_ok (pos := ps) (sound C Φ s) (sound C Φ t) (sound C Φ b) g hT h1 h2 h3 h4 h5 h6
        exact (pe_lc g.calm g.nd pi ok pg pt pe (noset' h3)).fimp fun σ H Q hh => q hh
      · cases h
    · cases h
  · cases h
theorem mix_ok (g : Good X c C Φ W) : ∀ {l : List (Nat × Bool × E)} {xs : List Expr}, ckM c l xs = true → PMx X C W xs (l.map fun p => (p.2.1, ev Φ p.2.2))
  | [], [], _ => .nil
  | [], _ :: _, h => by simp [ckM] at h
  | _ :: _, [], h => by simp [ckM] at h
  | (i, b, e) :: l, x :: xs, h => by
    simp only [ckM, Bool.and_eq_true] at h
    obtain ⟨⟨h1, h2⟩, h3⟩ := h
    cases b with
    | false => exact .val h1 (sound C Φ e g .str x h2) (mix_ok g h3)
    | true => exact .own h1 (fresh_pe g h2) (mix_ok g h3)
theorem tgN_ok (g : Good X c C Φ W) : ∀ {is : List Nat} {es : List Expr}, tgN c is es = true → Stos X es is
  | [], [], _ => .nil
  | [], _ :: _, h => by simp [tgN] at h
  | _ :: _, [], h => by simp [tgN] at h
  | i :: is, e :: es, h => by
    cases e with
    | Name x p =>
      simp only [tgN, Bool.and_eq_true] at h
      exact .cons (sto_of g h.1) (tgN_ok g h.2)
    | _ => simp [tgN] at h
theorem fm_eq (g : Good X c C Φ W) (l : Nat) : fmC c l = fmN X.env l := by
  funext t
  cases t <;> try rfl
  show (if (c.sc.names.lookup _ == some .local && _) = true then _ else _) = (if (X.env.scope.names.lookup _ == some .local && _) = true then _ else _)
  rw [g.sc]
theorem par_ok (g : Good X c C Φ W) {l : List (Nat × Bool × E)} {tg y : Expr} {pos : Pos} (h : ckP c l tg y = true) :
    PSx X C W (.Assign [tg] y pos) (fun τ => (evs Φ (l.map (·.2.2)) τ).toS fun ds => (setPar τ (l.map fun p => (p.1, p.2.1)) ds).toS .nx) := by
  unfold ckP at h
  split at h
  · rename_i ts k p vs k2 p2
    simp only [Bool.and_eq_true, Bool.or_eq_true, decide_eq_true_eq] at h
    obtain ⟨⟨⟨h0, hz⟩, hm⟩, h⟩ := h
    have pm := mix_ok g hm
    rw [evs_rsL]
    rcases h with ⟨h1, h2⟩ | h
    · have e1 : (l.map fun q => (q.1, q.2.1, ev Φ q.2.2)).map (·.2) = l.map fun p => (p.2.1, ev Φ p.2.2) := by simp [List.map_map]
      have e2 : (l.map fun q => (q.1, q.2.1, ev Φ q.2.2)).map (·.1) = l.map (·.1) := by simp [List.map_map]
      have := xs_parU (l := l.map fun q => (q.1, q.2.1, ev Φ q.2.2)) (ts := ts) (vs := vs) (k := k) (k2 := k2) (p := p) (p2 := p2) (pos := pos) g.calm g.nd (by rw [e1]; exact pm) (by simpa using hz) (by rw [e2]; exact tgN_ok g h2) (sw_none (by
        unfold swNo at h1
        rw [fm_eq g] at h1
        exact h1))
      rw [List.map_map, List.map_map] at this
      rw [List.map_map]
      exact this
    · split at h
      · rename_i i q1 j q2 x px y py a b
        simp only [Bool.and_eq_true, Bool.not_eq_true', decide_eq_true_eq] at h
        obtain ⟨⟨⟨⟨⟨⟨⟨⟨h1, h2⟩, h3⟩, h4⟩, h5⟩, h6⟩, h7⟩, h8⟩, h9⟩ := h
        obtain ⟨n1, l1⟩ := loc_of g h1
        obtain ⟨n2, l2⟩ := loc_of g h2
        exact xs_parS2 g.calm g.nd n1 n2 h5 l1 l2 pm (sw2 (fun_of g h0) l1 l2 h3 h4 h6 h7 h8 h9)
      · rename_i i q1 j q2 l q3 x px y py z pz a b d
        simp only [Bool.and_eq_true, Bool.not_eq_true', decide_eq_true_eq] at h
        obtain ⟨⟨⟨⟨⟨⟨⟨⟨⟨⟨⟨⟨⟨⟨⟨h1, h2⟩, h3⟩, h4⟩, h5⟩, h6⟩, h7⟩, h8⟩, h9⟩, h10⟩, h11⟩, h12⟩, h13⟩, h14⟩, h15⟩, h16⟩ := h
        obtain ⟨n1, l1⟩ := loc_of g h1
        obtain ⟨n2, l2⟩ := loc_of g h2
        obtain ⟨n3, l3⟩ := loc_of g h3
        exact xs_parS3 g.calm g.nd n1 n2 n3 h9 h10 h11 l1 l2 l3 pm (sw3 (fun_of g h0) l1 l2 l3 h4 h5 h6 h7 h8 h12 h13 h14 h15 h16)
      · cases h
  · cases h
theorem toS_bind {α β : Type} (r : R α) (f : α → R β) (k : β → SR) : (r.bind f).toS k = r.toS fun a => (f a).toS k := by cases r <;> rfl
theorem s1_set {g : Tg} {e : E} : SndS C Φ F (.set g e) := by
  intro X c W gd x h
  unfold cs at h
  split at h
  · rename_i tg y pos
    simp only [Bool.and_eq_true] at h
    obtain ⟨h1, h2⟩ := h
    split at h2
    · split at h2
      · rename_i i n p
        simp only [Bool.and_eq_true] at h2
        obtain ⟨own, hT⟩ := Option.isSome_iff_exists.mp h1
        have hs : Sto X n i := by
          have hT : (if c.N[i]? = some n ∧ n ∈ c.st then some [(n, i)] else none) = some own := hT
          split at hT
          · rename_i hx
            obtain ⟨z1, z2⟩ := gd.sto _ hx.2
            exact ⟨by rw [gd.N]; exact hx.1, z1, z2⟩
          · cases hT
        obtain ⟨te, ps, ht⟩ := fresh_asg (pos := pos) (p := p) gd.toGood hs (fun_of gd.toGood h2.1) h2.2
        exact xs_set_of ps ht
      · rename_i es k p
        simp only [Bool.and_eq_true, Bool.not_eq_true'] at h2
        obtain ⟨own, hT⟩ := Option.isSome_iff_exists.mp h1
        refine xs_asg (sound C Φ e gd.toGood .str y h2.2) (tg_ok gd.toGood hT) ?_ (st_no (.inr h2.1)) rfl
        exact sw_tup (es := es) (k := k) (p := p) (l := pos.line) (env := X.env)
      · cases h2
    · rename_i hc
      simp only [Bool.and_eq_true, Bool.or_eq_true, Bool.not_eq_true'] at h2
      obtain ⟨⟨h3, h5⟩, h4⟩ := h2
      obtain ⟨own, hT⟩ := Option.isSome_iff_exists.mp h1
      have hc : isComp y = false := by simpa using hc
      refine xs_asg (sound C Φ e gd.toGood .str y h4) (tg_ok gd.toGood hT) (sw_no hc) (st_no h3) ?_
      cases tg <;> first | rfl | (cases h5)
  · cases h
theorem s1_own {i : Nat} {e : E} : SndS C Φ F (.own i e) := by
  intro X c W gd x h
  unfold cs at h
  split at h
  · rename_i n p y pos
    simp only [Bool.and_eq_true] at h
    obtain ⟨te, ps, ht⟩ := fresh_asg (pos := pos) (p := p) gd.toGood (sto_of gd.toGood h.1.1) (fun_of gd.toGood h.1.2) h.2
    exact xs_own_of ps ht
  · cases h
theorem s1_for {g : Tg} {e : E} {b : List S} (ih : SndSs C Φ F b) : SndS C Φ F (.for_ g e b) := by
  intro X c W gd x h
  unfold cs at h
  split at h
  · rename_i tg it body pos
    simp only [Bool.and_eq_true] at h
    obtain ⟨⟨⟨h1, h0⟩, h2⟩, h3⟩ := h
    obtain ⟨own, hT⟩ := Option.isSome_iff_exists.mp h1
    have pi : PIx X C W true tg it (fun τ => (ev Φ e τ).bind fun d => ofO (itemsOf d)) := sound C Φ e gd.toGood (.src true tg) it h2
    have pb := ih gd body h3
    exact xs_for gd.own gd.calm pi (tg_ok gd.toGood hT) pb (ps_for gd.own gd.calm pi (tg_ok gd.toGood hT) pb (noset' h0))
  · cases h
end
mutual
theorem sndS (C : Nat → Addr) (Φ : Nat → List D → R D) (F : Nat) : ∀ s : S, SndS C Φ F s
  | .ex e => fun gd x h => by
    unfold cs at h
    split at h
    · rename_i y pos
      simp only [Bool.and_eq_true] at h
      have hc : isComp y = false := by
        cases y <;> first | rfl | (cases h.1)
      exact xs_expr (sound C Φ e gd.toGood .pk y h.2) (sw_no hc)
    · cases h
  | .set g e => s1_set
  | .own i e => s1_own
  | .par l => fun gd x h => by
    unfold cs at h
    split at h
    · exact par_ok gd.toGood h
    · cases h
  | .ret e => fun gd x h => by
    unfold cs at h
    split at h
    · exact xs_ret (sound C Φ e gd.toGood .str _ h)
    · cases h
  | .ife t a b => fun gd x h => by
    unfold cs at h
    split at h
    · simp only [Bool.and_eq_true] at h
      exact xs_if (sound C Φ t gd.toGood .tst _ h.1.1) (sndSs C Φ F a gd _ h.1.2) (sndSs C Φ F b gd _ h.2)
    · cases h
  | .for_ g e b => s1_for (sndSs C Φ F b)
  | .whl t b => fun gd x h => by
    unfold cs at h
    split at h
    · simp only [Bool.and_eq_true] at h
      exact xs_while gd.own (sound C Φ t gd.toGood .tst _ h.1) (sndSs C Φ F b gd _ h.2)
    · cases h
  | .app i e => fun gd x h => by
    unfold cs at h
    split at h
    · simp only [Bool.and_eq_true, beq_iff_eq] at h
      obtain ⟨⟨⟨⟨rfl, h2⟩, h3⟩, h4⟩, h5⟩ := h
      obtain ⟨q1, q2, q3, q4⟩ := slot_of gd.toGood h2
      exact xs_app q1 q2 q3 q4 (sound C Φ e gd.toGood .str _ h5) h3 (by simpa using h4)
    · cases h
  | .ext i e => fun gd x h => by
    unfold cs at h
    split at h
    · simp only [Bool.and_eq_true, beq_iff_eq] at h
      obtain ⟨⟨⟨⟨rfl, h2⟩, h3⟩, h4⟩, h5⟩ := h
      obtain ⟨q1, q2, q3, q4⟩ := slot_of gd.toGood h2
      exact xs_ext (m := false) q1 q2 q3 q4 (sound C Φ e gd.toGood .pk _ h5) h3 (by simpa using h4)
    · cases h
  | .raise k => fun gd x h => by
    unfold cs at h
    split at h
    · simp only [Bool.and_eq_true] at h
      obtain ⟨h1, h2⟩ := h
      split at h1
      · rename_i k' hk
        have : k = k' := by simpa using h1
        subst this
        exact xs_raise gd.calm gd.tk (gd.exs _ _ hk _ _ _ _ _ (gl_of gd.toGood h2))
      · cases h1
    · cases h
  | .pass => fun gd x h => by
    unfold cs at h
    split at h
    · exact xs_pass
    · cases h
  | .fz l s => fun gd x h => by
    unfold cs at h
    exact xs_fz (sndS C Φ F s gd x h)
  | .top => fun gd x h => ⟨fun _ _ _ _ _ _ h => by obtain ⟨_, _, _, _, _, h⟩ := h; exact h.elim⟩
theorem sndSs (C : Nat → Addr) (Φ : Nat → List D → R D) (F : Nat) : ∀ s : List S, SndSs C Φ F s
  | [] => fun gd x h => by
    unfold css at h
    have : x = [] := by simpa using h
    subst this
    exact xs_nil
  | s :: ss => fun gd x h => by
    unfold css at h
    split at h
    · cases h
    · simp only [Bool.and_eq_true] at h
      exact xs_cons (sndS C Φ F s gd _ h.1) (sndSs C Φ F ss gd _ h.2)
end
end Fz

set_option Elab.async false
set_option linter.all false
set_option autoImplicit false
set_option maxRecDepth 100000
/-! Part X: defs, the program's facts, the law. -/
namespace Fz
open PySem PySem.Spec L2
variable [TabT]

/-! ### module constants in K -/
mutual
def dvB (K : Fr') : Value → D → Bool
  | .none, .none => true
  | .bool a, .bool b => a == b
  | .int i _, .int j => decide (i = j)
  | .str s _, .str t => decide (s = t) && PyData.strOk t && decide (t.length ≤ sizeLine)
  | .ref a, .tuple ds => (match K.lookup a with
    | some ⟨.type c, _, .seq its _, _⟩ => decide (c = "tuple") && decide (its.size ≤ sizeLine) && dvBs K its.toList ds
    | _ => false)
  | _, _ => false
def dvBs (K : Fr') : List Value → List D → Bool
  | us, [] => us.isEmpty
  | us, d :: ds => (match us with
    | [] => false
    | u :: us => dvB K u d && dvBs K us ds)
end
mutual
theorem dvB_ok {K : Fr'} : ∀ (d : D) (u : Value), dvB K u d = true → ∃ v, RelV v u ∧ ∀ H, Rp K H v d
  | .none, u, h => by
    cases u <;> simp [dvB] at h
    exact ⟨.non, rfl, fun _ => .non⟩
  | .bool b, u, h => by
    cases u <;> simp [dvB] at h
    subst h
    exact ⟨.bl _, rfl, fun _ => .bl _⟩
  | .int i, u, h => by
    cases u <;> simp [dvB] at h
    subst h
    exact ⟨.int _, ⟨_, rfl⟩, fun _ => .int _⟩
  | .str s, u, h => by
    cases u <;> simp [dvB] at h
    obtain ⟨⟨rfl, h1⟩, h2⟩ := h
    exact ⟨.str _, ⟨_, rfl⟩, fun _ => .str _ h1 h2⟩
  | .list ds, u, h => by cases u <;> simp [dvB] at h
  | .dict ds, u, h => by cases u <;> simp [dvB] at h
  | .tuple ds, u, h => by
    cases u with
    | ref a =>
      unfold dvB at h
      split at h
      · rename_i c dd its n sl hl
        simp only [Bool.and_eq_true, decide_eq_true_eq] at h
        obtain ⟨⟨rfl, h2⟩, h3⟩ := h
        obtain ⟨vs, r1, r2⟩ := dvBs_ok ds its.toList h3
        have n1 := r1.length
        have n2 : vs.length = ds.length := (r2 (fun _ => none)).length
        refine ⟨.ref a, rfl, fun H => .tup (.inr ⟨_, its, n, hl, rfl, rfl, h2, r1⟩) (r2 H) ?_⟩
        have : its.toList.length = its.size := Array.length_toList
        omega
      · cases h
    | _ => simp [dvB] at h
theorem dvBs_ok {K : Fr'} : ∀ (ds : List D) (us : List Value), dvBs K us ds = true → ∃ vs, Vals vs us ∧ ∀ H, RpAll K H vs ds
  | [], us, h => by
    unfold dvBs at h
    have : us = [] := by simpa using h
    subst this
    exact ⟨[], .nil, fun _ => .nil⟩
  | d :: ds, us, h => by
    unfold dvBs at h
    cases us with
    | nil => cases h
    | cons u us =>
      simp only [Bool.and_eq_true] at h
      obtain ⟨v, r, p⟩ := dvB_ok d u h.1
      obtain ⟨vs, rs, ps⟩ := dvBs_ok ds us h.2
      exact ⟨v :: vs, .cons r rs, fun H => .cons (p H) (ps H)⟩
end
def gloB (K : Fr') (x : Str) (d : D) : Bool := match PySem.W.nsIn K mainGlobals x with
  | some (some u) => dvB K u d
  | _ => false
/-- all that is to be seen of the program's globals -/
def seeB (glo : List (Str × D)) (exs : List (Str × Nat)) (fs : List Str) (K : Fr') : Bool :=
  (glo.all fun p => gloB K p.1 p.2) && (exs.all fun p => (He.Fa.exc p.1).ok K && (He.Fa.glo p.1).ok K) && (bnl.all fun x => (He.Fa.free x).ok K) && (fs.all fun x => (He.Fa.glo x).ok K)
/-- the k-th class -/
def cAd (K : Fr') (exs : List (Str × Nat)) (k : Nat) : Addr := match exs.find? (fun p => p.2 == k) with
  | some p => He.ga K p.1
  | none => 0

structure Glb (K : Fr') (mg : Str → Option Value) (C : Nat → Addr) (glo : List (Str × D)) (exs : List (Str × Nat)) : Prop where
  free : ∀ x ∈ bnl, mg x = none
  glo : ∀ x d, glo.lookup x = some d → ∃ v u, mg x = some u ∧ RelV v u ∧ ∀ H, Rp K H v d
  exs : ∀ x k, exs.lookup x = some k → PySem.W.excIn K (C k) He.veBase "ValueError.__new__" = true ∧ PySem.W.keepIn K (.ref (C k)) = true ∧ PySem.W.subIn K (.ref (C k)) (.type "BaseException") = some true ∧
    PySem.W.typeIn K (.ref (C k)) = some (.type "type") ∧ mg x = some (.ref (C k)) ∧ (x == ("__debug__" : Str)) = false
theorem mem_of_lookup' {α : Type} : ∀ {l : List (Str × α)} {x : Str} {a : α}, l.lookup x = some a → (x, a) ∈ l
  | [], _, _, h => by cases h
  | (y, b) :: r, x, a, h => by
    rw [List.lookup_cons] at h
    by_cases e : (x == y) = true
    · rw [e] at h
      have : b = a := by simpa using h
      have e' : x = y := by simpa using e
      subst this; subst e'; exact List.mem_cons_self
    · have e : (x == y) = false := by simpa using e
      rw [e] at h
      exact List.mem_cons_of_mem _ (mem_of_lookup' h)
theorem glb_of {K : Fr'} {h : Heap} {mg : Str → Option Value} {glo : List (Str × D)} {exs : List (Str × Nat)} {fs : List Str} (X : K.In h) (G : h.Ns mainGlobals mg) (hx : ∀ p ∈ exs, exs.find? (fun q => q.2 == p.2) = some p ∧ (p.1 == ("__debug__" : Str)) = false) (s : seeB glo exs fs K = true) :
    Glb K mg (cAd K exs) glo exs ∧ ∀ x ∈ fs, mg x = some (.ref (He.ga K x)) := by
  unfold seeB at s
  simp only [Bool.and_eq_true, List.all_eq_true] at s
  obtain ⟨⟨⟨s1, s2⟩, s3⟩, s4⟩ := s
  refine ⟨⟨fun x hx => He.free_ok X G (s3 x hx), fun x d hl => ?_, fun x k hl => ?_⟩, fun x hx => He.glo_ok X G (s4 x hx)⟩
  · have q := s1 _ (mem_of_lookup' hl)
    unfold gloB at q
    split at q
    · rename_i u hu
      obtain ⟨v, r, p⟩ := dvB_ok d u q
      exact ⟨v, u, PySem.W.mg_of X G hu, r, p⟩
    · cases q
  · have hm := mem_of_lookup' hl
    obtain ⟨q1, q2⟩ := s2 _ hm
    obtain ⟨f1, f2⟩ := hx _ hm
    have e : cAd K exs k = He.ga K x := by
      unfold cAd
      rw [f1]
    rw [e]
    obtain ⟨z1, z2, z3, z4⟩ := He.exc_ok q1
    exact ⟨z1, z2, z3, z4, He.glo_ok X G q2, f2⟩

/-! ### a def -/
def stOf (sc : Scope) : List Str := (sc.names.filter fun p => p.2 == .local || p.2 == .cell).map (·.1)
def scB (N ps : List Str) (sc : Scope) : Bool := (match sc.kind with | .function => true | _ => false) && !sc.isCoroutine && !sc.isGenerator && decide N.Nodup && decide (N.take ps.length = ps) &&
  (ps.all fun x => match sc.names.lookup x with | some .local => true | some .cell => true | _ => false) && (sc.names.all fun y => match y.2 with | .free => false | _ => true) && (sc.names.all fun y => decide (sc.names.lookup y.1 = some y.2))
theorem scB_ok {N ps : List Str} {sc : Scope} (h : scB N ps sc = true) : FnScope N ps sc ∧ ∀ x ∈ stOf sc, sc.names.lookup x = some .local ∨ sc.names.lookup x = some .cell := by
  unfold scB at h
  simp only [Bool.and_eq_true, Bool.not_eq_true', decide_eq_true_eq, List.all_eq_true] at h
  obtain ⟨⟨⟨⟨⟨⟨⟨h1, h2⟩, h3⟩, h4⟩, h5⟩, h6⟩, h7⟩, h8⟩ := h
  refine ⟨⟨?_, h2, h3, h4, h5, fun x hx => ?_, fun y hy e => ?_⟩, fun x hx => ?_⟩
  · split at h1
    · assumption
    · cases h1
  · have := h6 x hx
    split at this
    · exact .inl (by assumption)
    · exact .inr (by assumption)
    · cases this
  · have := h7 y hy
    rw [e] at this
    cases this
  · obtain ⟨p, hp, rfl⟩ := List.mem_map.mp hx
    obtain ⟨hp1, hp2⟩ := List.mem_filter.mp hp
    have hl := h8 p hp1
    have hk : p.2 = .local ∨ p.2 = .cell := by simpa using hp2
    rcases hk with hk | hk
    · rw [hk] at hl; exact .inl hl
    · rw [hk] at hl; exact .inr hl
def FnG (P : Program) (w : World) (K : Fr') (mg : Str → Option Value) (base : Heap) (C : Nat → Addr) (lv : Nat) (x : Str) (m : List D → R D) : Prop :=
  ∃ k f fd ps, k ≤ lv ∧ FnOk P w K mg base (L2.CX P w) k f fd ps (spM K C m) ∧ mg x = some (.ref f) ∧ PySem.W.keepIn K (.ref f) = true ∧ Binds K fd ps [] ∧ (x == ("__debug__" : Str)) = false
theorem FnG.up {P : Program} {w : World} {K : Fr'} {mg : Str → Option Value} {base : Heap} {C : Nat → Addr} {lv lv' : Nat} {x : Str} {m : List D → R D} (h : FnG P w K mg base C lv x m) (e : lv ≤ lv') : FnG P w K mg base C lv' x m := by
  obtain ⟨k, f, fd, ps, hk, r⟩ := h
  exact ⟨k, f, fd, ps, Nat.le_trans hk e, r⟩
section
variable {P : Program} {w : World} {K : Fr'} {mg : Str → Option Value} {base : Heap} {C : Nat → Addr} {glo : List (Str × D)} {exs : List (Str × Nat)} {fns : List (Str × Nat)} {lv : Nat} {Φ : Nat → List D → R D} {x q : Str} {params : Arguments} {body : List Stmt} {scope : Scope} {kws : List (Str × V)} {f : Addr} {fd : FuncData} {N ps : List Str} {irs : List S} {Fu : Nat}
theorem good_of {CXX : CXT} (G : Glb K mg C glo exs) (hf : ∀ x f, fns.lookup x = some f → FnG P w K mg base C lv x (Φ f)) (hs : scB N ps scope = true) {cdv : Value} {A : Around} {outer : List Env} {s : Shared} {H : Hp} {E : XK} (hr : Room lv (A.deeper (PyProof.Rows.envOfC q scope s.heap.objs.size f cdv))) {W : WX}
    (tk : Takes (cxOf CXX P w K mg base N q scope f cdv A outer s H E) W) :
    GoodS (cxOf CXX P w K mg base N q scope f cdv A outer s H E) ⟨N, scope, stOf scope, fns, glo, exs, []⟩ C Φ W := by
  obtain ⟨S, hst⟩ := scB_ok hs
  refine ⟨⟨rfl, S.nd, rfl, rfl, fun x hx => ⟨hst x hx, .inl rfl⟩, hr.units, G.free, fun x g hl => ?_, G.glo, tk, fun h => absurd rfl h⟩, fun x k hl m j p p2 pos hg => ?_, passes_of rfl⟩
  · obtain ⟨k, f', fd', ps', hk, h1, h2, h3, h4, h5⟩ := hf x g hl
    exact ⟨k, f', fd', ps', h1, hr.mono hk, h2, h3, h4, h5⟩
  · obtain ⟨z1, z2, z3, z4, z5, z6⟩ := G.exs x k hl
    exact pmk_own PySem.F.excBase_ValueError z1 z5 z2 (raises_own z3 z4) hg z6
theorem rs_start {H : Hp} {vs : List V} {ds : List D} (r : RpAll K H vs ds) (t : LamX.Tabs TabT.T H) (N : List Str) : RS K [] H (start N vs) (startD N.length ds) := by
  have n := r.length
  refine ⟨t, ?_, fun a h => (by cases h), fun i d e => ?_, fun i xs e => ?_, fun i j a xs ys _ e _ _ _ => ?_⟩
  · simp [L2.start, startD, n]
  · unfold startD at e
    by_cases hi : i < ds.length
    · rw [List.getElem?_append_left (by simpa using hi), List.getElem?_map] at e
      cases hd : ds[i]? with
      | none => rw [hd] at e; cases e
      | some d' =>
        rw [hd] at e
        cases e
        obtain ⟨v, h1, h2⟩ := RpAll.get r hd
        refine ⟨v, ?_, by rw [hide_nil]; exact h2⟩
        unfold L2.start
        rw [List.getElem?_append_left (by rw [List.length_map]; omega), List.getElem?_map, h1]
        rfl
    · rw [List.getElem?_append_right (by simpa using hi)] at e
      rw [List.getElem?_replicate] at e
      split at e <;> cases e
  · exfalso
    unfold startD at e
    by_cases hi : i < ds.length
    · rw [List.getElem?_append_left (by simpa using hi), List.getElem?_map] at e
      cases hd : ds[i]? with
      | none => rw [hd] at e; cases e
      | some d' => rw [hd] at e; cases e
    · rw [List.getElem?_append_right (by simpa using hi)] at e
      rw [List.getElem?_replicate] at e
      split at e <;> cases e
  · exfalso
    unfold startD at e
    by_cases hi : i < ds.length
    · rw [List.getElem?_append_left (by simpa using hi), List.getElem?_map] at e
      cases hd : ds[i]? with
      | none => rw [hd] at e; cases e
      | some d' => rw [hd] at e; cases e
    · rw [List.getElem?_append_right (by simpa using hi)] at e
      rw [List.getElem?_replicate] at e
      split at e <;> cases e
/-- the body's reading, from what the mirror answers -/
theorem body_rd {H : Hp} {vs : List V} {ds : List D} {W : WX} {Q : VK} (r : RpAll K H vs ds) (t : LamX.Tabs TabT.T H) (hl : ds.length = ps.length)
    (hm : match run Φ Fu N.length ps.length irs ds with
      | .ok d => ∀ v H', Same H H' → Rp K H' v d → Q v H'
      | .ex c => ∀ σ H', Same H H' → W (.ref (C c)) none σ H'
      | .no => False) : tS K C W (xs Φ Fu irs) { nx := fun _ H' => Q .non H', rt := Q } (start N vs) H := by
  refine ⟨H, [], startD N.length ds, rs_start r t N, by rw [hide_nil]; exact Same.refl _, ?_⟩
  unfold run at hm
  rw [if_pos hl] at hm
  cases hx : xs Φ Fu irs (startD N.length ds) with
  | nx τ =>
    rw [hx] at hm
    exact fun σ O H' rs s => hm .non H' (s.trans same_hide) .non
  | rt d =>
    rw [hx] at hm
    exact fun v H' s r => hm v H' s r
  | ex c =>
    rw [hx] at hm
    exact fun σ H' s => hm σ H' s
  | no => rw [hx] at hm; exact hm
theorem step (G : Glb K mg C glo exs) (hf : ∀ x f, fns.lookup x = some f → FnG P w K mg base C lv x (Φ f)) (F : FunD K x q params body scope [] kws f fd) (hs : scB N ps scope = true)
    (h : css ⟨N, scope, stOf scope, fns, glo, exs, []⟩ irs body = true) (hm : mg x = some (.ref f)) (hb : Binds K fd ps []) (hx : (x == ("__debug__" : Str)) = false) : FnG P w K mg base C (lv + 1) x (run Φ Fu N.length ps.length irs) := by
  refine ⟨lv + 1, f, fd, ps, Nat.le_refl _, FunD.ok F (scB_ok hs).1 (fun vs H Q E hsp => ?_) (fun cdv A outer s H vs Q E hr hsp => ?_), hm, F.kp, hb, hx⟩
  · obtain ⟨ds, r, _, z⟩ := hsp
    rw [r.length]
    by_cases hl : ds.length = ps.length
    · exact hl
    · unfold run at z
      rw [if_neg hl] at z
      exact z.elim
  · obtain ⟨ds, r, tb, z⟩ := hsp
    have tk : Takes (cxOf (L2.CX P w) P w K mg base N q scope f cdv A outer s H E) (fun cls d _ H => E cls d H) := takes_of rfl rfl rfl rfl
    have gd := good_of (CXX := L2.CX P w) (N := N) (ps := ps) (fns := fns) G hf hs hr tk
    refine ⟨_, sndSs C Φ Fu irs gd body h, ?_⟩
    have hl : ds.length = ps.length := by
      by_cases hl : ds.length = ps.length
      · exact hl
      · unfold run at z
        rw [if_neg hl] at z
        exact z.elim
    refine body_rd r tb hl ?_
    cases hz : run Φ Fu N.length ps.length irs ds with
    | ok d => rw [hz] at z; exact z
    | ex c => rw [hz] at z; exact fun σ H' s => z H' s
    | no => rw [hz] at z; exact z
/-- what the law is asked -/
def spLaw (K : Fr') : Sp := fun vs H Q _ => ∃ (a : Addr) (ns : List Int), vs = [.ref a] ∧ ns.length ≤ 63 ∧ LamX.Tabs TabT.T H ∧ SqL K H a (ns.map V.int) ∧ ∀ H', Q (.bl true) H'
theorem law_step (G : Glb K mg C glo exs) (hf : ∀ x f, fns.lookup x = some f → FnG P w K mg base C lv x (Φ f)) (F : FunD K x q params body scope [] kws f fd) (hs : scB N ["script"] scope = true)
    (h : css ⟨N, scope, stOf scope, fns, glo, exs, []⟩ irs body = true) (hlaw : ∀ ns : List Int, ns.length ≤ 63 → run Φ Fu N.length 1 irs [.list (ns.map .int)] = .ok (.bool true)) : FnOk P w K mg base CX0 (lv + 1) f fd ["script"] (spLaw K) := by
  refine FunD.ok F (scB_ok hs).1 (fun vs H Q E hsp => ?_) (fun cdv A outer s H vs Q E hr hsp => ?_)
  · obtain ⟨a, ns, rfl, _⟩ := hsp
    rfl
  · obtain ⟨a, ns, rfl, hl, tb, hq, z⟩ := hsp
    have gd := good_of (CXX := CX0) (N := N) (ps := ["script"]) (fns := fns) (q := q) (cdv := cdv) (outer := outer) (s := s) (H := H) (E := E) (W := W0) G hf hs hr takes0
    refine ⟨_, sndSs C Φ Fu irs gd body h, ?_⟩
    have hall : ∀ ns : List Int, RpAll K H (ns.map V.int) (ns.map PyData.int) := fun ns => by
      induction ns with
      | nil => exact .nil
      | cons n r ih => exact .cons (.int n) ih
    refine body_rd (ds := [.list (ns.map .int)]) (ps := ["script"]) (.cons (.lst hq (hall ns) (by rw [List.length_map, sizeLine_eq]; omega)) .nil) tb rfl ?_
    rw [show (["script"] : List Str).length = 1 from rfl, hlaw ns hl]
    intro v H' _ r
    cases Rp.bool_of r
    exact z H'
end
end Fz

set_option Elab.async false
set_option linter.all false
set_option autoImplicit false
set_option maxRecDepth 100000
/-! Part Y: the machine's equations, for simp. -/
namespace Fz
open PySem PySem.Spec L2
/-- a list may be so long -/
def fits (n : Nat) : Bool := decide (n ≤ sizeLine)
theorem fits_of {n : Nat} (h : n ≤ 16000000) : fits n = true := by
  unfold fits
  rw [decide_eq_true_eq, sizeLine_eq]; omega
section
variable {Φ : Nat → List D → R D} {F : Nat} {τ : Sd}
@[simp] theorem ev_var (i : Nat) : ev Φ (.var i) τ = look τ i := id rfl
@[simp] theorem ev_pk (i : Nat) : ev Φ (.pk i) τ = peek τ i := id rfl
@[simp] theorem ev_cst (d : D) : ev Φ (.cst d) τ = .ok d := id rfl
@[simp] theorem ev_tup (es : List E) : ev Φ (.tup es) τ = (evs Φ es τ).bind fun ds => .ok (.tuple ds) := id rfl
@[simp] theorem ev_lst (es : List E) : ev Φ (.lst es) τ = (evs Φ es τ).bind fun ds => .ok (.list ds) := id rfl
@[simp] theorem ev_u (o : U) (a : E) : ev Φ (.u o a) τ = (ev Φ a τ).bind (o1 o) := id rfl
@[simp] theorem ev_b (o : B) (a b : E) : ev Φ (.b o a b) τ = (ev Φ a τ).bind fun x => (ev Φ b τ).bind (o2 o x) := id rfl
@[simp] theorem ev_cut (a b c : E) : ev Φ (.cut a b c) τ = (ev Φ a τ).bind fun x => (ev Φ b τ).bind fun y => (asI y).bind fun i => (ev Φ c τ).bind fun z => (asI z).bind fun j => cutR x (some i) (some j) := id rfl
@[simp] theorem ev_and (es : List E) : ev Φ (.and es) τ = evA Φ es τ := id rfl
@[simp] theorem ev_or (es : List E) : ev Φ (.or es) τ = evO Φ es τ := id rfl
@[simp] theorem ev_chain (o p : B) (a b c : E) : ev Φ (.chain o p a b c) τ = (ev Φ a τ).bind fun x => (ev Φ b τ).bind fun y => (o2 o x y).bind fun z => (asB z).bind fun k => if k = true then (ev Φ c τ).bind fun w => o2 p y w else .ok (.bool false) := id rfl
@[simp] theorem ev_ite (c a b : E) : ev Φ (.ite c a b) τ = ((ev Φ c τ).bind asB).bind fun k => if k = true then ev Φ a τ else ev Φ b τ := id rfl
@[simp] theorem ev_call (f : Nat) (es : List E) : ev Φ (.call f es) τ = (evs Φ es τ).bind (Φ f) := id rfl
@[simp] theorem ev_sel (ks : List Str) (es : List E) (k : E) : ev Φ (.sel ks es k) τ = (evs Φ es τ).bind fun vs => (ev Φ k τ).bind (selD ks vs) := id rfl
@[simp] theorem ev_comp (g : Tg) (s c e : E) : ev Φ (.comp g s c e) τ = (ev Φ s τ).bind fun d => (ofO (itemsOf d)).bind fun ds =>
      (turns (fun x => (bindTg g x (wipeD τ g.slots)).bind fun τ2 => ((ev Φ c τ2).bind asB).bind fun k =>
        if k = true then (ev Φ e τ2).bind fun y => .ok (some y) else .ok none) ds).calm.bind fun ys => .ok (.list ys) := id rfl
@[simp] theorem ev_zip3 (a b c : E) : ev Φ (.zip3 a b c) τ = (ev Φ a τ).bind fun x => (ev Φ b τ).bind fun y => (ev Φ c τ).bind fun z => z3R x y z := id rfl
@[simp] theorem ev_thunk (f : Nat) (e : E) : ev Φ (.thunk f e) τ = thkR (Φ f) (ev Φ e τ) (ev Φ e (unown τ)) := id rfl
@[simp] theorem look_unown (i : Nat) : look (unown τ) i = look τ i := by
  unfold look unown
  rw [List.getElem?_map]
  cases τ[i]? with
  | none => rfl
  | some o => cases o with
    | none => rfl
    | some v => cases v <;> rfl
@[simp] theorem z3_tup (xs ys zs : List D) : z3R (.tuple xs) (.tuple ys) (.tuple zs) = .ok (.list (zipD3 xs ys zs)) := rfl
@[simp] theorem thk_ok (m : List D → R D) (d : D) (r : R D) : thkR m (.ok d) r = m [.bool true, d] := rfl
@[simp] theorem thk_ex (m : List D → R D) (c k : Nat) : thkR m (.ex c) (.ex k) = m [.bool false, .int k] := rfl
@[simp] theorem evs_nil : evs Φ [] τ = .ok [] := id rfl
@[simp] theorem evs_cons (e : E) (r : List E) : evs Φ (e :: r) τ = (ev Φ e τ).bind fun x => (evs Φ r τ).bind fun xs => .ok (x :: xs) := id rfl
@[simp] theorem evA_one (e : E) : evA Φ [e] τ = (ev Φ e τ).bind fun x => (asB x).bind fun c => .ok (.bool c) := id rfl
@[simp] theorem evA_cons (e e2 : E) (r : List E) : evA Φ (e :: e2 :: r) τ = (ev Φ e τ).bind fun x => (asB x).bind fun c => if c = true then evA Φ (e2 :: r) τ else .ok (.bool false) := id rfl
@[simp] theorem evO_one (e : E) : evO Φ [e] τ = (ev Φ e τ).bind fun x => (asB x).bind fun c => .ok (.bool c) := id rfl
@[simp] theorem evO_cons (e e2 : E) (r : List E) : evO Φ (e :: e2 :: r) τ = (ev Φ e τ).bind fun x => (asB x).bind fun c => if c = true then .ok (.bool true) else evO Φ (e2 :: r) τ := id rfl
@[simp] theorem asB_bool (b : Bool) : asB (.bool b) = .ok b := rfl
@[simp] theorem asI_int (i : Int) : asI (.int i) = .ok i := rfl
@[simp] theorem xs_nil' : xs Φ F [] τ = .nx τ := id rfl
@[simp] theorem xs_cons' (s : S) (r : List S) : xs Φ F (s :: r) τ = (x1 Φ F s τ).thn fun τ2 => xs Φ F r τ2 := id rfl
@[simp] theorem x1_ex (e : E) : x1 Φ F (.ex e) τ = (ev Φ e τ).toS fun _ => .nx τ := id rfl
@[simp] theorem x1_set (g : Tg) (e : E) : x1 Φ F (.set g e) τ = (ev Φ e τ).toS fun d => (bindTg g d τ).toS .nx := id rfl
@[simp] theorem x1_own (i : Nat) (e : E) : x1 Φ F (.own i e) τ = (ev Φ e τ).toS fun d => (match d with
      | .list xs => .nx (τ.set i (some (.own xs)))
      | _ => .no) := id rfl
@[simp] theorem x1_par (l : List (Nat × Bool × E)) : x1 Φ F (.par l) τ = (evs Φ (l.map (·.2.2)) τ).toS fun ds => (setPar τ (l.map fun p => (p.1, p.2.1)) ds).toS .nx := id rfl
@[simp] theorem x1_ret (e : E) : x1 Φ F (.ret e) τ = (ev Φ e τ).toS .rt := id rfl
@[simp] theorem x1_ife (c : E) (a b : List S) : x1 Φ F (.ife c a b) τ = ((ev Φ c τ).bind asB).toS fun k => if k = true then xs Φ F a τ else xs Φ F b τ := id rfl
@[simp] theorem x1_for (g : Tg) (e : E) (b : List S) : x1 Φ F (.for_ g e b) τ = ((ev Φ e τ).bind fun d => ofO (itemsOf d)).toS fun ds => loopF (fun x τ => (bindTg g x τ).toS (fun τ2 => xs Φ F b τ2)) ds τ := id rfl
@[simp] theorem x1_whl (c : E) (b : List S) : x1 Φ F (.whl c b) τ = loopW (fun τ => (ev Φ c τ).bind asB) (fun τ => xs Φ F b τ) F τ := id rfl
@[simp] theorem x1_app (i : Nat) (e : E) : x1 Φ F (.app i e) τ = (ownAt τ i).toS fun xs => (ev Φ e τ).toS fun d => if fits (xs.length + 1) = true then .nx (τ.set i (some (.own (xs ++ [d])))) else .no := by
  have h : x1 Φ F (.app i e) τ = (ownAt τ i).toS fun xs => (ev Φ e τ).toS fun d => if xs.length < sizeLine then .nx (τ.set i (some (.own (xs ++ [d])))) else .no := rfl
  rw [h]
  unfold fits
  simp only [decide_eq_true_eq, Nat.succ_le_iff]
@[simp] theorem x1_ext (i : Nat) (e : E) : x1 Φ F (.ext i e) τ = (ownAt τ i).toS fun xs => (ev Φ e τ).toS fun d => (ofO (seqOf d)).toS fun ys => if fits (xs.length + ys.length) = true then .nx (τ.set i (some (.own (xs ++ ys)))) else .no := by
  have h : x1 Φ F (.ext i e) τ = (ownAt τ i).toS fun xs => (ev Φ e τ).toS fun d => (ofO (seqOf d)).toS fun ys => if xs.length + ys.length ≤ sizeLine then .nx (τ.set i (some (.own (xs ++ ys)))) else .no := rfl
  rw [h]
  unfold fits
  simp only [decide_eq_true_eq]
@[simp] theorem x1_raise (c : Nat) : x1 Φ F (.raise c) τ = .ex c := id rfl
@[simp] theorem x1_pass : x1 Φ F .pass τ = .nx τ := id rfl
@[simp] theorem x1_fz (l : List Nat) (s : S) : x1 Φ F (.fz l s) τ = x1 Φ F s (frz τ l) := id rfl
@[simp] theorem loopF_nil (f : D → Sd → SR) : loopF f [] τ = .nx τ := id rfl
@[simp] theorem loopF_cons (f : D → Sd → SR) (x : D) (r : List D) : loopF f (x :: r) τ = (f x τ).thn (loopF f r) := id rfl
@[simp] theorem bind_one (i : Nat) (d : D) : bindTg (.one i) d τ = .ok (τ.set i (some (.val d))) := rfl
@[simp] theorem slots_one (i : Nat) : (Tg.one i).slots = [i] := rfl
@[simp] theorem slots_tup (is : List Nat) : (Tg.tup is).slots = is := rfl
@[simp] theorem wipe_nil' : wipeD τ [] = τ := rfl
@[simp] theorem wipe_cons' (v : Nat) (vs : List Nat) : wipeD τ (v :: vs) = (wipeD τ vs).set v none := rfl
@[simp] theorem look_nil (i : Nat) : look [] i = .no := by simp [look]
@[simp] theorem look_zero (d : D) (r : Sd) : look (some (.val d) :: r) 0 = .ok d := rfl
@[simp] theorem look_succ (a : Option Sv) (r : Sd) (i : Nat) : look (a :: r) (i + 1) = look r i := by simp [look]
@[simp] theorem peek_zero (d : D) (r : Sd) : peek (some (.val d) :: r) 0 = .ok d := rfl
@[simp] theorem peek_own (xs : List D) (r : Sd) : peek (some (.own xs) :: r) 0 = .ok (.list xs) := rfl
@[simp] theorem peek_succ (a : Option Sv) (r : Sd) (i : Nat) : peek (a :: r) (i + 1) = peek r i := by simp [peek]
@[simp] theorem setPar_nil : setPar τ [] [] = .ok τ := rfl
@[simp] theorem setPar_val (i : Nat) (is : List (Nat × Bool)) (d : D) (ds : List D) : setPar τ ((i, false) :: is) (d :: ds) = setPar (τ.set i (some (.val d))) is ds := rfl
@[simp] theorem ofO_some {α : Type} (a : α) : ofO (some a) = .ok a := rfl
@[simp] theorem items_list (xs : List D) : itemsOf (.list xs) = some xs := rfl
@[simp] theorem items_tuple (xs : List D) : itemsOf (.tuple xs) = some xs := rfl
@[simp] theorem items_str (s : Str) : itemsOf (.str s) = some (s.cps.toList.map fun c => .str ⟨#[c]⟩) := rfl
end
theorem run_eq {Φ : Nat → List D → R D} {F n k : Nat} {body : List S} {ds : List D} (h : ds.length = k) : run Φ F n k body ds = (match xs Φ F body (startD n ds) with
    | .rt d => .ok d
    | .nx _ => .ok .none
    | .ex c => .ex c
    | .no => .no) := if_pos h
/-! ### comprehensions -/
theorem turns_ok {f : D → R (Option D)} {α : Type} {mk : α → D} {p : α → Bool} {g : α → D} : ∀ {xs : List α}, (∀ a ∈ xs, f (mk a) = .ok (if p a = true then some (g a) else none)) → turns f (xs.map mk) = .ok ((xs.filter p).map g)
  | [], _ => rfl
  | a :: xs, h => by
    rw [List.map_cons, turns, h a List.mem_cons_self, R.bind_ok, turns_ok (fun b hb => h b (List.mem_cons_of_mem _ hb)), R.bind_ok, List.filter_cons]
    cases p a <;> rfl
theorem turns_all {f : D → R (Option D)} {α : Type} {mk : α → D} {g : α → D} {xs : List α} (h : ∀ a ∈ xs, f (mk a) = .ok (some (g a))) : turns f (xs.map mk) = .ok (xs.map g) := by
  rw [turns_ok (p := fun _ => true) (g := g) (fun a ha => by rw [h a ha]; rfl)]
  congr 2
  simp
theorem bools_map {α : Type} {xs : List α} {b : α → Bool} : boolsOf (xs.map fun a => .bool (b a)) = some (xs.map b) := by
  induction xs with
  | nil => rfl
  | cons a xs ih => simp [boolsOf, ih]
theorem any_map {α : Type} {xs : List α} {b : α → Bool} : o1 .any (.list (xs.map fun a => .bool (b a))) = .ok (.bool (xs.any b)) := by
  simp [o1, bools_map]
theorem all_map {α : Type} {xs : List α} {b : α → Bool} : o1 .all (.list (xs.map fun a => .bool (b a))) = .ok (.bool (xs.all b)) := by
  simp [o1, bools_map]
@[simp] theorem eqv_str (a b : Str) : PyData.eqv (.str a) (.str b) = decide (a = b) := by
  show (a == b) = decide (a = b)
  by_cases h : a = b <;> simp [h]
def ct (ws : List Str) : D := .tuple (ws.map .str)
theorem memD_str {w : Str} {ws : List Str} : memD (.str w) (ws.map .str) = decide (w ∈ ws) := by
  induction ws with
  | nil => rfl
  | cons x r ih =>
    have : memD (.str w) ((x :: r).map .str) = (decide (x = w) || memD (.str w) (r.map .str)) := by
      simp [memD]
    rw [this, ih]
    by_cases h : x = w
    · simp [h]
    · simp [h, show ¬ w = x from fun e => h e.symm]

/-! ### a def's end -/
def fin : SR → R D
  | .rt d => .ok d
  | .nx _ => .ok .none
  | .ex c => .ex c
  | .no => .no
@[simp] theorem fin_rt (d : D) : fin (.rt d) = .ok d := rfl
@[simp] theorem fin_nx (τ : Sd) : fin (.nx τ) = .ok .none := rfl
@[simp] theorem fin_ex (c : Nat) : fin (.ex c) = .ex c := rfl
theorem run_fin {Φ : Nat → List D → R D} {F n k : Nat} {body : List S} {ds : List D} (h : ds.length = k) : run Φ F n k body ds = fin (xs Φ F body (startD n ds)) := by
  rw [run_eq h]; cases xs Φ F body (startD n ds) <;> rfl
@[simp] theorem fin_toS_rt (r : R D) (k : Sd → SR) : fin ((r.toS SR.rt).thn k) = r := by cases r <;> rfl
@[simp] theorem fin_toS (r : R D) : fin (r.toS SR.rt) = r := by cases r <;> rfl
theorem toS_ite {c : Prop} [Decidable c] {α : Type} (a b : R α) (k : α → SR) : (if c then a else b).toS k = if c then a.toS k else b.toS k := by split <;> rfl
/-! ### operations -/
@[simp] theorem o_nt (b : Bool) : o1 .nt (.bool b) = .ok (.bool !b) := rfl
@[simp] theorem o_neg (i : Int) : o1 .neg (.int i) = .ok (.int (-i)) := rfl
@[simp] theorem o_isStr (d : D) : o1 .isStr d = .ok (.bool (isStr d)) := by cases d <;> rfl
@[simp] theorem o_isTup (d : D) : o1 .isTup d = .ok (.bool (isTup d)) := by cases d <;> rfl
@[simp] theorem o_isLst (d : D) : o1 .isLst d = .ok (.bool (isLst d)) := by cases d <;> rfl
@[simp] theorem o_isInt (d : D) : o1 .isInt d = .ok (.bool (isInt d)) := by cases d <;> rfl
@[simp] theorem o_isBool (d : D) : o1 .isBool d = .ok (.bool (isBool d)) := by cases d <;> rfl
@[simp] theorem isStr_str (s : Str) : isStr (.str s) = true := rfl
@[simp] theorem isTup_tup (s : List D) : isTup (.tuple s) = true := rfl
@[simp] theorem o_lenT (xs : List D) : o1 .len (.tuple xs) = .ok (.int xs.length) := rfl
@[simp] theorem o_lenL (xs : List D) : o1 .len (.list xs) = .ok (.int xs.length) := rfl
@[simp] theorem o_lenS (s : Str) : o1 .len (.str s) = .ok (.int s.length) := rfl
@[simp] theorem o_tupL (xs : List D) : o1 .tup (.list xs) = .ok (.tuple xs) := rfl
@[simp] theorem o_tupT (xs : List D) : o1 .tup (.tuple xs) = .ok (.tuple xs) := rfl
@[simp] theorem o_lstL (xs : List D) : o1 .lst (.list xs) = .ok (.list xs) := rfl
@[simp] theorem o_lstT (xs : List D) : o1 .lst (.tuple xs) = .ok (.list xs) := rfl
@[simp] theorem o_int (i : Int) : o1 .int (.int i) = .ok (.int i) := rfl
@[simp] theorem o_add (i j : Int) : o2 .add (.int i) (.int j) = .ok (.int (i + j)) := rfl
@[simp] theorem o_sub (i j : Int) : o2 .sub (.int i) (.int j) = .ok (.int (i - j)) := rfl
@[simp] theorem o_lt (i j : Int) : o2 .lt (.int i) (.int j) = .ok (.bool (decide (i < j))) := rfl
@[simp] theorem o_le (i j : Int) : o2 .le (.int i) (.int j) = .ok (.bool (decide (i ≤ j))) := rfl
@[simp] theorem o_gt (i j : Int) : o2 .gt (.int i) (.int j) = .ok (.bool (decide (j < i))) := rfl
@[simp] theorem o_ge (i j : Int) : o2 .ge (.int i) (.int j) = .ok (.bool (decide (j ≤ i))) := rfl
@[simp] theorem o_ltS (a b : Str) : o2 .lt (.str a) (.str b) = .ok (.bool (decide (a.cps.toList < b.cps.toList))) := rfl
@[simp] theorem o_max (i j : Int) : o2 .max2 (.int i) (.int j) = .ok (.int (if j > i then j else i)) := rfl
@[simp] theorem o_min (i j : Int) : o2 .min2 (.int i) (.int j) = .ok (.int (if j < i then j else i)) := rfl
theorem o_eq {a b : D} (h : canEq a b = true) : o2 .eq a b = .ok (.bool (PyData.eqv a b)) := by
  have : o2 .eq a b = if canEq a b = true then R.ok (.bool (PyData.eqv a b)) else .no := by cases a <;> cases b <;> rfl
  rw [this, if_pos h]
theorem o_ne {a b : D} (h : canEq a b = true) : o2 .ne a b = .ok (.bool (!PyData.eqv a b)) := by
  have : o2 .ne a b = if canEq a b = true then R.ok (.bool (!PyData.eqv a b)) else .no := by cases a <;> cases b <;> rfl
  rw [this, if_pos h]
theorem can_l {a b : D} (h : a.depth ≤ 60) : canEq a b = true := by unfold canEq; simp; omega
theorem can_r {a b : D} (h : b.depth ≤ 60) : canEq a b = true := by unfold canEq; simp; omega
theorem dep_str (s : Str) : (PyData.str s).depth ≤ 60 := by simp [PyData.depth]
theorem dep_int (s : Int) : (PyData.int s).depth ≤ 60 := by simp [PyData.depth]
theorem dep_bool (s : Bool) : (PyData.bool s).depth ≤ 60 := by simp [PyData.depth]
theorem dep_nilT : (PyData.tuple []).depth ≤ 60 := by simp [PyData.depth, PyData.depthAll]
theorem dep_nilL : (PyData.list []).depth ≤ 60 := by simp [PyData.depth, PyData.depthAll]
theorem depAll_str : ∀ ws : List Str, PyData.depthAll (ws.map .str) ≤ 1
  | [] => by simp [PyData.depthAll]
  | w :: ws => by
    have := depAll_str ws
    simp [PyData.depthAll, PyData.depth]; omega
theorem dep_ct (ws : List Str) : (ct ws).depth ≤ 60 := by
  have := depAll_str ws
  simp [ct, PyData.depth]; omega
theorem o_memT {a : D} {ys : List D} (h : a.depth ≤ 60) : o2 .mem a (.tuple ys) = .ok (.bool (memD a ys)) := by
  have : o2 .mem a (.tuple ys) = if canEq a (.tuple ys) = true then R.ok (.bool (memD a ys)) else .no := by cases a <;> rfl
  rw [this, if_pos (can_l h)]
theorem o_memL {a : D} {ys : List D} (h : a.depth ≤ 60) : o2 .mem a (.list ys) = .ok (.bool (memD a ys)) := by
  have : o2 .mem a (.list ys) = if canEq a (.list ys) = true then R.ok (.bool (memD a ys)) else .no := by cases a <;> rfl
  rw [this, if_pos (can_l h)]
theorem o_nmemT {a : D} {ys : List D} (h : a.depth ≤ 60) : o2 .nmem a (.tuple ys) = .ok (.bool (!memD a ys)) := by
  have : o2 .nmem a (.tuple ys) = if canEq a (.tuple ys) = true then R.ok (.bool (!memD a ys)) else .no := by cases a <;> rfl
  rw [this, if_pos (can_l h)]
@[simp] theorem o_memS (w : Str) (ws : List Str) : o2 .mem (.str w) (ct ws) = .ok (.bool (decide (w ∈ ws))) := by
  rw [ct, o_memT (dep_str w), memD_str]
@[simp] theorem o_memSL (w : Str) (ws : List Str) : o2 .mem (.str w) (.list (ws.map .str)) = .ok (.bool (decide (w ∈ ws))) := by
  rw [o_memL (dep_str w), memD_str]
@[simp] theorem o_eqS (a b : Str) : o2 .eq (.str a) (.str b) = .ok (.bool (decide (a = b))) := by rw [o_eq (can_l (dep_str a)), eqv_str]
@[simp] theorem o_neS (a b : Str) : o2 .ne (.str a) (.str b) = .ok (.bool (!decide (a = b))) := by rw [o_ne (can_l (dep_str a)), eqv_str]
@[simp] theorem o_eqI (a b : Int) : o2 .eq (.int a) (.int b) = .ok (.bool (decide (a = b))) := by
  rw [o_eq (can_l (dep_int a))]
  show R.ok (PyData.bool (a == b)) = _
  by_cases h : a = b <;> simp [h]
@[simp] theorem o_neI (a b : Int) : o2 .ne (.int a) (.int b) = .ok (.bool (!decide (a = b))) := by
  rw [o_ne (can_l (dep_int a))]
  show R.ok (PyData.bool (!(a == b))) = _
  by_cases h : a = b <;> simp [h]
theorem eqvAll_nil : ∀ (xs : List D), PyData.eqvAll xs [] = xs.isEmpty
  | [] => rfl
  | _ :: _ => rfl
@[simp] theorem o_eqT0 (xs : List D) : o2 .eq (.tuple xs) (.tuple []) = .ok (.bool xs.isEmpty) := by
  rw [o_eq (can_r dep_nilT)]
  show R.ok (PyData.bool (PyData.eqvAll xs [])) = _
  rw [eqvAll_nil]
@[simp] theorem o_eqL0 (xs : List D) : o2 .eq (.list xs) (.list []) = .ok (.bool xs.isEmpty) := by
  rw [o_eq (can_r dep_nilL)]
  show R.ok (PyData.bool (PyData.eqvAll xs [])) = _
  rw [eqvAll_nil]
@[simp] theorem o_neL0 (xs : List D) : o2 .ne (.list xs) (.list []) = .ok (.bool (!xs.isEmpty)) := by
  rw [o_ne (can_r dep_nilL)]
  show R.ok (PyData.bool (!PyData.eqvAll xs [])) = _
  rw [eqvAll_nil]
theorem eqvAll_str : ∀ (a b : List Str), PyData.eqvAll (a.map .str) (b.map .str) = decide (a = b)
  | [], [] => rfl
  | [], _ :: _ => rfl
  | _ :: _, [] => rfl
  | x :: a, y :: b => by
    show (PyData.eqv (.str x) (.str y) && PyData.eqvAll (a.map .str) (b.map .str)) = _
    rw [eqv_str, eqvAll_str a b]
    by_cases h : x = y <;> by_cases h2 : a = b <;> simp [h, h2]
@[simp] theorem o_eqC (a b : List Str) : o2 .eq (ct a) (ct b) = .ok (.bool (decide (a = b))) := by
  rw [o_eq (can_l (dep_ct a))]
  show R.ok (PyData.bool (PyData.eqvAll (a.map .str) (b.map .str))) = _
  rw [eqvAll_str]
@[simp] theorem o_neC (a b : List Str) : o2 .ne (ct a) (ct b) = .ok (.bool (!decide (a = b))) := by
  rw [o_ne (can_l (dep_ct a))]
  show R.ok (PyData.bool (!PyData.eqvAll (a.map .str) (b.map .str))) = _
  rw [eqvAll_str]
@[simp] theorem o_eqC0 (a : List Str) : o2 .eq (ct a) (.tuple []) = .ok (.bool a.isEmpty) := by
  rw [ct, o_eqT0]; simp
theorem eqv_bool (a b : Bool) : PyData.eqv (.bool a) (.bool b) = decide (a = b) := by
  cases a <;> cases b <;> rfl
@[simp] theorem o_neB (a b : Bool) : o2 .ne (.bool a) (.bool b) = .ok (.bool (!decide (a = b))) := by
  rw [o_ne (can_l (dep_bool a)), eqv_bool]
@[simp] theorem items_ct (a : List Str) : itemsOf (ct a) = some (a.map .str) := rfl
end Fz

set_option Elab.async false
set_option linter.all false
set_option autoImplicit false
set_option maxRecDepth 100000
/-! Part XT: a law that makes lambdas. -/
namespace Fz
open PySem PySem.Spec L2
/-- the classes that are caught: each catches itself -/
def thB (xs : List Str) (K : Fr') : Bool := xs.all fun x => decide (PySem.W.exmOne K (.ref (He.ga K x)) (.ref (He.ga K x)) = some true)
theorem thB_ok {xs : List Str} {K : Fr'} (h : thB xs K = true) {x : Str} (hx : x ∈ xs) : PySem.W.exmOne K (.ref (He.ga K x)) (.ref (He.ga K x)) = some true := by
  unfold thB at h
  rw [List.all_eq_true] at h
  exact of_decide_eq_true (h x hx)
def lamQ (q : Str) : Str := q ++ ".<locals>." ++ "<lambda>"
section
variable [TabT] {P : Program} {w : World} {K : Fr'} {mg : Str → Option Value} {base : Heap} {C : Nat → Addr} {glo : List (Str × D)} {exs fns thk : List (Str × Nat)} {lv : Nat} {Φ : Nat → List D → R D} {x q : Str} {params : Arguments} {body : List Stmt} {scope : Scope} {kws : List (Str × V)} {f : Addr} {fd : FuncData} {N : List Str} {irs : List S} {Fu : Nat}
theorem law_stepT (G : Glb K mg C glo exs) (hf : ∀ x f, fns.lookup x = some f → FnG P w K mg base C lv x (Φ f)) (F : FunD K x q params body scope [] kws f fd) (hs : scB N ["script"] scope = true)
    (h : css ⟨N, scope, stOf scope, fns, glo, exs, thk⟩ irs body = true)
    (hth : ∀ c : Addr, fd.code = .ref c → ∀ X : Cx, X.K = K → X.mg = mg → X.base = base → X.env.qual = q ++ ".<locals>." → X.env.code = .ref c → ∀ y g, thk.lookup y = some g → ThkAt X C y (Φ g))
    (hlaw : ∀ ns : List Int, ns.length ≤ 63 → run Φ Fu N.length 1 irs [.list (ns.map .int)] = .ok (.bool true)) : FnOk P w K mg base CX0 (lv + 3) f fd ["script"] (spLaw K) := by
  obtain ⟨oc, od, dV, kV, doc, pm, an, cdv, ct, osl, rfl, lk, hcd, _, _⟩ := F.ex
  obtain ⟨c, rfl⟩ := He.codeIn_ref hcd
  obtain ⟨S, hst⟩ := scB_ok hs
  refine fn_of lk hcd S (fun vs H Q E hsp => ?_) fun A outer s H vs Q E hr hsp => ?_
  · obtain ⟨a, ns, rfl, _⟩ := hsp
    rfl
  · obtain ⟨a, ns, rfl, hl, tb, hq, z⟩ := hsp
    let X : Cx := cxOf CX0 P w K mg base N q scope f (.ref c) A outer s H E
    have gd : GoodS X ⟨N, scope, stOf scope, fns, glo, exs, thk⟩ C Φ W0 := by
      refine ⟨⟨rfl, S.nd, rfl, rfl, fun x hx => ⟨hst x hx, .inl rfl⟩, hr.units, G.free, fun x g hl => ?_, G.glo, takes0, fun _ => ⟨lv, hr, fun x g hl => ?_, hth c rfl X rfl rfl rfl rfl rfl⟩⟩, fun x k hl m j p p2 pos hg => ?_, passes_of rfl⟩
      · obtain ⟨k, f', fd', ps', hk, h1, h2, h3, h4, h5⟩ := hf x g hl
        exact ⟨k, f', fd', ps', h1, hr.mono (by omega), h2, h3, h4, h5⟩
      · exact hf x g hl
      · obtain ⟨z1, z2, z3, z4, z5, z6⟩ := G.exs x k hl
        exact pmk_own PySem.F.excBase_ValueError z1 z5 z2 (raises_own z3 z4) hg z6
    refine ⟨_, sndSs C Φ Fu irs gd body h, ?_⟩
    have hall : ∀ ns : List Int, RpAll K H (ns.map V.int) (ns.map PyData.int) := fun ns => by
      induction ns with
      | nil => exact .nil
      | cons n r ih => exact .cons (.int n) ih
    refine body_rd (ds := [.list (ns.map .int)]) (ps := ["script"]) (.cons (.lst hq (hall ns) (by rw [List.length_map, sizeLine_eq]; omega)) .nil) tb rfl ?_
    rw [show (["script"] : List Str).length = 1 from rfl, hlaw ns hl]
    intro v H' _ r
    cases Rp.bool_of r
    exact z H'
end
/-- the end of such a law -/
theorem walk_T {l : PySem.W.OpenLaw} {n k : Nat} {q : Program} {loose : List Str} {XP : (Str → Option Value) → Heap → Prop} {YP : World → Heap → Prop} {d : DefRec} {x : Str}
    (hn : l.most = some n) (hn2 : n ≤ sizeLine) (hdf : d.params.defaults = []) (hr : Room k callerA)
    (F : ∀ (w : World) (mg : Str → Option Value) (fa : Addr) (h : Heap), YP w h → h.Ns mainGlobals mg → mg d.name = some (.ref fa) →
      ∃ (K : Fr') (fd : FuncData) (cs : List (Addr × Addr)) (sp : Sp), K.In h ∧ (∀ p ∈ cs, h.get? p.2 = some { cls := .none, data := .fields #[] }) ∧ (∀ p ∈ cs, K.lookup p.2 = none) ∧ (∀ p ∈ cs, PySem.W.CodeHd h p.1 p.2) ∧
        (∀ (s : Shared) (u : Value), BindsTo s fd ⟨[u], []⟩ [(x, u)]) ∧
        (∀ (H : Hp) (a : Addr) (ns : List Int), ns.length ≤ n → (∀ p ∈ cs, H p.2 = some (.tbl #[])) → SqL K H a (ns.map V.int) → sp [.ref a] H (fun v _ => v = .bl true) fun _ _ _ => False) ∧
        ∀ base : Heap, K.In base → base.Ns mainGlobals mg → (∀ p ∈ cs, LamX.TabB base mg p.1 p.2) → FnOk l.prog w K mg base CX0 k fa fd [x] sp) :
    PySem.W.WalkO q loose XP YP l.row.toRowW d [] (fun f vs => PySem.call f vs) := by
  refine Att.attach_callB hn hdf fun w s₀ s₁ mg mb fa o pm cd doc a vs ns G Y ho hd hcd hmg hobj hints hlen hbits hg => ?_
  obtain ⟨K, fd, cs, sp, KX, hT, nT, hC, hb, hsp, hF⟩ := F w mg fa _ Y G.T.g hmg
  exact LamX.law_callTs KX G.T.g G.T.b G.T.builtins G.T.nolimit hg hT nT hC G.T.bmain hobj hints (Nat.le_trans hlen hn2) hr hF hb (fun H hH hS => hsp H a ns hlen hH hS) fun H e s' z => z
/-- the facts of a def that tries its argument, put together -/
theorem thk_mk [TabT] {X : Cx} {K : Fr'} {mg : Str → Option Value} {base : Heap} {C : Nat → Addr} (hK : X.K = K) (hm : X.mg = mg) (hb : X.base = base) {q : Str} (hq : X.env.qual = q ++ ".<locals>.") {c P : Addr} (hc : X.env.code = .ref c) (TB : LamX.TabB base mg c P) (hT : TabT.T = [(P, lamQ q)])
    {x a e : Str} {t : TD} {g : Addr} {pg : Arguments} {bg : List Stmt} {sg : Scope} {kws : List (Str × V)} {fd : FuncData} {Ng : List Str} (F : FunD K x x pg bg sg [] kws g fd) (hmx : mg x = some (.ref g)) (hbind : L2.Binds K fd [a] []) (hsc : scB Ng [a] sg = true) (hN : Ng[0]? = some a) (hsh : thkS a e bg = some (t.ret, t.val))
    (hge : sg.names.lookup e = some .globalImplicit) (hme : mg e = some (.ref (C t.exc))) (hex : PySem.W.exmOne K (.ref (C t.exc)) (.ref (C t.exc)) = some true) (d1 : (x == ("__debug__" : Str)) = false) (d2 : (a == ("__debug__" : Str)) = false) (d3 : (a == ("__classdict__" : Str)) = false) (d4 : (e == ("__debug__" : Str)) = false) : ThkAt X C x (mT t) := by
  subst hK hm hb
  have hS := (scB_ok hsc).1
  have hva : Vis sg a := (hS.par a (by simp)).elim .inl (fun z => .inr (.inl z))
  have hl : X.env.qual ++ "<lambda>" = lamQ q := by rw [hq]; rfl
  exact ⟨t, a, e, g, c, P, pg, bg, sg, kws, fd, Ng, rfl, hmx, F, hbind, hS, hN, hva, hsh, hge, hme, hex, d1, d2, d3, d4, TB, hc, by rw [hl, hT]; simp, fun p hp _ => by rw [hT] at hp; rw [hl]; simp at hp; rw [hp]⟩
end Fz

set_option Elab.async false
set_option linter.all false
set_option autoImplicit false
set_option maxRecDepth 100000
set_option maxHeartbeats 0
namespace Lw
open PySem PySem.Spec L2 Fz
def Fu : Nat := 1000000000
def g_MAX_WORD : D := .int 3
def g_LETTERS : D := .str "abcdefghijklmnopqrstuvwxyz"
/-! is_word -/
def N_is_word : List Str := ["candidate", "letter"]
def ps_is_word : List Str := ["candidate"]
def ir_is_word : List S := [
  .ife (.or [.u .nt (.u .isStr (.var 0)), .u .nt (.chain .le .le (.cst (.int 1)) (.u .len (.var 0)) (.cst g_MAX_WORD))]) [
    .ret (.cst (.bool false))] [],
  .ret (.u .all (.comp (.one 1) (.var 0) (.cst (.bool true)) (.b .mem (.var 1) (.cst g_LETTERS))))]
def F_is_word : Nat → List D → R D := fun f => fun _ => .no
def m_is_word : List D → R D := run F_is_word Fu 2 1 ir_is_word
/-! is_content -/
def N_is_content : List Str := ["candidate", "one", "other", "word"]
def ps_is_content : List Str := ["candidate"]
def ir_is_content : List S := [
  .ife (.or [.u .nt (.u .isTup (.var 0)), .u .nt (.u .all (.comp (.one 3) (.var 0) (.cst (.bool true)) (.call 0 [.var 3])))]) [
    .ret (.cst (.bool false))] [],
  .ret (.u .all (.comp (.tup [1, 2]) (.b .zip (.var 0) (.b .from (.var 0) (.cst (.int 1)))) (.cst (.bool true)) (.b .lt (.var 1) (.var 2))))]
def F_is_content : Nat → List D → R D := fun f => if f = 0 then m_is_word else fun _ => .no
def m_is_content : List D → R D := run F_is_content Fu 4 1 ir_is_content
@[simp] theorem F_is_content_is_word : F_is_content 0 = m_is_word := rfl
/-! _law_judged -/
def N_law_judged : List Str := ["good", "bad", "value"]
def ps_law_judged : List Str := []
def ir_law_judged : List S := [
  .set (.one 0) (.lst [.call 0 [.cst (.str "a")], .call 0 [.cst (.str "zzz")], .call 1 [.tup []], .call 1 [.tup [.cst (.str "a"), .cst (.str "aa"), .cst (.str "b")]]]),
  .own 1 (.lst [.call 0 [.cst (.str "")], .call 0 [.cst (.str "abcd")], .call 0 [.cst (.str "A")], .call 0 [.cst (.str "a1")], .call 0 [.cst .none], .call 0 [.tup [.cst (.str "a")]], .call 0 [.cst (.str "a b")]]),
  .ext 1 (.lst [.call 1 [.tup [.cst (.str "b"), .cst (.str "a")]], .call 1 [.tup [.cst (.str "a"), .cst (.str "a")]], .call 1 [.lst [.cst (.str "a")]], .call 1 [.cst (.str "a")], .call 1 [.cst .none]]),
  .ext 1 (.lst [.call 1 [.tup [.cst (.str "a"), .cst (.str "")]], .call 1 [.tup [.cst (.str "a"), .cst (.int 1)]], .call 1 [.cst (.int 1)], .call 1 [.tup [.cst .none]]]),
  .ret (.and [.u .all (.comp (.one 2) (.var 0) (.cst (.bool true)) (.b .iss (.var 2) (.cst (.bool true)))), .u .all (.comp (.one 2) (.pk 1) (.cst (.bool true)) (.b .iss (.var 2) (.cst (.bool false))))])]
def F_law_judged : Nat → List D → R D := fun f => if f = 0 then m_is_word else if f = 1 then m_is_content else fun _ => .no
def m_law_judged : List D → R D := run F_law_judged Fu 3 0 ir_law_judged
@[simp] theorem F_law_judged_is_word : F_law_judged 0 = m_is_word := rfl
@[simp] theorem F_law_judged_is_content : F_law_judged 1 = m_is_content := rfl
/-! _law_pick -/
def N_law_pick : List Str := ["script", "k", "many", "cell", "drawn", "rest", "again"]
def ps_law_pick : List Str := ["script", "k", "many"]
def ir_law_pick : List S := [
  .set (.one 3) (.ite (.b .ne (.var 0) (.lst [])) (.b .ix (.var 0) (.b .mod (.u .int (.var 1)) (.u .len (.var 0)))) (.cst (.int 0))),
  .par [(5, false, .b .fdiv (.var 3) (.b .pow (.cst (.int 10)) (.cst (.int 18)))), (6, false, .b .fdiv (.var 1) (.b .max2 (.u .len (.var 0)) (.cst (.int 1))))],
  .whl (.and [.b .gt (.var 5) (.cst (.int 0)), .b .gt (.var 6) (.cst (.int 0))]) [
    .par [(5, false, .b .fdiv (.var 5) (.cst (.int 840))), (6, false, .b .sub (.var 6) (.cst (.int 1)))]],
  .ife (.b .gt (.var 5) (.cst (.int 0))) [
    .ret (.b .mod (.u .int (.b .mod (.u .int (.var 5)) (.cst (.int 840)))) (.var 2))] [],
  .set (.one 4) (.b .mod (.u .int (.b .mul (.b .add (.b .mul (.var 3) (.cst (.int 31))) (.b .mul (.cst (.int 6151)) (.b .add (.var 1) (.cst (.int 1))))) (.cst (.int 40692)))) (.cst (.int 2147483399))),
  .ret (.b .mod (.u .int (.b .mod (.u .int (.b .add (.b .mul (.var 4) (.var 4)) (.b .fdiv (.var 4) (.cst (.int 31))))) (.cst (.int 2147483629)))) (.var 2))]
def F_law_pick : Nat → List D → R D := fun f => fun _ => .no
def m_law_pick : List D → R D := run F_law_pick Fu 7 3 ir_law_pick
/-! union -/
def N_union : List Str := ["one", "other"]
def ps_union : List Str := ["one", "other"]
def ir_union : List S := [
  .ret (.u .tup (.u .sset (.b .add (.var 0) (.var 1))))]
def F_union : Nat → List D → R D := fun f => fun _ => .no
def m_union : List D → R D := run F_union Fu 2 2 ir_union
def g_SHARED : D := .str "shared"
def g_LEAST : D := .str "least"
def g_GREATEST : D := .str "greatest"
def g_ALL : D := .str "all"
/-! find_merged -/
def N_find_merged : List Str := ["kind", "one", "other", "words", "word"]
def ps_find_merged : List Str := ["kind", "one", "other"]
def ir_find_merged : List S := [
  .set (.one 3) (.call 4 [.var 1, .var 2]),
  .ife (.or [.b .eq (.var 0) (.cst g_ALL), .b .eq (.var 1) (.tup []), .b .eq (.var 2) (.tup [])]) [
    .ret (.var 3)] [],
  .ife (.b .eq (.var 0) (.cst g_SHARED)) [
    .ret (.u .tup (.comp (.one 4) (.var 1) (.b .mem (.var 4) (.var 2)) (.var 4)))] [],
  .ife (.b .eq (.var 0) (.cst g_LEAST)) [
    .ret (.b .to (.var 3) (.cst (.int 1)))] [],
  .ife (.b .eq (.var 0) (.cst g_GREATEST)) [
    .ret (.b .from (.var 3) (.u .neg (.cst (.int 1))))] [],
  .ret (.ite (.b .eq (.var 1) (.var 2)) (.var 3) (.tup []))]
def F_find_merged : Nat → List D → R D := fun f => if f = 4 then m_union else fun _ => .no
def m_find_merged : List D → R D := run F_find_merged Fu 5 3 ir_find_merged
@[simp] theorem F_find_merged_union : F_find_merged 4 = m_union := rfl
/-! check_content -/
def N_check_content : List Str := ["value"]
def ps_check_content : List Str := ["value"]
def ir_check_content : List S := [
  .ife (.u .nt (.call 1 [.var 0])) [
    .raise 1] []]
def F_check_content : Nat → List D → R D := fun f => if f = 1 then m_is_content else fun _ => .no
def m_check_content : List D → R D := run F_check_content Fu 1 1 ir_check_content
@[simp] theorem F_check_content_is_content : F_check_content 1 = m_is_content := rfl
def g_KINDS : D := .tuple [(.str "all"), (.str "shared"), (.str "least"), (.str "greatest"), (.str "agreed")]
def g_SINGLE : D := .tuple [(.str "least"), (.str "greatest"), (.str "agreed")]
/-! merge_contents -/
def N_merge_contents : List Str := ["kind", "one", "other", "content"]
def ps_merge_contents : List Str := ["kind", "one", "other"]
def ir_merge_contents : List S := [
  .ife (.or [.u .nt (.u .isStr (.var 0)), .b .nmem (.var 0) (.cst g_KINDS)]) [
    .raise 3] [],
  .for_ (.one 3) (.tup [.var 1, .var 2]) [
    .ex (.call 6 [.var 3]),
    .ife (.and [.b .mem (.var 0) (.cst g_SINGLE), .b .gt (.u .len (.var 3)) (.cst (.int 1))]) [
      .raise 1] []],
  .ret (.call 5 [.var 0, .var 1, .var 2])]
def F_merge_contents : Nat → List D → R D := fun f => if f = 5 then m_find_merged else if f = 6 then m_check_content else fun _ => .no
def m_merge_contents : List D → R D := run F_merge_contents Fu 4 3 ir_merge_contents
@[simp] theorem F_merge_contents_find_merged : F_merge_contents 5 = m_find_merged := rfl
@[simp] theorem F_merge_contents_check_content : F_merge_contents 6 = m_check_content := rfl
/-! have_word -/
def N_have_word : List Str := ["one", "other", "word"]
def ps_have_word : List Str := ["one", "other"]
def ir_have_word : List S := [
  .ret (.u .any (.comp (.one 2) (.var 0) (.cst (.bool true)) (.b .mem (.var 2) (.var 1))))]
def F_have_word : Nat → List D → R D := fun f => fun _ => .no
def m_have_word : List D → R D := run F_have_word Fu 3 2 ir_have_word
/-! have_near -/
def N_have_near : List Str := ["one", "other", "letters", "word"]
def ps_have_near : List Str := ["one", "other"]
def ir_have_near : List S := [
  .set (.one 2) (.comp (.one 3) (.var 1) (.cst (.bool true)) (.b .ix (.var 3) (.cst (.int 0)))),
  .ret (.u .any (.comp (.one 3) (.var 0) (.cst (.bool true)) (.b .mem (.b .ix (.var 3) (.cst (.int 0))) (.var 2))))]
def F_have_near : Nat → List D → R D := fun f => fun _ => .no
def m_have_near : List D → R D := run F_have_near Fu 4 2 ir_have_near
def g_SAME : D := .str "same"
def g_NEAR : D := .str "near"
def g_UNLIKE : D := .str "unlike"
def g_BOTH : D := .str "both"
/-! does_hold -/
def N_does_hold : List Str := ["condition", "one", "other"]
def ps_does_hold : List Str := ["condition", "one", "other"]
def ir_does_hold : List S := [
  .ife (.b .eq (.var 0) (.cst g_SAME)) [
    .ret (.call 8 [.var 1, .var 2])] [],
  .ife (.b .eq (.var 0) (.cst g_NEAR)) [
    .ret (.call 9 [.var 1, .var 2])] [],
  .ife (.or [.b .eq (.var 1) (.tup []), .b .eq (.var 2) (.tup [])]) [
    .ret (.cst (.bool false))] [],
  .ife (.b .eq (.var 0) (.cst g_UNLIKE)) [
    .ret (.u .nt (.call 8 [.var 1, .var 2]))] [],
  .ret (.or [.b .eq (.var 0) (.cst g_BOTH), .u .nt (.call 9 [.var 1, .var 2])])]
def F_does_hold : Nat → List D → R D := fun f => if f = 8 then m_have_word else if f = 9 then m_have_near else fun _ => .no
def m_does_hold : List D → R D := run F_does_hold Fu 3 3 ir_does_hold
@[simp] theorem F_does_hold_have_word : F_does_hold 8 = m_have_word := rfl
@[simp] theorem F_does_hold_have_near : F_does_hold 9 = m_have_near := rfl
def g_CONDITIONS : D := .tuple [(.str "same"), (.str "near"), (.str "unlike"), (.str "far"), (.str "both")]
/-! holds -/
def N_holds : List Str := ["condition", "one", "other"]
def ps_holds : List Str := ["condition", "one", "other"]
def ir_holds : List S := [
  .ife (.or [.u .nt (.u .isStr (.var 0)), .b .nmem (.var 0) (.cst g_CONDITIONS)]) [
    .raise 2] [],
  .ex (.call 6 [.var 1]),
  .ex (.call 6 [.var 2]),
  .ret (.call 10 [.var 0, .var 1, .var 2])]
def F_holds : Nat → List D → R D := fun f => if f = 6 then m_check_content else if f = 10 then m_does_hold else fun _ => .no
def m_holds : List D → R D := run F_holds Fu 3 3 ir_holds
@[simp] theorem F_holds_check_content : F_holds 6 = m_check_content := rfl
@[simp] theorem F_holds_does_hold : F_holds 10 = m_does_hold := rfl
/-! _law_holds -/
def N_law_holds : List Str := ["condition", "one", "other", "near", "same", "word", "more"]
def ps_law_holds : List Str := ["condition", "one", "other"]
def ir_law_holds : List S := [
  .set (.one 3) (.comp (.one 5) (.var 1) (.b .ne (.comp (.one 6) (.var 2) (.b .eq (.b .ix (.var 6) (.cst (.int 0))) (.b .ix (.var 5) (.cst (.int 0)))) (.var 6)) (.lst [])) (.var 5)),
  .set (.one 4) (.comp (.one 5) (.var 1) (.b .mem (.var 5) (.var 2)) (.var 5)),
  .ife (.b .mem (.var 0) (.tup [.cst (.str "same"), .cst (.str "near")])) [
    .ret (.b .ne (.ite (.b .eq (.var 0) (.cst (.str "same"))) (.var 4) (.var 3)) (.lst []))] [],
  .ife (.or [.b .eq (.var 1) (.tup []), .b .eq (.var 2) (.tup [])]) [
    .ret (.cst (.bool false))] [],
  .ret (.sel ["both", "unlike", "far"] [.cst (.bool true), .b .eq (.var 4) (.lst []), .b .eq (.var 3) (.lst [])] (.var 0))]
def F_law_holds : Nat → List D → R D := fun f => fun _ => .no
def m_law_holds : List D → R D := run F_law_holds Fu 7 3 ir_law_holds
/-! _law_blend -/
def N_law_blend : List Str := ["kind", "one", "other", "words", "word"]
def ps_law_blend : List Str := ["kind", "one", "other"]
def ir_law_blend : List S := [
  .set (.one 3) (.u .tup (.u .sset (.b .add (.var 1) (.var 2)))),
  .ife (.b .eq (.var 0) (.cst (.str "least"))) [
    .ret (.b .to (.var 3) (.cst (.int 1)))] [],
  .ife (.b .eq (.var 0) (.cst (.str "greatest"))) [
    .ret (.b .from (.var 3) (.u .neg (.cst (.int 1))))] [],
  .ife (.or [.b .eq (.var 0) (.cst (.str "all")), .b .eq (.var 1) (.tup []), .b .eq (.var 2) (.tup []), .b .eq (.var 1) (.var 2)]) [
    .ret (.var 3)] [],
  .ret (.ite (.b .eq (.var 0) (.cst (.str "shared"))) (.u .tup (.comp (.one 4) (.var 1) (.b .mem (.var 4) (.var 2)) (.var 4))) (.tup []))]
def F_law_blend : Nat → List D → R D := fun f => fun _ => .no
def m_law_blend : List D → R D := run F_law_blend Fu 5 3 ir_law_blend
/-! _law_bit -/
def N_law_bit : List Str := ["cell", "place", "turn"]
def ps_law_bit : List Str := ["cell", "place"]
def ir_law_bit : List S := [
  .for_ (.one 2) (.u .rng (.var 1)) [
    .set (.one 0) (.b .fdiv (.var 0) (.cst (.int 2)))],
  .ret (.b .eq (.b .mod (.u .int (.var 0)) (.cst (.int 2))) (.cst (.int 1)))]
def F_law_bit : Nat → List D → R D := fun f => fun _ => .no
def m_law_bit : List D → R D := run F_law_bit Fu 3 2 ir_law_bit
/-! _law_plan -/
def N_law_plan : List Str := ["script", "at", "many", "kinds", "tests", "k", "first", "rules", "field", "names"]
def ps_law_plan : List Str := ["script", "at", "many"]
def ir_law_plan : List S := [
  .set (.one 3) (.u .tup (.comp (.one 5) (.u .rng (.var 2)) (.cst (.bool true)) (.b .ix (.tup [.cst (.str "all"), .cst (.str "agreed"), .cst (.str "shared"), .cst (.str "least"), .cst (.str "greatest")]) (.call 3 [.var 0, .b .add (.var 1) (.var 5), .cst (.int 5)])))),
  .own 4 (.lst []),
  .for_ (.one 5) (.u .rng (.cst (.int 7))) [
    .set (.one 8) (.call 3 [.var 0, .b .add (.b .add (.var 1) (.cst (.int 5))) (.b .mul (.cst (.int 2)) (.var 5)), .var 2]),
    .set (.one 9) (.tup [.cst (.str "near"), .cst (.str "same"), .cst (.str "unlike"), .cst (.str "far"), .cst (.str "both")]),
    .set (.one 9) (.ite (.b .mem (.b .ix (.var 3) (.var 8)) (.tup [.cst (.str "all"), .cst (.str "shared")])) (.b .add (.cut (.var 9) (.cst (.int 1)) (.cst (.int 3))) (.b .from (.var 9) (.cst (.int 4)))) (.var 9)),
    .app 4 (.tup [.var 8, .b .ix (.var 9) (.call 3 [.var 0, .b .add (.b .add (.var 1) (.cst (.int 6))) (.b .mul (.cst (.int 2)) (.var 5)), .u .len (.var 9)])])],
  .set (.one 6) (.tup [.b .ix (.b .ix (.pk 4) (.cst (.int 0))) (.cst (.int 0)), .ite (.b .gt (.call 3 [.var 0, .b .add (.var 1) (.cst (.int 20)), .cst (.int 3)]) (.cst (.int 0))) (.cst (.str "same")) (.b .ix (.b .ix (.pk 4) (.cst (.int 0))) (.cst (.int 1)))]),
  .own 7 (.lst [.u .tup (.u .sset (.b .add (.lst [.var 6]) (.cut (.pk 4) (.cst (.int 1)) (.b .add (.cst (.int 1)) (.call 3 [.var 0, .b .add (.var 1) (.cst (.int 21)), .cst (.int 3)])))))]),
  .app 7 (.u .tup (.u .sset (.cut (.pk 4) (.cst (.int 3)) (.b .add (.cst (.int 4)) (.call 3 [.var 0, .b .add (.var 1) (.cst (.int 22)), .cst (.int 2)]))))),
  .set (.one 7) (.b .to (.pk 7) (.b .add (.cst (.int 1)) (.call 3 [.var 0, .b .add (.var 1) (.cst (.int 23)), .cst (.int 2)]))),
  .ret (.tup [.var 3, .u .tup (.u .sset (.pk 7)), .u .tup (.u .sset (.cut (.pk 4) (.cst (.int 5)) (.b .add (.cst (.int 5)) (.call 3 [.var 0, .b .add (.var 1) (.cst (.int 24)), .cst (.int 3)]))))])]
def F_law_plan : Nat → List D → R D := fun f => if f = 3 then m_law_pick else fun _ => .no
def m_law_plan : List D → R D := run F_law_plan Fu 10 3 ir_law_plan
@[simp] theorem F_law_plan_law_pick : F_law_plan 3 = m_law_pick := rfl
/-! is_rising -/
def N_is_rising : List Str := ["values", "one", "other"]
def ps_is_rising : List Str := ["values"]
def ir_is_rising : List S := [
  .ret (.u .all (.comp (.tup [1, 2]) (.b .zip (.var 0) (.b .from (.var 0) (.cst (.int 1)))) (.cst (.bool true)) (.b .lt (.var 1) (.var 2))))]
def F_is_rising : Nat → List D → R D := fun f => fun _ => .no
def m_is_rising : List D → R D := run F_is_rising Fu 3 1 ir_is_rising
/-! is_int -/
def N_is_int : List Str := ["value", "least", "most"]
def ps_is_int : List Str := ["value", "least", "most"]
def ir_is_int : List S := [
  .ret (.and [.u .isInt (.var 0), .u .nt (.u .isBool (.var 0)), .chain .le .le (.var 1) (.var 0) (.var 2)])]
def F_is_int : Nat → List D → R D := fun f => fun _ => .no
def m_is_int : List D → R D := run F_is_int Fu 3 3 ir_is_int
def g_FAR : D := .str "far"
/-! is_test -/
def N_is_test : List Str := ["kinds", "value", "field", "condition"]
def ps_is_test : List Str := ["kinds", "value"]
def ir_is_test : List S := [
  .ife (.or [.u .nt (.u .isTup (.var 1)), .b .ne (.u .len (.var 1)) (.cst (.int 2)), .u .nt (.call 17 [.b .ix (.var 1) (.cst (.int 0)), .cst (.int 0), .b .sub (.u .len (.var 0)) (.cst (.int 1))])]) [
    .ret (.cst (.bool false))] [],
  .set (.tup [2, 3]) (.var 1),
  .ife (.or [.u .nt (.u .isStr (.var 3)), .b .nmem (.var 3) (.cst g_CONDITIONS)]) [
    .ret (.cst (.bool false))] [],
  .ret (.or [.b .nmem (.var 3) (.tup [.cst g_NEAR, .cst g_FAR]), .b .mem (.b .ix (.var 0) (.var 2)) (.cst g_SINGLE)])]
def F_is_test : Nat → List D → R D := fun f => if f = 17 then m_is_int else fun _ => .no
def m_is_test : List D → R D := run F_is_test Fu 4 2 ir_is_test
@[simp] theorem F_is_test_is_int : F_is_test 17 = m_is_int := rfl
def g_MAX_TESTS : D := .int 3
/-! are_tests -/
def N_are_tests : List Str := ["kinds", "value", "least", "test"]
def ps_are_tests : List Str := ["kinds", "value", "least"]
def ir_are_tests : List S := [
  .ife (.or [.u .nt (.u .isTup (.var 1)), .u .nt (.chain .le .le (.var 2) (.u .len (.var 1)) (.cst g_MAX_TESTS))]) [
    .ret (.cst (.bool false))] [],
  .ret (.and [.u .all (.comp (.one 3) (.var 1) (.cst (.bool true)) (.call 18 [.var 0, .var 3])), .call 16 [.var 1]])]
def F_are_tests : Nat → List D → R D := fun f => if f = 16 then m_is_rising else if f = 18 then m_is_test else fun _ => .no
def m_are_tests : List D → R D := run F_are_tests Fu 4 3 ir_are_tests
@[simp] theorem F_are_tests_is_rising : F_are_tests 16 = m_is_rising := rfl
@[simp] theorem F_are_tests_is_test : F_are_tests 18 = m_is_test := rfl
def g_MAX_FIELDS : D := .int 3
/-! are_kinds -/
def N_are_kinds : List Str := ["value", "kind"]
def ps_are_kinds : List Str := ["value"]
def ir_are_kinds : List S := [
  .ife (.or [.u .nt (.u .isTup (.var 0)), .u .nt (.chain .le .le (.cst (.int 1)) (.u .len (.var 0)) (.cst g_MAX_FIELDS))]) [
    .ret (.cst (.bool false))] [],
  .ret (.u .all (.comp (.one 1) (.var 0) (.cst (.bool true)) (.and [.u .isStr (.var 1), .b .mem (.var 1) (.cst g_KINDS)])))]
def F_are_kinds : Nat → List D → R D := fun f => fun _ => .no
def m_are_kinds : List D → R D := run F_are_kinds Fu 2 1 ir_are_kinds
def g_MAX_RULES : D := .int 3
/-! is_plan -/
def N_is_plan : List Str := ["candidate", "kinds", "rules", "bars", "rule"]
def ps_is_plan : List Str := ["candidate"]
def ir_is_plan : List S := [
  .ife (.or [.u .nt (.u .isTup (.var 0)), .b .ne (.u .len (.var 0)) (.cst (.int 3)), .u .nt (.call 20 [.b .ix (.var 0) (.cst (.int 0))])]) [
    .ret (.cst (.bool false))] [],
  .set (.tup [1, 2, 3]) (.var 0),
  .ife (.or [.u .nt (.u .isTup (.var 2)), .u .nt (.chain .le .le (.cst (.int 1)) (.u .len (.var 2)) (.cst g_MAX_RULES))]) [
    .ret (.cst (.bool false))] [],
  .ife (.or [.u .nt (.u .all (.comp (.one 4) (.var 2) (.cst (.bool true)) (.call 19 [.var 1, .var 4, .cst (.int 1)]))), .u .nt (.call 16 [.var 2])]) [
    .ret (.cst (.bool false))] [],
  .ret (.call 19 [.var 1, .var 3, .cst (.int 0)])]
def F_is_plan : Nat → List D → R D := fun f => if f = 19 then m_are_tests else if f = 20 then m_are_kinds else if f = 16 then m_is_rising else fun _ => .no
def m_is_plan : List D → R D := run F_is_plan Fu 5 1 ir_is_plan
@[simp] theorem F_is_plan_are_tests : F_is_plan 19 = m_are_tests := rfl
@[simp] theorem F_is_plan_are_kinds : F_is_plan 20 = m_are_kinds := rfl
@[simp] theorem F_is_plan_is_rising : F_is_plan 16 = m_is_rising := rfl
/-! check_plan -/
def N_check_plan : List Str := ["value"]
def ps_check_plan : List Str := ["value"]
def ir_check_plan : List S := [
  .ife (.u .nt (.call 21 [.var 0])) [
    .raise 4] []]
def F_check_plan : Nat → List D → R D := fun f => if f = 21 then m_is_plan else fun _ => .no
def m_check_plan : List D → R D := run F_check_plan Fu 1 1 ir_check_plan
@[simp] theorem F_check_plan_is_plan : F_check_plan 21 = m_is_plan := rfl
/-! has_entry -/
def N_has_entry : List Str := ["plan", "value", "content", "kind"]
def ps_has_entry : List Str := ["plan", "value"]
def ir_has_entry : List S := [
  .ife (.or [.u .nt (.u .isTup (.var 1)), .b .ne (.u .len (.var 1)) (.u .len (.b .ix (.var 0) (.cst (.int 0))))]) [
    .ret (.cst (.bool false))] [],
  .ife (.u .nt (.u .all (.comp (.one 2) (.var 1) (.cst (.bool true)) (.call 1 [.var 2])))) [
    .ret (.cst (.bool false))] [],
  .ret (.u .all (.comp (.tup [3, 2]) (.b .zip (.b .ix (.var 0) (.cst (.int 0))) (.var 1)) (.cst (.bool true)) (.or [.b .nmem (.var 3) (.cst g_SINGLE), .b .le (.u .len (.var 2)) (.cst (.int 1))])))]
def F_has_entry : Nat → List D → R D := fun f => if f = 1 then m_is_content else fun _ => .no
def m_has_entry : List D → R D := run F_has_entry Fu 4 2 ir_has_entry
@[simp] theorem F_has_entry_is_content : F_has_entry 1 = m_is_content := rfl
def g_MAX_BOOK : D := .int 8
/-! has_book -/
def N_has_book : List Str := ["plan", "value", "entry"]
def ps_has_book : List Str := ["plan", "value"]
def ir_has_book : List S := [
  .ife (.or [.u .nt (.u .isTup (.var 1)), .b .gt (.u .len (.var 1)) (.cst g_MAX_BOOK)]) [
    .ret (.cst (.bool false))] [],
  .ret (.and [.u .all (.comp (.one 2) (.var 1) (.cst (.bool true)) (.call 23 [.var 0, .var 2])), .b .eq (.u .lst (.var 1)) (.u .sorted (.var 1))])]
def F_has_book : Nat → List D → R D := fun f => if f = 23 then m_has_entry else fun _ => .no
def m_has_book : List D → R D := run F_has_book Fu 3 2 ir_has_book
@[simp] theorem F_has_book_has_entry : F_has_book 23 = m_has_entry := rfl
/-! check_book -/
def N_check_book : List Str := ["plan", "value"]
def ps_check_book : List Str := ["plan", "value"]
def ir_check_book : List S := [
  .ife (.u .nt (.call 24 [.var 0, .var 1])) [
    .raise 6] []]
def F_check_book : Nat → List D → R D := fun f => if f = 24 then m_has_book else fun _ => .no
def m_check_book : List D → R D := run F_check_book Fu 2 2 ir_check_book
@[simp] theorem F_check_book_has_book : F_check_book 24 = m_has_book := rfl
/-! has_test -/
def N_has_test : List Str := ["test", "one", "other", "field", "condition"]
def ps_has_test : List Str := ["test", "one", "other"]
def ir_has_test : List S := [
  .set (.tup [3, 4]) (.var 0),
  .ret (.call 10 [.var 4, .b .ix (.var 1) (.var 3), .b .ix (.var 2) (.var 3)])]
def F_has_test : Nat → List D → R D := fun f => if f = 10 then m_does_hold else fun _ => .no
def m_has_test : List D → R D := run F_has_test Fu 5 3 ir_has_test
@[simp] theorem F_has_test_does_hold : F_has_test 10 = m_does_hold := rfl
/-! find_rules -/
def N_find_rules : List Str := ["plan", "one", "other", "number", "rule", "test"]
def ps_find_rules : List Str := ["plan", "one", "other"]
def ir_find_rules : List S := [
  .ret (.comp (.tup [3, 4]) (.u .enm (.b .ix (.var 0) (.cst (.int 1)))) (.u .all (.comp (.one 5) (.var 4) (.cst (.bool true)) (.call 26 [.var 5, .var 1, .var 2]))) (.var 3))]
def F_find_rules : Nat → List D → R D := fun f => if f = 26 then m_has_test else fun _ => .no
def m_find_rules : List D → R D := run F_find_rules Fu 6 3 ir_find_rules
@[simp] theorem F_find_rules_has_test : F_find_rules 26 = m_has_test := rfl
/-! find_bars -/
def N_find_bars : List Str := ["plan", "one", "other", "test"]
def ps_find_bars : List Str := ["plan", "one", "other"]
def ir_find_bars : List S := [
  .ret (.comp (.one 3) (.b .ix (.var 0) (.cst (.int 2))) (.call 26 [.var 3, .var 1, .var 2]) (.var 3))]
def F_find_bars : Nat → List D → R D := fun f => if f = 26 then m_has_test else fun _ => .no
def m_find_bars : List D → R D := run F_find_bars Fu 4 3 ir_find_bars
@[simp] theorem F_find_bars_has_test : F_find_bars 26 = m_has_test := rfl
/-! find_match -/
def N_find_match : List Str := ["plan", "one", "other"]
def ps_find_match : List Str := ["plan", "one", "other"]
def ir_find_match : List S := [
  .ret (.and [.b .ne (.call 27 [.var 0, .var 1, .var 2]) (.lst []), .b .eq (.call 28 [.var 0, .var 1, .var 2]) (.lst [])])]
def F_find_match : Nat → List D → R D := fun f => if f = 27 then m_find_rules else if f = 28 then m_find_bars else fun _ => .no
def m_find_match : List D → R D := run F_find_match Fu 3 3 ir_find_match
@[simp] theorem F_find_match_find_rules : F_find_match 27 = m_find_rules := rfl
@[simp] theorem F_find_match_find_bars : F_find_match 28 = m_find_bars := rfl
/-! find_matches -/
def N_find_matches : List Str := ["plan", "book", "found", "one", "other"]
def ps_find_matches : List Str := ["plan", "book"]
def ir_find_matches : List S := [
  .own 2 (.lst []),
  .for_ (.one 3) (.u .rng (.u .len (.var 1))) [
    .ext 2 (.comp (.one 4) (.b .rng (.b .add (.var 3) (.cst (.int 1))) (.u .len (.var 1))) (.call 29 [.var 0, .b .ix (.var 1) (.var 3), .b .ix (.var 1) (.var 4)]) (.tup [.var 3, .var 4]))],
  .fz [2] (.ret (.var 2))]
def F_find_matches : Nat → List D → R D := fun f => if f = 29 then m_find_match else fun _ => .no
def m_find_matches : List D → R D := run F_find_matches Fu 5 2 ir_find_matches
@[simp] theorem F_find_matches_find_match : F_find_matches 29 = m_find_match := rfl
/-! matches -/
def N_matches : List Str := ["plan", "book"]
def ps_matches : List Str := ["plan", "book"]
def ir_matches : List S := [
  .ex (.call 22 [.var 0]),
  .ex (.call 25 [.var 0, .var 1]),
  .ret (.call 30 [.var 0, .var 1])]
def F_matches : Nat → List D → R D := fun f => if f = 22 then m_check_plan else if f = 25 then m_check_book else if f = 30 then m_find_matches else fun _ => .no
def m_matches : List D → R D := run F_matches Fu 2 2 ir_matches
@[simp] theorem F_matches_check_plan : F_matches 22 = m_check_plan := rfl
@[simp] theorem F_matches_check_book : F_matches 25 = m_check_book := rfl
@[simp] theorem F_matches_find_matches : F_matches 30 = m_find_matches := rfl
/-! check_entry -/
def N_check_entry : List Str := ["plan", "value"]
def ps_check_entry : List Str := ["plan", "value"]
def ir_check_entry : List S := [
  .ife (.u .nt (.call 23 [.var 0, .var 1])) [
    .raise 5] []]
def F_check_entry : Nat → List D → R D := fun f => if f = 23 then m_has_entry else fun _ => .no
def m_check_entry : List D → R D := run F_check_entry Fu 2 2 ir_check_entry
@[simp] theorem F_check_entry_has_entry : F_check_entry 23 = m_has_entry := rfl
/-! check_two -/
def N_check_two : List Str := ["plan", "one", "other"]
def ps_check_two : List Str := ["plan", "one", "other"]
def ir_check_two : List S := [
  .ex (.call 22 [.var 0]),
  .ex (.call 32 [.var 0, .var 1]),
  .ex (.call 32 [.var 0, .var 2])]
def F_check_two : Nat → List D → R D := fun f => if f = 22 then m_check_plan else if f = 32 then m_check_entry else fun _ => .no
def m_check_two : List D → R D := run F_check_two Fu 3 3 ir_check_two
@[simp] theorem F_check_two_check_plan : F_check_two 22 = m_check_plan := rfl
@[simp] theorem F_check_two_check_entry : F_check_two 32 = m_check_entry := rfl
/-! bars_between -/
def N_bars_between : List Str := ["plan", "one", "other"]
def ps_bars_between : List Str := ["plan", "one", "other"]
def ir_bars_between : List S := [
  .ex (.call 33 [.var 0, .var 1, .var 2]),
  .ret (.call 28 [.var 0, .var 1, .var 2])]
def F_bars_between : Nat → List D → R D := fun f => if f = 33 then m_check_two else if f = 28 then m_find_bars else fun _ => .no
def m_bars_between : List D → R D := run F_bars_between Fu 3 3 ir_bars_between
@[simp] theorem F_bars_between_check_two : F_bars_between 33 = m_check_two := rfl
@[simp] theorem F_bars_between_find_bars : F_bars_between 28 = m_find_bars := rfl
/-! rules_between -/
def N_rules_between : List Str := ["plan", "one", "other"]
def ps_rules_between : List Str := ["plan", "one", "other"]
def ir_rules_between : List S := [
  .ex (.call 33 [.var 0, .var 1, .var 2]),
  .ret (.call 27 [.var 0, .var 1, .var 2])]
def F_rules_between : Nat → List D → R D := fun f => if f = 33 then m_check_two else if f = 27 then m_find_rules else fun _ => .no
def m_rules_between : List D → R D := run F_rules_between Fu 3 3 ir_rules_between
@[simp] theorem F_rules_between_check_two : F_rules_between 33 = m_check_two := rfl
@[simp] theorem F_rules_between_find_rules : F_rules_between 27 = m_find_rules := rfl
/-! _law_entry -/
def N_law_entry : List Str := ["script", "at", "plan", "words", "found", "field", "kind", "cell", "k", "word"]
def ps_law_entry : List Str := ["script", "at", "plan"]
def ir_law_entry : List S := [
  .par [(3, false, .tup [.cst (.str "a"), .cst (.str "ab"), .cst (.str "b"), .cst (.str "c")]), (4, true, .lst [])],
  .for_ (.tup [5, 6]) (.u .enm (.b .ix (.var 2) (.cst (.int 0)))) [
    .set (.one 7) (.call 3 [.var 0, .b .add (.var 1) (.var 5), .cst (.int 16)]),
    .ife (.b .mem (.var 6) (.tup [.cst (.str "all"), .cst (.str "shared")])) [
      .app 4 (.u .tup (.comp (.tup [8, 9]) (.u .enm (.var 3)) (.call 14 [.var 7, .var 8]) (.var 9)))] [
      .app 4 (.ite (.b .gt (.var 7) (.cst (.int 4))) (.tup [.b .ix (.var 3) (.b .mod (.u .int (.var 7)) (.cst (.int 4)))]) (.tup []))]],
  .ret (.u .tup (.pk 4))]
def F_law_entry : Nat → List D → R D := fun f => if f = 3 then m_law_pick else if f = 14 then m_law_bit else fun _ => .no
def m_law_entry : List D → R D := run F_law_entry Fu 10 3 ir_law_entry
@[simp] theorem F_law_entry_law_pick : F_law_entry 3 = m_law_pick := rfl
@[simp] theorem F_law_entry_law_bit : F_law_entry 14 = m_law_bit := rfl
/-! is_done -/
def N_is_done : List Str := ["plan", "book"]
def ps_is_done : List Str := ["plan", "book"]
def ir_is_done : List S := [
  .ret (.b .eq (.call 31 [.var 0, .var 1]) (.lst []))]
def F_is_done : Nat → List D → R D := fun f => if f = 31 then m_matches else fun _ => .no
def m_is_done : List D → R D := run F_is_done Fu 2 2 ir_is_done
@[simp] theorem F_is_done_matches : F_is_done 31 = m_matches := rfl
/-! do_match -/
def N_do_match : List Str := ["plan", "one", "other"]
def ps_do_match : List Str := ["plan", "one", "other"]
def ir_do_match : List S := [
  .ex (.call 33 [.var 0, .var 1, .var 2]),
  .ret (.call 29 [.var 0, .var 1, .var 2])]
def F_do_match : Nat → List D → R D := fun f => if f = 33 then m_check_two else if f = 29 then m_find_match else fun _ => .no
def m_do_match : List D → R D := run F_do_match Fu 3 3 ir_do_match
@[simp] theorem F_do_match_check_two : F_do_match 33 = m_check_two := rfl
@[simp] theorem F_do_match_find_match : F_do_match 29 = m_find_match := rfl
/-! _law_meets -/
def N_law_meets : List Str := ["plan", "one", "other", "rule", "kinds", "rules", "bars", "field", "condition"]
def ps_law_meets : List Str := ["plan", "one", "other"]
def ir_law_meets : List S := [
  .set (.tup [4, 5, 6]) (.var 0),
  .ife (.u .any (.comp (.tup [7, 8]) (.var 6) (.cst (.bool true)) (.call 12 [.var 8, .b .ix (.var 1) (.var 7), .b .ix (.var 2) (.var 7)]))) [
    .ret (.cst (.bool false))] [],
  .for_ (.one 3) (.var 5) [
    .ife (.u .all (.comp (.tup [7, 8]) (.var 3) (.cst (.bool true)) (.call 12 [.var 8, .b .ix (.var 1) (.var 7), .b .ix (.var 2) (.var 7)]))) [
      .ret (.cst (.bool true))] []],
  .ret (.cst (.bool false))]
def F_law_meets : Nat → List D → R D := fun f => if f = 12 then m_law_holds else fun _ => .no
def m_law_meets : List D → R D := run F_law_meets Fu 9 3 ir_law_meets
@[simp] theorem F_law_meets_law_holds : F_law_meets 12 = m_law_holds := rfl
end Lw

set_option Elab.async false
set_option linter.all false
set_option autoImplicit false
set_option maxRecDepth 100000
set_option maxHeartbeats 0
namespace Lw
open PySem PySem.Spec L2 Fz
/-! check_match -/
def N_check_match : List Str := ["plan", "one", "other"]
def ps_check_match : List Str := ["plan", "one", "other"]
def ir_check_match : List S := [
  .ife (.u .nt (.call 29 [.var 0, .var 1, .var 2])) [
    .raise 10] []]
def F_check_match : Nat → List D → R D := fun f => if f = 29 then m_find_match else fun _ => .no
def m_check_match : List D → R D := run F_check_match Fu 3 3 ir_check_match
@[simp] theorem F_check_match_find_match : F_check_match 29 = m_find_match := rfl
/-! join_entries -/
def N_join_entries : List Str := ["plan", "one", "other", "kind", "left", "right"]
def ps_join_entries : List Str := ["plan", "one", "other"]
def ir_join_entries : List S := [
  .ret (.u .tup (.comp (.tup [3, 4, 5]) (.zip3 (.b .ix (.var 0) (.cst (.int 0))) (.var 1) (.var 2)) (.cst (.bool true)) (.call 5 [.var 3, .var 4, .var 5])))]
def F_join_entries : Nat → List D → R D := fun f => if f = 5 then m_find_merged else fun _ => .no
def m_join_entries : List D → R D := run F_join_entries Fu 6 3 ir_join_entries
@[simp] theorem F_join_entries_find_merged : F_join_entries 5 = m_find_merged := rfl
/-! go_on -/
def N_go_on : List Str := ["plan", "one", "other"]
def ps_go_on : List Str := ["plan", "one", "other"]
def ir_go_on : List S := [
  .ife (.call 29 [.var 0, .var 1, .var 2]) [
    .ret (.tup [.call 58 [.var 0, .var 1, .var 2]])] [],
  .ret (.u .tup (.u .sorted (.lst [.var 1, .var 2])))]
def F_go_on : Nat → List D → R D := fun f => if f = 29 then m_find_match else if f = 58 then m_join_entries else fun _ => .no
def m_go_on : List D → R D := run F_go_on Fu 3 3 ir_go_on
@[simp] theorem F_go_on_find_match : F_go_on 29 = m_find_match := rfl
@[simp] theorem F_go_on_join_entries : F_go_on 58 = m_join_entries := rfl
/-! find_ways -/
def N_find_ways : List Str := ["plan", "one", "middle", "other", "left"]
def ps_find_ways : List Str := ["plan", "one", "middle", "other"]
def ir_find_ways : List S := [
  .set (.one 4) (.call 59 [.var 0, .call 58 [.var 0, .var 1, .var 2], .var 3]),
  .ret (.tup [.var 4, .call 59 [.var 0, .var 1, .call 58 [.var 0, .var 2, .var 3]]])]
def F_find_ways : Nat → List D → R D := fun f => if f = 59 then m_go_on else if f = 58 then m_join_entries else fun _ => .no
def m_find_ways : List D → R D := run F_find_ways Fu 5 4 ir_find_ways
@[simp] theorem F_find_ways_go_on : F_find_ways 59 = m_go_on := rfl
@[simp] theorem F_find_ways_join_entries : F_find_ways 58 = m_join_entries := rfl
/-! two_ways -/
def N_two_ways : List Str := ["plan", "one", "middle", "other", "entry"]
def ps_two_ways : List Str := ["plan", "one", "middle", "other"]
def ir_two_ways : List S := [
  .ex (.call 22 [.var 0]),
  .for_ (.one 4) (.tup [.var 1, .var 2, .var 3]) [
    .ex (.call 32 [.var 0, .var 4])],
  .ex (.call 57 [.var 0, .var 1, .var 2]),
  .ex (.call 57 [.var 0, .var 2, .var 3]),
  .ret (.call 60 [.var 0, .var 1, .var 2, .var 3])]
def F_two_ways : Nat → List D → R D := fun f => if f = 22 then m_check_plan else if f = 57 then m_check_match else if f = 60 then m_find_ways else if f = 32 then m_check_entry else fun _ => .no
def m_two_ways : List D → R D := run F_two_ways Fu 5 4 ir_two_ways
@[simp] theorem F_two_ways_check_plan : F_two_ways 22 = m_check_plan := rfl
@[simp] theorem F_two_ways_check_match : F_two_ways 57 = m_check_match := rfl
@[simp] theorem F_two_ways_find_ways : F_two_ways 60 = m_find_ways := rfl
@[simp] theorem F_two_ways_check_entry : F_two_ways 32 = m_check_entry := rfl
/-! _law_join -/
def N_law_join : List Str := ["plan", "one", "other", "field"]
def ps_law_join : List Str := ["plan", "one", "other"]
def ir_law_join : List S := [
  .ret (.u .tup (.comp (.one 3) (.u .rng (.u .len (.b .ix (.var 0) (.cst (.int 0))))) (.cst (.bool true)) (.call 13 [.b .ix (.b .ix (.var 0) (.cst (.int 0))) (.var 3), .b .ix (.var 1) (.var 3), .b .ix (.var 2) (.var 3)])))]
def F_law_join : Nat → List D → R D := fun f => if f = 13 then m_law_blend else fun _ => .no
def m_law_join : List D → R D := run F_law_join Fu 4 3 ir_law_join
@[simp] theorem F_law_join_law_blend : F_law_join 13 = m_law_blend := rfl
/-! joined -/
def N_joined : List Str := ["plan", "one", "other"]
def ps_joined : List Str := ["plan", "one", "other"]
def ir_joined : List S := [
  .ex (.call 33 [.var 0, .var 1, .var 2]),
  .ret (.call 58 [.var 0, .var 1, .var 2])]
def F_joined : Nat → List D → R D := fun f => if f = 33 then m_check_two else if f = 58 then m_join_entries else fun _ => .no
def m_joined : List D → R D := run F_joined Fu 3 3 ir_joined
@[simp] theorem F_joined_check_two : F_joined 33 = m_check_two := rfl
@[simp] theorem F_joined_join_entries : F_joined 58 = m_join_entries := rfl
/-! _law_refused -/
def N_law_refused : List Str := ["call"]
def td_law_refused : TD := ⟨(some (some false)), 10, (some true)⟩
def m_law_refused : List D → R D := mT td_law_refused
/-! _law_end -/
def N_law_end : List Str := ["plan", "some"]
def ps_law_end : List Str := ["plan", "some"]
def ir_law_end : List S := [
  .ife (.and [.b .eq (.u .len (.var 1)) (.cst (.int 2)), .call 39 [.var 0, .b .ix (.var 1) (.cst (.int 0)), .b .ix (.var 1) (.cst (.int 1))]]) [
    .ret (.tup [.call 62 [.var 0, .b .ix (.var 1) (.cst (.int 0)), .b .ix (.var 1) (.cst (.int 1))]])] [],
  .ret (.u .tup (.u .sorted (.var 1)))]
def F_law_end : Nat → List D → R D := fun f => if f = 39 then m_law_meets else if f = 62 then m_law_join else fun _ => .no
def m_law_end : List D → R D := run F_law_end Fu 2 2 ir_law_end
@[simp] theorem F_law_end_law_meets : F_law_end 39 = m_law_meets := rfl
@[simp] theorem F_law_end_law_join : F_law_end 62 = m_law_join := rfl
/-! merged -/
def N_merged : List Str := ["plan", "one", "other"]
def ps_merged : List Str := ["plan", "one", "other"]
def ir_merged : List S := [
  .ex (.call 33 [.var 0, .var 1, .var 2]),
  .ex (.call 57 [.var 0, .var 1, .var 2]),
  .ret (.call 58 [.var 0, .var 1, .var 2])]
def F_merged : Nat → List D → R D := fun f => if f = 33 then m_check_two else if f = 57 then m_check_match else if f = 58 then m_join_entries else fun _ => .no
def m_merged : List D → R D := run F_merged Fu 3 3 ir_merged
@[simp] theorem F_merged_check_two : F_merged 33 = m_check_two := rfl
@[simp] theorem F_merged_check_match : F_merged 57 = m_check_match := rfl
@[simp] theorem F_merged_join_entries : F_merged 58 = m_join_entries := rfl
/-! check_place -/
def N_check_place : List Str := ["book", "value"]
def ps_check_place : List Str := ["book", "value"]
def ir_check_place : List S := [
  .ife (.u .nt (.call 17 [.var 1, .cst (.int 0), .b .sub (.u .len (.var 0)) (.cst (.int 1))])) [
    .raise 9] []]
def F_check_place : Nat → List D → R D := fun f => if f = 17 then m_is_int else fun _ => .no
def m_check_place : List D → R D := run F_check_place Fu 2 2 ir_check_place
@[simp] theorem F_check_place_is_int : F_check_place 17 = m_is_int := rfl
/-! do_step -/
def N_do_step : List Str := ["plan", "book", "one", "other", "rest", "place", "entry"]
def ps_do_step : List Str := ["plan", "book", "one", "other"]
def ir_do_step : List S := [
  .set (.one 4) (.comp (.tup [5, 6]) (.u .enm (.var 1)) (.b .nmem (.var 5) (.tup [.var 2, .var 3])) (.var 6)),
  .ret (.u .tup (.u .sorted (.b .add (.var 4) (.lst [.call 58 [.var 0, .b .ix (.var 1) (.var 2), .b .ix (.var 1) (.var 3)]]))))]
def F_do_step : Nat → List D → R D := fun f => if f = 58 then m_join_entries else fun _ => .no
def m_do_step : List D → R D := run F_do_step Fu 7 4 ir_do_step
@[simp] theorem F_do_step_join_entries : F_do_step 58 = m_join_entries := rfl
/-! step -/
def N_step : List Str := ["plan", "book", "one", "other"]
def ps_step : List Str := ["plan", "book", "one", "other"]
def ir_step : List S := [
  .ex (.call 22 [.var 0]),
  .ex (.call 25 [.var 0, .var 1]),
  .ex (.call 67 [.var 1, .var 2]),
  .ex (.call 67 [.var 1, .var 3]),
  .ife (.b .eq (.var 2) (.var 3)) [
    .raise 9] [],
  .ex (.call 57 [.var 0, .b .ix (.var 1) (.var 2), .b .ix (.var 1) (.var 3)]),
  .ret (.call 68 [.var 0, .var 1, .var 2, .var 3])]
def F_step : Nat → List D → R D := fun f => if f = 22 then m_check_plan else if f = 25 then m_check_book else if f = 67 then m_check_place else if f = 57 then m_check_match else if f = 68 then m_do_step else fun _ => .no
def m_step : List D → R D := run F_step Fu 4 4 ir_step
@[simp] theorem F_step_check_plan : F_step 22 = m_check_plan := rfl
@[simp] theorem F_step_check_book : F_step 25 = m_check_book := rfl
@[simp] theorem F_step_check_place : F_step 67 = m_check_place := rfl
@[simp] theorem F_step_check_match : F_step 57 = m_check_match := rfl
@[simp] theorem F_step_do_step : F_step 68 = m_do_step := rfl
end Lw

set_option Elab.async false
set_option linter.all false
set_option autoImplicit false
set_option maxRecDepth 100000
set_option maxHeartbeats 0
namespace Lw
open PySem PySem.Spec L2 Fz
def top (i : Nat) : Stmt := PySem.Challenge.pw_sameentries_k06_whole_merging.main.body.getD i (.Pass ⟨0, 0, 0, 0⟩)
def mk (x : Str) (i : Nat) : He.DefD := ⟨(x, none), x, x, defArgs (top i), defBody (top i), defScope (top i), [], []⟩
def glo : List (Str × D) := [("LETTERS", g_LETTERS), ("MAX_WORD", g_MAX_WORD), ("ALL", g_ALL), ("SHARED", g_SHARED), ("LEAST", g_LEAST), ("GREATEST", g_GREATEST), ("KINDS", g_KINDS), ("SINGLE", g_SINGLE), ("SAME", g_SAME), ("NEAR", g_NEAR), ("UNLIKE", g_UNLIKE), ("FAR", g_FAR), ("BOTH", g_BOTH), ("CONDITIONS", g_CONDITIONS), ("MAX_FIELDS", g_MAX_FIELDS), ("MAX_RULES", g_MAX_RULES), ("MAX_TESTS", g_MAX_TESTS), ("MAX_BOOK", g_MAX_BOOK)]
def exs : List (Str × Nat) := [("InvalidPlan", 4), ("InvalidEntry", 5), ("InvalidBook", 6), ("InvalidPlace", 9), ("NoMatch", 10)]
/-! law -/
def N_law : List Str := ["script", "i", "plan", "both", "book", "k", "ann", "bo", "left", "right", "one", "middle", "other", "first", "second", "due", "n", "rest", "place"]
def ps_law : List Str := ["script"]
def ir_law : List S := [
  .for_ (.one 1) (.u .rng (.cst (.int 6))) [
    .set (.one 2) (.call 15 [.var 0, .b .mul (.cst (.int 60)) (.var 1), .b .add (.cst (.int 1)) (.call 3 [.var 0, .b .add (.b .mul (.cst (.int 60)) (.var 1)) (.cst (.int 40)), .cst (.int 3)])]),
    .set (.tup [10, 11, 12]) (.comp (.one 5) (.u .rng (.cst (.int 3))) (.cst (.bool true)) (.call 36 [.var 0, .b .add (.b .add (.b .mul (.cst (.int 60)) (.var 1)) (.cst (.int 41))) (.b .mul (.cst (.int 3)) (.var 5)), .var 2])),
    .set (.one 3) (.call 62 [.var 2, .var 10, .var 11]),
    .ife (.or [.b .ne (.call 63 [.var 2, .var 10, .var 11]) (.var 3), .b .ne (.call 63 [.var 2, .var 11, .var 10]) (.var 3)]) [
      .ret (.cst (.bool false))] [],
    .par [(13, false, .call 39 [.var 2, .var 10, .var 11]), (14, false, .call 39 [.var 2, .var 11, .var 12])],
    .ife (.or [.b .eq (.thunk 64 (.call 66 [.var 2, .var 10, .var 11])) (.var 13), .and [.var 13, .b .ne (.call 66 [.var 2, .var 10, .var 11]) (.var 3)]]) [
      .ret (.cst (.bool false))] [],
    .ife (.and [.var 13, .var 14]) [
      .set (.one 15) (.tup [.call 65 [.var 2, .lst [.var 3, .var 12]], .call 65 [.var 2, .lst [.var 10, .call 62 [.var 2, .var 11, .var 12]]]]),
      .ife (.b .ne (.call 61 [.var 2, .var 10, .var 11, .var 12]) (.var 15)) [
        .ret (.cst (.bool false))] []] [
      .ife (.u .nt (.thunk 64 (.call 61 [.var 2, .var 10, .var 11, .var 12]))) [
        .ret (.cst (.bool false))] []],
    .set (.one 4) (.u .tup (.u .sorted (.lst [.var 10, .var 11, .var 12, .var 10]))),
    .for_ (.one 5) (.u .rng (.cst (.int 4))) [
      .for_ (.one 16) (.u .rng (.cst (.int 4))) [
        .ife (.and [.b .ne (.var 5) (.var 16), .call 39 [.var 2, .b .ix (.var 4) (.var 5), .b .ix (.var 4) (.var 16)]]) [
          .set (.one 17) (.comp (.one 18) (.u .rng (.cst (.int 4))) (.b .nmem (.var 18) (.tup [.var 5, .var 16])) (.b .ix (.var 4) (.var 18))),
          .ife (.b .ne (.call 69 [.var 2, .var 4, .var 5, .var 16]) (.u .tup (.u .sorted (.b .add (.var 17) (.lst [.call 62 [.var 2, .b .ix (.var 4) (.var 5), .b .ix (.var 4) (.var 16)]]))))) [
            .ret (.cst (.bool false))] []] [
          .ife (.and [.b .ne (.var 5) (.var 16), .u .nt (.thunk 64 (.call 69 [.var 2, .var 4, .var 5, .var 16]))]) [
            .ret (.cst (.bool false))] []]]]],
  .set (.one 2) (.tup [.tup [.cst (.str "all"), .cst (.str "agreed")], .tup [.tup [.tup [.cst (.int 0), .cst (.str "same")]]], .tup [.tup [.cst (.int 1), .cst (.str "unlike")]]]),
  .par [(6, false, .tup [.tup [.cst (.str "ann")], .tup [.cst (.str "x")]]), (3, false, .tup [.tup [.cst (.str "ann"), .cst (.str "bo")], .tup []]), (7, false, .tup [.tup [.cst (.str "bo")], .tup [.cst (.str "y")]])],
  .set (.tup [8, 9]) (.call 61 [.var 2, .var 6, .var 3, .var 7]),
  .ret (.and [.b .eq (.var 8) (.tup [.tup [.tup [.cst (.str "ann"), .cst (.str "bo")], .tup [.cst (.str "x")]], .var 7]), .b .eq (.var 9) (.tup [.var 6, .tup [.tup [.cst (.str "ann"), .cst (.str "bo")], .tup [.cst (.str "y")]]])])]
def F_law : Nat → List D → R D := fun f => if f = 61 then m_two_ways else if f = 15 then m_law_plan else if f = 62 then m_law_join else if f = 36 then m_law_entry else if f = 39 then m_law_meets else if f = 3 then m_law_pick else if f = 63 then m_joined else if f = 64 then m_law_refused else if f = 65 then m_law_end else if f = 66 then m_merged else if f = 69 then m_step else fun _ => .no
def m_law : List D → R D := run F_law Fu 19 1 ir_law
@[simp] theorem Fl_two_ways : F_law 61 = m_two_ways := rfl
@[simp] theorem Fl_law_plan : F_law 15 = m_law_plan := rfl
@[simp] theorem Fl_law_join : F_law 62 = m_law_join := rfl
@[simp] theorem Fl_law_entry : F_law 36 = m_law_entry := rfl
@[simp] theorem Fl_law_meets : F_law 39 = m_law_meets := rfl
@[simp] theorem Fl_law_pick : F_law 3 = m_law_pick := rfl
@[simp] theorem Fl_joined : F_law 63 = m_joined := rfl
@[simp] theorem Fl_law_refused : F_law 64 = m_law_refused := rfl
@[simp] theorem Fl_law_end : F_law 65 = m_law_end := rfl
@[simp] theorem Fl_merged : F_law 66 = m_merged := rfl
@[simp] theorem Fl_step : F_law 69 = m_step := rfl
def fn : List He.DefD := [mk "is_rising" 36, mk "is_int" 35, mk "is_test" 37, mk "are_tests" 38, mk "are_kinds" 39, mk "is_plan" 40, mk "check_plan" 41, mk "have_word" 25, mk "have_near" 26, mk "does_hold" 27, mk "has_test" 48, mk "find_rules" 49, mk "find_bars" 50, mk "find_match" 51, mk "check_match" 55, mk "union" 28, mk "find_merged" 29, mk "join_entries" 54, mk "go_on" 60, mk "find_ways" 61, mk "is_word" 23, mk "is_content" 24, mk "has_entry" 42, mk "check_entry" 43, mk "two_ways" 62, mk "_law_pick" 68, mk "_law_plan" 69, mk "_law_blend" 66, mk "_law_join" 67, mk "_law_bit" 70, mk "_law_entry" 71, mk "_law_holds" 64, mk "_law_meets" 65, mk "check_two" 52, mk "joined" 57, mk "_law_refused" 72, mk "_law_end" 73, mk "merged" 56, mk "has_book" 44, mk "check_book" 45, mk "check_place" 46, mk "do_step" 58, mk "step" 59, mk "law" 74]
def fs : List Str := (["is_rising", "is_int", "is_test", "are_tests", "are_kinds", "is_plan", "check_plan", "have_word", "have_near", "does_hold", "has_test", "find_rules", "find_bars", "find_match", "check_match", "union", "find_merged", "join_entries", "go_on", "find_ways"] : List Str) ++ (["is_word", "is_content", "has_entry", "check_entry", "two_ways", "_law_pick", "_law_plan", "_law_blend", "_law_join", "_law_bit", "_law_entry", "_law_holds", "_law_meets", "check_two", "joined", "_law_refused", "_law_end", "merged", "has_book", "check_book"] : List Str) ++ (["check_place", "do_step", "step", "law"] : List Str)
def fns0 : List (Str × Nat) := []
def fns1 : List (Str × Nat) := []
def fns2 : List (Str × Nat) := [("is_int", 17)]
def fns3 : List (Str × Nat) := [("is_rising", 16), ("is_test", 18)]
def fns4 : List (Str × Nat) := []
def fns5 : List (Str × Nat) := [("are_tests", 19), ("are_kinds", 20), ("is_rising", 16)]
def fns6 : List (Str × Nat) := [("is_plan", 21)]
def fns7 : List (Str × Nat) := []
def fns8 : List (Str × Nat) := []
def fns9 : List (Str × Nat) := [("have_word", 8), ("have_near", 9)]
def fns10 : List (Str × Nat) := [("does_hold", 10)]
def fns11 : List (Str × Nat) := [("has_test", 26)]
def fns12 : List (Str × Nat) := [("has_test", 26)]
def fns13 : List (Str × Nat) := [("find_rules", 27), ("find_bars", 28)]
def fns14 : List (Str × Nat) := [("find_match", 29)]
def fns15 : List (Str × Nat) := []
def fns16 : List (Str × Nat) := [("union", 4)]
def fns17 : List (Str × Nat) := [("find_merged", 5)]
def fns18 : List (Str × Nat) := [("find_match", 29), ("join_entries", 58)]
def fns19 : List (Str × Nat) := [("go_on", 59), ("join_entries", 58)]
def fns20 : List (Str × Nat) := []
def fns21 : List (Str × Nat) := [("is_word", 0)]
def fns22 : List (Str × Nat) := [("is_content", 1)]
def fns23 : List (Str × Nat) := [("has_entry", 23)]
def fns24 : List (Str × Nat) := [("check_plan", 22), ("check_match", 57), ("find_ways", 60), ("check_entry", 32)]
def fns25 : List (Str × Nat) := []
def fns26 : List (Str × Nat) := [("_law_pick", 3)]
def fns27 : List (Str × Nat) := []
def fns28 : List (Str × Nat) := [("_law_blend", 13)]
def fns29 : List (Str × Nat) := []
def fns30 : List (Str × Nat) := [("_law_pick", 3), ("_law_bit", 14)]
def fns31 : List (Str × Nat) := []
def fns32 : List (Str × Nat) := [("_law_holds", 12)]
def fns33 : List (Str × Nat) := [("check_plan", 22), ("check_entry", 32)]
def fns34 : List (Str × Nat) := [("check_two", 33), ("join_entries", 58)]
def fns35 : List (Str × Nat) := []
def fns36 : List (Str × Nat) := [("_law_meets", 39), ("_law_join", 62)]
def fns37 : List (Str × Nat) := [("check_two", 33), ("check_match", 57), ("join_entries", 58)]
def fns38 : List (Str × Nat) := [("has_entry", 23)]
def fns39 : List (Str × Nat) := [("has_book", 24)]
def fns40 : List (Str × Nat) := [("is_int", 17)]
def fns41 : List (Str × Nat) := [("join_entries", 58)]
def fns42 : List (Str × Nat) := [("check_plan", 22), ("check_book", 25), ("check_place", 67), ("check_match", 57), ("do_step", 68)]
def fns43 : List (Str × Nat) := [("two_ways", 61), ("_law_plan", 15), ("_law_join", 62), ("_law_entry", 36), ("_law_meets", 39), ("_law_pick", 3), ("joined", 63), ("_law_end", 65), ("merged", 66), ("step", 69)]
def loose : List Str := (["__name__", "EntryError", "InvalidPlan", "InvalidEntry", "InvalidBook", "InvalidPlace", "NoMatch", "LETTERS", "MAX_WORD", "ALL", "SHARED", "LEAST", "GREATEST", "AGREED", "KINDS", "SINGLE", "SAME", "NEAR", "UNLIKE", "FAR"] : List Str) ++ (["BOTH", "CONDITIONS", "is_word", "is_content", "have_word", "have_near", "does_hold", "union", "find_merged", "MAX_FIELDS", "MAX_RULES", "MAX_TESTS", "MAX_BOOK", "is_int", "is_rising", "is_test", "are_tests", "are_kinds", "is_plan", "check_plan"] : List Str) ++ (["has_entry", "check_entry", "has_book", "check_book", "check_place", "has_test", "find_rules", "find_bars", "find_match", "check_two", "join_entries", "check_match", "merged", "joined", "do_step", "step", "go_on", "find_ways", "two_ways", "_law_holds"] : List Str) ++ (["_law_meets", "_law_blend", "_law_join", "_law_pick", "_law_plan", "_law_bit", "_law_entry", "_law_refused", "_law_end"] : List Str)
def thk : List (Str × Nat) := [("_law_refused", 64)]
def ths : List Str := ["NoMatch"]
abbrev Rw : PySem.W.OpenRow := PySem.W.OpenLaw.row PySem.Challenge.rw_sameentries_k06_whole_merging
abbrev see : Fr' → Bool := (fun K => seeB glo exs fs K && thB ths K)
abbrev hk : PySem.W.Hook := He.hookX 4 [] fn [] [("law", none)] see
def ob (s : PySem.W.SharedT) : He.AlX := He.obsX 4 [] fn [] [("law", none)] see (HandSHeadRun.getT s)
theorem ob_eq (s : PySem.W.SharedT) : ob s = hk.obs s.abs := He.obsX_eq (HandSHeadRun.getT_eq s)
theorem head_run (w : World) : HandSHeadRun.RunEq Rw (PySem.W.view Rw.prog [74]) hk ob 6000 loose w := by
  intro os
  kernel_rfl
theorem exs_ok : ∀ p ∈ exs, exs.find? (fun q => q.2 == p.2) = some p ∧ (p.1 == ("__debug__" : Str)) = false := by decide +kernel
theorem sc0 : scB N_is_rising ps_is_rising (defScope (top 36)) = true := by decide +kernel
theorem ck0 : css ⟨N_is_rising, defScope (top 36), stOf (defScope (top 36)), fns0, glo, exs, []⟩ ir_is_rising (defBody (top 36)) = true := by decide +kernel
theorem sc1 : scB N_is_int ps_is_int (defScope (top 35)) = true := by decide +kernel
theorem ck1 : css ⟨N_is_int, defScope (top 35), stOf (defScope (top 35)), fns1, glo, exs, []⟩ ir_is_int (defBody (top 35)) = true := by decide +kernel
theorem sc2 : scB N_is_test ps_is_test (defScope (top 37)) = true := by decide +kernel
theorem ck2 : css ⟨N_is_test, defScope (top 37), stOf (defScope (top 37)), fns2, glo, exs, []⟩ ir_is_test (defBody (top 37)) = true := by decide +kernel
theorem sc3 : scB N_are_tests ps_are_tests (defScope (top 38)) = true := by decide +kernel
theorem ck3 : css ⟨N_are_tests, defScope (top 38), stOf (defScope (top 38)), fns3, glo, exs, []⟩ ir_are_tests (defBody (top 38)) = true := by decide +kernel
theorem sc4 : scB N_are_kinds ps_are_kinds (defScope (top 39)) = true := by decide +kernel
theorem ck4 : css ⟨N_are_kinds, defScope (top 39), stOf (defScope (top 39)), fns4, glo, exs, []⟩ ir_are_kinds (defBody (top 39)) = true := by decide +kernel
theorem sc5 : scB N_is_plan ps_is_plan (defScope (top 40)) = true := by decide +kernel
theorem ck5 : css ⟨N_is_plan, defScope (top 40), stOf (defScope (top 40)), fns5, glo, exs, []⟩ ir_is_plan (defBody (top 40)) = true := by decide +kernel
theorem sc6 : scB N_check_plan ps_check_plan (defScope (top 41)) = true := by decide +kernel
theorem ck6 : css ⟨N_check_plan, defScope (top 41), stOf (defScope (top 41)), fns6, glo, exs, []⟩ ir_check_plan (defBody (top 41)) = true := by decide +kernel
theorem sc7 : scB N_have_word ps_have_word (defScope (top 25)) = true := by decide +kernel
theorem ck7 : css ⟨N_have_word, defScope (top 25), stOf (defScope (top 25)), fns7, glo, exs, []⟩ ir_have_word (defBody (top 25)) = true := by decide +kernel
theorem sc8 : scB N_have_near ps_have_near (defScope (top 26)) = true := by decide +kernel
theorem ck8 : css ⟨N_have_near, defScope (top 26), stOf (defScope (top 26)), fns8, glo, exs, []⟩ ir_have_near (defBody (top 26)) = true := by decide +kernel
theorem sc9 : scB N_does_hold ps_does_hold (defScope (top 27)) = true := by decide +kernel
theorem ck9 : css ⟨N_does_hold, defScope (top 27), stOf (defScope (top 27)), fns9, glo, exs, []⟩ ir_does_hold (defBody (top 27)) = true := by decide +kernel
theorem sc10 : scB N_has_test ps_has_test (defScope (top 48)) = true := by decide +kernel
theorem ck10 : css ⟨N_has_test, defScope (top 48), stOf (defScope (top 48)), fns10, glo, exs, []⟩ ir_has_test (defBody (top 48)) = true := by decide +kernel
theorem sc11 : scB N_find_rules ps_find_rules (defScope (top 49)) = true := by decide +kernel
theorem ck11 : css ⟨N_find_rules, defScope (top 49), stOf (defScope (top 49)), fns11, glo, exs, []⟩ ir_find_rules (defBody (top 49)) = true := by decide +kernel
theorem sc12 : scB N_find_bars ps_find_bars (defScope (top 50)) = true := by decide +kernel
theorem ck12 : css ⟨N_find_bars, defScope (top 50), stOf (defScope (top 50)), fns12, glo, exs, []⟩ ir_find_bars (defBody (top 50)) = true := by decide +kernel
theorem sc13 : scB N_find_match ps_find_match (defScope (top 51)) = true := by decide +kernel
theorem ck13 : css ⟨N_find_match, defScope (top 51), stOf (defScope (top 51)), fns13, glo, exs, []⟩ ir_find_match (defBody (top 51)) = true := by decide +kernel
theorem sc14 : scB N_check_match ps_check_match (defScope (top 55)) = true := by decide +kernel
theorem ck14 : css ⟨N_check_match, defScope (top 55), stOf (defScope (top 55)), fns14, glo, exs, []⟩ ir_check_match (defBody (top 55)) = true := by decide +kernel
theorem sc15 : scB N_union ps_union (defScope (top 28)) = true := by decide +kernel
theorem ck15 : css ⟨N_union, defScope (top 28), stOf (defScope (top 28)), fns15, glo, exs, []⟩ ir_union (defBody (top 28)) = true := by decide +kernel
theorem sc16 : scB N_find_merged ps_find_merged (defScope (top 29)) = true := by decide +kernel
theorem ck16 : css ⟨N_find_merged, defScope (top 29), stOf (defScope (top 29)), fns16, glo, exs, []⟩ ir_find_merged (defBody (top 29)) = true := by decide +kernel
theorem sc17 : scB N_join_entries ps_join_entries (defScope (top 54)) = true := by decide +kernel
theorem ck17 : css ⟨N_join_entries, defScope (top 54), stOf (defScope (top 54)), fns17, glo, exs, []⟩ ir_join_entries (defBody (top 54)) = true := by decide +kernel
theorem sc18 : scB N_go_on ps_go_on (defScope (top 60)) = true := by decide +kernel
theorem ck18 : css ⟨N_go_on, defScope (top 60), stOf (defScope (top 60)), fns18, glo, exs, []⟩ ir_go_on (defBody (top 60)) = true := by decide +kernel
theorem sc19 : scB N_find_ways ps_find_ways (defScope (top 61)) = true := by decide +kernel
theorem ck19 : css ⟨N_find_ways, defScope (top 61), stOf (defScope (top 61)), fns19, glo, exs, []⟩ ir_find_ways (defBody (top 61)) = true := by decide +kernel
theorem sc20 : scB N_is_word ps_is_word (defScope (top 23)) = true := by decide +kernel
theorem ck20 : css ⟨N_is_word, defScope (top 23), stOf (defScope (top 23)), fns20, glo, exs, []⟩ ir_is_word (defBody (top 23)) = true := by decide +kernel
theorem sc21 : scB N_is_content ps_is_content (defScope (top 24)) = true := by decide +kernel
theorem ck21 : css ⟨N_is_content, defScope (top 24), stOf (defScope (top 24)), fns21, glo, exs, []⟩ ir_is_content (defBody (top 24)) = true := by decide +kernel
theorem sc22 : scB N_has_entry ps_has_entry (defScope (top 42)) = true := by decide +kernel
theorem ck22 : css ⟨N_has_entry, defScope (top 42), stOf (defScope (top 42)), fns22, glo, exs, []⟩ ir_has_entry (defBody (top 42)) = true := by decide +kernel
theorem sc23 : scB N_check_entry ps_check_entry (defScope (top 43)) = true := by decide +kernel
theorem ck23 : css ⟨N_check_entry, defScope (top 43), stOf (defScope (top 43)), fns23, glo, exs, []⟩ ir_check_entry (defBody (top 43)) = true := by decide +kernel
theorem sc24 : scB N_two_ways ps_two_ways (defScope (top 62)) = true := by decide +kernel
theorem ck24 : css ⟨N_two_ways, defScope (top 62), stOf (defScope (top 62)), fns24, glo, exs, []⟩ ir_two_ways (defBody (top 62)) = true := by decide +kernel
theorem sc25 : scB N_law_pick ps_law_pick (defScope (top 68)) = true := by decide +kernel
theorem ck25 : css ⟨N_law_pick, defScope (top 68), stOf (defScope (top 68)), fns25, glo, exs, []⟩ ir_law_pick (defBody (top 68)) = true := by decide +kernel
theorem sc26 : scB N_law_plan ps_law_plan (defScope (top 69)) = true := by decide +kernel
theorem ck26 : css ⟨N_law_plan, defScope (top 69), stOf (defScope (top 69)), fns26, glo, exs, []⟩ ir_law_plan (defBody (top 69)) = true := by decide +kernel
theorem sc27 : scB N_law_blend ps_law_blend (defScope (top 66)) = true := by decide +kernel
theorem ck27 : css ⟨N_law_blend, defScope (top 66), stOf (defScope (top 66)), fns27, glo, exs, []⟩ ir_law_blend (defBody (top 66)) = true := by decide +kernel
theorem sc28 : scB N_law_join ps_law_join (defScope (top 67)) = true := by decide +kernel
theorem ck28 : css ⟨N_law_join, defScope (top 67), stOf (defScope (top 67)), fns28, glo, exs, []⟩ ir_law_join (defBody (top 67)) = true := by decide +kernel
theorem sc29 : scB N_law_bit ps_law_bit (defScope (top 70)) = true := by decide +kernel
theorem ck29 : css ⟨N_law_bit, defScope (top 70), stOf (defScope (top 70)), fns29, glo, exs, []⟩ ir_law_bit (defBody (top 70)) = true := by decide +kernel
theorem sc30 : scB N_law_entry ps_law_entry (defScope (top 71)) = true := by decide +kernel
theorem ck30 : css ⟨N_law_entry, defScope (top 71), stOf (defScope (top 71)), fns30, glo, exs, []⟩ ir_law_entry (defBody (top 71)) = true := by decide +kernel
theorem sc31 : scB N_law_holds ps_law_holds (defScope (top 64)) = true := by decide +kernel
theorem ck31 : css ⟨N_law_holds, defScope (top 64), stOf (defScope (top 64)), fns31, glo, exs, []⟩ ir_law_holds (defBody (top 64)) = true := by decide +kernel
theorem sc32 : scB N_law_meets ps_law_meets (defScope (top 65)) = true := by decide +kernel
theorem ck32 : css ⟨N_law_meets, defScope (top 65), stOf (defScope (top 65)), fns32, glo, exs, []⟩ ir_law_meets (defBody (top 65)) = true := by decide +kernel
theorem sc33 : scB N_check_two ps_check_two (defScope (top 52)) = true := by decide +kernel
theorem ck33 : css ⟨N_check_two, defScope (top 52), stOf (defScope (top 52)), fns33, glo, exs, []⟩ ir_check_two (defBody (top 52)) = true := by decide +kernel
theorem sc34 : scB N_joined ps_joined (defScope (top 57)) = true := by decide +kernel
theorem ck34 : css ⟨N_joined, defScope (top 57), stOf (defScope (top 57)), fns34, glo, exs, []⟩ ir_joined (defBody (top 57)) = true := by decide +kernel
theorem sc35 : scB N_law_refused ["call"] (defScope (top 72)) = true := by decide +kernel
theorem sh35 : thkS "call" "NoMatch" (defBody (top 72)) = some (td_law_refused.ret, td_law_refused.val) := by rfl
theorem sg35 : (defScope (top 72)).names.lookup ("NoMatch" : Str) = some .globalImplicit := by decide +kernel
theorem sc36 : scB N_law_end ps_law_end (defScope (top 73)) = true := by decide +kernel
theorem ck36 : css ⟨N_law_end, defScope (top 73), stOf (defScope (top 73)), fns36, glo, exs, []⟩ ir_law_end (defBody (top 73)) = true := by decide +kernel
theorem sc37 : scB N_merged ps_merged (defScope (top 56)) = true := by decide +kernel
theorem ck37 : css ⟨N_merged, defScope (top 56), stOf (defScope (top 56)), fns37, glo, exs, []⟩ ir_merged (defBody (top 56)) = true := by decide +kernel
theorem sc38 : scB N_has_book ps_has_book (defScope (top 44)) = true := by decide +kernel
theorem ck38 : css ⟨N_has_book, defScope (top 44), stOf (defScope (top 44)), fns38, glo, exs, []⟩ ir_has_book (defBody (top 44)) = true := by decide +kernel
theorem sc39 : scB N_check_book ps_check_book (defScope (top 45)) = true := by decide +kernel
theorem ck39 : css ⟨N_check_book, defScope (top 45), stOf (defScope (top 45)), fns39, glo, exs, []⟩ ir_check_book (defBody (top 45)) = true := by decide +kernel
theorem sc40 : scB N_check_place ps_check_place (defScope (top 46)) = true := by decide +kernel
theorem ck40 : css ⟨N_check_place, defScope (top 46), stOf (defScope (top 46)), fns40, glo, exs, []⟩ ir_check_place (defBody (top 46)) = true := by decide +kernel
theorem sc41 : scB N_do_step ps_do_step (defScope (top 58)) = true := by decide +kernel
theorem ck41 : css ⟨N_do_step, defScope (top 58), stOf (defScope (top 58)), fns41, glo, exs, []⟩ ir_do_step (defBody (top 58)) = true := by decide +kernel
theorem sc42 : scB N_step ps_step (defScope (top 59)) = true := by decide +kernel
theorem ck42 : css ⟨N_step, defScope (top 59), stOf (defScope (top 59)), fns42, glo, exs, []⟩ ir_step (defBody (top 59)) = true := by decide +kernel
theorem sc43 : scB N_law ps_law (defScope (top 74)) = true := by decide +kernel
theorem ck43 : css ⟨N_law, defScope (top 74), stOf (defScope (top 74)), fns43, glo, exs, thk⟩ ir_law (defBody (top 74)) = true := by decide +kernel
section
variable [TabT] {P : Program} {w : World} {K : Fr'} {mg : Str → Option Value} {base : Heap} {C : Nat → Addr}
theorem fn0 (G : Glb K mg C glo exs)  {f : Addr} {fd : FuncData} (F : FunD K "is_rising" "is_rising" (defArgs (top 36)) (defBody (top 36)) (defScope (top 36)) [] [] f fd) (hm : mg "is_rising" = some (.ref f)) : FnG P w K mg base C 1 "is_rising" m_is_rising := by
  refine step (fns := fns0) (Φ := F_is_rising) (N := N_is_rising) (ps := ps_is_rising) G (fun x g hl => ?_) F sc0 ck0 hm (FunD.bindsN F fun _ _ _ _ _ _ us hl => match us, hl with | [_], _ => rfl) (by decide)
  cases hl
theorem fn1 (G : Glb K mg C glo exs)  {f : Addr} {fd : FuncData} (F : FunD K "is_int" "is_int" (defArgs (top 35)) (defBody (top 35)) (defScope (top 35)) [] [] f fd) (hm : mg "is_int" = some (.ref f)) : FnG P w K mg base C 2 "is_int" m_is_int := by
  refine step (fns := fns1) (Φ := F_is_int) (N := N_is_int) (ps := ps_is_int) G (fun x g hl => ?_) F sc1 ck1 hm (FunD.bindsN F fun _ _ _ _ _ _ us hl => match us, hl with | [_, _, _], _ => rfl) (by decide)
  cases hl
theorem fn2 (G : Glb K mg C glo exs) (h1 : FnG P w K mg base C 2 "is_int" m_is_int) {f : Addr} {fd : FuncData} (F : FunD K "is_test" "is_test" (defArgs (top 37)) (defBody (top 37)) (defScope (top 37)) [] [] f fd) (hm : mg "is_test" = some (.ref f)) : FnG P w K mg base C 3 "is_test" m_is_test := by
  refine step (fns := fns2) (Φ := F_is_test) (N := N_is_test) (ps := ps_is_test) G (fun x g hl => ?_) F sc2 ck2 hm (FunD.bindsN F fun _ _ _ _ _ _ us hl => match us, hl with | [_, _], _ => rfl) (by decide)
  have hmem := mem_of_lookup' hl
  simp only [fns2, List.mem_cons, Prod.mk.injEq, List.not_mem_nil, or_false] at hmem
  rcases hmem with ⟨rfl, rfl⟩
  · exact h1
theorem fn3 (G : Glb K mg C glo exs) (h0 : FnG P w K mg base C 3 "is_rising" m_is_rising) (h2 : FnG P w K mg base C 3 "is_test" m_is_test) {f : Addr} {fd : FuncData} (F : FunD K "are_tests" "are_tests" (defArgs (top 38)) (defBody (top 38)) (defScope (top 38)) [] [] f fd) (hm : mg "are_tests" = some (.ref f)) : FnG P w K mg base C 4 "are_tests" m_are_tests := by
  refine step (fns := fns3) (Φ := F_are_tests) (N := N_are_tests) (ps := ps_are_tests) G (fun x g hl => ?_) F sc3 ck3 hm (FunD.bindsN F fun _ _ _ _ _ _ us hl => match us, hl with | [_, _, _], _ => rfl) (by decide)
  have hmem := mem_of_lookup' hl
  simp only [fns3, List.mem_cons, Prod.mk.injEq, List.not_mem_nil, or_false] at hmem
  rcases hmem with ⟨rfl, rfl⟩ | ⟨rfl, rfl⟩
  · exact h0
  · exact h2
theorem fn4 (G : Glb K mg C glo exs)  {f : Addr} {fd : FuncData} (F : FunD K "are_kinds" "are_kinds" (defArgs (top 39)) (defBody (top 39)) (defScope (top 39)) [] [] f fd) (hm : mg "are_kinds" = some (.ref f)) : FnG P w K mg base C 5 "are_kinds" m_are_kinds := by
  refine step (fns := fns4) (Φ := F_are_kinds) (N := N_are_kinds) (ps := ps_are_kinds) G (fun x g hl => ?_) F sc4 ck4 hm (FunD.bindsN F fun _ _ _ _ _ _ us hl => match us, hl with | [_], _ => rfl) (by decide)
  cases hl
theorem fn5 (G : Glb K mg C glo exs) (h3 : FnG P w K mg base C 5 "are_tests" m_are_tests) (h4 : FnG P w K mg base C 5 "are_kinds" m_are_kinds) (h0 : FnG P w K mg base C 5 "is_rising" m_is_rising) {f : Addr} {fd : FuncData} (F : FunD K "is_plan" "is_plan" (defArgs (top 40)) (defBody (top 40)) (defScope (top 40)) [] [] f fd) (hm : mg "is_plan" = some (.ref f)) : FnG P w K mg base C 6 "is_plan" m_is_plan := by
  refine step (fns := fns5) (Φ := F_is_plan) (N := N_is_plan) (ps := ps_is_plan) G (fun x g hl => ?_) F sc5 ck5 hm (FunD.bindsN F fun _ _ _ _ _ _ us hl => match us, hl with | [_], _ => rfl) (by decide)
  have hmem := mem_of_lookup' hl
  simp only [fns5, List.mem_cons, Prod.mk.injEq, List.not_mem_nil, or_false] at hmem
  rcases hmem with ⟨rfl, rfl⟩ | ⟨rfl, rfl⟩ | ⟨rfl, rfl⟩
  · exact h3
  · exact h4
  · exact h0
theorem fn6 (G : Glb K mg C glo exs) (h5 : FnG P w K mg base C 6 "is_plan" m_is_plan) {f : Addr} {fd : FuncData} (F : FunD K "check_plan" "check_plan" (defArgs (top 41)) (defBody (top 41)) (defScope (top 41)) [] [] f fd) (hm : mg "check_plan" = some (.ref f)) : FnG P w K mg base C 7 "check_plan" m_check_plan := by
  refine step (fns := fns6) (Φ := F_check_plan) (N := N_check_plan) (ps := ps_check_plan) G (fun x g hl => ?_) F sc6 ck6 hm (FunD.bindsN F fun _ _ _ _ _ _ us hl => match us, hl with | [_], _ => rfl) (by decide)
  have hmem := mem_of_lookup' hl
  simp only [fns6, List.mem_cons, Prod.mk.injEq, List.not_mem_nil, or_false] at hmem
  rcases hmem with ⟨rfl, rfl⟩
  · exact h5
theorem fn7 (G : Glb K mg C glo exs)  {f : Addr} {fd : FuncData} (F : FunD K "have_word" "have_word" (defArgs (top 25)) (defBody (top 25)) (defScope (top 25)) [] [] f fd) (hm : mg "have_word" = some (.ref f)) : FnG P w K mg base C 8 "have_word" m_have_word := by
  refine step (fns := fns7) (Φ := F_have_word) (N := N_have_word) (ps := ps_have_word) G (fun x g hl => ?_) F sc7 ck7 hm (FunD.bindsN F fun _ _ _ _ _ _ us hl => match us, hl with | [_, _], _ => rfl) (by decide)
  cases hl
theorem fn8 (G : Glb K mg C glo exs)  {f : Addr} {fd : FuncData} (F : FunD K "have_near" "have_near" (defArgs (top 26)) (defBody (top 26)) (defScope (top 26)) [] [] f fd) (hm : mg "have_near" = some (.ref f)) : FnG P w K mg base C 9 "have_near" m_have_near := by
  refine step (fns := fns8) (Φ := F_have_near) (N := N_have_near) (ps := ps_have_near) G (fun x g hl => ?_) F sc8 ck8 hm (FunD.bindsN F fun _ _ _ _ _ _ us hl => match us, hl with | [_, _], _ => rfl) (by decide)
  cases hl
theorem fn9 (G : Glb K mg C glo exs) (h7 : FnG P w K mg base C 9 "have_word" m_have_word) (h8 : FnG P w K mg base C 9 "have_near" m_have_near) {f : Addr} {fd : FuncData} (F : FunD K "does_hold" "does_hold" (defArgs (top 27)) (defBody (top 27)) (defScope (top 27)) [] [] f fd) (hm : mg "does_hold" = some (.ref f)) : FnG P w K mg base C 10 "does_hold" m_does_hold := by
  refine step (fns := fns9) (Φ := F_does_hold) (N := N_does_hold) (ps := ps_does_hold) G (fun x g hl => ?_) F sc9 ck9 hm (FunD.bindsN F fun _ _ _ _ _ _ us hl => match us, hl with | [_, _, _], _ => rfl) (by decide)
  have hmem := mem_of_lookup' hl
  simp only [fns9, List.mem_cons, Prod.mk.injEq, List.not_mem_nil, or_false] at hmem
  rcases hmem with ⟨rfl, rfl⟩ | ⟨rfl, rfl⟩
  · exact h7
  · exact h8
theorem fn10 (G : Glb K mg C glo exs) (h9 : FnG P w K mg base C 10 "does_hold" m_does_hold) {f : Addr} {fd : FuncData} (F : FunD K "has_test" "has_test" (defArgs (top 48)) (defBody (top 48)) (defScope (top 48)) [] [] f fd) (hm : mg "has_test" = some (.ref f)) : FnG P w K mg base C 11 "has_test" m_has_test := by
  refine step (fns := fns10) (Φ := F_has_test) (N := N_has_test) (ps := ps_has_test) G (fun x g hl => ?_) F sc10 ck10 hm (FunD.bindsN F fun _ _ _ _ _ _ us hl => match us, hl with | [_, _, _], _ => rfl) (by decide)
  have hmem := mem_of_lookup' hl
  simp only [fns10, List.mem_cons, Prod.mk.injEq, List.not_mem_nil, or_false] at hmem
  rcases hmem with ⟨rfl, rfl⟩
  · exact h9
theorem fn11 (G : Glb K mg C glo exs) (h10 : FnG P w K mg base C 11 "has_test" m_has_test) {f : Addr} {fd : FuncData} (F : FunD K "find_rules" "find_rules" (defArgs (top 49)) (defBody (top 49)) (defScope (top 49)) [] [] f fd) (hm : mg "find_rules" = some (.ref f)) : FnG P w K mg base C 12 "find_rules" m_find_rules := by
  refine step (fns := fns11) (Φ := F_find_rules) (N := N_find_rules) (ps := ps_find_rules) G (fun x g hl => ?_) F sc11 ck11 hm (FunD.bindsN F fun _ _ _ _ _ _ us hl => match us, hl with | [_, _, _], _ => rfl) (by decide)
  have hmem := mem_of_lookup' hl
  simp only [fns11, List.mem_cons, Prod.mk.injEq, List.not_mem_nil, or_false] at hmem
  rcases hmem with ⟨rfl, rfl⟩
  · exact h10
theorem fn12 (G : Glb K mg C glo exs) (h10 : FnG P w K mg base C 12 "has_test" m_has_test) {f : Addr} {fd : FuncData} (F : FunD K "find_bars" "find_bars" (defArgs (top 50)) (defBody (top 50)) (defScope (top 50)) [] [] f fd) (hm : mg "find_bars" = some (.ref f)) : FnG P w K mg base C 13 "find_bars" m_find_bars := by
  refine step (fns := fns12) (Φ := F_find_bars) (N := N_find_bars) (ps := ps_find_bars) G (fun x g hl => ?_) F sc12 ck12 hm (FunD.bindsN F fun _ _ _ _ _ _ us hl => match us, hl with | [_, _, _], _ => rfl) (by decide)
  have hmem := mem_of_lookup' hl
  simp only [fns12, List.mem_cons, Prod.mk.injEq, List.not_mem_nil, or_false] at hmem
  rcases hmem with ⟨rfl, rfl⟩
  · exact h10
theorem fn13 (G : Glb K mg C glo exs) (h11 : FnG P w K mg base C 13 "find_rules" m_find_rules) (h12 : FnG P w K mg base C 13 "find_bars" m_find_bars) {f : Addr} {fd : FuncData} (F : FunD K "find_match" "find_match" (defArgs (top 51)) (defBody (top 51)) (defScope (top 51)) [] [] f fd) (hm : mg "find_match" = some (.ref f)) : FnG P w K mg base C 14 "find_match" m_find_match := by
  refine step (fns := fns13) (Φ := F_find_match) (N := N_find_match) (ps := ps_find_match) G (fun x g hl => ?_) F sc13 ck13 hm (FunD.bindsN F fun _ _ _ _ _ _ us hl => match us, hl with | [_, _, _], _ => rfl) (by decide)
  have hmem := mem_of_lookup' hl
  simp only [fns13, List.mem_cons, Prod.mk.injEq, List.not_mem_nil, or_false] at hmem
  rcases hmem with ⟨rfl, rfl⟩ | ⟨rfl, rfl⟩
  · exact h11
  · exact h12
theorem fn14 (G : Glb K mg C glo exs) (h13 : FnG P w K mg base C 14 "find_match" m_find_match) {f : Addr} {fd : FuncData} (F : FunD K "check_match" "check_match" (defArgs (top 55)) (defBody (top 55)) (defScope (top 55)) [] [] f fd) (hm : mg "check_match" = some (.ref f)) : FnG P w K mg base C 15 "check_match" m_check_match := by
  refine step (fns := fns14) (Φ := F_check_match) (N := N_check_match) (ps := ps_check_match) G (fun x g hl => ?_) F sc14 ck14 hm (FunD.bindsN F fun _ _ _ _ _ _ us hl => match us, hl with | [_, _, _], _ => rfl) (by decide)
  have hmem := mem_of_lookup' hl
  simp only [fns14, List.mem_cons, Prod.mk.injEq, List.not_mem_nil, or_false] at hmem
  rcases hmem with ⟨rfl, rfl⟩
  · exact h13
theorem fn15 (G : Glb K mg C glo exs)  {f : Addr} {fd : FuncData} (F : FunD K "union" "union" (defArgs (top 28)) (defBody (top 28)) (defScope (top 28)) [] [] f fd) (hm : mg "union" = some (.ref f)) : FnG P w K mg base C 16 "union" m_union := by
  refine step (fns := fns15) (Φ := F_union) (N := N_union) (ps := ps_union) G (fun x g hl => ?_) F sc15 ck15 hm (FunD.bindsN F fun _ _ _ _ _ _ us hl => match us, hl with | [_, _], _ => rfl) (by decide)
  cases hl
theorem fn16 (G : Glb K mg C glo exs) (h15 : FnG P w K mg base C 16 "union" m_union) {f : Addr} {fd : FuncData} (F : FunD K "find_merged" "find_merged" (defArgs (top 29)) (defBody (top 29)) (defScope (top 29)) [] [] f fd) (hm : mg "find_merged" = some (.ref f)) : FnG P w K mg base C 17 "find_merged" m_find_merged := by
  refine step (fns := fns16) (Φ := F_find_merged) (N := N_find_merged) (ps := ps_find_merged) G (fun x g hl => ?_) F sc16 ck16 hm (FunD.bindsN F fun _ _ _ _ _ _ us hl => match us, hl with | [_, _, _], _ => rfl) (by decide)
  have hmem := mem_of_lookup' hl
  simp only [fns16, List.mem_cons, Prod.mk.injEq, List.not_mem_nil, or_false] at hmem
  rcases hmem with ⟨rfl, rfl⟩
  · exact h15
theorem fn17 (G : Glb K mg C glo exs) (h16 : FnG P w K mg base C 17 "find_merged" m_find_merged) {f : Addr} {fd : FuncData} (F : FunD K "join_entries" "join_entries" (defArgs (top 54)) (defBody (top 54)) (defScope (top 54)) [] [] f fd) (hm : mg "join_entries" = some (.ref f)) : FnG P w K mg base C 18 "join_entries" m_join_entries := by
  refine step (fns := fns17) (Φ := F_join_entries) (N := N_join_entries) (ps := ps_join_entries) G (fun x g hl => ?_) F sc17 ck17 hm (FunD.bindsN F fun _ _ _ _ _ _ us hl => match us, hl with | [_, _, _], _ => rfl) (by decide)
  have hmem := mem_of_lookup' hl
  simp only [fns17, List.mem_cons, Prod.mk.injEq, List.not_mem_nil, or_false] at hmem
  rcases hmem with ⟨rfl, rfl⟩
  · exact h16
theorem fn18 (G : Glb K mg C glo exs) (h13 : FnG P w K mg base C 18 "find_match" m_find_match) (h17 : FnG P w K mg base C 18 "join_entries" m_join_entries) {f : Addr} {fd : FuncData} (F : FunD K "go_on" "go_on" (defArgs (top 60)) (defBody (top 60)) (defScope (top 60)) [] [] f fd) (hm : mg "go_on" = some (.ref f)) : FnG P w K mg base C 19 "go_on" m_go_on := by
  refine step (fns := fns18) (Φ := F_go_on) (N := N_go_on) (ps := ps_go_on) G (fun x g hl => ?_) F sc18 ck18 hm (FunD.bindsN F fun _ _ _ _ _ _ us hl => match us, hl with | [_, _, _], _ => rfl) (by decide)
  have hmem := mem_of_lookup' hl
  simp only [fns18, List.mem_cons, Prod.mk.injEq, List.not_mem_nil, or_false] at hmem
  rcases hmem with ⟨rfl, rfl⟩ | ⟨rfl, rfl⟩
  · exact h13
  · exact h17
theorem fn19 (G : Glb K mg C glo exs) (h18 : FnG P w K mg base C 19 "go_on" m_go_on) (h17 : FnG P w K mg base C 19 "join_entries" m_join_entries) {f : Addr} {fd : FuncData} (F : FunD K "find_ways" "find_ways" (defArgs (top 61)) (defBody (top 61)) (defScope (top 61)) [] [] f fd) (hm : mg "find_ways" = some (.ref f)) : FnG P w K mg base C 20 "find_ways" m_find_ways := by
  refine step (fns := fns19) (Φ := F_find_ways) (N := N_find_ways) (ps := ps_find_ways) G (fun x g hl => ?_) F sc19 ck19 hm (FunD.bindsN F fun _ _ _ _ _ _ us hl => match us, hl with | [_, _, _, _], _ => rfl) (by decide)
  have hmem := mem_of_lookup' hl
  simp only [fns19, List.mem_cons, Prod.mk.injEq, List.not_mem_nil, or_false] at hmem
  rcases hmem with ⟨rfl, rfl⟩ | ⟨rfl, rfl⟩
  · exact h18
  · exact h17
theorem fn20 (G : Glb K mg C glo exs)  {f : Addr} {fd : FuncData} (F : FunD K "is_word" "is_word" (defArgs (top 23)) (defBody (top 23)) (defScope (top 23)) [] [] f fd) (hm : mg "is_word" = some (.ref f)) : FnG P w K mg base C 21 "is_word" m_is_word := by
  refine step (fns := fns20) (Φ := F_is_word) (N := N_is_word) (ps := ps_is_word) G (fun x g hl => ?_) F sc20 ck20 hm (FunD.bindsN F fun _ _ _ _ _ _ us hl => match us, hl with | [_], _ => rfl) (by decide)
  cases hl
theorem fn21 (G : Glb K mg C glo exs) (h20 : FnG P w K mg base C 21 "is_word" m_is_word) {f : Addr} {fd : FuncData} (F : FunD K "is_content" "is_content" (defArgs (top 24)) (defBody (top 24)) (defScope (top 24)) [] [] f fd) (hm : mg "is_content" = some (.ref f)) : FnG P w K mg base C 22 "is_content" m_is_content := by
  refine step (fns := fns21) (Φ := F_is_content) (N := N_is_content) (ps := ps_is_content) G (fun x g hl => ?_) F sc21 ck21 hm (FunD.bindsN F fun _ _ _ _ _ _ us hl => match us, hl with | [_], _ => rfl) (by decide)
  have hmem := mem_of_lookup' hl
  simp only [fns21, List.mem_cons, Prod.mk.injEq, List.not_mem_nil, or_false] at hmem
  rcases hmem with ⟨rfl, rfl⟩
  · exact h20
theorem fn22 (G : Glb K mg C glo exs) (h21 : FnG P w K mg base C 22 "is_content" m_is_content) {f : Addr} {fd : FuncData} (F : FunD K "has_entry" "has_entry" (defArgs (top 42)) (defBody (top 42)) (defScope (top 42)) [] [] f fd) (hm : mg "has_entry" = some (.ref f)) : FnG P w K mg base C 23 "has_entry" m_has_entry := by
  refine step (fns := fns22) (Φ := F_has_entry) (N := N_has_entry) (ps := ps_has_entry) G (fun x g hl => ?_) F sc22 ck22 hm (FunD.bindsN F fun _ _ _ _ _ _ us hl => match us, hl with | [_, _], _ => rfl) (by decide)
  have hmem := mem_of_lookup' hl
  simp only [fns22, List.mem_cons, Prod.mk.injEq, List.not_mem_nil, or_false] at hmem
  rcases hmem with ⟨rfl, rfl⟩
  · exact h21
theorem fn23 (G : Glb K mg C glo exs) (h22 : FnG P w K mg base C 23 "has_entry" m_has_entry) {f : Addr} {fd : FuncData} (F : FunD K "check_entry" "check_entry" (defArgs (top 43)) (defBody (top 43)) (defScope (top 43)) [] [] f fd) (hm : mg "check_entry" = some (.ref f)) : FnG P w K mg base C 24 "check_entry" m_check_entry := by
  refine step (fns := fns23) (Φ := F_check_entry) (N := N_check_entry) (ps := ps_check_entry) G (fun x g hl => ?_) F sc23 ck23 hm (FunD.bindsN F fun _ _ _ _ _ _ us hl => match us, hl with | [_, _], _ => rfl) (by decide)
  have hmem := mem_of_lookup' hl
  simp only [fns23, List.mem_cons, Prod.mk.injEq, List.not_mem_nil, or_false] at hmem
  rcases hmem with ⟨rfl, rfl⟩
  · exact h22
theorem fn24 (G : Glb K mg C glo exs) (h6 : FnG P w K mg base C 24 "check_plan" m_check_plan) (h14 : FnG P w K mg base C 24 "check_match" m_check_match) (h19 : FnG P w K mg base C 24 "find_ways" m_find_ways) (h23 : FnG P w K mg base C 24 "check_entry" m_check_entry) {f : Addr} {fd : FuncData} (F : FunD K "two_ways" "two_ways" (defArgs (top 62)) (defBody (top 62)) (defScope (top 62)) [] [] f fd) (hm : mg "two_ways" = some (.ref f)) : FnG P w K mg base C 25 "two_ways" m_two_ways := by
  refine step (fns := fns24) (Φ := F_two_ways) (N := N_two_ways) (ps := ps_two_ways) G (fun x g hl => ?_) F sc24 ck24 hm (FunD.bindsN F fun _ _ _ _ _ _ us hl => match us, hl with | [_, _, _, _], _ => rfl) (by decide)
  have hmem := mem_of_lookup' hl
  simp only [fns24, List.mem_cons, Prod.mk.injEq, List.not_mem_nil, or_false] at hmem
  rcases hmem with ⟨rfl, rfl⟩ | ⟨rfl, rfl⟩ | ⟨rfl, rfl⟩ | ⟨rfl, rfl⟩
  · exact h6
  · exact h14
  · exact h19
  · exact h23
theorem fn25 (G : Glb K mg C glo exs)  {f : Addr} {fd : FuncData} (F : FunD K "_law_pick" "_law_pick" (defArgs (top 68)) (defBody (top 68)) (defScope (top 68)) [] [] f fd) (hm : mg "_law_pick" = some (.ref f)) : FnG P w K mg base C 26 "_law_pick" m_law_pick := by
  refine step (fns := fns25) (Φ := F_law_pick) (N := N_law_pick) (ps := ps_law_pick) G (fun x g hl => ?_) F sc25 ck25 hm (FunD.bindsN F fun _ _ _ _ _ _ us hl => match us, hl with | [_, _, _], _ => rfl) (by decide)
  cases hl
theorem fn26 (G : Glb K mg C glo exs) (h25 : FnG P w K mg base C 26 "_law_pick" m_law_pick) {f : Addr} {fd : FuncData} (F : FunD K "_law_plan" "_law_plan" (defArgs (top 69)) (defBody (top 69)) (defScope (top 69)) [] [] f fd) (hm : mg "_law_plan" = some (.ref f)) : FnG P w K mg base C 27 "_law_plan" m_law_plan := by
  refine step (fns := fns26) (Φ := F_law_plan) (N := N_law_plan) (ps := ps_law_plan) G (fun x g hl => ?_) F sc26 ck26 hm (FunD.bindsN F fun _ _ _ _ _ _ us hl => match us, hl with | [_, _, _], _ => rfl) (by decide)
  have hmem := mem_of_lookup' hl
  simp only [fns26, List.mem_cons, Prod.mk.injEq, List.not_mem_nil, or_false] at hmem
  rcases hmem with ⟨rfl, rfl⟩
  · exact h25
theorem fn27 (G : Glb K mg C glo exs)  {f : Addr} {fd : FuncData} (F : FunD K "_law_blend" "_law_blend" (defArgs (top 66)) (defBody (top 66)) (defScope (top 66)) [] [] f fd) (hm : mg "_law_blend" = some (.ref f)) : FnG P w K mg base C 28 "_law_blend" m_law_blend := by
  refine step (fns := fns27) (Φ := F_law_blend) (N := N_law_blend) (ps := ps_law_blend) G (fun x g hl => ?_) F sc27 ck27 hm (FunD.bindsN F fun _ _ _ _ _ _ us hl => match us, hl with | [_, _, _], _ => rfl) (by decide)
  cases hl
theorem fn28 (G : Glb K mg C glo exs) (h27 : FnG P w K mg base C 28 "_law_blend" m_law_blend) {f : Addr} {fd : FuncData} (F : FunD K "_law_join" "_law_join" (defArgs (top 67)) (defBody (top 67)) (defScope (top 67)) [] [] f fd) (hm : mg "_law_join" = some (.ref f)) : FnG P w K mg base C 29 "_law_join" m_law_join := by
  refine step (fns := fns28) (Φ := F_law_join) (N := N_law_join) (ps := ps_law_join) G (fun x g hl => ?_) F sc28 ck28 hm (FunD.bindsN F fun _ _ _ _ _ _ us hl => match us, hl with | [_, _, _], _ => rfl) (by decide)
  have hmem := mem_of_lookup' hl
  simp only [fns28, List.mem_cons, Prod.mk.injEq, List.not_mem_nil, or_false] at hmem
  rcases hmem with ⟨rfl, rfl⟩
  · exact h27
theorem fn29 (G : Glb K mg C glo exs)  {f : Addr} {fd : FuncData} (F : FunD K "_law_bit" "_law_bit" (defArgs (top 70)) (defBody (top 70)) (defScope (top 70)) [] [] f fd) (hm : mg "_law_bit" = some (.ref f)) : FnG P w K mg base C 30 "_law_bit" m_law_bit := by
  refine step (fns := fns29) (Φ := F_law_bit) (N := N_law_bit) (ps := ps_law_bit) G (fun x g hl => ?_) F sc29 ck29 hm (FunD.bindsN F fun _ _ _ _ _ _ us hl => match us, hl with | [_, _], _ => rfl) (by decide)
  cases hl
theorem fn30 (G : Glb K mg C glo exs) (h25 : FnG P w K mg base C 30 "_law_pick" m_law_pick) (h29 : FnG P w K mg base C 30 "_law_bit" m_law_bit) {f : Addr} {fd : FuncData} (F : FunD K "_law_entry" "_law_entry" (defArgs (top 71)) (defBody (top 71)) (defScope (top 71)) [] [] f fd) (hm : mg "_law_entry" = some (.ref f)) : FnG P w K mg base C 31 "_law_entry" m_law_entry := by
  refine step (fns := fns30) (Φ := F_law_entry) (N := N_law_entry) (ps := ps_law_entry) G (fun x g hl => ?_) F sc30 ck30 hm (FunD.bindsN F fun _ _ _ _ _ _ us hl => match us, hl with | [_, _, _], _ => rfl) (by decide)
  have hmem := mem_of_lookup' hl
  simp only [fns30, List.mem_cons, Prod.mk.injEq, List.not_mem_nil, or_false] at hmem
  rcases hmem with ⟨rfl, rfl⟩ | ⟨rfl, rfl⟩
  · exact h25
  · exact h29
theorem fn31 (G : Glb K mg C glo exs)  {f : Addr} {fd : FuncData} (F : FunD K "_law_holds" "_law_holds" (defArgs (top 64)) (defBody (top 64)) (defScope (top 64)) [] [] f fd) (hm : mg "_law_holds" = some (.ref f)) : FnG P w K mg base C 32 "_law_holds" m_law_holds := by
  refine step (fns := fns31) (Φ := F_law_holds) (N := N_law_holds) (ps := ps_law_holds) G (fun x g hl => ?_) F sc31 ck31 hm (FunD.bindsN F fun _ _ _ _ _ _ us hl => match us, hl with | [_, _, _], _ => rfl) (by decide)
  cases hl
theorem fn32 (G : Glb K mg C glo exs) (h31 : FnG P w K mg base C 32 "_law_holds" m_law_holds) {f : Addr} {fd : FuncData} (F : FunD K "_law_meets" "_law_meets" (defArgs (top 65)) (defBody (top 65)) (defScope (top 65)) [] [] f fd) (hm : mg "_law_meets" = some (.ref f)) : FnG P w K mg base C 33 "_law_meets" m_law_meets := by
  refine step (fns := fns32) (Φ := F_law_meets) (N := N_law_meets) (ps := ps_law_meets) G (fun x g hl => ?_) F sc32 ck32 hm (FunD.bindsN F fun _ _ _ _ _ _ us hl => match us, hl with | [_, _, _], _ => rfl) (by decide)
  have hmem := mem_of_lookup' hl
  simp only [fns32, List.mem_cons, Prod.mk.injEq, List.not_mem_nil, or_false] at hmem
  rcases hmem with ⟨rfl, rfl⟩
  · exact h31
theorem fn33 (G : Glb K mg C glo exs) (h6 : FnG P w K mg base C 33 "check_plan" m_check_plan) (h23 : FnG P w K mg base C 33 "check_entry" m_check_entry) {f : Addr} {fd : FuncData} (F : FunD K "check_two" "check_two" (defArgs (top 52)) (defBody (top 52)) (defScope (top 52)) [] [] f fd) (hm : mg "check_two" = some (.ref f)) : FnG P w K mg base C 34 "check_two" m_check_two := by
  refine step (fns := fns33) (Φ := F_check_two) (N := N_check_two) (ps := ps_check_two) G (fun x g hl => ?_) F sc33 ck33 hm (FunD.bindsN F fun _ _ _ _ _ _ us hl => match us, hl with | [_, _, _], _ => rfl) (by decide)
  have hmem := mem_of_lookup' hl
  simp only [fns33, List.mem_cons, Prod.mk.injEq, List.not_mem_nil, or_false] at hmem
  rcases hmem with ⟨rfl, rfl⟩ | ⟨rfl, rfl⟩
  · exact h6
  · exact h23
theorem fn34 (G : Glb K mg C glo exs) (h33 : FnG P w K mg base C 34 "check_two" m_check_two) (h17 : FnG P w K mg base C 34 "join_entries" m_join_entries) {f : Addr} {fd : FuncData} (F : FunD K "joined" "joined" (defArgs (top 57)) (defBody (top 57)) (defScope (top 57)) [] [] f fd) (hm : mg "joined" = some (.ref f)) : FnG P w K mg base C 35 "joined" m_joined := by
  refine step (fns := fns34) (Φ := F_joined) (N := N_joined) (ps := ps_joined) G (fun x g hl => ?_) F sc34 ck34 hm (FunD.bindsN F fun _ _ _ _ _ _ us hl => match us, hl with | [_, _, _], _ => rfl) (by decide)
  have hmem := mem_of_lookup' hl
  simp only [fns34, List.mem_cons, Prod.mk.injEq, List.not_mem_nil, or_false] at hmem
  rcases hmem with ⟨rfl, rfl⟩ | ⟨rfl, rfl⟩
  · exact h33
  · exact h17
theorem fn36 (G : Glb K mg C glo exs) (h32 : FnG P w K mg base C 36 "_law_meets" m_law_meets) (h28 : FnG P w K mg base C 36 "_law_join" m_law_join) {f : Addr} {fd : FuncData} (F : FunD K "_law_end" "_law_end" (defArgs (top 73)) (defBody (top 73)) (defScope (top 73)) [] [] f fd) (hm : mg "_law_end" = some (.ref f)) : FnG P w K mg base C 37 "_law_end" m_law_end := by
  refine step (fns := fns36) (Φ := F_law_end) (N := N_law_end) (ps := ps_law_end) G (fun x g hl => ?_) F sc36 ck36 hm (FunD.bindsN F fun _ _ _ _ _ _ us hl => match us, hl with | [_, _], _ => rfl) (by decide)
  have hmem := mem_of_lookup' hl
  simp only [fns36, List.mem_cons, Prod.mk.injEq, List.not_mem_nil, or_false] at hmem
  rcases hmem with ⟨rfl, rfl⟩ | ⟨rfl, rfl⟩
  · exact h32
  · exact h28
theorem fn37 (G : Glb K mg C glo exs) (h33 : FnG P w K mg base C 37 "check_two" m_check_two) (h14 : FnG P w K mg base C 37 "check_match" m_check_match) (h17 : FnG P w K mg base C 37 "join_entries" m_join_entries) {f : Addr} {fd : FuncData} (F : FunD K "merged" "merged" (defArgs (top 56)) (defBody (top 56)) (defScope (top 56)) [] [] f fd) (hm : mg "merged" = some (.ref f)) : FnG P w K mg base C 38 "merged" m_merged := by
  refine step (fns := fns37) (Φ := F_merged) (N := N_merged) (ps := ps_merged) G (fun x g hl => ?_) F sc37 ck37 hm (FunD.bindsN F fun _ _ _ _ _ _ us hl => match us, hl with | [_, _, _], _ => rfl) (by decide)
  have hmem := mem_of_lookup' hl
  simp only [fns37, List.mem_cons, Prod.mk.injEq, List.not_mem_nil, or_false] at hmem
  rcases hmem with ⟨rfl, rfl⟩ | ⟨rfl, rfl⟩ | ⟨rfl, rfl⟩
  · exact h33
  · exact h14
  · exact h17
theorem fn38 (G : Glb K mg C glo exs) (h22 : FnG P w K mg base C 38 "has_entry" m_has_entry) {f : Addr} {fd : FuncData} (F : FunD K "has_book" "has_book" (defArgs (top 44)) (defBody (top 44)) (defScope (top 44)) [] [] f fd) (hm : mg "has_book" = some (.ref f)) : FnG P w K mg base C 39 "has_book" m_has_book := by
  refine step (fns := fns38) (Φ := F_has_book) (N := N_has_book) (ps := ps_has_book) G (fun x g hl => ?_) F sc38 ck38 hm (FunD.bindsN F fun _ _ _ _ _ _ us hl => match us, hl with | [_, _], _ => rfl) (by decide)
  have hmem := mem_of_lookup' hl
  simp only [fns38, List.mem_cons, Prod.mk.injEq, List.not_mem_nil, or_false] at hmem
  rcases hmem with ⟨rfl, rfl⟩
  · exact h22
theorem fn39 (G : Glb K mg C glo exs) (h38 : FnG P w K mg base C 39 "has_book" m_has_book) {f : Addr} {fd : FuncData} (F : FunD K "check_book" "check_book" (defArgs (top 45)) (defBody (top 45)) (defScope (top 45)) [] [] f fd) (hm : mg "check_book" = some (.ref f)) : FnG P w K mg base C 40 "check_book" m_check_book := by
  refine step (fns := fns39) (Φ := F_check_book) (N := N_check_book) (ps := ps_check_book) G (fun x g hl => ?_) F sc39 ck39 hm (FunD.bindsN F fun _ _ _ _ _ _ us hl => match us, hl with | [_, _], _ => rfl) (by decide)
  have hmem := mem_of_lookup' hl
  simp only [fns39, List.mem_cons, Prod.mk.injEq, List.not_mem_nil, or_false] at hmem
  rcases hmem with ⟨rfl, rfl⟩
  · exact h38
theorem fn40 (G : Glb K mg C glo exs) (h1 : FnG P w K mg base C 40 "is_int" m_is_int) {f : Addr} {fd : FuncData} (F : FunD K "check_place" "check_place" (defArgs (top 46)) (defBody (top 46)) (defScope (top 46)) [] [] f fd) (hm : mg "check_place" = some (.ref f)) : FnG P w K mg base C 41 "check_place" m_check_place := by
  refine step (fns := fns40) (Φ := F_check_place) (N := N_check_place) (ps := ps_check_place) G (fun x g hl => ?_) F sc40 ck40 hm (FunD.bindsN F fun _ _ _ _ _ _ us hl => match us, hl with | [_, _], _ => rfl) (by decide)
  have hmem := mem_of_lookup' hl
  simp only [fns40, List.mem_cons, Prod.mk.injEq, List.not_mem_nil, or_false] at hmem
  rcases hmem with ⟨rfl, rfl⟩
  · exact h1
theorem fn41 (G : Glb K mg C glo exs) (h17 : FnG P w K mg base C 41 "join_entries" m_join_entries) {f : Addr} {fd : FuncData} (F : FunD K "do_step" "do_step" (defArgs (top 58)) (defBody (top 58)) (defScope (top 58)) [] [] f fd) (hm : mg "do_step" = some (.ref f)) : FnG P w K mg base C 42 "do_step" m_do_step := by
  refine step (fns := fns41) (Φ := F_do_step) (N := N_do_step) (ps := ps_do_step) G (fun x g hl => ?_) F sc41 ck41 hm (FunD.bindsN F fun _ _ _ _ _ _ us hl => match us, hl with | [_, _, _, _], _ => rfl) (by decide)
  have hmem := mem_of_lookup' hl
  simp only [fns41, List.mem_cons, Prod.mk.injEq, List.not_mem_nil, or_false] at hmem
  rcases hmem with ⟨rfl, rfl⟩
  · exact h17
theorem fn42 (G : Glb K mg C glo exs) (h6 : FnG P w K mg base C 42 "check_plan" m_check_plan) (h39 : FnG P w K mg base C 42 "check_book" m_check_book) (h40 : FnG P w K mg base C 42 "check_place" m_check_place) (h14 : FnG P w K mg base C 42 "check_match" m_check_match) (h41 : FnG P w K mg base C 42 "do_step" m_do_step) {f : Addr} {fd : FuncData} (F : FunD K "step" "step" (defArgs (top 59)) (defBody (top 59)) (defScope (top 59)) [] [] f fd) (hm : mg "step" = some (.ref f)) : FnG P w K mg base C 43 "step" m_step := by
  refine step (fns := fns42) (Φ := F_step) (N := N_step) (ps := ps_step) G (fun x g hl => ?_) F sc42 ck42 hm (FunD.bindsN F fun _ _ _ _ _ _ us hl => match us, hl with | [_, _, _, _], _ => rfl) (by decide)
  have hmem := mem_of_lookup' hl
  simp only [fns42, List.mem_cons, Prod.mk.injEq, List.not_mem_nil, or_false] at hmem
  rcases hmem with ⟨rfl, rfl⟩ | ⟨rfl, rfl⟩ | ⟨rfl, rfl⟩ | ⟨rfl, rfl⟩ | ⟨rfl, rfl⟩
  · exact h6
  · exact h39
  · exact h40
  · exact h14
  · exact h41
end
abbrev ct' (K : Fr') : Addr × Addr := He.cT K ("law", none)
@[reducible] def tabK (K : Fr') : TabT := ⟨[((ct' K).2, lamQ "law")]⟩
theorem facts (hlaw : ∀ ns : List Int, ns.length ≤ 63 → m_law [.list (ns.map .int)] = .ok (.bool true)) {P : Program} {w : World} {K : Fr'} {h : Heap} {mg : Str → Option Value} {f : Addr} (X : K.In h) (G : h.Ns mainGlobals mg) (hfa : mg ("law" : Str) = some (.ref f)) (c : He.SaysX [] fn [] [("law", none)] see w h K) :
    ∃ fd : FuncData, (∀ (s : Shared) (v : Value), BindsTo s fd ⟨[v], []⟩ [("script", v)]) ∧ ∀ base : Heap, K.In base → base.Ns mainGlobals mg → LamX.TabB base mg (ct' K).1 (ct' K).2 → FnOk P w K mg base CX0 46 f fd ["script"] (@spLaw (tabK K) K) := by
  letI : TabT := tabK K
  have more := c.more
  simp only [see, Bool.and_eq_true] at more
  obtain ⟨GG, hg⟩ := glb_of X G exs_ok more.1
  have hex : ∀ y ∈ ths, PySem.W.exmOne K (.ref (He.ga K y)) (.ref (He.ga K y)) = some true := fun y hy => thB_ok more.2 hy
  have sd : He.SaysD [] fn K := c.t.d
  obtain ⟨fd0, F0⟩ := sd.def_ 0 (d := mk "is_rising" 36) rfl
  obtain ⟨fd1, F1⟩ := sd.def_ 1 (d := mk "is_int" 35) rfl
  obtain ⟨fd2, F2⟩ := sd.def_ 2 (d := mk "is_test" 37) rfl
  obtain ⟨fd3, F3⟩ := sd.def_ 3 (d := mk "are_tests" 38) rfl
  obtain ⟨fd4, F4⟩ := sd.def_ 4 (d := mk "are_kinds" 39) rfl
  obtain ⟨fd5, F5⟩ := sd.def_ 5 (d := mk "is_plan" 40) rfl
  obtain ⟨fd6, F6⟩ := sd.def_ 6 (d := mk "check_plan" 41) rfl
  obtain ⟨fd7, F7⟩ := sd.def_ 7 (d := mk "have_word" 25) rfl
  obtain ⟨fd8, F8⟩ := sd.def_ 8 (d := mk "have_near" 26) rfl
  obtain ⟨fd9, F9⟩ := sd.def_ 9 (d := mk "does_hold" 27) rfl
  obtain ⟨fd10, F10⟩ := sd.def_ 10 (d := mk "has_test" 48) rfl
  obtain ⟨fd11, F11⟩ := sd.def_ 11 (d := mk "find_rules" 49) rfl
  obtain ⟨fd12, F12⟩ := sd.def_ 12 (d := mk "find_bars" 50) rfl
  obtain ⟨fd13, F13⟩ := sd.def_ 13 (d := mk "find_match" 51) rfl
  obtain ⟨fd14, F14⟩ := sd.def_ 14 (d := mk "check_match" 55) rfl
  obtain ⟨fd15, F15⟩ := sd.def_ 15 (d := mk "union" 28) rfl
  obtain ⟨fd16, F16⟩ := sd.def_ 16 (d := mk "find_merged" 29) rfl
  obtain ⟨fd17, F17⟩ := sd.def_ 17 (d := mk "join_entries" 54) rfl
  obtain ⟨fd18, F18⟩ := sd.def_ 18 (d := mk "go_on" 60) rfl
  obtain ⟨fd19, F19⟩ := sd.def_ 19 (d := mk "find_ways" 61) rfl
  obtain ⟨fd20, F20⟩ := sd.def_ 20 (d := mk "is_word" 23) rfl
  obtain ⟨fd21, F21⟩ := sd.def_ 21 (d := mk "is_content" 24) rfl
  obtain ⟨fd22, F22⟩ := sd.def_ 22 (d := mk "has_entry" 42) rfl
  obtain ⟨fd23, F23⟩ := sd.def_ 23 (d := mk "check_entry" 43) rfl
  obtain ⟨fd24, F24⟩ := sd.def_ 24 (d := mk "two_ways" 62) rfl
  obtain ⟨fd25, F25⟩ := sd.def_ 25 (d := mk "_law_pick" 68) rfl
  obtain ⟨fd26, F26⟩ := sd.def_ 26 (d := mk "_law_plan" 69) rfl
  obtain ⟨fd27, F27⟩ := sd.def_ 27 (d := mk "_law_blend" 66) rfl
  obtain ⟨fd28, F28⟩ := sd.def_ 28 (d := mk "_law_join" 67) rfl
  obtain ⟨fd29, F29⟩ := sd.def_ 29 (d := mk "_law_bit" 70) rfl
  obtain ⟨fd30, F30⟩ := sd.def_ 30 (d := mk "_law_entry" 71) rfl
  obtain ⟨fd31, F31⟩ := sd.def_ 31 (d := mk "_law_holds" 64) rfl
  obtain ⟨fd32, F32⟩ := sd.def_ 32 (d := mk "_law_meets" 65) rfl
  obtain ⟨fd33, F33⟩ := sd.def_ 33 (d := mk "check_two" 52) rfl
  obtain ⟨fd34, F34⟩ := sd.def_ 34 (d := mk "joined" 57) rfl
  obtain ⟨fd35, F35⟩ := sd.def_ 35 (d := mk "_law_refused" 72) rfl
  obtain ⟨fd36, F36⟩ := sd.def_ 36 (d := mk "_law_end" 73) rfl
  obtain ⟨fd37, F37⟩ := sd.def_ 37 (d := mk "merged" 56) rfl
  obtain ⟨fd38, F38⟩ := sd.def_ 38 (d := mk "has_book" 44) rfl
  obtain ⟨fd39, F39⟩ := sd.def_ 39 (d := mk "check_book" 45) rfl
  obtain ⟨fd40, F40⟩ := sd.def_ 40 (d := mk "check_place" 46) rfl
  obtain ⟨fd41, F41⟩ := sd.def_ 41 (d := mk "do_step" 58) rfl
  obtain ⟨fd42, F42⟩ := sd.def_ 42 (d := mk "step" 59) rfl
  obtain ⟨fd43, F43⟩ := sd.def_ 43 (d := mk "law" 74) rfl
  have e := hfa.symm.trans (hg "law" (by decide))
  cases e
  have b := FunD.bindsA (ps := ["script"]) F43 fun _ _ _ _ _ _ us hl => match us, hl with | [_], _ => rfl
  refine ⟨fd43, fun s v => b s [v] rfl, fun base _ _ TB => ?_⟩
  have q0 : FnG P w K mg base (cAd K exs) 1 "is_rising" m_is_rising := fn0 GG F0 (hg "is_rising" (by decide))
  have q1 : FnG P w K mg base (cAd K exs) 2 "is_int" m_is_int := fn1 GG F1 (hg "is_int" (by decide))
  have q2 : FnG P w K mg base (cAd K exs) 3 "is_test" m_is_test := fn2 GG (q1.up (by decide)) F2 (hg "is_test" (by decide))
  have q3 : FnG P w K mg base (cAd K exs) 4 "are_tests" m_are_tests := fn3 GG (q0.up (by decide)) (q2.up (by decide)) F3 (hg "are_tests" (by decide))
  have q4 : FnG P w K mg base (cAd K exs) 5 "are_kinds" m_are_kinds := fn4 GG F4 (hg "are_kinds" (by decide))
  have q5 : FnG P w K mg base (cAd K exs) 6 "is_plan" m_is_plan := fn5 GG (q3.up (by decide)) (q4.up (by decide)) (q0.up (by decide)) F5 (hg "is_plan" (by decide))
  have q6 : FnG P w K mg base (cAd K exs) 7 "check_plan" m_check_plan := fn6 GG (q5.up (by decide)) F6 (hg "check_plan" (by decide))
  have q7 : FnG P w K mg base (cAd K exs) 8 "have_word" m_have_word := fn7 GG F7 (hg "have_word" (by decide))
  have q8 : FnG P w K mg base (cAd K exs) 9 "have_near" m_have_near := fn8 GG F8 (hg "have_near" (by decide))
  have q9 : FnG P w K mg base (cAd K exs) 10 "does_hold" m_does_hold := fn9 GG (q7.up (by decide)) (q8.up (by decide)) F9 (hg "does_hold" (by decide))
  have q10 : FnG P w K mg base (cAd K exs) 11 "has_test" m_has_test := fn10 GG (q9.up (by decide)) F10 (hg "has_test" (by decide))
  have q11 : FnG P w K mg base (cAd K exs) 12 "find_rules" m_find_rules := fn11 GG (q10.up (by decide)) F11 (hg "find_rules" (by decide))
  have q12 : FnG P w K mg base (cAd K exs) 13 "find_bars" m_find_bars := fn12 GG (q10.up (by decide)) F12 (hg "find_bars" (by decide))
  have q13 : FnG P w K mg base (cAd K exs) 14 "find_match" m_find_match := fn13 GG (q11.up (by decide)) (q12.up (by decide)) F13 (hg "find_match" (by decide))
  have q14 : FnG P w K mg base (cAd K exs) 15 "check_match" m_check_match := fn14 GG (q13.up (by decide)) F14 (hg "check_match" (by decide))
  have q15 : FnG P w K mg base (cAd K exs) 16 "union" m_union := fn15 GG F15 (hg "union" (by decide))
  have q16 : FnG P w K mg base (cAd K exs) 17 "find_merged" m_find_merged := fn16 GG (q15.up (by decide)) F16 (hg "find_merged" (by decide))
  have q17 : FnG P w K mg base (cAd K exs) 18 "join_entries" m_join_entries := fn17 GG (q16.up (by decide)) F17 (hg "join_entries" (by decide))
  have q18 : FnG P w K mg base (cAd K exs) 19 "go_on" m_go_on := fn18 GG (q13.up (by decide)) (q17.up (by decide)) F18 (hg "go_on" (by decide))
  have q19 : FnG P w K mg base (cAd K exs) 20 "find_ways" m_find_ways := fn19 GG (q18.up (by decide)) (q17.up (by decide)) F19 (hg "find_ways" (by decide))
  have q20 : FnG P w K mg base (cAd K exs) 21 "is_word" m_is_word := fn20 GG F20 (hg "is_word" (by decide))
  have q21 : FnG P w K mg base (cAd K exs) 22 "is_content" m_is_content := fn21 GG (q20.up (by decide)) F21 (hg "is_content" (by decide))
  have q22 : FnG P w K mg base (cAd K exs) 23 "has_entry" m_has_entry := fn22 GG (q21.up (by decide)) F22 (hg "has_entry" (by decide))
  have q23 : FnG P w K mg base (cAd K exs) 24 "check_entry" m_check_entry := fn23 GG (q22.up (by decide)) F23 (hg "check_entry" (by decide))
  have q24 : FnG P w K mg base (cAd K exs) 25 "two_ways" m_two_ways := fn24 GG (q6.up (by decide)) (q14.up (by decide)) (q19.up (by decide)) (q23.up (by decide)) F24 (hg "two_ways" (by decide))
  have q25 : FnG P w K mg base (cAd K exs) 26 "_law_pick" m_law_pick := fn25 GG F25 (hg "_law_pick" (by decide))
  have q26 : FnG P w K mg base (cAd K exs) 27 "_law_plan" m_law_plan := fn26 GG (q25.up (by decide)) F26 (hg "_law_plan" (by decide))
  have q27 : FnG P w K mg base (cAd K exs) 28 "_law_blend" m_law_blend := fn27 GG F27 (hg "_law_blend" (by decide))
  have q28 : FnG P w K mg base (cAd K exs) 29 "_law_join" m_law_join := fn28 GG (q27.up (by decide)) F28 (hg "_law_join" (by decide))
  have q29 : FnG P w K mg base (cAd K exs) 30 "_law_bit" m_law_bit := fn29 GG F29 (hg "_law_bit" (by decide))
  have q30 : FnG P w K mg base (cAd K exs) 31 "_law_entry" m_law_entry := fn30 GG (q25.up (by decide)) (q29.up (by decide)) F30 (hg "_law_entry" (by decide))
  have q31 : FnG P w K mg base (cAd K exs) 32 "_law_holds" m_law_holds := fn31 GG F31 (hg "_law_holds" (by decide))
  have q32 : FnG P w K mg base (cAd K exs) 33 "_law_meets" m_law_meets := fn32 GG (q31.up (by decide)) F32 (hg "_law_meets" (by decide))
  have q33 : FnG P w K mg base (cAd K exs) 34 "check_two" m_check_two := fn33 GG (q6.up (by decide)) (q23.up (by decide)) F33 (hg "check_two" (by decide))
  have q34 : FnG P w K mg base (cAd K exs) 35 "joined" m_joined := fn34 GG (q33.up (by decide)) (q17.up (by decide)) F34 (hg "joined" (by decide))
  have q36 : FnG P w K mg base (cAd K exs) 37 "_law_end" m_law_end := fn36 GG (q32.up (by decide)) (q28.up (by decide)) F36 (hg "_law_end" (by decide))
  have q37 : FnG P w K mg base (cAd K exs) 38 "merged" m_merged := fn37 GG (q33.up (by decide)) (q14.up (by decide)) (q17.up (by decide)) F37 (hg "merged" (by decide))
  have q38 : FnG P w K mg base (cAd K exs) 39 "has_book" m_has_book := fn38 GG (q22.up (by decide)) F38 (hg "has_book" (by decide))
  have q39 : FnG P w K mg base (cAd K exs) 40 "check_book" m_check_book := fn39 GG (q38.up (by decide)) F39 (hg "check_book" (by decide))
  have q40 : FnG P w K mg base (cAd K exs) 41 "check_place" m_check_place := fn40 GG (q1.up (by decide)) F40 (hg "check_place" (by decide))
  have q41 : FnG P w K mg base (cAd K exs) 42 "do_step" m_do_step := fn41 GG (q17.up (by decide)) F41 (hg "do_step" (by decide))
  have q42 : FnG P w K mg base (cAd K exs) 43 "step" m_step := fn42 GG (q6.up (by decide)) (q39.up (by decide)) (q40.up (by decide)) (q14.up (by decide)) (q41.up (by decide)) F42 (hg "step" (by decide))
  refine law_stepT (fns := fns43) (thk := thk) (Φ := F_law) (N := N_law) (lv := 43) (Fu := Fu) GG (fun x g hl => ?_) F43 sc43 ck43 (fun cc hcc XX e1 e2 e3 e4 e5 y g hl => ?_) hlaw
  · have hmem := mem_of_lookup' hl
    simp only [fns43, List.mem_cons, Prod.mk.injEq, List.not_mem_nil, or_false] at hmem
    rcases hmem with ⟨rfl, rfl⟩ | ⟨rfl, rfl⟩ | ⟨rfl, rfl⟩ | ⟨rfl, rfl⟩ | ⟨rfl, rfl⟩ | ⟨rfl, rfl⟩ | ⟨rfl, rfl⟩ | ⟨rfl, rfl⟩ | ⟨rfl, rfl⟩ | ⟨rfl, rfl⟩
    · exact q24.up (by decide)
    · exact q26.up (by decide)
    · exact q28.up (by decide)
    · exact q30.up (by decide)
    · exact q32.up (by decide)
    · exact q25.up (by decide)
    · exact q34.up (by decide)
    · exact q36.up (by decide)
    · exact q37.up (by decide)
    · exact q42.up (by decide)
  · have hcc' : cc = (ct' K).1 := by
      obtain ⟨oc, od, dV, kV, doc, pm, an, cdv, ct, osl, rfl, lk, _, _, _⟩ := F43.ex
      exact (He.codeOf_eq (p := ("law", none)) lk hcc).symm
    subst hcc'
    have hmem := mem_of_lookup' hl
    simp only [thk, List.mem_cons, Prod.mk.injEq, List.not_mem_nil, or_false] at hmem
    rcases hmem with ⟨rfl, rfl⟩
    · obtain ⟨z1, z2, z3, z4, z5, z6⟩ := GG.exs "NoMatch" 10 (by decide +kernel)
      have hC : cAd K exs td_law_refused.exc = He.ga K "NoMatch" := by
        show cAd K exs 10 = _
        unfold cAd
        rfl
      exact thk_mk (t := td_law_refused) (a := "call") (e := "NoMatch") (Ng := N_law_refused) e1 e2 e3 e4 e5 TB rfl F35 (hg "_law_refused" (by decide)) (FunD.bindsN F35 fun _ _ _ _ _ _ us hl => match us, hl with | [_], _ => rfl) sc35 rfl sh35 sg35 z5 (by rw [hC]; exact hex "NoMatch" (by decide)) (by decide) (by decide) (by decide) (by decide)
open PySem.W PySem.Calls in
theorem holds_of (hlaw : ∀ ns : List Int, ns.length ≤ 63 → m_law [.list (ns.map .int)] = .ok (.bool true)) : PySem.Challenge.rw_sameentries_k06_whole_merging.Holds := by
  w_on; o_law
  refine HandSHeadRun.head_any (r := OpenLaw.row PySem.Challenge.rw_sameentries_k06_whole_merging) (q := view (OpenLaw.row PySem.Challenge.rw_sameentries_k06_whole_merging).prog [74]) (H := hk) (ob := ob) (M := 6000) (loose := loose) (d := HandSHeadRun.topDef (OpenLaw.row PySem.Challenge.rw_sameentries_k06_whole_merging).prog 74) (kwd := []) ob_eq
    (by kernel_rfl) (fun s => by kernel_rfl) head_run (by kernel_rfl) (by kernel_rfl) (by kernel_rfl) (by rfl) (by first | assumption | decide +kernel) (by decide +kernel) ⟨rfl, rfl, rfl, rfl, rfl, by decide +kernel⟩ ?hw ?hc
  case hw => w_witness2
  case hc =>
    refine Fz.walk_T (l := PySem.Challenge.rw_sameentries_k06_whole_merging) (n := 63) (k := 46) (x := "script") rfl (by decide) (by kernel_rfl) ⟨rfl, by decide, by decide⟩ ?F
    intro w mg fa h Y G hmg0
    obtain ⟨K, KX, c⟩ := Y
    have hmg : mg ("law" : PySem.Str) = some (.ref fa) := by
      have e : (HandSHeadRun.topDef (OpenLaw.row PySem.Challenge.rw_sameentries_k06_whole_merging).prog 74).name = ("law" : PySem.Str) := by kernel_rfl
      rw [← e]
      exact hmg0
    obtain ⟨fd, hb, hF⟩ := facts hlaw (P := (PySem.Challenge.rw_sameentries_k06_whole_merging).prog) (w := w) KX G hmg c
    refine ⟨K, fd, [ct' K], @spLaw (tabK K) K, KX, ?_, ?_, ?_, hb, fun H a ns hl hT hS => ⟨a, ns, rfl, hl, ?_, hS, fun _ => rfl⟩, fun base k1 k2 k3 => hF base k1 k2 (k3 _ (by simp))⟩
    · intro p hp
      have : p = ct' K := by simpa using hp
      subst this
      exact c.empty _ (by simp)
    · intro p hp
      have : p = ct' K := by simpa using hp
      subst this
      exact c.out _ (by simp)
    · intro p hp
      have : p = ct' K := by simpa using hp
      subst this
      exact PySem.W.codeHd_of_K KX (c.hd _ (by simp))
    · intro p hp
      have hp' : p ∈ [((ct' K).2, lamQ "law")] := hp
      have : p = ((ct' K).2, lamQ "law") := by simpa using hp'
      subst this
      exact LamX.TabS.nil (hT _ (by simp))
end Lw

set_option Elab.async false
set_option linter.all false
set_option autoImplicit false
set_option maxRecDepth 100000
set_option maxHeartbeats 4000000
/-! Ty: typed data of the program, and general facts about sorting. -/
namespace Lw
open PySem PySem.Spec L2 Fz

/-! ### general -/
theorem map_of {α : Type} {f : α → D} {P : α → Prop} : ∀ {xs : List D}, (∀ d ∈ xs, ∃ a, d = f a ∧ P a) → ∃ as : List α, xs = as.map f ∧ ∀ a ∈ as, P a
  | [], _ => ⟨[], rfl, fun _ h => by cases h⟩
  | x :: r, h => by
    obtain ⟨s, rfl, hs⟩ := h x List.mem_cons_self
    obtain ⟨ws, rfl, hw⟩ := map_of fun d hd => h d (List.mem_cons_of_mem _ hd)
    refine ⟨s :: ws, rfl, fun a ha => ?_⟩
    rcases List.mem_cons.mp ha with rfl | ha
    · exact hs
    · exact hw a ha
theorem eqv_rfl' {a b : D} (h : PySem.W.alike a b = true) : (PyData.eqv a b = true) ↔ a = b := by
  refine ⟨eqv_alike a b h, fun e => ?_⟩
  subst e
  exact PySem.W.eqv_refl_alike a h
theorem firsts_nodup : ∀ (xs acc : List D), PySem.W.AllAlike (acc ++ xs) → acc.Nodup → (firsts acc xs).Nodup ∧ ∀ d, d ∈ firsts acc xs ↔ d ∈ acc ∨ d ∈ xs
  | [], acc, _, nd => ⟨nd, fun d => by simp [firsts]⟩
  | x :: r, acc, hk, nd => by
    unfold firsts
    by_cases hm : acc.any (fun y => PyData.eqv y x) = true
    · rw [if_pos hm]
      obtain ⟨a1, a2⟩ := firsts_nodup r acc (fun a ha b hb => hk a (by grind) b (by grind)) nd
      obtain ⟨y, hy, e⟩ := List.any_eq_true.mp hm
      have ek : y = x := (eqv_rfl' (hk y (by simp [hy]) x (by simp))).mp e
      refine ⟨a1, fun k => ?_⟩
      rw [a2 k]; subst ek; grind
    · rw [if_neg hm]
      have hx : x ∉ acc := fun h => hm (List.any_eq_true.mpr ⟨x, h, PySem.W.eqv_refl_alike x (hk x (by simp) x (by simp))⟩)
      obtain ⟨a1, a2⟩ := firsts_nodup r (acc ++ [x]) (fun a ha b hb => hk a (by grind) b (by grind)) (by rw [List.nodup_append]; exact ⟨nd, by simp, by grind⟩)
      exact ⟨a1, fun k => by rw [a2 k]; grind⟩
theorem alikeAmong_iff {xs : List D} : alikeAmong xs = true ↔ PySem.W.AllAlike xs := by
  simp [alikeAmong, PySem.W.AllAlike]
/-- a before b, strictly -/
def Lt (a b : D) : Prop := PySem.W.alike a b = true ∧ ltD a b = true
theorem lt_strict {a b : D} (al : PySem.W.alike a b = true) (h : leW a b = true) (hne : a ≠ b) : Lt a b := by
  refine ⟨al, ?_⟩
  have h1 : leD a b = true := by rw [leD_leW al]; exact h
  by_cases h2 : ltD a b = true
  · exact h2
  · exact absurd (lt_conn a b al (by simpa using h2) (by simpa [leD] using h1)) hne
theorem lt_le {a b : D} (h : Lt a b) : leW a b = true := by
  have h1 : leW b a = false := by rw [leW_eq, ← lt_data a b h.1, h.2]; rfl
  rcases leW_total.total a b with h2 | h2
  · exact h2
  · rw [h1] at h2; cases h2
theorem isort_rise {xs : List D} (h : PySem.W.AllAlike xs) (nd : xs.Nodup) : (isort xs).Pairwise Lt := by
  have h1 := isort_sorted h
  have h2 : (isort xs).Nodup := (isort_perm xs).nodup_iff.mpr nd
  refine (List.Pairwise.and_mem.mp (h1.and h2)).imp fun {a b} hab => ?_
  exact lt_strict (h a ((isort_perm xs).mem_iff.mp hab.1) b ((isort_perm xs).mem_iff.mp hab.2.1)) hab.2.2.1 hab.2.2.2
/-- sorted(set(..)) -/
theorem sset_spec {α : Type} (f : α → D) (as : List α) (h1 : setOk (as.map f) = true) (h2 : sortable (as.map f) = true) :
    ∃ bs : List α, o1 .sset (.list (as.map f)) = .ok (.list (bs.map f)) ∧ o1 .sset (.tuple (as.map f)) = .ok (.list (bs.map f)) ∧ (∀ b ∈ bs, b ∈ as) ∧ (∀ a ∈ as, f a ∈ bs.map f) ∧ (bs.map f).Pairwise Lt ∧ bs.length ≤ as.length ∧ isort (firsts [] (as.map f)) = bs.map f := by
  have al : PySem.W.AllAlike (as.map f) := by
    unfold sortable at h2
    simp only [Bool.and_eq_true] at h2
    exact alikeAmong_iff.mp h2.1.1
  obtain ⟨nd, hm⟩ := firsts_nodup (as.map f) [] (by simpa using al) (by simp)
  have al2 : PySem.W.AllAlike (firsts [] (as.map f)) := fun a ha b hb => al a (by simpa using (hm a).mp ha) b (by simpa using (hm b).mp hb)
  have rs := isort_rise al2 nd
  obtain ⟨bs, hb, hP⟩ := map_of (f := f) (P := fun b => b ∈ as) (xs := isort (firsts [] (as.map f))) fun d hd => by
    have h3 := (hm d).mp ((isort_perm _).mem_iff.mp hd)
    rcases h3 with h3 | h3
    · cases h3
    · obtain ⟨a, ha, rfl⟩ := List.mem_map.mp h3
      exact ⟨a, rfl, ha⟩
  refine ⟨bs, ?_, ?_, hP, fun a ha => ?_, ?_, ?_, hb⟩
  · show (if setOk (as.map f) = true ∧ sortable (as.map f) = true then R.ok (PyData.list (isort (firsts [] (as.map f)))) else R.no) = _
    rw [if_pos ⟨h1, h2⟩, hb]
  · show (if setOk (as.map f) = true ∧ sortable (as.map f) = true then R.ok (PyData.list (isort (firsts [] (as.map f)))) else R.no) = _
    rw [if_pos ⟨h1, h2⟩, hb]
  · rw [← hb]
    exact (isort_perm _).mem_iff.mpr ((hm _).mpr (.inr (List.mem_map_of_mem ha)))
  · rw [← hb]; exact rs
  · have := firsts_len (as.map f) []
    have e : (bs.map f).length = (firsts [] (as.map f)).length := by rw [← hb, isort_length]
    simp at e this; omega
theorem sorted_spec {α : Type} (f : α → D) (as : List α) (h2 : sortable (as.map f) = true) :
    ∃ bs : List α, o1 .sorted (.list (as.map f)) = .ok (.list (bs.map f)) ∧ o1 .sorted (.tuple (as.map f)) = .ok (.list (bs.map f)) ∧ (bs.map f).Perm (as.map f) ∧ (∀ b ∈ bs, b ∈ as) ∧ bs.length = as.length ∧ isort (as.map f) = bs.map f := by
  obtain ⟨bs, hb, hP⟩ := map_of (f := f) (P := fun b => b ∈ as) (xs := isort (as.map f)) fun d hd => by
    have h3 := (isort_perm _).mem_iff.mp hd
    obtain ⟨a, ha, rfl⟩ := List.mem_map.mp h3
    exact ⟨a, rfl, ha⟩
  refine ⟨bs, ?_, ?_, ?_, hP, ?_, hb⟩
  · show sortD (as.map f) = _
    unfold sortD
    rw [if_pos h2, hb]
  · show sortD (as.map f) = _
    unfold sortD
    rw [if_pos h2, hb]
  · rw [← hb]; exact isort_perm _
  · have e : (bs.map f).length = (as.map f).length := by rw [← hb, isort_length]
    simpa using e
theorem isort_idem {xs : List D} (h : PySem.W.AllAlike xs) : isort (isort xs) = isort xs := isort_eq (fun a ha b hb => h a ((isort_perm _).mem_iff.mp ha) b ((isort_perm _).mem_iff.mp hb)) (isort_perm xs)
/-- lists that rise are as isort leaves them -/
theorem isort_of_rise {xs : List D} (h : xs.Pairwise Lt) (al : PySem.W.AllAlike xs) : isort xs = xs := by
  refine sorted_one al (isort_perm xs) (List.Perm.refl _) (isort_sorted al) (h.imp fun {a b} hab => ?_)
  exact lt_le hab

/-! ### typed data -/
abbrev Tst := Nat × Str
structure Pl where
  kinds : List Str
  rules : List (List Tst)
  bars : List Tst
abbrev En := List (List Str)
def tsD (t : Tst) : D := .tuple [.int t.1, .str t.2]
def rlD (r : List Tst) : D := .tuple (r.map tsD)
def plD (p : Pl) : D := .tuple [ct p.kinds, .tuple (p.rules.map rlD), rlD p.bars]
def enD (e : En) : D := .tuple (e.map ct)
def bkD (b : List En) : D := .tuple (b.map enD)

/-! ### depths -/
theorem depAll_le {xs : List D} {n : Nat} (h : ∀ d ∈ xs, d.depth ≤ n) : PyData.depthAll xs ≤ n := by
  induction xs with
  | nil => simp [PyData.depthAll]
  | cons x r ih =>
    have h1 := h x List.mem_cons_self
    have h2 := ih fun d hd => h d (List.mem_cons_of_mem _ hd)
    simp [PyData.depthAll]; omega
theorem dep_tup {xs : List D} {n : Nat} (h : ∀ d ∈ xs, d.depth ≤ n) : (PyData.tuple xs).depth ≤ n + 1 := by
  have := depAll_le h
  simp [PyData.depth]; omega
theorem dep_lst {xs : List D} {n : Nat} (h : ∀ d ∈ xs, d.depth ≤ n) : (PyData.list xs).depth ≤ n + 1 := by
  have := depAll_le h
  simp [PyData.depth]; omega
theorem dep_ct' (ws : List Str) : (ct ws).depth ≤ 2 := by
  unfold ct
  refine dep_tup fun d hd => ?_
  obtain ⟨w, _, rfl⟩ := List.mem_map.mp hd
  simp [PyData.depth]
theorem dep_ts (t : Tst) : (tsD t).depth ≤ 2 := by
  unfold tsD
  refine dep_tup fun d hd => ?_
  rcases List.mem_cons.mp hd with rfl | hd
  · simp [PyData.depth]
  · rcases List.mem_cons.mp hd with rfl | hd
    · simp [PyData.depth]
    · cases hd
theorem dep_rl (r : List Tst) : (rlD r).depth ≤ 3 := by
  unfold rlD
  refine dep_tup fun d hd => ?_
  obtain ⟨w, _, rfl⟩ := List.mem_map.mp hd
  exact dep_ts w
theorem dep_en (e : En) : (enD e).depth ≤ 3 := by
  unfold enD
  refine dep_tup fun d hd => ?_
  obtain ⟨w, _, rfl⟩ := List.mem_map.mp hd
  exact dep_ct' w
/-! ### alike -/
theorem alikeAll_map {α β : Type} {f : α → D} {g : β → D} (h : ∀ a b, PySem.W.alike (f a) (g b) = true) : ∀ (as : List α) (bs : List β), PySem.W.alikeAll (as.map f) (bs.map g) = true
  | [], _ => by simp [PySem.W.alikeAll]
  | _ :: _, [] => by simp [PySem.W.alikeAll]
  | a :: as, b :: bs => by simp [PySem.W.alikeAll, h a b, alikeAll_map h as bs]
theorem alike_ct (a b : List Str) : PySem.W.alike (ct a) (ct b) = true := by
  show PySem.W.alikeAll _ _ = true
  exact alikeAll_map (fun _ _ => rfl) a b
theorem alike_ts (a b : Tst) : PySem.W.alike (tsD a) (tsD b) = true := rfl
theorem alike_rl (a b : List Tst) : PySem.W.alike (rlD a) (rlD b) = true := by
  show PySem.W.alikeAll _ _ = true
  exact alikeAll_map alike_ts a b
theorem alike_en (a b : En) : PySem.W.alike (enD a) (enD b) = true := by
  show PySem.W.alikeAll _ _ = true
  exact alikeAll_map alike_ct a b
/-! ### keys -/
theorem keyOks_map {α : Type} {f : α → D} (h : ∀ a, keyOk (f a) = true) : ∀ as : List α, keyOks (as.map f) = true
  | [] => rfl
  | a :: as => by simp [keyOks, h a, keyOks_map h as]
theorem key_ct (a : List Str) : keyOk (ct a) = true := keyOks_map (f := PyData.str) (fun _ => rfl) a
theorem key_ts (a : Tst) : keyOk (tsD a) = true := rfl
theorem key_rl (a : List Tst) : keyOk (rlD a) = true := keyOks_map key_ts a
theorem key_en (a : En) : keyOk (enD a) = true := keyOks_map key_ct a
theorem deep_of {xs : List D} (h : keyOk (.tuple xs) = true) (h2 : (PyData.tuple xs).depth ≤ 8) : deepKey (.tuple xs) = true := by
  have h' : keyOks xs = true := h
  simp [deepKey, h', h2]
theorem setOk_deep {α : Type} {f : α → D} {as : List α} (h : ∀ a ∈ as, deepKey (f a) = true) (hl : as.length ≤ 76) : setOk (as.map f) = true := by
  unfold setOk
  have : (as.map f).all deepKey = true := by
    simp only [List.all_eq_true, List.mem_map]
    rintro d ⟨a, ha, rfl⟩
    exact h a ha
  simp [this, hl]
theorem sortable_tup {α : Type} {f : α → D} {as : List α} (h : ∀ a ∈ as, ∀ b ∈ as, PySem.W.alike (f a) (f b) = true) (hn : ∀ a ∈ as, neTup (f a) = true) (hd : ∀ a ∈ as, (f a).depth ≤ 40) : sortable (as.map f) = true := by
  unfold sortable
  have h1 : alikeAmong (as.map f) = true := alikeAmong_iff.mpr fun a ha b hb => by
    obtain ⟨x, hx, rfl⟩ := List.mem_map.mp ha
    obtain ⟨y, hy, rfl⟩ := List.mem_map.mp hb
    exact h x hx y hy
  have h2 : (as.map f).all neTup = true := by
    simp only [List.all_eq_true, List.mem_map]
    rintro d ⟨a, ha, rfl⟩
    exact hn a ha
  have h3 : ((as.map f).all fun x => decide (x.depth ≤ 40)) = true := by
    simp only [List.all_eq_true, List.mem_map, decide_eq_true_eq]
    rintro d ⟨a, ha, rfl⟩
    exact hd a ha
  simp [h1, h2, h3]
theorem sortable_flat {α : Type} {f : α → D} {as : List α} (h : ∀ a ∈ as, ∀ b ∈ as, PySem.W.alike (f a) (f b) = true) (hn : ∀ a ∈ as, noTup (f a) = true) (hd : ∀ a ∈ as, (f a).depth ≤ 40) : sortable (as.map f) = true := by
  unfold sortable
  have h1 : alikeAmong (as.map f) = true := alikeAmong_iff.mpr fun a ha b hb => by
    obtain ⟨x, hx, rfl⟩ := List.mem_map.mp ha
    obtain ⟨y, hy, rfl⟩ := List.mem_map.mp hb
    exact h x hx y hy
  have h2 : (as.map f).all noTup = true := by
    simp only [List.all_eq_true, List.mem_map]
    rintro d ⟨a, ha, rfl⟩
    exact hn a ha
  have h3 : ((as.map f).all fun x => decide (x.depth ≤ 40)) = true := by
    simp only [List.all_eq_true, List.mem_map, decide_eq_true_eq]
    rintro d ⟨a, ha, rfl⟩
    exact hd a ha
  simp [h1, h2, h3]
/-! ### ts, rl, en are one to one -/
theorem ts_inj {a b : Tst} (h : tsD a = tsD b) : a = b := by
  unfold tsD at h
  have h2 := congrArg (fun d => match d with | PyData.tuple xs => xs | _ => []) h
  simp at h2
  exact Prod.ext (by omega) h2.2
theorem str_inj {a b : List Str} (h : a.map PyData.str = b.map PyData.str) : a = b :=
  (List.map_inj_right (fun x y h => by cases h; rfl)).mp h
theorem ct_inj {a b : List Str} (h : ct a = ct b) : a = b := by
  unfold ct at h; injection h with h; exact str_inj h
theorem rl_inj {a b : List Tst} (h : rlD a = rlD b) : a = b := by
  unfold rlD at h; injection h with h
  exact (List.map_inj_right (fun x y h => ts_inj h)).mp h
theorem en_inj {a b : En} (h : enD a = enD b) : a = b := by
  unfold enD at h; injection h with h
  exact (List.map_inj_right (fun x y h => ct_inj h)).mp h
theorem bk_inj {a b : List En} (h : bkD a = bkD b) : a = b := by
  unfold bkD at h; injection h with h
  exact (List.map_inj_right (fun x y h => en_inj h)).mp h
theorem eqv_en (a b : En) : PyData.eqv (enD a) (enD b) = decide (a = b) := by
  rw [Bool.eq_iff_iff, decide_eq_true_eq, eqv_rfl' (alike_en a b)]
  exact ⟨en_inj, fun h => by rw [h]⟩
theorem eqv_ct (a b : List Str) : PyData.eqv (ct a) (ct b) = decide (a = b) := by
  rw [Bool.eq_iff_iff, decide_eq_true_eq, eqv_rfl' (alike_ct a b)]
  exact ⟨ct_inj, fun h => by rw [h]⟩
end Lw

set_option Elab.async false
set_option linter.all false
set_option autoImplicit false
set_option maxRecDepth 100000
set_option maxHeartbeats 4000000
/-! SpA: what the functions of words answer. -/
namespace Lw
open PySem PySem.Spec L2 Fz
@[simp] theorem sne0 : (Str.ofString "same" = Str.ofString "near") = False := eq_false (by decide +kernel)
@[simp] theorem sne1 : (Str.ofString "same" = Str.ofString "unlike") = False := eq_false (by decide +kernel)
@[simp] theorem sne2 : (Str.ofString "same" = Str.ofString "far") = False := eq_false (by decide +kernel)
@[simp] theorem sne3 : (Str.ofString "same" = Str.ofString "both") = False := eq_false (by decide +kernel)
@[simp] theorem sne4 : (Str.ofString "near" = Str.ofString "same") = False := eq_false (by decide +kernel)
@[simp] theorem sne5 : (Str.ofString "near" = Str.ofString "unlike") = False := eq_false (by decide +kernel)
@[simp] theorem sne6 : (Str.ofString "near" = Str.ofString "far") = False := eq_false (by decide +kernel)
@[simp] theorem sne7 : (Str.ofString "near" = Str.ofString "both") = False := eq_false (by decide +kernel)
@[simp] theorem sne8 : (Str.ofString "unlike" = Str.ofString "same") = False := eq_false (by decide +kernel)
@[simp] theorem sne9 : (Str.ofString "unlike" = Str.ofString "near") = False := eq_false (by decide +kernel)
@[simp] theorem sne10 : (Str.ofString "unlike" = Str.ofString "far") = False := eq_false (by decide +kernel)
@[simp] theorem sne11 : (Str.ofString "unlike" = Str.ofString "both") = False := eq_false (by decide +kernel)
@[simp] theorem sne12 : (Str.ofString "far" = Str.ofString "same") = False := eq_false (by decide +kernel)
@[simp] theorem sne13 : (Str.ofString "far" = Str.ofString "near") = False := eq_false (by decide +kernel)
@[simp] theorem sne14 : (Str.ofString "far" = Str.ofString "unlike") = False := eq_false (by decide +kernel)
@[simp] theorem sne15 : (Str.ofString "far" = Str.ofString "both") = False := eq_false (by decide +kernel)
@[simp] theorem sne16 : (Str.ofString "both" = Str.ofString "same") = False := eq_false (by decide +kernel)
@[simp] theorem sne17 : (Str.ofString "both" = Str.ofString "near") = False := eq_false (by decide +kernel)
@[simp] theorem sne18 : (Str.ofString "both" = Str.ofString "unlike") = False := eq_false (by decide +kernel)
@[simp] theorem sne19 : (Str.ofString "both" = Str.ofString "far") = False := eq_false (by decide +kernel)
@[simp] theorem sne20 : (Str.ofString "all" = Str.ofString "shared") = False := eq_false (by decide +kernel)
@[simp] theorem sne21 : (Str.ofString "all" = Str.ofString "least") = False := eq_false (by decide +kernel)
@[simp] theorem sne22 : (Str.ofString "all" = Str.ofString "greatest") = False := eq_false (by decide +kernel)
@[simp] theorem sne23 : (Str.ofString "all" = Str.ofString "agreed") = False := eq_false (by decide +kernel)
@[simp] theorem sne24 : (Str.ofString "shared" = Str.ofString "all") = False := eq_false (by decide +kernel)
@[simp] theorem sne25 : (Str.ofString "shared" = Str.ofString "least") = False := eq_false (by decide +kernel)
@[simp] theorem sne26 : (Str.ofString "shared" = Str.ofString "greatest") = False := eq_false (by decide +kernel)
@[simp] theorem sne27 : (Str.ofString "shared" = Str.ofString "agreed") = False := eq_false (by decide +kernel)
@[simp] theorem sne28 : (Str.ofString "least" = Str.ofString "all") = False := eq_false (by decide +kernel)
@[simp] theorem sne29 : (Str.ofString "least" = Str.ofString "shared") = False := eq_false (by decide +kernel)
@[simp] theorem sne30 : (Str.ofString "least" = Str.ofString "greatest") = False := eq_false (by decide +kernel)
@[simp] theorem sne31 : (Str.ofString "least" = Str.ofString "agreed") = False := eq_false (by decide +kernel)
@[simp] theorem sne32 : (Str.ofString "greatest" = Str.ofString "all") = False := eq_false (by decide +kernel)
@[simp] theorem sne33 : (Str.ofString "greatest" = Str.ofString "shared") = False := eq_false (by decide +kernel)
@[simp] theorem sne34 : (Str.ofString "greatest" = Str.ofString "least") = False := eq_false (by decide +kernel)
@[simp] theorem sne35 : (Str.ofString "greatest" = Str.ofString "agreed") = False := eq_false (by decide +kernel)
@[simp] theorem sne36 : (Str.ofString "agreed" = Str.ofString "all") = False := eq_false (by decide +kernel)
@[simp] theorem sne37 : (Str.ofString "agreed" = Str.ofString "shared") = False := eq_false (by decide +kernel)
@[simp] theorem sne38 : (Str.ofString "agreed" = Str.ofString "least") = False := eq_false (by decide +kernel)
@[simp] theorem sne39 : (Str.ofString "agreed" = Str.ofString "greatest") = False := eq_false (by decide +kernel)
/-! ### operations -/
theorem cut_from {α : Type} (xs : List α) (k : Nat) : cutD xs (some (k : Int)) none = xs.drop k := by
  unfold cutD
  rw [HT.sIx_nat, HT.sIx_none]
  rcases Nat.le_total k xs.length with h | h
  · rw [Nat.min_eq_left h]
    exact List.take_of_length_le (by simp)
  · rw [Nat.min_eq_right h]
    rw [List.drop_of_length_le (Nat.le_refl _), List.drop_of_length_le h]; simp
theorem cut_to {α : Type} (xs : List α) (k : Nat) : cutD xs none (some (k : Int)) = xs.take k := by
  unfold cutD
  rw [HT.sIx_nat, HT.sIx_none]
  simp [List.take_eq_take_iff]
theorem cut_both {α : Type} (xs : List α) (j k : Nat) : cutD xs (some (j : Int)) (some (k : Int)) = (xs.drop j).take (k - j) := by
  unfold cutD
  rw [HT.sIx_nat, HT.sIx_nat]
  rcases Nat.le_total j xs.length with h | h
  · rw [Nat.min_eq_left h]
    rw [List.take_eq_take_iff]
    simp; omega
  · rw [Nat.min_eq_right h, List.drop_of_length_le (Nat.le_refl _), List.drop_of_length_le h]; simp
@[simp] theorem o_fromT1 (xs : List D) : o2 .from (.tuple xs) (.int 1) = .ok (.tuple xs.tail) := by
  show R.ok (PyData.tuple (cutD xs (some ((1 : Nat) : Int)) none)) = _
  rw [cut_from, List.drop_one]
@[simp] theorem o_fromL1 (xs : List D) : o2 .from (.list xs) (.int 1) = .ok (.list xs.tail) := by
  show R.ok (PyData.list (cutD xs (some ((1 : Nat) : Int)) none)) = _
  rw [cut_from, List.drop_one]
@[simp] theorem o_zipT (xs ys : List D) : o2 .zip (.tuple xs) (.tuple ys) = .ok (.list (zipD xs ys)) := rfl
@[simp] theorem o_zipL (xs ys : List D) : o2 .zip (.list xs) (.list ys) = .ok (.list (zipD xs ys)) := rfl
@[simp] theorem o_enmT (xs : List D) : o1 .enm (.tuple xs) = .ok (.list (enumD xs)) := rfl
@[simp] theorem o_enmL (xs : List D) : o1 .enm (.list xs) = .ok (.list (enumD xs)) := rfl
theorem turns_adj {f : D → R (Option D)} {Q : D → D → Prop} (hf : ∀ x y, Q x y → f (.tuple [x, y]) = .ok (some (.bool true))) : ∀ xs : List D, xs.Pairwise Q → turns f (zipD xs xs.tail) = .ok (xs.tail.map fun _ => .bool true)
  | [], _ => rfl
  | [_], _ => rfl
  | x :: y :: r, h => by
    obtain ⟨h1, h2⟩ := List.pairwise_cons.mp h
    have ih := turns_adj hf (y :: r) h2
    simp only [List.tail_cons] at ih ⊢
    show (f (.tuple [x, y])).bind _ = _
    rw [hf x y (h1 y List.mem_cons_self), R.bind_ok, ih, R.bind_ok]
    rfl
theorem all_true {α : Type} (xs : List α) : o1 .all (.list (xs.map fun _ => .bool true)) = .ok (.bool true) := by
  rw [all_map (b := fun _ => true)]; simp
theorem all_of {α : Type} {xs : List α} {b : α → Bool} (h : ∀ a ∈ xs, b a = true) : o1 .all (.list (xs.map fun a => .bool (b a))) = .ok (.bool true) := by
  rw [all_map, List.all_eq_true.mpr h]
@[simp] theorem isTup_ct (ws : List Str) : isTup (ct ws) = true := rfl
@[simp] theorem isTup_en (e : En) : isTup (enD e) = true := rfl
@[simp] theorem isTup_rl (e : List Tst) : isTup (rlD e) = true := rfl
@[simp] theorem isTup_ts (e : Tst) : isTup (tsD e) = true := rfl
@[simp] theorem isTup_pl (e : Pl) : isTup (plD e) = true := rfl
@[simp] theorem isTup_bk (e : List En) : isTup (bkD e) = true := rfl
@[simp] theorem len_ct (ws : List Str) : o1 .len (ct ws) = .ok (.int ws.length) := by simp [ct]
@[simp] theorem len_en (ws : En) : o1 .len (enD ws) = .ok (.int ws.length) := by simp [enD]
@[simp] theorem len_rl (ws : List Tst) : o1 .len (rlD ws) = .ok (.int ws.length) := by simp [rlD]
@[simp] theorem len_bk (ws : List En) : o1 .len (bkD ws) = .ok (.int ws.length) := by simp [bkD]
@[simp] theorem len_ts (t : Tst) : o1 .len (tsD t) = .ok (.int 2) := rfl
@[simp] theorem len_pl (p : Pl) : o1 .len (plD p) = .ok (.int 3) := rfl
@[simp] theorem items_en (e : En) : itemsOf (enD e) = some (e.map ct) := rfl
@[simp] theorem items_rl (e : List Tst) : itemsOf (rlD e) = some (e.map tsD) := rfl
@[simp] theorem items_bk (e : List En) : itemsOf (bkD e) = some (e.map enD) := rfl
@[simp] theorem ix_pl0 (p : Pl) : o2 .ix (plD p) (.int 0) = .ok (ct p.kinds) := rfl
@[simp] theorem ix_pl1 (p : Pl) : o2 .ix (plD p) (.int 1) = .ok (.tuple (p.rules.map rlD)) := rfl
@[simp] theorem ix_pl2 (p : Pl) : o2 .ix (plD p) (.int 2) = .ok (rlD p.bars) := rfl
@[simp] theorem ix_ts0 (t : Tst) : o2 .ix (tsD t) (.int 0) = .ok (.int t.1) := rfl
@[simp] theorem ix_ts1 (t : Tst) : o2 .ix (tsD t) (.int 1) = .ok (.str t.2) := rfl
@[simp] theorem seq_ts (t : Tst) : seqOf (tsD t) = some [.int t.1, .str t.2] := rfl
@[simp] theorem seq_pl (p : Pl) : seqOf (plD p) = some [ct p.kinds, .tuple (p.rules.map rlD), rlD p.bars] := rfl
theorem ix_map {α : Type} (f : α → D) (xs : List α) (n : Nat) (a : α) (h : xs[n]? = some a) : o2 .ix (.tuple (xs.map f)) (.int n) = .ok (f a) := by
  show ofO (L2.atI (xs.map f) (n : Int)) = _
  rw [atI_nat (xs := xs.map f) (j := n) (v := f a) (by simp [h])]; rfl
theorem ix_mapL {α : Type} (f : α → D) (xs : List α) (n : Nat) (a : α) (h : xs[n]? = some a) : o2 .ix (.list (xs.map f)) (.int n) = .ok (f a) := by
  show ofO (L2.atI (xs.map f) (n : Int)) = _
  rw [atI_nat (xs := xs.map f) (j := n) (v := f a) (by simp [h])]; rfl
/-! ### words -/
def Wd (w : Str) : Prop := m_is_word [.str w] = .ok (.bool true) ∧ 0 < w.cps.size
def ltS (a b : Str) : Prop := a.cps.toList < b.cps.toList
structure WC (ws : List Str) : Prop where
  wd : ∀ w ∈ ws, Wd w
  ri : ws.Pairwise ltS
theorem sp_is_content {ws : List Str} (h : WC ws) : m_is_content [ct ws] = .ok (.bool true) := by
  simp [m_is_content, run_fin, ir_is_content, startD]
  rw [turns_all (g := fun _ => .bool true) (fun w hw => by simp [(h.wd w hw).1])]
  simp [all_true]
  rw [ct, o_fromT1]
  simp
  rw [turns_adj (Q := fun a b => ∃ x y : Str, a = .str x ∧ b = .str y ∧ ltS x y) (fun x y ⟨a, b, e1, e2, hl⟩ => by
    subst e1; subst e2
    have hl' : a.cps.toList < b.cps.toList := hl
    simp [bindTg, seqOf, setAll, hl'])]
  · simp only [R.calm_ok, R.bind_ok]; exact all_true _
  · rw [List.pairwise_map]
    exact h.ri.imp fun {a b} hab => ⟨a, b, rfl, rfl, hab⟩
theorem sp_check_content {ws : List Str} (h : WC ws) : m_check_content [ct ws] = .ok .none := by
  simp [m_check_content, run_fin, ir_check_content, startD, sp_is_content h]
theorem sp_have_word (a b : List Str) : m_have_word [ct a, ct b] = .ok (.bool (a.any fun w => decide (w ∈ b))) := by
  simp [m_have_word, run_fin, ir_have_word, startD]
  rw [turns_all (g := fun w => .bool (decide (w ∈ b))) (fun w _ => by simp)]
  simp [any_map]
/-- the first letter, as a text -/
def hd (w : Str) : Str := ⟨#[w.cps.getD 0 0]⟩
def ne (w : Str) : Prop := 0 < w.cps.size
theorem o_hd {w : Str} (h : ne w) : o2 .ix (.str w) (.int 0) = .ok (.str (hd w)) := by
  show (ofO (L2.atI w.cps.toList 0)).bind (fun c => R.ok (PyData.str ⟨#[c]⟩)) = _
  have : L2.atI w.cps.toList 0 = some (w.cps.getD 0 0) := by
    have e := atI_nat (xs := w.cps.toList) (j := 0) (v := w.cps.getD 0 0) (by simp [ne] at h; simp [Array.getD, h])
    simpa using e
  rw [this]; rfl
theorem sp_have_near (a b : List Str) (ha : ∀ w ∈ a, ne w) (hb : ∀ w ∈ b, ne w) : m_have_near [ct a, ct b] = .ok (.bool (a.any fun w => decide (hd w ∈ b.map hd))) := by
  simp [m_have_near, run_fin, ir_have_near, startD]
  rw [turns_all (g := fun w => .str (hd w)) (fun w hw => by simp [o_hd (hb w hw)])]
  simp
  rw [turns_all (g := fun w => .bool (decide (hd w ∈ b.map hd))) (fun w hw => by
    simp only [List.set, look_succ, look_zero, R.bind_ok, asB_bool, if_true, o_hd (ha w hw)]
    rw [show (List.map (fun w => PyData.str (hd w)) b) = (b.map hd).map PyData.str by simp [List.map_map], o_memSL]; rfl)]
  simp [any_map]
def hw (a b : List Str) : Bool := a.any fun w => decide (w ∈ b)
def hn (a b : List Str) : Bool := a.any fun w => decide (hd w ∈ b.map hd)
abbrev conds : List Str := ["same", "near", "unlike", "far", "both"]
theorem conds_cases {c : Str} (h : c ∈ conds) : c = "same" ∨ c = "near" ∨ c = "unlike" ∨ c = "far" ∨ c = "both" := by simpa [conds] using h
def dh (c : Str) (a b : List Str) : Bool := if c = "same" then hw a b else if c = "near" then hn a b else if (a.isEmpty || b.isEmpty) = true then false else if c = "unlike" then !hw a b else (decide (c = "both") || !hn a b)
theorem sp_does_hold {c : Str} (a b : List Str) (hc : c ∈ conds) (ha : ∀ w ∈ a, ne w) (hb : ∀ w ∈ b, ne w) : m_does_hold [.str c, ct a, ct b] = .ok (.bool (dh c a b)) := by
  simp only [m_does_hold, run_fin, ir_does_hold, startD, g_SAME, g_NEAR, g_UNLIKE, g_BOTH]
  rcases conds_cases hc with rfl | rfl | rfl | rfl | rfl
  · simp [sp_have_word, dh, hw, run_fin, startD]
  · simp [sp_have_near a b ha hb, dh, hn, run_fin, startD]
  · cases ea : a.isEmpty <;> cases eb : b.isEmpty <;> simp [sp_have_word, dh, hw, ea, eb, run_fin, startD]
  · cases ea : a.isEmpty <;> cases eb : b.isEmpty <;> simp [sp_have_near a b ha hb, dh, hn, ea, eb, run_fin, startD]
  · cases ea : a.isEmpty <;> cases eb : b.isEmpty <;> simp [sp_have_near a b ha hb, dh, hn, ea, eb, run_fin, startD]
theorem filter_empty {α : Type} (p : α → Bool) (a : List α) : (a.filter p).isEmpty = !a.any p := by
  induction a with
  | nil => rfl
  | cons x a ih =>
    rw [List.filter_cons, List.any_cons]
    cases p x <;> simp [ih]
theorem any_hd (b : List Str) (w : Str) : (b.any fun v => decide (hd v = hd w)) = decide (hd w ∈ b.map hd) := by
  induction b with
  | nil => rfl
  | cons x b ih =>
    rw [List.any_cons, ih]
    by_cases h : hd x = hd w
    · simp [h]
    · simp [h, show ¬ hd w = hd x from fun e => h e.symm]
theorem any_eq {α : Type} (p q : α → Bool) (a : List α) (h : ∀ x ∈ a, p x = q x) : a.any p = a.any q := by
  induction a with
  | nil => rfl
  | cons x a ih => rw [List.any_cons, List.any_cons, h x List.mem_cons_self, ih fun y hy => h y (List.mem_cons_of_mem _ hy)]
theorem sp_law_holds {c : Str} (a b : List Str) (hc : c ∈ conds) (ha : ∀ w ∈ a, ne w) (hb : ∀ w ∈ b, ne w) : m_law_holds [.str c, ct a, ct b] = .ok (.bool (dh c a b)) := by
  simp only [m_law_holds, run_fin, ir_law_holds, startD]
  simp [run_fin, startD]
  rw [turns_ok (p := fun w => !(b.filter fun v => decide (hd v = hd w)).isEmpty) (g := fun w => .str w) (fun w hw' => by
    simp
    rw [turns_ok (p := fun v => decide (hd v = hd w)) (g := fun v => .str v) (fun v hv => by simp [o_hd (hb v hv), o_hd (ha w hw')]; split <;> simp_all)]
    simp
    split <;> rfl)]
  simp
  rw [turns_ok (p := fun w => decide (w ∈ b)) (g := fun w => .str w) (fun w _ => by simp; split <;> simp_all)]
  have hne : (List.filter (fun w => !(List.filter (fun v => decide (hd v = hd w)) b).isEmpty) a).isEmpty = !hn a b := by
    rw [filter_empty]
    congr 1
    refine any_eq _ _ _ fun w _ => ?_
    rw [filter_empty, Bool.not_not, any_hd]
  have hse : (List.filter (fun w => decide (w ∈ b)) a).isEmpty = !hw a b := filter_empty _ _
  have e2 : (PyData.tuple [PyData.str (Str.ofString "same"), PyData.str (Str.ofString "near")]) = ct ["same", "near"] := rfl
  rw [e2]
  simp only [R.bind_ok, R.calm_ok, R.toS_ok, bind_one, SR.thn_nx, List.set, o_memS]
  rcases conds_cases hc with rfl | rfl | rfl | rfl | rfl
  · simp [dh, hse]
  · simp [dh, hne]
  · cases ea : a.isEmpty <;> cases eb : b.isEmpty <;> simp [dh, hne, hse, ea, eb, selD]
  · cases ea : a.isEmpty <;> cases eb : b.isEmpty <;> simp [dh, hne, hse, ea, eb, selD]
  · cases ea : a.isEmpty <;> cases eb : b.isEmpty <;> simp [dh, hne, hse, ea, eb, selD]
theorem hw_symm (a b : List Str) : hw a b = hw b a := by
  unfold hw
  rw [Bool.eq_iff_iff]
  simp only [List.any_eq_true, decide_eq_true_eq]
  constructor <;> (rintro ⟨w, h1, h2⟩; exact ⟨w, h2, h1⟩)
theorem hn_symm (a b : List Str) : hn a b = hn b a := by
  unfold hn
  rw [Bool.eq_iff_iff]
  simp only [List.any_eq_true, decide_eq_true_eq, List.mem_map]
  constructor <;> (rintro ⟨w, h1, v, h2, h3⟩; exact ⟨v, h2, w, h1, h3.symm⟩)
theorem dh_symm (c : Str) (a b : List Str) : dh c a b = dh c b a := by
  unfold dh
  rw [hw_symm a b, hn_symm a b, Bool.or_comm a.isEmpty]

end Lw
set_option Elab.async false
set_option linter.all false
set_option autoImplicit false
set_option maxRecDepth 100000
set_option maxHeartbeats 4000000
/-! SpB: what the functions of plans and matching answer. -/
namespace Lw
open PySem PySem.Spec L2 Fz
theorem o_ltT {xs ys : List D} (h : Lt (.tuple xs) (.tuple ys)) (hd : (PyData.tuple xs).depth ≤ 60) : o2 .lt (.tuple xs) (.tuple ys) = .ok (.bool true) := by
  show (if PySem.W.alike (.tuple xs) (.tuple ys) = true ∧ canEq (.tuple xs) (.tuple ys) = true then R.ok (PyData.bool (ltD (.tuple xs) (.tuple ys))) else R.no) = _
  rw [if_pos ⟨h.1, can_l hd⟩, h.2]
/-- data that can be compared by o2 .lt -/
def LtO (a b : D) : Prop := o2 .lt a b = .ok (.bool true)
theorem lt_ts {a b : Tst} (h : Lt (tsD a) (tsD b)) : LtO (tsD a) (tsD b) := o_ltT h (Nat.le_trans (dep_ts a) (by decide))
theorem lt_rl {a b : List Tst} (h : Lt (rlD a) (rlD b)) : LtO (rlD a) (rlD b) := o_ltT h (Nat.le_trans (dep_rl a) (by decide))
theorem lt_en {a b : En} (h : Lt (enD a) (enD b)) : LtO (enD a) (enD b) := o_ltT h (Nat.le_trans (dep_en a) (by decide))
theorem sp_is_rising {xs : List D} (h : xs.Pairwise LtO) : m_is_rising [.tuple xs] = .ok (.bool true) := by
  simp [m_is_rising, run_fin, ir_is_rising, startD]
  rw [turns_adj (Q := LtO) (fun x y hl => by
    have hl' : o2 .lt x y = .ok (.bool true) := hl
    simp [bindTg, seqOf, setAll, hl']) xs h]
  simp only [R.calm_ok, R.bind_ok]; exact all_true _
theorem sp_is_risingL {xs : List D} (h : xs.Pairwise LtO) : m_is_rising [.list xs] = .ok (.bool true) := by
  simp [m_is_rising, run_fin, ir_is_rising, startD]
  rw [turns_adj (Q := LtO) (fun x y hl => by
    have hl' : o2 .lt x y = .ok (.bool true) := hl
    simp [bindTg, seqOf, setAll, hl']) xs h]
  simp only [R.calm_ok, R.bind_ok]; exact all_true _
theorem sp_is_int (v lo hi : Int) : m_is_int [.int v, .int lo, .int hi] = .ok (.bool (decide (lo ≤ v) && decide (v ≤ hi))) := by
  by_cases h1 : lo ≤ v <;> by_cases h2 : v ≤ hi <;> simp [m_is_int, run_fin, ir_is_int, startD, isInt, isBool, h1, h2]
abbrev kinds5 : List Str := ["all", "shared", "least", "greatest", "agreed"]
abbrev singles : List Str := ["least", "greatest", "agreed"]
theorem g_SINGLE_eq : g_SINGLE = ct singles := rfl
theorem g_KINDS_eq : g_KINDS = ct kinds5 := rfl
theorem g_CONDITIONS_eq : g_CONDITIONS = ct conds := rfl
@[simp] theorem o_nmemS (w : Str) (ws : List Str) : o2 .nmem (.str w) (ct ws) = .ok (.bool (!decide (w ∈ ws))) := by
  rw [ct, o_nmemT (dep_str w), memD_str]
theorem ct2 (a b : Str) : PyData.tuple [.str a, .str b] = ct [a, b] := rfl
def nth {α : Type} (xs : List α) (i : Nat) (d : α) : α := xs.getD i d
theorem nth_eq {α : Type} {xs : List α} {i : Nat} {d : α} (h : i < xs.length) : nth xs i d = xs[i] := by simp [nth, List.getD, h]
theorem nth_get {α : Type} {xs : List α} {i : Nat} {d : α} (h : i < xs.length) : xs[i]? = some (nth xs i d) := by rw [nth_eq h]; simp [h]
theorem nth_mem {α : Type} {xs : List α} {i : Nat} {d : α} (h : i < xs.length) : nth xs i d ∈ xs := by rw [nth_eq h]; exact List.getElem_mem h
theorem nth_out {α : Type} {xs : List α} {i : Nat} {d : α} (h : xs.length ≤ i) : nth xs i d = d := by simp [nth, List.getD, List.getElem?_eq_none h]
theorem nth_of {α : Type} {xs : List α} {i : Nat} {d a : α} (h : xs[i]? = some a) : nth xs i d = a := by simp [nth, List.getD, h]
structure WT (kinds : List Str) (t : Tst) : Prop where
  lt : t.1 < kinds.length
  co : t.2 ∈ conds
  si : t.2 = "near" ∨ t.2 = "far" → nth kinds t.1 "" ∈ singles
theorem ix_ct (ws : List Str) (n : Nat) (h : n < ws.length) : o2 .ix (ct ws) (.int n) = .ok (.str (nth ws n "")) := by
  rw [ct]
  exact ix_map PyData.str ws n _ (nth_get h)
theorem sp_is_test {kinds : List Str} {t : Tst} (h : WT kinds t) : m_is_test [ct kinds, tsD t] = .ok (.bool true) := by
  have h1 : ((0 : Int) ≤ t.1) := by omega
  have h2 : (t.1 : Int) ≤ (kinds.length : Int) - 1 := by have := h.lt; omega
  simp [m_is_test, run_fin, ir_is_test, startD, sp_is_int, h1, h2, bindTg, setAll, g_CONDITIONS_eq, h.co, g_NEAR, g_FAR, ct2, g_SINGLE_eq, ix_ct kinds t.1 h.lt]
  by_cases h3 : t.2 = "near" ∨ t.2 = "far"
  · have h4 := h.si h3
    rcases h3 with h3 | h3 <;> simp [h3] <;> simpa using h4
  · have h5 : ¬ t.2 = "near" := fun e => h3 (.inl e)
    have h6 : ¬ t.2 = "far" := fun e => h3 (.inr e)
    simp [h5, h6]
structure WR (kinds : List Str) (n : Nat) (r : List Tst) : Prop where
  lo : n ≤ r.length
  hi : r.length ≤ 3
  ts : ∀ t ∈ r, WT kinds t
  ri : (r.map tsD).Pairwise Lt
theorem ri_ts {r : List Tst} (h : (r.map tsD).Pairwise Lt) : (r.map tsD).Pairwise LtO := by
  rw [List.pairwise_map] at h ⊢
  exact h.imp fun {a b} hab => lt_ts hab
theorem ri_rl {r : List (List Tst)} (h : (r.map rlD).Pairwise Lt) : (r.map rlD).Pairwise LtO := by
  rw [List.pairwise_map] at h ⊢
  exact h.imp fun {a b} hab => lt_rl hab
theorem sp_are_tests {kinds : List Str} {n : Nat} {r : List Tst} (h : WR kinds n r) : m_are_tests [ct kinds, rlD r, .int n] = .ok (.bool true) := by
  have h1 : (n : Int) ≤ r.length := by have := h.lo; omega
  have h2 : (r.length : Int) ≤ 3 := by have := h.hi; omega
  simp [m_are_tests, run_fin, ir_are_tests, startD, h1, h2, g_MAX_TESTS]
  rw [turns_all (g := fun _ => .bool true) (fun t ht => by simp [sp_is_test (h.ts t ht)])]
  have e : m_is_rising [rlD r] = .ok (.bool true) := sp_is_rising (ri_ts h.ri)
  simp [all_true, e]
structure WP (p : Pl) : Prop where
  k1 : 1 ≤ p.kinds.length
  k2 : p.kinds.length ≤ 3
  ks : ∀ k ∈ p.kinds, k ∈ kinds5
  r1 : 1 ≤ p.rules.length
  r2 : p.rules.length ≤ 3
  rs : ∀ r ∈ p.rules, WR p.kinds 1 r
  ri : (p.rules.map rlD).Pairwise Lt
  bs : WR p.kinds 0 p.bars
theorem sp_are_kinds {ks : List Str} (h1 : 1 ≤ ks.length) (h2 : ks.length ≤ 3) (h3 : ∀ k ∈ ks, k ∈ kinds5) : m_are_kinds [ct ks] = .ok (.bool true) := by
  have h1' : (1 : Int) ≤ ks.length := by omega
  have h2' : (ks.length : Int) ≤ 3 := by omega
  simp [m_are_kinds, run_fin, ir_are_kinds, startD, h1', h2', g_MAX_FIELDS]
  rw [turns_all (g := fun _ => .bool true) (fun t ht => by
    have := h3 t ht
    simp only [List.set, look_succ, look_zero, R.bind_ok, asB_bool, if_true, o_isStr, isStr_str, g_KINDS_eq, o_memS, this, decide_true])]
  simp [all_true]
theorem sp_is_plan {p : Pl} (h : WP p) : m_is_plan [plD p] = .ok (.bool true) := by
  have h1' : (1 : Int) ≤ p.rules.length := by have := h.r1; omega
  have h2' : (p.rules.length : Int) ≤ 3 := by have := h.r2; omega
  simp [m_is_plan, run_fin, ir_is_plan, startD, sp_are_kinds h.k1 h.k2 h.ks, bindTg, setAll, h1', h2', g_MAX_RULES]
  rw [turns_all (g := fun _ => .bool true) (fun t ht => by
    have := sp_are_tests (h.rs t ht)
    simp at this
    simp [this])]
  have hb := sp_are_tests h.bs
  simp at hb
  simp [all_true, sp_is_rising (ri_rl h.ri), hb]
theorem sp_check_plan {p : Pl} (h : WP p) : m_check_plan [plD p] = .ok .none := by
  simp [m_check_plan, run_fin, ir_check_plan, startD, sp_is_plan h]
/-! entries -/
structure WE (p : Pl) (e : En) : Prop where
  len : e.length = p.kinds.length
  wc : ∀ c ∈ e, WC c
  si : ∀ i, nth p.kinds i "" ∈ singles → (nth e i []).length ≤ 1
theorem zip_map {α β : Type} (f : α → D) (g : β → D) : ∀ (as : List α) (bs : List β), zipD (as.map f) (bs.map g) = (as.zip bs).map fun p => .tuple [f p.1, g p.2]
  | [], _ => by simp [zipD]
  | _ :: _, [] => by simp [zipD]
  | a :: as, b :: bs => by simp [zipD, zip_map f g as bs]
theorem sp_has_entry {p : Pl} {e : En} (h : WE p e) : m_has_entry [plD p, enD e] = .ok (.bool true) := by
  simp [m_has_entry, run_fin, ir_has_entry, startD, h.len]
  rw [turns_all (g := fun _ => .bool true) (fun t ht => by simp [sp_is_content (h.wc t ht)])]
  simp [all_true]
  rw [ct, enD, o_zipT, zip_map]
  simp
  rw [turns_all (g := fun _ => .bool true) (fun q hq => by
    obtain ⟨i, hi⟩ := List.mem_iff_getElem?.mp hq
    have hs := h.si i
    rw [List.getElem?_zip_eq_some] at hi
    have e1 : nth p.kinds i "" = q.1 := nth_of hi.1
    have e2 : nth e i [] = q.2 := nth_of hi.2
    rw [e1, e2] at hs
    by_cases hm : q.1 ∈ singles
    · have := hs hm
      have h1 : (q.2.length : Int) ≤ 1 := by omega
      simp only [bindTg, seqOf, List.length_cons, List.length_nil, if_true, setAll, R.bind_ok, List.set, ev_or, evO_cons, evO_one, ev_b, ev_var, ev_cst, ev_u, look_succ, look_zero, asB_bool, g_SINGLE_eq, o_nmemS, hm, decide_true, Bool.not_true, Bool.false_eq_true, if_false, len_ct, o_le, h1]
    · simp only [bindTg, seqOf, List.length_cons, List.length_nil, if_true, setAll, R.bind_ok, List.set, ev_or, evO_cons, evO_one, ev_b, ev_var, ev_cst, ev_u, look_succ, look_zero, asB_bool, g_SINGLE_eq, o_nmemS, hm, decide_false, Bool.not_false])]
  simp only [R.calm_ok, R.bind_ok]; exact all_true _
theorem sp_check_entry {p : Pl} {e : En} (h : WE p e) : m_check_entry [plD p, enD e] = .ok .none := by
  simp [m_check_entry, run_fin, ir_check_entry, startD, sp_has_entry h]
theorem sp_check_two {p : Pl} {a b : En} (hp : WP p) (ha : WE p a) (hb : WE p b) : m_check_two [plD p, enD a, enD b] = .ok .none := by
  simp [m_check_two, run_fin, ir_check_two, startD, sp_check_plan hp, sp_check_entry ha, sp_check_entry hb]
structure WB (p : Pl) (b : List En) : Prop where
  len : b.length ≤ 8
  en : ∀ e ∈ b, WE p e
  so : isort (b.map enD) = b.map enD
theorem en_ne {p : Pl} (hp : WP p) {e : En} (h : WE p e) : neTup (enD e) = true := by
  have h1 := hp.k1
  have h2 := h.len
  cases e with
  | nil => simp at h2; omega
  | cons c r => rfl
theorem sortable_en {p : Pl} (hp : WP p) {b : List En} (h : ∀ e ∈ b, WE p e) : sortable (b.map enD) = true :=
  sortable_tup (fun x _ y _ => alike_en x y) (fun x hx => en_ne hp (h x hx)) (fun x _ => Nat.le_trans (dep_en x) (by decide))
theorem sp_has_book {p : Pl} {b : List En} (hp : WP p) (h : WB p b) : m_has_book [plD p, bkD b] = .ok (.bool true) := by
  have h1 : ¬ (8 : Int) < b.length := by have := h.len; omega
  have hs : o1 .sorted (bkD b) = .ok (.list (b.map enD)) := by
    show sortD _ = _
    unfold sortD
    rw [if_pos (sortable_en hp h.en), h.so]
  have hl : o1 .lst (bkD b) = .ok (.list (b.map enD)) := rfl
  simp [m_has_book, run_fin, ir_has_book, startD, h1, g_MAX_BOOK]
  rw [turns_all (g := fun _ => .bool true) (fun t ht => by simp [sp_has_entry (h.en t ht)])]
  simp [all_true, hs, hl]
  have hd : (PyData.list (b.map enD)).depth ≤ 60 := by
    refine Nat.le_trans (dep_lst (n := 3) fun d hd => ?_) (by decide)
    obtain ⟨w, _, rfl⟩ := List.mem_map.mp hd
    exact dep_en w
  rw [o_eq (can_l hd)]
  have : PyData.eqv (PyData.list (b.map enD)) (PyData.list (b.map enD)) = true := by
    refine (eqv_rfl' ?_).mpr rfl
    show PySem.W.alikeAll _ _ = true
    exact alikeAll_map alike_en b b
  simp [this]
theorem sp_check_book {p : Pl} {b : List En} (hp : WP p) (h : WB p b) : m_check_book [plD p, bkD b] = .ok .none := by
  simp [m_check_book, run_fin, ir_check_book, startD, sp_has_book hp h]
end Lw

set_option Elab.async false
set_option linter.all false
set_option autoImplicit false
set_option maxRecDepth 100000
set_option maxHeartbeats 4000000
/-! SpC: what the functions of matching answer. -/
namespace Lw
open PySem PySem.Spec L2 Fz
theorem Wd.ne {w : Str} (h : Wd w) : ne w := h.2
theorem WC.ne {ws : List Str} (h : WC ws) : ∀ w ∈ ws, ne w := fun w hw => (h.wd w hw).2
theorem wc_nil : WC [] := ⟨fun _ h => (by cases h), List.Pairwise.nil⟩
theorem WE.get {p : Pl} {e : En} (h : WE p e) (i : Nat) : WC (nth e i []) := by
  by_cases hi : i < e.length
  · exact h.wc _ (nth_mem hi)
  · rw [nth_out (Nat.le_of_not_lt hi)]; exact wc_nil
theorem ix_en {e : En} {n : Nat} (h : n < e.length) : o2 .ix (enD e) (.int n) = .ok (ct (nth e n [])) := by
  rw [enD]
  exact ix_map ct e n _ (nth_get h)
theorem ix_bk {b : List En} {n : Nat} (h : n < b.length) : o2 .ix (bkD b) (.int n) = .ok (enD (nth b n [])) := by
  rw [bkD]
  exact ix_map enD b n _ (nth_get h)
/-- a test holds between two entries -/
def ht (a b : En) (t : Tst) : Bool := dh t.2 (nth a t.1 []) (nth b t.1 [])
theorem ht_symm (a b : En) (t : Tst) : ht a b t = ht b a t := dh_symm _ _ _
theorem sp_has_test {p : Pl} {a b : En} {t : Tst} (ha : WE p a) (hb : WE p b) (h : WT p.kinds t) : m_has_test [tsD t, enD a, enD b] = .ok (.bool (ht a b t)) := by
  have h1 : t.1 < a.length := by rw [ha.len]; exact h.lt
  have h2 : t.1 < b.length := by rw [hb.len]; exact h.lt
  simp [m_has_test, run_fin, ir_has_test, startD, bindTg, setAll, ix_en h1, ix_en h2, sp_does_hold _ _ h.co (ha.get t.1).ne (hb.get t.1).ne, ht]
theorem enum_map {α : Type} (f : α → D) (d : α) (xs : List α) : enumD (xs.map f) = (List.range xs.length).map fun (i : Nat) => .tuple [.int i, f (nth xs i d)] := by
  unfold enumD
  rw [List.length_map]
  refine List.map_congr_left fun i hi => ?_
  have hi' : i < xs.length := by simpa using hi
  rw [nth_eq hi']
  simp [List.getD, hi']
def rulesOf (p : Pl) (a b : En) : List Nat := (List.range p.rules.length).filter fun i => (nth p.rules i []).all (ht a b)
theorem sp_find_rules {p : Pl} {a b : En} (hp : WP p) (ha : WE p a) (hb : WE p b) : m_find_rules [plD p, enD a, enD b] = .ok (.list ((rulesOf p a b).map fun (i : Nat) => .int i)) := by
  simp [m_find_rules, run_fin, ir_find_rules, startD, enum_map rlD []]
  rw [turns_ok (p := fun i => (nth p.rules i []).all (ht a b)) (g := fun (i : Nat) => .int i) (fun i hi => by
    have hi' : i < p.rules.length := by simpa using hi
    have hr := hp.rs _ (nth_mem (d := []) hi')
    simp [bindTg, seqOf, setAll]
    rw [turns_all (g := fun t => .bool (ht a b t)) (fun t ht' => by simp [sp_has_test ha hb (hr.ts t ht')])]
    simp [all_map]
    split <;> simp_all)]
  simp [rulesOf]
theorem sp_find_bars {p : Pl} {a b : En} (hp : WP p) (ha : WE p a) (hb : WE p b) : m_find_bars [plD p, enD a, enD b] = .ok (.list ((p.bars.filter (ht a b)).map tsD)) := by
  simp [m_find_bars, run_fin, ir_find_bars, startD]
  rw [turns_ok (p := ht a b) (g := tsD) (fun t ht' => by
    simp [sp_has_test ha hb (hp.bs.ts t ht')]
    split <;> simp_all)]
  simp
/-- two entries match -/
def mt (p : Pl) (a b : En) : Bool := !(rulesOf p a b).isEmpty && (p.bars.filter (ht a b)).isEmpty
theorem rulesOf_symm (p : Pl) (a b : En) : rulesOf p a b = rulesOf p b a := by
  unfold rulesOf
  congr 1
  funext i
  congr 1
  funext t
  exact ht_symm a b t
theorem mt_symm (p : Pl) (a b : En) : mt p a b = mt p b a := by
  unfold mt
  rw [rulesOf_symm, show ht a b = ht b a from funext fun t => ht_symm a b t]
theorem sp_find_match {p : Pl} {a b : En} (hp : WP p) (ha : WE p a) (hb : WE p b) : m_find_match [plD p, enD a, enD b] = .ok (.bool (mt p a b)) := by
  simp [m_find_match, run_fin, ir_find_match, startD, sp_find_rules hp ha hb, sp_find_bars hp ha hb, mt]
  cases h1 : (rulesOf p a b).isEmpty <;> cases h2 : (p.bars.filter (ht a b)).isEmpty <;> simp_all
/-- the pairs of places -/
def prD (q : Nat × Nat) : D := .tuple [.int q.1, .int q.2]
def laterOf (p : Pl) (bk : List En) (i : Nat) : List (Nat × Nat) := ((List.range (bk.length - (i + 1))).map fun j => (i, i + 1 + j)).filter fun q => mt p (nth bk q.1 []) (nth bk q.2 [])
def matchesOf (p : Pl) (bk : List En) : List (Nat × Nat) := (List.range bk.length).flatMap (laterOf p bk)
theorem rng1 {n : Nat} (h : n ≤ 1000000) : o1 .rng (.int n) = .ok (.list ((List.range n).map fun (i : Nat) => .int i)) := by
  show (if -1000000 ≤ (n : Int) ∧ (n : Int) ≤ 1000000 then R.ok (PyData.list (rangeD 0 (n : Int).toNat)) else R.no) = _
  rw [if_pos (by omega)]; simp [rangeD]
theorem rng2 {i n : Nat} (hi : i ≤ 1000000) (h : n ≤ 1000000) : o2 .rng (.int i) (.int n) = .ok (.list ((List.range (n - i)).map fun (j : Nat) => .int ((i + j : Nat) : Int))) := by
  show (if -1000000 ≤ (i : Int) ∧ (i : Int) ≤ 1000000 ∧ -1000000 ≤ (n : Int) ∧ (n : Int) ≤ 1000000 then R.ok (PyData.list (rangeD i ((n : Int) - i).toNat)) else R.no) = _
  rw [if_pos (by omega)]
  simp only [rangeD]
  have : ((n : Int) - i).toNat = n - i := by omega
  rw [this]
  simp
/-! ### loops -/
theorem loopF_pre {α : Type} {f : D → Sd → SR} {mk : α → D} (st : List α → Sd) : ∀ (xs done : List α), (∀ pre a post, done ++ xs = pre ++ a :: post → f (mk a) (st pre) = .nx (st (pre ++ [a]))) → loopF f (xs.map mk) (st done) = .nx (st (done ++ xs))
  | [], done, _ => by simp
  | a :: xs, done, h => by
    rw [List.map_cons, loopF_cons, h done a xs rfl, SR.thn_nx, loopF_pre st xs (done ++ [a]) (fun pre b post e => h pre b post (by rw [← e]; simp))]
    simp
theorem for_pre {Φ : Nat → List D → R D} {F : Nat} {g : Tg} {e : E} {b : List S} {τ : Sd} {α : Type} {mk : α → D} {xs : List α} {st : List α → Sd} (h0 : τ = st []) (hsrc : ((ev Φ e τ).bind fun d => ofO (itemsOf d)) = .ok (xs.map mk))
    (h : ∀ pre a post, xs = pre ++ a :: post → ((bindTg g (mk a) (st pre)).toS fun τ2 => Fz.xs Φ F b τ2) = .nx (st (pre ++ [a]))) : x1 Φ F (.for_ g e b) τ = .nx (st xs) := by
  rw [x1_for, hsrc, R.toS_ok, h0]
  have := loopF_pre (f := fun x τ => (bindTg g x τ).toS (fun τ2 => Fz.xs Φ F b τ2)) (mk := mk) st xs [] (by simpa using h)
  simpa using this
theorem loopF_inv {α : Type} {f : D → Sd → SR} {mk : α → D} (I : List α → Sd → Prop) : ∀ (xs done : List α), (∀ pre a post, done ++ xs = pre ++ a :: post → ∀ τ, I pre τ → ∃ τ', f (mk a) τ = .nx τ' ∧ I (pre ++ [a]) τ') → ∀ τ, I done τ → ∃ τ', loopF f (xs.map mk) τ = .nx τ' ∧ I (done ++ xs) τ'
  | [], done, _, τ, h => ⟨τ, by simp, by simpa using h⟩
  | a :: xs, done, h, τ, hi => by
    obtain ⟨τ1, e1, i1⟩ := h done a xs rfl τ hi
    obtain ⟨τ2, e2, i2⟩ := loopF_inv I xs (done ++ [a]) (fun pre b post e => h pre b post (by rw [← e]; simp)) τ1 i1
    exact ⟨τ2, by rw [List.map_cons, loopF_cons, e1, SR.thn_nx, e2], by simpa using i2⟩
theorem for_inv {Φ : Nat → List D → R D} {F : Nat} {g : Tg} {e : E} {b : List S} {τ : Sd} {α : Type} {mk : α → D} {xs : List α} (I : List α → Sd → Prop) (h0 : I [] τ) (hsrc : ((ev Φ e τ).bind fun d => ofO (itemsOf d)) = .ok (xs.map mk))
    (h : ∀ pre a post, xs = pre ++ a :: post → ∀ τ, I pre τ → ∃ τ', ((bindTg g (mk a) τ).toS fun τ2 => Fz.xs Φ F b τ2) = .nx τ' ∧ I (pre ++ [a]) τ') : ∃ τ', x1 Φ F (.for_ g e b) τ = .nx τ' ∧ I xs τ' := by
  rw [x1_for, hsrc, R.toS_ok]
  have := loopF_inv (f := fun x τ => (bindTg g x τ).toS (fun τ2 => Fz.xs Φ F b τ2)) (mk := mk) I xs [] (by simpa using h) τ h0
  simpa using this
theorem loopF_find {α : Type} {f : D → Sd → SR} {mk : α → D} {st : Option Sv → Sd} {p : α → Bool} {d : D} : ∀ {xs : List α}, (∀ a ∈ xs, ∀ o, f (mk a) (st o) = if p a = true then .rt d else .nx (st (some (.val (mk a))))) → ∀ o, ∃ o', loopF f (xs.map mk) (st o) = if xs.any p = true then .rt d else .nx (st o')
  | [], _, o => ⟨o, by simp⟩
  | a :: xs, h, o => by
    obtain ⟨o', e⟩ := loopF_find (fun b hb => h b (List.mem_cons_of_mem _ hb)) (some (.val (mk a)))
    refine ⟨o', ?_⟩
    rw [List.map_cons, loopF_cons, h a List.mem_cons_self, List.any_cons]
    cases p a
    · simp [e]
    · simp
/-- what a loop's variable holds behind some turns -/
def lastv {α : Type} (mk : α → D) (o : Option Sv) (l : List α) : Option Sv := match l.getLast? with
  | some a => some (.val (mk a))
  | none => o
@[simp] theorem lastv_nil {α : Type} (mk : α → D) (o : Option Sv) : lastv mk o [] = o := rfl
@[simp] theorem lastv_app {α : Type} (mk : α → D) (o : Option Sv) (l : List α) (a : α) : lastv mk o (l ++ [a]) = some (.val (mk a)) := by simp [lastv]
@[simp] theorem own_succ (a : Option Sv) (τ : Sd) (i : Nat) : ownAt (a :: τ) (i + 1) = ownAt τ i := by simp [ownAt]
@[simp] theorem own_zero (xs : List D) (τ : Sd) : ownAt (some (.own xs) :: τ) 0 = .ok xs := rfl
@[simp] theorem frz_own0 (xs : List D) (τ : Sd) : frz1 (some (.own xs) :: τ) 0 = some (.val (.list xs)) :: τ := rfl
@[simp] theorem frz1_succ (a : Option Sv) (τ : Sd) (i : Nat) : frz1 (a :: τ) (i + 1) = a :: frz1 τ i := by
  unfold frz1
  simp only [List.getElem?_cons_succ]
  cases h : τ[i]? with
  | none => rfl
  | some o => cases o with
    | none => rfl
    | some v => cases v <;> rfl
theorem laterOf_len (p : Pl) (bk : List En) (i : Nat) : (laterOf p bk i).length ≤ bk.length := by
  unfold laterOf
  refine Nat.le_trans (List.length_filter_le _ _) ?_
  simp
theorem flat_len {α β : Type} (g : α → List β) (n : Nat) : ∀ (xs : List α), (∀ a ∈ xs, (g a).length ≤ n) → (xs.flatMap g).length ≤ xs.length * n
  | [], _ => by simp
  | a :: xs, h => by
    have h1 := h a List.mem_cons_self
    have h2 := flat_len g n xs fun b hb => h b (List.mem_cons_of_mem _ hb)
    simp only [List.flatMap_cons, List.length_append, List.length_cons, Nat.succ_mul]
    omega
theorem sp_find_matches {p : Pl} {bk : List En} (hp : WP p) (hb : ∀ e ∈ bk, WE p e) (hl : bk.length ≤ 1000) : m_find_matches [plD p, bkD bk] = .ok (.list ((matchesOf p bk).map prD)) := by
  have hg : ∀ i, i < bk.length → WE p (nth bk i []) := fun i hi => hb _ (nth_mem hi)
  have h1 : bk.length ≤ 1000000 := by omega
  simp [m_find_matches, run_fin, ir_find_matches, startD, -x1_for]
  rw [for_pre (mk := fun (i : Nat) => PyData.int i) (xs := List.range bk.length) (st := fun pre => [some (.val (plD p)), some (.val (bkD bk)), some (.own ((pre.flatMap (laterOf p bk)).map prD)), lastv (fun (i : Nat) => PyData.int i) none pre, none])]
  · simp [frz, matchesOf]
  · rfl
  · simp [rng1 h1]
  intro pre i post e
  have hi : i < bk.length := by
    have : i ∈ List.range bk.length := by rw [e]; simp
    simpa using this
  have hr := rng2 (i := i + 1) (n := bk.length) (by omega) h1
  simp at hr
  simp [hr]
  rw [turns_ok (p := fun j => mt p (nth bk i []) (nth bk (i + 1 + j) [])) (g := fun (j : Nat) => prD (i, i + 1 + j)) (fun j hj => by
      have hj' : i + 1 + j < bk.length := by have : j < bk.length - (i + 1) := by simpa using hj
                                             omega
      have hx := ix_bk hj'
      simp at hx
      simp [ix_bk hi, hx, sp_find_match hp (hg i hi) (hg _ hj')]
      split <;> simp [prD])]
  have hy : List.map (fun j => prD (i, i + 1 + j)) (List.filter (fun j => mt p (nth bk i []) (nth bk (i + 1 + j) [])) (List.range (bk.length - (i + 1)))) = (laterOf p bk i).map prD := by
    unfold laterOf
    rw [List.filter_map, List.map_map]; rfl
  have hpre : ∀ j ∈ pre, j < bk.length := fun j hj => by
    have : j ∈ List.range bk.length := by rw [e]; simp [hj]
    simpa using this
  have hpl : pre.length ≤ bk.length := by
    have := congrArg List.length e
    simp at this; omega
  have hs : fits ((List.map (fun a => (laterOf p bk a).length) pre).sum + (laterOf p bk i).length) = true := by
    refine fits_of ?_
    have h2 := flat_len (laterOf p bk) bk.length pre fun j _ => laterOf_len p bk j
    rw [List.length_flatMap] at h2
    have h3 := laterOf_len p bk i
    have h4 : pre.length * bk.length ≤ 1000 * 1000 := Nat.mul_le_mul (by omega) hl
    omega
  rw [hy]
  simp [seqOf, hs]
end Lw

set_option Elab.async false
set_option linter.all false
set_option autoImplicit false
set_option maxRecDepth 100000
set_option maxHeartbeats 4000000
/-! SpD: what the law's own helpers answer: draws, plans, entries. -/
namespace Lw
open PySem PySem.Spec L2 Fz
@[simp] theorem o_fdiv2 (i j : Int) (h : 0 < j ∧ j < 2 ^ 64) : o2 .fdiv (.int i) (.int j) = .ok (.int (i / j)) := if_pos h
@[simp] theorem o_mod2 (i j : Int) (h : 0 < j) : o2 .mod (.int i) (.int j) = .ok (.int (i % j)) := if_pos h
theorem o_mulL (i j : Int) (h : j.natAbs < 2 ^ 64) : o2 .mul (.int i) (.int j) = .ok (.int (i * j)) := if_pos (.inr h)
theorem o_mulR (i j : Int) (h : i.natAbs < 2 ^ 64) : o2 .mul (.int i) (.int j) = .ok (.int (i * j)) := if_pos (.inl h)
/-! ### _law_pick -/
theorem loop_pick (c : Sd → R Bool) (f : Sd → SR) (s k m ce dr : Option Sv)
    (hc : ∀ r g : Int, c [s, k, m, ce, dr, some (.val (.int r)), some (.val (.int g))] = .ok (decide (0 < r) && decide (0 < g)))
    (hf : ∀ r g : Int, f [s, k, m, ce, dr, some (.val (.int r)), some (.val (.int g))] = .nx [s, k, m, ce, dr, some (.val (.int (r / 840))), some (.val (.int (g - 1)))]) :
    ∀ (n : Nat) (r g : Int), g.toNat < n → ∃ r' g' : Int, loopW c f n [s, k, m, ce, dr, some (.val (.int r)), some (.val (.int g))] = .nx [s, k, m, ce, dr, some (.val (.int r')), some (.val (.int g'))]
  | 0, _, _, h => by omega
  | n + 1, r, g, h => by
    unfold loopW
    rw [hc, R.toS_ok]
    by_cases hb : (decide (0 < r) && decide (0 < g)) = true
    · rw [if_pos hb, hf, SR.thn_nx]
      have : 0 < g := by simp at hb; exact hb.2
      exact loop_pick c f s k m ce dr hc hf n (r / 840) (g - 1) (by omega)
    · rw [if_neg hb]
      exact ⟨r, g, rfl⟩
theorem cell_ok (ns : List Int) (k : Int) (hk : 0 ≤ k) (r : Sd) :
    ∃ ce : Int, ev F_law_pick (.ite (.b .ne (.var 0) (.lst [])) (.b .ix (.var 0) (.b .mod (.u .int (.var 1)) (.u .len (.var 0)))) (.cst (.int 0))) (some (.val (.list (ns.map .int))) :: some (.val (.int k)) :: r) = .ok (.int ce) := by
  cases hn : ns with
  | nil => exact ⟨0, by simp⟩
  | cons n ns' =>
    rw [← hn]
    have hl : 0 < ns.length := by rw [hn]; simp
    have h0 : 0 ≤ k % (ns.length : Int) := Int.emod_nonneg _ (by omega)
    have h1 : k % (ns.length : Int) < ns.length := Int.emod_lt_of_pos _ (by omega)
    have hj : (k % (ns.length : Int)).toNat < ns.length := by omega
    refine ⟨ns[(k % (ns.length : Int)).toNat], ?_⟩
    have e1 : (ns.map PyData.int).isEmpty = false := by rw [hn]; rfl
    have e2 : o2 .ix (.list (ns.map .int)) (.int (k % (ns.length : Int))) = .ok (.int ns[(k % (ns.length : Int)).toNat]) := by
      show ofO (L2.atI (ns.map PyData.int) (k % (ns.length : Int))) = _
      have e := atI_nat (xs := ns.map PyData.int) (j := (k % (ns.length : Int)).toNat) (v := .int ns[(k % (ns.length : Int)).toNat]) (by simp [hj])
      rw [Int.toNat_of_nonneg h0] at e
      rw [e]; rfl
    simp [e1, o_mod2 k ns.length (by omega), e2]
theorem pick_ex (ns : List Int) (hl : ns.length ≤ 63) (k m : Int) (hk : 0 ≤ k) (hk2 : k < 100000) (hm : 0 < m) : ∃ c : Int, 0 ≤ c ∧ c < m ∧ m_law_pick [.list (ns.map .int), .int k, .int m] = .ok (.int c) := by
  obtain ⟨ce, hce⟩ := cell_ok ns k hk [some (.val (.int m)), none, none, none, none]
  have hpow : o2 .pow (.int 10) (.int 18) = .ok (.int 1000000000000000000) := rfl
  generalize hL : (if (1 : Int) > ((ns.map PyData.int).length : Int) then (1 : Int) else ((ns.map PyData.int).length : Int)) = L
  have hL0 : 0 < L ∧ L < 2 ^ 64 := by
    rw [← hL]; simp only [List.length_map]
    split <;> omega
  have hs : startD 7 [.list (ns.map .int), .int k, .int m] = [some (.val (.list (ns.map .int))), some (.val (.int k)), some (.val (.int m)), none, none, none, none] := rfl
  have hmx : o2 .max2 (.int ((ns.map PyData.int).length : Int)) (.int 1) = .ok (.int L) := by rw [o_max, hL]
  have hg : k / L < 1000000 := by
    have := Int.ediv_le_self L hk
    omega
  obtain ⟨r', g', hw⟩ := loop_pick (fun τ => (ev F_law_pick (.and [.b .gt (.var 5) (.cst (.int 0)), .b .gt (.var 6) (.cst (.int 0))]) τ).bind asB) (fun τ => xs F_law_pick Fu [
    .par [(5, false, .b .fdiv (.var 5) (.cst (.int 840))), (6, false, .b .sub (.var 6) (.cst (.int 1)))]] τ) (some (.val (.list (ns.map .int)))) (some (.val (.int k))) (some (.val (.int m))) (some (.val (.int ce))) none
    (fun r g => by by_cases h1 : 0 < r <;> by_cases h2 : 0 < g <;> simp [h1, h2]) (fun r g => by simp) Fu (ce / 1000000000000000000) (k / L) (by unfold Fu; omega)
  suffices hx : ∃ x : Int, m_law_pick [.list (ns.map .int), .int k, .int m] = .ok (.int (x % m)) by
    obtain ⟨x, hx⟩ := hx
    exact ⟨x % m, Int.emod_nonneg _ (by omega), Int.emod_lt_of_pos _ hm, hx⟩
  rw [m_law_pick, run_fin (k := 3) rfl, hs, ir_law_pick, xs_cons', x1_set, hce]
  simp only [R.toS_ok, bind_one, SR.thn_nx, xs_cons', x1_par, evs_cons, evs_nil, ev_b, ev_u, ev_var, ev_cst, List.map, List.set, look_succ, look_zero, R.bind_ok, hpow, o_lenL, hmx, o_fdiv2 _ _ hL0, o_fdiv2 _ 1000000000000000000 (by decide), setPar_val, setPar_nil]
  rw [x1_whl, hw]
  simp only [SR.thn_nx, x1_ife, ev_b, ev_var, ev_cst, look_succ, look_zero, R.bind_ok, o_gt, asB_bool, R.toS_ok]
  by_cases hr : 0 < r'
  · refine ⟨r' % 840, ?_⟩
    simp [hr, o_mod2 _ m hm]
  · simp only [hr, decide_false, Bool.false_eq_true, if_false, xs_nil', SR.thn_nx, x1_set, x1_ret, ev_b, ev_u, ev_var, ev_cst, look_succ, look_zero, R.bind_ok, o_mulL _ 31 (by decide), o_mulL _ 40692 (by decide), o_add, o_mulR 6151 _ (by decide), o_int, o_mod2 _ 2147483399 (by decide), o_mod2 _ 2147483629 (by decide), R.toS_ok, bind_one, List.set]
    generalize hd : ((ce * 31 + 6151 * (k + 1)) * 40692) % 2147483399 = dr
    have hdr : dr.natAbs < 2 ^ 64 := by
      have h1 : 0 ≤ dr := by rw [← hd]; exact Int.emod_nonneg _ (by decide)
      have h2 : dr < 2147483399 := by rw [← hd]; exact Int.emod_lt_of_pos _ (by decide)
      omega
    refine ⟨(dr * dr + dr / 31) % 2147483629, ?_⟩
    simp [o_mulL dr dr hdr, o_mod2 _ m hm]
/-- the number that is drawn -/
def pick (ns : List Int) (k m : Int) : Nat := match m_law_pick [.list (ns.map .int), .int k, .int m] with
  | .ok (.int c) => c.toNat
  | _ => 0
abbrev scr (ns : List Int) : D := .list (ns.map .int)
theorem sp_law_pick {ns : List Int} (hl : ns.length ≤ 63) (k m : Int) (hk : 0 ≤ k) (hk2 : k < 100000) (hm : 0 < m) : m_law_pick [.list (ns.map .int), .int k, .int m] = .ok (.int (pick ns k m)) := by
  obtain ⟨c, h0, h1, e⟩ := pick_ex ns hl k m hk hk2 hm
  unfold pick
  rw [e]
  simp only [Int.toNat_of_nonneg h0]
theorem pick_lt {ns : List Int} (hl : ns.length ≤ 63) (k m : Int) (hk : 0 ≤ k) (hk2 : k < 100000) (hm : 0 < m) : pick ns k m < m.toNat := by
  obtain ⟨c, h0, h1, e⟩ := pick_ex ns hl k m hk hk2 hm
  unfold pick
  rw [e]
  simp only; omega
/-! ### _law_bit -/
def bit (c : Int) (k : Nat) : Bool := decide ((c / 2 ^ k) % 2 = 1)
theorem halve (f : D → Sd → SR) (hf : ∀ (x : D) (c : Int) (p : D) (t : Option Sv), f x [some (.val (.int c)), some (.val p), t] = .nx [some (.val (.int (c / 2))), some (.val p), some (.val x)]) :
    ∀ (n : Nat) (lo c : Int) (p : D) (t : Option Sv), ∃ t', loopF f ((List.range n).map fun (i : Nat) => .int (lo + i)) [some (.val (.int c)), some (.val p), t] = .nx [some (.val (.int (c / 2 ^ n))), some (.val p), t']
  | 0, lo, c, p, t => ⟨t, by simp⟩
  | n + 1, lo, c, p, t => by
    obtain ⟨t', h⟩ := halve f hf n (lo + 1) (c / 2) p (some (.val (.int lo)))
    refine ⟨t', ?_⟩
    rw [List.range_succ_eq_map, List.map_cons, loopF_cons, List.map_map]
    have e1 : ((fun (i : Nat) => PyData.int (lo + i)) ∘ Nat.succ) = fun (i : Nat) => PyData.int (lo + 1 + i) := by
      funext i; simp; omega
    rw [e1, hf, SR.thn_nx]
    simp only [Int.natCast_zero, Int.add_zero]
    rw [h, Int.ediv_ediv, if_neg (by omega), Int.sub_zero, Int.pow_succ, Int.mul_comm]
theorem sp_law_bit (c : Int) (k : Nat) (hk : k ≤ 1000) : m_law_bit [.int c, .int k] = .ok (.bool (bit c k)) := by
  have hr : o1 .rng (.int k) = .ok (.list (rangeD 0 k)) := by
    show (if -1000000 ≤ (k : Int) ∧ (k : Int) ≤ 1000000 then R.ok (PyData.list (rangeD 0 (k : Int).toNat)) else R.no) = _
    rw [if_pos (by omega)]; simp
  simp [m_law_bit, run_fin, ir_law_bit, startD, hr, rangeD]
  obtain ⟨t, h⟩ := halve (fun x τ => (bindTg (.one 2) x τ).toS fun τ2 => ((ev F_law_bit (.b .fdiv (.var 0) (.cst (.int 2))) τ2).toS fun d => (bindTg (.one 0) d τ2).toS .nx).thn fun τ2 => .nx τ2) (fun x c p t => by simp) k 0 c (.int k) none
  simp at h
  rw [h]
  simp [bit]
end Lw

set_option Elab.async false
set_option linter.all false
set_option autoImplicit false
set_option maxRecDepth 100000
set_option maxHeartbeats 4000000
/-! SpE: drawn plans. -/
namespace Lw
open PySem PySem.Spec L2 Fz
theorem ts_deep (t : Tst) : deepKey (tsD t) = true := deep_of (key_ts t) (Nat.le_trans (dep_ts t) (by decide))
theorem rl_deep (t : List Tst) : deepKey (rlD t) = true := deep_of (key_rl t) (Nat.le_trans (dep_rl t) (by decide))
theorem rule_of {kinds : List Str} {ts : List Tst} (h : ∀ t ∈ ts, WT kinds t) (hl : ts.length ≤ 3) :
    ∃ r : List Tst, o1 .sset (.list (ts.map tsD)) = .ok (.list (r.map tsD)) ∧ WR kinds (min 1 ts.length) r := by
  obtain ⟨bs, h1, _, h3, h4, h5, h6, _⟩ := sset_spec tsD ts (setOk_deep (fun a _ => ts_deep a) (by omega)) (sortable_tup (fun a _ b _ => alike_ts a b) (fun a _ => rfl) (fun a _ => Nat.le_trans (dep_ts a) (by decide)))
  refine ⟨bs, h1, ⟨?_, by omega, fun t ht => h t (h3 t ht), h5⟩⟩
  cases ts with
  | nil => simp
  | cons t ts =>
    have := h4 t List.mem_cons_self
    cases bs with
    | nil => cases this
    | cons b bs => simp
theorem rl_ne {kinds : List Str} {r : List Tst} (h : WR kinds 1 r) : neTup (rlD r) = true := by
  have := h.lo
  cases r with
  | nil => simp at this
  | cons c r => rfl
theorem rules_of {kinds : List Str} {rs : List (List Tst)} (h : ∀ r ∈ rs, WR kinds 1 r) (hl : rs.length ≤ 3) (hn : rs ≠ []) :
    ∃ r : List (List Tst), o1 .sset (.list (rs.map rlD)) = .ok (.list (r.map rlD)) ∧ 1 ≤ r.length ∧ r.length ≤ 3 ∧ (∀ x ∈ r, WR kinds 1 x) ∧ (r.map rlD).Pairwise Lt := by
  obtain ⟨bs, h1, _, h3, h4, h5, h6, _⟩ := sset_spec rlD rs (setOk_deep (fun a _ => rl_deep a) (by omega)) (sortable_tup (fun a _ b _ => alike_rl a b) (fun a ha => rl_ne (h a ha)) (fun a _ => Nat.le_trans (dep_rl a) (by decide)))
  refine ⟨bs, h1, ?_, by omega, fun t ht => h t (h3 t ht), h5⟩
  cases rs with
  | nil => exact absurd rfl hn
  | cons t ts =>
    have := h4 t List.mem_cons_self
    cases bs with
    | nil => cases this
    | cons b bs => simp
theorem ix_nat {α : Type} (f : α → D) (xs : List α) (d : α) (n : Nat) (h : n < xs.length) : o2 .ix (.tuple (xs.map f)) (.int n) = .ok (f (nth xs n d)) := ix_map f xs n _ (nth_get h)
theorem ix_natL {α : Type} (f : α → D) (xs : List α) (d : α) (n : Nat) (h : n < xs.length) : o2 .ix (.list (xs.map f)) (.int n) = .ok (f (nth xs n d)) := ix_mapL f xs n _ (nth_get h)
theorem cutR_L {α : Type} (f : α → D) (xs : List α) (lo hi : Int) (j c : Nat) (h1 : lo = j) (h2 : hi = j + c) : cutR (.list (xs.map f)) (some lo) (some hi) = .ok (.list (((xs.drop j).take c).map f)) := by
  show R.ok (PyData.list (cutD _ _ _)) = _
  have h3 : hi = ((j + c : Nat) : Int) := by omega
  rw [h1, h3, cut_both, List.map_take, List.map_drop]
  congr 3
  omega
theorem to_L {α : Type} (f : α → D) (xs : List α) (hi : Int) (c : Nat) (h2 : hi = c) : o2 .to (.list (xs.map f)) (.int hi) = .ok (.list ((xs.take c).map f)) := by
  show R.ok (PyData.list (cutD _ _ _)) = _
  rw [h2, cut_to, List.map_take]
theorem add_L {xs ys : List D} (h : xs.length + ys.length ≤ 16000000) : o2 .add (.list xs) (.list ys) = .ok (.list (xs ++ ys)) := by
  show (if xs.length + ys.length ≤ sizeLine then R.ok (PyData.list (xs ++ ys)) else R.no) = _
  rw [if_pos (by rw [sizeLine_eq]; omega)]
theorem add_T {xs ys : List D} (h : xs.length + ys.length ≤ 16000000) : o2 .add (.tuple xs) (.tuple ys) = .ok (.tuple (xs ++ ys)) := by
  show (if xs.length + ys.length ≤ sizeLine then R.ok (PyData.tuple (xs ++ ys)) else R.no) = _
  rw [if_pos (by rw [sizeLine_eq]; omega)]
theorem ite_ok {c : Prop} [Decidable c] {α : Type} (a b : α) : (if c then R.ok a else R.ok b) = R.ok (if c then a else b) := by split <;> rfl
/-! the draws of a plan -/
abbrev kn5 : List Str := ["all", "agreed", "shared", "least", "greatest"]
abbrev nm5 : List Str := ["near", "same", "unlike", "far", "both"]
abbrev nm3 : List Str := ["same", "unlike", "both"]
def drKinds (ns : List Int) (at_ many : Nat) : List Str := (List.range many).map fun (k : Nat) => nth kn5 (pick ns (at_ + k) 5) ""
def drField (ns : List Int) (at_ many : Nat) (k : Nat) : Nat := pick ns (at_ + 5 + 2 * k) many
def drNames (ns : List Int) (at_ many : Nat) (k : Nat) : List Str := if nth (drKinds ns at_ many) (drField ns at_ many k) "" ∈ (["all", "shared"] : List Str) then nm3 else nm5
def drTest (ns : List Int) (at_ many : Nat) (k : Nat) : Tst := (drField ns at_ many k, nth (drNames ns at_ many k) (pick ns (at_ + 6 + 2 * k) (drNames ns at_ many k).length) "")
section
variable {ns : List Int} {at_ many : Nat} (hl : ns.length ≤ 63) (ha : at_ < 90000) (hm : 1 ≤ many) (hm3 : many ≤ 3)
include hl ha hm
theorem drField_lt (k : Nat) (hk : k < 7) : drField ns at_ many k < many := by
  have := pick_lt hl (at_ + 5 + 2 * k) many (by omega) (by omega) (by omega)
  unfold drField
  omega
omit hm in
theorem drKinds_len : (drKinds ns at_ many).length = many := by simp [drKinds]
omit hm in
theorem drKinds_mem (k : Str) (h : k ∈ drKinds ns at_ many) (hm3 : many ≤ 3) : k ∈ kinds5 := by
  obtain ⟨i, hi, rfl⟩ := List.mem_map.mp h
  have hi' : i < many := by simpa using hi
  have := pick_lt hl (at_ + i) 5 (by omega) (by omega) (by omega)
  have h2 : nth kn5 (pick ns (at_ + i) 5) "" ∈ kn5 := nth_mem (by simpa using this)
  revert h2
  generalize nth kn5 (pick ns (at_ + i) 5) "" = z
  simp only [kn5, kinds5, List.mem_cons, List.not_mem_nil, or_false]
  rintro (h | h | h | h | h) <;> simp [h]
theorem drTest_ok (k : Nat) (hk : k < 7) (hm3 : many ≤ 3) : WT (drKinds ns at_ many) (drTest ns at_ many k) := by
  have hf := drField_lt hl ha hm k hk
  have hp := pick_lt hl (at_ + 6 + 2 * k) (drNames ns at_ many k).length (by omega) (by omega) (by unfold drNames; split <;> simp)
  have hmem : (drTest ns at_ many k).2 ∈ drNames ns at_ many k := nth_mem (by simpa using hp)
  refine ⟨by rw [drKinds_len hl ha]; exact hf, ?_, fun h => ?_⟩
  · revert hmem
    unfold drNames
    generalize (drTest ns at_ many k).2 = z
    split <;> simp only [nm3, nm5, conds, List.mem_cons, List.not_mem_nil, or_false]
    · rintro (h | h | h) <;> simp [h]
    · rintro (h | h | h | h | h) <;> simp [h]
  · have hk5 := drKinds_mem hl ha (nth (drKinds ns at_ many) (drTest ns at_ many k).1 "") (nth_mem (by rw [drKinds_len hl ha]; exact hf)) hm3
    have e1 : (drTest ns at_ many k).1 = drField ns at_ many k := rfl
    by_cases hc : nth (drKinds ns at_ many) (drField ns at_ many k) "" ∈ (["all", "shared"] : List Str)
    · exfalso
      have e : drNames ns at_ many k = nm3 := by unfold drNames; rw [if_pos hc]
      rw [e] at hmem
      revert hmem
      rcases h with h | h <;> rw [h] <;> decide +kernel
    · rw [e1] at hk5 ⊢
      revert hk5 hc
      generalize nth (drKinds ns at_ many) (drField ns at_ many k) "" = z
      simp only [kinds5, singles, List.mem_cons, List.not_mem_nil, or_false]
      rintro (h | h | h | h | h) hc <;> simp [h] at hc ⊢
theorem sp_law_plan (hm3 : many ≤ 3) : ∃ p : Pl, WP p ∧ p.kinds = drKinds ns at_ many ∧ m_law_plan [.list (ns.map .int), .int at_, .int many] = .ok (plD p) := by
  simp [m_law_plan, run_fin, ir_law_plan, startD, -x1_for, rng1 (show many ≤ 1000000 by omega)]
  have t5 : PyData.tuple [PyData.str (Str.ofString "all"), PyData.str (Str.ofString "agreed"), PyData.str (Str.ofString "shared"), PyData.str (Str.ofString "least"), PyData.str (Str.ofString "greatest")] = .tuple (kn5.map .str) := rfl
  have n5 : PyData.tuple [PyData.str (Str.ofString "near"), PyData.str (Str.ofString "same"), PyData.str (Str.ofString "unlike"), PyData.str (Str.ofString "far"), PyData.str (Str.ofString "both")] = ct nm5 := rfl
  rw [turns_all (g := fun (k : Nat) => .str (nth kn5 (pick ns (at_ + k) 5) "")) (fun k hk => by
    have hk' : k < many := by simpa using hk
    have hlt := pick_lt hl (at_ + k) 5 (by omega) (by omega) (by omega)
    simp [sp_law_pick hl (at_ + k) 5 (by omega) (by omega) (by omega), t5]
    rw [ix_nat PyData.str kn5 "" _ (by simpa using hlt)]; simp)]
  have eK : PyData.tuple ((List.range many).map fun (k : Nat) => PyData.str (nth kn5 (pick ns (at_ + k) 5) "")) = ct (drKinds ns at_ many) := by
    simp [ct, drKinds]
  simp [-x1_for, eK]
  rw [for_pre (mk := fun (i : Nat) => PyData.int i) (xs := List.range 7) (st := fun pre => [some (.val (.list (ns.map .int))), some (.val (.int at_)), some (.val (.int many)), some (.val (ct (drKinds ns at_ many))), some (.own (pre.map fun k => tsD (drTest ns at_ many k))), lastv (fun (i : Nat) => PyData.int i) none pre, none, none, lastv (fun k => PyData.int (drField ns at_ many k)) none pre, lastv (fun k => ct (drNames ns at_ many k)) none pre])]
  · have hT : (List.range 7).map (fun k => tsD (drTest ns at_ many k)) = ((List.range 7).map (drTest ns at_ many)).map tsD := by rw [List.map_map]; rfl
    rw [hT]
    have hTl : ((List.range 7).map (drTest ns at_ many)).length = 7 := by simp
    have hTw : ∀ t ∈ (List.range 7).map (drTest ns at_ many), WT (drKinds ns at_ many) t := fun t ht => by
      obtain ⟨k, hk, rfl⟩ := List.mem_map.mp ht
      exact drTest_ok hl ha hm k (by simpa using hk) hm3
    generalize (List.range 7).map (drTest ns at_ many) = TT at hTl hTw
    generalize lastv (fun (i : Nat) => PyData.int i) none (List.range 7) = s5
    generalize lastv (fun k => PyData.int (drField ns at_ many k)) none (List.range 7) = s8
    generalize lastv (fun k => ct (drNames ns at_ many k)) none (List.range 7) = s9
    have p20 := sp_law_pick hl (at_ + 20) 3 (by omega) (by omega) (by omega)
    have p21 := sp_law_pick hl (at_ + 21) 3 (by omega) (by omega) (by omega)
    have p22 := sp_law_pick hl (at_ + 22) 2 (by omega) (by omega) (by omega)
    have p23 := sp_law_pick hl (at_ + 23) 2 (by omega) (by omega) (by omega)
    have p24 := sp_law_pick hl (at_ + 24) 3 (by omega) (by omega) (by omega)
    have q21 := pick_lt hl (at_ + 21) 3 (by omega) (by omega) (by omega)
    have q22 := pick_lt hl (at_ + 22) 2 (by omega) (by omega) (by omega)
    have q24 := pick_lt hl (at_ + 24) 3 (by omega) (by omega) (by omega)
    generalize pick ns (at_ + 20) 3 = c20 at p20
    generalize pick ns (at_ + 21) 3 = c21 at p21 q21
    generalize pick ns (at_ + 22) 2 = c22 at p22 q22
    generalize pick ns (at_ + 23) 2 = c23 at p23
    generalize pick ns (at_ + 24) 3 = c24 at p24 q24
    have i0 := ix_natL tsD TT (0, "") 0 (by omega)
    have hw0 : WT (drKinds ns at_ many) (nth TT 0 (0, "")) := hTw _ (nth_mem (by omega))
    generalize nth TT 0 (0, "") = t0 at i0 hw0
    simp only [Int.natCast_zero] at i0
    obtain ⟨f, hf, ef⟩ : ∃ f : Tst, WT (drKinds ns at_ many) f ∧ (if (0 : Int) < (c20 : Int) then (.tuple [.int t0.1, .str "same"] : D) else .tuple [.int t0.1, .str t0.2]) = tsD f := by
      by_cases hc : (0 : Int) < (c20 : Int)
      · exact ⟨(t0.1, "same"), ⟨hw0.lt, by simp [conds], fun h => by rcases h with h | h <;> simp at h⟩, by rw [if_pos hc]; rfl⟩
      · exact ⟨t0, hw0, by rw [if_neg hc]; rfl⟩
    have k1 := cutR_L tsD TT 1 (1 + c21) 1 c21 rfl rfl
    have k2 := cutR_L tsD TT 3 (4 + c22) 3 (1 + c22) rfl (by omega)
    have k3 := cutR_L tsD TT 5 (5 + c24) 5 c24 rfl rfl
    have sub : ∀ (j c : Nat), ∀ t ∈ (TT.drop j).take c, WT (drKinds ns at_ many) t := fun j c t ht => hTw t (List.mem_of_mem_drop (List.mem_of_mem_take ht))
    obtain ⟨r1, g1, w1⟩ := rule_of (ts := f :: (TT.drop 1).take c21) (kinds := drKinds ns at_ many) (fun t ht => by
      rcases List.mem_cons.mp ht with rfl | ht
      · exact hf
      · exact sub 1 c21 t ht) (by simp; omega)
    obtain ⟨r2, g2, w2⟩ := rule_of (ts := (TT.drop 3).take (1 + c22)) (sub 3 (1 + c22)) (by simp; omega)
    obtain ⟨bs, g3, w3⟩ := rule_of (ts := (TT.drop 5).take c24) (sub 5 c24) (by simp; omega)
    have w1' : WR (drKinds ns at_ many) 1 r1 := by simpa using w1
    have w2' : WR (drKinds ns at_ many) 1 r2 := by
      have e : min 1 ((TT.drop 3).take (1 + c22)).length = 1 := by simp; omega
      rw [e] at w2; exact w2
    have w3' : WR (drKinds ns at_ many) 0 bs := ⟨by omega, w3.hi, w3.ts, w3.ri⟩
    have k4 := to_L rlD [r1, r2] (1 + c23) (1 + c23) rfl
    obtain ⟨rs, g4, w4, w5, w6, w7⟩ := rules_of (rs := [r1, r2].take (1 + c23)) (kinds := drKinds ns at_ many) (fun r hr => by
      have := List.mem_of_mem_take hr
      simp at this
      rcases this with rfl | rfl
      · exact w1'
      · exact w2') (by simp; omega) (by rw [Nat.add_comm]; simp)
    refine ⟨⟨drKinds ns at_ many, rs, bs⟩, ⟨by rw [drKinds_len hl ha]; exact hm, by rw [drKinds_len hl ha]; exact hm3, fun k hk => drKinds_mem hl ha k hk hm3, w4, w5, w6, w7, w3'⟩, rfl, ?_⟩
    have a1 : o2 .add (.list [tsD f]) (.list (((TT.drop 1).take c21).map tsD)) = .ok (.list ((f :: (TT.drop 1).take c21).map tsD)) := add_L (by simp; omega)
    have e1 : PyData.tuple (r1.map tsD) = rlD r1 := rfl
    have e2 : PyData.tuple (r2.map tsD) = rlD r2 := rfl
    have e3 : [rlD r1, rlD r2] = [r1, r2].map rlD := rfl
    have ef' : PyData.tuple [.int t0.1, if 0 < c20 then .str "same" else .str t0.2] = tsD f := by
      rw [← ef]
      by_cases hc : 0 < c20
      · rw [if_pos hc, if_pos (by omega)]
      · rw [if_neg hc, if_neg (by omega)]
    simp only [List.map_cons, List.map_nil] at k4 a1 g1
    simp [i0, p20, ite_ok, ef', p21, k1, a1, g1, e1, p22, k2, g2, e2, p23, k4, g4, p24, k3, g3, fits_of, -List.map_take, -List.map_drop, -List.drop_one]
    rfl
  · rfl
  · exact congrArg (fun r => R.bind r fun d => ofO (itemsOf d)) (rng1 (n := 7) (by omega))
  · intro pre k post e
    have hk : k < 7 := by
      have : k ∈ List.range 7 := by rw [e]; simp
      simpa using this
    have hkm := drField_lt hl ha hm k hk
    have e1 := sp_law_pick hl (at_ + 5 + 2 * k) many (by omega) (by omega) (by omega)
    have e2 := sp_law_pick hl (at_ + 6 + 2 * k) (drNames ns at_ many k).length (by omega) (by omega) (by unfold drNames; split <;> simp)
    have ekn : o2 .ix (ct (drKinds ns at_ many)) (.int (pick ns (at_ + 5 + 2 * k) many)) = .ok (.str (nth (drKinds ns at_ many) (drField ns at_ many k) "")) := ix_ct _ _ (by rw [drKinds_len hl ha]; exact hkm)
    have em : PyData.tuple [PyData.str (Str.ofString "all"), PyData.str (Str.ofString "shared")] = ct ["all", "shared"] := rfl
    have c1 : cutR (ct nm5) (some 1) (some 3) = .ok (ct ["same", "unlike"]) := rfl
    have c2 : o2 .from (ct nm5) (.int 4) = .ok (ct ["both"]) := rfl
    have c3 : o2 .add (ct ["same", "unlike"]) (ct ["both"]) = .ok (ct nm3) := add_T (by simp)
    have hlt := pick_lt hl (at_ + 6 + 2 * k) (drNames ns at_ many k).length (by omega) (by omega) (by unfold drNames; split <;> simp)
    have i9 := ix_ct (drNames ns at_ many k) (pick ns (at_ + 6 + 2 * k) (drNames ns at_ many k).length) (by simpa using hlt)
    have en : (if nth (drKinds ns at_ many) (drField ns at_ many k) "" ∈ (["all", "shared"] : List Str) then ct nm3 else ct nm5) = ct (drNames ns at_ many k) := by
      unfold drNames; split <;> rfl
    have pl : pre.length ≤ 7 := by
      have := congrArg List.length e
      simp at this; omega
    simp only [R.toS_ok, bind_one, SR.thn_nx, xs_cons', xs_nil', x1_set, x1_app, ev_b, ev_u, ev_tup, ev_call, ev_ite, ev_cut, evs_cons, evs_nil, ev_var, ev_cst, List.set, look_succ, look_zero, R.bind_ok, asI_int, lastv_app, F_law_plan_law_pick, o_add, o_mulR 2 k (by decide), e1, ekn, n5, em, c1, c2, c3, o_memS, asB_bool, decide_eq_true_eq, ite_ok, en, len_ct, e2, i9, own_succ, own_zero, List.length_map, fits_of (show pre.length + 1 ≤ 16000000 by omega), if_true, List.map_append, List.map_cons, List.map_nil]
    rfl
end
end Lw

set_option Elab.async false
set_option linter.all false
set_option autoImplicit false
set_option maxRecDepth 100000
set_option maxHeartbeats 4000000
/-! SpF: drawn entries. -/
namespace Lw
open PySem PySem.Spec L2 Fz
@[simp] theorem setPar_own (τ : Sd) (i : Nat) (is : List (Nat × Bool)) (xs : List D) (ds : List D) : setPar τ ((i, true) :: is) (.list xs :: ds) = setPar (τ.set i (some (.own xs))) is ds := rfl
def isT : R D → Bool
  | .ok (.bool true) => true
  | _ => false
theorem isT_ok {r : R D} (h : isT r = true) : r = .ok (.bool true) := by
  unfold isT at h
  split at h
  · rfl
  · cases h
abbrev w4 : List Str := ["a", "ab", "b", "c"]
theorem wd_of {ws : List Str} (h : (ws.all fun w => isT (m_is_word [.str w]) && decide (0 < w.cps.size)) = true) : ∀ w ∈ ws, Wd w := fun w hw => by
  have := List.all_eq_true.mp h w hw
  simp only [Bool.and_eq_true, decide_eq_true_eq] at this
  exact ⟨isT_ok this.1, this.2⟩
theorem wc_w4 : WC w4 := ⟨wd_of (by decide +kernel), by unfold ltS; decide +kernel⟩
theorem WC.sub {a b : List Str} (h : WC b) (s : a.Sublist b) : WC a := ⟨fun w hw => h.wd w (s.subset hw), h.ri.sublist s⟩
theorem WC.one {w : Str} (h : Wd w) : WC [w] := ⟨fun v hv => by simp at hv; subst hv; exact h, List.pairwise_singleton _ _⟩
def drMany (c : Int) : List Str := ((List.range 4).filter (bit c)).map fun i => nth w4 i ""
theorem drMany_sub (c : Int) : (drMany c).Sublist w4 := by
  have : (drMany c).Sublist ((List.range 4).map fun i => nth w4 i "") := List.Sublist.map _ List.filter_sublist
  exact this
def drOne (c : Nat) : List Str := if 4 < c then [nth w4 (c % 4) ""] else []
theorem drOne_wc (c : Nat) : WC (drOne c) := by
  unfold drOne
  split
  · exact WC.one (wc_w4.wd _ (nth_mem (by simp; omega)))
  · exact wc_nil
def drCont (ns : List Int) (at_ : Nat) (kinds : List Str) (i : Nat) : List Str :=
  if nth kinds i "" ∈ (["all", "shared"] : List Str) then drMany (pick ns (at_ + i) 16) else drOne (pick ns (at_ + i) 16)
def drEntry (ns : List Int) (at_ : Nat) (kinds : List Str) : En := (List.range kinds.length).map (drCont ns at_ kinds)
theorem drEntry_we {p : Pl} (hp : WP p) (ns : List Int) (at_ : Nat) : WE p (drEntry ns at_ p.kinds) := by
  have hc : ∀ i, WC (drCont ns at_ p.kinds i) := fun i => by
    unfold drCont
    split
    · exact wc_w4.sub (drMany_sub _)
    · exact drOne_wc _
  refine ⟨by simp [drEntry], fun c hc' => ?_, fun i hi => ?_⟩
  · obtain ⟨i, _, rfl⟩ := List.mem_map.mp hc'
    exact hc i
  · by_cases h : i < p.kinds.length
    · have e : nth (drEntry ns at_ p.kinds) i [] = drCont ns at_ p.kinds i := by
        rw [nth_eq (by simpa [drEntry] using h)]
        simp [drEntry]
      rw [e]
      unfold drCont
      rw [if_neg]
      · unfold drOne; split <;> simp
      · revert hi
        generalize nth p.kinds i "" = z
        simp only [singles, List.mem_cons, List.not_mem_nil, or_false]
        rintro (h | h | h) <;> simp [h]
    · rw [nth_out (by simpa [drEntry] using h)]; simp
theorem sp_law_entry {ns : List Int} (hl : ns.length ≤ 63) {at_ : Nat} (ha : at_ < 90000) {p : Pl} (hp : WP p) : m_law_entry [.list (ns.map .int), .int at_, plD p] = .ok (enD (drEntry ns at_ p.kinds)) := by
  have W4 : PyData.tuple [PyData.str (Str.ofString "a"), PyData.str (Str.ofString "ab"), PyData.str (Str.ofString "b"), PyData.str (Str.ofString "c")] = ct w4 := rfl
  have hen : o1 .enm (ct p.kinds) = .ok (.list ((List.range p.kinds.length).map fun (i : Nat) => .tuple [.int i, .str (nth p.kinds i "")])) := by
    rw [ct, o_enmT, enum_map PyData.str ""]
  have hen4 : o1 .enm (ct w4) = .ok (.list ((List.range 4).map fun (i : Nat) => .tuple [.int i, .str (nth w4 i "")])) := by
    rw [ct, o_enmT, enum_map PyData.str ""]; rfl
  simp [m_law_entry, run_fin, ir_law_entry, startD, -x1_for, W4]
  rw [for_pre (mk := fun (i : Nat) => PyData.tuple [.int i, .str (nth p.kinds i "")]) (xs := List.range p.kinds.length) (st := fun pre => [some (.val (.list (ns.map .int))), some (.val (.int at_)), some (.val (plD p)), some (.val (ct w4)), some (.own (pre.map fun i => ct (drCont ns at_ p.kinds i))), lastv (fun (i : Nat) => PyData.int i) none pre, lastv (fun (i : Nat) => PyData.str (nth p.kinds i "")) none pre, lastv (fun (i : Nat) => PyData.int (pick ns (at_ + i) 16)) none pre, none, none])]
  · simp [enD, drEntry]
  · rfl
  · simp [hen]
  · intro pre k post e
    have hk : k < p.kinds.length := by
      have : k ∈ List.range p.kinds.length := by rw [e]; simp
      simpa using this
    have hk3 := hp.k2
    have e1 := sp_law_pick hl (at_ + k) 16 (by omega) (by omega) (by omega)
    have em : PyData.tuple [PyData.str (Str.ofString "all"), PyData.str (Str.ofString "shared")] = ct ["all", "shared"] := rfl
    have pl : pre.length ≤ 3 := by
      have := congrArg List.length e
      simp at this; omega
    have hf := fits_of (show pre.length + 1 ≤ 16000000 by omega)
    by_cases hc : nth p.kinds k "" ∈ (["all", "shared"] : List Str)
    · have ec : drCont ns at_ p.kinds k = drMany (pick ns (at_ + k) 16) := by unfold drCont; rw [if_pos hc]
      simp only [bindTg, seqOf, List.length_cons, List.length_nil, if_true, setAll, R.toS_ok, bind_one, SR.thn_nx, xs_cons', xs_nil', x1_set, x1_ife, ev_b, ev_call, ev_tup, evs_cons, evs_nil, ev_var, ev_cst, List.set, look_succ, look_zero, R.bind_ok, lastv_app, F_law_entry_law_pick, o_add, e1, em, o_memS, hc, decide_true, asB_bool, x1_app, own_succ, own_zero, ev_u, ev_comp, hen4, items_list, ofO_some, slots_tup, wipe_cons', wipe_nil']
      rw [turns_ok (p := fun i => bit (pick ns (at_ + k) 16) i) (g := fun (i : Nat) => .str (nth w4 i "")) (fun i hi => by
        have hi' : i < 4 := by simpa using hi
        simp [sp_law_bit (pick ns (at_ + k) 16) i (by omega), setAll]
        split <;> rfl)]
      simp [hf, ec, drMany, ct]
    · have ec : drCont ns at_ p.kinds k = drOne (pick ns (at_ + k) 16) := by unfold drCont; rw [if_neg hc]
      have hmod : o2 .mod (.int (pick ns (at_ + k) 16)) (.int 4) = .ok (.int ((pick ns (at_ + k) 16 % 4 : Nat) : Int)) := by
        rw [o_mod2 _ 4 (by decide)]; simp
      have hix := ix_ct w4 (pick ns (at_ + k) 16 % 4) (by simp; omega)
      have eo : (if (4 : Int) < (pick ns (at_ + k) 16 : Int) then PyData.tuple [.str (nth w4 (pick ns (at_ + k) 16 % 4) "")] else .tuple []) = ct (drOne (pick ns (at_ + k) 16)) := by
        unfold drOne
        by_cases h : 4 < pick ns (at_ + k) 16
        · rw [if_pos h, if_pos (by omega)]; rfl
        · rw [if_neg h, if_neg (by omega)]; rfl
      simp only [bindTg, seqOf, List.length_cons, List.length_nil, if_true, setAll, R.toS_ok, bind_one, SR.thn_nx, xs_cons', xs_nil', x1_set, x1_ife, ev_b, ev_call, ev_tup, evs_cons, evs_nil, ev_var, ev_cst, List.set, look_succ, look_zero, R.bind_ok, lastv_app, F_law_entry_law_pick, o_add, e1, em, o_memS, hc, decide_false, Bool.false_eq_true, if_false, asB_bool, x1_app, own_succ, own_zero, ev_u, ev_ite, o_gt, o_int, hmod, hix, ite_ok, decide_eq_true_eq, eo, List.length_map, hf, ec, List.map_append, List.map_cons, List.map_nil]
end Lw

set_option Elab.async false
set_option linter.all false
set_option autoImplicit false
set_option maxRecDepth 100000
set_option maxHeartbeats 4000000
/-! SpG: slots of a state that is not written out; the checked functions of matching. -/
namespace Lw
open PySem PySem.Spec L2 Fz
section
variable {τ : Sd} {i j : Nat} {v : Option Sv} {d : D} {xs : List D}
@[simp] theorem look_set_ne (h : i ≠ j) : look (List.set τ i v) j = look τ j := by simp [look, List.getElem?_set_ne h]
@[simp] theorem look_set_eq (h : i < τ.length) : look (List.set τ i (some (.val d))) i = .ok d := by simp [look, h]
@[simp] theorem peek_set_ne (h : i ≠ j) : peek (List.set τ i v) j = peek τ j := by simp [peek, List.getElem?_set_ne h]
@[simp] theorem peek_set_eq (h : i < τ.length) : peek (List.set τ i (some (.val d))) i = .ok d := by simp [peek, h]
@[simp] theorem peek_set_own (h : i < τ.length) : peek (List.set τ i (some (.own xs))) i = .ok (.list xs) := by simp [peek, h]
@[simp] theorem own_set_ne (h : i ≠ j) : ownAt (List.set τ i v) j = ownAt τ j := by simp [ownAt, List.getElem?_set_ne h]
@[simp] theorem own_set_eq (h : i < τ.length) : ownAt (List.set τ i (some (.own xs))) i = .ok xs := by simp [ownAt, h]
theorem own_peek (h : ownAt τ i = .ok xs) : peek τ i = .ok (.list xs) := by
  unfold ownAt at h
  unfold peek
  split at h
  · rename_i e
    rw [e]; cases h; rfl
  · cases h
theorem frz_own (h : ownAt τ i = .ok xs) : frz1 τ i = List.set τ i (some (.val (.list xs))) := by
  unfold ownAt at h
  unfold frz1
  split at h
  · rename_i e
    cases h; rfl
  · cases h
@[simp] theorem setAll_cons (i : Nat) (is : List Nat) (d : D) (ds : List D) : setAll τ (i :: is) (d :: ds) = setAll (List.set τ i (some (.val d))) is ds := rfl
@[simp] theorem setAll_nil : setAll τ [] [] = τ := rfl
@[simp] theorem bind_tupT (is : List Nat) (ds : List D) : bindTg (.tup is) (.tuple ds) τ = if ds.length = is.length then .ok (setAll τ is ds) else .no := rfl
end
theorem for_find {Φ : Nat → List D → R D} {F : Nat} {g : Tg} {e : E} {b : List S} {τ : Sd} {α : Type} {mk : α → D} {xs : List α} {st : Option Sv → Sd} {p : α → Bool} {d : D} {o : Option Sv} (h0 : τ = st o) (hsrc : ((ev Φ e τ).bind fun d => ofO (itemsOf d)) = .ok (xs.map mk))
    (h : ∀ a ∈ xs, ∀ o, ((bindTg g (mk a) (st o)).toS fun τ2 => Fz.xs Φ F b τ2) = if p a = true then .rt d else .nx (st (some (.val (mk a))))) : x1 Φ F (.for_ g e b) τ = if xs.any p = true then .rt d else .nx (st (lastv mk o xs)) := by
  rw [x1_for, hsrc, R.toS_ok, h0]
  clear hsrc h0
  suffices H : ∀ (ys : List α) (o : Option Sv), (∀ a ∈ ys, a ∈ xs) → loopF (fun x τ => (bindTg g x τ).toS (fun τ2 => Fz.xs Φ F b τ2)) (ys.map mk) (st o) = if ys.any p = true then .rt d else .nx (st (lastv mk o ys)) from H xs o fun a h => h
  intro ys
  induction ys with
  | nil => intro o _; simp
  | cons a ys ih =>
    intro o hs
    rw [List.map_cons, loopF_cons, h a (hs a List.mem_cons_self), List.any_cons]
    cases hp : p a with
    | true => simp
    | false =>
      simp only [Bool.false_eq_true, if_false, SR.thn_nx, Bool.false_or]
      rw [ih _ fun x hx => hs x (List.mem_cons_of_mem _ hx)]
      have : lastv mk (some (.val (mk a))) ys = lastv mk o (a :: ys) := by
        unfold lastv
        cases ys with
        | nil => rfl
        | cons y r => simp [List.getLast?_cons]
      rw [this]
theorem eq_self {d : D} (h : d.depth ≤ 60) (hr : PySem.W.alike d d = true) : o2 .eq d d = .ok (.bool true) := by
  rw [o_eq (can_l h), PySem.W.eqv_refl_alike d hr]
theorem ne_self {d : D} (h : d.depth ≤ 60) (hr : PySem.W.alike d d = true) : o2 .ne d d = .ok (.bool false) := by
  rw [o_ne (can_l h), PySem.W.eqv_refl_alike d hr]; rfl
theorem dep_mapL {α : Type} {f : α → D} {n : Nat} (h : ∀ a, (f a).depth ≤ n) (xs : List α) : (PyData.list (xs.map f)).depth ≤ n + 1 := dep_lst fun d hd => by
  obtain ⟨a, _, rfl⟩ := List.mem_map.mp hd
  exact h a
theorem dep_mapT {α : Type} {f : α → D} {n : Nat} (h : ∀ a, (f a).depth ≤ n) (xs : List α) : (PyData.tuple (xs.map f)).depth ≤ n + 1 := dep_tup fun d hd => by
  obtain ⟨a, _, rfl⟩ := List.mem_map.mp hd
  exact h a
theorem alike_mapL {α : Type} {f : α → D} (h : ∀ a b, PySem.W.alike (f a) (f b) = true) (xs ys : List α) : PySem.W.alike (.list (xs.map f)) (.list (ys.map f)) = true := alikeAll_map h xs ys
theorem alike_mapT {α : Type} {f : α → D} (h : ∀ a b, PySem.W.alike (f a) (f b) = true) (xs ys : List α) : PySem.W.alike (.tuple (xs.map f)) (.tuple (ys.map f)) = true := alikeAll_map h xs ys
theorem ne_ints (xs : List Nat) : o2 .ne (.list (xs.map fun (i : Nat) => .int i)) (.list (xs.map fun (i : Nat) => .int i)) = .ok (.bool false) :=
  ne_self (Nat.le_trans (dep_mapL (n := 1) (fun a => by simp [PyData.depth]) xs) (by decide)) (alike_mapL (fun _ _ => rfl) xs xs)
theorem ne_tests (xs : List Tst) : o2 .ne (.list (xs.map tsD)) (.list (xs.map tsD)) = .ok (.bool false) :=
  ne_self (Nat.le_trans (dep_mapL (n := 2) dep_ts xs) (by decide)) (alike_mapL alike_ts xs xs)
theorem dep_pr (q : Nat × Nat) : (prD q).depth ≤ 2 := dep_tup fun d hd => by
  rcases List.mem_cons.mp hd with rfl | hd
  · simp [PyData.depth]
  · rcases List.mem_cons.mp hd with rfl | hd
    · simp [PyData.depth]
    · cases hd
theorem alike_pr (a b : Nat × Nat) : PySem.W.alike (prD a) (prD b) = true := rfl
theorem ne_pairs (xs : List (Nat × Nat)) : o2 .ne (.list (xs.map prD)) (.list (xs.map prD)) = .ok (.bool false) :=
  ne_self (Nat.le_trans (dep_mapL (n := 2) dep_pr xs) (by decide)) (alike_mapL alike_pr xs xs)
section
variable {p : Pl} {a b : En} (hp : WP p) (ha : WE p a) (hb : WE p b)
include hp ha hb
theorem sp_rules_between : m_rules_between [plD p, enD a, enD b] = .ok (.list ((rulesOf p a b).map fun (i : Nat) => .int i)) := by
  simp [m_rules_between, run_fin, ir_rules_between, startD, sp_check_two hp ha hb, sp_find_rules hp ha hb]
theorem sp_bars_between : m_bars_between [plD p, enD a, enD b] = .ok (.list ((p.bars.filter (ht a b)).map tsD)) := by
  simp [m_bars_between, run_fin, ir_bars_between, startD, sp_check_two hp ha hb, sp_find_bars hp ha hb]
theorem sp_do_match : m_do_match [plD p, enD a, enD b] = .ok (.bool (mt p a b)) := by
  simp [m_do_match, run_fin, ir_do_match, startD, sp_check_two hp ha hb, sp_find_match hp ha hb]
theorem mt_eq : mt p a b = (!p.bars.any (ht a b) && p.rules.any fun r => r.all (ht a b)) := by
  unfold mt rulesOf
  rw [filter_empty, filter_empty, Bool.not_not, Bool.and_comm]
  congr 1
  rw [Bool.eq_iff_iff]
  simp only [List.any_eq_true, List.mem_range]
  constructor
  · rintro ⟨i, hi, h⟩; exact ⟨_, nth_mem hi, h⟩
  · rintro ⟨r, hr, h⟩
    obtain ⟨i, hi, e⟩ := List.getElem_of_mem hr
    exact ⟨i, hi, by rw [nth_eq hi, e]; exact h⟩
theorem test_turn {t : Tst} (h : WT p.kinds t) : m_law_holds [.str t.2, ct (nth a t.1 []), ct (nth b t.1 [])] = .ok (.bool (ht a b t)) := sp_law_holds _ _ h.co (ha.get t.1).ne (hb.get t.1).ne
theorem sp_law_meets : m_law_meets [plD p, enD a, enD b] = .ok (.bool (mt p a b)) := by
  have hx : ∀ t : Tst, WT p.kinds t → o2 .ix (enD a) (.int t.1) = .ok (ct (nth a t.1 [])) ∧ o2 .ix (enD b) (.int t.1) = .ok (ct (nth b t.1 [])) := fun t h => ⟨ix_en (by rw [ha.len]; exact h.lt), ix_en (by rw [hb.len]; exact h.lt)⟩
  simp [m_law_meets, run_fin, ir_law_meets, startD, -x1_for, bindTg, setAll]
  rw [turns_all (g := fun t => .bool (ht a b t)) (fun t h => by
    have hw := hp.bs.ts t h
    simp [tsD, setAll, seqOf, hx t hw, test_turn hp ha hb hw])]
  simp [any_map, -x1_for]
  rw [mt_eq hp ha hb]
  by_cases hB : p.bars.any (ht a b) = true
  · have hB' : ∃ x y, (x, y) ∈ p.bars ∧ ht a b (x, y) = true := by
      obtain ⟨t, h1, h2⟩ := List.any_eq_true.mp hB
      exact ⟨t.1, t.2, h1, h2⟩
    simp [hB]
  · simp [hB, -x1_for]
    rw [for_find (mk := rlD) (xs := p.rules) (st := fun o => [some (.val (plD p)), some (.val (enD a)), some (.val (enD b)), o, some (.val (ct p.kinds)), some (.val (.tuple (p.rules.map rlD))), some (.val (rlD p.bars)), none, none]) (p := fun r => r.all (ht a b)) (d := .bool true) (o := none)]
    · cases p.rules.any fun r => r.all (ht a b) <;> simp
    · rfl
    · simp
    · intro r hr o
      simp
      rw [turns_all (g := fun t => .bool (ht a b t)) (fun t h => by
        have hw := (hp.rs r hr).ts t h
        simp [tsD, hx t hw, test_turn hp ha hb hw])]
      simp [all_map, -List.all_eq_true]
      cases r.all (ht a b) <;> simp
end
theorem sp_matches {p : Pl} {bk : List En} (hp : WP p) (hb : WB p bk) : m_matches [plD p, bkD bk] = .ok (.list ((matchesOf p bk).map prD)) := by
  simp [m_matches, run_fin, ir_matches, startD, sp_check_plan hp, sp_check_book hp hb, sp_find_matches hp hb.en (by have := hb.len; omega)]
theorem sp_is_done {p : Pl} {bk : List En} (hp : WP p) (hb : WB p bk) : m_is_done [plD p, bkD bk] = .ok (.bool (matchesOf p bk).isEmpty) := by
  simp [m_is_done, run_fin, ir_is_done, startD, sp_matches hp hb]
end Lw

set_option Elab.async false
set_option linter.all false
set_option autoImplicit false
set_option maxRecDepth 100000
set_option maxHeartbeats 4000000
/-! SpW: a run that goes on, and what holds behind it. -/
namespace Lw
open PySem PySem.Spec L2 Fz
/-- the run goes on, with Q -/
def Wp (r : SR) (Q : Sd → Prop) : Prop := ∃ τ', r = .nx τ' ∧ Q τ'
theorem wp_nx {τ : Sd} {Q : Sd → Prop} (h : Q τ) : Wp (.nx τ) Q := ⟨τ, rfl, h⟩
theorem wp_thn {r : SR} {k : Sd → SR} {Q Q2 : Sd → Prop} (h : Wp r Q) (h2 : ∀ τ, Q τ → Wp (k τ) Q2) : Wp (r.thn k) Q2 := by
  obtain ⟨τ, e, q⟩ := h
  rw [e, SR.thn_nx]; exact h2 τ q
theorem wp_imp {r : SR} {Q Q2 : Sd → Prop} (h : Wp r Q) (h2 : ∀ τ, Q τ → Q2 τ) : Wp r Q2 := by
  obtain ⟨τ, e, q⟩ := h
  exact ⟨τ, e, h2 τ q⟩
theorem fin_thn {r : SR} {k : Sd → SR} {Q : Sd → Prop} {x : R D} (h : Wp r Q) (h2 : ∀ τ, Q τ → fin (k τ) = x) : fin (r.thn k) = x := by
  obtain ⟨τ, e, q⟩ := h
  rw [e, SR.thn_nx]; exact h2 τ q
theorem wp_for {Φ : Nat → List D → R D} {F : Nat} {g : Tg} {e : E} {b : List S} {τ : Sd} {α : Type} (mk : α → D) (xs : List α) (I : List α → Sd → Prop) (h0 : I [] τ) (hsrc : ((ev Φ e τ).bind fun d => ofO (itemsOf d)) = .ok (xs.map mk))
    (h : ∀ pre a post, xs = pre ++ a :: post → ∀ τ, I pre τ → Wp ((bindTg g (mk a) τ).toS fun τ2 => Fz.xs Φ F b τ2) (I (pre ++ [a]))) : Wp (x1 Φ F (.for_ g e b) τ) (I xs) := for_inv I h0 hsrc h
/-- the invariant does not tell how far the loop is -/
theorem wp_each {Φ : Nat → List D → R D} {F : Nat} {g : Tg} {e : E} {b : List S} {τ : Sd} {α : Type} (mk : α → D) (xs : List α) (I : Sd → Prop) (h0 : I τ) (hsrc : ((ev Φ e τ).bind fun d => ofO (itemsOf d)) = .ok (xs.map mk))
    (h : ∀ a ∈ xs, ∀ τ, I τ → Wp ((bindTg g (mk a) τ).toS fun τ2 => Fz.xs Φ F b τ2) I) : Wp (x1 Φ F (.for_ g e b) τ) I :=
  wp_for mk xs (fun _ => I) h0 hsrc fun pre a post e τ hI => h a (by rw [e]; simp) τ hI
def eqR : R D → D → Bool
  | .ok a, b => eqD a b
  | _, _ => false
theorem eqR_ok {r : R D} {d : D} (h : eqR r d = true) : r = .ok d := by
  cases r with
  | ok a => exact congrArg R.ok (eqD_ok a d h)
  | ex c => cases h
  | no => cases h
def eqX : R D → Nat → Bool
  | .ex c, k => decide (c = k)
  | _, _ => false
theorem eqX_ok {r : R D} {k : Nat} (h : eqX r k = true) : r = .ex k := by
  cases r with
  | ok a => cases h
  | ex c => simp [eqX] at h; rw [h]
  | no => cases h
end Lw

set_option Elab.async false
set_option linter.all false
set_option autoImplicit false
set_option maxRecDepth 100000
set_option maxHeartbeats 4000000
/-! SpN: merging of contents. -/
namespace Lw
open PySem PySem.Spec L2 Fz
theorem ltS_lt {a b : Str} : Lt (.str a) (.str b) ↔ ltS a b := by
  unfold Lt ltS
  simp [PySem.W.alike, ltD]
theorem ltS_irr (a : Str) : ¬ ltS a a := List.lt_irrefl _
theorem rise_nodup {a : List Str} (h : a.Pairwise ltS) : a.Nodup := h.imp fun {x y} hxy e => by subst e; exact ltS_irr _ hxy
theorem alls_str (a : List Str) : PySem.W.AllAlike (a.map PyData.str) := fun x hx y hy => by
  obtain ⟨u, _, rfl⟩ := List.mem_map.mp hx
  obtain ⟨v, _, rfl⟩ := List.mem_map.mp hy
  rfl
/-- two rising lists of the same words are one -/
theorem rise_ext {a b : List Str} (ha : a.Pairwise ltS) (hb : b.Pairwise ltS) (h : ∀ w, w ∈ a ↔ w ∈ b) : a = b := by
  have pm : a.Perm b := (List.perm_ext_iff_of_nodup (rise_nodup ha) (rise_nodup hb)).mpr h
  have ra : (a.map PyData.str).Pairwise Lt := List.pairwise_map.mpr (ha.imp fun h => ltS_lt.mpr h)
  have rb : (b.map PyData.str).Pairwise Lt := List.pairwise_map.mpr (hb.imp fun h => ltS_lt.mpr h)
  have e1 := isort_of_rise ra (alls_str a)
  have e2 := isort_of_rise rb (alls_str b)
  have e3 : isort (a.map PyData.str) = isort (b.map PyData.str) := isort_eq (alls_str a) (pm.map _)
  exact str_inj (by rw [← e1, ← e2, e3])
def unStr : D → Str
  | .str s => s
  | _ => ""
/-- the words of both, ascending -/
def un (a b : List Str) : List Str := (isort (firsts [] ((a ++ b).map .str))).map unStr
theorem un_ok (a b : List Str) (hl : a.length + b.length ≤ 4000) : o1 .sset (ct (a ++ b)) = .ok (.list ((un a b).map .str)) ∧ (∀ w, w ∈ un a b ↔ w ∈ a ∨ w ∈ b) ∧ (un a b).Pairwise ltS ∧ (un a b).length ≤ a.length + b.length := by
  obtain ⟨bs, _, h2, h3, h4, h5, h6, h7⟩ := sset_spec PyData.str (a ++ b) (by simp only [setOk, Bool.or_eq_true, Bool.and_eq_true]; left; simp [flatKey, hl]) (sortable_flat (fun _ _ _ _ => rfl) (fun _ _ => rfl) (fun _ _ => by simp [PyData.depth]))
  have e : un a b = bs := by
    unfold un
    rw [h7, List.map_map]
    have : (unStr ∘ PyData.str) = id := rfl
    rw [this, List.map_id]
  rw [e]
  refine ⟨h2, fun w => ⟨fun h => List.mem_append.mp (h3 w h), fun h => ?_⟩, ?_, by simpa using h6⟩
  · obtain ⟨b, hb, z⟩ := List.mem_map.mp (h4 w (List.mem_append.mpr h))
    cases z; exact hb
  · rw [List.pairwise_map] at h5
    exact h5.imp fun h => ltS_lt.mp h
theorem WC.un {a b : List Str} (ha : WC a) (hb : WC b) (hl : a.length + b.length ≤ 4000) : WC (un a b) := by
  obtain ⟨_, h2, h3, _⟩ := un_ok a b hl
  exact ⟨fun w hw => ((h2 w).mp hw).elim (ha.wd w) (hb.wd w), h3⟩
theorem un_self {a : List Str} (ha : WC a) (hl : a.length ≤ 2000) : Lw.un a a = a := by
  obtain ⟨_, h2, h3, _⟩ := un_ok a a (by omega)
  exact rise_ext h3 ha.ri fun w => by rw [h2]; simp
theorem un_symm {a b : List Str} (hl : a.length + b.length ≤ 4000) : Lw.un a b = Lw.un b a := by
  obtain ⟨_, h2, h3, _⟩ := un_ok a b hl
  obtain ⟨_, h5, h6, _⟩ := un_ok b a (by omega)
  exact rise_ext h3 h6 fun w => by rw [h2, h5]; exact Or.comm
theorem un_nilL {b : List Str} (hb : WC b) (hl : b.length ≤ 4000) : Lw.un [] b = b := by
  obtain ⟨_, h2, h3, _⟩ := un_ok [] b (by simpa using hl)
  exact rise_ext h3 hb.ri fun w => by rw [h2]; simp
theorem un_nilR {b : List Str} (hb : WC b) (hl : b.length ≤ 4000) : Lw.un b [] = b := by
  rw [un_symm (by simpa using hl)]; exact un_nilL hb hl
/-- the content that merging yields -/
def fm (k : Str) (a b : List Str) : List Str := if k = "all" ∨ a = [] ∨ b = [] then un a b else if k = "shared" then a.filter (fun w => decide (w ∈ b)) else if k = "least" then (un a b).take 1 else if k = "greatest" then (un a b).drop ((un a b).length - 1) else if a = b then un a b else []
theorem addC (a b : List Str) (h : a.length + b.length ≤ 4000) : o2 .add (ct a) (ct b) = .ok (ct (a ++ b)) := by
  have := add_T (xs := a.map PyData.str) (ys := b.map PyData.str) (by simp; omega)
  rw [ct, ct, this, ct, List.map_append]
theorem to1C (a : List Str) : o2 .to (ct a) (.int 1) = .ok (ct (a.take 1)) := by
  show R.ok (PyData.tuple (cutD (a.map .str) none (some ((1 : Nat) : Int)))) = _
  rw [cut_to, ct, List.map_take]
theorem from1C (a : List Str) : o2 .from (ct a) (.int (-1)) = .ok (ct (a.drop (a.length - 1))) := by
  show R.ok (PyData.tuple (cutD (a.map .str) (some (-1)) none)) = _
  unfold cutD
  have h : HT.sIx (a.map PyData.str).length 0 (some (-1)) = a.length - 1 := by
    unfold HT.sIx
    simp; omega
  rw [h, HT.sIx_none, ct, List.map_drop]
  congr 2
  exact List.take_of_length_le (by simp)
section
variable {k : Str} {a b : List Str} (hk : k ∈ kinds5) (ha : WC a) (hb : WC b) (hl : a.length + b.length ≤ 2000)
include hl
theorem sp_union : m_union [ct a, ct b] = .ok (ct (un a b)) := by
  simp [m_union, run_fin, ir_union, startD, addC a b (by omega), (un_ok a b (by omega)).1]; rfl
include hk
theorem kinds_cases : k = "all" ∨ k = "shared" ∨ k = "least" ∨ k = "greatest" ∨ k = "agreed" := by simpa [kinds5] using hk
theorem sp_find_merged : m_find_merged [.str k, ct a, ct b] = .ok (ct (fm k a b)) := by
  have e4 := sp_union hl
  simp only [m_find_merged, run_fin, ir_find_merged, startD, g_ALL, g_SHARED, g_LEAST, g_GREATEST]
  by_cases h1 : a = []
  · subst h1
    rcases kinds_cases hk hl with rfl | rfl | rfl | rfl | rfl <;> simp [run_fin, startD, e4, fm]
  by_cases h2 : b = []
  · subst h2
    rcases kinds_cases hk hl with rfl | rfl | rfl | rfl | rfl <;> simp [run_fin, startD, e4, fm, h1]
  rcases kinds_cases hk hl with rfl | rfl | rfl | rfl | rfl
  · simp [run_fin, startD, e4, fm]
  · simp [run_fin, startD, e4, fm, h1, h2]
    rw [turns_ok (p := fun w => decide (w ∈ b)) (g := fun w => .str w) (fun w _ => by simp; split <;> simp_all)]
    simp [ct]
  · simp [run_fin, startD, e4, fm, h1, h2, to1C]
  · simp [run_fin, startD, e4, fm, h1, h2, from1C]
  · by_cases h3 : a = b
    · subst h3
      simp [run_fin, startD, e4, fm, h1]
    · simp [run_fin, startD, e4, fm, h1, h2, h3]; rfl
include ha hb
theorem sp_law_blend (hs : k ∈ singles → a.length ≤ 1 ∧ b.length ≤ 1) : m_law_blend [.str k, ct a, ct b] = .ok (ct (fm k a b)) := by
  obtain ⟨u1, u2, u3, u4⟩ := un_ok a b (by omega)
  have ew : o1 .tup (.list ((un a b).map .str)) = .ok (ct (un a b)) := rfl
  have hw : ((o2 .add (ct a) (ct b)).bind (o1 .sset)).bind (o1 .tup) = .ok (ct (un a b)) := by rw [addC a b (by omega), R.bind_ok, u1, R.bind_ok, ew]
  have emp : a = [] ∨ b = [] → k ∈ singles → (un a b).length ≤ 1 := fun h hk2 => by
    obtain ⟨l1, l2⟩ := hs hk2
    rcases h with h | h <;> subst h <;> simp at u4 l1 l2 <;> omega
  clear u1 ew u2 u3 u4
  simp only [m_law_blend, run_fin, ir_law_blend, startD]
  rcases kinds_cases hk hl with rfl | rfl | rfl | rfl | rfl
  · simp [run_fin, startD, hw, fm]
  · by_cases h1 : a = []
    · subst h1
      simp [run_fin, startD, hw, fm]
    · by_cases h2 : b = []
      · subst h2
        simp [run_fin, startD, hw, fm, h1]
      · by_cases h3 : a = b
        · subst h3
          have hu := un_self ha (by omega)
          have hf : a.filter (fun w => decide (w ∈ a)) = a := List.filter_eq_self.mpr fun w hw => by simpa using hw
          simp [run_fin, startD, hw, fm, h1, hu, hf]
        · simp [run_fin, startD, hw, fm, h1, h2, h3]
          rw [turns_ok (p := fun w => decide (w ∈ b)) (g := fun w => .str w) (fun w _ => by simp; split <;> simp_all)]
          simp [ct]
  · have hn : a = [] ∨ b = [] → (un a b).take 1 = un a b := fun h => List.take_of_length_le (emp h (by simp [singles]))
    by_cases h : a = [] ∨ b = []
    · simp [run_fin, startD, hw, fm, h, to1C, hn h]
    · simp [run_fin, startD, hw, fm, h, to1C]
  · have hn : a = [] ∨ b = [] → (un a b).drop ((un a b).length - 1) = un a b := fun h => by
      have := emp h (by simp [singles])
      rw [show (un a b).length - 1 = 0 by omega]; rfl
    by_cases h : a = [] ∨ b = []
    · simp [run_fin, startD, hw, fm, h, from1C, hn h]
    · simp [run_fin, startD, hw, fm, h, from1C]
  · by_cases h1 : a = []
    · subst h1
      simp [run_fin, startD, hw, fm]
    · by_cases h2 : b = []
      · subst h2
        simp [run_fin, startD, hw, fm, h1]
      · by_cases h3 : a = b
        · subst h3
          simp [run_fin, startD, hw, fm, h1]
        · simp [run_fin, startD, hw, fm, h1, h2, h3]; rfl
end
end Lw

set_option Elab.async false
set_option linter.all false
set_option autoImplicit false
set_option maxRecDepth 100000
set_option maxHeartbeats 4000000
/-! SpO: merging of entries, steps. -/
namespace Lw
open PySem PySem.Spec L2 Fz
section
variable {k : Str} {a b : List Str} (hk : k ∈ kinds5) (ha : WC a) (hb : WC b) (hl : a.length + b.length ≤ 2000)
include hk ha hb hl
theorem fm_wc : WC (fm k a b) := by
  have hu := ha.un hb (by omega)
  unfold fm
  split
  · exact hu
  · split
    · exact ha.sub List.filter_sublist
    · split
      · exact hu.sub (List.take_sublist _ _)
      · split
        · exact hu.sub (List.drop_sublist _ _)
        · split
          · exact hu
          · exact wc_nil
theorem fm_len : (fm k a b).length ≤ a.length + b.length := by
  have hu := (un_ok a b (by omega)).2.2.2
  unfold fm
  split
  · exact hu
  · split
    · exact Nat.le_trans (List.length_filter_le _ _) (by omega)
    · split
      · simp; omega
      · split
        · simp; omega
        · split
          · exact hu
          · simp
theorem fm_single (hs : k ∈ singles) (la : a.length ≤ 1) (lb : b.length ≤ 1) : (fm k a b).length ≤ 1 := by
  obtain ⟨_, _, _, hu⟩ := un_ok a b (by omega)
  have h0 : k ≠ "all" ∧ k ≠ "shared" := by
    revert hs
    simp only [singles, List.mem_cons, List.not_mem_nil, or_false]
    rintro (h | h | h) <;> simp [h]
  unfold fm
  split
  · rename_i h
    rcases h with h | h | h
    · exact absurd h h0.1
    · subst h; simp at hu; omega
    · subst h; simp at hu; omega
  · split
    · rename_i h; exact absurd h h0.2
    · split
      · simp; omega
      · split
        · simp; omega
        · split
          · rename_i h; subst h; rw [un_self ha (by omega)]; exact la
          · simp
theorem fm_symm : fm k a b = fm k b a := by
  have hu : un a b = un b a := un_symm (by omega)
  have hf : a.filter (fun w => decide (w ∈ b)) = b.filter (fun w => decide (w ∈ a)) := rise_ext (ha.ri.sublist List.filter_sublist) (hb.ri.sublist List.filter_sublist) fun w => by simp; exact And.comm
  unfold fm
  rw [hu, hf]
  have e1 : (k = "all" ∨ a = [] ∨ b = []) = (k = "all" ∨ b = [] ∨ a = []) := by rw [Or.comm (a := a = [])]
  have e2 : (a = b) = (b = a) := propext eq_comm
  simp only [e1, e2]
end
/-- the merged entry -/
def jn (p : Pl) (a b : En) : En := (List.range p.kinds.length).map fun i => fm (nth p.kinds i "") (nth a i []) (nth b i [])
/-- entries of few words -/
def Fw (n : Nat) (e : En) : Prop := ∀ i, (nth e i []).length ≤ n
theorem zip3_map {α β γ : Type} (f : α → D) (g : β → D) (h : γ → D) (x : α) (y : β) (z : γ) : ∀ (as : List α) (bs : List β) (cs : List γ), bs.length = as.length → cs.length = as.length →
    zipD3 (as.map f) (bs.map g) (cs.map h) = (List.range as.length).map fun i => .tuple [f (nth as i x), g (nth bs i y), h (nth cs i z)]
  | [], _, _, _, _ => by simp [zipD3]
  | a :: as, [], _, h1, _ => by simp at h1
  | a :: as, _ :: _, [], _, h2 => by simp at h2
  | a :: as, b :: bs, c :: cs, h1, h2 => by
    have ih := zip3_map f g h x y z as bs cs (by simpa using h1) (by simpa using h2)
    simp only [List.map_cons, zipD3, ih, List.length_cons, List.range_succ_eq_map, List.map_map]
    rfl
section
variable {p : Pl} {a b : En} (hp : WP p) (ha : WE p a) (hb : WE p b) (fa : Fw 1000 a) (fb : Fw 1000 b)
include hp ha hb
theorem kind_at {i : Nat} (hi : i < p.kinds.length) : nth p.kinds i "" ∈ kinds5 := hp.ks _ (nth_mem hi)
include fa fb
theorem jn_we : WE p (jn p a b) := by
  have hat : ∀ i, i < p.kinds.length → nth (jn p a b) i [] = fm (nth p.kinds i "") (nth a i []) (nth b i []) := fun i hi => by
    rw [nth_eq (by simpa [jn] using hi)]; simp [jn]
  refine ⟨by simp [jn], fun c hc => ?_, fun i hs => ?_⟩
  · obtain ⟨i, hi, rfl⟩ := List.mem_map.mp hc
    have hi' : i < p.kinds.length := by simpa using hi
    exact fm_wc (kind_at hp ha hb hi') (ha.get i) (hb.get i) (by have := fa i; have := fb i; omega)
  · by_cases hi : i < p.kinds.length
    · rw [hat i hi]
      exact fm_single (kind_at hp ha hb hi) (ha.get i) (hb.get i) (by have := fa i; have := fb i; omega) hs (ha.si i hs) (hb.si i hs)
    · rw [nth_out (by simpa [jn] using hi)]; simp
omit hp ha hb fa fb in
theorem jn_fw {n m : Nat} (hp : WP p) (ha : WE p a) (hb : WE p b) (fa : Fw n a) (fb : Fw m b) (h : n + m ≤ 2000) : Fw (n + m) (jn p a b) := fun i => by
  by_cases hi : i < p.kinds.length
  · rw [nth_eq (by simpa [jn] using hi)]
    simp only [jn, List.getElem_map, List.getElem_range]
    have h1 := fa i
    have h2 := fb i
    exact Nat.le_trans (fm_len (kind_at hp ha hb hi) (ha.get i) (hb.get i) (by omega)) (by omega)
  · rw [nth_out (by simpa [jn] using hi)]; simp
theorem sp_join_entries : m_join_entries [plD p, enD a, enD b] = .ok (enD (jn p a b)) := by
  simp [m_join_entries, run_fin, ir_join_entries, startD]
  rw [ct, enD, enD, z3_tup, zip3_map PyData.str ct ct "" [] [] p.kinds a b ha.len hb.len]
  simp
  rw [turns_all (g := fun (i : Nat) => ct (fm (nth p.kinds i "") (nth a i []) (nth b i []))) (fun i hi => by
    have hi' : i < p.kinds.length := by simpa using hi
    simp [sp_find_merged (kind_at hp ha hb hi') (show (nth a i []).length + (nth b i []).length ≤ 2000 by have := fa i; have := fb i; omega)])]
  simp [enD, jn]
theorem sp_law_join : m_law_join [plD p, enD a, enD b] = .ok (enD (jn p a b)) := by
  have h3 := hp.k2
  simp [m_law_join, run_fin, ir_law_join, startD, rng1 (show p.kinds.length ≤ 1000000 by omega)]
  rw [turns_all (g := fun (i : Nat) => ct (fm (nth p.kinds i "") (nth a i []) (nth b i []))) (fun i hi => by
    have hi' : i < p.kinds.length := by simpa using hi
    simp [ix_ct p.kinds i hi', ix_en (show i < a.length by rw [ha.len]; exact hi'), ix_en (show i < b.length by rw [hb.len]; exact hi'), sp_law_blend (kind_at hp ha hb hi') (ha.get i) (hb.get i) (show (nth a i []).length + (nth b i []).length ≤ 2000 by have := fa i; have := fb i; omega) (fun hs => ⟨ha.si i hs, hb.si i hs⟩)])]
  simp [enD, jn]
theorem jn_symm : jn p a b = jn p b a := by
  unfold jn
  refine List.map_congr_left fun i hi => ?_
  have hi' : i < p.kinds.length := by simpa using hi
  exact fm_symm (kind_at hp ha hb hi') (ha.get i) (hb.get i) (by have := fa i; have := fb i; omega)
theorem sp_joined : m_joined [plD p, enD a, enD b] = .ok (enD (jn p a b)) := by
  simp [m_joined, run_fin, ir_joined, startD, sp_check_two hp ha hb, sp_join_entries hp ha hb fa fb]
omit fa fb in
theorem sp_check_match : m_check_match [plD p, enD a, enD b] = if mt p a b = true then .ok .none else .ex 10 := by
  cases h : mt p a b <;> simp [m_check_match, run_fin, ir_check_match, startD, sp_find_match hp ha hb, h]
theorem sp_merged : m_merged [plD p, enD a, enD b] = if mt p a b = true then .ok (enD (jn p a b)) else .ex 10 := by
  have h := sp_check_match hp ha hb
  cases hm : mt p a b <;> simp [hm] at h <;> simp [m_merged, run_fin, ir_merged, startD, sp_check_two hp ha hb, h, sp_join_entries hp ha hb fa fb]
end
end Lw

set_option Elab.async false
set_option linter.all false
set_option autoImplicit false
set_option maxRecDepth 100000
set_option maxHeartbeats 4000000
/-! SpP: results of three entries, steps. -/
namespace Lw
open PySem PySem.Spec L2 Fz
def unCt : D → List Str
  | .tuple xs => xs.map unStr
  | _ => []
def unEn : D → En
  | .tuple xs => xs.map unCt
  | _ => []
theorem unEn_en (e : En) : unEn (enD e) = e := by
  have h1 : ∀ ws : List Str, unCt (ct ws) = ws := fun ws => by
    simp only [ct, unCt, List.map_map]
    have : (unStr ∘ PyData.str) = id := rfl
    rw [this, List.map_id]
  simp only [enD, unEn, List.map_map]
  have : (unCt ∘ ct) = id := funext h1
  rw [this, List.map_id]
/-- sorted entries -/
def srtE (es : List En) : List En := (isort (es.map enD)).map unEn
theorem srtE_en (es : List En) : isort (es.map enD) = (srtE es).map enD := by
  obtain ⟨bs, hb, _⟩ := map_of (f := enD) (P := fun _ => True) (xs := isort (es.map enD)) fun d hd => by
    obtain ⟨a, _, rfl⟩ := List.mem_map.mp ((isort_perm _).mem_iff.mp hd)
    exact ⟨a, rfl, trivial⟩
  unfold srtE
  have : (unEn ∘ enD) = id := funext unEn_en
  rw [hb, List.map_map (f := enD) (g := unEn), this, List.map_id]
theorem srtE_perm (es : List En) : (srtE es).Perm es := by
  have h := (isort_perm (es.map enD)).map unEn
  rw [List.map_map, show (unEn ∘ enD) = id from funext unEn_en, List.map_id] at h
  exact h
theorem alls_en (L : List En) : PySem.W.AllAlike (L.map enD) := fun a ha b hb => by
  obtain ⟨x, _, rfl⟩ := List.mem_map.mp ha
  obtain ⟨y, _, rfl⟩ := List.mem_map.mp hb
  exact alike_en x y
theorem srtE_so (es : List En) : isort ((srtE es).map enD) = (srtE es).map enD := by
  rw [← srtE_en]
  exact isort_idem (alls_en es)
theorem sorted_en {p : Pl} (hp : WP p) {es : List En} (h : ∀ e ∈ es, WE p e) : o1 .sorted (.list (es.map enD)) = .ok (.list ((srtE es).map enD)) := by
  show sortD _ = _
  unfold sortD
  rw [if_pos (sortable_en hp h), srtE_en]
theorem srtE_we {p : Pl} {es : List En} (h : ∀ e ∈ es, WE p e) : ∀ e ∈ srtE es, WE p e := fun e he => h e ((srtE_perm es).mem_iff.mp he)
theorem ne_en (a b : En) : o2 .ne (enD a) (enD b) = .ok (.bool (!decide (a = b))) := by
  rw [o_ne (can_l (Nat.le_trans (dep_en a) (by decide))), eqv_en]
theorem dep_bk (b : List En) : (bkD b).depth ≤ 4 := dep_mapT (n := 3) dep_en b
theorem alike_bk (a b : List En) : PySem.W.alike (bkD a) (bkD b) = true := alike_mapT alike_en a b
theorem ne_bk (a : List En) : o2 .ne (bkD a) (bkD a) = .ok (.bool false) := ne_self (Nat.le_trans (dep_bk a) (by decide)) (alike_bk a a)
/-- two entries, or the one they merge into -/
def goOn (p : Pl) (a b : En) : List En := if mt p a b = true then [jn p a b] else srtE [a, b]
section
variable {p : Pl} {a b : En} (hp : WP p) (ha : WE p a) (hb : WE p b) (fa : Fw 1000 a) (fb : Fw 1000 b)
include hp ha hb fa fb
theorem sp_go_on : m_go_on [plD p, enD a, enD b] = .ok (bkD (goOn p a b)) := by
  have hs := sorted_en hp (es := [a, b]) (by simp [ha, hb])
  simp only [List.map_cons, List.map_nil] at hs
  cases h : mt p a b <;> simp [m_go_on, run_fin, ir_go_on, startD, sp_find_match hp ha hb, h, sp_join_entries hp ha hb fa fb, hs, goOn, bkD]
theorem sp_law_end : m_law_end [plD p, .list [enD a, enD b]] = .ok (bkD (goOn p a b)) := by
  have hs := sorted_en hp (es := [a, b]) (by simp [ha, hb])
  simp only [List.map_cons, List.map_nil] at hs
  have i0 : o2 .ix (.list [enD a, enD b]) (.int 0) = .ok (enD a) := rfl
  have i1 : o2 .ix (.list [enD a, enD b]) (.int 1) = .ok (enD b) := rfl
  cases h : mt p a b <;> simp [m_law_end, run_fin, ir_law_end, startD, i0, i1, sp_law_meets hp ha hb, h, sp_law_join hp ha hb fa fb, hs, goOn, bkD]
end
section
variable {p : Pl} {a m b : En} (hp : WP p) (ha : WE p a) (hm : WE p m) (hb : WE p b) (fa : Fw 100 a) (fm' : Fw 100 m) (fb : Fw 100 b)
include hp ha hm hb fa fm' fb
theorem sp_find_ways : m_find_ways [plD p, enD a, enD m, enD b] = .ok (.tuple [bkD (goOn p (jn p a m) b), bkD (goOn p a (jn p m b))]) := by
  have up : ∀ {n : Nat} {e : En}, n ≤ 1000 → Fw n e → Fw 1000 e := fun h f i => Nat.le_trans (f i) h
  have w1 := jn_we hp ha hm (up (by omega) fa) (up (by omega) fm')
  have w2 := jn_we hp hm hb (up (by omega) fm') (up (by omega) fb)
  have f1 := up (by omega) (jn_fw hp ha hm fa fm' (by omega))
  have f2 := up (by omega) (jn_fw hp hm hb fm' fb (by omega))
  simp [m_find_ways, run_fin, ir_find_ways, startD, sp_join_entries hp ha hm (up (by omega) fa) (up (by omega) fm'), sp_join_entries hp hm hb (up (by omega) fm') (up (by omega) fb), sp_go_on hp w1 hb f1 (up (by omega) fb), sp_go_on hp ha w2 (up (by omega) fa) f2]
theorem sp_two_ways : m_two_ways [plD p, enD a, enD m, enD b] = if mt p a m = true ∧ mt p m b = true then .ok (.tuple [bkD (goOn p (jn p a m) b), bkD (goOn p a (jn p m b))]) else .ex 10 := by
  have c1 := sp_check_match hp ha hm
  have c2 := sp_check_match hp hm hb
  cases h1 : mt p a m <;> cases h2 : mt p m b <;> simp [h1] at c1 <;> simp [h2] at c2 <;> simp [m_two_ways, run_fin, ir_two_ways, startD, sp_check_plan hp, sp_check_entry ha, sp_check_entry hm, sp_check_entry hb, c1, c2, sp_find_ways hp ha hm hb fa fm' fb]
end
/-! ### steps -/
theorem nmem2 (i k n : Nat) : o2 .nmem (.int i) (.tuple [.int k, .int n]) = .ok (.bool (!(decide (k = i) || decide (n = i)))) := by
  rw [o_nmemT (dep_int i)]
  have e : ∀ a b : Nat, PyData.eqv (.int a) (.int b) = decide (a = b) := fun a b => by
    show ((a : Int) == (b : Int)) = _
    by_cases h : a = b
    · simp [h]
    · have h' : ¬ (a : Int) = b := by omega
      rw [decide_eq_false h]
      exact beq_eq_false_iff_ne.mpr h'
  simp [memD, e]
def restOf (bk : List En) (k n : Nat) : List En := ((List.range bk.length).filter fun i => !(decide (k = i) || decide (n = i))).map fun i => nth bk i []
def stepOf (p : Pl) (bk : List En) (k n : Nat) : List En := srtE (restOf bk k n ++ [jn p (nth bk k []) (nth bk n [])])
section
variable {p : Pl} {bk : List En} {k n : Nat} (hp : WP p) (hb : WB p bk) (hf : ∀ e ∈ bk, Fw 1000 e) (hk : k < bk.length) (hn : n < bk.length)
include hp hb hf hk hn
theorem rest_we : ∀ e ∈ restOf bk k n ++ [jn p (nth bk k []) (nth bk n [])], WE p e := fun e he => by
  rcases List.mem_append.mp he with h | h
  · obtain ⟨i, hi, rfl⟩ := List.mem_map.mp h
    have hi' : i < bk.length := by simpa using (List.mem_filter.mp hi).1
    exact hb.en _ (nth_mem hi')
  · have : e = jn p (nth bk k []) (nth bk n []) := by simpa using h
    subst this
    exact jn_we hp (hb.en _ (nth_mem hk)) (hb.en _ (nth_mem hn)) (hf _ (nth_mem hk)) (hf _ (nth_mem hn))
theorem sp_do_step : m_do_step [plD p, bkD bk, .int k, .int n] = .ok (bkD (stepOf p bk k n)) := by
  have h8 := hb.len
  have hen : o1 .enm (bkD bk) = .ok (.list ((List.range bk.length).map fun (i : Nat) => .tuple [.int i, enD (nth bk i [])])) := by
    rw [bkD, o_enmT, enum_map enD []]
  simp [m_do_step, run_fin, ir_do_step, startD, hen]
  rw [turns_ok (p := fun i => !(decide (k = i) || decide (n = i))) (g := fun i => enD (nth bk i [])) (fun i _ => by
    have := nmem2 i k n
    simp at this
    simp [this]
    split <;> simp_all)]
  have hr : ((List.range bk.length).filter fun i => !(decide (k = i) || decide (n = i))).map (fun i => enD (nth bk i [])) = (restOf bk k n).map enD := by
    unfold restOf; rw [List.map_map]; rfl
  have hadd : o2 .add (.list ((restOf bk k n).map enD)) (.list [enD (jn p (nth bk k []) (nth bk n []))]) = .ok (.list ((restOf bk k n ++ [jn p (nth bk k []) (nth bk n [])]).map enD)) := by
    rw [add_L (by
      simp [restOf]
      have := List.length_filter_le (fun i => !(decide (k = i) || decide (n = i))) (List.range bk.length)
      simp at this; omega)]
    simp
  rw [hr]
  simp [ix_bk hk, ix_bk hn, sp_join_entries hp (hb.en _ (nth_mem hk)) (hb.en _ (nth_mem hn)) (hf _ (nth_mem hk)) (hf _ (nth_mem hn)), hadd, -List.map_append]
  rw [sorted_en hp (rest_we hp hb hf hk hn)]
  rfl
theorem sp_step (hne : k ≠ n) : m_step [plD p, bkD bk, .int k, .int n] = if mt p (nth bk k []) (nth bk n []) = true then .ok (bkD (stepOf p bk k n)) else .ex 10 := by
  have pl : ∀ j, j < bk.length → m_check_place [bkD bk, .int j] = .ok .none := fun j hj => by
    have h1 : (0 : Int) ≤ j := by omega
    have h2 : (j : Int) ≤ (bk.length : Int) - 1 := by omega
    simp [m_check_place, run_fin, ir_check_place, startD, sp_is_int, h1, h2]
  have c1 := sp_check_match hp (hb.en _ (nth_mem (d := []) hk)) (hb.en _ (nth_mem (d := []) hn))
  have hne' : ¬ (k : Int) = n := by omega
  cases h1 : mt p (nth bk k []) (nth bk n []) <;> simp [h1] at c1 <;> simp [m_step, run_fin, ir_step, startD, sp_check_plan hp, sp_check_book hp hb, pl k hk, pl n hn, hne', ix_bk hk, ix_bk hn, c1, sp_do_step hp hb hf hk hn]
end
end Lw

set_option Elab.async false
set_option linter.all false
set_option autoImplicit false
set_option maxRecDepth 100000
set_option maxHeartbeats 4000000
namespace Lw
open PySem PySem.Spec L2 Fz
theorem drEntry_fw (ns : List Int) (at_ : Nat) (kinds : List Str) : Fw 4 (drEntry ns at_ kinds) := fun i => by
  by_cases h : i < kinds.length
  · rw [nth_eq (by simpa [drEntry] using h)]
    have : ∀ c : List Str, c ∈ drEntry ns at_ kinds → c.length ≤ 4 := fun c hc => by
      obtain ⟨j, _, rfl⟩ := List.mem_map.mp hc
      unfold drCont
      split
      · have := (drMany_sub (pick ns (at_ + j) 16)).length_le
        simp at this; omega
      · unfold drOne; split <;> simp
    exact this _ (List.getElem_mem _)
  · rw [nth_out (by simpa [drEntry] using h)]; simp
theorem ref_ok (d : D) : m_law_refused [.bool true, d] = .ok (.bool false) := rfl
theorem ref_ex : m_law_refused [.bool false, .int 10] = .ok (.bool true) := rfl
theorem fw_up {n m : Nat} {e : En} (h : n ≤ m) (f : Fw n e) : Fw m e := fun i => Nat.le_trans (f i) h
theorem eqbb (x y : Bool) : o2 .eq (.bool x) (.bool y) = .ok (.bool (x == y)) := by cases x <;> cases y <;> rfl
theorem ne_pair (x y : List En) : o2 .ne (.tuple [bkD x, bkD y]) (.tuple [bkD x, bkD y]) = .ok (.bool false) :=
  ne_self (Nat.le_trans (dep_mapT (n := 4) dep_bk [x, y]) (by decide)) (alike_mapT alike_bk [x, y] [x, y])
abbrev pE : D := .tuple [ct ["all", "agreed"], .tuple [.tuple [.tuple [.int 0, .str "same"]]], .tuple [.tuple [.int 1, .str "unlike"]]]
abbrev aE : D := .tuple [ct ["ann"], ct ["x"]]
abbrev bE : D := .tuple [ct ["ann", "bo"], ct []]
abbrev cE : D := .tuple [ct ["bo"], ct ["y"]]
abbrev rL : D := .tuple [.tuple [ct ["ann", "bo"], ct ["x"]], cE]
abbrev rR : D := .tuple [aE, .tuple [ct ["ann", "bo"], ct ["y"]]]
theorem end1 : m_two_ways [pE, aE, bE, cE] = .ok (.tuple [rL, rR]) := eqR_ok (by decide +kernel)
theorem end2 : o2 .eq rL rL = .ok (.bool true) := eqR_ok (by decide +kernel)
theorem end3 : o2 .eq rR rR = .ok (.bool true) := eqR_ok (by decide +kernel)
theorem law_ok (ns : List Int) (hl : ns.length ≤ 63) : m_law [.list (ns.map .int)] = .ok (.bool true) := by
  rw [m_law, run_fin (k := 1) rfl]
  simp [ir_law, startD, -x1_for]
  refine fin_thn (wp_each (fun (i : Nat) => PyData.int i) (List.range 6) (fun τ => τ.length = 19 ∧ look τ 0 = .ok (.list (ns.map .int))) ⟨rfl, rfl⟩ (congrArg (fun r => R.bind r fun d => ofO (itemsOf d)) (rng1 (n := 6) (by omega))) ?_) ?_
  · rintro i hi τ ⟨hL, h0⟩
    have hi' : i < 6 := by simpa using hi
    have pm := sp_law_pick hl (60 * i + 40) 3 (by omega) (by omega) (by omega)
    have pml := pick_lt hl (60 * i + 40) 3 (by omega) (by omega) (by omega)
    generalize pick ns (60 * i + 40) 3 = c at pm pml
    obtain ⟨p, hp, hk, ep⟩ := sp_law_plan hl (at_ := 60 * i) (many := 1 + c) (by omega) (by omega) (by simp at pml; omega)
    simp at ep
    have r3 := rng1 (n := 3) (by omega)
    have r4 := rng1 (n := 4) (by omega)
    simp only [Int.cast_ofNat_Int] at r3 r4
    have e1 := sp_law_entry hl (at_ := 60 * i + 41) (by omega) hp
    have e2 := sp_law_entry hl (at_ := 60 * i + 44) (by omega) hp
    have e3 := sp_law_entry hl (at_ := 60 * i + 47) (by omega) hp
    have w1 := drEntry_we hp ns (60 * i + 41)
    have w2 := drEntry_we hp ns (60 * i + 44)
    have w3 := drEntry_we hp ns (60 * i + 47)
    have s1 := drEntry_fw ns (60 * i + 41) p.kinds
    have s2 := drEntry_fw ns (60 * i + 44) p.kinds
    have s3 := drEntry_fw ns (60 * i + 47) p.kinds
    generalize drEntry ns (60 * i + 41) p.kinds = a at e1 w1 s1
    generalize drEntry ns (60 * i + 44) p.kinds = b at e2 w2 s2
    generalize drEntry ns (60 * i + 47) p.kinds = d at e3 w3 s3
    simp at e1 e2 e3
    have hr3 : (List.range 3).map (fun (i : Nat) => PyData.int i) = [.int 0, .int 1, .int 2] := rfl
    have m0 : o2 .mul (.int 3) (.int 0) = .ok (.int 0) := o_mulR 3 0 (by decide)
    have m1 : o2 .mul (.int 3) (.int 1) = .ok (.int 3) := o_mulR 3 1 (by decide)
    have m2 : o2 .mul (.int 3) (.int 2) = .ok (.int 6) := o_mulR 3 2 (by decide)
    have a3 : (60 * (i : Int) + 41 + 3) = 60 * i + 44 := by omega
    have a6 : (60 * (i : Int) + 41 + 6) = 60 * i + 47 := by omega
    have S1 : Fw 1000 a := fw_up (by omega) s1
    have S2 : Fw 1000 b := fw_up (by omega) s2
    have S3 : Fw 1000 d := fw_up (by omega) s3
    have H1 : Fw 100 a := fw_up (by omega) s1
    have H2 : Fw 100 b := fw_up (by omega) s2
    have H3 : Fw 100 d := fw_up (by omega) s3
    have wab := jn_we hp w1 w2 S1 S2
    have wbd := jn_we hp w2 w3 S2 S3
    have fab : Fw 1000 (jn p a b) := fw_up (by omega) (jn_fw hp w1 w2 s1 s2 (by omega))
    have fbd : Fw 1000 (jn p b d) := fw_up (by omega) (jn_fw hp w2 w3 s2 s3 (by omega))
    have nes := ne_en (jn p a b) (jn p a b)
    simp at nes
    have hwe : ∀ e ∈ [a, b, d, a], WE p e := by simp [w1, w2, w3]
    have hso := sorted_en hp hwe
    simp only [List.map_cons, List.map_nil] at hso
    have lbk : (srtE [a, b, d, a]).length = 4 := (srtE_perm [a, b, d, a]).length_eq
    have wbk : WB p (srtE [a, b, d, a]) := ⟨by omega, srtE_we hwe, srtE_so _⟩
    have fbk : ∀ e ∈ srtE [a, b, d, a], Fw 1000 e := fun e he => by
      have := (srtE_perm [a, b, d, a]).mem_iff.mp he
      simp at this
      rcases this with rfl | rfl | rfl | rfl <;> assumption
    generalize srtE [a, b, d, a] = bk at hso lbk wbk fbk
    have hB : PyData.tuple (bk.map enD) = bkD bk := rfl
    simp [-x1_for, hL, h0, o_mulR 60 i (by decide), pm, ep, r3, hr3, turns, m0, m1, m2, e1, a3, e2, a6, e3, bindTg, seqOf, sp_law_join hp w1 w2 S1 S2, sp_joined hp w1 w2 S1 S2, sp_joined hp w2 w1 S2 S1, jn_symm hp w2 w1 S2 S1, nes, sp_law_meets hp w1 w2, sp_law_meets hp w2 w3, sp_merged hp w1 w2 S1 S2]
    refine wp_thn (Q := fun τ => τ.length = 19 ∧ look τ 0 = .ok (.list (ns.map .int)) ∧ look τ 2 = .ok (plD p) ∧ look τ 3 = .ok (enD (jn p a b)) ∧ look τ 10 = .ok (enD a) ∧ look τ 11 = .ok (enD b) ∧ look τ 12 = .ok (enD d) ∧ look τ 13 = .ok (.bool (mt p a b)) ∧ look τ 14 = .ok (.bool (mt p b d))) ?_ ?_
    · cases h1 : mt p a b
      · simp [ref_ex, eqbb]
        exact wp_nx (by simp [hL, h0])
      · simp [ref_ok, eqbb, nes]
        exact wp_nx (by simp [hL, h0])
    · rintro τ ⟨hL, h0, h2, h3, h10, h11, h12, h13, h14⟩
      refine wp_thn (Q := fun τ => τ.length = 19 ∧ look τ 0 = .ok (.list (ns.map .int)) ∧ look τ 2 = .ok (plD p) ∧ look τ 10 = .ok (enD a) ∧ look τ 11 = .ok (enD b) ∧ look τ 12 = .ok (enD d)) ?_ ?_
      · have tw := sp_two_ways hp w1 w2 w3 H1 H2 H3
        have nr := ne_pair (goOn p (jn p a b) d) (goOn p a (jn p b d))
        have g1 := sp_law_end hp wab w3 fab S3
        have g2 := sp_law_end hp w1 wbd S1 fbd
        cases c1 : mt p a b <;> cases c2 : mt p b d <;> simp [c1, c2] at tw <;> simp [hL, h2, h3, h10, h11, h12, h13, h14, c1, c2, tw, ref_ex, g1, g2, sp_law_join hp w2 w3 S2 S3, nr] <;> exact wp_nx (by simp [hL, h0, h2, h10, h11, h12])
      · rintro τ ⟨hL, h0, h2, h10, h11, h12⟩
        have hr4 : (List.range 4).map (fun (i : Nat) => PyData.int i) = [.int 0, .int 1, .int 2, .int 3] := rfl
        simp [-x1_for, hL, h10, h11, h12, hso, hB]
        refine wp_thn (wp_each (fun (k : Nat) => PyData.int k) (List.range 4) (fun τ => τ.length = 19 ∧ look τ 0 = .ok (.list (ns.map .int)) ∧ look τ 2 = .ok (plD p) ∧ look τ 4 = .ok (bkD bk)) (by simp [hL, h0, h2]) (by simp [r4]) ?_) (fun τ h => wp_nx ⟨h.1, h.2.1⟩)
        rintro k hk τ ⟨hL, h0, h2, h4⟩
        have hk' : k < bk.length := by rw [lbk]; simpa using hk
        simp only [bind_one, R.toS_ok, xs_cons', xs_nil']
        refine wp_thn (Q := fun τ => τ.length = 19 ∧ look τ 0 = .ok (.list (ns.map .int)) ∧ look τ 2 = .ok (plD p) ∧ look τ 4 = .ok (bkD bk) ∧ look τ 5 = .ok (.int k)) ?_ (fun τ h => wp_nx ⟨h.1, h.2.1, h.2.2.1, h.2.2.2.1⟩)
        refine wp_each (fun (k : Nat) => PyData.int k) (List.range 4) _ (by simp [hL, h0, h2, h4]) (by simp [r4]) ?_
        rintro n hn τ ⟨hL, h0, h2, h4, h5⟩
        have hn' : n < bk.length := by rw [lbk]; simpa using hn
        have wk := wbk.en _ (nth_mem (d := []) hk')
        have wn := wbk.en _ (nth_mem (d := []) hn')
        have ps : ¬ k = n → _ := sp_step hp wbk fbk hk' hn'
        simp [hL, h2, h4, h5, ix_bk hk', ix_bk hn', sp_law_meets hp wk wn]
        by_cases hkn : k = n
        · subst hkn
          simp
          exact wp_nx (by simp [hL, h0, h2, h4, h5])
        · have hkn' : ¬ (k : Int) = n := by omega
          have ps := ps hkn
          cases c1 : mt p (nth bk k []) (nth bk n []) <;> simp [c1] at ps
          · simp [hkn', c1, hL, h2, h4, h5, ps, ref_ex]
            exact wp_nx (by simp [hL, h0, h2, h4, h5])
          · simp [hkn', c1, hL, h2, h4, h5, ps, r4]
            rw [turns_ok (p := fun i => !(decide (k = i) || decide (n = i))) (g := fun i => enD (nth bk i [])) (fun i hi => by
              have hi4 : i < bk.length := by rw [lbk]; simpa using hi
              have := nmem2 i k n
              simp at this
              simp [this, ix_bk hi4]
              split <;> simp_all)]
            have hr : ((List.range 4).filter fun i => !(decide (k = i) || decide (n = i))).map (fun i => enD (nth bk i [])) = (restOf bk k n).map enD := by
              unfold restOf; rw [List.map_map, lbk]; rfl
            have hadd : o2 .add (.list ((restOf bk k n).map enD)) (.list [enD (jn p (nth bk k []) (nth bk n []))]) = .ok (.list ((restOf bk k n ++ [jn p (nth bk k []) (nth bk n [])]).map enD)) := by
              rw [add_L (by
                simp [restOf]
                have := List.length_filter_le (fun i => !(decide (k = i) || decide (n = i))) (List.range bk.length)
                simp at this; omega)]
              simp
            have hst : PyData.tuple ((srtE (restOf bk k n ++ [jn p (nth bk k []) (nth bk n [])])).map enD) = bkD (stepOf p bk k n) := rfl
            rw [hr]
            simp [hL, h2, h4, h5, ps, ix_bk hk', ix_bk hn', sp_law_join hp wk wn (fbk _ (nth_mem hk')) (fbk _ (nth_mem hn')), hadd, -List.map_append, sorted_en hp (rest_we hp wbk fbk hk' hn'), hst, ne_bk]
            exact wp_nx (by simp [hL, h0, h2, h4, h5])
  · rintro τ ⟨hL, h0⟩
    have f1 := end1
    have f2 := end2
    have f3 := end3
    simp only [pE, aE, bE, cE, rL, rR, ct, List.map_cons, List.map_nil] at f1 f2 f3
    simp [hL, f1, f2, f3, bindTg, seqOf]
end Lw
theorem PySem.Challenge.cw_sameentries_k06_whole_merging_holds : PySem.Challenge.rw_sameentries_k06_whole_merging.Holds :=
  Lw.holds_of Lw.law_ok


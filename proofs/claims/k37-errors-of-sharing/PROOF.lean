import PyProof.Rows.All
import Wide.All
import OpenK.AllK
import Wide.FinOn
import HandS.ForMost
import HandS.Exc
import HandS.Defaults
import HandS.Flow
import HandS.TupMul
import HandS.TupAny
import HandS.TupLe
import HandS.DeepEq
import HandS.IsInst
import HandS.Zip
import HandS.Gcd
import HandS.Wide
import HandS.Conv
import HandS.DictComp
import HandS.Lambda
import HandS.EndTab
import HandS.TryMany
import HandS.TryOnly
import HandS.ExcInit
import HandS.ExcField
import HandS.ExcOwn
import HandS.Codes
import HandS.HeadHook4
import HandS.HeadEnd
import HandS.Head2
import KE.KTupSum
import PyProof.SumAnyB
import HandS.Style
import HandS.HeadWalk
import HandS.CallSlots
import HandS.WordsDict
import KE.GoesEnum
import HandS.WideMore
import HandS.TupSets
import HandS.SortRule
import PyProof.ReprRoads
import PyProof.ReprLen
import PyProof.FitsInt
import PyProof.TupleOfGen
import HandS.Head3
import HandS.Ends
import PySem.Challenge.RW_gainsteps_k37_errors_of_sharing_and_part
set_option Elab.async false
set_option linter.all false
set_option maxRecDepth 100000
/-! Z1: the evaluator's data and its operations on them. -/
noncomputable section
namespace Z
open PySem

/-! ### data -/
inductive TyN where | int | bool | str | tuple | list | dict
  deriving DecidableEq
inductive D where
  | und | non | bl (b : Bool) | int (i : Int) | str (s : List Nat) | ty (t : TyN) | tup (k : Bool) (ds : List D) | loc (l : Nat) | fn (i : Nat) | cls (i : Nat) | rp (p : D) | lv (ds : List D)
inductive Cell where
  | lst (ds : List D) | dct (t : Bool) (kvs : List (D × D)) | ins (c : Nat) (fs : List (Nat × D)) | lk (c : Cell)
inductive Tr where | lf | nd (l : Tr) (v : Cell) (r : Tr)
structure Sto where
  n : Nat
  t : Tr
abbrev SEnv := List D
/-- a raised error: its class, its fields -/
structure Xn where
  cls : Nat
  fs : List (Nat × D)
abbrev K1 := D → Sto → Bool
abbrev KA := List D → Sto → Bool
abbrev KB := Bool → Sto → Bool
abbrev KX := Xn → Sto → Bool
structure Ks where
  nx : SEnv → Sto → Bool
  rt : K1
  bk : SEnv → Sto → Bool
  ct : SEnv → Sto → Bool
structure Ev where
  call : Nat → List D → Sto → K1 → KX → Bool
abbrev CE := Ev → SEnv → Sto → K1 → KX → Bool
abbrev CA := Ev → SEnv → Sto → KA → KX → Bool
abbrev CB := Ev → SEnv → Sto → KB → KX → Bool
abbrev CS := Ev → SEnv → Sto → Ks → KX → Bool
abbrev CG := Ev → D → SEnv → Sto → (SEnv → Sto → Bool) → KX → Bool

/-! ### booleans, numbers, forced -/
def bif' (c : Bool) (a b : Bool) : Bool := Bool.rec b a c
@[simp] theorem bif_t (a b : Bool) : bif' true a b = a := rfl
@[simp] theorem bif_f (a b : Bool) : bif' false a b = b := rfl
/-- c and then a -/
def chk (c : Bool) (a : Bool) : Bool := Bool.rec false a c
theorem chk_t {c a : Bool} (h : chk c a = true) : c = true ∧ a = true := by cases c <;> simp [chk] at h ⊢; exact h
def subNN (a b : Nat) : Int := Bool.rec (Int.ofNat (Nat.sub a b)) (Int.negSucc (Nat.pred (Nat.sub b a))) (Nat.blt a b)
def iadd (i j : Int) : Int := Int.rec (fun a => Int.rec (fun b => .ofNat (Nat.add a b)) (fun b => subNN a (Nat.succ b)) j) (fun a => Int.rec (fun b => subNN b (Nat.succ a)) (fun b => .negSucc (Nat.succ (Nat.add a b))) j) i
def ineg (i : Int) : Int := Int.rec (fun a => Nat.rec (.ofNat 0) (fun m _ => .negSucc m) a) (fun a => .ofNat (Nat.succ a)) i
def isub (i j : Int) : Int := iadd i (ineg j)
def imul (i j : Int) : Int := Int.rec (fun a => Int.rec (fun b => .ofNat (Nat.mul a b)) (fun b => ineg (.ofNat (Nat.mul a (Nat.succ b)))) j)
  (fun a => Int.rec (fun b => ineg (.ofNat (Nat.mul (Nat.succ a) b))) (fun b => .ofNat (Nat.mul (Nat.succ a) (Nat.succ b))) j) i
def ilt (i j : Int) : Bool := Int.rec (fun a => Int.rec (fun b => Nat.blt a b) (fun _ => false) j) (fun a => Int.rec (fun _ => true) (fun b => Nat.blt b a) j) i
def ile (i j : Int) : Bool := Int.rec (fun a => Int.rec (fun b => Nat.ble a b) (fun _ => false) j) (fun a => Int.rec (fun _ => true) (fun b => Nat.ble b a) j) i
def ieq (i j : Int) : Bool := Int.rec (fun a => Int.rec (fun b => Nat.beq a b) (fun _ => false) j) (fun a => Int.rec (fun _ => false) (fun b => Nat.beq a b) j) i
/-- by a positive divisor b -/
def idivP (i : Int) (b : Nat) : Int := Int.rec (fun a => .ofNat (Nat.div a b)) (fun a => .negSucc (Nat.div a b)) i
def imodP (i : Int) (b : Nat) : Int := Int.rec (fun a => .ofNat (Nat.mod a b)) (fun a => .ofNat (Nat.sub b (Nat.succ (Nat.mod a b)))) i
theorem subNN_eq (a b : Nat) : subNN a b = (a : Int) - (b : Int) := by
  unfold subNN
  cases h : Nat.blt a b with
  | false =>
    have : ¬ a < b := fun z => by rw [Nat.blt_eq.mpr z] at h; cases h
    show Int.ofNat (a - b) = _
    rw [Int.ofNat_eq_natCast]; omega
  | true =>
    have : a < b := Nat.blt_eq.mp h
    show Int.negSucc ((b - a).pred) = _
    rw [Int.negSucc_eq]; simp only [Nat.pred_eq_sub_one]; omega
theorem iadd_eq (i j : Int) : iadd i j = i + j := by
  cases i <;> cases j <;> simp only [iadd, subNN_eq] <;> simp only [Int.ofNat_eq_natCast, Int.negSucc_eq, Nat.add_eq, Nat.succ_eq_add_one] <;> omega
theorem ineg_eq (i : Int) : ineg i = -i := by
  cases i with
  | ofNat a => cases a <;> rfl
  | negSucc a => simp only [ineg, Int.ofNat_eq_natCast, Int.negSucc_eq, Nat.succ_eq_add_one]; omega
theorem isub_eq (i j : Int) : isub i j = i - j := by rw [isub, iadd_eq, ineg_eq]; omega
theorem imul_eq (i j : Int) : imul i j = i * j := by
  cases i with
  | ofNat a => cases j with
    | ofNat b => show Int.ofNat (a * b) = (a : Int) * (b : Int); simp
    | negSucc b => show ineg (Int.ofNat (a * (b + 1))) = _; rw [ineg_eq, Int.negSucc_eq]; simp only [Int.ofNat_eq_natCast]; rw [Int.natCast_mul, Int.mul_neg]; rfl
  | negSucc a => cases j with
    | ofNat b => show ineg (Int.ofNat ((a + 1) * b)) = _; rw [ineg_eq, Int.negSucc_eq]; simp only [Int.ofNat_eq_natCast]; rw [Int.natCast_mul, Int.neg_mul]; rfl
    | negSucc b => show Int.ofNat ((a + 1) * (b + 1)) = _; rw [Int.negSucc_eq, Int.negSucc_eq]; simp only [Int.ofNat_eq_natCast]; rw [Int.natCast_mul, Int.neg_mul_neg]; rfl
theorem ilt_eq (i j : Int) : ilt i j = decide (i < j) := by
  rw [Bool.eq_iff_iff, decide_eq_true_iff]
  cases i with
  | ofNat a => cases j with
    | ofNat b => show Nat.blt a b = true ↔ (a : Int) < (b : Int); rw [Nat.blt_eq]; omega
    | negSucc b => show false = true ↔ (a : Int) < Int.negSucc b; rw [Int.negSucc_eq]; exact ⟨fun h => Bool.noConfusion h, fun h => by omega⟩
  | negSucc a => cases j with
    | ofNat b => show true = true ↔ Int.negSucc a < (b : Int); rw [Int.negSucc_eq]; exact ⟨fun _ => by omega, fun _ => rfl⟩
    | negSucc b => show Nat.blt b a = true ↔ Int.negSucc a < Int.negSucc b; rw [Nat.blt_eq, Int.negSucc_eq, Int.negSucc_eq]; omega
theorem ile_eq (i j : Int) : ile i j = decide (i ≤ j) := by
  rw [Bool.eq_iff_iff, decide_eq_true_iff]
  cases i with
  | ofNat a => cases j with
    | ofNat b => show Nat.ble a b = true ↔ (a : Int) ≤ (b : Int); rw [Nat.ble_eq]; omega
    | negSucc b => show false = true ↔ (a : Int) ≤ Int.negSucc b; rw [Int.negSucc_eq]; exact ⟨fun h => Bool.noConfusion h, fun h => by omega⟩
  | negSucc a => cases j with
    | ofNat b => show true = true ↔ Int.negSucc a ≤ (b : Int); rw [Int.negSucc_eq]; exact ⟨fun _ => by omega, fun _ => rfl⟩
    | negSucc b => show Nat.ble b a = true ↔ Int.negSucc a ≤ Int.negSucc b; rw [Nat.ble_eq, Int.negSucc_eq, Int.negSucc_eq]; omega
theorem ieq_eq (i j : Int) : ieq i j = decide (i = j) := by
  rw [Bool.eq_iff_iff, decide_eq_true_iff]
  cases i with
  | ofNat a => cases j with
    | ofNat b => show Nat.beq a b = true ↔ (a : Int) = (b : Int); rw [Nat.beq_eq]; omega
    | negSucc b => show false = true ↔ (a : Int) = Int.negSucc b; rw [Int.negSucc_eq]; exact ⟨fun h => Bool.noConfusion h, fun h => by omega⟩
  | negSucc a => cases j with
    | ofNat b => show false = true ↔ Int.negSucc a = (b : Int); rw [Int.negSucc_eq]; exact ⟨fun h => Bool.noConfusion h, fun h => by omega⟩
    | negSucc b => show Nat.beq a b = true ↔ Int.negSucc a = Int.negSucc b; rw [Nat.beq_eq, Int.negSucc_eq, Int.negSucc_eq]; omega
theorem idivP_eq (i : Int) (b : Nat) (hb : 0 < b) : idivP i b = i / (b : Int) := by
  cases i with
  | ofNat a => show Int.ofNat (a / b) = (a : Int) / (b : Int); simp
  | negSucc a => show Int.negSucc (a / b) = _; rw [Int.negSucc_ediv _ (by omega), Int.negSucc_eq]; simp <;> rfl
theorem imodP_eq (i : Int) (b : Nat) (hb : 0 < b) : imodP i b = i % (b : Int) := by
  cases i with
  | ofNat a => show Int.ofNat (a % b) = (a : Int) % (b : Int); simp
  | negSucc a =>
    show Int.ofNat (b - (a % b + 1)) = _
    rw [Int.negSucc_emod _ (by omega)]
    have : a % b < b := Nat.mod_lt _ hb
    simp only [Int.ofNat_eq_natCast]
    have e : ((a : Int) % (b : Int)) = ((a % b : Nat) : Int) := by simp
    rw [e]; omega
/-- force an int to its constructor -/
def frI (i : Int) (k : Int → Bool) : Bool := Int.rec (fun a => k (.ofNat a)) (fun a => k (.negSucc a)) i
@[simp] theorem frI_eq (i : Int) (k : Int → Bool) : frI i k = k i := by cases i <;> rfl
def frB (b : Bool) (k : Bool → Bool) : Bool := Bool.rec (k false) (k true) b
@[simp] theorem frB_eq (b : Bool) (k : Bool → Bool) : frB b k = k b := by cases b <;> rfl
def frN (n : Nat) (k : Nat → Bool) : Bool := Nat.rec (k 0) (fun m _ => k (Nat.succ m)) n
@[simp] theorem frN_eq (n : Nat) (k : Nat → Bool) : frN n k = k n := by cases n <;> rfl

/-! ### looks at a value -/
def isInt (d : D) (k : Int → Bool) : Bool := D.casesOn d false false (fun _ => false) k (fun _ => false) (fun _ => false) (fun _ _ => false) (fun _ => false) (fun _ => false) (fun _ => false) (fun _ => false) (fun _ => false)
def isBl (d : D) (k : Bool → Bool) : Bool := D.casesOn d false false k (fun _ => false) (fun _ => false) (fun _ => false) (fun _ _ => false) (fun _ => false) (fun _ => false) (fun _ => false) (fun _ => false) (fun _ => false)
def isStr (d : D) (k : List Nat → Bool) : Bool := D.casesOn d false false (fun _ => false) (fun _ => false) k (fun _ => false) (fun _ _ => false) (fun _ => false) (fun _ => false) (fun _ => false) (fun _ => false) (fun _ => false)
def isTup (d : D) (k : Bool → List D → Bool) : Bool := D.casesOn d false false (fun _ => false) (fun _ => false) (fun _ => false) (fun _ => false) k (fun _ => false) (fun _ => false) (fun _ => false) (fun _ => false) (fun _ => false)
def isLoc (d : D) (k : Nat → Bool) : Bool := D.casesOn d false false (fun _ => false) (fun _ => false) (fun _ => false) (fun _ => false) (fun _ _ => false) k (fun _ => false) (fun _ => false) (fun _ => false) (fun _ => false)
def isFn (d : D) (k : Nat → Bool) : Bool := D.casesOn d false false (fun _ => false) (fun _ => false) (fun _ => false) (fun _ => false) (fun _ _ => false) (fun _ => false) k (fun _ => false) (fun _ => false) (fun _ => false)
theorem isInt_t {d : D} {k} (h : isInt d k = true) : ∃ i, d = .int i ∧ k i = true := by cases d <;> first | (cases h; done) | exact ⟨_, rfl, h⟩
theorem isBl_t {d : D} {k} (h : isBl d k = true) : ∃ i, d = .bl i ∧ k i = true := by cases d <;> first | (cases h; done) | exact ⟨_, rfl, h⟩
theorem isStr_t {d : D} {k} (h : isStr d k = true) : ∃ i, d = .str i ∧ k i = true := by cases d <;> first | (cases h; done) | exact ⟨_, rfl, h⟩
theorem isTup_t {d : D} {k} (h : isTup d k = true) : ∃ b ds, d = .tup b ds ∧ k b ds = true := by cases d <;> first | (cases h; done) | exact ⟨_, _, rfl, h⟩
theorem isLoc_t {d : D} {k} (h : isLoc d k = true) : ∃ i, d = .loc i ∧ k i = true := by cases d <;> first | (cases h; done) | exact ⟨_, rfl, h⟩
theorem isFn_t {d : D} {k} (h : isFn d k = true) : ∃ i, d = .fn i ∧ k i = true := by cases d <;> first | (cases h; done) | exact ⟨_, rfl, h⟩

/-! ### lists, forced -/
section
variable {α : Type}
def nthK (l : List α) : Nat → (α → Bool) → Bool := List.rec (fun _ _ => false) (fun x _ ih n k => Nat.rec (k x) (fun m _ => ih m k) n) l
theorem nthK_t {l : List α} {n : Nat} {k} (h : nthK l n k = true) : ∃ x, l[n]? = some x ∧ k x = true := by
  induction l generalizing n with
  | nil => cases h
  | cons x r ih => cases n with
    | zero => exact ⟨x, rfl, h⟩
    | succ m => obtain ⟨y, e, q⟩ := ih h; exact ⟨y, by simpa using e, q⟩
theorem nthK_of {l : List α} {n : Nat} {x : α} {k} (h : l[n]? = some x) : nthK l n k = k x := by
  induction l generalizing n with
  | nil => cases h
  | cons y r ih => cases n with
    | zero => cases h; rfl
    | succ m => exact ih (by simpa using h)
/-- l with x at n -/
def setK (l : List α) : Nat → α → (List α → Bool) → Bool := List.rec (fun _ _ _ => false) (fun x r ih n d k => Nat.rec (k (d :: r)) (fun m _ => ih m d fun r' => k (x :: r')) n) l
theorem setK_t {l : List α} {n : Nat} {d : α} {k} (h : setK l n d k = true) : n < l.length ∧ k (l.set n d) = true := by
  induction l generalizing n k with
  | nil => cases h
  | cons x r ih => cases n with
    | zero => exact ⟨Nat.succ_pos _, h⟩
    | succ m => obtain ⟨q, z⟩ := ih (k := fun r' => k (x :: r')) h; exact ⟨Nat.succ_lt_succ q, z⟩
theorem setK_of {l : List α} {n : Nat} {d : α} {k} (h : n < l.length) : setK l n d k = k (l.set n d) := by
  induction l generalizing n k with
  | nil => cases h
  | cons x r ih => cases n with
    | zero => rfl
    | succ m => exact ih (k := fun r' => k (x :: r')) (Nat.lt_of_succ_lt_succ h)
/-- l ++ m -/
def appK (l : List α) : List α → (List α → Bool) → Bool := List.rec (fun m k => k m) (fun x _ ih m k => ih m fun r => k (x :: r)) l
@[simp] theorem appK_eq (l m : List α) (k) : appK l m k = k (l ++ m) := by
  induction l generalizing k with
  | nil => rfl
  | cons x r ih => exact ih (k := fun r' => k (x :: r'))
/-- the length -/
def lenK (l : List α) (k : Nat → Bool) : Bool := (List.rec (fun n k => k n) (fun _ _ ih n k => ih (Nat.succ n) k) l : Nat → (Nat → Bool) → Bool) 0 k
theorem lenK_aux (l : List α) (n : Nat) (k) : (List.rec (fun n k => k n) (fun _ _ ih n k => ih (Nat.succ n) k) l : Nat → (Nat → Bool) → Bool) n k = k (n + l.length) := by
  induction l generalizing n with
  | nil => rfl
  | cons x r ih => exact (ih (n + 1)).trans (by rw [List.length_cons, Nat.add_assoc, Nat.add_comm 1])
@[simp] theorem lenK_eq (l : List α) (k) : lenK l k = k l.length := by
  show _ = _
  unfold lenK
  rw [lenK_aux, Nat.zero_add]
def revK (l : List α) (k : List α → Bool) : Bool := (List.rec (fun a k => k a) (fun x _ ih a k => ih (x :: a) k) l : List α → (List α → Bool) → Bool) [] k
theorem revK_aux (l a : List α) (k) : (List.rec (fun a k => k a) (fun x _ ih a k => ih (x :: a) k) l : List α → (List α → Bool) → Bool) a k = k (l.reverse ++ a) := by
  induction l generalizing a with
  | nil => rfl
  | cons x r ih => exact (ih (x :: a)).trans (by rw [List.reverse_cons, List.append_assoc]; rfl)
@[simp] theorem revK_eq (l : List α) (k) : revK l k = k l.reverse := by
  unfold revK
  rw [revK_aux, List.append_nil]
/-- drop n -/
def dropK' (l : List α) : Nat → (List α → Bool) → Bool := List.rec (fun _ k => k []) (fun x r ih n k => Nat.rec (k (x :: r)) (fun m _ => ih m k) n) l
@[simp] theorem dropK_eq (l : List α) (n : Nat) (k) : dropK' l n k = k (l.drop n) := by
  induction l generalizing n with
  | nil => cases n <;> rfl
  | cons x r ih => cases n with
    | zero => rfl
    | succ m => exact ih m
def takeK (l : List α) : Nat → (List α → Bool) → Bool := List.rec (fun _ k => k []) (fun x r ih n k => Nat.rec (k []) (fun m _ => ih m fun r' => k (x :: r')) n) l
@[simp] theorem takeK_eq (l : List α) (n : Nat) (k) : takeK l n k = k (l.take n) := by
  induction l generalizing n k with
  | nil => cases n <;> rfl
  | cons x r ih => cases n with
    | zero => rfl
    | succ m => exact ih m (fun r' => k (x :: r'))
def lastK (l : List α) (k : α → Bool) : Bool := revK l fun r => nthK r 0 k
theorem lastK_t {l : List α} {k} (h : lastK l k = true) : ∃ x, l[l.length - 1]? = some x ∧ l ≠ [] ∧ k x = true := by
  unfold lastK at h
  rw [revK_eq] at h
  obtain ⟨x, e, q⟩ := nthK_t h
  cases l with
  | nil => cases e
  | cons a r =>
    refine ⟨x, ?_, List.cons_ne_nil _ _, q⟩
    rw [← e, List.getElem?_reverse (by simp)]
    simp
def emptyB (l : List α) : Bool := List.rec true (fun _ _ _ => false) l
theorem emptyB_eq (l : List α) : emptyB l = l.isEmpty := by cases l <;> rfl
end
/-- two texts -/
def seq (l : List Nat) : List Nat → Bool := List.rec (fun m => List.rec true (fun _ _ _ => false) m) (fun x _ ih m => List.rec false (fun y r _ => Bool.rec false (ih r) (Nat.beq x y)) m) l
theorem seq_eq (l m : List Nat) : seq l m = decide (l = m) := by
  induction l generalizing m with
  | nil => cases m <;> rfl
  | cons x r ih => cases m with
    | nil => rfl
    | cons y s =>
      show (Bool.rec false (seq r s) (Nat.beq x y) : Bool) = _
      rw [ih s]
      cases h : Nat.beq x y with
      | true => have e := Nat.eq_of_beq_eq_true h; subst e; simp
      | false =>
        have e : x ≠ y := fun z => by subst z; rw [Nat.beq_refl] at h; cases h
        simp [e]
def tyEq : TyN → TyN → Bool := fun a b => TyN.rec (TyN.rec true false false false false false b) (TyN.rec false true false false false false b) (TyN.rec false false true false false false b) (TyN.rec false false false true false false b) (TyN.rec false false false false true false b) (TyN.rec false false false false false true b) a
theorem tyEq_t {a b : TyN} (h : tyEq a b = true) : a = b := by cases a <;> cases b <;> first | rfl | cases h

/-! ### the store -/
def Tr.get : Tr → Nat → Option Cell
  | .lf, _ => none
  | .nd l v r, k => if k = 0 then some v else if k % 2 = 1 then l.get ((k - 1) / 2) else r.get ((k - 1) / 2)
def Tr.set : Tr → Nat → Cell → Tr
  | .lf, k, c => if k = 0 then .nd .lf c .lf else .lf
  | .nd l v r, k, c => if k = 0 then .nd l c r else if k % 2 = 1 then .nd (l.set ((k - 1) / 2) c) v r else .nd l v (r.set ((k - 1) / 2) c)
/-- all places below n are there -/
def Tr.full (t : Tr) (n : Nat) : Prop := ∀ k, k < n → (t.get k).isSome
theorem Tr.get_set_ne (t : Tr) : ∀ (k j : Nat) (c : Cell), j ≠ k → (t.set k c).get j = t.get j := by
  induction t with
  | lf =>
    intro k j c h
    unfold Tr.set
    by_cases hk : k = 0
    · rw [if_pos hk]
      unfold Tr.get
      rw [if_neg (by omega)]
      split <;> rfl
    · rw [if_neg hk]
  | nd l v r ihl ihr =>
    intro k j c h
    unfold Tr.set
    by_cases hk : k = 0
    · rw [if_pos hk]
      unfold Tr.get
      have hj : ¬ j = 0 := by omega
      simp only [if_neg hj]
    · rw [if_neg hk]
      by_cases hp : k % 2 = 1
      · rw [if_pos hp]
        unfold Tr.get
        by_cases hj : j = 0
        · rw [if_pos hj, if_pos hj]
        · rw [if_neg hj, if_neg hj]
          by_cases hq : j % 2 = 1
          · rw [if_pos hq, if_pos hq]; exact ihl _ _ _ (by omega)
          · rw [if_neg hq, if_neg hq]
      · rw [if_neg hp]
        unfold Tr.get
        by_cases hj : j = 0
        · rw [if_pos hj, if_pos hj]
        · rw [if_neg hj, if_neg hj]
          by_cases hq : j % 2 = 1
          · rw [if_pos hq, if_pos hq]
          · rw [if_neg hq, if_neg hq]; exact ihr _ _ _ (by omega)
theorem Tr.get_set_old (t : Tr) : ∀ (k : Nat) (c : Cell), (t.get k).isSome → (t.set k c).get k = some c := by
  induction t with
  | lf => intro k c h; cases h
  | nd l v r ihl ihr =>
    intro k c h
    unfold Tr.set
    by_cases hk : k = 0
    · rw [if_pos hk]; unfold Tr.get; rw [if_pos hk]
    · rw [if_neg hk]
      unfold Tr.get at h
      rw [if_neg hk] at h
      by_cases hp : k % 2 = 1
      · rw [if_pos hp] at h
        rw [if_pos hp]; unfold Tr.get; rw [if_neg hk, if_pos hp]; exact ihl _ _ h
      · rw [if_neg hp] at h
        rw [if_neg hp]; unfold Tr.get; rw [if_neg hk, if_neg hp]; exact ihr _ _ h
theorem Tr.full_l {l r : Tr} {v : Cell} {n : Nat} (h : (Tr.nd l v r).full n) : l.full (n / 2) := fun k hk => by
  have := h (2 * k + 1) (by omega)
  unfold Tr.get at this
  rw [if_neg (by omega), if_pos (by omega)] at this
  have e : (2 * k + 1 - 1) / 2 = k := by omega
  rwa [e] at this
theorem Tr.full_r {l r : Tr} {v : Cell} {n : Nat} (h : (Tr.nd l v r).full n) : r.full ((n - 1) / 2) := fun k hk => by
  have := h (2 * k + 2) (by omega)
  unfold Tr.get at this
  rw [if_neg (by omega), if_neg (by omega)] at this
  have e : (2 * k + 2 - 1) / 2 = k := by omega
  rwa [e] at this
theorem Tr.get_set_new (t : Tr) : ∀ (n : Nat) (c : Cell), t.full n → (t.set n c).get n = some c := by
  induction t with
  | lf =>
    intro n c h
    have : n = 0 := by
      cases n with
      | zero => rfl
      | succ m => have := h 0 (by omega); cases this
    subst this
    rfl
  | nd l v r ihl ihr =>
    intro n c h
    unfold Tr.set
    by_cases hk : n = 0
    · rw [if_pos hk]; unfold Tr.get; rw [if_pos hk]
    · rw [if_neg hk]
      by_cases hp : n % 2 = 1
      · rw [if_pos hp]; unfold Tr.get; rw [if_neg hk, if_pos hp]
        refine ihl _ _ ?_
        have e : (n - 1) / 2 = n / 2 := by omega
        rw [e]; exact Tr.full_l h
      · rw [if_neg hp]; unfold Tr.get; rw [if_neg hk, if_neg hp]
        exact ihr _ _ (Tr.full_r h)
/-- forced -/
def Tr.getK (t : Tr) : Nat → (Cell → Bool) → Bool := Tr.rec (fun _ _ => false)
  (fun _ v _ il ir k f => Nat.rec (f v) (fun m _ => Bool.rec (ir (Nat.div m 2) f) (il (Nat.div m 2) f) (Nat.beq (Nat.mod m 2) 0)) k) t
theorem Tr.getK_t {t : Tr} : ∀ {k : Nat} {f}, t.getK k f = true → ∃ c, t.get k = some c ∧ f c = true := by
  induction t with
  | lf => intro k f h; cases h
  | nd l v r ihl ihr =>
    intro k f h
    cases k with
    | zero => exact ⟨v, rfl, h⟩
    | succ m =>
      have h' : (Bool.rec (r.getK (m / 2) f) (l.getK (m / 2) f) (Nat.beq (m % 2) 0) : Bool) = true := h
      unfold Tr.get
      rw [if_neg (Nat.succ_ne_zero m)]
      cases hb : Nat.beq (m % 2) 0 with
      | true =>
        rw [hb] at h'
        have := Nat.eq_of_beq_eq_true hb
        rw [if_pos (by omega)]
        exact ihl h'
      | false =>
        rw [hb] at h'
        have : m % 2 ≠ 0 := fun z => by rw [z] at hb; cases hb
        rw [if_neg (by omega)]
        exact ihr h'
def Tr.setK (t : Tr) : Nat → Cell → (Tr → Bool) → Bool := Tr.rec (fun k c f => Nat.rec (f (.nd .lf c .lf)) (fun _ _ => false) k)
  (fun l v r il ir k c f => Nat.rec (f (.nd l c r)) (fun m _ => Bool.rec (ir (Nat.div m 2) c fun r' => f (.nd l v r')) (il (Nat.div m 2) c fun l' => f (.nd l' v r)) (Nat.beq (Nat.mod m 2) 0)) k) t
theorem Tr.setK_t {t : Tr} : ∀ {k : Nat} {c : Cell} {f}, t.setK k c f = true → f (t.set k c) = true := by
  induction t with
  | lf =>
    intro k c f h
    cases k with
    | zero => exact h
    | succ m => cases h
  | nd l v r ihl ihr =>
    intro k c f h
    cases k with
    | zero => exact h
    | succ m =>
      have h' : (Bool.rec (r.setK (m / 2) c fun r' => f (.nd l v r')) (l.setK (m / 2) c fun l' => f (.nd l' v r)) (Nat.beq (m % 2) 0) : Bool) = true := h
      unfold Tr.set
      rw [if_neg (Nat.succ_ne_zero m)]
      cases hb : Nat.beq (m % 2) 0 with
      | true =>
        rw [hb] at h'
        have := Nat.eq_of_beq_eq_true hb
        rw [if_pos (by omega)]
        exact ihl (f := fun l' => f (.nd l' v r)) h'
      | false =>
        rw [hb] at h'
        have : m % 2 ≠ 0 := fun z => by rw [z] at hb; cases hb
        rw [if_neg (by omega)]
        exact ihr (f := fun r' => f (.nd l v r')) h'
def Sto.get (M : Sto) (l : Nat) : Option Cell := M.t.get l
def Sto.set (M : Sto) (l : Nat) (c : Cell) : Sto := ⟨M.n, M.t.set l c⟩
def Sto.push (M : Sto) (c : Cell) : Sto := ⟨M.n + 1, M.t.set M.n c⟩
def Sto.full (M : Sto) : Prop := M.t.full M.n
def getC (M : Sto) (l : Nat) (f : Cell → Bool) : Bool := chk (Nat.blt l M.n) (M.t.getK l f)
def setC (M : Sto) (l : Nat) (c : Cell) (f : Sto → Bool) : Bool := M.t.setK l c fun t => f ⟨M.n, t⟩
def newC (M : Sto) (c : Cell) (f : Nat → Sto → Bool) : Bool := M.t.setK M.n c fun t => frN M.n fun n => f n ⟨Nat.succ n, t⟩
theorem getC_t {M : Sto} {l : Nat} {f} (h : getC M l f = true) : ∃ c, l < M.n ∧ M.get l = some c ∧ f c = true := by
  obtain ⟨h1, h2⟩ := chk_t h
  obtain ⟨c, e, q⟩ := Tr.getK_t h2
  exact ⟨c, Nat.blt_eq.mp h1, e, q⟩
theorem setC_t {M : Sto} {l : Nat} {c : Cell} {f} (h : setC M l c f = true) : f (M.set l c) = true := Tr.setK_t h
theorem newC_t {M : Sto} {c : Cell} {f} (h : newC M c f = true) : f M.n (M.push c) = true := by
  have := Tr.setK_t h
  rw [frN_eq] at this
  exact this
theorem Sto.set_full {M : Sto} {l : Nat} {c : Cell} (h : M.full) : (M.set l c).full := fun k hk => by
  by_cases e : k = l
  · subst e
    have := h k hk
    rw [show (M.set k c).t = M.t.set k c from rfl, Tr.get_set_old _ _ _ this]; rfl
  · rw [show (M.set l c).t = M.t.set l c from rfl, Tr.get_set_ne _ _ _ _ e]; exact h k hk
theorem Sto.push_full {M : Sto} {c : Cell} (h : M.full) : (M.push c).full := fun k hk => by
  have hk' : k < M.n + 1 := hk
  by_cases e : k = M.n
  · subst e
    rw [show (M.push c).t = M.t.set M.n c from rfl, Tr.get_set_new _ _ _ h]; rfl
  · rw [show (M.push c).t = M.t.set M.n c from rfl, Tr.get_set_ne _ _ _ _ e]; exact h k (by omega)
end Z
end
set_option Elab.async false
set_option autoImplicit false
set_option linter.all false
set_option maxRecDepth 100000
/-! Z2: how the evaluator's data stand for the layer's values and heap. -/
noncomputable section
namespace Z
open PySem PySem.Spec PyProof.Rows L2

/-- the text's tables: where the defs, the classes stand; the attributes' names -/
structure Tb where
  P : Program
  w : World
  K : PySem.W.Frag
  mg : Str → Option Value
  base : Heap
  fa : Nat → Addr
  ca : Nat → Addr
  at_ : List Str
  tabs : List (Addr × Str)
  kws : List Nat
structure Wd where
  n : Nat
  ρ : Nat → Addr
  H : Hp
/-- what the data need -/
structure LeW (W W' : Wd) : Prop where
  n : W.n ≤ W'.n
  ρ : ∀ l, l < W.n → W'.ρ l = W.ρ l
  tup : ∀ a xs, W.H a = some (.tup xs) → W'.H a = some (.tup xs)
  frl : ∀ a o xs, W.H a = some (.frz o (.lst xs)) → W'.H a = some (.frz o (.lst xs))
structure Le (W W' : Wd) : Prop where
  n : W.n ≤ W'.n
  ρ : ∀ l, l < W.n → W'.ρ l = W.ρ l
  tup : ∀ a xs, W.H a = some (.tup xs) → W'.H a = some (.tup xs)
  frz : ∀ a o x, W.H a = some (.frz o x) → W'.H a = some (.frz o x)
theorem Le.w {W W' : Wd} (h : Le W W') : LeW W W' := ⟨h.n, h.ρ, h.tup, fun a o xs e => h.frz a o _ e⟩
theorem Le.refl (W : Wd) : Le W W := ⟨Nat.le_refl _, fun _ _ => rfl, fun _ _ h => h, fun _ _ _ h => h⟩
theorem Le.trans {a b c : Wd} (h : Le a b) (k : Le b c) : Le a c :=
  ⟨Nat.le_trans h.n k.n, fun l hl => (k.ρ l (Nat.lt_of_lt_of_le hl h.n)).trans (h.ρ l hl), fun x xs e => k.tup x xs (h.tup x xs e), fun x o xs e => k.frz x o xs (h.frz x o xs e)⟩

def tyS : TyN → String
  | .int => "int" | .bool => "bool" | .str => "str" | .tuple => "tuple" | .list => "list" | .dict => "dict"
abbrev toS (s : List Nat) : Str := ⟨s.toArray⟩
theorem toS_inj {a b : List Nat} (h : toS a = toS b) : a = b := by
  have := congrArg (fun x : Str => x.cps.toList) h
  simpa using this

/-! ### a value as plain data (what repr and == read) -/
def pyL : List D → (D → PyData) → List PyData := fun l f => l.map f
def py : D → PyData := fun d => D.rec (motive_1 := fun _ => PyData) (motive_2 := fun _ => List PyData)
  .none .none (fun b => .bool b) (fun i => .int i) (fun s => .str (toS s)) (fun _ => .none) (fun _ _ ih => .tuple ih) (fun _ => .none) (fun _ => .none) (fun _ => .none) (fun _ _ => .none) (fun _ ih => .list ih)
  [] (fun _ _ h t => h :: t) d
theorem py_list : ∀ ds : List D, (D.rec (motive_1 := fun _ => PyData) (motive_2 := fun _ => List PyData)
  .none .none (fun b => .bool b) (fun i => .int i) (fun s => .str (toS s)) (fun _ => .none) (fun _ _ ih => .tuple ih) (fun _ => .none) (fun _ => .none) (fun _ => .none) (fun _ _ => .none) (fun _ ih => .list ih)
  [] (fun _ _ h t => h :: t) (.lv ds) : PyData) = .list (ds.map py) := by
  intro ds
  have : ∀ ds : List D, py (.lv ds) = .list (ds.map py) := by
    intro ds
    induction ds with
    | nil => rfl
    | cons d r ih =>
      show PyData.list (py d :: _) = PyData.list (py d :: r.map py)
      have e : py (.lv r) = .list (r.map py) := ih
      have e2 := PyData.list.inj e
      rw [← e2]
  exact this ds
@[simp] theorem py_lv (ds : List D) : py (.lv ds) = .list (ds.map py) := py_list ds
@[simp] theorem py_tup (k : Bool) (ds : List D) : py (.tup k ds) = .tuple (ds.map py) := by
  have e := PyData.list.inj (py_lv ds)
  show PyData.tuple _ = _
  rw [← e]
@[simp] theorem py_non : py .non = .none := rfl
@[simp] theorem py_bl (b : Bool) : py (.bl b) = .bool b := rfl
@[simp] theorem py_int (i : Int) : py (.int i) = .int i := rfl
@[simp] theorem py_str (s : List Nat) : py (.str s) = .str (toS s) := rfl

/-! ### values -/
def KT (K : PySem.W.Frag) (a : Addr) (xs : List V) : Prop := ∃ (o : Obj) (its : Array Value) (n : Nat), K.lookup a = some o ∧ o.cls = .type "tuple" ∧ o.data = .seq its n ∧ its.size ≤ sizeLine ∧ Vals xs its.toList
def KL (K : PySem.W.Frag) (a : Addr) (xs : List V) : Prop := ∃ (o : Obj) (its : Array Value) (n : Nat), K.lookup a = some o ∧ o.cls = .type "list" ∧ o.dict = none ∧ o.data = .seq its n ∧ its.size ≤ sizeLine ∧ Vals xs its.toList
mutual
inductive VR (T : Tb) (W : Wd) : D → V → Prop
  | non : VR T W .non .non
  | bl (b : Bool) : VR T W (.bl b) (.bl b)
  | int (i : Int) : VR T W (.int i) (.int i)
  | str (s : List Nat) : VR T W (.str s) (.str (toS s))
  | ty (t : TyN) : VR T W (.ty t) (.ty (tyS t))
  | tup {a : Addr} {xs : List V} {ds : List D} (h : W.H a = some (.tup xs)) (hs : VRs T W ds xs) : VR T W (.tup false ds) (.ref a)
  | ktu {a : Addr} {xs : List V} {ds : List D} (h : KT T.K a xs) (hs : VRs T W ds xs) : VR T W (.tup true ds) (.ref a)
  | loc {l : Nat} (h : l < W.n) : VR T W (.loc l) (.ref (W.ρ l))
  | fn (i : Nat) : VR T W (.fn i) (.ref (T.fa i))
  | cls (i : Nat) : VR T W (.cls i) (.ref (T.ca i))
  | rp (p : D) : VR T W (.rp p) (.str (py p).shown)
  | lv {a : Addr} {xs : List V} {ds : List D} (h : (∃ o, W.H a = some (.frz o (.lst xs))) ∨ KL T.K a xs) (hs : VRs T W ds xs) : VR T W (.lv ds) (.ref a)
inductive VRs (T : Tb) (W : Wd) : List D → List V → Prop
  | nil : VRs T W [] []
  | cons {d : D} {v : V} {ds : List D} {vs : List V} (h : VR T W d v) (t : VRs T W ds vs) : VRs T W (d :: ds) (v :: vs)
end
section
variable {T : Tb} {W W' : Wd}
mutual
theorem VR.monoW (le : LeW W W') : ∀ {d : D} {v : V}, VR T W d v → VR T W' d v
  | _, _, .non => .non
  | _, _, .bl b => .bl b
  | _, _, .int i => .int i
  | _, _, .str s => .str s
  | _, _, .ty t => .ty t
  | _, _, .tup h hs => .tup (le.tup _ _ h) (VRs.monoW le hs)
  | _, _, .ktu h hs => .ktu h (VRs.monoW le hs)
  | _, _, .loc (l := l) h => by rw [← le.ρ l h]; exact .loc (Nat.lt_of_lt_of_le h le.n)
  | _, _, .fn i => .fn i
  | _, _, .cls i => .cls i
  | _, _, .rp p => .rp p
  | _, _, .lv h hs => .lv (h.imp (fun ⟨o, e⟩ => ⟨o, le.frl _ _ _ e⟩) id) (VRs.monoW le hs)
theorem VRs.monoW (le : LeW W W') : ∀ {ds : List D} {vs : List V}, VRs T W ds vs → VRs T W' ds vs
  | _, _, .nil => .nil
  | _, _, .cons h t => .cons (VR.monoW le h) (VRs.monoW le t)
end
theorem VR.mono (le : Le W W') {d : D} {v : V} (h : VR T W d v) : VR T W' d v := h.monoW le.w
theorem VRs.mono (le : Le W W') {ds : List D} {vs : List V} (h : VRs T W ds vs) : VRs T W' ds vs := h.monoW le.w
theorem VRs.length : ∀ {ds : List D} {vs : List V}, VRs T W ds vs → ds.length = vs.length
  | _, _, .nil => rfl
  | _, _, .cons _ t => congrArg Nat.succ (VRs.length t)
theorem VRs.get : ∀ {ds : List D} {vs : List V} {i : Nat} {d : D}, VRs T W ds vs → ds[i]? = some d → ∃ v, vs[i]? = some v ∧ VR T W d v
  | _, _, _, _, .nil, e => by simp at e
  | _, _, 0, _, .cons h _, e => by simp at e; subst e; exact ⟨_, rfl, h⟩
  | _, _, i + 1, _, .cons _ t, e => by
    obtain ⟨v, h1, h2⟩ := VRs.get (i := i) t (by simpa using e)
    exact ⟨v, by simpa using h1, h2⟩
theorem VRs.set {d : D} {v : V} (r : VR T W d v) : ∀ {ds : List D} {vs : List V} (i : Nat), VRs T W ds vs → VRs T W (ds.set i d) (vs.set i v)
  | _, _, _, .nil => .nil
  | _, _, 0, .cons _ t => .cons r t
  | _, _, i + 1, .cons h t => .cons h (VRs.set r i t)
theorem VRs.append : ∀ {ds es : List D} {vs us : List V}, VRs T W ds vs → VRs T W es us → VRs T W (ds ++ es) (vs ++ us)
  | _, _, _, _, .nil, s => s
  | _, _, _, _, .cons h t, s => .cons h (VRs.append t s)
theorem VRs.take : ∀ {ds : List D} {vs : List V} (n : Nat), VRs T W ds vs → VRs T W (ds.take n) (vs.take n)
  | _, _, 0, _ => .nil
  | _, _, _ + 1, .nil => .nil
  | _, _, n + 1, .cons h t => .cons h (VRs.take n t)
theorem VRs.drop : ∀ {ds : List D} {vs : List V} (n : Nat), VRs T W ds vs → VRs T W (ds.drop n) (vs.drop n)
  | _, _, 0, r => r
  | _, _, _ + 1, .nil => .nil
  | _, _, n + 1, .cons _ t => VRs.drop n t
theorem VRs.reverse {ds : List D} {vs : List V} (h : VRs T W ds vs) : VRs T W ds.reverse vs.reverse := by
  induction ds generalizing vs with
  | nil => cases h; exact .nil
  | cons d r ih =>
    cases h with
    | cons h t => rw [List.reverse_cons, List.reverse_cons]; exact (ih t).append (.cons h .nil)
theorem VRs.rep {ds : List D} {vs : List V} (h : VRs T W ds vs) : ∀ k : Nat, VRs T W (List.replicate k ds).flatten (List.replicate k vs).flatten
  | 0 => .nil
  | k + 1 => by rw [List.replicate_succ, List.flatten_cons, List.replicate_succ, List.flatten_cons]; exact h.append (VRs.rep h k)
theorem VRs.ints {vs : List V} : ∀ {is : List Int}, VRs T W (is.map D.int) vs → vs = is.map V.int
  | [], h => by cases h; rfl
  | i :: r, h => by
    cases h with
    | cons h t => cases h; rw [VRs.ints t]; rfl
theorem VRs.bls {vs : List V} : ∀ {is : List Bool}, VRs T W (is.map D.bl) vs → vs = is.map V.bl
  | [], h => by cases h; rfl
  | i :: r, h => by
    cases h with
    | cons h t => cases h; rw [VRs.bls t]; rfl
theorem VRs.of_ints : ∀ is : List Int, VRs T W (is.map D.int) (is.map V.int)
  | [] => .nil
  | i :: r => .cons (.int i) (VRs.of_ints r)

/-! ### the frame's slots -/
structure SR (T : Tb) (W : Wd) (σd : SEnv) (σ : L2.St) : Prop where
  len : σd.length = σ.length
  at_ : ∀ (i : Nat) (d : D), σd[i]? = some d → d = .und ∨ ∃ v : V, σ[i]? = some (some v) ∧ VR T W d v
theorem SR.mono (le : Le W W') {σd : SEnv} {σ : L2.St} (s : SR T W σd σ) : SR T W' σd σ :=
  ⟨s.len, fun i d e => (s.at_ i d e).imp id fun ⟨v, h, r⟩ => ⟨v, h, r.mono le⟩⟩
theorem SR.set {σd : SEnv} {σ : L2.St} (s : SR T W σd σ) {d : D} {v : V} (r : VR T W d v) (i : Nat) : SR T W (σd.set i d) (σ.set i (some v)) := by
  refine ⟨by rw [List.length_set, List.length_set, s.len], fun j e h => ?_⟩
  by_cases hj : i = j
  · subst hj
    have hi : i < σd.length := by
      have := (List.getElem?_eq_some_iff.mp h).1
      rwa [List.length_set] at this
    rw [List.getElem?_set_self hi] at h
    cases h
    exact .inr ⟨v, List.getElem?_set_self (by rw [← s.len]; exact hi), r⟩
  · rw [List.getElem?_set_ne hj] at h
    rw [List.getElem?_set_ne hj]
    exact s.at_ j e h

/-! ### what stands in the heap -/
def keyD : D → Option Key
  | .int i => some (.inl i)
  | .str s => some (.inr (toS s))
  | _ => none
def keyDs : List D → Option (List Key)
  | [] => some []
  | d :: r => match keyD d, keyDs r with
    | some k, some ks => some (k :: ks)
    | _, _ => none
def keyT : D → Option (List Key)
  | .tup false ds => keyDs ds
  | _ => none
def KR (T : Tb) (W : Wd) : List (D × D) → List (Key × V) → Prop := Paired fun p q => keyD p.1 = some q.1 ∧ VR T W p.2 q.2
def TR (T : Tb) (W : Wd) : List (D × D) → List (List Key × V) → Prop := Paired fun p q => keyT p.1 = some q.1 ∧ VR T W p.2 q.2
def FR (T : Tb) (W : Wd) : List (Nat × D) → List (Str × V) → Prop := Paired fun p q => T.at_[p.1]? = some q.1 ∧ VR T W p.2 q.2
/-- a cell and an object of the abstract heap -/
def HR (T : Tb) (W : Wd) : Cell → HO → Prop
  | .lst ds, .lst xs => VRs T W ds xs
  | .dct false kvs, .dK ks => KR T W kvs ks
  | .dct true kvs, .dT ks => TR T W kvs ks
  | .ins c fs, .ins C _ fs' => C = T.ca c ∧ FR T W fs fs'
  | _, _ => False
/-- the pen's keys -/
def pkeys : List Key := [.inr "cells", .inr "at", .inr "digits", .inr "count", .inr "fold"]
/-- a pen of the law: its cells at b, as they are -/
structure PenS where
  cs : List Int
  a : Int
  d : Int
  n : Int
  f : Int
def PenS.ok (p : PenS) : Prop := p.cs.length ≤ 63 ∧ 0 ≤ p.a ∧ 0 ≤ p.d ∧ 0 ≤ p.f ∧ p.f < 2147483543
def PenOk (K : PySem.W.Frag) (H : Hp) (a : Addr) : Prop := ∃ (b : Addr) (p : PenS), H a = some (.dK [(.inr "cells", .ref b), (.inr "at", .int p.a), (.inr "digits", .int p.d), (.inr "count", .int p.n), (.inr "fold", .int p.f)]) ∧ ((∃ o, H b = some (.frz o (.lst (p.cs.map V.int)))) ∨ KL K b (p.cs.map V.int)) ∧ p.ok
/-- a pen; a thing that is looked at no more -/
def opq : Cell := .lk (.lk (.lst []))
def dead : Cell := .lk (.lk (.dct false []))
def CR (T : Tb) (W : Wd) (c : Cell) (a : Addr) : Prop := match c with
  | .lk (.lk c) => (match c with
    | .lst _ => PenOk T.K W.H a
    | _ => ∃ u, W.H a = some u ∧ ∀ ps, u ≠ .tbl ps)
  | .lk c => ∃ o u, W.H a = some (.frz o u) ∧ HR T W c u ∧ ∀ xs, u ≠ .lst xs
  | c => ∃ u, W.H a = some u ∧ HR T W c u
theorem KR.monoW (le : LeW W W') {l : List (D × D)} {m : List (Key × V)} (h : KR T W l m) : KR T W' l m := Paired.mapP h fun _ _ z => ⟨z.1, z.2.monoW le⟩
theorem TR.monoW (le : LeW W W') {l : List (D × D)} {m : List (List Key × V)} (h : TR T W l m) : TR T W' l m := Paired.mapP h fun _ _ z => ⟨z.1, z.2.monoW le⟩
theorem FR.monoW (le : LeW W W') {l : List (Nat × D)} {m : List (Str × V)} (h : FR T W l m) : FR T W' l m := Paired.mapP h fun _ _ z => ⟨z.1, z.2.monoW le⟩
theorem HR.monoW (le : LeW W W') {c : Cell} {u : HO} (h : HR T W c u) : HR T W' c u := by
  cases c with
  | lst ds => cases u <;> first | exact VRs.monoW le h | exact False.elim h
  | dct t kvs => cases t <;> cases u <;> first | exact KR.monoW le h | exact TR.monoW le h | exact False.elim h
  | ins c fs => cases u <;> first | exact ⟨h.1, FR.monoW le h.2⟩ | exact False.elim h
  | lk c => exact False.elim h
theorem KR.mono (le : Le W W') {l : List (D × D)} {m : List (Key × V)} (h : KR T W l m) : KR T W' l m := h.monoW le.w
theorem TR.mono (le : Le W W') {l : List (D × D)} {m : List (List Key × V)} (h : TR T W l m) : TR T W' l m := h.monoW le.w
theorem FR.mono (le : Le W W') {l : List (Nat × D)} {m : List (Str × V)} (h : FR T W l m) : FR T W' l m := h.monoW le.w
theorem HR.mono (le : Le W W') {c : Cell} {u : HO} (h : HR T W c u) : HR T W' c u := h.monoW le.w
theorem CR.some {c : Cell} {a : Addr} (h : CR T W c a) : ∃ u, W.H a = some u := by
  cases c with
  | lk c =>
    cases c with
    | lk c =>
      cases c with
      | lst _ => obtain ⟨b, p, e, _⟩ := h; exact ⟨_, e⟩
      | _ => obtain ⟨u, e, _⟩ := h; exact ⟨u, e⟩
    | _ => obtain ⟨o, u, e, _⟩ := h; exact ⟨_, e⟩
  | _ => obtain ⟨u, e, _⟩ := h; exact ⟨u, e⟩
theorem CR.monoW (le : LeW W W') {c : Cell} {a : Addr} (h : CR T W c a) (e : W'.H a = W.H a) : CR T W' c a := by
  cases c with
  | lk c =>
    cases c with
    | lk c =>
      cases c with
      | lst _ => obtain ⟨b, p, e1, e2, h1⟩ := h; exact ⟨b, p, e.trans e1, e2.imp (fun ⟨o, q⟩ => ⟨o, le.frl _ _ _ q⟩) id, h1⟩
      | _ => obtain ⟨u, e1, h1⟩ := h; exact ⟨u, e.trans e1, h1⟩
    | _ => obtain ⟨o, u, e1, h1, h2⟩ := h; exact ⟨o, u, e.trans e1, h1.monoW le, h2⟩
  | _ => obtain ⟨u, e1, h1⟩ := h; exact ⟨u, e.trans e1, h1.monoW le⟩
theorem CR.mono (le : Le W W') {c : Cell} {a : Addr} (h : CR T W c a) (e : W'.H a = W.H a) : CR T W' c a := h.monoW le.w e
structure MR (T : Tb) (W : Wd) (M : Sto) : Prop where
  n : M.n = W.n
  full : M.full
  cell : ∀ l c, l < W.n → M.get l = some c → CR T W c (W.ρ l)
  inj : ∀ i j, i < W.n → j < W.n → W.ρ i = W.ρ j → i = j
  tabs : LamX.Tabs T.tabs W.H
theorem MR.there {M : Sto} (m : MR T W M) {l : Nat} (h : l < W.n) : ∃ c, M.get l = some c := by
  have := m.full l (by rw [m.n]; exact h)
  exact Option.isSome_iff_exists.mp this
theorem MR.ne_new {M : Sto} (m : MR T W M) {l : Nat} (h : l < W.n) {p : Addr} (hp : W.H p = none) : W.ρ l ≠ p := by
  obtain ⟨c, e⟩ := m.there h
  obtain ⟨u, e2⟩ := (m.cell l c h e).some
  intro z
  rw [z, hp] at e2
  cases e2
/-- the heap has grown -/
theorem Le.ext {H' : Hp} (h : ∀ b o, W.H b = some o → H' b = some o) : Le W ⟨W.n, W.ρ, H'⟩ := ⟨Nat.le_refl _, fun _ _ => rfl, fun _ _ e => h _ _ e, fun _ _ _ e => h _ _ e⟩
theorem MR.ext {M : Sto} (m : MR T W M) {H' : Hp} (h : ∀ b o, W.H b = some o → H' b = some o) : MR T ⟨W.n, W.ρ, H'⟩ M :=
  ⟨m.n, m.full, fun l c hl e => by
    have q := m.cell l c hl e
    obtain ⟨u, e2⟩ := q.some
    exact q.mono (Le.ext h) ((h _ _ e2).trans e2.symm), m.inj, m.tabs.ext h⟩
theorem grows {H : Hp} {p : Addr} {o : HO} (hp : H p = none) : ∀ b u, H b = some u → upd H p o b = some u := fun b u e => by rw [upd_ne (ne_of_none e hp)]; exact e
/-- a new object is told -/
def Wd.new (W : Wd) (p : Addr) (H' : Hp) : Wd := ⟨W.n + 1, fun i => if i = W.n then p else W.ρ i, H'⟩
theorem Le.new {p : Addr} {H' : Hp} (h : ∀ b o, W.H b = some o → H' b = some o) : Le W (W.new p H') :=
  ⟨Nat.le_succ _, fun l hl => if_neg (Nat.ne_of_lt hl), fun _ _ e => h _ _ e, fun _ _ _ e => h _ _ e⟩
theorem MR.new {M : Sto} (m : MR T W M) {p : Addr} {H' : Hp} {c : Cell} {u : HO} (hp : W.H p = none) (h : ∀ b o, W.H b = some o → H' b = some o) (e : H' p = some u) (r : HR T (W.new p H') c u) : MR T (W.new p H') (M.push c) := by
  have hc : CR T (W.new p H') c p := by
    cases c with
    | lk c => exact False.elim r
    | _ => exact ⟨u, e, r⟩
  refine ⟨congrArg Nat.succ m.n, Sto.push_full m.full, fun l d hl q => ?_, fun i j hi hj q => ?_, m.tabs.ext h⟩
  · by_cases hln : l = W.n
    · subst hln
      have e1 : (M.push c).get W.n = some c := by
        have : (M.push c).get M.n = some c := Tr.get_set_new _ _ _ m.full
        rwa [m.n] at this
      rw [e1] at q
      cases q
      show CR T (W.new p H') c (if W.n = W.n then p else W.ρ W.n)
      rw [if_pos rfl]
      exact hc
    · have hl' : l < W.n := by have : l < W.n + 1 := hl; omega
      have e1 : (M.push c).get l = M.get l := Tr.get_set_ne _ _ _ _ (by rw [m.n]; exact hln)
      rw [e1] at q
      show CR T (W.new p H') d (if l = W.n then p else W.ρ l)
      rw [if_neg hln]
      have z := m.cell l d hl' q
      obtain ⟨u2, e2⟩ := z.some
      exact z.mono (Le.new h) ((h _ _ e2).trans e2.symm)
  · have hi' : i < W.n + 1 := hi
    have hj' : j < W.n + 1 := hj
    have q' : (if i = W.n then p else W.ρ i) = (if j = W.n then p else W.ρ j) := q
    by_cases hin : i = W.n <;> by_cases hjn : j = W.n
    · rw [hin, hjn]
    · rw [if_pos hin, if_neg hjn] at q'
      exact absurd q'.symm (m.ne_new (by omega) hp)
    · rw [if_neg hin, if_pos hjn] at q'
      exact absurd q' (m.ne_new (by omega) hp)
    · rw [if_neg hin, if_neg hjn] at q'
      exact m.inj i j (by omega) (by omega) q'
theorem VR.new {p : Addr} {H' : Hp} {M : Sto} (m : MR T W M) : VR T (W.new p H') (.loc M.n) (.ref p) := by
  have : VR T (W.new p H') (.loc W.n) (.ref ((W.new p H').ρ W.n)) := .loc (Nat.lt_succ_self _)
  rw [m.n]
  show VR T (W.new p H') (.loc W.n) (.ref p)
  have e : (W.new p H').ρ W.n = p := if_pos rfl
  rw [e] at this
  exact this
/-- a told object is written -/
theorem Le.write {a : Addr} {u u' : HO} (e : W.H a = some u) (h1 : ∀ xs, u ≠ .tup xs) (h2 : ∀ o x, u ≠ .frz o x) : Le W ⟨W.n, W.ρ, upd W.H a u'⟩ :=
  ⟨Nat.le_refl _, fun _ _ => rfl, fun b xs q => by show upd W.H a u' b = _; rw [upd_ne (fun z => by subst z; rw [e] at q; exact h1 _ (Option.some.inj q))]; exact q,
    fun b o xs q => by show upd W.H a u' b = _; rw [upd_ne (fun z => by subst z; rw [e] at q; exact h2 _ _ (Option.some.inj q))]; exact q⟩
/-- an object that is no table, no code -/
def plainHO : HO → Bool
  | .lst _ => true
  | .dK _ => true
  | .dT _ => true
  | .ins _ _ _ => true
  | .frz _ _ => true
  | _ => false
theorem tabs_write {Ts : List (Addr × Str)} {H : Hp} {a : Addr} {u u' : HO} (t : LamX.Tabs Ts H) (e : H a = some u) (h : plainHO u = true) : LamX.Tabs Ts (upd H a u') := fun p hp => by
  obtain ⟨ps, h1, h2, h3⟩ := t p hp
  refine ⟨ps, ?_, h2, fun pos cv hc => ?_⟩
  · rw [upd_ne (fun z => by rw [z, e] at h1; cases h1; cases h)]; exact h1
  · obtain ⟨c, e1, e2⟩ := h3 pos cv hc
    exact ⟨c, e1, by rw [upd_ne (fun z => by rw [z, e] at e2; cases e2; cases h)]; exact e2⟩
theorem MR.writeW {M : Sto} (m : MR T W M) {l : Nat} {c' : Cell} {u' : HO} (hl : l < W.n) (le : LeW W ⟨W.n, W.ρ, upd W.H (W.ρ l) u'⟩)
    (r : CR T ⟨W.n, W.ρ, upd W.H (W.ρ l) u'⟩ c' (W.ρ l)) (ht : LamX.Tabs T.tabs (upd W.H (W.ρ l) u')) : MR T ⟨W.n, W.ρ, upd W.H (W.ρ l) u'⟩ (M.set l c') := by
  refine ⟨m.n, Sto.set_full m.full, fun j d hj q => ?_, m.inj, ht⟩
  by_cases hjl : j = l
  · subst hjl
    have e1 : (M.set j c').get j = some c' := by
      obtain ⟨c0, e0⟩ := m.there hl
      exact Tr.get_set_old _ _ _ (by rw [show M.t.get j = some c0 from e0]; rfl)
    rw [e1] at q
    cases q
    exact r
  · have e1 : (M.set l c').get j = M.get j := Tr.get_set_ne _ _ _ _ hjl
    rw [e1] at q
    exact (m.cell j d hj q).monoW le (upd_ne fun z => hjl (m.inj j l hj hl z))
theorem MR.write {M : Sto} (m : MR T W M) {l : Nat} {c' : Cell} {u u' : HO} (hl : l < W.n) (e : W.H (W.ρ l) = some u) (h1 : ∀ xs, u ≠ .tup xs) (h2 : ∀ o x, u ≠ .frz o x)
    (r : CR T ⟨W.n, W.ρ, upd W.H (W.ρ l) u'⟩ c' (W.ρ l)) (h3 : plainHO u = true := by rfl) : MR T ⟨W.n, W.ρ, upd W.H (W.ρ l) u'⟩ (M.set l c') :=
  m.writeW hl (Le.write e h1 h2).w r (tabs_write m.tabs e h3)

/-! ### wishes -/
def XR (T : Tb) (W : Wd) (x : Xn) (c : Value) (d : Option Addr) : Prop := c = .ref (T.ca x.cls) ∧ (x.fs = [] ∨ ∃ b fs', d = some b ∧ W.H b = some (.xd fs') ∧ FR T W x.fs fs')
def PV (T : Tb) (W : Wd) (k : K1) (Q : VK) : Prop := ∀ W' d v M', Le W W' → MR T W' M' → VR T W' d v → k d M' = true → Q v W'.H
def PA' (T : Tb) (W : Wd) (k : KA) (Q : List V → Hp → Prop) : Prop := ∀ W' ds vs M', Le W W' → MR T W' M' → VRs T W' ds vs → k ds M' = true → Q vs W'.H
def PB (T : Tb) (W : Wd) (k : KB) (Q : Bool → Hp → Prop) : Prop := ∀ W' b M', Le W W' → MR T W' M' → k b M' = true → Q b W'.H
def PSt (T : Tb) (W : Wd) (k : SEnv → Sto → Bool) (Q : L2.St → Hp → Prop) : Prop := ∀ W' σd σ M', Le W W' → MR T W' M' → SR T W' σd σ → k σd M' = true → Q σ W'.H
def PX (T : Tb) (W : Wd) (kx : KX) (w : Value → Option Addr → Hp → Prop) : Prop := ∀ W' x c d M', Le W W' → MR T W' M' → XR T W' x c d → kx x M' = true → w c d W'.H
theorem PV.mono {W1 : Wd} {k : K1} {Q : VK} (h : PV T W k Q) (le : Le W W1) : PV T W1 k Q := fun W' d v M' l => h W' d v M' (le.trans l)
theorem PA'.mono {W1 : Wd} {k : KA} {Q} (h : PA' T W k Q) (le : Le W W1) : PA' T W1 k Q := fun W' d v M' l => h W' d v M' (le.trans l)
theorem PB.mono {W1 : Wd} {k : KB} {Q} (h : PB T W k Q) (le : Le W W1) : PB T W1 k Q := fun W' b M' l => h W' b M' (le.trans l)
theorem PSt.mono {W1 : Wd} {k} {Q} (h : PSt T W k Q) (le : Le W W1) : PSt T W1 k Q := fun W' d v M' l => h W' d v M' (le.trans l)
theorem PX.mono {W1 : Wd} {kx : KX} {w} (h : PX T W kx w) (le : Le W W1) : PX T W1 kx w := fun W' x c d M' l => h W' x c d M' (le.trans l)
end
end Z
end
set_option Elab.async false
set_option autoImplicit false
set_option linter.all false
set_option maxRecDepth 100000
set_option maxHeartbeats 4000000
/-! ZP: further rules about built-ins: a tuple times 1 and times none, any and all of ints, sums of tuples. -/
namespace ZP
open PySem PySem.Spec PyProof.Rows L2 HT
/-! ### tuple * 1, * 0 -/
theorem mul_same (l : Addr) (items : Array Value) (n : Nat) (dd : Option Addr) (sl : Array (Option Value)) (x : Int) (u : Tok) (c0 : (decide (x < -(2 ^ 63)) || decide (x ≥ 2 ^ 63)) = false) (c1 : (items.isEmpty || x == 1) = true) :
    Meets (Builtin.«tuple.__mul__» ⟨[.ref l, .int x u], []⟩) (fun _ R s => s.heap.get? l = some { cls := .type "tuple", dict := dd, data := .seq items n, slots := sl } ∧ R (.ok (.ret (Value.ref l))) s) :=
  .of_wp fun prog w A R s h => by
    obtain ⟨hp, g, d, tk, os⟩ := s
    obtain ⟨hl, h⟩ := h
    have f1 := AutoSeq1.idx_int
    wp_walk using wpAny_loadPart' hl
    repeat (first
      | (refine wpAny_ite_false (decide_eq_false (by rw [c0]; exact Bool.false_ne_true)) ?_; wp_walk using wpAny_loadPart' hl)
      | (refine wpAny_ite_true (decide_eq_true c1) ?_; wp_walk using wpAny_loadPart' hl))
    all_goals first
      | exact ⟨_, rfl, h⟩
      | skip

theorem mul_none (l : Addr) (items : Array Value) (n : Nat) (dd : Option Addr) (sl : Array (Option Value)) (x : Int) (u : Tok) (c0 : (decide (x < -(2 ^ 63)) || decide (x ≥ 2 ^ 63)) = false) (c1 : (items.isEmpty || x == 1) = false) (c2 : (decide (x ≤ 0) || items.isEmpty) = true) :
    Meets (Builtin.«tuple.__mul__» ⟨[.ref l, .int x u], []⟩) (fun _ R s => s.heap.get? l = some { cls := .type "tuple", dict := dd, data := .seq items n, slots := sl } ∧
      R (.ok (.ret (Value.ref s.heap.objs.size))) { s with heap := s.heap.push { cls := Value.type "tuple", data := Data.seq #[] }, toks := s.toks }) :=
  .of_wp fun prog w A R s h => by
    obtain ⟨hp, g, d, tk, os⟩ := s
    obtain ⟨hl, h⟩ := h
    have f1 := AutoSeq1.idx_int
    wp_walk using wpAny_loadPart' hl
    repeat (first
      | (refine wpAny_ite_false (decide_eq_false (by rw [c0]; exact Bool.false_ne_true)) ?_; wp_walk using wpAny_loadPart' hl)
      | (refine wpAny_ite_false (decide_eq_false (by rw [c1]; exact Bool.false_ne_true)) ?_; wp_walk using wpAny_loadPart' hl)
      | (refine wpAny_ite_true (decide_eq_true c2) ?_; wp_walk using wpAny_loadPart' hl))
    all_goals first
      | exact ⟨_, rfl, h⟩
      | skip
section
variable {X : Cx}
def rRep1 (K : PySem.W.Frag) : R2 := fun x y H Q => ∃ l xs, x = .ref l ∧ y = .int 1 ∧ SqT K H l xs ∧ Q (.ref l) H
theorem op_rep1 : OpR X (binaryOp .Mult) (rRep1 X.K) := by
  intro pins s σ H x y v u Q I rx ry h
  obtain ⟨l, xs, rfl, rfl, hT, q⟩ := h
  cases rx
  obtain ⟨t, rfl⟩ := ry
  obtain ⟨its, r, ⟨⟨cls, dd, data, sl⟩, ho, hc, n, hd⟩, hs⟩ := I.tuple hT
  simp only at hc hd
  subst hc hd
  refine wpAny_binaryOp_repeat_ref (T := "tuple") (U := "int") (by decide) ⟨_, ho, rfl⟩ (fun s' => typeIs_int s' 1 t) noFill_tuple_mul F.fills_int_mul F.slot_int_rmul repeat_tuple F.slot_int_index.lookup
    (call_meets F.slot_int_rmul (typeIs_int s 1 t) F.entry_int_rmul (F.args_int_rmul_2 _ _) (int_rmul_tuple 1 t l its.toArray n dd sl)
      ⟨ho, rfl, ⟨_, ho, rfl⟩, call_meets F.slot_tuple_mul ⟨_, ho, rfl⟩ F.entry_tuple_mul (F.args_tuple_mul_2 _ _) (mul_same l its.toArray n dd sl 1 t rfl (by rw [Bool.or_eq_true]; exact .inr rfl)) ⟨ho, ?_⟩⟩)
  exact ⟨.ref l, H, I, rfl, q⟩
def rRep0 (K : PySem.W.Frag) : R2 := fun x y H Q => ∃ l k xs, x = .ref l ∧ y = .int k ∧ SqT K H l xs ∧ xs ≠ [] ∧ -(2 ^ 63) ≤ k ∧ k ≤ 0 ∧ ∀ p, H p = none → Q (.ref p) (upd H p (.tup []))
theorem op_rep0 : OpR X (binaryOp .Mult) (rRep0 X.K) := by
  intro pins s σ H x y v u Q I rx ry h
  obtain ⟨l, k, xs, rfl, rfl, hT, hne, h1, h2, q⟩ := h
  cases rx
  obtain ⟨t, rfl⟩ := ry
  obtain ⟨its, r, ⟨⟨cls, dd, data, sl⟩, ho, hc, n, hd⟩, hs⟩ := I.tuple hT
  simp only at hc hd
  subst hc hd
  have hn : its ≠ [] := fun e => hne (by
    have := r.length
    rw [e] at this
    exact List.eq_nil_of_length_eq_zero this)
  have hi : its.toArray.isEmpty = false := by
    cases its with
    | nil => exact absurd rfl hn
    | cons a b => rfl
  have c0 : (decide (k < -(2 ^ 63)) || decide (k ≥ 2 ^ 63)) = false := by
    rw [decide_eq_false (by omega), decide_eq_false (by omega)] <;> rfl
  have c1 : (its.toArray.isEmpty || k == 1) = false := by
    rw [hi, Bool.false_or]
    exact beq_eq_false_iff_ne.mpr (by omega)
  have c2 : (decide (k ≤ 0) || its.toArray.isEmpty) = true := by
    rw [Bool.or_eq_true]
    exact .inl (decide_eq_true h2)
  refine wpAny_binaryOp_repeat_ref (T := "tuple") (U := "int") (by decide) ⟨_, ho, rfl⟩ (fun s' => typeIs_int s' k t) noFill_tuple_mul F.fills_int_mul F.slot_int_rmul repeat_tuple F.slot_int_index.lookup
    (call_meets F.slot_int_rmul (typeIs_int s k t) F.entry_int_rmul (F.args_int_rmul_2 _ _) (int_rmul_tuple k t l its.toArray n dd sl)
      ⟨ho, rfl, ⟨_, ho, rfl⟩, call_meets F.slot_tuple_mul ⟨_, ho, rfl⟩ F.entry_tuple_mul (F.args_tuple_mul_2 _ _) (mul_none l its.toArray n dd sl k t c0 c1 c2) ⟨ho, ?_⟩⟩)
  refine ⟨.ref s.heap.objs.size, _, I.laid (t' := s.toks) (o := .tup []) (fun b ob q => Heap.get?_push_of_some _ q) (Nat.le_refl _) ?_, rfl, q _ (I.hok.fresh (Nat.le_refl _))⟩
  exact ⟨Nat.zero_le _, [], .nil, IsTup.new _ _⟩
/-! ### any, all -/
def tr1 : V → Option Bool
  | .bl b => some b
  | .int i => some (i != 0)
  | .non => some false
  | _ => none
def trs : List V → Option (List Bool)
  | [] => some []
  | v :: r => match tr1 v, trs r with
    | some b, some bs => some (b :: bs)
    | _, _ => none
theorem trs_at : ∀ {vs : List V} {us : List Value} {bs : List Bool} {i : Nat} {u : Value}, trs vs = some bs → Vals vs us → us[i]? = some u → ∃ v, RelV v u ∧ tr1 v = some (bs.getD i false)
  | [], _, _, i, u, _, r, e => by cases r; simp at e
  | v :: vs, _, bs, i, u, h, r, e => by
    cases r with
    | cons r t =>
      unfold trs at h
      split at h
      · rename_i b bs' h1 h2
        cases h
        cases i with
        | zero => simp at e; subst e; exact ⟨v, r, h1⟩
        | succ j =>
          obtain ⟨v', q1, q2⟩ := trs_at (i := j) h2 t (by simpa using e)
          exact ⟨v', q1, by simpa using q2⟩
      · cases h
theorem trs_len : ∀ {vs : List V} {bs : List Bool}, trs vs = some bs → bs.length = vs.length
  | [], _, h => by cases h; rfl
  | v :: vs, bs, h => by
    unfold trs at h
    split at h
    · rename_i b bs' h1 h2
      cases h
      rw [List.length_cons, List.length_cons, trs_len h2]
    · cases h
theorem truth_any {prog : Program} {w : World} {A : Around} {vs : List V} {its : List Value} {bs : List Bool} (h : trs vs = some bs) (r : Vals vs its) :
    TruthOf prog w A (fun i v => its.toArray[i]? = some v) (fun i => bs.getD i false) := fun i u s Q E hv hq => by
  have hv' : its[i]? = some u := by simpa using hv
  obtain ⟨v, rv, e⟩ := trs_at h r hv'
  have hq' : Q (bs.getD i false) s := hq
  generalize bs.getD i false = b at e hq'
  cases v <;> simp only [tr1, Option.some.injEq, reduceCtorEq] at e
  · cases rv; subst e; exact fun _ _ _ => hq'
  · cases rv; subst e; exact wpAny_truthy_bool hq'
  · obtain ⟨t, rfl⟩ := rv; subst e; exact PyProof.Rows.truthy_int hq'
theorem iter_anyT {prog : Program} {w : World} {A : Around} {E : Value → Shared → Prop} {s : Shared} {l : Addr} {items : Array Value} {Q : Value → Shared → Prop} (hl : s.heap.IsTuple l items)
    (h : ∀ s₂ : Shared, s₂ = { s with heap := s.heap.push { cls := .type "tuple_iterator", data := .fields #[.ref l, .int 0 0] } } →
      (s₂.heap.IsTupleIter s.heap.objs.size l 0 ∧ s₂.heap.IsTuple l items) → l ≠ s.heap.objs.size → Q (.ref s.heap.objs.size) s₂) : wpAny (model prog w) A (pyIter (.ref l)) Q E s := by
  have hlt : l < s.heap.objs.size := by obtain ⟨_, e, _⟩ := hl; exact Heap.lt_size e
  exact wpAny_pyIter_tuple hl (h _ rfl ⟨⟨_, Heap.get?_push_size _ rfl, rfl, rfl⟩, hl.at fun o e => Heap.get?_push_of_some _ e⟩ (Nat.ne_of_lt hlt))
def rAny' (K : PySem.W.Frag) : List V → Hp → VK → Prop := fun vs H Q => ∃ (a : Addr) (xs : List V) (bs : List Bool), vs = [V.ref a] ∧ (SqL K H a xs ∨ SqT K H a xs) ∧ trs xs = some bs ∧ Q (.bl (bs.any id)) H
def rAll' (K : PySem.W.Frag) : List V → Hp → VK → Prop := fun vs H Q => ∃ (a : Addr) (xs : List V) (bs : List Bool), vs = [V.ref a] ∧ (SqL K H a xs ∨ SqT K H a xs) ∧ trs xs = some bs ∧ Q (.bl (bs.all id)) H
theorem cr_any' (hc : X.calm = true) : CallR X (.builtin "any") (rAny' X.K) := by
  intro pins s σ H vs us Q I r h
  obtain ⟨a, xs, bs, rfl, hs, hb, q⟩ := h
  rw [Vals.ref1 r]
  rcases hs with hs | hs
  · obtain ⟨its, rv, hl, _⟩ := I.list hs
    refine call_any_walk (iter_any hl.isList fun s₂ e2 st hne => ?_)
    subst e2
    refine ⟨_, _, _, _, _, _, _, rfl, Walks.list (A := X.A.in1) (I.ok.hd hc) _ a hne its.toArray, st, truth_any hb rv, fun h' tk hk => ?_⟩
    refine ⟨.bl _, H, I.kept fun b o eo => hk b o (fun hmem => ?_) (Heap.get?_push_of_some _ eo), ?_, q⟩
    · rcases List.mem_cons.mp hmem with e1 | hmem
      · exact absurd (e1 ▸ Heap.lt_size eo) (Nat.lt_irrefl _)
      · cases hmem
    · show Value.bool _ = Value.bool _
      rw [← L2.any_range, List.size_toArray, ← rv.length, trs_len hb]
  · obtain ⟨its, rv, hl, _⟩ := I.tuple hs
    refine call_any_walk (iter_anyT (show s.heap.IsTuple a its.toArray from hl) fun s₂ e2 st hne => ?_)
    subst e2
    refine ⟨_, _, _, _, _, _, _, rfl, Walks.tuple (A := X.A.in1) (I.ok.hd hc) _ a hne its.toArray, st, truth_any hb rv, fun h' tk hk => ?_⟩
    refine ⟨.bl _, H, I.kept fun b o eo => hk b o (fun hmem => ?_) (Heap.get?_push_of_some _ eo), ?_, q⟩
    · rcases List.mem_cons.mp hmem with e1 | hmem
      · exact absurd (e1 ▸ Heap.lt_size eo) (Nat.lt_irrefl _)
      · cases hmem
    · show Value.bool _ = Value.bool _
      rw [← L2.any_range, List.size_toArray, ← rv.length, trs_len hb]
theorem cr_all' (hc : X.calm = true) : CallR X (.builtin "all") (rAll' X.K) := by
  intro pins s σ H vs us Q I r h
  obtain ⟨a, xs, bs, rfl, hs, hb, q⟩ := h
  rw [Vals.ref1 r]
  rcases hs with hs | hs
  · obtain ⟨its, rv, hl, _⟩ := I.list hs
    refine call_all_walk (iter_any hl.isList fun s₂ e2 st hne => ?_)
    subst e2
    refine ⟨_, _, _, _, _, _, _, rfl, Walks.list (A := X.A.in1) (I.ok.hd hc) _ a hne its.toArray, st, truth_any hb rv, fun h' tk hk => ?_⟩
    refine ⟨.bl _, H, I.kept fun b o eo => hk b o (fun hmem => ?_) (Heap.get?_push_of_some _ eo), ?_, q⟩
    · rcases List.mem_cons.mp hmem with e1 | hmem
      · exact absurd (e1 ▸ Heap.lt_size eo) (Nat.lt_irrefl _)
      · cases hmem
    · show Value.bool _ = Value.bool _
      rw [← L2.all_range, List.size_toArray, ← rv.length, trs_len hb]
  · obtain ⟨its, rv, hl, _⟩ := I.tuple hs
    refine call_all_walk (iter_anyT (show s.heap.IsTuple a its.toArray from hl) fun s₂ e2 st hne => ?_)
    subst e2
    refine ⟨_, _, _, _, _, _, _, rfl, Walks.tuple (A := X.A.in1) (I.ok.hd hc) _ a hne its.toArray, st, truth_any hb rv, fun h' tk hk => ?_⟩
    refine ⟨.bl _, H, I.kept fun b o eo => hk b o (fun hmem => ?_) (Heap.get?_push_of_some _ eo), ?_, q⟩
    · rcases List.mem_cons.mp hmem with e1 | hmem
      · exact absurd (e1 ▸ Heap.lt_size eo) (Nat.lt_irrefl _)
      · cases hmem
    · show Value.bool _ = Value.bool _
      rw [← L2.all_range, List.size_toArray, ← rv.length, trs_len hb]
/-! ### sum of a tuple of ints -/
def rSumT (K : PySem.W.Frag) : List V → Hp → VK → Prop := fun vs H Q => ∃ (a : Addr) (ns : List Int), vs = [V.ref a] ∧ SqT K H a (ns.map V.int) ∧ Q (.int ns.sum) H
theorem cr_sumT (hc : X.calm = true) : CallR X (.builtin "sum") (rSumT X.K) := by
  intro pins s σ H vs us Q I r h
  obtain ⟨a, ns, rfl, hs, q⟩ := h
  obtain ⟨its, rv, hl, _⟩ := I.tuple hs
  rw [Vals.ref1 r]
  obtain ⟨xs, e⟩ := (Vals.ints rv).allInts.items
  have hn : numsOf (intItems xs).toList = ns := by rw [← e]; exact (Vals.ints rv).numsOf
  rw [nums_intItems] at hn
  have hl' : s.heap.IsTuple a (intItems xs) := by rw [← e]; exact hl
  refine PySem.W.ktm_sumG (I.ok.hd hc) hl' fun h' tk t' hk => ?_
  refine ⟨.int _, H, I.kept hk, ⟨t', ?_⟩, q⟩
  rw [preSum_eq, List.take_of_length_le (by simp), hn]
end
end ZP
set_option Elab.async false
set_option autoImplicit false
set_option linter.all false
set_option maxRecDepth 100000
set_option maxHeartbeats 1000000
/-! Z3: operators. -/
noncomputable section
namespace Z
open PySem PySem.Spec PyProof.Rows L2

structure XOk (T : Tb) (r : Nat) (X : Cx) (Wx : WX) : Prop where
  P : X.prog = T.P
  w : X.w = T.w
  K : X.K = T.K
  mg : X.mg = T.mg
  base : X.base = T.base
  calm : X.calm = true
  nd : X.N.Nodup
  room : Room r X.A
  tk : Takes X Wx
section
variable {T : Tb} {r : Nat} {X : Cx} {Wx : WX} {W : Wd}
theorem XOk.u64 (h : XOk T r X Wx) : X.A.units + 64 < cLine := h.room.units
theorem XOk.u1 (h : XOk T r X Wx) : X.A.units + 1 < cLine := by have := h.room.units; omega
theorem XOk.u0 (h : XOk T r X Wx) : X.A.units < cLine := h.room.units0

/-- a two-place operation, whatever it wants -/
def rS (X : Cx) (f : Value → Value → Sem Value) : R2 := fun x y H Q => ∀ (pins : List (Addr × Obj)) (s : Shared) (σ : L2.St) (v u : Value), Inv X pins σ H s → RelV x v → RelV y u → wpAny (model X.prog X.w) X.A (f v u) (EP X pins σ Q) X.xe s
theorem opr_rS {f : Value → Value → Sem Value} : OpR X f (rS X f) := fun pins s σ H x y v u Q I rx ry h => h pins s σ v u I rx ry
theorem rS_of {f : Value → Value → Sem Value} {q : R2} (h : OpR X f q) {x y : V} {H : Hp} {Q : VK} (z : q x y H Q) : rS X f x y H Q := fun pins s σ v u I rx ry => h pins s σ H x y v u Q I rx ry z
/-- an operation of the evaluator -/
abbrev G2 := D → D → Sto → K1 → Bool
def Op2 (T : Tb) (r : Nat) (f : Value → Value → Sem Value) (g : G2) : Prop :=
  ∀ (X : Cx) (Wx : WX), XOk T r X Wx → ∀ (W : Wd) (a b : D) (x y : V) (M : Sto) (k : K1) (Q : VK), MR T W M → VR T W a x → VR T W b y → g a b M k = true → PV T W k Q → rS X f x y W.H Q
theorem KT.sq {K : PySem.W.Frag} {a : Addr} {xs : List V} (h : KT K a xs) (H : Hp) : SqT K H a xs := .inr h
theorem KL.sq {K : PySem.W.Frag} {a : Addr} {xs : List V} (h : KL K a xs) (H : Hp) : SqL K H a xs := .inr h
theorem VR.sqT {k : Bool} {ds : List D} {v : V} (h : VR T W (.tup k ds) v) (hX : XOk T r X Wx) : ∃ a xs, v = .ref a ∧ SqT X.K W.H a xs ∧ VRs T W ds xs := by
  cases h with
  | tup h hs => exact ⟨_, _, rfl, SqT.of h, hs⟩
  | ktu h hs => exact ⟨_, _, rfl, by rw [hX.K]; exact h.sq _, hs⟩
theorem VR.sqLv {ds : List D} {v : V} (h : VR T W (.lv ds) v) (hX : XOk T r X Wx) : ∃ a xs, v = .ref a ∧ SqL X.K W.H a xs ∧ VRs T W ds xs := by
  cases h with
  | lv h hs =>
    rcases h with ⟨o, e⟩ | h
    · exact ⟨_, _, rfl, .inl (.inr ⟨o, e⟩), hs⟩
    · exact ⟨_, _, rfl, by rw [hX.K]; exact h.sq _, hs⟩
/-- the cell of a told place -/
theorem VR.loc_at {l : Nat} {v : V} (h : VR T W (.loc l) v) : l < W.n ∧ v = .ref (W.ρ l) := by
  cases h with
  | loc h => exact ⟨h, rfl⟩
theorem MR.lst {M : Sto} (m : MR T W M) {l : Nat} {ds : List D} (h : l < W.n) (e : M.get l = some (.lst ds)) : ∃ xs, W.H (W.ρ l) = some (.lst xs) ∧ VRs T W ds xs := by
  obtain ⟨u, e2, q⟩ := m.cell l _ h e
  cases u <;> first | exact ⟨_, e2, q⟩ | exact False.elim q
theorem PV.here {k : K1} {Q : VK} (h : PV T W k Q) {d : D} {v : V} {M : Sto} (m : MR T W M) (rv : VR T W d v) (e : k d M = true) : Q v W.H := h W d v M (Le.refl _) m rv e
/-- a new tuple -/
theorem PV.tup {k : K1} {Q : VK} (h : PV T W k Q) {ds : List D} {xs : List V} {M : Sto} (m : MR T W M) (rs : VRs T W ds xs) (e : k (.tup false ds) M = true) : ∀ p, W.H p = none → Q (.ref p) (upd W.H p (.tup xs)) := fun p hp => by
  have g := grows (o := .tup xs) hp
  exact h ⟨W.n, W.ρ, upd W.H p (.tup xs)⟩ (.tup false ds) (.ref p) M (Le.ext g) (m.ext g) (.tup upd_same (rs.mono (Le.ext g))) e
/-- a new list -/
theorem PV.lst {k : K1} {Q : VK} (h : PV T W k Q) {ds : List D} {xs : List V} {M : Sto} (m : MR T W M) (rs : VRs T W ds xs) (e : k (.loc M.n) (M.push (.lst ds)) = true) : ∀ p, W.H p = none → Q (.ref p) (upd W.H p (.lst xs)) := fun p hp => by
  have g := grows (o := .lst xs) hp
  exact h (W.new p (upd W.H p (.lst xs))) (.loc M.n) (.ref p) (M.push (.lst ds)) (Le.new g) (m.new hp g upd_same (show HR T _ (.lst ds) (.lst xs) from rs.mono (Le.new g))) (VR.new m) e

/-! ### lengths -/
def shortL {α : Type} (l : List α) (b : Bool) : Bool := lenK l fun n => chk (Nat.ble n 16000000) b
theorem shortL_t {α : Type} {l : List α} {b : Bool} (h : shortL l b = true) : l.length ≤ sizeLine ∧ b = true := by
  unfold shortL at h
  rw [lenK_eq] at h
  obtain ⟨h1, h2⟩ := chk_t h
  have := Nat.le_of_ble_eq_true h1
  exact ⟨by rw [show sizeLine = 16777216 from sizeLine_eq]; omega, h2⟩
theorem toS_length (s : List Nat) : (toS s).length = s.length := by show s.toArray.size = _; simp
theorem toS_app (s t : List Nat) : toS (s ++ t) = toS s ++ toS t := by
  show (⟨(s ++ t).toArray⟩ : Str) = ⟨s.toArray ++ t.toArray⟩
  simp

/-! ### + -/
def gCatT (k : Bool) (xs : List D) (k' : Bool) (ys : List D) (M : Sto) (f : K1) : Bool :=
  appK xs ys fun zs => shortL zs (Bool.rec (Bool.rec (f (.tup false zs) M) (f (.tup k xs) M) (emptyB ys)) (f (.tup k' ys) M) (emptyB xs))
/-- the list at l -/
def lstC (M : Sto) (l : Nat) (f : List D → Bool) : Bool := getC M l fun c => Cell.casesOn c f (fun _ _ => false) (fun _ _ => false) (fun _ => false)
theorem lstC_t {M : Sto} {l : Nat} {f} (h : lstC M l f = true) : ∃ ds, l < M.n ∧ M.get l = some (.lst ds) ∧ f ds = true := by
  obtain ⟨c, h1, h2, h3⟩ := getC_t h
  cases c <;> first | exact ⟨_, h1, h2, h3⟩ | cases h3
theorem MR.lstC {M : Sto} (m : MR T W M) {l : Nat} {f} (h : Z.lstC M l f = true) : ∃ ds xs, W.H (W.ρ l) = some (.lst xs) ∧ VRs T W ds xs ∧ l < W.n ∧ M.get l = some (.lst ds) ∧ f ds = true := by
  obtain ⟨ds, h1, h2, h3⟩ := lstC_t h
  have hl : l < W.n := by rw [← m.n]; exact h1
  obtain ⟨xs, e, rs⟩ := m.lst hl h2
  exact ⟨ds, xs, e, rs, hl, h2, h3⟩
def gCatL (l l2 : Nat) (M : Sto) (f : K1) : Bool := lstC M l fun xs => lstC M l2 fun ys => appK xs ys fun zs => shortL zs (newC M (.lst zs) fun n M' => f (.loc n) M')
def gAdd : G2 := fun a b M f => D.casesOn a false false (fun _ => false) (fun i => isInt b fun j => frI (iadd i j) fun z => f (.int z) M)
  (fun s => isStr b fun t => appK s t fun u => shortL u (f (.str u) M)) (fun _ => false) (fun k xs => isTup b fun k' ys => gCatT k xs k' ys M f) (fun l => isLoc b fun l2 => gCatL l l2 M f) (fun _ => false) (fun _ => false) (fun _ => false) (fun _ => false)
theorem VRs.nil_iff {ds : List D} {xs : List V} (h : VRs T W ds xs) : ds = [] ↔ xs = [] := by cases h <;> simp
theorem emptyB_t {α : Type} {l : List α} (h : emptyB l = true) : l = [] := by cases l <;> first | rfl | cases h
theorem emptyB_f {α : Type} {l : List α} (h : emptyB l = false) : l ≠ [] := by cases l <;> first | exact List.cons_ne_nil _ _ | cases h
theorem add_ok : Op2 T r (binaryOp .Add) gAdd := by
  intro X Wx hX W a b x y M k Q m ra rb h hQ
  cases a with
  | int i =>
    obtain ⟨j, rfl, h1⟩ := isInt_t h
    rw [frI_eq, iadd_eq] at h1
    cases ra; cases rb
    exact rS_of op_add ⟨i, j, rfl, rfl, hQ.here m (.int _) h1⟩
  | str s =>
    obtain ⟨t, rfl, h1⟩ := isStr_t h
    rw [appK_eq] at h1
    obtain ⟨hl, h2⟩ := shortL_t h1
    cases ra; cases rb
    refine rS_of op_add_str ⟨toS s, toS t, rfl, rfl, ?_, ?_⟩
    · rw [toS_length, toS_length, ← List.length_append]; exact hl
    · rw [← toS_app]; exact hQ.here m (.str _) h2
  | tup ka xs =>
    obtain ⟨kb, ys, rfl, h1⟩ := isTup_t h
    obtain ⟨p, vs, rfl, hp, rp⟩ := ra.sqT hX
    obtain ⟨q, us, rfl, hq, rq⟩ := rb.sqT hX
    unfold gCatT at h1
    rw [appK_eq] at h1
    obtain ⟨hl, h2⟩ := shortL_t h1
    refine rS_of op_catA ⟨p, q, vs, us, rfl, rfl, hp, hq, by rw [← rp.length, ← rq.length, ← List.length_append]; exact hl, fun e => ?_, fun e1 e2 => ?_, fun e1 e2 => ?_⟩
    · have : xs = [] := rp.nil_iff.mpr e
      subst this
      exact hQ.here m rb h2
    · have n1 : xs ≠ [] := fun z => e1 (rp.nil_iff.mp z)
      have n2 : ys = [] := rq.nil_iff.mpr e2
      subst n2
      cases hx : emptyB xs with
      | true => exact absurd (emptyB_t hx) n1
      | false => rw [hx] at h2; exact hQ.here m ra h2
    · have n1 : xs ≠ [] := fun z => e1 (rp.nil_iff.mp z)
      have n2 : ys ≠ [] := fun z => e2 (rq.nil_iff.mp z)
      cases hx : emptyB xs with
      | true => exact absurd (emptyB_t hx) n1
      | false => cases hy : emptyB ys with
        | true => exact absurd (emptyB_t hy) n2
        | false => rw [hx, hy] at h2; exact hQ.tup m (rp.append rq) h2
  | loc l =>
    obtain ⟨l2, rfl, h1⟩ := isLoc_t h
    obtain ⟨_, rfl⟩ := ra.loc_at
    obtain ⟨_, rfl⟩ := rb.loc_at
    obtain ⟨ds, xs, e1, r1, _, _, h2⟩ := m.lstC h1
    obtain ⟨es, ys, e2, r2, _, _, h3⟩ := m.lstC h2
    rw [appK_eq] at h3
    obtain ⟨hl, h4⟩ := shortL_t h3
    refine rS_of op_cat ⟨_, _, xs, ys, rfl, rfl, e1, e2, by rw [← r1.length, ← r2.length, ← List.length_append]; exact hl, ?_⟩
    exact hQ.lst m (r1.append r2) (newC_t h4)
  | _ => cases h

/-! ### -, *, //, %, ** -/
def gSub : G2 := fun a b M f => isInt a fun i => isInt b fun j => frI (isub i j) fun z => f (.int z) M
theorem sub_ok : Op2 T r (binaryOp .Sub) gSub := by
  intro X Wx hX W a b x y M k Q m ra rb h hQ
  obtain ⟨i, rfl, h1⟩ := isInt_t h
  obtain ⟨j, rfl, h2⟩ := isInt_t h1
  rw [frI_eq, isub_eq] at h2
  cases ra; cases rb
  exact rS_of op_sub ⟨i, j, rfl, rfl, hQ.here m (.int _) h2⟩
def repK (xs : List D) (n : Nat) (k : List D → Bool) : Bool := (Nat.rec (fun a k => k a) (fun _ ih a k => appK xs a fun a' => ih a' k) n : List D → (List D → Bool) → Bool) [] k
theorem repK_aux (xs : List D) (n : Nat) (a : List D) (k) : (Nat.rec (fun a k => k a) (fun _ ih a k => appK xs a fun a' => ih a' k) n : List D → (List D → Bool) → Bool) a k = k ((List.replicate n xs).flatten ++ a) := by
  induction n generalizing a with
  | zero => rfl
  | succ n ih =>
    show appK xs a (fun a' => (Nat.rec (fun a k => k a) (fun _ ih a k => appK xs a fun a' => ih a' k) n : List D → (List D → Bool) → Bool) a' k) = _
    rw [appK_eq, ih]
    congr 1
    rw [← List.append_assoc]
    congr 1
    have : (List.replicate n xs).flatten ++ xs = (List.replicate (n + 1) xs).flatten := by
      rw [List.replicate_succ', List.flatten_append]; simp
    exact this
theorem repK_eq (xs : List D) (n : Nat) (k) : repK xs n k = k (List.replicate n xs).flatten := by
  unfold repK
  rw [repK_aux, List.append_nil]
def gMulI (i j : Int) (M : Sto) (f : K1) : Bool := chk (Nat.blt (Nat.add (Nat.log2 (Int.natAbs i)) (Nat.log2 (Int.natAbs j))) 1000000) (frI (imul i j) fun z => f (.int z) M)
def gRep2 (xs : List D) (n : Nat) (M : Sto) (f : K1) : Bool := chk (Nat.ble n 1000) (lenK xs fun m => chk (Nat.ble m 1000) (repK xs n fun ys => f (.tup false ys) M))
def gRepT (k : Bool) (xs : List D) (j : Int) (M : Sto) (f : K1) : Bool := Bool.rec (Int.rec (fun n => Nat.rec (f (.tup false []) M) (fun n' _ => Nat.rec (f (.tup k xs) M) (fun _ _ => gRep2 xs n M f) n') n) (fun n => chk (Nat.blt n 1000000) (f (.tup false []) M)) j) false (emptyB xs)
def gRepL (l : Nat) (j : Int) (M : Sto) (f : K1) : Bool := Int.rec (fun n => chk (Nat.ble n 10000) (lstC M l fun xs => lenK xs fun m => chk (Nat.ble m 1000) (repK xs n fun ys => newC M (.lst ys) fun q M' => f (.loc q) M'))) (fun _ => false) j
def gMul : G2 := fun a b M f => D.casesOn a false false (fun _ => false) (fun i => isInt b fun j => gMulI i j M f) (fun _ => false) (fun _ => false) (fun k xs => isInt b fun j => gRepT k xs j M f) (fun l => isInt b fun j => gRepL l j M f) (fun _ => false) (fun _ => false) (fun _ => false) (fun _ => false)
theorem mul_ok : Op2 T r (binaryOp .Mult) gMul := by
  intro X Wx hX W a b x y M k Q m ra rb h hQ
  cases a with
  | int i =>
    obtain ⟨j, rfl, h1⟩ := isInt_t h
    obtain ⟨h2, h3⟩ := chk_t h1
    rw [frI_eq, imul_eq] at h3
    cases ra; cases rb
    exact rS_of op_mulW ⟨i, j, rfl, rfl, Nat.blt_eq.mp h2, hQ.here m (.int _) h3⟩
  | tup ka xs =>
    obtain ⟨j, rfl, h1⟩ := isInt_t h
    obtain ⟨p, vs, rfl, hp, rp⟩ := ra.sqT hX
    cases hx : emptyB xs with
    | true =>
      have h2 : (Bool.rec _ false (emptyB xs) : Bool) = true := h1
      rw [hx] at h2; cases h2
    | false =>
      have hne : vs ≠ [] := fun z => emptyB_f hx (rp.nil_iff.mpr z)
      have h2 : (Bool.rec (Int.rec (fun n => Nat.rec (k (.tup false []) M) (fun n' _ => Nat.rec (k (.tup ka xs) M) (fun _ _ => gRep2 xs n M k) n') n) (fun n => chk (Nat.blt n 1000000) (k (.tup false []) M)) j) false (emptyB xs) : Bool) = true := h1
      rw [hx] at h2
      have ra' := ra
      cases rb
      cases j with
      | negSucc n =>
        obtain ⟨h3, h4⟩ := chk_t h2
        have n1 := Nat.blt_eq.mp h3
        refine rS_of ZP.op_rep0 ⟨p, _, vs, rfl, rfl, hp, hne, by rw [Int.negSucc_eq]; omega, by rw [Int.negSucc_eq]; omega, ?_⟩
        exact hQ.tup m .nil h4
      | ofNat n =>
        cases n with
        | zero =>
          refine rS_of ZP.op_rep0 ⟨p, _, vs, rfl, rfl, hp, hne, by simp, by simp, ?_⟩
          exact hQ.tup m .nil h2
        | succ n => cases n with
          | zero => exact rS_of ZP.op_rep1 ⟨p, vs, rfl, rfl, hp, hQ.here m ra' h2⟩
          | succ n =>
            have h3 : gRep2 xs (n + 2) M k = true := h2
            obtain ⟨h4, h5⟩ := chk_t h3
            have n3 := Nat.le_of_ble_eq_true h4
            rw [lenK_eq] at h5
            obtain ⟨h7, h8⟩ := chk_t h5
            rw [repK_eq] at h8
            have n4 := Nat.le_of_ble_eq_true h7
            refine rS_of op_repT ⟨p, _, vs, rfl, rfl, hp, hne, by simp only [Int.ofNat_eq_natCast]; omega, by simp only [Int.ofNat_eq_natCast]; omega, by rw [← rp.length]; exact n4, ?_⟩
            exact hQ.tup m (rp.rep (n + 2)) h8
  | loc l =>
    obtain ⟨j, rfl, h1⟩ := isInt_t h
    obtain ⟨_, rfl⟩ := ra.loc_at
    cases rb
    cases j with
    | negSucc n => cases h1
    | ofNat n =>
      obtain ⟨h2, h3⟩ := chk_t h1
      have n2 := Nat.le_of_ble_eq_true h2
      obtain ⟨ds, xs, e1, r1, _, _, h4⟩ := m.lstC h3
      rw [lenK_eq] at h4
      obtain ⟨h5, h6⟩ := chk_t h4
      have n4 := Nat.le_of_ble_eq_true h5
      rw [repK_eq] at h6
      have hl := r1.length
      refine rS_of op_rep ⟨_, _, xs, rfl, rfl, e1, by simp only [Int.ofNat_eq_natCast]; omega, by simp only [Int.ofNat_eq_natCast]; omega, ?_, ?_⟩
      · rw [show sizeLine = 16777216 from sizeLine_eq]
        have a1 : xs.length * n ≤ 1000 * 10000 := Nat.mul_le_mul (by omega) n2
        show xs.length * n ≤ _
        omega
      · exact hQ.lst m (r1.rep n) (newC_t h6)
  | _ => cases h
def gDiv : G2 := fun a b M f => isInt a fun i => isInt b fun j => Int.rec (fun n => chk (Nat.blt 0 n) (chk (Nat.blt (Nat.log2 n) 9000) (frI (idivP i n) fun z => f (.int z) M)))
  (fun n => chk (Nat.blt n 1000000000) (frI (idivP (ineg i) (Nat.succ n)) fun z => f (.int z) M)) j
theorem div_ok : Op2 T r (binaryOp .FloorDiv) gDiv := by
  intro X Wx hX W a b x y M k Q m ra rb h hQ
  obtain ⟨i, rfl, h1⟩ := isInt_t h
  obtain ⟨j, rfl, h2⟩ := isInt_t h1
  cases ra; cases rb
  cases j with
  | ofNat n =>
    obtain ⟨h3, h4⟩ := chk_t h2
    obtain ⟨h5, h6⟩ := chk_t h4
    have n0 := Nat.blt_eq.mp h3
    rw [frI_eq, idivP_eq _ _ n0] at h6
    exact rS_of op_fdivW ⟨i, _, rfl, rfl, ⟨by simp only [Int.ofNat_eq_natCast]; omega, Nat.blt_eq.mp h5⟩, hQ.here m (.int _) h6⟩
  | negSucc n =>
    obtain ⟨h3, h4⟩ := chk_t h2
    have n0 := Nat.blt_eq.mp h3
    rw [frI_eq, idivP_eq _ _ (Nat.succ_pos n), ineg_eq] at h4
    refine rS_of op_fdivN ⟨i, _, rfl, rfl, ⟨fun z => by rw [Int.negSucc_eq] at z; omega, by rw [Int.negSucc_eq]; omega⟩, ?_⟩
    have e : i.fdiv (Int.negSucc n) = -i / ((Nat.succ n : Nat) : Int) := by
      rw [Int.negSucc_eq, ← Int.neg_fdiv_neg]
      rw [Int.neg_neg, Int.fdiv_eq_ediv_of_nonneg _ (by omega)]
      rfl
    show Q (V.int (i.fdiv (Int.negSucc n))) W.H
    rw [e]
    exact hQ.here m (.int _) h4
def gMod : G2 := fun a b M f => isInt a fun i => isInt b fun j => Int.rec (fun n => chk (Nat.blt 0 n) (frI (imodP i n) fun z => f (.int z) M)) (fun _ => false) j
theorem mod_ok : Op2 T r (binaryOp .Mod) gMod := by
  intro X Wx hX W a b x y M k Q m ra rb h hQ
  obtain ⟨i, rfl, h1⟩ := isInt_t h
  obtain ⟨j, rfl, h2⟩ := isInt_t h1
  cases ra; cases rb
  cases j with
  | ofNat n =>
    obtain ⟨h3, h4⟩ := chk_t h2
    have n0 := Nat.blt_eq.mp h3
    rw [frI_eq, imodP_eq _ _ n0] at h4
    exact rS_of L2.op_mod ⟨i, _, rfl, rfl, by simp only [Int.ofNat_eq_natCast]; omega, hQ.here m (.int _) h4⟩
  | negSucc n => cases h2
def gPow : G2 := fun a b M f => isInt a fun i => isInt b fun j => Int.rec (fun m => Int.rec (fun n => chk (Nat.ble n 1000) (chk (Nat.blt m 18446744073709551616) (frN (Nat.pow m n) fun z => f (.int (.ofNat z)) M))) (fun _ => false) j) (fun _ => false) i
theorem pow_ok : Op2 T r (binaryOp .Pow) gPow := by
  intro X Wx hX W a b x y M k Q m ra rb h hQ
  obtain ⟨i, rfl, h1⟩ := isInt_t h
  obtain ⟨j, rfl, h2⟩ := isInt_t h1
  cases ra; cases rb
  cases i with
  | negSucc n => cases j <;> cases h2
  | ofNat i => cases j with
    | negSucc n => cases h2
    | ofNat n =>
      obtain ⟨h3, h4⟩ := chk_t h2
      obtain ⟨h5, h6⟩ := chk_t h4
      rw [frN_eq] at h6
      have n0 := Nat.le_of_ble_eq_true h3
      have n1 := Nat.blt_eq.mp h5
      refine rS_of op_pow ⟨_, _, rfl, rfl, ⟨by simp only [Int.ofNat_eq_natCast]; omega, by simp only [Int.ofNat_eq_natCast]; omega, by simp only [Int.ofNat_eq_natCast]; omega⟩, ?_⟩
      have e : (Int.ofNat i) ^ (Int.ofNat n).toNat = Int.ofNat (Nat.pow i n) := by
        show ((i : Int)) ^ n = ((i ^ n : Nat) : Int)
        rw [Int.natCast_pow]
      show Q (V.int ((Int.ofNat i) ^ (Int.ofNat n).toNat)) W.H
      rw [e]
      exact hQ.here m (.int _) h6

/-! ### plain data -/
def strB (s : List Nat) : Bool := List.rec true (fun c _ ih => Bool.rec false ih (Nat.blt c 1114112)) s
theorem strB_of : ∀ {s : List Nat}, strB s = true → ∀ c ∈ s, c < 1114112
  | [], _, _, h => by cases h
  | c :: r, h, d, hd => by
    have h' : (Bool.rec false (strB r) (Nat.blt c 1114112) : Bool) = true := h
    cases q : Nat.blt c 1114112 with
    | false => rw [q] at h'; cases h'
    | true =>
      rw [q] at h'
      rcases List.mem_cons.mp hd with e | hd
      · subst e; exact Nat.blt_eq.mp q
      · exact strB_of h' d hd
theorem strB_lay {s : List Nat} (h : strB s = true) : PyData.canLay0 (.str (toS s)) = true := by
  simp only [PyData.canLay0, PySem.PyData.strOk]
  have := strB_of h
  simpa using this
theorem recF (a b : Bool) : (Bool.rec false a b : Bool) = (b && a) := by cases b <;> rfl
/-- plain data, whatever its texts -/
def plain (d : D) : Bool := D.rec (motive_1 := fun _ => Bool) (motive_2 := fun _ => Bool)
  false true (fun _ => true) (fun _ => true) (fun _ => true) (fun _ => false) (fun _ _ ih => ih) (fun _ => false) (fun _ => false) (fun _ => false) (fun _ _ => false) (fun _ ih => ih) true (fun _ _ h t => Bool.rec false t h) d
def plains (ds : List D) : Bool := ds.all plain
theorem plain_lv : ∀ ds : List D, plain (.lv ds) = plains ds
  | [] => rfl
  | d :: r => by
    show (Bool.rec false (plain (.lv r)) (plain d) : Bool) = _
    rw [plain_lv r, recF]; rfl
theorem plain_tup (k : Bool) (ds : List D) : plain (.tup k ds) = plains ds := plain_lv ds
/-- a value as plain data, at most so deep; the lists of the store read out -/
def rsv (n : Nat) : D → Sto → (D → Bool) → Bool := Nat.rec (fun d M k => D.casesOn d false (k .non) (fun b => k (.bl b)) (fun i => k (.int i)) (fun s => chk (strB s) (k (.str s))) (fun _ => false) (fun _ _ => false) (fun _ => false) (fun _ => false) (fun _ => false) (fun _ => false) (fun _ => false))
  (fun _ ih d M k => D.casesOn d false (k .non) (fun b => k (.bl b)) (fun i => k (.int i)) (fun s => chk (strB s) (k (.str s))) (fun _ => false)
    (fun b ds => (List.rec (fun k => k []) (fun d _ il k => ih d M fun d' => il fun r => k (d' :: r)) ds : (List D → Bool) → Bool) fun es => k (.tup b es))
    (fun l => lstC M l fun ds => (List.rec (fun k => k []) (fun d _ il k => ih d M fun d' => il fun r => k (d' :: r)) ds : (List D → Bool) → Bool) fun es => k (.lv es)) (fun _ => false) (fun _ => false) (fun _ => false)
    (fun ds => (List.rec (fun k => k []) (fun d _ il k => ih d M fun d' => il fun r => k (d' :: r)) ds : (List D → Bool) → Bool) fun es => k (.lv es))) n
def rsvs (n : Nat) (ds : List D) (M : Sto) : (List D → Bool) → Bool := List.rec (fun k => k []) (fun d _ il k => rsv n d M fun d' => il fun r => k (d' :: r)) ds
/-- what was read out -/
structure Rd' (K : PySem.W.Frag) (H : Hp) (n : Nat) (v : V) (d : D) : Prop where
  lay : (py d).canLay0 = true
  dep : (py d).depth ≤ n
  dp : Dp K H v (py d)
  pl : plain d = true
structure Rds (K : PySem.W.Frag) (H : Hp) (n : Nat) (vs : List V) (ds : List D) : Prop where
  lay : PyData.canLayAll0 (ds.map py) = true
  dep : PyData.depthAll (ds.map py) ≤ n
  dp : DpAll K H vs (ds.map py)
  pl : plains ds = true
theorem rsv_ok (K : PySem.W.Frag) (hK : K = T.K) {M : Sto} (m : MR T W M) : ∀ (n : Nat) (d : D) (v : V) (k : D → Bool), VR T W d v → rsv n d M k = true → ∃ d', k d' = true ∧ Rd' K W.H n v d' := by
  intro n
  induction n with
  | zero =>
    intro d v k r h
    cases d with
    | non => cases r; exact ⟨.non, h, by simp [PyData.canLay0], by simp [PyData.depth], .non, rfl⟩
    | bl b => cases r; exact ⟨.bl b, h, by simp [PyData.canLay0], by simp [PyData.depth], .bl _, rfl⟩
    | int i => cases r; exact ⟨.int i, h, by simp [PyData.canLay0], by simp [PyData.depth], .int _, rfl⟩
    | str s =>
      obtain ⟨h1, h2⟩ := chk_t h
      cases r; exact ⟨.str s, h2, strB_lay h1, by simp [PyData.depth], .str _, rfl⟩
    | _ => cases h
  | succ n ih =>
    have all : ∀ (ds : List D) (vs : List V) (k : List D → Bool), VRs T W ds vs → rsvs n ds M k = true → ∃ es, k es = true ∧ Rds K W.H n vs es := by
      intro ds
      induction ds with
      | nil =>
        intro vs k r h
        cases r
        exact ⟨[], h, by simp [PyData.canLayAll0], by simp [PyData.depthAll], .nil, rfl⟩
      | cons d ds il =>
        intro vs k r h
        cases r with
        | cons r1 r2 =>
          obtain ⟨d', h1, q1⟩ := ih d _ (fun d' => rsvs n ds M fun r => k (d' :: r)) r1 h
          obtain ⟨es, h2, q2⟩ := il _ (fun r => k (d' :: r)) r2 h1
          refine ⟨d' :: es, h2, ?_, ?_, .cons q1.dp q2.dp, by show (plain d' && plains es) = true; rw [q1.pl, q2.pl]; rfl⟩
          · rw [List.map_cons]; simp only [PyData.canLayAll0, q1.lay, q2.lay, Bool.and_self]
          · rw [List.map_cons]; simp only [PyData.depthAll]; have := q1.dep; have := q2.dep; omega
    intro d v k r h
    cases d with
    | non => cases r; exact ⟨.non, h, by simp [PyData.canLay0], by simp [PyData.depth], .non, rfl⟩
    | bl b => cases r; exact ⟨.bl b, h, by simp [PyData.canLay0], by simp [PyData.depth], .bl _, rfl⟩
    | int i => cases r; exact ⟨.int i, h, by simp [PyData.canLay0], by simp [PyData.depth], .int _, rfl⟩
    | str s =>
      obtain ⟨h1, h2⟩ := chk_t h
      cases r; exact ⟨.str s, h2, strB_lay h1, by simp [PyData.depth], .str _, rfl⟩
    | tup b ds =>
      have h' : rsvs n ds M (fun es => k (.tup b es)) = true := h
      cases r with
      | tup e hs =>
        obtain ⟨es, h1, q⟩ := all ds _ _ hs h'
        refine ⟨.tup _ es, h1, ?_, ?_, ?_, by rw [plain_tup]; exact q.pl⟩
        · rw [py_tup]; simp only [PyData.canLay0]; exact q.lay
        · rw [py_tup]; simp only [PyData.depth]; have := q.dep; omega
        · rw [py_tup]; exact .tup (SqT.of e) q.dp
      | ktu e hs =>
        obtain ⟨es, h1, q⟩ := all ds _ _ hs h'
        refine ⟨.tup _ es, h1, ?_, ?_, ?_, by rw [plain_tup]; exact q.pl⟩
        · rw [py_tup]; simp only [PyData.canLay0]; exact q.lay
        · rw [py_tup]; simp only [PyData.depth]; have := q.dep; omega
        · rw [py_tup]; exact .tup (by rw [hK]; exact e.sq _) q.dp
    | loc l =>
      have h' : lstC M l (fun ds => rsvs n ds M fun es => k (.lv es)) = true := h
      obtain ⟨_, rfl⟩ := r.loc_at
      obtain ⟨ds, xs, e, rs, _, _, h1⟩ := m.lstC h'
      obtain ⟨es, h2, q⟩ := all ds _ _ rs h1
      refine ⟨.lv es, h2, ?_, ?_, ?_, by rw [plain_lv]; exact q.pl⟩
      · rw [py_lv]; simp only [PyData.canLay0]; exact q.lay
      · rw [py_lv]; simp only [PyData.depth]; have := q.dep; omega
      · rw [py_lv]; exact .lst (SqL.of e) q.dp
    | lv ds =>
      have h' : rsvs n ds M (fun es => k (.lv es)) = true := h
      cases r with
      | lv e hs =>
        obtain ⟨es, h1, q⟩ := all ds _ _ hs h'
        refine ⟨.lv es, h1, ?_, ?_, ?_, by rw [plain_lv]; exact q.pl⟩
        · rw [py_lv]; simp only [PyData.canLay0]; exact q.lay
        · rw [py_lv]; simp only [PyData.depth]; have := q.dep; omega
        · rw [py_lv]
          refine .lst ?_ q.dp
          rcases e with ⟨o, e⟩ | e
          · exact .inl (.inr ⟨o, e⟩)
          · rw [hK]; exact e.sq _
    | _ => cases h
theorem Rd'.shaped {K : PySem.W.Frag} {H : Hp} {v : V} {d : D} (h : Rd' K H 64 v d) : SeqAt.shaped (py d) = true := by
  unfold SeqAt.shaped
  rw [h.lay, decide_eq_true h.dep]
  rfl

/-! ### ==, != -/
def eqD (a : D) : D → Bool := D.rec (motive_1 := fun _ => D → Bool) (motive_2 := fun _ => List D → Bool)
  (fun _ => false)
  (fun b => D.casesOn b false true (fun _ => false) (fun _ => false) (fun _ => false) (fun _ => false) (fun _ _ => false) (fun _ => false) (fun _ => false) (fun _ => false) (fun _ => false) (fun _ => false))
  (fun x b => D.casesOn b false false (fun y => Bool.rec (Bool.rec true false y) y x) (fun j => ieq (Bool.rec (.ofNat 0) (.ofNat 1) x) j) (fun _ => false) (fun _ => false) (fun _ _ => false) (fun _ => false) (fun _ => false) (fun _ => false) (fun _ => false) (fun _ => false))
  (fun i b => D.casesOn b false false (fun y => ieq i (Bool.rec (.ofNat 0) (.ofNat 1) y)) (fun j => ieq i j) (fun _ => false) (fun _ => false) (fun _ _ => false) (fun _ => false) (fun _ => false) (fun _ => false) (fun _ => false) (fun _ => false))
  (fun s b => D.casesOn b false false (fun _ => false) (fun _ => false) (fun t => seq s t) (fun _ => false) (fun _ _ => false) (fun _ => false) (fun _ => false) (fun _ => false) (fun _ => false) (fun _ => false))
  (fun _ _ => false)
  (fun _ _ ih b => D.casesOn b false false (fun _ => false) (fun _ => false) (fun _ => false) (fun _ => false) (fun _ es => ih es) (fun _ => false) (fun _ => false) (fun _ => false) (fun _ => false) (fun _ => false))
  (fun _ _ => false) (fun _ _ => false) (fun _ _ => false) (fun _ _ _ => false)
  (fun _ ih b => D.casesOn b false false (fun _ => false) (fun _ => false) (fun _ => false) (fun _ => false) (fun _ _ => false) (fun _ => false) (fun _ => false) (fun _ => false) (fun _ => false) (fun es => ih es))
  (fun l => emptyB l) (fun _ _ h t l => List.rec false (fun d r _ => Bool.rec false (t r) (h d)) l) a
def eqDs : List D → List D → Bool
  | [], l => emptyB l
  | _ :: _, [] => false
  | d :: r, e :: s => Bool.rec false (eqDs r s) (eqD d e)
theorem eqD_lv : ∀ (ds es : List D), eqD (.lv ds) (.lv es) = eqDs ds es
  | [], es => by cases es <;> rfl
  | d :: r, [] => rfl
  | d :: r, e :: s => by
    show (Bool.rec false (eqD (.lv r) (.lv s)) (eqD d e) : Bool) = Bool.rec false (eqDs r s) (eqD d e)
    rw [eqD_lv r s]
theorem eqD_tup (k k' : Bool) (ds es : List D) : eqD (.tup k ds) (.tup k' es) = eqDs ds es := eqD_lv ds es
mutual
theorem eqv_eqD : ∀ (a b : D), plain a = true → plain b = true → PyData.eqv (py a) (py b) = eqD a b
  | .und, _, h, _ => by cases h
  | .ty _, _, h, _ => by cases h
  | .loc _, _, h, _ => by cases h
  | .fn _, _, h, _ => by cases h
  | .cls _, _, h, _ => by cases h
  | .rp _, _, h, _ => by cases h
  | .non, b, _, hb => by cases b <;> first | (cases hb; done) | simp only [py_non, py_bl, py_int, py_str, py_tup, py_lv, PyData.eqv] <;> rfl
  | .bl x, b, _, hb => by
    cases b with
    | bl y => simp only [py_bl, PyData.eqv]; cases x <;> cases y <;> rfl
    | int j =>
      simp only [py_bl, py_int, PyData.eqv]
      show _ = ieq (Bool.rec (.ofNat 0) (.ofNat 1) x) j
      rw [ieq_eq]
      cases x <;> rw [Bool.beq_eq_decide_eq] <;> rfl
    | _ => first | (cases hb; done) | (simp only [py_non, py_bl, py_int, py_str, py_tup, py_lv, PyData.eqv] <;> rfl)
  | .int i, b, _, hb => by
    cases b with
    | bl y =>
      simp only [py_bl, py_int, PyData.eqv]
      show _ = ieq i (Bool.rec (.ofNat 0) (.ofNat 1) y)
      rw [ieq_eq]
      cases y <;> rw [Bool.beq_eq_decide_eq] <;> rfl
    | int j =>
      simp only [py_int, PyData.eqv]
      show _ = ieq i j
      rw [ieq_eq, Bool.beq_eq_decide_eq]
    | _ => first | (cases hb; done) | (simp only [py_non, py_bl, py_int, py_str, py_tup, py_lv, PyData.eqv] <;> rfl)
  | .str s, b, _, hb => by
    cases b with
    | str t =>
      simp only [py_str, PyData.eqv]
      show _ = seq s t
      rw [seq_eq, Bool.beq_eq_decide_eq]
      by_cases e : s = t
      · subst e; simp
      · rw [decide_eq_false e, decide_eq_false fun z => e (toS_inj z)]
    | _ => first | (cases hb; done) | (simp only [py_non, py_bl, py_int, py_str, py_tup, py_lv, PyData.eqv] <;> rfl)
  | .tup k ds, b, ha, hb => by
    rw [plain_tup] at ha
    cases b with
    | tup k' es =>
      rw [plain_tup] at hb
      rw [eqD_tup, py_tup, py_tup]
      simp only [PyData.eqv]
      exact eqv_eqDs ds es ha hb
    | _ => first | (cases hb; done) | (simp only [py_non, py_bl, py_int, py_str, py_tup, py_lv, PyData.eqv] <;> rfl)
  | .lv ds, b, ha, hb => by
    rw [plain_lv] at ha
    cases b with
    | lv es =>
      rw [plain_lv] at hb
      rw [eqD_lv, py_lv, py_lv]
      simp only [PyData.eqv]
      exact eqv_eqDs ds es ha hb
    | _ => first | (cases hb; done) | (simp only [py_non, py_bl, py_int, py_str, py_tup, py_lv, PyData.eqv] <;> rfl)
theorem eqv_eqDs : ∀ (ds es : List D), plains ds = true → plains es = true → PyData.eqvAll (ds.map py) (es.map py) = eqDs ds es
  | [], [], _, _ => by simp only [List.map_nil, PyData.eqvAll]; rfl
  | [], e :: s, _, _ => by simp only [List.map_nil, List.map_cons, PyData.eqvAll]; rfl
  | d :: r, [], _, _ => by simp only [List.map_nil, List.map_cons, PyData.eqvAll]; rfl
  | d :: r, e :: s, ha, hb => by
    have ha' : (plain d && plains r) = true := ha
    have hb' : (plain e && plains s) = true := hb
    rw [Bool.and_eq_true] at ha' hb'
    simp only [List.map_cons, PyData.eqvAll]
    rw [eqv_eqD d e ha'.1 hb'.1, eqv_eqDs r s ha'.2 hb'.2]
    show _ = (Bool.rec false (eqDs r s) (eqD d e) : Bool)
    rw [recF]
end
/-- the very same data -/
def sqD (a : D) : D → Bool := D.rec (motive_1 := fun _ => D → Bool) (motive_2 := fun _ => List D → Bool)
  (fun _ => false)
  (fun b => D.casesOn b false true (fun _ => false) (fun _ => false) (fun _ => false) (fun _ => false) (fun _ _ => false) (fun _ => false) (fun _ => false) (fun _ => false) (fun _ => false) (fun _ => false))
  (fun x b => D.casesOn b false false (fun y => Bool.rec (Bool.rec true false y) y x) (fun _ => false) (fun _ => false) (fun _ => false) (fun _ _ => false) (fun _ => false) (fun _ => false) (fun _ => false) (fun _ => false) (fun _ => false))
  (fun i b => D.casesOn b false false (fun _ => false) (fun j => ieq i j) (fun _ => false) (fun _ => false) (fun _ _ => false) (fun _ => false) (fun _ => false) (fun _ => false) (fun _ => false) (fun _ => false))
  (fun s b => D.casesOn b false false (fun _ => false) (fun _ => false) (fun t => seq s t) (fun _ => false) (fun _ _ => false) (fun _ => false) (fun _ => false) (fun _ => false) (fun _ => false) (fun _ => false))
  (fun _ _ => false)
  (fun _ _ ih b => D.casesOn b false false (fun _ => false) (fun _ => false) (fun _ => false) (fun _ => false) (fun _ es => ih es) (fun _ => false) (fun _ => false) (fun _ => false) (fun _ => false) (fun _ => false))
  (fun _ _ => false) (fun _ _ => false) (fun _ _ => false) (fun _ _ _ => false)
  (fun _ ih b => D.casesOn b false false (fun _ => false) (fun _ => false) (fun _ => false) (fun _ => false) (fun _ _ => false) (fun _ => false) (fun _ => false) (fun _ => false) (fun _ => false) (fun es => ih es))
  (fun l => emptyB l) (fun _ _ h t l => List.rec false (fun d r _ => Bool.rec false (t r) (h d)) l) a
def sqDs : List D → List D → Bool
  | [], l => emptyB l
  | _ :: _, [] => false
  | d :: r, e :: s => Bool.rec false (sqDs r s) (sqD d e)
theorem sqD_lv : ∀ (ds es : List D), sqD (.lv ds) (.lv es) = sqDs ds es
  | [], es => by cases es <;> rfl
  | d :: r, [] => rfl
  | d :: r, e :: s => by
    show (Bool.rec false (sqD (.lv r) (.lv s)) (sqD d e) : Bool) = Bool.rec false (sqDs r s) (sqD d e)
    rw [sqD_lv r s]
theorem sqD_tup (k k' : Bool) (ds es : List D) : sqD (.tup k ds) (.tup k' es) = sqDs ds es := sqD_lv ds es
mutual
theorem sqD_py : ∀ (a b : D), sqD a b = true → py a = py b
  | .und, _, h => by cases h
  | .ty _, _, h => by cases h
  | .loc _, _, h => by cases h
  | .fn _, _, h => by cases h
  | .cls _, _, h => by cases h
  | .rp _, _, h => by cases h
  | .non, b, h => by cases b <;> first | rfl | cases h
  | .bl x, b, h => by cases b <;> first | (cases h; done) | (rename_i y; cases x <;> cases y <;> first | rfl | cases h)
  | .int i, b, h => by
    cases b <;> first | (cases h; done) | skip
    rename_i j
    have h' : ieq i j = true := h
    rw [ieq_eq] at h'
    rw [of_decide_eq_true h']
  | .str s, b, h => by
    cases b <;> first | (cases h; done) | skip
    rename_i t
    have h' : seq s t = true := h
    rw [seq_eq] at h'
    rw [of_decide_eq_true h']
  | .tup k ds, b, h => by
    cases b <;> first | (cases h; done) | skip
    rename_i k' es
    rw [sqD_tup] at h
    rw [py_tup, py_tup, sqDs_py ds es h]
  | .lv ds, b, h => by
    cases b <;> first | (cases h; done) | skip
    rename_i es
    rw [sqD_lv] at h
    rw [py_lv, py_lv, sqDs_py ds es h]
theorem sqDs_py : ∀ (ds es : List D), sqDs ds es = true → ds.map py = es.map py
  | [], [], _ => rfl
  | [], _ :: _, h => by cases h
  | _ :: _, [], h => by cases h
  | d :: r, e :: s, h => by
    have h' : (Bool.rec false (sqDs r s) (sqD d e) : Bool) = true := h
    rw [recF, Bool.and_eq_true] at h'
    rw [List.map_cons, List.map_cons, sqD_py d e h'.1, sqDs_py r s h'.2]
end
def isRp (d : D) (k : D → Bool) (o : Bool) : Bool := D.casesOn d o o (fun _ => o) (fun _ => o) (fun _ => o) (fun _ => o) (fun _ _ => o) (fun _ => o) (fun _ => o) (fun _ => o) k (fun _ => o)
def gEq : G2 := fun a b M f => isRp a (fun p => isRp b (fun q => chk (sqD p q) (f (.bl true) M)) false) (rsv 64 a M fun a' => rsv 64 b M fun b' => frB (eqD a' b') fun z => f (.bl z) M)
def gNe : G2 := fun a b M f => isRp a (fun p => isRp b (fun q => chk (sqD p q) (f (.bl false) M)) false) (rsv 64 a M fun a' => rsv 64 b M fun b' => frB (eqD a' b') fun z => f (.bl (Bool.rec true false z)) M)
theorem isRp_c {d : D} {k : D → Bool} {o : Bool} (h : isRp d k o = true) : (∃ p, d = .rp p ∧ k p = true) ∨ o = true := by
  cases d <;> first | exact .inr h | exact .inl ⟨_, rfl, h⟩
theorem eq_rp {hX : XOk T r X Wx} {p q : D} {M : Sto} {k : K1} {Q : VK} {c : Bool} (m : MR T W M) (h : chk (sqD p q) (k (.bl c) M) = true) (hQ : PV T W k Q) : (V.str (py p).shown = V.str (py q).shown) ∧ Q (.bl c) W.H := by
  obtain ⟨h1, h2⟩ := chk_t h
  rw [sqD_py p q h1]
  exact ⟨rfl, hQ.here m (.bl _) h2⟩
theorem eq_ok : Op2 T r (compareOp .Eq) gEq := by
  intro X Wx hX W a b x y M k Q m ra rb h hQ
  rcases isRp_c h with ⟨p, rfl, h1⟩ | h1
  · rcases isRp_c h1 with ⟨q, rfl, h2⟩ | h2
    · cases ra; cases rb
      obtain ⟨e, z⟩ := eq_rp (hX := hX) m h2 hQ
      rw [e]
      exact rS_of op_eq ⟨rfl, by rw [decide_eq_true rfl]; exact z⟩
    · cases h2
  · obtain ⟨a', h2, q1⟩ := rsv_ok X.K hX.K m 64 a x _ ra h1
    obtain ⟨b', h3, q2⟩ := rsv_ok X.K hX.K m 64 b y _ rb h2
    rw [frB_eq] at h3
    refine rS_of (op_eqD hX.u64) ⟨_, _, q1.dp, q2.dp, q1.shaped, q2.shaped, ?_⟩
    rw [eqv_eqD a' b' q1.pl q2.pl]
    exact hQ.here m (.bl _) h3
theorem ne_ok : Op2 T r (compareOp .NotEq) gNe := by
  intro X Wx hX W a b x y M k Q m ra rb h hQ
  rcases isRp_c h with ⟨p, rfl, h1⟩ | h1
  · rcases isRp_c h1 with ⟨q, rfl, h2⟩ | h2
    · cases ra; cases rb
      obtain ⟨e, z⟩ := eq_rp (hX := hX) m h2 hQ
      rw [e]
      exact rS_of op_ne ⟨rfl, by rw [decide_eq_true rfl]; exact z⟩
    · cases h2
  · obtain ⟨a', h2, q1⟩ := rsv_ok X.K hX.K m 64 a x _ ra h1
    obtain ⟨b', h3, q2⟩ := rsv_ok X.K hX.K m 64 b y _ rb h2
    rw [frB_eq] at h3
    refine rS_of (op_neD hX.u64) ⟨_, _, q1.dp, q2.dp, q1.shaped, q2.shaped, ?_⟩
    rw [eqv_eqD a' b' q1.pl q2.pl]
    have e : (Bool.rec true false (eqD a' b') : Bool) = !eqD a' b' := by cases eqD a' b' <;> rfl
    rw [e] at h3
    exact hQ.here m (.bl _) h3

/-! ### <, <=, >, >= -/
/-- ints of a list -/
def intsK (ds : List D) (k : List Int → Bool) : Bool := (List.rec (fun k => k []) (fun d _ ih k => isInt d fun i => ih fun r => k (i :: r)) ds : (List Int → Bool) → Bool) k
theorem intsK_t : ∀ {ds : List D} {k : List Int → Bool}, intsK ds k = true → ∃ is, ds = is.map D.int ∧ k is = true
  | [], k, h => ⟨[], rfl, h⟩
  | d :: r, k, h => by
    have h' : isInt d (fun i => intsK r fun r => k (i :: r)) = true := h
    obtain ⟨i, rfl, h1⟩ := isInt_t h'
    obtain ⟨is, rfl, h2⟩ := intsK_t h1
    exact ⟨i :: is, rfl, h2⟩
def lexB (l : List Int) : List Int → Bool := List.rec (fun m => Bool.rec true false (emptyB m)) (fun x _ ih m => List.rec false (fun y r _ => Bool.rec (ilt x y) (ih r) (ieq x y)) m) l
theorem lexB_eq : ∀ l m : List Int, lexB l m = HT.lexLt l m
  | [], [] => rfl
  | [], _ :: _ => rfl
  | _ :: _, [] => rfl
  | x :: r, y :: s => by
    show (Bool.rec (ilt x y) (lexB r s) (ieq x y) : Bool) = _
    rw [HT.lexLt_cons, lexB_eq r s, ieq_eq, ilt_eq]
    by_cases e : x = y
    · rw [decide_eq_true e, if_pos e]
    · rw [decide_eq_false e, if_neg e]
def gLt : G2 := fun a b M f => D.casesOn a false false (fun _ => false) (fun i => isInt b fun j => frB (ilt i j) fun z => f (.bl z) M) (fun _ => false) (fun _ => false)
  (fun _ ds => isTup b fun _ es => intsK ds fun l => intsK es fun m => frB (lexB l m) fun z => f (.bl z) M) (fun _ => false) (fun _ => false) (fun _ => false) (fun _ => false) (fun _ => false)
theorem lt_ok : Op2 T r (compareOp .Lt) gLt := by
  intro X Wx hX W a b x y M k Q m ra rb h hQ
  cases a with
  | int i =>
    obtain ⟨j, rfl, h1⟩ := isInt_t h
    rw [frB_eq, ilt_eq] at h1
    cases ra; cases rb
    exact rS_of op_lt ⟨i, j, rfl, rfl, hQ.here m (.bl _) h1⟩
  | tup ka xs =>
    obtain ⟨kb, ys, rfl, h1⟩ := isTup_t h
    obtain ⟨p, vs, rfl, hp, rp⟩ := ra.sqT hX
    obtain ⟨q, us, rfl, hq, rq⟩ := rb.sqT hX
    obtain ⟨l, rfl, h2⟩ := intsK_t h1
    obtain ⟨n, rfl, h3⟩ := intsK_t h2
    rw [frB_eq, lexB_eq] at h3
    have e1 := rp.ints
    have e2 := rq.ints
    subst e1 e2
    exact rS_of (op_ltT hX.u0) ⟨p, q, l, n, rfl, rfl, hp, hq, hQ.here m (.bl _) h3⟩
  | _ => cases h
def gLe : G2 := fun a b M f => isInt a fun i => isInt b fun j => frB (ile i j) fun z => f (.bl z) M
theorem le_ok : Op2 T r (compareOp .LtE) gLe := by
  intro X Wx hX W a b x y M k Q m ra rb h hQ
  obtain ⟨i, rfl, h1⟩ := isInt_t h
  obtain ⟨j, rfl, h2⟩ := isInt_t h1
  rw [frB_eq, ile_eq] at h2
  cases ra; cases rb
  exact rS_of op_le ⟨i, j, rfl, rfl, hQ.here m (.bl _) h2⟩
def gGt : G2 := fun a b M f => isInt a fun i => isInt b fun j => frB (ilt j i) fun z => f (.bl z) M
theorem gt_ok : Op2 T r (compareOp .Gt) gGt := by
  intro X Wx hX W a b x y M k Q m ra rb h hQ
  obtain ⟨i, rfl, h1⟩ := isInt_t h
  obtain ⟨j, rfl, h2⟩ := isInt_t h1
  rw [frB_eq, ilt_eq] at h2
  cases ra; cases rb
  exact rS_of op_gt ⟨i, j, rfl, rfl, hQ.here m (.bl _) h2⟩
def gGe : G2 := fun a b M f => isInt a fun i => isInt b fun j => frB (ile j i) fun z => f (.bl z) M
theorem ge_ok : Op2 T r (compareOp .GtE) gGe := by
  intro X Wx hX W a b x y M k Q m ra rb h hQ
  obtain ⟨i, rfl, h1⟩ := isInt_t h
  obtain ⟨j, rfl, h2⟩ := isInt_t h1
  rw [frB_eq, ile_eq] at h2
  cases ra; cases rb
  exact rS_of op_ge ⟨i, j, rfl, rfl, hQ.here m (.bl _) h2⟩

/-! ### is, is not: None, True, False -/
def isNon (d : D) (o : Bool) (a : Bool) : Bool := D.casesOn d false a (fun _ => o) (fun _ => o) (fun _ => o) (fun _ => false) (fun _ _ => o) (fun _ => o) (fun _ => false) (fun _ => false) (fun _ => o) (fun _ => o)
def gIs : G2 := fun a b M f => D.casesOn b false (isNon a (f (.bl false) M) (f (.bl true) M)) (fun y => isBl a fun x => frB (Bool.rec (Bool.rec true false y) y x) fun z => f (.bl z) M) (fun _ => false) (fun _ => false) (fun _ => false) (fun _ _ => false) (fun _ => false) (fun _ => false) (fun _ => false) (fun _ => false) (fun _ => false)
def gIsNot : G2 := fun a b M f => D.casesOn b false (isNon a (f (.bl true) M) (f (.bl false) M)) (fun y => isBl a fun x => frB (Bool.rec (Bool.rec true false y) y x) fun z => f (.bl (Bool.rec true false z)) M) (fun _ => false) (fun _ => false) (fun _ => false) (fun _ _ => false) (fun _ => false) (fun _ => false) (fun _ => false) (fun _ => false) (fun _ => false)
theorem isNon_t {T : Tb} {W : Wd} {d : D} {x : V} {o a : Bool} (ra : VR T W d x) (h : isNon d o a = true) : (d = .non ∧ x = .non ∧ a = true) ∨ (x ≠ .non ∧ o = true) := by
  cases ra <;> first | exact .inl ⟨rfl, rfl, h⟩ | exact .inr ⟨(fun z => nomatch z), h⟩ | cases h
theorem is_ok : Op2 T r (compareOp .Is) gIs := by
  intro X Wx hX W a b x y M k Q m ra rb h hQ
  cases b with
  | non =>
    cases rb
    rcases isNon_t ra h with ⟨_, rfl, h1⟩ | ⟨hn, h1⟩
    · exact rS_of op_isN ⟨rfl, by rw [decide_eq_true rfl]; exact hQ.here m (.bl _) h1⟩
    · exact rS_of op_isN ⟨rfl, by rw [decide_eq_false hn]; exact hQ.here m (.bl _) h1⟩
  | bl y =>
    obtain ⟨x, rfl, h1⟩ := isBl_t h
    rw [frB_eq] at h1
    cases ra; cases rb
    refine rS_of op_is_bl ⟨x, y, rfl, rfl, ?_⟩
    have e : (Bool.rec (Bool.rec true false y) y x : Bool) = decide (x = y) := by cases x <;> cases y <;> rfl
    rw [e] at h1
    exact hQ.here m (.bl _) h1
  | _ => cases h
theorem isNot_ok : Op2 T r (compareOp .IsNot) gIsNot := by
  intro X Wx hX W a b x y M k Q m ra rb h hQ
  cases b with
  | non =>
    cases rb
    rcases isNon_t ra h with ⟨_, rfl, h1⟩ | ⟨hn, h1⟩
    · exact rS_of op_notN ⟨rfl, by rw [decide_eq_true rfl]; exact hQ.here m (.bl _) h1⟩
    · exact rS_of op_notN ⟨rfl, by rw [decide_eq_false hn]; exact hQ.here m (.bl _) h1⟩
  | bl y =>
    obtain ⟨x, rfl, h1⟩ := isBl_t h
    rw [frB_eq] at h1
    cases ra; cases rb
    refine rS_of op_isnot_bl ⟨x, y, rfl, rfl, ?_⟩
    have e : (Bool.rec true false (Bool.rec (Bool.rec true false y) y x : Bool) : Bool) = !decide (x = y) := by cases x <;> cases y <;> rfl
    rw [e] at h1
    exact hQ.here m (.bl _) h1
  | _ => cases h
end
end Z
end
set_option Elab.async false
set_option linter.all false
set_option maxRecDepth 100000
set_option maxHeartbeats 2000000
/-! ZTry: several except clauses, each of them with a name. -/
namespace L2
open PySem PySem.Spec PyProof.Rows
/-- the ways out of a clause that had its error in slot i -/
def asEnds (D : Ends) (i : Nat) : Ends := ⟨fun σ H => D.nx (σ.set i none) H, D.rt, fun σ H => D.bk (σ.set i none) H, fun σ H => D.ct (σ.set i none) H⟩
/-- a clause: the class, the name's slot, what its suite wishes -/
abbrev Cl3 : Type := Value × Nat × (Addr → Value → Option Addr → TS)
/-- what the clauses wish of an exception of the body, one behind the other -/
def wManyAs (K : PySem.W.Frag) (n : Nat) (Wout : WX) (D : Ends) : List Cl3 → WX
  | [] => Wout
  | cl :: r => fun cls d σ H => ∃ b, PySem.W.exmOne K cls cl.1 = some b ∧ (b = true → ∀ a, H a = none → σ.length = n → cl.2.2 a cls d (asEnds D cl.2.1) (σ.set cl.2.1 (some (.ref a))) H) ∧ (b = false → wManyAs K n Wout D r cls d σ H)
inductive HdsAs (X : Cx) : List ExceptHandler → List Cl3 → Prop
  | nil : HdsAs X [] []
  | cons {x n : Str} {c : Value} {i : Nat} {ts : Addr → Value → Option Addr → TS} {b₀ : Stmt} {suite : List Stmt} {np q : Pos} {hds : List ExceptHandler} {l : List Cl3} (hc : Names X x c) (hi : X.N[i]? = some n) (hln : X.env.kindOf n = some .local)
      (hsu : ∀ (a : Addr) (oe : Obj) (cls : Value) (d : Option Addr) (pn : List (Addr × Obj)), Zc cls d oe → (∃ vs, oe.data = .fields vs) → PSs (X.suite a ((a, oe) :: pn)) (b₀ :: suite) (ts a cls d)) (r : HdsAs X hds l) :
      HdsAs X (.ExceptHandler (some (.Name x np)) (some n) (b₀ :: suite) q :: hds) ((c, i, ts) :: l)
section
variable {X : Cx} {pins : List (Addr × Obj)} {σ : St} {H : Hp} {s : Shared} {B : Heap} {a : Addr} {cls : Value} {d : Option Addr}
/-- the exception at a has landed in X's frame, in the state s; s0 is the state without it -/
structure Landed (X : Cx) (pins : List (Addr × Obj)) (σ : St) (H : Hp) (s0 s : Shared) (B : Heap) (a : Addr) (cls : Value) (d : Option Addr) : Prop where
  fly : HandSPX.FlyingZ B (X.env :: X.outer) a (Zc cls d) s.heap
  old : Inv X pins σ H s0
  low : ∀ b o, s0.heap.get? b = some o → b ∉ frs X.stack → B.get? b = some o
  up : s0.heap.UpToSlots s.heap
  out : H a = none
  os : s.os = s0.os
  bare : AllBare s.gens
variable {s0 : Shared}
theorem Landed.inv (g : Landed X pins σ H s0 s B a cls d) : Inv X pins σ H s := g.old.landed g.low g.fly.1 g.up g.os g.bare
/-- the error's object is no frame -/
theorem Landed.noFrame (g : Landed X pins σ H s0 s B a cls d) : a ∉ frs (X.env :: X.outer) := fun hm => by
  obtain ⟨oe, vs, e1, _, e2⟩ := g.fly.there
  obtain ⟨_, o', e3, hnf⟩ := g.fly.2.2.1.mem hm
  cases e1.symm.trans e3
  exact hnf _ e2
theorem Landed.noLocals (g : Landed X pins σ H s0 s B a cls d) (hf : X.env.frame = some X.env.locals) : a ≠ X.env.locals := fun z =>
  g.noFrame (List.mem_filterMap.mpr ⟨X.env, List.mem_cons_self, by rw [hf, z]⟩)
theorem Landed.noFs (g : Landed X pins σ H s0 s B a cls d) : a ∉ X.fs := fun hm => by
  obtain ⟨ev, h1, h2⟩ := List.mem_filterMap.mp hm
  exact g.noFrame (List.mem_filterMap.mpr ⟨ev, List.mem_cons_of_mem _ h1, h2⟩)
/-- the context of a suite -/
theorem Landed.suite (g : Landed X pins σ H s0 s B a cls d) (hf : X.env.frame = some X.env.locals) : ∃ oe, Zc cls d oe ∧ (∃ vs, oe.data = .fields vs) ∧ s.heap.get? a = some oe ∧ Inv (X.suite a ((a, oe) :: (X.pn ++ pins))) [] σ H s := by
  obtain ⟨oe, vs, e1, hz, e2⟩ := g.fly.there
  exact ⟨oe, hz, ⟨vs, e2⟩, e1, g.inv.suite e1 e2 g.out (g.noLocals hf) g.noFs⟩
/-- no clause is left: it flies on -/
theorem Landed.goes_on {D : Ends} {Wout : WX} (g : Landed X pins σ H s0 s B a cls d) (hs : X.stack = X.env :: X.outer) (hf : X.env.frame = some X.env.locals) (tk : Takes X Wout) (w : Wout cls d σ H) :
    wpAny (model X.prog X.w) X.A (handleBy (.ref a) X.env []) (SP X pins D) X.xe s := by
  refine wpAny_handleBy_nil ?_
  obtain ⟨_, _, _, oe, vs, tr, otr, ts', he, hz, hd, h1, hr⟩ := id g.fly
  unfold PySem.passOn
  refine wpAny_bind (wpAny_field he hd h1 ?_)
  rw [if_neg (by simp : ¬ ((Value.ref tr == Value.none) = true))]
  have up : wpAny (model X.prog X.w) X.A (setFlight (.ref a) X.env.frame) (fun _ s4 => wpAny (model X.prog X.w) X.A (throw (.ref a) : Sem Flow) (SP X pins D) X.xe s4) X.xe s := by
    rw [hf]
    refine HandSPX.setFlight_upZ g.fly fun h4 k u4 => wpAny_throw (tk _ _ ?_)
    refine ⟨a, B, s0, pins, σ, H, cls, d, rfl, g.old, g.low, g.up.trans u4, ?_, g.out, g.os, g.bare, w⟩
    rw [hs]
    exact .inr (.inr k)
  first
    | exact wpAny_bind (wpAny_pure (wpAny_bind up))
    | exact wpAny_bind up
/-- the class of a clause is read -/
theorem class_read {x : Str} {c : Value} {np : Pos} {oe : Obj} {pn : List (Addr × Obj)} {Q : Value → Shared → Prop} {E : Value → Shared → Prop} (hc : Names X x c) (I : Inv (X.suite a ((a, oe) :: pn)) [] σ H s) (q : Q c s) :
    wpAny (model X.prog X.w) (X.A.mark (some (.ref a))) (eval (.Name x np) X.env) Q E s := by
  obtain ⟨g, nd, m | ⟨m, v, nn⟩⟩ := hc
  · exact ld_glob (X := X.suite a ((a, oe) :: pn)) I g m q nd
  · exact ld_blt (X := X.suite a ((a, oe) :: pn)) I g m v q nn nd
/-- the clauses, from the first on -/
theorem Landed.clauses {D : Ends} {Wout : WX} (hs : X.stack = X.env :: X.outer) (hf : X.env.frame = some X.env.locals) (hN : X.N.Nodup) (tk : Takes X Wout) : ∀ {hds : List ExceptHandler} {l : List Cl3}, HdsAs X hds l → Landed X pins σ H s0 s B a cls d → wManyAs X.K X.N.length Wout D l cls d σ H →
    wpAny (model X.prog X.w) X.A (handleBy (.ref a) X.env hds) (SP X pins D) X.xe s
  | _, _, .nil, g, w => g.goes_on hs hf tk w
  | _, _, .cons (n := n) (i := i) (q := q) hc hi hln hsu r, g, ⟨b, hb, yes, no⟩ => by
    obtain ⟨oe, hz, _, he, I1⟩ := g.suite hf
    have look : PySem.W.Looks (model X.prog X.w) s.heap (typeOf (.ref a)) cls := fun A Q E s k z => wpAny_typeOf_ref (k _ _ he) (by rw [hz.1]; exact z)
    refine wpAny_handleBy_cons (codeAny_handlers_test ?_) (fun z => by cases z)
    refine class_read hc I1 ((PySem.W.exm_one (M := model X.prog X.w) g.inv.kIn look hb).here ?_)
    match b, yes, no with
    | false, _, no => exact Landed.clauses hs hf hN tk r g (no rfl)
    | true, yes, _ =>
      refine codeAny_handlers_suite_as (HandSPX.lands_againZ g.fly fun h4 k u4 => ?_)
      have g4 : Landed X pins σ H s0 { s with heap := h4 } B a cls d := ⟨k, g.old, g.low, g.up.trans u4, g.out, g.os, g.bare⟩
      obtain ⟨oe4, hz4, hd4, _, I4⟩ := g4.suite hf
      refine store_ok (v := .ref a) (X := X.suite a ((a, oe4) :: (X.pn ++ pins))) I4 hN hi (.inl hln) rfl (fun s5 I5 => ?_) (.inr hln)
      refine wpAny_mono ((hsu a oe4 cls d (X.pn ++ pins) hz4 hd4).run [] s5 _ H _ I5 (yes rfl a g.out g.inv.len)) (fun f s6 out => ?_) (fun _ _ z => False.elim z)
      have gone : ∀ {σ6 : St} {H6 : Hp} {Q : Shared → Prop}, Inv (X.suite a ((a, oe4) :: (X.pn ++ pins))) [] σ6 H6 s6 → (∀ s7, Inv X pins (σ6.set i none) H6 s7 → Q s7) →
          wpAny (model X.prog X.w) X.A (do bindName X.env n .none; unbindBehindTheSuite X.env n q) (fun _ s7 => Q s7) X.xe s6 := fun I6 hq => gone_ok (I6.unsuite g.inv.ok) hN hi hln hq
      match f, out with
      | .next, ⟨_, _, I6, z⟩ => exact gone I6 fun s7 I7 => ⟨_, _, I7, z⟩
      | .brk, ⟨_, _, I6, z⟩ => exact gone I6 fun s7 I7 => ⟨_, _, I7, z⟩
      | .cont, ⟨_, _, I6, z⟩ => exact gone I6 fun s7 I7 => ⟨_, _, I7, z⟩
      | .ret u, ⟨_, _, _, I6, rv, z⟩ => exact gone I6 fun s7 I7 => ⟨_, _, _, I7, rv, z⟩
end
section
variable {X : Cx} {body : List Stmt} {h₀ : ExceptHandler} {hds : List ExceptHandler} {l : List Cl3} {pos : Pos} {tb : WX → TS} {Wout : WX}
/-- what is done with an exception of the body -/
abbrev catches (X : Cx) (pins : List (Addr × Obj)) (D : Ends) (hds : List ExceptHandler) : Value → Shared → Prop := fun e s₁ =>
  wpAny (model X.prog X.w) X.A (noteFrame e X.env) (fun _ s₂ => wpAny (model X.prog X.w) X.A (setFlight e none) (fun _ s₃ => wpAny (model X.prog X.w) X.A (handleBy e X.env hds) (SP X pins D) X.xe s₃) X.xe s₂) X.xe s₁
theorem ps_try_manyAs (hs : X.stack = X.env :: X.outer) (hf : X.env.frame = some X.env.locals) (hN : X.N.Nodup) (tk : Takes X Wout)
    (hb : ∀ (W : WX) (pn : List (Addr × Obj)) (xe : Value → Shared → Prop), Takes (X.tr pn xe) W → PassesOwn (model X.prog X.w) X.A X.env xe → PSs (X.tr pn xe) body (tb W)) (hh : HdsAs X (h₀ :: hds) l) :
    PS X (.Try body (h₀ :: hds) [] [] pos) (fun D σ H => tb (wManyAs X.K X.N.length Wout D l) D σ H) := ⟨fun pins s σ H D I h => by
  have taken : Takes (X.tr (X.pn ++ pins) (catches X pins D (h₀ :: hds))) (wManyAs X.K X.N.length Wout D l) := fun u s' x => by
    obtain ⟨a, B, s0, p0, σ', H', cls, d, rfl, J, low, up, sky, out, os, bare, w⟩ := x
    have J0 : Inv X pins σ' H' s0 := J.ofTry I.ok
    have fr : X.A.frames = some (X.env :: X.outer) := by rw [I.ok.frames, hs]
    refine Sky.land Zc.steady fr hf (by rw [← hs]; exact sky) fun h3 fly u3 => ?_
    exact Landed.clauses hs hf hN tk hh ⟨fly, J0, low, up.trans u3, out, os, bare⟩ w
  refine wpAny_Try_except (wpAny_mono ((hb _ (X.pn ++ pins) _ taken PassesOwn.looking).run [] s σ H D (I.toTry _) h) (fun f s1 q => ?_) fun _ _ z => z)
  match f, q with
  | .next, ⟨σ', H', J, q⟩ => exact wpAny_execs_nil ⟨σ', H', J.ofTry I.ok, q⟩
  | .brk, ⟨σ', H', J, q⟩ => exact ⟨σ', H', J.ofTry I.ok, q⟩
  | .cont, ⟨σ', H', J, q⟩ => exact ⟨σ', H', J.ofTry I.ok, q⟩
  | .ret u, ⟨v, σ', H', J, rv, q⟩ => exact ⟨v, σ', H', J.ofTry I.ok, rv, q⟩⟩
end
end L2
set_option Elab.async false
set_option autoImplicit false
set_option linter.all false
set_option maxRecDepth 100000
set_option maxHeartbeats 1000000
/-! ZE0: own errors, the def that tells them: what is known of them. -/
noncomputable section
namespace Z
open PySem PySem.Spec PyProof.Rows L2
/-- an __init__ that stores its parameters -/
def spInit (K : PySem.W.Frag) (fs : List Str) : Sp := fun vs H Q _ => ∃ (a C : Addr) (ys : List V), vs = .ref a :: ys ∧ ys.length = fs.length ∧ OexC K C ∧ (∀ f ∈ fs, PySem.W.findIn K (.ref C) f = some none) ∧ H a = some (exo a C none) ∧
  ∀ (dx : Addr) (H2 : Hp), H dx = none → dx ≠ a → H2 a = some (exo a C (some dx)) → H2 dx = some (exd dx ((fs.zip ys).reverse)) → (∀ b, b ≠ a → b ≠ dx → H2 b = H b) → Q .non H2
/-- an own error of the text: the i-th class, its fields by their numbers -/
structure ExcOk (T : Tb) (x : Str) (i : Nat) (ats : List Nat) : Prop where
  mg : T.mg x = some (.ref (T.ca i))
  oex : OexC T.K (T.ca i)
  ini : ∃ (fI : Addr) (fd : FuncData) (fs ps : List Str), PySem.W.findIn T.K (.ref (T.ca i)) "__init__" = some (some (.ref fI)) ∧ PySem.W.typeIn T.K (.ref fI) = some (.type "function") ∧
    FnOk T.P T.w T.K T.mg T.base (L2.CX T.P T.w) 1 fI fd ps (spInit T.K fs) ∧ Binds T.K fd ps [] ∧ Paired (fun n f => T.at_[n]? = some f) ats fs ∧ ∀ f ∈ fs, PySem.W.findIn T.K (.ref (T.ca i)) f = some none
/-- a clause of the def that tells errors: the error's class, the word, the fields -/
structure Hd where
  c : Nat
  tag : List Nat
  fs : List Nat
def toldW (T : Tb) (Q : VK) : List Hd → XK
  | [] => fun _ _ _ => False
  | h :: r => fun cls d H => ∃ b, PySem.W.exmOne T.K cls (.ref (T.ca h.c)) = some b ∧
    (b = true → cls = .ref (T.ca h.c) ∧ ∃ (dd : Addr) (fs : List (Str × V)) (vs : List V), d = some dd ∧ H dd = some (.xd fs) ∧ Paired (fun n v => ∃ f, T.at_[n]? = some f ∧ fs.lookup f = some v) h.fs vs ∧ ∀ p, H p = none → Q (.ref p) (upd H p (.tup (.str (toS h.tag) :: vs)))) ∧ (b = false → toldW T Q r cls d H)
def TTx (T : Tb) (hs : List Hd) : (XK → Hp → VK → Prop) → Hp → VK → Prop := fun tl H Q => tl (toldW T Q hs) H Q
/-- the def x tells the errors of what it is given: nc: the classes whose errors may come -/
structure ToldOk (T : Tb) (x : Str) (nc : Nat) (hs : List Hd) : Prop where
  ex : ∃ (g : Addr) (a : Str) (pg : Arguments) (bg : List Stmt) (sg : Scope) (dV kV doc pm cdv ct oc : Value) (an od : Option Addr) (osl : Array (Option Value)) (Ng : List Str),
    T.mg x = some (.ref g) ∧ PySem.W.keepIn T.K (.ref g) = true ∧ T.K.lookup g = some ⟨oc, od, .func (PySem.W.fnOf x x pg bg sg dV kV doc pm an cdv ct), osl⟩ ∧ PySem.W.codeIn T.K cdv x = true ∧
    L2.Binds T.K (PySem.W.fnOf x x pg bg sg dV kV doc pm an cdv ct) [a] [] ∧ FnScope Ng [a] sg ∧ Ng[0]? = some a ∧ Vis sg a ∧ (a == ("__debug__" : Str)) = false ∧ (a == ("__classdict__" : Str)) = false ∧
    ∀ (X : Cx) (q : Str), X.K = T.K → X.mg = T.mg → LamX.GivesTo X Ng x sg g cdv bg a q (TTx T hs)
  exm : ∀ i, i < nc → ∀ h ∈ hs, PySem.W.exmOne T.K (.ref (T.ca i)) (.ref (T.ca h.c)) = some (Nat.beq i h.c)
  inj : ∀ (i j : Nat) (f : Str), T.at_[i]? = some f → T.at_[j]? = some f → i = j
/-- the code object of the frame, its table -/
def TabE (T : Tb) (X : Cx) : Prop := ∃ (c P : Addr), X.env.code = .ref c ∧ LamX.TabB X.base X.mg c P ∧ (P, X.env.qual ++ "<lambda>") ∈ T.tabs ∧ ∀ p ∈ T.tabs, p.1 = P → p.2 = X.env.qual ++ "<lambda>"
end Z
end
set_option Elab.async false
set_option autoImplicit false
set_option linter.all false
set_option maxRecDepth 100000
set_option maxHeartbeats 1000000
/-! Z4: expressions. -/
noncomputable section
namespace Z
open PySem PySem.Spec PyProof.Rows L2

/-! ### what a piece of code wants -/
def TofE (X : Cx) (e : Expr) : TE := fun σ H Q => ∀ (pins : List (Addr × Obj)) (s : Shared), Inv X pins σ H s → wpAny (model X.prog X.w) X.A (eval e X.env) (EP X pins σ Q) X.xe s
def TofT (X : Cx) (e : Expr) : TT := fun σ H Q => ∀ (pins : List (Addr × Obj)) (s : Shared), Inv X pins σ H s → wpAny (model X.prog X.w) X.A (isTrue e X.env (eval e X.env)) (TP X pins σ Q) X.xe s
def TofW (X : Cx) (e : Expr) : TT := fun σ H Q => ∀ (whole : Sem Value) (pins : List (Addr × Obj)) (s : Shared), Inv X pins σ H s → wpAny (model X.prog X.w) X.A (isTrue e X.env whole) (TP X pins σ Q) X.xe s
def TofA (X : Cx) (es : List Expr) : TA := fun σ H Q => ∀ (pos : Pos) (pins : List (Addr × Obj)) (s : Shared), Inv X pins σ H s → wpAny (model X.prog X.w) X.A (spliced (backTo pos (starEach es X.env))) (AP X pins σ Q) X.xe s
theorem pe_tof {X : Cx} {e : Expr} : PE X e (TofE X e) := ⟨fun pins s σ H Q I h => h pins s I⟩
theorem pt_tof {X : Cx} {e : Expr} : PT X e (TofT X e) := ⟨fun pins s σ H Q I h => h pins s I⟩
theorem pw_tof {X : Cx} {e : Expr} : PW X e (TofW X e) := ⟨fun whole pins s σ H Q I h => h whole pins s I⟩
theorem pa_tof {X : Cx} {es : List Expr} : PA X es (TofA X es) := ⟨fun pos pins s σ H Q I h => h pos pins s I⟩
theorem tofE {X : Cx} {e : Expr} {t : TE} (p : PE X e t) {σ : L2.St} {H : Hp} {Q : VK} (h : t σ H Q) : TofE X e σ H Q := fun pins s I => p.run pins s σ H Q I h
theorem tofT {X : Cx} {e : Expr} {t : TT} (p : PT X e t) {σ : L2.St} {H : Hp} {Q : Bool → Hp → Prop} (h : t σ H Q) : TofT X e σ H Q := fun pins s I => p.run pins s σ H Q I h
theorem tofW {X : Cx} {e : Expr} {t : TT} (p : PW X e t) {σ : L2.St} {H : Hp} {Q : Bool → Hp → Prop} (h : t σ H Q) : TofW X e σ H Q := fun whole pins s I => p.run whole pins s σ H Q I h
theorem tofA {X : Cx} {es : List Expr} {t : TA} (p : PA X es t) {σ : L2.St} {H : Hp} {Q : List V → Hp → Prop} (h : t σ H Q) : TofA X es σ H Q := fun pos pins s I => p.run pos pins s σ H Q I h

/-! ### the compiler's knowledge -/
inductive Gd where
  | fn (i : Nat) | cls (i : Nat) | val (d : D) | free | bfun (id : String) | exc (i : Nat) (ats : List Nat) | told (nc : Nat) (hs : List Hd) | fnk (i : Nat)
/-- N: the frame's names; sc: the scope; own: the scope's own names may be stored; gl: the globals -/
structure CI where
  N : List Str
  sc : Scope
  own : Scope
  gl : List (Str × Gd)
  tab : Bool
  top : Bool
/-- the defs that are called by the names of their parameters -/
def kwB (T : Tb) (i : Nat) : Bool := T.kws.any (Nat.beq i)
def BindsKw (K : PySem.W.Frag) (fd : FuncData) (ps : List Str) : Prop := ∀ (s : Shared) (us : List Value), K.In s.heap → us.length = ps.length → BindsTo s fd ⟨[], ps.zip us⟩ (ps.zip us)
def GdOk (T : Tb) (x : Str) : Gd → Prop
  | .fn i => T.mg x = some (.ref (T.fa i))
  | .cls i => T.mg x = some (.ref (T.ca i))
  | .val d => ∃ u v, T.mg x = some u ∧ RelV v u ∧ ∀ W, VR T W d v
  | .free => T.mg x = none
  | .bfun id => T.mg x = some (.builtin id)
  | .exc i ats => ExcOk T x i ats
  | .told nc hs => ToldOk T x nc hs
  | .fnk i => T.mg x = some (.ref (T.fa i)) ∧ kwB T i = true
structure CIok (T : Tb) (ci : CI) (X : Cx) : Prop where
  N : X.N = ci.N
  sc : X.env.scope = ci.sc
  own : ∀ x, ci.own.names.lookup x = some .local ∨ ci.own.names.lookup x = some .cell → Loc X.env.scope x ∧ (X.fn x = true ∨ X.env.scope.names.lookup x = some .local)
  tab : ci.tab = true → TabE T X
  top : ci.top = true → X.A.guards = some []
def GlOk (T : Tb) (gl : List (Str × Gd)) : Prop := ∀ x g, gl.lookup x = some g → GdOk T x g
/-- what the evaluator's calls keep -/
def spOf (T : Tb) (ev : Ev) (i np : Nat) : Sp := fun vs H Q E => ∃ (W : Wd) (ds : List D) (M : Sto) (k : K1) (kx : KX), W.H = H ∧ MR T W M ∧ VRs T W ds vs ∧ vs.length = np ∧ ev.call i ds M k kx = true ∧ PV T W k Q ∧ PX T W kx E
structure FI where
  ps : List Str
def FnIs (T : Tb) (ev : Ev) (r : Nat) (i : Nat) (ps : List Str) : Prop := ∃ fd, FnOk T.P T.w T.K T.mg T.base (L2.CX T.P T.w) r (T.fa i) fd ps (spOf T ev i ps.length) ∧ PySem.W.keepIn T.K (.ref (T.fa i)) = true ∧ Binds T.K fd ps [] ∧ (kwB T i = true → BindsKw T.K fd ps)
/-- the setting: the tables, the calls, the room -/
structure St8 where
  T : Tb
  ev : Ev
  r : Nat
  fns : List (List Str)
  q : Nat
structure St8.Ok (S : St8) : Prop where
  fn : ∀ i ps, S.fns[i]? = some ps → FnIs S.T S.ev S.q i ps
  le : S.q ≤ S.r
/-- within a lambda -/
def St8.low (S : St8) : St8 := { S with r := S.q }
theorem St8.Ok.low {S : St8} (h : S.Ok) : S.low.Ok := ⟨h.fn, Nat.le_refl _⟩
def CiOk (S : St8) (ci : CI) : Prop := GlOk S.T ci.gl ∧ (ci.tab = true → S.q + 2 ≤ S.r)

section
variable (S : St8)
def SE (ci : CI) (e : Expr) (c : CE) : Prop := ∀ (X : Cx) (Wx : WX), XOk S.T S.r X Wx → CIok S.T ci X → ∀ (W : Wd) (σd : SEnv) (σ : L2.St) (M : Sto) (k : K1) (kx : KX) (Q : VK),
  SR S.T W σd σ → MR S.T W M → c S.ev σd M k kx = true → PV S.T W k Q → PX S.T W kx (fun c d H => Wx c d σ H) → TofE X e σ W.H Q
def SA (ci : CI) (es : List Expr) (c : CA) : Prop := ∀ (X : Cx) (Wx : WX), XOk S.T S.r X Wx → CIok S.T ci X → ∀ (W : Wd) (σd : SEnv) (σ : L2.St) (M : Sto) (k : KA) (kx : KX) (Q : List V → Hp → Prop),
  SR S.T W σd σ → MR S.T W M → c S.ev σd M k kx = true → PA' S.T W k Q → PX S.T W kx (fun c d H => Wx c d σ H) → TofA X es σ W.H Q
def STt (ci : CI) (e : Expr) (c : CB) : Prop := ∀ (X : Cx) (Wx : WX), XOk S.T S.r X Wx → CIok S.T ci X → ∀ (W : Wd) (σd : SEnv) (σ : L2.St) (M : Sto) (k : KB) (kx : KX) (Q : Bool → Hp → Prop),
  SR S.T W σd σ → MR S.T W M → c S.ev σd M k kx = true → PB S.T W k Q → PX S.T W kx (fun c d H => Wx c d σ H) → TofT X e σ W.H Q
def STw (ci : CI) (e : Expr) (c : CB) : Prop := ∀ (X : Cx) (Wx : WX), XOk S.T S.r X Wx → CIok S.T ci X → ∀ (W : Wd) (σd : SEnv) (σ : L2.St) (M : Sto) (k : KB) (kx : KX) (Q : Bool → Hp → Prop),
  SR S.T W σd σ → MR S.T W M → c S.ev σd M k kx = true → PB S.T W k Q → PX S.T W kx (fun c d H => Wx c d σ H) → TofW X e σ W.H Q
end
section
variable {S : St8} {ci : CI} {pos : Pos}
theorem STw.t {e : Expr} {c : CB} (h : STw S ci e c) : STt S ci e c := fun X Wx hX hC W σd σ M k kx Q s m e z x pins st I => h X Wx hX hC W σd σ M k kx Q s m e z x _ pins st I

/-! ### names, constants -/
def notU (d : D) (b : Bool) : Bool := D.casesOn d false b (fun _ => b) (fun _ => b) (fun _ => b) (fun _ => b) (fun _ _ => b) (fun _ => b) (fun _ => b) (fun _ => b) (fun _ => b) (fun _ => b)
theorem notU_t {d : D} {b : Bool} (h : notU d b = true) : d ≠ .und ∧ b = true := by cases d <;> first | (cases h; done) | exact ⟨(fun z => nomatch z), h⟩
def cVar (i : Nat) : CE := fun _ σ M k _ => nthK σ i fun d => notU d (k d M)
theorem se_var {x : Str} {i : Nat} (hN : ci.N[i]? = some x) (hv : Vis ci.sc x) (hd : (x == ("__debug__" : Str)) = false) (hc : (x == ("__classdict__" : Str)) = false) : SE S ci (.Name x pos) (cVar i) := by
  intro X Wx hX hC W σd σ M k kx Q s m h hQ hx
  obtain ⟨d, e, h1⟩ := nthK_t h
  obtain ⟨hu, h2⟩ := notU_t h1
  rcases s.at_ i d e with z | ⟨v, ev, rv⟩
  · exact absurd z hu
  · exact tofE (pe_var (i := i) (by rw [hC.N]; exact hN) (by rw [hC.sc]; exact hv) hd hc) ⟨v, ev, hQ.here m rv h2⟩
def cLit (d : D) : CE := fun _ _ M k _ => k d M
theorem se_int {i : Int} {j : Nat} : SE S ci (.Constant (.int i) j pos) (cLit (.int i)) := fun X Wx hX hC W σd σ M k kx Q s m h hQ hx => tofE pe_int (hQ.here m (.int _) h)
theorem se_bl {b : Bool} {j : Nat} : SE S ci (.Constant (.bool b) j pos) (cLit (.bl b)) := fun X Wx hX hC W σd σ M k kx Q s m h hQ hx => tofE pe_bl (hQ.here m (.bl _) h)
theorem se_non {j : Nat} : SE S ci (.Constant .none j pos) (cLit .non) := fun X Wx hX hC W σd σ M k kx Q s m h hQ hx => tofE pe_non (hQ.here m .non h)
theorem toS_of (x : Str) : toS x.cps.toList = x := by cases x; simp
theorem se_str {x : Str} {j : Nat} {l : List Nat} (hl : x.cps.toList = l) : SE S ci (.Constant (.str x) j pos) (cLit (.str l)) := fun X Wx hX hC W σd σ M k kx Q s m h hQ hx => tofE pe_str (by
  show Q (.str x) W.H
  rw [← toS_of x, hl]
  exact hQ.here m (.str _) h)
theorem se_glob {x : Str} {d : D} {u : Value} {v : V} (hs : ci.sc.names.lookup x = some .globalImplicit) (hm : S.T.mg x = some u) (rv : RelV v u) (hv : ∀ W, VR S.T W d v) (hd : (x == ("__debug__" : Str)) = false) : SE S ci (.Name x pos) (cLit d) :=
  fun X Wx hX hC W σd σ M k kx Q s m h hQ hx => tofE (pe_glob (by unfold Gl Env.kindOf; rw [hC.sc]; exact hs) (by rw [hX.mg]; exact hm) rv hd) (hQ.here m (hv W) h)
theorem se_blt {x : Str} {d : D} {u : Value} {v : V} (hs : ci.sc.names.lookup x = some .globalImplicit) (hm : S.T.mg x = none) (hb : bootBuiltins x = some u) (rv : RelV v u) (hv : ∀ W, VR S.T W d v) (hn : x ≠ "__name__") (hd : (x == ("__debug__" : Str)) = false) : SE S ci (.Name x pos) (cLit d) :=
  fun X Wx hX hC W σd σ M k kx Q s m h hQ hx => tofE (pe_bltn (by unfold Gl Env.kindOf; rw [hC.sc]; exact hs) (by rw [hX.mg]; exact hm) hb rv hn hd) (hQ.here m (hv W) h)

/-! ### two places -/
def cBin (g : G2) (a b : CE) : CE := fun ev σ M k kx => a ev σ M (fun x M => b ev σ M (fun y M => g x y M k) kx) kx
theorem se_two {a b : Expr} {ca cb : CE} {g : G2} {f : Value → Value → Sem Value} (ha : SE S ci a ca) (hb : SE S ci b cb) (ho : Op2 S.T S.r f g) {X : Cx} {Wx : WX} (hX : XOk S.T S.r X Wx) (hC : CIok S.T ci X) {W : Wd} {σd : SEnv} {σ : L2.St} {M : Sto} {k : K1} {kx : KX} {Q : VK}
    (s : SR S.T W σd σ) (m : MR S.T W M) (h : cBin g ca cb S.ev σd M k kx = true) (hQ : PV S.T W k Q) (hx : PX S.T W kx (fun c d H => Wx c d σ H)) : tOp (rS X f) (TofE X a) (TofE X b) σ W.H Q := by
  refine ha X Wx hX hC W σd σ M _ kx _ s m h (fun W1 x v M1 l1 m1 r1 h1 => ?_) hx
  refine hb X Wx hX hC W1 σd σ M1 _ kx _ (s.mono l1) m1 h1 (fun W2 y u M2 l2 m2 r2 h2 => ?_) (hx.mono l1)
  exact ho X Wx hX W2 x y v u M2 k Q m2 (r1.mono l2) r2 h2 (hQ.mono (l1.trans l2))
theorem se_bin {a b : Expr} {ca cb : CE} {g : G2} {op : Operator} (ha : SE S ci a ca) (hb : SE S ci b cb) (ho : Op2 S.T S.r (binaryOp op) g) : SE S ci (.BinOp a op b pos) (cBin g ca cb) :=
  fun X Wx hX hC W σd σ M k kx Q s m h hQ hx => tofE (pe_op opr_rS pe_tof pe_tof) (se_two ha hb ho hX hC s m h hQ hx)
theorem se_cmp {a b : Expr} {ca cb : CE} {g : G2} {op : CmpOp} (ha : SE S ci a ca) (hb : SE S ci b cb) (ho : Op2 S.T S.r (compareOp op) g) (hm : behindInMarks op b = false) : SE S ci (.Compare a [op] [b] pos) (cBin g ca cb) :=
  fun X Wx hX hC W σd σ M k kx Q s m h hQ hx => tofE (pe_cmpR opr_rS pe_tof pe_tof hm) (se_two ha hb ho hX hC s m h hQ hx)
/-- a test that is a comparison -/
def cTst (a : CE) : CB := fun ev σ M k kx => a ev σ M (fun x M => isBl x fun b => k b M) kx
theorem PB.tst {T : Tb} {W : Wd} {k : KB} {Q : Bool → Hp → Prop} (h : PB T W k Q) : PV T W (fun x M => isBl x fun b => k b M) (fun x H => ∃ c, x = .bl c ∧ Q c H) := fun W' d v M' l m r e => by
  obtain ⟨b, rfl, e2⟩ := isBl_t e
  cases r
  exact ⟨b, rfl, h W' b M' l m e2⟩
theorem st_cmp {a b : Expr} {ca cb : CE} {g : G2} {op : CmpOp} (ha : SE S ci a ca) (hb : SE S ci b cb) (ho : Op2 S.T S.r (compareOp op) g) (hm : behindInMarks op b = false) : STt S ci (.Compare a [op] [b] pos) (cTst (cBin g ca cb)) :=
  fun X Wx hX hC W σd σ M k kx Q s m h hQ hx => tofT (pt_cmpR opr_rS pe_tof pe_tof hm) (se_two ha hb ho hX hC s m h hQ.tst hx)
/-- a op b op' c -/
def cChain (g g' : G2) (a b c : CE) : CE := fun ev σ M k kx => a ev σ M (fun x M => b ev σ M (fun y M => g x y M fun z M => isBl z fun t => Bool.rec (k (.bl false) M) (c ev σ M (fun w M => g' y w M k) kx) t) kx) kx
theorem se_chain0 {a b c : Expr} {ca cb cc : CE} {g g' : G2} {f f' : Value → Value → Sem Value} (ha : SE S ci a ca) (hb : SE S ci b cb) (hc : SE S ci c cc) (ho : Op2 S.T S.r f g) (ho' : Op2 S.T S.r f' g') {X : Cx} {Wx : WX} (hX : XOk S.T S.r X Wx) (hC : CIok S.T ci X)
    {W : Wd} {σd : SEnv} {σ : L2.St} {M : Sto} {k : K1} {kx : KX} {Q : VK} (s : SR S.T W σd σ) (m : MR S.T W M) (h : cChain g g' ca cb cc S.ev σd M k kx = true) (hQ : PV S.T W k Q) (hx : PX S.T W kx (fun c d H => Wx c d σ H)) :
    tChain (rS X f) (rS X f') (TofE X a) (TofE X b) (TofE X c) σ W.H Q := by
  refine ha X Wx hX hC W σd σ M _ kx _ s m h (fun W1 x v M1 l1 m1 r1 h1 => ?_) hx
  refine hb X Wx hX hC W1 σd σ M1 _ kx _ (s.mono l1) m1 h1 (fun W2 y u M2 l2 m2 r2 h2 => ?_) (hx.mono l1)
  refine ho X Wx hX W2 x y v u M2 _ _ m2 (r1.mono l2) r2 h2 (fun W3 z o M3 l3 m3 r3 h3 => ?_)
  obtain ⟨t, rfl, h4⟩ := isBl_t h3
  cases r3
  refine ⟨t, rfl, ?_⟩
  cases t with
  | false =>
    rw [if_neg Bool.false_ne_true]
    exact hQ W3 _ _ M3 ((l1.trans l2).trans l3) m3 (.bl _) h4
  | true =>
    rw [if_pos rfl]
    refine hc X Wx hX hC W3 σd σ M3 _ kx _ (s.mono ((l1.trans l2).trans l3)) m3 h4 (fun W4 w q M4 l4 m4 r4 h5 => ?_) (hx.mono ((l1.trans l2).trans l3))
    exact ho' X Wx hX W4 y w u q M4 k Q m4 ((r2.mono l3).mono l4) r4 h5 (hQ.mono (((l1.trans l2).trans l3).trans l4))
theorem se_chain {a b c : Expr} {ca cb cc : CE} {g g' : G2} {op op' : CmpOp} (ha : SE S ci a ca) (hb : SE S ci b cb) (hc : SE S ci c cc) (ho : Op2 S.T S.r (compareOp op) g) (ho' : Op2 S.T S.r (compareOp op') g') (hm : lastMarks [op, op'] [b, c] = false) :
    SE S ci (.Compare a [op, op'] [b, c] pos) (cChain g g' ca cb cc) :=
  fun X Wx hX hC W σd σ M k kx Q s m h hQ hx => tofE (pe_chain opr_rS opr_rS pe_tof pe_tof pe_tof hm) (se_chain0 ha hb hc ho ho' hX hC s m h hQ hx)
theorem st_chain {a b c : Expr} {ca cb cc : CE} {g g' : G2} {op op' : CmpOp} (ha : SE S ci a ca) (hb : SE S ci b cb) (hc : SE S ci c cc) (ho : Op2 S.T S.r (compareOp op) g) (ho' : Op2 S.T S.r (compareOp op') g') (hm : lastMarks [op, op'] [b, c] = false) :
    STt S ci (.Compare a [op, op'] [b, c] pos) (cTst (cChain g g' ca cb cc)) :=
  fun X Wx hX hC W σd σ M k kx Q s m h hQ hx => tofT (pt_chain opr_rS opr_rS pe_tof pe_tof pe_tof hm) (se_chain0 ha hb hc ho ho' hX hC s m h hQ.tst hx)

/-! ### truth -/
def truthK (d : D) (M : Sto) (k : KB) : Bool := D.casesOn d false (k false M) (fun b => k b M) (fun i => frB (Bool.rec true false (ieq i (.ofNat 0))) fun b => k b M) (fun s => shortL s (frB (Bool.rec true false (emptyB s)) fun b => k b M)) (fun _ => false)
  (fun _ ds => frB (Bool.rec true false (emptyB ds)) fun b => k b M) (fun l => getC M l fun c => Cell.casesOn c (fun ds => frB (Bool.rec true false (emptyB ds)) fun b => k b M) (fun t kvs => Bool.rec (frB (Bool.rec true false (emptyB kvs)) fun b => k b M) false t) (fun _ _ => false) (fun _ => false))
  (fun _ => false) (fun _ => false) (fun _ => false) (fun ds => frB (Bool.rec true false (emptyB ds)) fun b => k b M)
theorem notE {α : Type} (l : List α) : (Bool.rec true false (emptyB l) : Bool) = !l.isEmpty := by cases l <;> rfl
theorem VRs.isEmpty {T : Tb} {W : Wd} {ds : List D} {xs : List V} (h : VRs T W ds xs) : ds.isEmpty = xs.isEmpty := by cases h <;> rfl
theorem truth_ok {T : Tb} {r : Nat} {X : Cx} {Wx : WX} (hX : XOk T r X Wx) {W : Wd} {d : D} {v : V} {M : Sto} {k : KB} {Q : Bool → Hp → Prop} (m : MR T W M) (rv : VR T W d v) (h : truthK d M k = true) (hQ : PB T W k Q) : ∃ c, TruV X.K v W.H c ∧ Q c W.H := by
  have here : ∀ {c : Bool}, k c M = true → Q c W.H := fun {c} e => hQ W c M (Le.refl _) m e
  cases d with
  | non => cases rv; exact ⟨false, rfl, here h⟩
  | bl b => cases rv; exact ⟨b, rfl, here h⟩
  | int i =>
    cases rv
    have h' : frB (Bool.rec true false (ieq i (.ofNat 0))) (fun b => k b M) = true := h
    rw [frB_eq, ieq_eq] at h'
    refine ⟨_, rfl, here (c := i != 0) ?_⟩
    have e : (Bool.rec true false (decide (i = Int.ofNat 0)) : Bool) = (i != 0) := by
      by_cases z : i = 0
      · subst z; rfl
      · rw [decide_eq_false (show ¬ i = Int.ofNat 0 from z)]; simp [z]
    rw [← e]
    exact h'
  | str s =>
    cases rv
    obtain ⟨hl, h1⟩ := shortL_t h
    rw [frB_eq, notE] at h1
    refine ⟨_, ⟨by rw [toS_length]; exact hl, rfl⟩, here (c := ((toS s).length : Int) != 0) ?_⟩
    have e : (((toS s).length : Int) != 0) = !s.isEmpty := by
      rw [toS_length]
      cases s with
      | nil => rfl
      | cons a b => simp; omega
    rw [e]
    exact h1
  | tup ka ds =>
    obtain ⟨a, xs, rfl, hs, rs⟩ := rv.sqT hX
    have h' : frB (Bool.rec true false (emptyB ds)) (fun b => k b M) = true := h
    rw [frB_eq, notE, rs.isEmpty] at h'
    exact ⟨_, .inr (.inl ⟨xs, hs, rfl⟩), here h'⟩
  | loc l =>
    obtain ⟨c, hl, e, h1⟩ := getC_t h
    obtain ⟨hl', rfl⟩ := rv.loc_at
    cases c with
    | lst ds =>
      obtain ⟨xs, hs, rs⟩ := m.lst hl' e
      have h' : frB (Bool.rec true false (emptyB ds)) (fun b => k b M) = true := h1
      rw [frB_eq, notE, rs.isEmpty] at h'
      exact ⟨_, .inl ⟨xs, SqL.of hs, rfl⟩, here h'⟩
    | dct t kvs =>
      cases t with
      | true => cases h1
      | false =>
        obtain ⟨u, hu, q⟩ := m.cell l _ hl' e
        cases u <;> first | exact False.elim q | skip
        rename_i ks
        have h' : frB (Bool.rec true false (emptyB kvs)) (fun b => k b M) = true := h1
        have e2 : kvs.isEmpty = ks.isEmpty := by
          have q' : KR T W kvs ks := q
          unfold KR at q'
          cases q' <;> rfl
        rw [frB_eq, notE, e2] at h'
        exact ⟨_, .inr (.inr ⟨ks, hu, rfl⟩), here h'⟩
    | ins _ _ => cases h1
    | lk _ => cases h1
  | lv ds =>
    obtain ⟨a, xs, rfl, hs, rs⟩ := rv.sqLv hX
    have h' : frB (Bool.rec true false (emptyB ds)) (fun b => k b M) = true := h
    rw [frB_eq, notE, rs.isEmpty] at h'
    exact ⟨_, .inl ⟨xs, hs, rfl⟩, here h'⟩
  | _ => cases h
def cTru (a : CE) : CB := fun ev σ M k kx => a ev σ M (fun x M => truthK x M k) kx
/-- a test without a form of its own -/
def plainTest : Expr → Bool
  | .IfExp .. => false
  | .BoolOp .. => false
  | .UnaryOp .. => false
  | .Compare .. => false
  | _ => true
theorem plainTest_ok {a : Expr} (h : plainTest a = true) (env : Env) : ∀ whole, isTrue a env whole = (do let v ← whole; standAt a.pos; holding [v] (truthy v)) := by
  intro whole
  cases a <;> first | rfl | (simp [plainTest] at h; done)
theorem st_tru {a : Expr} {ca : CE} (ha : SE S ci a ca) (hp : plainTest a = true) : STt S ci a (cTru ca) :=
  fun X Wx hX hC W σd σ M k kx Q s m h hQ hx => tofT (pt_truth pe_tof (plainTest_ok hp X.env)) (ha X Wx hX hC W σd σ M _ kx _ s m h (fun W1 x v M1 l1 m1 r1 h1 => truth_ok hX m1 r1 h1 (hQ.mono l1)) hx)
/-- not -/
def cNotT (a : CB) : CB := fun ev σ M k kx => a ev σ M (fun b M => k (Bool.rec true false b) M) kx
theorem bnot_eq (b : Bool) : (Bool.rec true false b : Bool) = !b := by cases b <;> rfl
theorem st_not {a : Expr} {ca : CB} (ha : STt S ci a ca) : STt S ci (.UnaryOp .Not a pos) (cNotT ca) :=
  fun X Wx hX hC W σd σ M k kx Q s m h hQ hx => tofT (pt_not pt_tof) (ha X Wx hX hC W σd σ M _ kx _ s m h (fun W1 b M1 l1 m1 h1 => hQ W1 _ M1 l1 m1 (by rw [← bnot_eq]; exact h1)) hx)
def cNotV (a : CE) : CE := fun ev σ M k kx => a ev σ M (fun x M => truthK x M fun b M => k (.bl (Bool.rec true false b)) M) kx
theorem se_not {a : Expr} {ca : CE} (ha : SE S ci a ca) : SE S ci (.UnaryOp .Not a pos) (cNotV ca) :=
  fun X Wx hX hC W σd σ M k kx Q s m h hQ hx => tofE (pe_notT pe_tof) (ha X Wx hX hC W σd σ M _ kx _ s m h (fun W1 x v M1 l1 m1 r1 h1 =>
    truth_ok (Q := fun c H => Q (.bl (!c)) H) hX m1 r1 h1 (fun W2 b M2 l2 m2 h2 => hQ W2 _ _ M2 (l1.trans l2) m2 (.bl _) (by rw [← bnot_eq]; exact h2))) hx)
def cNeg (a : CE) : CE := fun ev σ M k kx => a ev σ M (fun x M => isInt x fun i => frI (ineg i) fun z => k (.int z) M) kx
theorem se_neg {a : Expr} {ca : CE} (ha : SE S ci a ca) : SE S ci (.UnaryOp .USub a pos) (cNeg ca) :=
  fun X Wx hX hC W σd σ M k kx Q s m h hQ hx => tofE (pe_un un_neg pe_tof) (ha X Wx hX hC W σd σ M _ kx _ s m h (fun W1 x v M1 l1 m1 r1 h1 => by
    obtain ⟨i, rfl, h2⟩ := isInt_t h1
    rw [frI_eq, ineg_eq] at h2
    cases r1
    exact ⟨i, rfl, hQ W1 _ _ M1 l1 m1 (.int _) h2⟩) hx)
/-! ### and, or -/
def cAndT (a b : CB) : CB := fun ev σ M k kx => a ev σ M (fun x M => Bool.rec (k false M) (b ev σ M k kx) x) kx
def cOrT (a b : CB) : CB := fun ev σ M k kx => a ev σ M (fun x M => Bool.rec (b ev σ M k kx) (k true M) x) kx
theorem sw_and1 {a : Expr} {ca : CB} (ha : STt S ci a ca) : STw S ci (.BoolOp .And [a] pos) ca :=
  fun X Wx hX hC W σd σ M k kx Q s m h hQ hx => tofW (pw_and1 pt_tof) (ha X Wx hX hC W σd σ M k kx Q s m h hQ hx)
theorem sw_or1 {a : Expr} {ca : CB} (ha : STt S ci a ca) : STw S ci (.BoolOp .Or [a] pos) ca :=
  fun X Wx hX hC W σd σ M k kx Q s m h hQ hx => tofW (pw_or1 pt_tof) (ha X Wx hX hC W σd σ M k kx Q s m h hQ hx)
theorem sw_and {a b : Expr} {rest : List Expr} {ca cb : CB} (ha : STt S ci a ca) (hb : STw S ci (.BoolOp .And (b :: rest) pos) cb) : STw S ci (.BoolOp .And (a :: b :: rest) pos) (cAndT ca cb) :=
  fun X Wx hX hC W σd σ M k kx Q s m h hQ hx => tofW (pw_and pt_tof pw_tof) (ha X Wx hX hC W σd σ M _ kx _ s m h (fun W1 x M1 l1 m1 h1 => by
    cases x with
    | true => rw [if_pos rfl]; exact hb X Wx hX hC W1 σd σ M1 k kx Q (s.mono l1) m1 h1 (hQ.mono l1) (hx.mono l1)
    | false => rw [if_neg Bool.false_ne_true]; exact hQ W1 _ M1 l1 m1 h1) hx)
theorem sw_or {a b : Expr} {rest : List Expr} {ca cb : CB} (ha : STt S ci a ca) (hb : STw S ci (.BoolOp .Or (b :: rest) pos) cb) : STw S ci (.BoolOp .Or (a :: b :: rest) pos) (cOrT ca cb) :=
  fun X Wx hX hC W σd σ M k kx Q s m h hQ hx => tofW (pw_or pt_tof pw_tof) (ha X Wx hX hC W σd σ M _ kx _ s m h (fun W1 x M1 l1 m1 h1 => by
    cases x with
    | true => rw [if_pos rfl]; exact hQ W1 _ M1 l1 m1 h1
    | false => rw [if_neg Bool.false_ne_true]; exact hb X Wx hX hC W1 σd σ M1 k kx Q (s.mono l1) m1 h1 (hQ.mono l1) (hx.mono l1)) hx)
def cAndV (a b : CE) : CE := fun ev σ M k kx => a ev σ M (fun x M => truthK x M fun t M => Bool.rec (k x M) (b ev σ M k kx) t) kx
def cOrV (a b : CE) : CE := fun ev σ M k kx => a ev σ M (fun x M => truthK x M fun t M => Bool.rec (b ev σ M k kx) (k x M) t) kx
theorem se_one {a : Expr} {ca : CE} {op : BoolOp} (ha : SE S ci a ca) : SE S ci (.BoolOp op [a] pos) ca :=
  fun X Wx hX hC W σd σ M k kx Q s m h hQ hx => tofE (pe_one pe_tof) (ha X Wx hX hC W σd σ M k kx Q s m h hQ hx)
theorem se_and {a b : Expr} {rest : List Expr} {ca cb : CE} (ha : SE S ci a ca) (hb : SE S ci (.BoolOp .And (b :: rest) pos) cb) : SE S ci (.BoolOp .And (a :: b :: rest) pos) (cAndV ca cb) :=
  fun X Wx hX hC W σd σ M k kx Q s m h hQ hx => tofE (pe_andT pe_tof pe_tof) (ha X Wx hX hC W σd σ M _ kx _ s m h (fun W1 x v M1 l1 m1 r1 h1 =>
    truth_ok (Q := fun c H => if c = true then TofE X (.BoolOp .And (b :: rest) pos) σ H Q else Q v H) hX m1 r1 h1 (fun W2 t M2 l2 m2 h2 => by
      cases t with
      | true => rw [if_pos rfl]; exact hb X Wx hX hC W2 σd σ M2 k kx Q (s.mono (l1.trans l2)) m2 h2 (hQ.mono (l1.trans l2)) (hx.mono (l1.trans l2))
      | false => rw [if_neg Bool.false_ne_true]; exact hQ W2 x v M2 (l1.trans l2) m2 (r1.mono l2) h2)) hx)
theorem se_or {a b : Expr} {rest : List Expr} {ca cb : CE} (ha : SE S ci a ca) (hb : SE S ci (.BoolOp .Or (b :: rest) pos) cb) : SE S ci (.BoolOp .Or (a :: b :: rest) pos) (cOrV ca cb) :=
  fun X Wx hX hC W σd σ M k kx Q s m h hQ hx => tofE (pe_orT pe_tof pe_tof) (ha X Wx hX hC W σd σ M _ kx _ s m h (fun W1 x v M1 l1 m1 r1 h1 =>
    truth_ok (Q := fun c H => if c = true then Q v H else TofE X (.BoolOp .Or (b :: rest) pos) σ H Q) hX m1 r1 h1 (fun W2 t M2 l2 m2 h2 => by
      cases t with
      | true => rw [if_pos rfl]; exact hQ W2 x v M2 (l1.trans l2) m2 (r1.mono l2) h2
      | false => rw [if_neg Bool.false_ne_true]; exact hb X Wx hX hC W2 σd σ M2 k kx Q (s.mono (l1.trans l2)) m2 h2 (hQ.mono (l1.trans l2)) (hx.mono (l1.trans l2)))) hx)
def cIf (c : CB) (a b : CE) : CE := fun ev σ M k kx => c ev σ M (fun t M => Bool.rec (b ev σ M k kx) (a ev σ M k kx) t) kx
theorem se_if {c a b : Expr} {cc : CB} {ca cb : CE} (hc : STt S ci c cc) (ha : SE S ci a ca) (hb : SE S ci b cb) : SE S ci (.IfExp c a b pos) (cIf cc ca cb) :=
  fun X Wx hX hC W σd σ M k kx Q s m h hQ hx => tofE (pe_ifExp pt_tof pe_tof pe_tof) (hc X Wx hX hC W σd σ M _ kx _ s m h (fun W1 t M1 l1 m1 h1 => by
    cases t with
    | true => rw [if_pos rfl]; exact ha X Wx hX hC W1 σd σ M1 k kx Q (s.mono l1) m1 h1 (hQ.mono l1) (hx.mono l1)
    | false => rw [if_neg Bool.false_ne_true]; exact hb X Wx hX hC W1 σd σ M1 k kx Q (s.mono l1) m1 h1 (hQ.mono l1) (hx.mono l1)) hx)

/-! ### rows of expressions -/
def notStar : Expr → Bool
  | .Starred .. => false
  | _ => true
theorem star_cons {e : Expr} {es : List Expr} (h : notStar e = true) (env : Env) : starEach (e :: es) env = (false, eval e env) :: starEach es env := by
  cases e <;> first | rfl | (simp [notStar] at h; done)
def notStars (es : List Expr) : Bool := es.all notStar
theorem star_plain {es : List Expr} (h : notStars es = true) (env : Env) (pos : Pos) : (backTo pos (starEach es env)).any (·.1) = false := by
  induction es with
  | nil => rfl
  | cons e r ih =>
    have h' : (notStar e && notStars r) = true := h
    rw [Bool.and_eq_true] at h'
    rw [star_cons h'.1]
    show (false || (backTo pos (starEach r env)).any (·.1)) = false
    rw [ih h'.2]
    rfl
def cNil : CA := fun _ _ M k _ => k [] M
def cCons (a : CE) (r : CA) : CA := fun ev σ M k kx => a ev σ M (fun x M => r ev σ M (fun xs M => k (x :: xs) M) kx) kx
theorem sa_nil : SA S ci [] cNil := fun X Wx hX hC W σd σ M k kx Q s m h hQ hx => tofA pa_nil (hQ W _ _ M (Le.refl _) m .nil h)
theorem sa_cons {e : Expr} {es : List Expr} {c : CE} {r : CA} (he : SE S ci e c) (hr : SA S ci es r) (hs : notStar e = true) : SA S ci (e :: es) (cCons c r) :=
  fun X Wx hX hC W σd σ M k kx Q s m h hQ hx => tofA (pa_cons pe_tof pa_tof (star_cons hs X.env)) (he X Wx hX hC W σd σ M _ kx _ s m h (fun W1 x v M1 l1 m1 r1 h1 =>
    hr X Wx hX hC W1 σd σ M1 _ kx _ (s.mono l1) m1 h1 (fun W2 xs vs M2 l2 m2 r2 h2 => hQ W2 _ _ M2 (l1.trans l2) m2 (.cons (r1.mono l2) r2) h2) (hx.mono l1)) hx)
def cTup (r : CA) : CE := fun ev σ M k kx => r ev σ M (fun xs M => shortL xs (k (.tup false xs) M)) kx
theorem se_tup {es : List Expr} {r : CA} {x1 : Nat} (hr : SA S ci es r) : SE S ci (.Tuple es x1 pos) (cTup r) :=
  fun X Wx hX hC W σd σ M k kx Q s m h hQ hx => tofE (pe_tup pa_tof) (hr X Wx hX hC W σd σ M _ kx _ s m h (fun W1 xs vs M1 l1 m1 r1 h1 => by
    obtain ⟨hl, h2⟩ := shortL_t h1
    exact ⟨by rw [← r1.length]; exact hl, (hQ.mono l1).tup m1 r1 h2⟩) hx)
def cLst (r : CA) : CE := fun ev σ M k kx => r ev σ M (fun xs M => shortL xs (newC M (.lst xs) fun n M => k (.loc n) M)) kx
theorem se_lst {es : List Expr} {r : CA} (hr : SA S ci es r) : SE S ci (.List es pos) (cLst r) :=
  fun X Wx hX hC W σd σ M k kx Q s m h hQ hx => tofE (pe_lst pa_tof) (hr X Wx hX hC W σd σ M _ kx _ s m h (fun W1 xs vs M1 l1 m1 r1 h1 => by
    obtain ⟨hl, h2⟩ := shortL_t h1
    exact ⟨by rw [← r1.length]; exact hl, (hQ.mono l1).lst m1 r1 (newC_t h2)⟩) hx)
end
end Z
end
set_option Elab.async false
set_option autoImplicit false
set_option linter.all false
set_option maxRecDepth 100000
set_option maxHeartbeats 1000000
/-! Z5: subscripts, slices, calls. -/
noncomputable section
namespace Z
open PySem PySem.Spec PyProof.Rows L2

/-! ### a[b] -/
def rIxS (X : Cx) : R2 := fun x y H Q => ∀ (value slice : Expr) (pins : List (Addr × Obj)) (s : Shared) (σ : L2.St) (v u : Value), Inv X pins σ H s → RelV x v → RelV y u → subscripted slice false v u = operate [v, u] (getItem v u) →
  wpAny (model X.prog X.w) X.A (subscriptTail value slice v u) (EP X pins σ Q) X.xe s
theorem ixr_S {X : Cx} : IxR X (rIxS X) := fun value slice pins s σ H x y v u Q I rx ry h hs => h value slice pins s σ v u I rx ry hs
theorem rIxS_of {X : Cx} {q : R2} (h : IxR X q) {x y : V} {H : Hp} {Q : VK} (z : q x y H Q) : rIxS X x y H Q := fun value slice pins s σ v u I rx ry hs => h value slice pins s σ H x y v u Q I rx ry z hs
def OpIx (T : Tb) (r : Nat) (g : G2) : Prop :=
  ∀ (X : Cx) (Wx : WX), XOk T r X Wx → ∀ (W : Wd) (a b : D) (x y : V) (M : Sto) (k : K1) (Q : VK), MR T W M → VR T W a x → VR T W b y → g a b M k = true → PV T W k Q → rIxS X x y W.H Q
/-- an index of either sign -/
def ixK {α : Type} (l : List α) (i : Int) (k : α → Bool) : Bool := Int.rec (fun n => nthK l n k) (fun n => revK l fun r => nthK r n k) i
theorem ixK_t {α : Type} {l : List α} {i : Int} {k} (h : ixK l i k = true) : ∃ x, atI l i = some x ∧ k x = true := by
  cases i with
  | ofNat n =>
    obtain ⟨x, e, q⟩ := nthK_t h
    exact ⟨x, atI_nat e, q⟩
  | negSucc n =>
    have h' : revK l (fun r => nthK r n k) = true := h
    rw [revK_eq] at h'
    obtain ⟨x, e, q⟩ := nthK_t h'
    refine ⟨x, ?_, q⟩
    have hn : n < l.length := by
      have := (List.getElem?_eq_some_iff.mp e).1
      rwa [List.length_reverse] at this
    rw [List.getElem?_reverse hn] at e
    unfold atI ixN
    rw [Int.negSucc_eq, if_neg (by omega), if_pos (by omega)]
    show l[(-((n : Int) + 1) + (l.length : Int)).toNat]? = some x
    have : (-((n : Int) + 1) + (l.length : Int)).toNat = l.length - 1 - n := by omega
    rw [this]
    exact e
section
variable {T : Tb} {r : Nat} {X : Cx} {Wx : WX} {W : Wd}
theorem VRs.atI {ds : List D} {xs : List V} {i : Int} {d : D} (h : VRs T W ds xs) (e : L2.atI ds i = some d) : ∃ v, L2.atI xs i = some v ∧ VR T W d v := by
  unfold L2.atI at e ⊢
  rw [← h.length]
  cases q : ixN ds.length i with
  | none => rw [q] at e; cases e
  | some j =>
    rw [q] at e
    exact h.get (i := j) e
/-! dicts -/
def eqK (a b : D) : Bool := eqD a b
/-- the value at a key -/
def lookK (kvs : List (D × D)) (key : D) (k : D → Bool) (none_ : Bool) : Bool := List.rec none_ (fun p _ ih => Prod.casesOn p fun a b => Bool.rec ih (k b) (eqD a key)) kvs
theorem keyD_eq {a b : D} {x y : Key} (ha : keyD a = some x) (hb : keyD b = some y) : eqD a b = decide (x = y) := by
  cases a <;> cases ha <;> cases b <;> cases hb
  · show ieq _ _ = _
    rw [ieq_eq, key_ll, Bool.beq_eq_decide_eq]
  · show false = _
    rw [key_lr]
  · show false = _
    rw [key_rl]
  · show seq _ _ = _
    rw [seq_eq, key_rr]
    rename_i s t
    by_cases e : s = t
    · subst e; simp
    · rw [decide_eq_false e, decide_eq_false fun z => e (toS_inj z)]
theorem keyDs_eq : ∀ {ds es : List D} {x y : List Key}, keyDs ds = some x → keyDs es = some y → eqDs ds es = decide (x = y)
  | [], [], _, _, ha, hb => by cases ha; cases hb; rfl
  | [], e :: s, x, y, ha, hb => by
    cases ha
    have : ∃ k ks, y = k :: ks := by
      unfold keyDs at hb
      split at hb
      · exact ⟨_, _, (Option.some.inj hb).symm⟩
      · cases hb
    obtain ⟨k, ks, rfl⟩ := this
    rfl
  | d :: r, [], x, y, ha, hb => by
    cases hb
    have : ∃ k ks, x = k :: ks := by
      unfold keyDs at ha
      split at ha
      · exact ⟨_, _, (Option.some.inj ha).symm⟩
      · cases ha
    obtain ⟨k, ks, rfl⟩ := this
    rfl
  | d :: r, e :: s, x, y, ha, hb => by
    unfold keyDs at ha hb
    split at ha
    · split at hb
      · rename_i k1 ks1 h1 h2 _ _ k2 ks2 h3 h4
        cases ha; cases hb
        show (Bool.rec false (eqDs r s) (eqD d e) : Bool) = _
        rw [keyD_eq h1 h3, keyDs_eq h2 h4, recF]
        by_cases q : k1 = k2
        · by_cases q2 : ks1 = ks2
          · subst q q2; simp
          · simp [q, q2]
        · simp [q]
      · cases hb
    · cases ha
theorem keyT_eq {a b : D} {x y : List Key} (ha : keyT a = some x) (hb : keyT b = some y) : eqD a b = decide (x = y) := by
  cases a <;> first | (cases ha; done) | skip
  rename_i ka ds
  cases ka <;> first | (cases ha; done) | skip
  cases b <;> first | (cases hb; done) | skip
  rename_i kb es
  cases kb <;> first | (cases hb; done) | skip
  rw [eqD_tup]
  exact keyDs_eq ha hb
theorem KR.look {kvs : List (D × D)} {ks : List (Key × V)} (h : KR T W kvs ks) {key : D} {y : Key} (hk : keyD key = some y) {k : D → Bool} {no : Bool} (z : lookK kvs key k no = true) :
    (∃ d v, valV ks y = some v ∧ VR T W d v ∧ k d = true) ∨ (valV ks y = none ∧ no = true) := by
  unfold KR at h
  induction h with
  | nil => exact .inr ⟨rfl, z⟩
  | @cons p q ps qs hpq t ih =>
    obtain ⟨a, b⟩ := p
    obtain ⟨h1, h2⟩ := hpq
    have z' : (Bool.rec (lookK ps key k no) (k b) (eqD a key) : Bool) = true := z
    rw [keyD_eq h1 hk] at z'
    by_cases e : q.1 = y
    · rw [decide_eq_true e] at z'
      exact .inl ⟨b, q.2, valV_pos e, h2, z'⟩
    · rw [decide_eq_false e] at z'
      rw [valV_neg e]
      exact ih z'
theorem TR.look {kvs : List (D × D)} {ks : List (List Key × V)} (h : TR T W kvs ks) {key : D} {y : List Key} (hk : keyT key = some y) {k : D → Bool} {no : Bool} (z : lookK kvs key k no = true) :
    (∃ d v, valV ks y = some v ∧ VR T W d v ∧ k d = true) ∨ (valV ks y = none ∧ no = true) := by
  unfold TR at h
  induction h with
  | nil => exact .inr ⟨rfl, z⟩
  | @cons p q ps qs hpq t ih =>
    obtain ⟨a, b⟩ := p
    obtain ⟨h1, h2⟩ := hpq
    have z' : (Bool.rec (lookK ps key k no) (k b) (eqD a key) : Bool) = true := z
    rw [keyT_eq h1 hk] at z'
    by_cases e : q.1 = y
    · rw [decide_eq_true e] at z'
      exact .inl ⟨b, q.2, valV_pos e, h2, z'⟩
    · rw [decide_eq_false e] at z'
      rw [valV_neg e]
      exact ih z'
/-- a plain key -/
def isKeyB (d : D) : Bool := D.casesOn d false false (fun _ => false) (fun _ => true) (fun _ => true) (fun _ => false) (fun _ _ => false) (fun _ => false) (fun _ => false) (fun _ => false) (fun _ => false) (fun _ => false)
def areKeysB (ds : List D) : Bool := List.rec true (fun d _ ih => Bool.rec false ih (isKeyB d)) ds
def isKeyTB (d : D) : Bool := D.casesOn d false false (fun _ => false) (fun _ => false) (fun _ => false) (fun _ => false) (fun k ds => Bool.rec (areKeysB ds) false k) (fun _ => false) (fun _ => false) (fun _ => false) (fun _ => false) (fun _ => false)
theorem isKeyB_t {d : D} (h : isKeyB d = true) : ∃ y, keyD d = some y := by cases d <;> first | (cases h; done) | exact ⟨_, rfl⟩
theorem areKeysB_t : ∀ {ds : List D}, areKeysB ds = true → ∃ y, keyDs ds = some y
  | [], _ => ⟨[], rfl⟩
  | d :: r, h => by
    have h' : (Bool.rec false (areKeysB r) (isKeyB d) : Bool) = true := h
    rw [recF, Bool.and_eq_true] at h'
    obtain ⟨y, e⟩ := isKeyB_t h'.1
    obtain ⟨ys, e2⟩ := areKeysB_t h'.2
    exact ⟨y :: ys, by unfold keyDs; rw [e, e2]⟩
theorem isKeyTB_t {d : D} (h : isKeyTB d = true) : ∃ y, keyT d = some y := by
  cases d <;> first | (cases h; done) | skip
  rename_i k ds
  cases k <;> first | (cases h; done) | skip
  exact areKeysB_t h
theorem VR.key {d : D} {v : V} {y : Key} (r : VR T W d v) (h : keyD d = some y) : v = kV y := by cases d <;> cases h <;> cases r <;> rfl
theorem VRs.keys : ∀ {ds : List D} {vs : List V} {y : List Key}, VRs T W ds vs → keyDs ds = some y → vs = y.map kV
  | [], _, _, r, h => by cases r; cases h; rfl
  | d :: ds, _, y, r, h => by
    cases r with
    | cons q t =>
      unfold keyDs at h
      split at h
      · rename_i k ks h1 h2
        cases h
        rw [List.map_cons, q.key h1, VRs.keys t h2]
      · cases h
theorem VR.keyT {d : D} {v : V} {y : List Key} (r : VR T W d v) (h : Z.keyT d = some y) : ∃ b, v = .ref b ∧ W.H b = some (.tup (y.map kV)) := by
  cases d <;> first | (cases h; done) | skip
  rename_i k ds
  cases k <;> first | (cases h; done) | skip
  cases r with
  | tup e hs => exact ⟨_, rfl, by rw [← hs.keys h]; exact e⟩
/-- the dict at l, locked or not: whether its keys are tuples, its pairs -/
def dctC (M : Sto) (l : Nat) (f : Bool → List (D × D) → Bool) : Bool := getC M l fun c => Cell.casesOn c (fun _ => false) f (fun _ _ => false) (fun c => Cell.casesOn c (fun _ => false) f (fun _ _ => false) (fun _ => false))
theorem MR.dctR {M : Sto} (m : MR T W M) {l : Nat} {f} (h : dctC M l f = true) : ∃ t kvs, l < W.n ∧ f t kvs = true ∧ ((t = false ∧ ∃ ks, Rd W.H (W.ρ l) (.dK ks) ∧ KR T W kvs ks) ∨ (t = true ∧ ∃ ks, Rd W.H (W.ρ l) (.dT ks) ∧ TR T W kvs ks)) := by
  obtain ⟨c, h1, h2, h3⟩ := getC_t h
  have hl : l < W.n := by rw [← m.n]; exact h1
  have q := m.cell l c hl h2
  cases c with
  | lst _ => cases h3
  | ins _ _ => cases h3
  | dct t kvs =>
    obtain ⟨u, e, z⟩ := q
    refine ⟨t, kvs, hl, h3, ?_⟩
    cases t <;> cases u <;> first | exact False.elim z | exact .inl ⟨rfl, _, .inl e, z⟩ | exact .inr ⟨rfl, _, .inl e, z⟩
  | lk c =>
    cases c with
    | dct t kvs =>
      obtain ⟨o, u, e, z, _⟩ := q
      refine ⟨t, kvs, hl, h3, ?_⟩
      cases t <;> cases u <;> first | exact False.elim z | exact .inl ⟨rfl, _, .inr ⟨o, e⟩, z⟩ | exact .inr ⟨rfl, _, .inr ⟨o, e⟩, z⟩
    | _ => cases h3
/-- what the dict at l holds at a key -/
def dgetK (M : Sto) (l : Nat) (key : D) (k : D → Bool) (no : Bool) : Bool := dctC M l fun t kvs => Bool.rec (chk (isKeyB key) (lookK kvs key k no)) (chk (isKeyTB key) (lookK kvs key k no)) t
theorem MR.dget {M : Sto} (m : MR T W M) {l : Nat} {key : D} {y : V} (r : VR T W key y) {k : D → Bool} {no : Bool} (h : dgetK M l key k no = true) :
    l < W.n ∧ ((∃ d v, DGet W.H (W.ρ l) y (some v) ∧ VR T W d v ∧ k d = true) ∨ (DGet W.H (W.ρ l) y none ∧ no = true)) := by
  obtain ⟨t, kvs, hl, h1, q⟩ := m.dctR h
  refine ⟨hl, ?_⟩
  rcases q with ⟨rfl, ks, e, q⟩ | ⟨rfl, ks, e, q⟩
  · obtain ⟨h2, h3⟩ := chk_t h1
    obtain ⟨z, hz⟩ := isKeyB_t h2
    rcases q.look hz h3 with ⟨d, v, a, b, c⟩ | ⟨a, b⟩
    · exact .inl ⟨d, v, .inl ⟨ks, z, e, r.key hz, a.symm⟩, b, c⟩
    · exact .inr ⟨.inl ⟨ks, z, e, r.key hz, a.symm⟩, b⟩
  · obtain ⟨h2, h3⟩ := chk_t h1
    obtain ⟨z, hz⟩ := isKeyTB_t h2
    obtain ⟨b', eb, hb⟩ := r.keyT hz
    rcases q.look hz h3 with ⟨d, v, a, b, c⟩ | ⟨a, b⟩
    · exact .inl ⟨d, v, .inr ⟨ks, z, b', e, eb, hb, a.symm⟩, b, c⟩
    · exact .inr ⟨.inr ⟨ks, z, b', e, eb, hb, a.symm⟩, b⟩
theorem ix_dict (hX : XOk T r X Wx) {a : Addr} {y v : V} {H : Hp} {Q : VK} (g : DGet H a y (some v)) (q : Q v H) : rIxS X (.ref a) y H Q := by
  intro value slice pins s σ o u I rx ry hs
  cases rx
  exact tail_any (ops := [.ref a, u]) (dict_typeIs I g) PySem.F.slot_dict_getitem.lookup (d_getItem hX.u1 I g ry fun w' s' I' rw' => ⟨v, H, I', rw', q⟩) hs
def gIx : G2 := fun a b M f => D.casesOn a false false (fun _ => false) (fun _ => false) (fun s => isInt b fun i => shortL s (ixK s i fun c => f (.str [c]) M)) (fun _ => false) (fun _ ds => isInt b fun i => ixK ds i fun d => f d M)
  (fun l => getC M l fun c => Cell.casesOn c (fun ds => isInt b fun i => ixK ds i fun d => f d M) (fun _ _ => dgetK M l b (fun d => f d M) false) (fun _ _ => false) (fun _ => dgetK M l b (fun d => f d M) false)) (fun _ => false) (fun _ => false) (fun _ => false) (fun ds => isInt b fun i => ixK ds i fun d => f d M)
theorem ix_ok : OpIx T r gIx := by
  intro X Wx hX W a b x y M k Q m ra rb h hQ
  cases a with
  | str s =>
    obtain ⟨i, rfl, h1⟩ := isInt_t h
    obtain ⟨hl, h2⟩ := shortL_t h1
    obtain ⟨c, e, h3⟩ := ixK_t h2
    cases ra; cases rb
    refine rIxS_of ix_str ⟨toS s, i, c, rfl, rfl, by rw [toS_length]; exact hl, by simpa using e, hQ.here m (.str [c]) h3⟩
  | tup ka ds =>
    obtain ⟨i, rfl, h1⟩ := isInt_t h
    obtain ⟨p, xs, rfl, hp, rp⟩ := ra.sqT hX
    obtain ⟨d, e, h2⟩ := ixK_t h1
    obtain ⟨v, ev, rv⟩ := rp.atI e
    cases rb
    exact rIxS_of ix_tup ⟨p, xs, i, v, rfl, rfl, hp, ev, hQ.here m rv h2⟩
  | lv ds =>
    obtain ⟨i, rfl, h1⟩ := isInt_t h
    obtain ⟨p, xs, rfl, hp, rp⟩ := ra.sqLv hX
    obtain ⟨d, e, h2⟩ := ixK_t h1
    obtain ⟨v, ev, rv⟩ := rp.atI e
    cases rb
    exact rIxS_of ix_list ⟨p, xs, i, v, rfl, rfl, hp, ev, hQ.here m rv h2⟩
  | loc l =>
    obtain ⟨c, hl, e, h1⟩ := getC_t h
    obtain ⟨hl', rfl⟩ := ra.loc_at
    cases c with
    | lst ds =>
      obtain ⟨i, rfl, h2⟩ := isInt_t h1
      obtain ⟨xs, hx, rx⟩ := m.lst hl' e
      obtain ⟨d, e2, h3⟩ := ixK_t h2
      obtain ⟨v, ev, rv⟩ := rx.atI e2
      cases rb
      exact rIxS_of ix_list ⟨_, xs, i, v, rfl, rfl, SqL.of hx, ev, hQ.here m rv h3⟩
    | dct t kvs =>
      obtain ⟨_, z⟩ := m.dget rb h1
      rcases z with ⟨d, v, g, rv, h2⟩ | ⟨_, h2⟩
      · exact ix_dict hX g (hQ.here m rv h2)
      · cases h2
    | ins _ _ => cases h1
    | lk _ =>
      obtain ⟨_, z⟩ := m.dget rb h1
      rcases z with ⟨d, v, g, rv, h2⟩ | ⟨_, h2⟩
      · exact ix_dict hX g (hQ.here m rv h2)
      · cases h2
  | _ => cases h
end
section
variable {S : St8} {ci : CI} {pos : Pos}
def notSlice : Expr → Bool
  | .Slice .. => false
  | _ => true
theorem notSlice_ok {b : Expr} (h : notSlice b = true) : PlainIx b := by
  intro o i
  cases b <;> first | rfl | (simp [notSlice] at h; done)
theorem se_ix {a b : Expr} {ca cb : CE} (ha : SE S ci a ca) (hb : SE S ci b cb) (hs : notSlice b = true) : SE S ci (.Subscript a b pos) (cBin gIx ca cb) := by
  intro X Wx hX hC W σd σ M k kx Q s m h hQ hx
  refine tofE (pe_ix ixr_S pe_tof pe_tof (notSlice_ok hs)) ?_
  refine ha X Wx hX hC W σd σ M _ kx _ s m h (fun W1 x v M1 l1 m1 r1 h1 => ?_) hx
  refine hb X Wx hX hC W1 σd σ M1 _ kx _ (s.mono l1) m1 h1 (fun W2 y u M2 l2 m2 r2 h2 => ?_) (hx.mono l1)
  exact ix_ok X Wx hX W2 x y v u M2 k Q m2 (r1.mono l2) r2 h2 (hQ.mono (l1.trans l2))

/-! ### a[b:c] -/
abbrev CO := Ev → SEnv → Sto → (Option Int → Sto → Bool) → KX → Bool
def cNo : CO := fun _ _ M k _ => k none M
def cPart (a : CE) : CO := fun ev σ M k kx => a ev σ M (fun x M => isInt x fun i => k (some i) M) kx
def SO (S : St8) (ci : CI) (e : Option Expr) (c : CO) : Prop := ∀ (X : Cx) (Wx : WX), XOk S.T S.r X Wx → CIok S.T ci X → ∀ (W : Wd) (σd : SEnv) (σ : L2.St) (M : Sto) (k : Option Int → Sto → Bool) (kx : KX) (Q : Option Int → Hp → Prop),
  SR S.T W σd σ → MR S.T W M → c S.ev σd M k kx = true → (∀ W' o M', Le W W' → MR S.T W' M' → k o M' = true → Q o W'.H) → PX S.T W kx (fun c d H => Wx c d σ H) → ∃ t, PO X e t ∧ t σ W.H Q
theorem so_no : SO S ci none cNo := fun X Wx hX hC W σd σ M k kx Q s m h hQ hx => ⟨_, po_none, hQ W _ M (Le.refl _) m h⟩
theorem so_part {a : Expr} {ca : CE} (ha : SE S ci a ca) : SO S ci (some a) (cPart ca) := fun X Wx hX hC W σd σ M k kx Q s m h hQ hx =>
  ⟨_, po_some pe_tof, ha X Wx hX hC W σd σ M _ kx _ s m h (fun W1 x v M1 l1 m1 r1 h1 => by
    obtain ⟨i, rfl, h2⟩ := isInt_t h1
    cases r1
    exact ⟨i, rfl, hQ W1 _ M1 l1 m1 h2⟩) hx⟩
theorem po_tof {X : Cx} {e : Option Expr} : PO X e (fun σ H Q => ∃ t, PO X e t ∧ t σ H Q) := ⟨fun pins s σ H Q I h => let ⟨t, p, q⟩ := h; p.run pins s σ H Q I q⟩
def rSlS (X : Cx) : V → Option Int → Option Int → Hp → VK → Prop := fun x lo hi H Q => ∀ (pins : List (Addr × Obj)) (s : Shared) (σ : L2.St) (v vl vu : Value) (sl : Addr), Inv X pins σ H s → RelV x v → s.heap.IsSliceOf sl vl vu .none → IsPart vl lo → IsPart vu hi →
    ∃ T id, typeLookup (.type T) "__getitem__" = pure (some (.builtin id)) ∧ s.TypeIs v T ∧ wpAny (model X.prog X.w) X.A (getItem v (.ref sl)) (EP X pins σ Q) X.xe s
theorem slr_S {X : Cx} : SlR X (rSlS X) := fun pins s σ H x v vl vu lo hi sl Q I rx hs pl pu h => h pins s σ v vl vu sl I rx hs pl pu
theorem rSlS_of {X : Cx} {q : V → Option Int → Option Int → Hp → VK → Prop} (h : SlR X q) {x : V} {lo hi : Option Int} {H : Hp} {Q : VK} (z : q x lo hi H Q) : rSlS X x lo hi H Q := fun pins s σ v vl vu sl I rx hs pl pu => h pins s σ H x v vl vu lo hi sl Q I rx hs pl pu z
/-- where a part of a slice stands in n items -/
def sIxB (n d : Nat) (o : Option Int) : Nat := Option.rec d (fun i => Int.rec (fun k => Bool.rec n k (Nat.ble k n)) (fun k => Nat.sub n (Nat.succ k)) i) o
theorem sIxB_eq (n d : Nat) (o : Option Int) : sIxB n d o = HT.sIx n d o := by
  cases o with
  | none => rfl
  | some i => cases i with
    | ofNat k =>
      show (Bool.rec n k (Nat.ble k n) : Nat) = HT.sIx n d (some (k : Int))
      rw [HT.sIx_nat]
      cases h : Nat.ble k n with
      | true => have := Nat.le_of_ble_eq_true h; show k = _; omega
      | false =>
        have : ¬ k ≤ n := fun z => by rw [Nat.ble_eq.mpr z] at h; cases h
        show n = _; omega
    | negSucc k =>
      show n - (k + 1) = (if Int.negSucc k < 0 then (Int.negSucc k + (n : Int)).toNat else _)
      rw [if_pos (by rw [Int.negSucc_eq]; omega), Int.negSucc_eq]
      omega
def cutK {α : Type} (l : List α) (lo hi : Option Int) (k : Bool → List α → Bool) : Bool := lenK l fun n => frN (sIxB n 0 lo) fun a => frN (sIxB n n hi) fun b => dropK' l a fun l' => takeK l' (Nat.sub b a) fun r => k (Bool.rec false (Nat.beq b n) (Nat.beq a 0)) r
theorem cutK_t {α : Type} {l : List α} {lo hi : Option Int} {k} (h : cutK l lo hi k = true) :
    k (decide (HT.sIx l.length 0 lo = 0 ∧ HT.sIx l.length l.length hi = l.length)) ((l.drop (HT.sIx l.length 0 lo)).take (HT.sIx l.length l.length hi - HT.sIx l.length 0 lo)) = true := by
  unfold cutK at h
  simp only [lenK_eq, frN_eq, dropK_eq, takeK_eq, sIxB_eq] at h
  have e : (Bool.rec false (Nat.beq (HT.sIx l.length l.length hi) l.length) (Nat.beq (HT.sIx l.length 0 lo) 0) : Bool) = decide (HT.sIx l.length 0 lo = 0 ∧ HT.sIx l.length l.length hi = l.length) := by
    rw [recF, Bool.eq_iff_iff, Bool.and_eq_true, decide_eq_true_iff, Nat.beq_eq, Nat.beq_eq]
  rw [e] at h
  exact h
theorem VRs.cut {T : Tb} {W : Wd} {ds : List D} {xs : List V} (h : VRs T W ds xs) (lo hi : Option Int) : VRs T W ((ds.drop (HT.sIx ds.length 0 lo)).take (HT.sIx ds.length ds.length hi - HT.sIx ds.length 0 lo)) (cutV xs lo hi) := by
  unfold cutV
  rw [← h.length]
  exact (h.drop _).take _
def gSl (a : D) (lo hi : Option Int) (M : Sto) (f : K1) : Bool := D.casesOn a false false (fun _ => false) (fun _ => false) (fun s => shortL s (cutK s lo hi fun _ r => f (.str r) M)) (fun _ => false) (fun k ds => cutK ds lo hi fun w r => Bool.rec (f (.tup false r) M) (f (.tup k ds) M) w)
  (fun l => lstC M l fun ds => cutK ds lo hi fun _ r => newC M (.lst r) fun n M' => f (.loc n) M') (fun _ => false) (fun _ => false) (fun _ => false) (fun _ => false)
theorem cutS_eq (s : List Nat) (lo hi : Option Int) : cutS (toS s) lo hi = toS ((s.drop (HT.sIx s.length 0 lo)).take (HT.sIx s.length s.length hi - HT.sIx s.length 0 lo)) := by
  first
    | rfl
    | (unfold cutS; simp; done)
    | (unfold cutS; simp [toS])
theorem sl_ok {T : Tb} {r : Nat} {X : Cx} {Wx : WX} (hX : XOk T r X Wx) {W : Wd} {a : D} {x : V} {lo hi : Option Int} {M : Sto} {k : K1} {Q : VK} (m : MR T W M) (ra : VR T W a x) (h : gSl a lo hi M k = true) (hQ : PV T W k Q) : rSlS X x lo hi W.H Q := by
  cases a with
  | str s =>
    obtain ⟨hl, h1⟩ := shortL_t h
    have h2 := cutK_t h1
    cases ra
    refine rSlS_of sl_str ⟨toS s, rfl, by rw [toS_length]; exact hl, ?_⟩
    rw [cutS_eq]
    exact hQ.here m (.str _) h2
  | tup ka ds =>
    obtain ⟨p, xs, rfl, hp, rp⟩ := ra.sqT hX
    have h' : cutK ds lo hi (fun w r => Bool.rec (k (.tup false r) M) (k (.tup ka ds) M) w) = true := h
    have h2 := cutK_t h'
    refine rSlS_of sl_tupA ⟨p, xs, rfl, hp, fun e => ?_, fun e => ?_⟩
    · rw [← rp.length] at e
      rw [decide_eq_true e] at h2
      exact hQ.here m ra h2
    · rw [← rp.length] at e
      rw [decide_eq_false e] at h2
      exact hQ.tup m (rp.cut lo hi) h2
  | loc l =>
    obtain ⟨_, rfl⟩ := ra.loc_at
    obtain ⟨ds, xs, e, rs, _, _, h1⟩ := m.lstC h
    have h2 := cutK_t h1
    exact rSlS_of sl_list ⟨_, xs, rfl, SqL.of e, hQ.lst m (rs.cut lo hi) (newC_t h2)⟩
  | _ => cases h
def cSl (a : CE) (lo hi : CO) : CE := fun ev σ M k kx => a ev σ M (fun x M => lo ev σ M (fun l M => hi ev σ M (fun u M => gSl x l u M k) kx) kx) kx
theorem se_sl {a : Expr} {lo hi : Option Expr} {ca : CE} {cl ch : CO} {p2 : Pos} (ha : SE S ci a ca) (hl : SO S ci lo cl) (hh : SO S ci hi ch) : SE S ci (.Subscript a (.Slice lo hi none p2) pos) (cSl ca cl ch) := by
  intro X Wx hX hC W σd σ M k kx Q s m h hQ hx
  refine tofE (pe_slice slr_S pe_tof po_tof po_tof) ?_
  refine ha X Wx hX hC W σd σ M _ kx _ s m h (fun W1 x v M1 l1 m1 r1 h1 => ?_) hx
  refine hl X Wx hX hC W1 σd σ M1 _ kx _ (s.mono l1) m1 h1 (fun W2 lo M2 l2 m2 h2 => ?_) (hx.mono l1)
  refine hh X Wx hX hC W2 σd σ M2 _ kx _ (s.mono (l1.trans l2)) m2 h2 (fun W3 hi M3 l3 m3 h3 => ?_) (hx.mono (l1.trans l2))
  exact sl_ok hX m3 ((r1.mono l2).mono l3) h3 (hQ.mono ((l1.trans l2).trans l3))
end
end Z
end
set_option Elab.async false
set_option autoImplicit false
set_option linter.all false
set_option maxRecDepth 100000
set_option maxHeartbeats 1000000
/-! Z6: calls of defs, of built-ins, of built-ins' methods. -/
noncomputable section
namespace Z
open PySem PySem.Spec PyProof.Rows L2

section
variable {S : St8} {ci : CI} {pos : Pos}

/-! ### a def of the text -/
def cCall (i : Nat) (args : CA) : CE := fun ev σ M k kx => args ev σ M (fun xs M => ev.call i xs M k kx) kx
theorem FnIs.at (hS : S.Ok) {X : Cx} {Wx : WX} (hX : XOk S.T S.r X Wx) {i : Nat} {ps : List Str} (hp : S.fns[i]? = some ps) :
    ∃ fd, FnOk X.prog X.w X.K X.mg X.base (L2.CX X.prog X.w) S.q (S.T.fa i) fd ps (spOf S.T S.ev i ps.length) ∧ PySem.W.keepIn X.K (.ref (S.T.fa i)) = true ∧ Binds X.K fd ps [] := by
  obtain ⟨fd, F, kp, b, kw⟩ := hS.fn i ps hp
  refine ⟨fd, ?_, ?_, ?_⟩
  · rw [hX.P, hX.w, hX.K, hX.mg, hX.base]; exact F
  · rw [hX.K]; exact kp
  · rw [hX.K]; exact b
/-- it runs -/
theorem run_def (hS : S.Ok) {X : Cx} {Wx : WX} (hX : XOk S.T S.r X Wx) {i : Nat} {ps : List Str} (hp : S.fns[i]? = some ps) {W : Wd} {ds : List D} {vs : List V} {M : Sto} {k : K1} {kx : KX} {Q : VK} {pins : List (Addr × Obj)} {σ : L2.St} {s : Shared} {us : List Value}
    (I : Inv X pins σ W.H s) (r : Vals vs us) (m : MR S.T W M) (rs : VRs S.T W ds vs) (hl : ds.length = ps.length) (h : S.ev.call i ds M k kx = true) (hQ : PV S.T W k Q) (hx : PX S.T W kx (fun c d H => Wx c d σ H)) :
    wpAny (model X.prog X.w) X.A (call (.ref (S.T.fa i)) us) (EP X pins σ Q) X.xe s := by
  obtain ⟨fd, F, kp, b⟩ := FnIs.at hS hX hp
  exact run_fnS (E := WE Wx) F (hX.room.mono hS.le) b (passAt hX.tk σ) I r ⟨W, ds, M, k, kx, rfl, m, rs, by rw [← rs.length]; exact hl, h, hQ, hx⟩
def lenIs {α : Type} (l : List α) (n : Nat) (b : Bool) : Bool := lenK l fun m => chk (Nat.beq m n) b
theorem lenIs_t {α : Type} {l : List α} {n : Nat} {b : Bool} (h : lenIs l n b = true) : l.length = n ∧ b = true := by
  unfold lenIs at h
  rw [lenK_eq] at h
  obtain ⟨h1, h2⟩ := chk_t h
  exact ⟨Nat.eq_of_beq_eq_true h1, h2⟩
theorem kp_of {X : Cx} {Wx : WX} (hS : S.Ok) (hX : XOk S.T S.r X Wx) {i : Nat} {ps : List Str} (hp : S.fns[i]? = some ps) : PySem.W.keepIn X.K (.ref (S.T.fa i)) = true := by
  obtain ⟨_, _, kp, _⟩ := FnIs.at hS hX hp
  exact kp
def cCallN (i n : Nat) (args : CA) : CE := fun ev σ M k kx => args ev σ M (fun xs M => lenIs xs n (ev.call i xs M k kx)) kx
theorem se_call (hS : S.Ok) {x : Str} {p : Pos} {e : Expr} {es : List Expr} {c : CA} {i : Nat} {ps : List Str} (hp : S.fns[i]? = some ps) (hs : ci.sc.names.lookup x = some .globalImplicit) (hm : S.T.mg x = some (.ref (S.T.fa i))) (hd : (x == ("__debug__" : Str)) = false)
    (ha : SA S ci (e :: es) c) (hst : notStars (e :: es) = true) : SE S ci (.Call (.Name x p) (e :: es) [] pos) (cCallN i ps.length c) := by
  intro X Wx hX hC W σd σ M k kx Q s m h hQ hx pins st I
  have hst' : (notStar e && notStars es) = true := hst
  rw [Bool.and_eq_true] at hst'
  refine wpAny_Call_Name_kw (ld_glob I (by unfold Gl Env.kindOf; rw [hC.sc]; exact hs) (by rw [hX.mg]; exact hm) ?_ hd)
  refine PySem.W.callWith_K (h₀ := X.base) I.ok.mod.kin (kp_of hS hX hp) (thn (ha X Wx hX hC W σd σ M _ kx (fun vs H => ∀ (pins : List (Addr × Obj)) (s : Shared) (us : List Value), Inv X pins σ H s → Vals vs us → wpAny (model X.prog X.w) X.A (call (.ref (S.T.fa i)) us) (EP X pins σ Q) X.xe s) s m h (fun W1 ds vs M1 l1 m1 r1 h1 => ?_) hx pos pins st I) fun us s1 ⟨vs, H1, I1, r, q⟩ => ⟨I1.kIn, ?_⟩)
    (star_cons hst'.1 X.env) (star_plain hst'.2 X.env pos)
  · intro pins2 s2 us2 I2 r2
    obtain ⟨hl, h2⟩ := lenIs_t h1
    exact run_def hS hX hp I2 r2 m1 r1 hl h2 (hQ.mono l1) (hx.mono l1)
  · exact q pins s1 us I1 r
theorem se_call0 (hS : S.Ok) {x : Str} {p : Pos} {i : Nat} {ps : List Str} (hp : S.fns[i]? = some ps) (hs : ci.sc.names.lookup x = some .globalImplicit) (hm : S.T.mg x = some (.ref (S.T.fa i))) (hd : (x == ("__debug__" : Str)) = false) :
    SE S ci (.Call (.Name x p) [] [] pos) (cCallN i ps.length cNil) := by
  intro X Wx hX hC W σd σ M k kx Q s m h hQ hx pins st I
  refine wpAny_Call_Name_kw (ld_glob I (by unfold Gl Env.kindOf; rw [hC.sc]; exact hs) (by rw [hX.mg]; exact hm) ?_ hd)
  refine PySem.W.callWith_K0 I.kIn (kp_of hS hX hp) ?_
  have h' : lenIs ([] : List D) ps.length (S.ev.call i [] M k kx) = true := h
  obtain ⟨hl, h2⟩ := lenIs_t h'
  exact run_def (us := []) hS hX hp I .nil m .nil hl h2 hQ hx

/-! ### built-in functions, types -/
def CaS (X : Cx) (f : Value) : List V → Hp → VK → Prop := fun xs H Q => ∀ (pins : List (Addr × Obj)) (s : Shared) (σ : L2.St) (us : List Value), Inv X pins σ H s → Vals xs us → wpAny (model X.prog X.w) X.A (call f us) (EP X pins σ Q) X.xe s
theorem callR_S {X : Cx} {f : Value} : CallR X f (CaS X f) := fun pins s σ H xs us Q I r h => h pins s σ us I r
theorem CaS_of {X : Cx} {f : Value} {q : List V → Hp → VK → Prop} (h : CallR X f q) {xs : List V} {H : Hp} {Q : VK} (z : q xs H Q) : CaS X f xs H Q := fun pins s σ us I r => h pins s σ H xs us Q I r z
abbrev GC := List D → Sto → K1 → Bool
def OpC (T : Tb) (r : Nat) (f : Value) (g : GC) : Prop :=
  ∀ (X : Cx) (Wx : WX), XOk T r X Wx → ∀ (W : Wd) (ds : List D) (vs : List V) (M : Sto) (k : K1) (Q : VK), MR T W M → VRs T W ds vs → g ds M k = true → PV T W k Q → CaS X f vs W.H Q
def cBlt (g : GC) (args : CA) : CE := fun ev σ M k kx => args ev σ M (fun xs M => g xs M k) kx
theorem se_bltA {f : Value} {g : GC} {es : List Expr} {c : CA} (ho : OpC S.T S.r f g) (ha : SA S ci es c) {X : Cx} {Wx : WX} (hX : XOk S.T S.r X Wx) (hC : CIok S.T ci X) {W : Wd} {σd : SEnv} {σ : L2.St} {M : Sto} {k : K1} {kx : KX} {Q : VK}
    (s : SR S.T W σd σ) (m : MR S.T W M) (h : cBlt g c S.ev σd M k kx = true) (hQ : PV S.T W k Q) (hx : PX S.T W kx (fun c d H => Wx c d σ H)) : tCB (CaS X f) (TofA X es) σ W.H Q :=
  ha X Wx hX hC W σd σ M _ kx _ s m h (fun W1 ds vs M1 l1 m1 r1 h1 => ho X Wx hX W1 ds vs M1 k Q m1 r1 h1 (hQ.mono l1)) hx
theorem se_bltF {x : Str} {p : Pos} {id : String} {g : GC} {e : Expr} {es : List Expr} {c : CA} (ho : OpC S.T S.r (.builtin id) g) (ha : SA S ci (e :: es) c) (hs : ci.sc.names.lookup x = some .globalImplicit) (hm : S.T.mg x = none) (hb : bootBuiltins x = some (.builtin id))
    (hn : x ≠ "__name__") (hd : (x == ("__debug__" : Str)) = false) (hst : notStars (e :: es) = true) : SE S ci (.Call (.Name x p) (e :: es) [] pos) (cBlt g c) := by
  intro X Wx hX hC W σd σ M k kx Q s m h hQ hx
  have hst' : (notStar e && notStars es) = true := hst
  rw [Bool.and_eq_true] at hst'
  exact tofE (pe_callB callR_S (by unfold Gl Env.kindOf; rw [hC.sc]; exact hs) (by rw [hX.mg]; exact hm) hb pa_tof hn hd (star_cons hst'.1 X.env) (star_plain hst'.2 X.env pos)) (se_bltA ho ha hX hC s m h hQ hx)
theorem se_bltT {x : Str} {p : Pos} {t : String} {g : GC} {e : Expr} {es : List Expr} {c : CA} (ho : OpC S.T S.r (.type t) g) (ha : SA S ci (e :: es) c) (hs : ci.sc.names.lookup x = some .globalImplicit) (hm : S.T.mg x = none) (hb : bootBuiltins x = some (.type t))
    (hn : x ≠ "__name__") (hd : (x == ("__debug__" : Str)) = false) (hst : notStars (e :: es) = true) : SE S ci (.Call (.Name x p) (e :: es) [] pos) (cBlt g c) := by
  intro X Wx hX hC W σd σ M k kx Q s m h hQ hx
  have hst' : (notStar e && notStars es) = true := hst
  rw [Bool.and_eq_true] at hst'
  exact tofE (pe_callTy callR_S (by unfold Gl Env.kindOf; rw [hC.sc]; exact hs) (by rw [hX.mg]; exact hm) hb pa_tof hn hd (star_cons hst'.1 X.env) (star_plain hst'.2 X.env pos)) (se_bltA ho ha hX hC s m h hQ hx)
/-- a built-in function that a global of the module names (from math import gcd) -/
theorem se_bltG {x : Str} {p : Pos} {id : String} {g : GC} {e : Expr} {es : List Expr} {c : CA} (ho : OpC S.T S.r (.builtin id) g) (ha : SA S ci (e :: es) c) (hs : ci.sc.names.lookup x = some .globalImplicit) (hm : S.T.mg x = some (.builtin id))
    (hd : (x == ("__debug__" : Str)) = false) (hst : notStars (e :: es) = true) : SE S ci (.Call (.Name x p) (e :: es) [] pos) (cBlt g c) := by
  intro X Wx hX hC W σd σ M k kx Q s m h hQ hx
  have hst' : (notStar e && notStars es) = true := hst
  rw [Bool.and_eq_true] at hst'
  exact tofE (pe_callBfun callR_S (by unfold Gl Env.kindOf; rw [hC.sc]; exact hs) (by rw [hX.mg]; exact hm) pa_tof hd (star_cons hst'.1 X.env) (star_plain hst'.2 X.env pos)) (se_bltA ho ha hX hC s m h hQ hx)
end

section
variable {T : Tb} {r : Nat}
theorem VRs.one {W : Wd} {d : D} {vs : List V} (h : VRs T W [d] vs) : ∃ v, vs = [v] ∧ VR T W d v := by
  cases h with
  | cons h t => cases t; exact ⟨_, rfl, h⟩
theorem VRs.two {W : Wd} {d e : D} {vs : List V} (h : VRs T W [d, e] vs) : ∃ v u, vs = [v, u] ∧ VR T W d v ∧ VR T W e u := by
  cases h with
  | cons h t => cases t with
    | cons h2 t2 => cases t2; exact ⟨_, _, rfl, h, h2⟩
/-- one argument, two -/
def arg1 (ds : List D) (k : D → Bool) : Bool := List.casesOn ds false fun d r => List.casesOn r (k d) fun _ _ => false
def arg2 (ds : List D) (k : D → D → Bool) : Bool := List.casesOn ds false fun d r => arg1 r fun e => k d e
theorem arg1_t {ds : List D} {k} (h : arg1 ds k = true) : ∃ d, ds = [d] ∧ k d = true := by
  cases ds with
  | nil => cases h
  | cons d r => cases r with
    | nil => exact ⟨d, rfl, h⟩
    | cons _ _ => cases h
theorem arg2_t {ds : List D} {k} (h : arg2 ds k = true) : ∃ d e, ds = [d, e] ∧ k d e = true := by
  cases ds with
  | nil => cases h
  | cons d r => obtain ⟨e, rfl, h2⟩ := arg1_t (ds := r) h; exact ⟨d, e, rfl, h2⟩
/-! len -/
def gLen : GC := fun ds M f => arg1 ds fun d => D.casesOn d false false (fun _ => false) (fun _ => false) (fun s => lenK s fun n => chk (Nat.ble n 16000000) (f (.int (.ofNat n)) M)) (fun _ => false) (fun _ xs => lenK xs fun n => f (.int (.ofNat n)) M)
  (fun l => getC M l fun c => Cell.casesOn c (fun xs => lenK xs fun n => f (.int (.ofNat n)) M) (fun t kvs => Bool.rec (lenK kvs fun n => f (.int (.ofNat n)) M) false t) (fun _ _ => false) (fun _ => false)) (fun _ => false) (fun _ => false) (fun _ => false) (fun xs => lenK xs fun n => f (.int (.ofNat n)) M)
theorem KR.length {W : Wd} {kvs : List (D × D)} {ks : List (Key × V)} (h : KR T W kvs ks) : kvs.length = ks.length := Paired.length h
theorem len_ok : OpC T r (.builtin "len") gLen := by
  intro X Wx hX W ds vs M k Q m rs h hQ
  obtain ⟨d, rfl, h1⟩ := arg1_t h
  obtain ⟨v, rfl, rv⟩ := rs.one
  have fin : ∀ {n : Nat}, LenV X.K v W.H n → k (.int (.ofNat n)) M = true → CaS X (.builtin "len") [v] W.H Q := fun {n} l e => CaS_of call_len ⟨v, n, rfl, l, hQ.here m (.int _) e⟩
  cases d with
  | str s =>
    have h2 : (lenK s fun n => chk (Nat.ble n 16000000) (k (.int (.ofNat n)) M)) = true := h1
    rw [lenK_eq] at h2
    obtain ⟨h3, h4⟩ := chk_t h2
    have := Nat.le_of_ble_eq_true h3
    cases rv
    refine fin (n := s.length) ⟨?_, ?_⟩ h4
    · rw [toS_length, show sizeLine = 16777216 from sizeLine_eq]; omega
    · rw [toS_length]
  | tup ka xs =>
    have h2 : (lenK xs fun n => k (.int (.ofNat n)) M) = true := h1
    rw [lenK_eq] at h2
    obtain ⟨a, ys, rfl, hs, rq⟩ := rv.sqT hX
    exact fin (.inr ⟨ys, hs, rq.length⟩) h2
  | lv xs =>
    have h2 : (lenK xs fun n => k (.int (.ofNat n)) M) = true := h1
    rw [lenK_eq] at h2
    obtain ⟨a, ys, rfl, hs, rq⟩ := rv.sqLv hX
    exact fin (.inl ⟨ys, hs, rq.length⟩) h2
  | loc l =>
    obtain ⟨c, hl, e, h2⟩ := getC_t h1
    obtain ⟨hl', rfl⟩ := rv.loc_at
    cases c with
    | lst xs =>
      have h3 : (lenK xs fun n => k (.int (.ofNat n)) M) = true := h2
      rw [lenK_eq] at h3
      obtain ⟨ys, hs, rq⟩ := m.lst hl' e
      exact fin (.inl ⟨ys, SqL.of hs, rq.length⟩) h3
    | dct t kvs =>
      cases t with
      | true => cases h2
      | false =>
        have h3 : (lenK kvs fun n => k (.int (.ofNat n)) M) = true := h2
        rw [lenK_eq] at h3
        obtain ⟨u, hu, q⟩ := m.cell l _ hl' e
        cases u <;> first | exact False.elim q | skip
        rename_i ks
        refine CaS_of call_lenD ⟨_, ks, rfl, hu, ?_⟩
        have q' : KR T W kvs ks := q
        rw [← q'.length]
        exact hQ.here m (.int _) h3
    | ins _ _ => cases h2
    | lk _ => cases h2
  | _ => cases h1
/-! isinstance -/
def tyOfK (d : D) (M : Sto) (k : TyN → Bool) (non_ : Bool) : Bool := D.casesOn d false non_ (fun _ => k .bool) (fun _ => k .int) (fun _ => k .str) (fun _ => false) (fun _ _ => k .tuple) (fun l => getC M l fun c => Cell.casesOn c (fun _ => k .list) (fun _ _ => k .dict) (fun _ _ => false) (fun _ => false))
  (fun _ => false) (fun _ => false) (fun _ => k .str) (fun _ => k .list)
/-- a of the type b -/
def subTy (a b : TyN) : Bool := tyEq a b || (match a, b with | .bool, .int => true | _, _ => false)
theorem subTy_kit {K : PySem.W.Frag} (a b : TyN) : PySem.W.kitOne K (.type (tyS a)) (.type (tyS b)) = some (subTy a b) := by
  cases a <;> cases b <;> exact kit_ty (by decide +kernel)
theorem non_kit {K : PySem.W.Frag} (b : TyN) : PySem.W.kitOne K (.type "NoneType") (.type (tyS b)) = some false := by
  cases b <;> exact kit_ty (by decide +kernel)
theorem tyOf_ok {X : Cx} {Wx : WX} (hX : XOk T r X Wx) {W : Wd} {d : D} {v : V} {M : Sto} {k : TyN → Bool} {no : Bool} (m : MR T W M) (rv : VR T W d v) (h : tyOfK d M k no = true) :
    (∃ t, TyX X.K W.H v (.type (tyS t)) ∧ k t = true) ∨ (TyX X.K W.H v (.type "NoneType") ∧ no = true) := by
  cases d with
  | non => cases rv; exact .inr ⟨.base .non, h⟩
  | bl b => cases rv; exact .inl ⟨.bool, .base (.bl b), h⟩
  | int i => cases rv; exact .inl ⟨.int, .base (.int i), h⟩
  | str s => cases rv; exact .inl ⟨.str, .base (.str _), h⟩
  | rp p => cases rv; exact .inl ⟨.str, .base (.str _), h⟩
  | tup ka ds =>
    cases rv with
    | tup e hs => exact .inl ⟨.tuple, .base (.tup e), h⟩
    | ktu e hs => obtain ⟨o, its, n, lk, c, _⟩ := e; exact .inl ⟨.tuple, .kTuple (by rw [hX.K]; exact lk) c, h⟩
  | lv ds =>
    cases rv with
    | lv e hs =>
      rcases e with ⟨o, e⟩ | ⟨o, its, n, lk, c, _⟩
      · exact .inl ⟨.list, .base (.frz e), h⟩
      · exact .inl ⟨.list, .kList (by rw [hX.K]; exact lk) c, h⟩
  | loc l =>
    obtain ⟨c, hl, e, h2⟩ := getC_t h
    obtain ⟨hl', rfl⟩ := rv.loc_at
    cases c with
    | lst xs =>
      obtain ⟨ys, hs, rq⟩ := m.lst hl' e
      exact .inl ⟨.list, .base (.lst hs), h2⟩
    | dct t kvs =>
      obtain ⟨u, hu, q⟩ := m.cell l _ hl' e
      cases t <;> cases u <;> first | exact False.elim q | exact .inl ⟨.dict, .base (.dK hu), h2⟩ | exact .inl ⟨.dict, .base (.dT hu), h2⟩
    | ins _ _ => cases h2
    | lk _ => cases h2
  | _ => cases h

def allTy (cs : List D) (k : List TyN → Bool) : Bool := (List.rec (fun k => k []) (fun c _ ih k => D.casesOn c false false (fun _ => false) (fun _ => false) (fun _ => false) (fun b => ih fun r => k (b :: r)) (fun _ _ => false) (fun _ => false) (fun _ => false) (fun _ => false) (fun _ => false) (fun _ => false)) cs : (List TyN → Bool) → Bool) k
def anySub (t : TyN) (bs : List TyN) (k : Bool → Bool) : Bool := List.rec (k false) (fun b _ ih => Bool.rec ih (k true) (subTy t b)) bs
theorem allTy_t : ∀ {cs : List D} {k : List TyN → Bool}, allTy cs k = true → ∃ ts, cs = ts.map D.ty ∧ k ts = true
  | [], k, h => ⟨[], rfl, h⟩
  | c :: cs, k, h => by
    cases c <;> first | (cases h; done) | skip
    rename_i b
    obtain ⟨ts, e, h2⟩ := allTy_t (cs := cs) (k := fun r => k (b :: r)) h
    exact ⟨b :: ts, by rw [e]; rfl, h2⟩
theorem anySub_t {t : TyN} : ∀ {bs : List TyN} {k : Bool → Bool}, anySub t bs k = true → k (bs.any (subTy t)) = true
  | [], _, h => h
  | b :: bs, k, h => by
    have h' : (Bool.rec (anySub t bs k) (k true) (subTy t b) : Bool) = true := h
    rw [List.any_cons]
    cases q : subTy t b with
    | true => rw [q] at h'; exact h'
    | false => rw [q] at h'; exact anySub_t h'
def gIsi : GC := fun ds M f => arg2 ds fun d c => D.casesOn c false false (fun _ => false) (fun _ => false) (fun _ => false) (fun b => tyOfK d M (fun a => frB (subTy a b) fun z => f (.bl z) M) (f (.bl false) M)) (fun k cs => Bool.rec (allTy cs fun bs => tyOfK d M (fun a => anySub a bs fun z => f (.bl z) M) (f (.bl false) M)) false k) (fun _ => false) (fun _ => false) (fun _ => false) (fun _ => false) (fun _ => false)
theorem VRs.tys {W : Wd} {vs : List V} : ∀ {ts : List TyN}, VRs T W (ts.map D.ty) vs → vs = ts.map fun t => V.ty (tyS t)
  | [], h => by cases h; rfl
  | i :: r, h => by
    cases h with
    | cons h t => cases h; rw [VRs.tys t]; rfl
theorem cls_tys : ∀ ts : List TyN, Paired ClsV (ts.map fun t => V.ty (tyS t)) (ts.map fun t => Value.type (tyS t))
  | [] => .nil
  | t :: r => .cons (.ty _) (cls_tys r)
theorem kit_tys {K : PySem.W.Frag} (a : TyN) : ∀ ts : List TyN, PySem.W.kitAny K (.type (tyS a)) (ts.map fun t => Value.type (tyS t)) = some (ts.any (subTy a))
  | [] => kitAny_nil
  | t :: r => by
    rw [List.map_cons, List.any_cons]
    refine kitAny_cons (b := subTy a t) (subTy_kit a t) (fun e => ?_) (fun e => ?_)
    · rw [e, Bool.false_or]; exact kit_tys a r
    · rw [e]; rfl
theorem kit_non {K : PySem.W.Frag} : ∀ ts : List TyN, PySem.W.kitAny K (.type "NoneType") (ts.map fun t => Value.type (tyS t)) = some false
  | [] => kitAny_nil
  | t :: r => kitAny_cons (b := false) (non_kit t) (fun _ => kit_non r) (fun e => by cases e)
theorem isi_ok : OpC T r (.builtin "isinstance") gIsi := by
  intro X Wx hX W ds vs M k Q m rs h hQ
  obtain ⟨d, c, rfl, h1⟩ := arg2_t h
  obtain ⟨v, u, rfl, rv, ru⟩ := rs.two
  cases c with
  | ty b =>
    cases ru
    rcases tyOf_ok hX m rv h1 with ⟨t, ty, h2⟩ | ⟨ty, h2⟩
    · rw [frB_eq] at h2
      exact CaS_of call_isi ⟨v, _, _, _, _, rfl, .ty _, ty, subTy_kit t b, hQ.here m (.bl _) h2⟩
    · exact CaS_of call_isi ⟨v, _, _, _, _, rfl, .ty _, ty, non_kit b, hQ.here m (.bl _) h2⟩
  | tup ka cs =>
    cases ka with
    | true => cases h1
    | false =>
      obtain ⟨ts, rfl, h2⟩ := allTy_t h1
      cases ru with
      | tup e hs =>
        cases hs.tys
        rcases tyOf_ok hX m rv h2 with ⟨t, ty, h3⟩ | ⟨ty, h3⟩
        · exact CaS_of call_isiT ⟨v, _, _, _, _, _, rfl, e, cls_tys ts, ty, kit_tys t ts, hQ.here m (.bl _) (anySub_t h3)⟩
        · exact CaS_of call_isiT ⟨v, _, _, _, _, _, rfl, e, cls_tys ts, ty, kit_non ts, hQ.here m (.bl _) h3⟩
  | _ => cases h1
/-! sequences -/
/-- the items of a list or a tuple -/
def seqK (d : D) (M : Sto) (kt kl : List D → Bool) : Bool := D.casesOn d false false (fun _ => false) (fun _ => false) (fun _ => false) (fun _ => false) (fun _ ds => kt ds) (fun l => lstC M l kl) (fun _ => false) (fun _ => false) (fun _ => false) (fun ds => kl ds)
theorem seqK_t {X : Cx} {Wx : WX} (hX : XOk T r X Wx) {W : Wd} {d : D} {v : V} {M : Sto} {kt kl : List D → Bool} (m : MR T W M) (rv : VR T W d v) (h : seqK d M kt kl = true) :
    ∃ a xs ds, v = .ref a ∧ VRs T W ds xs ∧ ((SqT X.K W.H a xs ∧ kt ds = true) ∨ (SqL X.K W.H a xs ∧ kl ds = true)) := by
  cases d with
  | tup ka ds =>
    obtain ⟨a, ys, rfl, hs, rq⟩ := rv.sqT hX
    exact ⟨a, ys, ds, rfl, rq, .inl ⟨hs, h⟩⟩
  | lv ds =>
    obtain ⟨a, ys, rfl, hs, rq⟩ := rv.sqLv hX
    exact ⟨a, ys, ds, rfl, rq, .inr ⟨hs, h⟩⟩
  | loc l =>
    obtain ⟨ds, xs, hs, rq, _, _, h2⟩ := m.lstC h
    obtain ⟨_, rfl⟩ := rv.loc_at
    exact ⟨_, xs, ds, rfl, rq, .inr ⟨SqL.of hs, h2⟩⟩
  | _ => cases h
def gTupOf : GC := fun ds M f => arg1 ds fun d => seqK d M (fun _ => f d M) (fun xs => f (.tup false xs) M)
theorem tupOf_ok : OpC T r (.type "tuple") gTupOf := by
  intro X Wx hX W ds vs M k Q m rs h hQ
  obtain ⟨d, rfl, h1⟩ := arg1_t h
  obtain ⟨v, rfl, rv⟩ := rs.one
  obtain ⟨a, xs, ds, rfl, rq, ⟨hs, h2⟩ | ⟨hs, h2⟩⟩ := seqK_t hX m rv h1
  · exact CaS_of call_tuple_of ⟨a, xs, rfl, .inr ⟨hs, hQ.here m rv h2⟩⟩
  · exact CaS_of call_tuple_of ⟨a, xs, rfl, .inl ⟨hs, hQ.tup m rq h2⟩⟩
def gLstOf : GC := fun ds M f => arg1 ds fun d => seqK d M (fun xs => newC M (.lst xs) fun n M => f (.loc n) M) (fun xs => newC M (.lst xs) fun n M => f (.loc n) M)
theorem lstOf_ok : OpC T r (.type "list") gLstOf := by
  intro X Wx hX W ds vs M k Q m rs h hQ
  obtain ⟨d, rfl, h1⟩ := arg1_t h
  obtain ⟨v, rfl, rv⟩ := rs.one
  obtain ⟨a, xs, ds, rfl, rq, ⟨hs, h2⟩ | ⟨hs, h2⟩⟩ := seqK_t hX m rv h1
  · exact CaS_of call_list_of ⟨a, xs, rfl, .inr hs, hQ.lst m rq (newC_t h2)⟩
  · exact CaS_of call_list_of ⟨a, xs, rfl, .inl hs, hQ.lst m rq (newC_t h2)⟩
def gInt : GC := fun ds M f => arg1 ds fun d => D.casesOn d false false (fun b => Bool.rec (f (.int (.ofNat 0)) M) (f (.int (.ofNat 1)) M) b) (fun i => f (.int i) M) (fun _ => false) (fun _ => false) (fun _ _ => false) (fun _ => false) (fun _ => false) (fun _ => false) (fun _ => false) (fun _ => false)
theorem int_ok : OpC T r (.type "int") gInt := by
  intro X Wx hX W ds vs M k Q m rs h hQ
  obtain ⟨d, rfl, h1⟩ := arg1_t h
  obtain ⟨v, rfl, rv⟩ := rs.one
  cases d with
  | int i => cases rv; exact CaS_of call_int1 (.inl ⟨i, rfl, hQ.here m (.int _) h1⟩)
  | bl b =>
    cases rv
    refine CaS_of call_int1 (.inr ⟨b, rfl, ?_⟩)
    cases b
    · exact hQ.here m (.int _) h1
    · exact hQ.here m (.int _) h1
  | _ => cases h1
def sumI (is : List Int) (k : Int → Bool) : Bool := (List.rec (fun a k => k a) (fun i _ ih a k => frI (iadd a i) fun z => ih z k) is : Int → (Int → Bool) → Bool) (.ofNat 0) k
theorem sumI_aux (is : List Int) (a : Int) (k) : (List.rec (fun a k => k a) (fun i _ ih a k => frI (iadd a i) fun z => ih z k) is : Int → (Int → Bool) → Bool) a k = k (a + is.sum) := by
  induction is generalizing a with
  | nil => simp
  | cons i r ih =>
    show frI (iadd a i) _ = _
    rw [frI_eq, iadd_eq, ih, List.sum_cons, Int.add_assoc]
theorem sumI_eq (is : List Int) (k) : sumI is k = k is.sum := by
  unfold sumI
  rw [sumI_aux]
  congr 1
  exact Int.zero_add _
def gSum : GC := fun ds M f => arg1 ds fun d => seqK d M (fun xs => intsK xs fun is => sumI is fun z => f (.int z) M) (fun xs => intsK xs fun is => sumI is fun z => f (.int z) M)
theorem sum_ok : OpC T r (.builtin "sum") gSum := by
  intro X Wx hX W ds vs M k Q m rs h hQ
  obtain ⟨d, rfl, h1⟩ := arg1_t h
  obtain ⟨v, rfl, rv⟩ := rs.one
  obtain ⟨a, xs, ds, rfl, rq, ⟨hs, h2⟩ | ⟨hs, h2⟩⟩ := seqK_t hX m rv h1
  · obtain ⟨is, rfl, h3⟩ := intsK_t h2
    rw [sumI_eq] at h3
    cases rq.ints
    exact CaS_of (ZP.cr_sumT hX.calm) ⟨a, is, rfl, hs, hQ.here m (.int _) h3⟩
  · obtain ⟨is, rfl, h3⟩ := intsK_t h2
    rw [sumI_eq] at h3
    cases rq.ints
    exact CaS_of (cr_sum hX.calm) ⟨a, is, rfl, hs, hQ.here m (.int _) h3⟩
/-- truths of none, bools, ints -/
def trK (ds : List D) (k : List Bool → Bool) : Bool := (List.rec (fun k => k []) (fun d _ ih k => D.casesOn d false (ih fun r => k (false :: r)) (fun b => ih fun r => k (b :: r)) (fun i => frB (Bool.rec true false (ieq i (.ofNat 0))) fun b => ih fun r => k (b :: r)) (fun _ => false) (fun _ => false) (fun _ _ => false) (fun _ => false) (fun _ => false) (fun _ => false) (fun _ => false) (fun _ => false)) ds : (List Bool → Bool) → Bool) k
theorem trK_t {W : Wd} : ∀ {ds : List D} {vs : List V} {k : List Bool → Bool}, VRs T W ds vs → trK ds k = true → ∃ bs, ZP.trs vs = some bs ∧ k bs = true
  | [], _, k, r, h => by cases r; exact ⟨[], rfl, h⟩
  | d :: ds, vs, k, r, h => by
    cases r with
    | cons r t =>
      have go : ∀ {b : Bool} {v : V}, ZP.tr1 v = some b → trK ds (fun q => k (b :: q)) = true → ∃ bs, ZP.trs (v :: _) = some bs ∧ k bs = true := fun {b v} e z => by
        obtain ⟨bs, e2, z2⟩ := trK_t t z
        exact ⟨b :: bs, by unfold ZP.trs; rw [e, e2], z2⟩
      cases d <;> first | (cases h; done) | skip
      · cases r; exact go rfl h
      · cases r; exact go rfl h
      · cases r
        rename_i i
        have h' : frB (Bool.rec true false (ieq i (.ofNat 0))) (fun b => trK ds fun q => k (b :: q)) = true := h
        rw [frB_eq, ieq_eq] at h'
        refine go (b := i != 0) rfl ?_
        have e : (Bool.rec true false (decide (i = Int.ofNat 0)) : Bool) = (i != 0) := by
          by_cases z : i = 0
          · subst z; rfl
          · rw [decide_eq_false (show ¬ i = Int.ofNat 0 from z)]; simp [z]
        rw [← e]
        exact h'
def orB (bs : List Bool) (k : Bool → Bool) : Bool := List.rec (k false) (fun b _ ih => Bool.rec ih (k true) b) bs
def andB (bs : List Bool) (k : Bool → Bool) : Bool := List.rec (k true) (fun b _ ih => Bool.rec (k false) ih b) bs
theorem orB_eq (bs : List Bool) (k) : orB bs k = k (bs.any id) := by
  induction bs with
  | nil => rfl
  | cons b r ih => cases b with
    | true => rfl
    | false => exact ih
theorem andB_eq (bs : List Bool) (k) : andB bs k = k (bs.all id) := by
  induction bs with
  | nil => rfl
  | cons b r ih => cases b with
    | false => rfl
    | true => exact ih
def gAny : GC := fun ds M f => arg1 ds fun d => seqK d M (fun xs => trK xs fun is => orB is fun z => f (.bl z) M) (fun xs => trK xs fun is => orB is fun z => f (.bl z) M)
def gAll : GC := fun ds M f => arg1 ds fun d => seqK d M (fun xs => trK xs fun is => andB is fun z => f (.bl z) M) (fun xs => trK xs fun is => andB is fun z => f (.bl z) M)
theorem any_ok : OpC T r (.builtin "any") gAny := by
  intro X Wx hX W ds vs M k Q m rs h hQ
  obtain ⟨d, rfl, h1⟩ := arg1_t h
  obtain ⟨v, rfl, rv⟩ := rs.one
  obtain ⟨a, xs, ds, rfl, rq, ⟨hs, h2⟩ | ⟨hs, h2⟩⟩ := seqK_t hX m rv h1
  all_goals
    obtain ⟨bs, e, h3⟩ := trK_t rq h2
    rw [orB_eq] at h3
  · exact CaS_of (ZP.cr_any' hX.calm) ⟨a, xs, bs, rfl, .inr hs, e, hQ.here m (.bl _) h3⟩
  · exact CaS_of (ZP.cr_any' hX.calm) ⟨a, xs, bs, rfl, .inl hs, e, hQ.here m (.bl _) h3⟩
theorem all_ok : OpC T r (.builtin "all") gAll := by
  intro X Wx hX W ds vs M k Q m rs h hQ
  obtain ⟨d, rfl, h1⟩ := arg1_t h
  obtain ⟨v, rfl, rv⟩ := rs.one
  obtain ⟨a, xs, ds, rfl, rq, ⟨hs, h2⟩ | ⟨hs, h2⟩⟩ := seqK_t hX m rv h1
  all_goals
    obtain ⟨bs, e, h3⟩ := trK_t rq h2
    rw [andB_eq] at h3
  · exact CaS_of (ZP.cr_all' hX.calm) ⟨a, xs, bs, rfl, .inr hs, e, hQ.here m (.bl _) h3⟩
  · exact CaS_of (ZP.cr_all' hX.calm) ⟨a, xs, bs, rfl, .inl hs, e, hQ.here m (.bl _) h3⟩
def absN (i : Int) : Nat := Int.rec (fun n => n) (fun n => Nat.succ n) i
theorem absN_eq (i : Int) : absN i = i.natAbs := by cases i <;> rfl
def gAbs : GC := fun ds M f => arg1 ds fun d => isInt d fun i => frN (absN i) fun n => f (.int (.ofNat n)) M
theorem abs_ok : OpC T r (.builtin "abs") gAbs := by
  intro X Wx hX W ds vs M k Q m rs h hQ
  obtain ⟨d, rfl, h1⟩ := arg1_t h
  obtain ⟨v, rfl, rv⟩ := rs.one
  obtain ⟨i, rfl, h2⟩ := isInt_t h1
  rw [frN_eq, absN_eq] at h2
  cases rv
  refine CaS_of call_abs ⟨i, rfl, ?_⟩
  have e : (if i < 0 then -i else i) = Int.ofNat i.natAbs := by
    rw [Int.ofNat_eq_natCast]; split <;> omega
  rw [e]
  exact hQ.here m (.int _) h2
def gGcd : GC := fun ds M f => arg2 ds fun d e => isInt d fun i => isInt e fun j => frN (Nat.gcd (absN i) (absN j)) fun n => f (.int (.ofNat n)) M
theorem gcd_ok : OpC T r (.builtin "math.gcd") gGcd := by
  intro X Wx hX W ds vs M k Q m rs h hQ
  obtain ⟨d, e, rfl, h1⟩ := arg2_t h
  obtain ⟨v, u, rfl, rv, ru⟩ := rs.two
  obtain ⟨i, rfl, h2⟩ := isInt_t h1
  obtain ⟨j, rfl, h3⟩ := isInt_t h2
  rw [frN_eq, absN_eq, absN_eq] at h3
  cases rv
  cases ru
  exact CaS_of cr_gcd ⟨i, j, rfl, hQ.here m (.int _) h3⟩
/-- the greatest, the least -/
def maxJ (r : List Int) : Int → (Int → Bool) → Bool := List.rec (fun a k => k a) (fun i _ ih a k => Bool.rec (ih a k) (ih i k) (ilt a i)) r
def maxI (is : List Int) (k : Int → Bool) : Bool := List.rec false (fun i r _ => maxJ r i k) is
def minJ (r : List Int) : Int → (Int → Bool) → Bool := List.rec (fun a k => k a) (fun i _ ih a k => Bool.rec (ih a k) (ih i k) (ilt i a)) r
def minI (is : List Int) (k : Int → Bool) : Bool := List.rec false (fun i r _ => minJ r i k) is
theorem maxI_aux (r : List Int) (a : Int) (k : Int → Bool) (h : maxJ r a k = true) : ∃ m, k m = true ∧ (m = a ∨ m ∈ r) ∧ a ≤ m ∧ ∀ y ∈ r, y ≤ m := by
  induction r generalizing a with
  | nil => exact ⟨a, h, .inl rfl, Int.le_refl _, fun _ z => nomatch z⟩
  | cons i r ih =>
    have h : (Bool.rec (maxJ r a k) (maxJ r i k) (ilt a i) : Bool) = true := h
    cases q : ilt a i with
    | false =>
      rw [q] at h
      rw [ilt_eq, decide_eq_false_iff_not] at q
      obtain ⟨m, h1, h2, h3, h4⟩ := ih a h
      refine ⟨m, h1, h2.imp id (List.mem_cons_of_mem _), h3, fun y hy => ?_⟩
      rcases List.mem_cons.mp hy with rfl | hy
      · omega
      · exact h4 y hy
    | true =>
      rw [q] at h
      rw [ilt_eq, decide_eq_true_iff] at q
      obtain ⟨m, h1, h2, h3, h4⟩ := ih i h
      refine ⟨m, h1, .inr (h2.elim (fun e => by rw [e]; exact List.mem_cons_self) (List.mem_cons_of_mem _)), by omega, fun y hy => ?_⟩
      rcases List.mem_cons.mp hy with rfl | hy
      · exact h3
      · exact h4 y hy
theorem minI_aux (r : List Int) (a : Int) (k : Int → Bool) (h : minJ r a k = true) : ∃ m, k m = true ∧ (m = a ∨ m ∈ r) ∧ m ≤ a ∧ ∀ y ∈ r, m ≤ y := by
  induction r generalizing a with
  | nil => exact ⟨a, h, .inl rfl, Int.le_refl _, fun _ z => nomatch z⟩
  | cons i r ih =>
    have h : (Bool.rec (minJ r a k) (minJ r i k) (ilt i a) : Bool) = true := h
    cases q : ilt i a with
    | false =>
      rw [q] at h
      rw [ilt_eq, decide_eq_false_iff_not] at q
      obtain ⟨m, h1, h2, h3, h4⟩ := ih a h
      refine ⟨m, h1, h2.imp id (List.mem_cons_of_mem _), h3, fun y hy => ?_⟩
      rcases List.mem_cons.mp hy with rfl | hy
      · omega
      · exact h4 y hy
    | true =>
      rw [q] at h
      rw [ilt_eq, decide_eq_true_iff] at q
      obtain ⟨m, h1, h2, h3, h4⟩ := ih i h
      refine ⟨m, h1, .inr (h2.elim (fun e => by rw [e]; exact List.mem_cons_self) (List.mem_cons_of_mem _)), by omega, fun y hy => ?_⟩
      rcases List.mem_cons.mp hy with rfl | hy
      · exact h3
      · exact h4 y hy
theorem maxI_t {is : List Int} {k : Int → Bool} (h : maxI is k = true) : ∃ m, k m = true ∧ m ∈ is ∧ ∀ y ∈ is, y ≤ m := by
  cases is with
  | nil => cases h
  | cons i r =>
    obtain ⟨m, h1, h2, h3, h4⟩ := maxI_aux r i k h
    refine ⟨m, h1, h2.elim (fun e => by rw [e]; exact List.mem_cons_self) (List.mem_cons_of_mem _), fun y hy => ?_⟩
    rcases List.mem_cons.mp hy with rfl | hy
    · exact h3
    · exact h4 y hy
theorem minI_t {is : List Int} {k : Int → Bool} (h : minI is k = true) : ∃ m, k m = true ∧ m ∈ is ∧ ∀ y ∈ is, m ≤ y := by
  cases is with
  | nil => cases h
  | cons i r =>
    obtain ⟨m, h1, h2, h3, h4⟩ := minI_aux r i k h
    refine ⟨m, h1, h2.elim (fun e => by rw [e]; exact List.mem_cons_self) (List.mem_cons_of_mem _), fun y hy => ?_⟩
    rcases List.mem_cons.mp hy with rfl | hy
    · exact h3
    · exact h4 y hy
def gMax : GC := fun ds M f => arg1 ds fun d => seqK d M (fun _ => false) (fun xs => intsK xs fun is => maxI is fun z => f (.int z) M)
def gMin : GC := fun ds M f => arg1 ds fun d => seqK d M (fun _ => false) (fun xs => intsK xs fun is => minI is fun z => f (.int z) M)
theorem max_ok : OpC T r (.builtin "max") gMax := by
  intro X Wx hX W ds vs M k Q m rs h hQ
  obtain ⟨d, rfl, h1⟩ := arg1_t h
  obtain ⟨v, rfl, rv⟩ := rs.one
  obtain ⟨a, xs, ds, rfl, rq, ⟨hs, h2⟩ | ⟨hs, h2⟩⟩ := seqK_t hX m rv h1
  · cases h2
  · obtain ⟨is, rfl, h3⟩ := intsK_t h2
    cases rq.ints
    obtain ⟨z, h4, h5, h6⟩ := maxI_t h3
    refine CaS_of (cr_max hX.calm) ⟨a, is, rfl, hs, List.length_pos_of_mem h5, fun y hy hy2 => ?_⟩
    have : y = z := Int.le_antisymm (h6 y hy) (hy2 z h5)
    subst this
    exact hQ.here m (.int _) h4
theorem min_ok : OpC T r (.builtin "min") gMin := by
  intro X Wx hX W ds vs M k Q m rs h hQ
  obtain ⟨d, rfl, h1⟩ := arg1_t h
  obtain ⟨v, rfl, rv⟩ := rs.one
  obtain ⟨a, xs, ds, rfl, rq, ⟨hs, h2⟩ | ⟨hs, h2⟩⟩ := seqK_t hX m rv h1
  · cases h2
  · obtain ⟨is, rfl, h3⟩ := intsK_t h2
    cases rq.ints
    obtain ⟨z, h4, h5, h6⟩ := minI_t h3
    refine CaS_of (cr_min hX.calm) ⟨a, is, rfl, hs, List.length_pos_of_mem h5, fun y hy hy2 => ?_⟩
    have : y = z := Int.le_antisymm (hy2 z h5) (h6 y hy)
    subst this
    exact hQ.here m (.int _) h4
end
end Z
end
set_option Elab.async false
set_option autoImplicit false
set_option linter.all false
set_option maxRecDepth 100000
set_option maxHeartbeats 1000000
/-! Z7: methods of built-in types, stores, statements. -/
noncomputable section
namespace Z
open PySem PySem.Spec PyProof.Rows L2

/-! ### writing -/
section
variable {T : Tb} {r : Nat} {X : Cx} {Wx : WX} {W : Wd}
theorem mr_lset {M : Sto} (m : MR T W M) {l : Nat} {ds' : List D} {xs xs' : List V} (hl : l < W.n) (e : W.H (W.ρ l) = some (.lst xs)) (rs : VRs T W ds' xs') :
    Le W ⟨W.n, W.ρ, upd W.H (W.ρ l) (.lst xs')⟩ ∧ MR T ⟨W.n, W.ρ, upd W.H (W.ρ l) (.lst xs')⟩ (M.set l (.lst ds')) := by
  have le : Le W ⟨W.n, W.ρ, upd W.H (W.ρ l) (.lst xs')⟩ := Le.write e (fun _ z => nomatch z) (fun _ _ z => nomatch z)
  exact ⟨le, m.write hl e (fun _ z => nomatch z) (fun _ _ z => nomatch z) ⟨.lst xs', upd_same, rs.mono le⟩⟩

/-- what stands at the keys, with v at key: in its place, or at the end -/
def putD (key v : D) (kvs : List (D × D)) : Bool → (List (D × D) → Bool) → Bool := List.rec (fun found k => Bool.rec (k [(key, v)]) (k []) found) (fun p _ ih found k => Prod.casesOn p fun a b => Bool.rec (ih found fun r' => k ((a, b) :: r')) (ih true fun r' => k ((a, v) :: r')) (eqD a key)) kvs
def putF {κ : Type} [DecidableEq κ] (k : κ) (v : V) : Bool → List (κ × V) → List (κ × V)
  | found, [] => if found then [] else [(k, v)]
  | found, p :: r => if p.1 = k then (p.1, v) :: putF k v true r else p :: putF k v found r
theorem putF_eq {κ : Type} [DecidableEq κ] (k : κ) (v : V) : ∀ (found : Bool) (kvs : List (κ × V)), putF k v found kvs = kvs.map (fun kv => if kv.1 = k then (kv.1, v) else kv) ++ (if (found || kvs.any fun kv => decide (kv.1 = k)) = true then [] else [(k, v)])
  | found, [] => by cases found <;> rfl
  | found, p :: r => by
    unfold putF
    by_cases e : p.1 = k
    · rw [if_pos e, List.map_cons, if_pos e, putF_eq k v true r, List.any_cons, decide_eq_true e]
      simp
    · rw [if_neg e, List.map_cons, if_neg e, putF_eq k v found r, List.any_cons, decide_eq_false e, Bool.false_or, List.cons_append]
theorem putK_eq {κ : Type} [DecidableEq κ] (k : κ) (v : V) (kvs : List (κ × V)) : putK kvs k v = putF k v false kvs := by
  rw [putF_eq]
  unfold putK
  by_cases h : (kvs.any fun kv => decide (kv.1 = k)) = true
  · rw [if_pos h, h, Bool.false_or, if_pos rfl, List.append_nil]
  · have h' : (kvs.any fun kv => decide (kv.1 = k)) = false := by cases q : (kvs.any fun kv => decide (kv.1 = k)) <;> first | rfl | exact absurd q h
    rw [if_neg h, h', Bool.false_or, if_neg Bool.false_ne_true]
    congr 1
    have : ∀ q ∈ kvs, (if q.1 = k then (q.1, v) else q) = q := fun q hq => if_neg fun z => h (List.any_eq_true.mpr ⟨q, hq, decide_eq_true z⟩)
    rw [List.map_congr_left this, List.map_id']
theorem putD_k {key vd : D} {y : Key} {v : V} (hk : keyD key = some y) (rv : VR T W vd v) : ∀ {kvs : List (D × D)} {ks : List (Key × V)} (found : Bool) {k : List (D × D) → Bool}, KR T W kvs ks → putD key vd kvs found k = true →
    ∃ kvs', KR T W kvs' (putF y v found ks) ∧ k kvs' = true
  | [], _, found, k, h, z => by
    cases h
    cases found with
    | true => exact ⟨[], .nil, z⟩
    | false => exact ⟨_, .cons ⟨hk, rv⟩ .nil, z⟩
  | (a, b) :: r, _, found, k, h, z => by
    cases h with
    | @cons p q ps qs hpq t =>
      obtain ⟨h1, h2⟩ := hpq
      have z' : (Bool.rec (putD key vd r found fun r' => k ((a, b) :: r')) (putD key vd r true fun r' => k ((a, vd) :: r')) (eqD a key) : Bool) = true := z
      rw [keyD_eq h1 hk] at z'
      unfold putF
      by_cases e : q.1 = y
      · rw [decide_eq_true e] at z'
        rw [if_pos e]
        obtain ⟨kvs', q1, q2⟩ := putD_k hk rv true t z'
        exact ⟨(a, vd) :: kvs', .cons ⟨h1, rv⟩ q1, q2⟩
      · rw [decide_eq_false e] at z'
        rw [if_neg e]
        obtain ⟨kvs', q1, q2⟩ := putD_k hk rv found t z'
        exact ⟨_, .cons ⟨h1, h2⟩ q1, q2⟩
theorem putD_t {key vd : D} {y : List Key} {v : V} (hk : keyT key = some y) (rv : VR T W vd v) : ∀ {kvs : List (D × D)} {ks : List (List Key × V)} (found : Bool) {k : List (D × D) → Bool}, TR T W kvs ks → putD key vd kvs found k = true →
    ∃ kvs', TR T W kvs' (putF y v found ks) ∧ k kvs' = true
  | [], _, found, k, h, z => by
    cases h
    cases found with
    | true => exact ⟨[], .nil, z⟩
    | false => exact ⟨_, .cons ⟨hk, rv⟩ .nil, z⟩
  | (a, b) :: r, _, found, k, h, z => by
    cases h with
    | @cons p q ps qs hpq t =>
      obtain ⟨h1, h2⟩ := hpq
      have z' : (Bool.rec (putD key vd r found fun r' => k ((a, b) :: r')) (putD key vd r true fun r' => k ((a, vd) :: r')) (eqD a key) : Bool) = true := z
      rw [keyT_eq h1 hk] at z'
      unfold putF
      by_cases e : q.1 = y
      · rw [decide_eq_true e] at z'
        rw [if_pos e]
        obtain ⟨kvs', q1, q2⟩ := putD_t hk rv true t z'
        exact ⟨(a, vd) :: kvs', .cons ⟨h1, rv⟩ q1, q2⟩
      · rw [decide_eq_false e] at z'
        rw [if_neg e]
        obtain ⟨kvs', q1, q2⟩ := putD_t hk rv found t z'
        exact ⟨_, .cons ⟨h1, h2⟩ q1, q2⟩
/-- an empty dict is of both kinds -/
theorem retype {pins : List (Addr × Obj)} {σ : L2.St} {H : Hp} {s : Shared} {a : Addr} (I : Inv X pins σ H s) (e : H a = some (.dK [])) : Inv X pins σ (upd H a (.dT [])) s := by
  obtain ⟨z, hd, vs, rel, o, es, ep, h1, h2, h3, h4, h5, h6⟩ := dk_of I.hok e
  cases rel
  have he : es.toList = [] := by
    generalize es.toList = l at h5
    cases h5
    rfl
  exact I.write (x := a) (e := a) (t' := s.toks) (by rw [e]; trivial) (.inl rfl) (fun b u hb q => q) ⟨_, h1⟩ ⟨Nat.zero_le _, hd, [], .nil, o, es, ep, h1, h2, h3, he, List.nodup_nil⟩

/-! ### o[i] = v -/
def SetS (X : Cx) : TSet := fun o i v H Q => ∀ (pins : List (Addr × Obj)) (s : Shared) (σ : L2.St) (ov iv u : Value), Inv X pins σ H s → RelV o ov → RelV i iv → RelV v u →
  wpAny (model X.prog X.w) X.A (setItem ov iv u) (fun _ s' => ∃ H', Inv X pins σ H' s' ∧ Q H') X.xe s
theorem pset_S : PSet X (SetS X) := fun pins s σ H o i v ov iv u Q I ro ri rv h => h pins s σ ov iv u I ro ri rv
def setIxK (ds : List D) (i : Int) (v : D) (k : List D → Bool) : Bool := Int.rec (fun n => setK ds n v k) (fun n => lenK ds fun m => chk (Nat.blt n m) (frN (Nat.sub m (Nat.succ n)) fun j => setK ds j v k)) i
theorem setIxK_t {ds : List D} {i : Int} {v : D} {k} (h : setIxK ds i v k = true) : ∃ j, ixN ds.length i = some j ∧ k (ds.set j v) = true := by
  cases i with
  | ofNat n =>
    obtain ⟨h1, h2⟩ := setK_t (show setK ds n v k = true from h)
    refine ⟨n, ?_, h2⟩
    unfold ixN
    simp [h1]
  | negSucc n =>
    have h' : (lenK ds fun m => chk (Nat.blt n m) (frN (Nat.sub m (Nat.succ n)) fun j => setK ds j v k)) = true := h
    rw [lenK_eq] at h'
    obtain ⟨h1, h2⟩ := chk_t h'
    have h1 := Nat.blt_eq.mp h1
    rw [frN_eq] at h2
    obtain ⟨h3, h4⟩ := setK_t h2
    refine ⟨_, ?_, h4⟩
    unfold ixN
    rw [Int.negSucc_eq, if_neg (by omega), if_pos (by omega)]
    congr 1
    show (-((n : Int) + 1) + (ds.length : Int)).toNat = ds.length - (n + 1)
    omega
def gSet (o i v : D) (M : Sto) (k : Sto → Bool) : Bool := isLoc o fun l => getC M l fun c => Cell.casesOn c
  (fun ds => isInt i fun z => setIxK ds z v fun ds' => setC M l (.lst ds') k)
  (fun t kvs => Bool.rec (Bool.rec (chk (isKeyTB i) (chk (emptyB kvs) (setC M l (.dct true [(i, v)]) k))) (shortL kvs (putD i v kvs false fun kvs' => setC M l (.dct false kvs') k)) (isKeyB i))
    (chk (isKeyTB i) (shortL kvs (putD i v kvs false fun kvs' => setC M l (.dct true kvs') k))) t)
  (fun _ _ => false) (fun _ => false)
theorem shortL_lt {α : Type} {l : List α} {b : Bool} (h : shortL l b = true) : l.length < sizeLine ∧ b = true := by
  unfold shortL at h
  rw [lenK_eq] at h
  obtain ⟨h1, h2⟩ := chk_t h
  have := Nat.le_of_ble_eq_true h1
  refine ⟨?_, h2⟩
  rw [show (sizeLine : Nat) = 16777216 from sizeLine_eq]
  omega
theorem set_ok (hX : XOk T r X Wx) {o i v : D} {x y z : V} {M : Sto} {k : Sto → Bool} {Q : Hp → Prop} (m : MR T W M) (ro : VR T W o x) (ri : VR T W i y) (rv : VR T W v z) (h : gSet o i v M k = true)
    (hQ : ∀ W' M', Le W W' → MR T W' M' → k M' = true → Q W'.H) : SetS X x y z W.H Q := by
  obtain ⟨l, rfl, h1⟩ := isLoc_t h
  obtain ⟨c, hl, e, h2⟩ := getC_t h1
  obtain ⟨hl', rfl⟩ := ro.loc_at
  have q := m.cell l c hl' e
  cases c with
  | lst ds =>
    obtain ⟨j, rfl, h3⟩ := isInt_t h2
    obtain ⟨j', hj, h4⟩ := setIxK_t h3
    obtain ⟨xs, hx, rx⟩ := m.lst hl' e
    cases ri
    obtain ⟨le, m'⟩ := mr_lset (ds' := ds.set j' v) m hl' hx (rx.set rv j')
    intro pins s σ ov iv u I r1 r2 r3
    exact set_list pins s σ W.H _ _ _ ov iv u Q I r1 r2 r3 ⟨_, xs, j, j', rfl, rfl, hx, by rw [← rx.length]; exact hj, hQ _ _ le m' (setC_t h4)⟩
  | dct t kvs =>
    obtain ⟨u0, hu, q⟩ := q
    cases t with
    | false =>
      cases u0 <;> first | exact False.elim q | skip
      rename_i ks
      have q : KR T W kvs ks := q
      have h3 : (Bool.rec (chk (isKeyTB i) (chk (emptyB kvs) (setC M l (.dct true [(i, v)]) k))) (shortL kvs (putD i v kvs false fun kvs' => setC M l (.dct false kvs') k)) (isKeyB i) : Bool) = true := h2
      cases hk : isKeyB i with
      | true =>
        rw [hk] at h3
        obtain ⟨w, hw⟩ := isKeyB_t hk
        obtain ⟨hs, h4⟩ := shortL_lt h3
        obtain ⟨kvs', q1, q2⟩ := putD_k hw rv false q h4
        rw [← putK_eq] at q1
        have le : Le W ⟨W.n, W.ρ, upd W.H (W.ρ l) (.dK (putK ks w z))⟩ := Le.write hu (fun _ z => nomatch z) (fun _ _ z => nomatch z)
        have m' : MR T ⟨W.n, W.ρ, upd W.H (W.ρ l) (.dK (putK ks w z))⟩ (M.set l (.dct false kvs')) := m.write hl' hu (fun _ z => nomatch z) (fun _ _ z => nomatch z) ⟨_, upd_same, KR.mono le q1⟩
        intro pins s σ ov iv u I r1 r2 r3
        cases r1
        exact d_setItem hX.u1 I (.inl ⟨ks, w, hu, ri.key hw, by rw [← KR.length q]; exact hs, rfl⟩) r2 r3 fun s' I' => ⟨_, I', hQ _ _ le m' (setC_t q2)⟩
      | false =>
        rw [hk] at h3
        obtain ⟨h4, h5⟩ := chk_t h3
        obtain ⟨h6, h7⟩ := chk_t h5
        have := emptyB_t h6
        subst this
        cases q
        obtain ⟨w, hw⟩ := isKeyTB_t h4
        obtain ⟨b, rfl, hb⟩ := ri.keyT hw
        have hne : W.ρ l ≠ b := ne_of hu hb (fun z => nomatch z)
        have le : Le W ⟨W.n, W.ρ, upd W.H (W.ρ l) (.dT [(w, z)])⟩ := Le.write hu (fun _ z => nomatch z) (fun _ _ z => nomatch z)
        have m' : MR T ⟨W.n, W.ρ, upd W.H (W.ρ l) (.dT [(w, z)])⟩ (M.set l (.dct true [(i, v)])) := m.write hl' hu (fun _ z => nomatch z) (fun _ _ z => nomatch z) ⟨_, upd_same, .cons ⟨hw, rv.mono le⟩ .nil⟩
        intro pins s σ ov iv u I r1 r2 r3
        cases r1
        have I1 := retype I hu
        refine d_setItem (H' := upd W.H (W.ρ l) (.dT [(w, z)])) hX.u1 I1 (.inr ⟨[], w, b, upd_same, rfl, by rw [upd_ne hne.symm]; exact hb, ?_, by rw [upd_upd]; rfl⟩) r2 r3 fun s' I' => ⟨_, I', hQ _ _ le m' (setC_t h7)⟩
        show 0 < sizeLine
        rw [sizeLine_eq]; omega
    | true =>
      cases u0 <;> first | exact False.elim q | skip
      rename_i ks
      have q : TR T W kvs ks := q
      obtain ⟨h4, h5⟩ := chk_t h2
      obtain ⟨w, hw⟩ := isKeyTB_t h4
      obtain ⟨hs, h6⟩ := shortL_lt h5
      obtain ⟨kvs', q1, q2⟩ := putD_t hw rv false q h6
      rw [← putK_eq] at q1
      obtain ⟨b, rfl, hb⟩ := ri.keyT hw
      have le : Le W ⟨W.n, W.ρ, upd W.H (W.ρ l) (.dT (putK ks w z))⟩ := Le.write hu (fun _ z => nomatch z) (fun _ _ z => nomatch z)
      have m' : MR T ⟨W.n, W.ρ, upd W.H (W.ρ l) (.dT (putK ks w z))⟩ (M.set l (.dct true kvs')) := m.write hl' hu (fun _ z => nomatch z) (fun _ _ z => nomatch z) ⟨_, upd_same, TR.mono le q1⟩
      intro pins s σ ov iv u I r1 r2 r3
      cases r1
      exact d_setItem hX.u1 I (.inr ⟨ks, w, b, hu, rfl, hb, by rw [← Paired.length q]; exact hs, rfl⟩) r2 r3 fun s' I' => ⟨_, I', hQ _ _ le m' (setC_t q2)⟩
  | ins _ _ => cases h2
  | lk _ => cases h2
end

/-! ### methods -/
def MeS (X : Cx) (id : String) : V → List V → Hp → VK → Prop := fun x xs H Q => ∀ (pins : List (Addr × Obj)) (s : Shared) (σ : L2.St) (v : Value) (us : List Value), Inv X pins σ H s → RelV x v → Vals xs us →
  wpAny (model X.prog X.w) X.A (call (.builtin id) (v :: us)) (EP X pins σ Q) X.xe s
theorem mtr_S {X : Cx} {id : String} : MtR X id (MeS X id) := fun pins s σ H x xs v us Q I rx r h => h pins s σ v us I rx r
theorem MeS_of {X : Cx} {id : String} {q : V → List V → Hp → VK → Prop} (h : MtR X id q) {x : V} {xs : List V} {H : Hp} {Q : VK} (z : q x xs H Q) : MeS X id x xs H Q := fun pins s σ v us I rx r => h pins s σ H x xs v us Q I rx r z
abbrev GM := D → List D → Sto → K1 → Bool
def OpM (T : Tb) (r : Nat) (id : String) (g : GM) : Prop :=
  ∀ (X : Cx) (Wx : WX), XOk T r X Wx → ∀ (W : Wd) (d : D) (v : V) (ds : List D) (vs : List V) (M : Sto) (k : K1) (Q : VK), MR T W M → VR T W d v → VRs T W ds vs → g d ds M k = true → PV T W k Q → MeS X id v vs W.H Q
abbrev GT := D → Sto → Bool
def OpT (T : Tb) (r : Nat) (ty : String) (g : GT) : Prop :=
  ∀ (X : Cx) (Wx : WX), XOk T r X Wx → ∀ (W : Wd) (d : D) (v : V) (M : Sto), MR T W M → VR T W d v → g d M = true → tyV X.K ty v W.H
def isLstT : GT := fun d M => D.casesOn d false false (fun _ => false) (fun _ => false) (fun _ => false) (fun _ => false) (fun _ _ => false) (fun l => lstC M l fun _ => true) (fun _ => false) (fun _ => false) (fun _ => false) (fun _ => true)
def isDctT : GT := fun d M => isLoc d fun l => getC M l fun c => Cell.casesOn c (fun _ => false) (fun _ _ => true) (fun _ _ => false) (fun _ => false)
def isStrT : GT := fun d _ => isStr d fun _ => true
section
variable {T : Tb} {r : Nat}
theorem isLstT_ok : OpT T r "list" isLstT := by
  intro X Wx hX W d v M m rv h
  cases d with
  | loc l =>
    obtain ⟨ds, xs, hs, rq, _, _, _⟩ := m.lstC h
    obtain ⟨_, rfl⟩ := rv.loc_at
    exact .inl ⟨rfl, xs, SqL.of hs⟩
  | lv ds =>
    obtain ⟨a, xs, rfl, hs, rq⟩ := rv.sqLv hX
    exact .inl ⟨rfl, xs, hs⟩
  | _ => cases h
theorem isDctT_ok : OpT T r "dict" isDctT := by
  intro X Wx hX W d v M m rv h
  obtain ⟨l, rfl, h1⟩ := isLoc_t h
  obtain ⟨c, hl, e, h2⟩ := getC_t h1
  obtain ⟨hl', rfl⟩ := rv.loc_at
  cases c with
  | dct t kvs =>
    obtain ⟨u, hu, q⟩ := m.cell l _ hl' e
    cases t <;> cases u <;> first | exact False.elim q | exact .inr (.inr (.inl ⟨rfl, .inl ⟨_, hu⟩⟩)) | exact .inr (.inr (.inl ⟨rfl, .inr ⟨_, hu⟩⟩))
  | _ => cases h2
theorem isStrT_ok : OpT T r "str" isStrT := by
  intro X Wx hX W d v M m rv h
  obtain ⟨l, rfl, h1⟩ := isStr_t h
  cases rv
  exact rfl
end
section
variable {S : St8} {ci : CI} {pos : Pos}
/-- o is no call of super() -/
def notCall : Expr → Bool
  | .Call .. => false
  | _ => true
theorem base_of {o : Expr} (h : notCall o = true) (attr : Str) (env : Env) (whole : Sem Value) : attributeBase o attr env whole = whole := by
  cases o <;> first | rfl | (simp [notCall] at h; done)
def cMeth (t : GT) (g : GM) (o : CE) (args : CA) : CE := fun ev σ M k kx => o ev σ M (fun x M => chk (t x M) (args ev σ M (fun xs M => g x xs M k) kx)) kx
theorem few_ok {es : List Expr} (h : notStars es = true) (hl : es.length < 30) (env : Env) (cpos : Pos) : ((backTo cpos (starEach es env)).all (fun x => !x.1) && (backToKw cpos (keywordEach [] env)).all (fun x => x.1.isSome)
      && decide (es.length + ([] : List Keyword).length + (if ([] : List Keyword).isEmpty then 0 else 1) < 30)) = true := by
  have h1 : (backTo cpos (starEach es env)).all (fun x => !x.1) = true := by
    have := star_plain h env cpos
    rw [List.all_eq_true]
    intro x hx
    cases q : x.1 with
    | false => rfl
    | true =>
      have : (backTo cpos (starEach es env)).any (·.1) = true := List.any_eq_true.mpr ⟨x, hx, q⟩
      rw [star_plain h env cpos] at this
      cases this
  rw [h1]
  simpa [backToKw, keywordEach] using hl
theorem se_meth {ty id : String} {nm : Str} {t : GT} {g : GM} {o e : Expr} {es : List Expr} {co : CE} {ca : CA} {apos : Pos} (pa : PlainAttrs ty) (slot : Slot ty nm id) (hty : typeOf (.builtin id) = pure (.type "method_descriptor")) (ht : OpT S.T S.r ty t) (hg : OpM S.T S.r id g)
    (ho : SE S ci o co) (ha : SA S ci (e :: es) ca) (hb : notCall o = true) (hst : notStars (e :: es) = true) (hl : (e :: es).length < 30) (hline : (apos.endLine == pos.line) = true) : SE S ci (.Call (.Attribute o nm apos) (e :: es) [] pos) (cMeth t g co ca) := by
  intro X Wx hX hC W σd σ M k kx Q s m h hQ hx
  have hst' : (notStar e && notStars es) = true := hst
  rw [Bool.and_eq_true] at hst'
  refine tofE (pe_bm pa slot hty mtr_S pe_tof pa_tof (base_of hb _ _ _) (few_ok hst hl _ _) hline (star_cons hst'.1 X.env) (star_plain hst'.2 X.env pos)) (ho X Wx hX hC W σd σ M _ kx _ s m h (fun W1 x v M1 l1 m1 r1 h1 => ?_) hx)
  obtain ⟨h2, h3⟩ := chk_t h1
  refine ⟨ht X Wx hX W1 x v M1 m1 r1 h2, ha X Wx hX hC W1 σd σ M1 _ kx _ (s.mono l1) m1 h3 (fun W2 ds vs M2 l2 m2 r2 h4 => ?_) (hx.mono l1)⟩
  exact hg X Wx hX W2 x v ds vs M2 k Q m2 (r1.mono l2) r2 h4 (hQ.mono (l1.trans l2))
theorem se_meth0 {ty id : String} {nm : Str} {t : GT} {g : GM} {o : Expr} {co : CE} {apos : Pos} (pa : PlainAttrs ty) (slot : Slot ty nm id) (hty : typeOf (.builtin id) = pure (.type "method_descriptor")) (ht : OpT S.T S.r ty t) (hg : OpM S.T S.r id g)
    (ho : SE S ci o co) (hb : notCall o = true) (hline : (apos.endLine == pos.line) = true) : SE S ci (.Call (.Attribute o nm apos) [] [] pos) (cMeth t g co cNil) := by
  intro X Wx hX hC W σd σ M k kx Q s m h hQ hx
  refine tofE (pe_bm0 pa slot hty mtr_S pe_tof (base_of hb _ _ _) hline) (ho X Wx hX hC W σd σ M _ kx _ s m h (fun W1 x v M1 l1 m1 r1 h1 => ?_) hx)
  obtain ⟨h2, h3⟩ := chk_t h1
  exact ⟨ht X Wx hX W1 x v M1 m1 r1 h2, hg X Wx hX W1 x v [] [] M1 k Q m1 r1 .nil h3 (hQ.mono l1)⟩
end
/-! the methods -/
section
variable {T : Tb} {r : Nat}
def gAppend : GM := fun d as M f => arg1 as fun a => isLoc d fun l => lstC M l fun xs => shortL xs (appK xs [a] fun ys => setC M l (.lst ys) fun M' => f .non M')
theorem append_ok : OpM T r "list.append" gAppend := by
  intro X Wx hX W d v ds vs M k Q m rd rs h hQ
  obtain ⟨a, rfl, h1⟩ := arg1_t h
  obtain ⟨l, rfl, h2⟩ := isLoc_t h1
  obtain ⟨ds, xs, hx, rx, hl, _, h3⟩ := m.lstC h2
  obtain ⟨hs, h4⟩ := shortL_lt h3
  rw [appK_eq] at h4
  obtain ⟨_, rfl⟩ := rd.loc_at
  obtain ⟨u, rfl, ru⟩ := rs.one
  obtain ⟨le, m'⟩ := mr_lset m hl hx (rx.append (.cons ru .nil))
  exact MeS_of mt_append ⟨_, xs, u, rfl, rfl, hx, by rw [← rx.length]; exact hs, hQ _ _ _ _ le m' .non (setC_t h4)⟩
def gExtend : GM := fun d as M f => arg1 as fun a => isLoc d fun l => isLoc a fun l2 => lstC M l fun xs => lstC M l2 fun zs => appK xs zs fun ys => shortL ys (setC M l (.lst ys) fun M' => f .non M')
theorem extend_ok : OpM T r "list.extend" gExtend := by
  intro X Wx hX W d v ds vs M k Q m rd rs h hQ
  obtain ⟨a, rfl, h1⟩ := arg1_t h
  obtain ⟨l, rfl, h2⟩ := isLoc_t h1
  obtain ⟨l2, rfl, h2⟩ := isLoc_t h2
  obtain ⟨ds, xs, hx, rx, hl, _, h3⟩ := m.lstC h2
  obtain ⟨es, zs, hz, rz, hl2, _, h3⟩ := m.lstC h3
  rw [appK_eq] at h3
  obtain ⟨hs, h4⟩ := shortL_t h3
  obtain ⟨_, rfl⟩ := rd.loc_at
  obtain ⟨u, rfl, ru⟩ := rs.one
  obtain ⟨_, rfl⟩ := ru.loc_at
  obtain ⟨le, m'⟩ := mr_lset m hl hx (rx.append rz)
  exact MeS_of mt_extend ⟨_, _, xs, zs, rfl, rfl, hx, hz, by rw [← rx.length, ← rz.length, ← List.length_append]; exact hs, hQ _ _ _ _ le m' .non (setC_t h4)⟩
def initK {α : Type} (l : List α) (k : List α → Bool) : Bool := lenK l fun n => takeK l (Nat.pred n) k
def gPop : GM := fun d as M f => List.casesOn as (isLoc d fun l => lstC M l fun xs => lastK xs fun y => initK xs fun ys => setC M l (.lst ys) fun M' => f y M') fun _ _ => false
theorem pop_ok : OpM T r "list.pop" gPop := by
  intro X Wx hX W d v ds vs M k Q m rd rs h hQ
  cases ds with
  | cons _ _ => cases h
  | nil =>
    cases rs
    obtain ⟨l, rfl, h2⟩ := isLoc_t h
    obtain ⟨ds, xs, hx, rx, hl, _, h3⟩ := m.lstC h2
    obtain ⟨y, hy, hne, h4⟩ := lastK_t h3
    have h5 : (lenK ds fun n => takeK ds (Nat.pred n) fun ys => setC M l (.lst ys) fun M' => k y M') = true := h4
    rw [lenK_eq, takeK_eq] at h5
    obtain ⟨_, rfl⟩ := rd.loc_at
    obtain ⟨u, hu, ru⟩ := rx.get hy
    have rt : VRs T W (ds.take ds.length.pred) xs.dropLast := by
      rw [List.dropLast_eq_take, ← rx.length]
      exact rx.take _
    obtain ⟨le, m'⟩ := mr_lset m hl hx rt
    exact MeS_of mt_pop ⟨_, xs, u, rfl, rfl, hx, by rw [← rx.length]; exact hu, hQ _ _ _ _ le m' (ru.mono le) (setC_t h5)⟩
def gGet0 : GM := fun d as M f => isLoc d fun l => List.casesOn as false fun a r => List.casesOn r (dgetK M l a (fun x => f x M) (f .non M)) fun b r2 => List.casesOn r2 (dgetK M l a (fun x => f x M) (f b M)) fun _ _ => false
theorem get0_ok : OpM T r "dict.get" gGet0 := by
  intro X Wx hX W d v ds vs M k Q m rd rs h hQ
  obtain ⟨l, rfl, h1⟩ := isLoc_t h
  obtain ⟨_, rfl⟩ := rd.loc_at
  cases rs with
  | nil => cases h1
  | cons r1 rs =>
    cases rs with
    | nil =>
      obtain ⟨_, h2⟩ := m.dget r1 h1
      intro pins s σ w us I rw rus
      cases rw
      obtain ⟨u, rfl, ru⟩ := Vals.one rus
      rcases h2 with ⟨e, z, g, rz, h3⟩ | ⟨g, h3⟩
      · exact d_get1 hX.u1 I g ru fun w' s' I' rw' => ⟨_, _, I', rw', hQ.here m rz h3⟩
      · exact d_get1 hX.u1 I g ru fun w' s' I' rw' => ⟨_, _, I', rw', hQ.here m .non h3⟩
    | cons r2 rs =>
      cases rs with
      | nil =>
        obtain ⟨_, h2⟩ := m.dget r1 h1
        intro pins s σ w us I rw rus
        cases rw
        obtain ⟨u, w2, rfl, ru, rw2⟩ := Vals.two rus
        rcases h2 with ⟨e, z, g, rz, h3⟩ | ⟨g, h3⟩
        · exact d_get2 hX.u1 I g ru rw2 fun w' s' I' rw' => ⟨_, _, I', rw', hQ.here m rz h3⟩
        · exact d_get2 hX.u1 I g ru rw2 fun w' s' I' rw' => ⟨_, _, I', rw', hQ.here m r2 h3⟩
      | cons _ _ => cases h1
/-- an empty dict that is asked for a tuple is one of tuples from now on -/
def fixT (M : Sto) (l : Nat) (a : D) (k : Sto → Bool) : Bool := getC M l fun c => Cell.casesOn c (fun _ => k M) (fun t kvs => Bool.rec (Bool.rec (k M) (Bool.rec (k M) (setC M l (.dct true []) k) (emptyB kvs)) (isKeyTB a)) (k M) t) (fun _ _ => k M) (fun _ => k M)
def gGet : GM := fun d as M f => isLoc d fun l => List.casesOn as false fun a _ => fixT M l a fun M' => gGet0 d as M' f
theorem get_ok : OpM T r "dict.get" gGet := by
  intro X Wx hX W d v ds vs M k Q m rd rs h hQ
  obtain ⟨l, rfl, h1⟩ := isLoc_t h
  cases ds with
  | nil => cases h1
  | cons a ds =>
    obtain ⟨c, hl, e, h2⟩ := getC_t h1
    have old : gGet0 (.loc l) (a :: ds) M k = true → MeS X "dict.get" v vs W.H Q := fun h => get0_ok X Wx hX W _ _ _ _ M k Q m rd rs h hQ
    cases c with
    | dct t kvs =>
      cases t with
      | true => exact old h2
      | false =>
        have h3 : (Bool.rec (gGet0 (.loc l) (a :: ds) M k) (Bool.rec (gGet0 (.loc l) (a :: ds) M k) (setC M l (.dct true []) fun M' => gGet0 (.loc l) (a :: ds) M' k) (emptyB kvs)) (isKeyTB a) : Bool) = true := h2
        cases ht : isKeyTB a with
        | false => rw [ht] at h3; exact old h3
        | true =>
          rw [ht] at h3
          cases he : emptyB kvs with
          | false => rw [he] at h3; exact old h3
          | true =>
            rw [he] at h3
            have := emptyB_t he
            subst this
            obtain ⟨hl', rfl⟩ := rd.loc_at
            obtain ⟨u0, hu, q⟩ := m.cell l _ hl' e
            cases u0 <;> first | exact False.elim q | skip
            cases q
            have le : Le W ⟨W.n, W.ρ, upd W.H (W.ρ l) (.dT [])⟩ := Le.write hu (fun _ z => nomatch z) (fun _ _ z => nomatch z)
            have m' : MR T ⟨W.n, W.ρ, upd W.H (W.ρ l) (.dT [])⟩ (M.set l (.dct true [])) := m.write hl' hu (fun _ z => nomatch z) (fun _ _ z => nomatch z) ⟨_, upd_same, .nil⟩
            have g := get0_ok X Wx hX _ _ _ _ _ _ k Q m' (rd.mono le) (rs.mono le) (setC_t h3) (hQ.mono le)
            intro pins s σ w us I rw rus
            exact g pins s σ w us (retype I hu) rw rus
    | lst _ => exact old h2
    | ins _ _ => exact old h2
    | lk _ => exact old h2
end
end Z
end
set_option Elab.async false
set_option autoImplicit false
set_option linter.all false
set_option maxRecDepth 100000
set_option maxHeartbeats 1000000
/-! Z8: targets, statements. -/
noncomputable section
namespace Z
open PySem PySem.Spec PyProof.Rows L2

/-! ### targets -/
/-- the slots outside vs stand -/
def Same (vs : List Nat) (σ σ' : L2.St) : Prop := σ'.length = σ.length ∧ ∀ i, i ∉ vs → σ'[i]? = σ[i]?
theorem Same.refl {vs : List Nat} {σ : L2.St} : Same vs σ σ := ⟨rfl, fun _ _ => rfl⟩
theorem Same.trans {vs : List Nat} {σ σ' σ'' : L2.St} (h : Same vs σ σ') (h' : Same vs σ' σ'') : Same vs σ σ'' := ⟨h'.1.trans h.1, fun i hi => (h'.2 i hi).trans (h.2 i hi)⟩
theorem Same.sub {vs ws : List Nat} {σ σ' : L2.St} (h : Same vs σ σ') (hs : ∀ i ∈ vs, i ∈ ws) : Same ws σ σ' := ⟨h.1, fun i hi => h.2 i fun z => hi (hs i z)⟩
theorem Same.set {i : Nat} {σ : L2.St} {v : Option V} : Same [i] σ (σ.set i v) := ⟨List.length_set, fun j hj => List.getElem?_set_ne fun e => hj (by rw [e]; exact List.mem_singleton.mpr rfl)⟩
def PG' (T : Tb) (W : Wd) (vs : List Nat) (σ : L2.St) (k : SEnv → Sto → Bool) (Q : L2.St → Hp → Prop) : Prop := ∀ W' σd' σ' M', Le W W' → MR T W' M' → SR T W' σd' σ' → Same vs σ σ' → k σd' M' = true → Q σ' W'.H
theorem PG'.mono {T : Tb} {W W1 : Wd} {vs : List Nat} {σ : L2.St} {k} {Q} (h : PG' T W vs σ k Q) (le : Le W W1) : PG' T W1 vs σ k Q := fun W' d v M' l => h W' d v M' (le.trans l)
theorem PSt.pg {T : Tb} {W : Wd} {vs : List Nat} {σ : L2.St} {k} {Q} (h : PSt T W k Q) : PG' T W vs σ k Q := fun W' σd' σ' M' l m s _ e => h W' σd' σ' M' l m s e
def TofG (X : Cx) (tg : Expr) : TG := fun v σ H Q => ∀ (pins : List (Addr × Obj)) (s : Shared) (u : Value), Inv X pins σ H s → RelV v u →
  wpAny (model X.prog X.w) X.A (assign tg X.env u) (fun _ s' => ∃ σ' H', Inv X pins σ' H' s' ∧ Q σ' H') X.xe s
def TofGs (X : Cx) (ts : List Expr) : TGs := fun vs σ H Q => ∀ (pins : List (Addr × Obj)) (s : Shared) (us : List Value), Inv X pins σ H s → Vals vs us →
  wpAny (model X.prog X.w) X.A (assignInOrder ((assignEach ts X.env).map (·.2)) us) (fun _ s' => ∃ σ' H', Inv X pins σ' H' s' ∧ Q σ' H') X.xe s
theorem pg_tof {X : Cx} {tg : Expr} : PG X tg (TofG X tg) := ⟨fun pins s σ H v u Q I r h => h pins s u I r⟩
theorem pgs_tof {X : Cx} {ts : List Expr} : PGs X ts (TofGs X ts) := ⟨fun pins s σ H vs us Q I r h => h pins s us I r⟩
theorem tofG {X : Cx} {tg : Expr} {t : TG} (p : PG X tg t) {v : V} {σ : L2.St} {H : Hp} {Q} (h : t v σ H Q) : TofG X tg v σ H Q := fun pins s u I r => p.run pins s σ H v u Q I r h
theorem tofGs {X : Cx} {ts : List Expr} {t : TGs} (p : PGs X ts t) {vs : List V} {σ : L2.St} {H : Hp} {Q} (h : t vs σ H Q) : TofGs X ts vs σ H Q := fun pins s us I r => p.run pins s σ H vs us Q I r h
abbrev CGs := Ev → List D → SEnv → Sto → (SEnv → Sto → Bool) → KX → Bool
section
variable (S : St8)
def SG (ci : CI) (tg : Expr) (vs : List Nat) (c : CG) : Prop := ∀ (X : Cx) (Wx : WX), XOk S.T S.r X Wx → CIok S.T ci X → ∀ (W : Wd) (d : D) (v : V) (σd : SEnv) (σ : L2.St) (M : Sto) (k : SEnv → Sto → Bool) (kx : KX) (Q : L2.St → Hp → Prop),
  SR S.T W σd σ → MR S.T W M → VR S.T W d v → c S.ev d σd M k kx = true → PG' S.T W vs σ k Q → (∀ W' σ', Le W W' → Same vs σ σ' → PX S.T W' kx (fun c d H => Wx c d σ' H)) → TofG X tg v σ W.H Q
def SGs (ci : CI) (ts : List Expr) (vs : List Nat) (c : CGs) : Prop := ∀ (X : Cx) (Wx : WX), XOk S.T S.r X Wx → CIok S.T ci X → ∀ (W : Wd) (ds : List D) (xs : List V) (σd : SEnv) (σ : L2.St) (M : Sto) (k : SEnv → Sto → Bool) (kx : KX) (Q : L2.St → Hp → Prop),
  SR S.T W σd σ → MR S.T W M → VRs S.T W ds xs → c S.ev ds σd M k kx = true → PG' S.T W vs σ k Q → (∀ W' σ', Le W W' → Same vs σ σ' → PX S.T W' kx (fun c d H => Wx c d σ' H)) → TofGs X ts xs σ W.H Q
end
/-- a name of the scope's own -/
def ownB (own : Scope) (x : Str) : Bool := match own.names.lookup x with
  | some .local => true
  | some .cell => true
  | _ => false
theorem ownB_t {own : Scope} {x : Str} (h : ownB own x = true) : own.names.lookup x = some .local ∨ own.names.lookup x = some .cell := by
  unfold ownB at h
  split at h <;> first | exact .inl (by assumption) | exact .inr (by assumption) | cases h
def cGName (i : Nat) : CG := fun _ d σ M k _ => setK σ i d fun σ' => k σ' M
def isTupG (d : D) (n : Nat) (k : List D → Bool) : Bool := isTup d fun _ ds => lenIs ds n (k ds)
def cGTup (n : Nat) (c : CGs) : CG := fun ev d σ M k kx => isTupG d n fun ds => c ev ds σ M k kx
def cGNil : CGs := fun _ ds σ M k _ => List.casesOn ds (k σ M) fun _ _ => false
def cGCons (c : CG) (r : CGs) : CGs := fun ev ds σ M k kx => List.casesOn ds false fun d ds => c ev d σ M (fun σ M => r ev ds σ M k kx) kx
/-- a[i] = the value -/
def cGSub (o i : CE) : CG := fun ev d σ M k kx => o ev σ M (fun x M => i ev σ M (fun y M => gSet x y d M fun M => k σ M) kx) kx
section
variable {S : St8} {ci : CI} {pos : Pos}
theorem CIok.loc {T : Tb} {X : Cx} (hC : CIok T ci X) {x : Str} (h : ownB ci.own x = true) : Loc X.env.scope x ∧ (X.fn x = true ∨ X.env.scope.names.lookup x = some .local) := hC.own x (ownB_t h)
theorem sg_name {x : Str} {i : Nat} (hN : ci.N[i]? = some x) (ho : ownB ci.own x = true) : SG S ci (.Name x pos) [i] (cGName i) := by
  intro X Wx hX hC W d v σd σ M k kx Q s m rv h hQ hx
  obtain ⟨h1, h2⟩ := setK_t h
  obtain ⟨hl, hf⟩ := hC.loc ho
  exact tofG (pg_name hX.nd (by rw [hC.N]; exact hN) hl hf) (hQ W _ _ M (Le.refl _) m (s.set rv i) Same.set h2)
theorem sgs_nil {vs : List Nat} : SGs S ci [] vs cGNil := by
  intro X Wx hX hC W ds xs σd σ M k kx Q s m rv h hQ hx
  cases rv with
  | nil => exact tofGs pgs_nil ⟨rfl, hQ W _ _ M (Le.refl _) m s Same.refl h⟩
  | cons _ _ => cases h
theorem each_cons {e : Expr} {es : List Expr} (h : notStar e = true) (env : Env) : assignEach (e :: es) env = (false, assign e env) :: assignEach es env := by
  cases e <;> first | rfl | (simp [notStar] at h; done)
theorem each_plain {es : List Expr} (h : notStars es = true) (env : Env) : (assignEach es env).length = es.length ∧ (assignEach es env).findIdx? (·.1) = none := by
  induction es with
  | nil => exact ⟨rfl, rfl⟩
  | cons e r ih =>
    have h' : (notStar e && notStars r) = true := h
    rw [Bool.and_eq_true] at h'
    obtain ⟨h1, h2⟩ := ih h'.2
    rw [each_cons h'.1]
    refine ⟨by rw [List.length_cons, List.length_cons, h1], ?_⟩
    rw [List.findIdx?_cons, h2]
    rfl
theorem sgs_cons {e : Expr} {es : List Expr} {vs : List Nat} {c : CG} {r : CGs} (he : SG S ci e vs c) (hr : SGs S ci es vs r) (hs : notStar e = true) : SGs S ci (e :: es) vs (cGCons c r) := by
  intro X Wx hX hC W ds xs σd σ M k kx Q s m rv h hQ hx
  cases rv with
  | nil => cases h
  | cons r1 rs =>
    refine tofGs (pgs_cons pg_tof pgs_tof (by rw [each_cons hs]; rfl)) ⟨_, _, rfl, he X Wx hX hC W _ _ σd σ M _ kx _ s m r1 h (fun W1 σ1d σ1 M1 l1 m1 s1 sm1 h1 => ?_) hx⟩
    exact hr X Wx hX hC W1 _ _ σ1d σ1 M1 k kx Q s1 m1 (rs.mono l1) h1 (fun W2 σ2d σ2 M2 l2 m2 s2 sm2 h2 => hQ W2 σ2d σ2 M2 (l1.trans l2) m2 s2 (sm1.trans sm2) h2) (fun W' σ' l' sm' => hx W' σ' (l1.trans l') (sm1.trans sm'))
theorem SG.sub {tg : Expr} {vs ws : List Nat} {c : CG} (h : SG S ci tg vs c) (hs : ∀ i ∈ vs, i ∈ ws) : SG S ci tg ws c :=
  fun X Wx hX hC W d v σd σ M k kx Q s m rv e hQ hx => h X Wx hX hC W d v σd σ M k kx Q s m rv e (fun W' σd' σ' M' l m s sm e => hQ W' σd' σ' M' l m s (sm.sub hs) e) fun W' σ' l sm => hx W' σ' l (sm.sub hs)
theorem SGs.sub {ts : List Expr} {vs ws : List Nat} {c : CGs} (h : SGs S ci ts vs c) (hs : ∀ i ∈ vs, i ∈ ws) : SGs S ci ts ws c :=
  fun X Wx hX hC W d v σd σ M k kx Q s m rv e hQ hx => h X Wx hX hC W d v σd σ M k kx Q s m rv e (fun W' σd' σ' M' l m s sm e => hQ W' σd' σ' M' l m s (sm.sub hs) e) fun W' σ' l sm => hx W' σ' l (sm.sub hs)
theorem sg_tup {es : List Expr} {j : Nat} {vs : List Nat} {c : CGs} (h : SGs S ci es vs c) (hs : notStars es = true) : SG S ci (.Tuple es j pos) vs (cGTup es.length c) := by
  intro X Wx hX hC W d v σd σ M k kx Q s m rv e hQ hx
  obtain ⟨kk, ds, rfl, h1⟩ := isTup_t e
  obtain ⟨h2, h3⟩ := lenIs_t h1
  obtain ⟨a, xs, rfl, ha, rx⟩ := rv.sqT hX
  refine tofG (pg_tup (n := es.length) hX.calm pgs_tof (each_plain hs _).1 (each_plain hs _).2) ⟨a, xs, rfl, ha, by rw [← rx.length]; exact h2, ?_⟩
  exact h X Wx hX hC W ds xs σd σ M k kx Q s m rx h3 hQ hx
theorem sub_plain {o i : Expr} (h : notSlice i = true) (env : Env) (v : Value) : assign (.Subscript o i pos) env v = (do
      let ov ← holding [v] (eval o env)
      let iv ← holding [v, ov] (eval i env)
      standAt pos
      holding [v, ov, iv] (setItem ov iv v)
      release [v, ov, iv] []) := by cases i <;> first | rfl | (simp [notSlice] at h; done)
theorem sg_sub {o i : Expr} {co cj : CE} (ho : SE S ci o co) (hi : SE S ci i cj) (hn : notSlice i = true) : SG S ci (.Subscript o i pos) [] (cGSub co cj) := by
  intro X Wx hX hC W d v σd σ M k kx Q s m rv e hQ hx
  refine tofG (pg_sub pe_tof pe_tof pset_S (fun v => sub_plain hn X.env v)) (ho X Wx hX hC W σd σ M _ kx _ s m e (fun W1 x xv M1 l1 m1 r1 h1 => ?_) (hx W σ (Le.refl _) Same.refl))
  refine hi X Wx hX hC W1 σd σ M1 _ kx _ (s.mono l1) m1 h1 (fun W2 y yv M2 l2 m2 r2 h2 => ?_) (hx W1 σ l1 Same.refl)
  exact Z.set_ok (Q := fun H => Q σ H) hX m2 (r1.mono l2) r2 (rv.mono (l1.trans l2)) h2 fun W3 M3 l3 m3 h3 => hQ W3 σd σ M3 ((l1.trans l2).trans l3) m3 (s.mono ((l1.trans l2).trans l3)) Same.refl h3
end

/-! ### statements -/
def TofS (X : Cx) (st : Stmt) : TS := fun D σ H => ∀ (pins : List (Addr × Obj)) (s : Shared), Inv X pins σ H s → wpAny (model X.prog X.w) X.A (exec st X.env) (SP X pins D) X.xe s
def TofSs (X : Cx) (sts : List Stmt) : TS := fun D σ H => ∀ (pins : List (Addr × Obj)) (s : Shared), Inv X pins σ H s → wpAny (model X.prog X.w) X.A (execs sts X.env) (SP X pins D) X.xe s
theorem ps_tof {X : Cx} {st : Stmt} : PS X st (TofS X st) := ⟨fun pins s σ H D I h => h pins s I⟩
theorem pss_tof {X : Cx} {sts : List Stmt} : PSs X sts (TofSs X sts) := ⟨fun pins s σ H D I h => h pins s I⟩
theorem tofS {X : Cx} {st : Stmt} {t : TS} (p : PS X st t) {σ : L2.St} {H : Hp} {D : Ends} (h : t D σ H) : TofS X st D σ H := fun pins s I => p.run pins s σ H D I h
theorem tofSs {X : Cx} {sts : List Stmt} {t : TS} (p : PSs X sts t) {σ : L2.St} {H : Hp} {D : Ends} (h : t D σ H) : TofSs X sts D σ H := fun pins s I => p.run pins s σ H D I h
structure SOk (X : Cx) : Prop where
  pass : PassesOwn (model X.prog X.w) X.A X.env X.xe
  stk : X.stack = X.env :: X.outer
  fr : X.env.frame = some X.env.locals
  kind : X.env.scope.kind = .function
structure PK (T : Tb) (W : Wd) (ks : Ks) (D : Ends) : Prop where
  nx : PSt T W ks.nx D.nx
  rt : PV T W ks.rt D.rt
  bk : PSt T W ks.bk D.bk
  ct : PSt T W ks.ct D.ct
theorem PK.mono {T : Tb} {W W1 : Wd} {ks : Ks} {D : Ends} (h : PK T W ks D) (le : Le W W1) : PK T W1 ks D := ⟨h.nx.mono le, h.rt.mono le, h.bk.mono le, h.ct.mono le⟩
/-- an error's wish, whatever the slots hold -/
def PX' (T : Tb) (W : Wd) (kx : KX) (Wx : WX) : Prop := ∀ σ, PX T W kx fun c d H => Wx c d σ H
theorem PX'.mono {T : Tb} {W W1 : Wd} {kx : KX} {Wx : WX} (h : PX' T W kx Wx) (le : Le W W1) : PX' T W1 kx Wx := fun σ => (h σ).mono le
section
variable (S : St8)
def SS (ci : CI) (st : Stmt) (c : CS) : Prop := ∀ (X : Cx) (Wx : WX), XOk S.T S.r X Wx → SOk X → CIok S.T ci X → ∀ (W : Wd) (σd : SEnv) (σ : L2.St) (M : Sto) (ks : Ks) (kx : KX) (D : Ends),
  SR S.T W σd σ → MR S.T W M → c S.ev σd M ks kx = true → PK S.T W ks D → PX' S.T W kx Wx → TofS X st D σ W.H
def SSs (ci : CI) (sts : List Stmt) (c : CS) : Prop := ∀ (X : Cx) (Wx : WX), XOk S.T S.r X Wx → SOk X → CIok S.T ci X → ∀ (W : Wd) (σd : SEnv) (σ : L2.St) (M : Sto) (ks : Ks) (kx : KX) (D : Ends),
  SR S.T W σd σ → MR S.T W M → c S.ev σd M ks kx = true → PK S.T W ks D → PX' S.T W kx Wx → TofSs X sts D σ W.H
end
def cNext : CS := fun _ σ M ks _ => ks.nx σ M
def cSeq (a b : CS) : CS := fun ev σ M ks kx => a ev σ M ⟨fun σ M => b ev σ M ks kx, ks.rt, ks.bk, ks.ct⟩ kx
def cBreak : CS := fun _ σ M ks _ => ks.bk σ M
def cCont : CS := fun _ σ M ks _ => ks.ct σ M
def cNever : CS := fun _ _ _ _ _ => false
def cDrop (a : CE) : CS := fun ev σ M ks kx => a ev σ M (fun _ M => ks.nx σ M) kx
def cRet (a : CE) : CS := fun ev σ M ks kx => a ev σ M ks.rt kx
def cRetN : CS := fun _ _ M ks _ => ks.rt .non M
def cIfS (c : CB) (a b : CS) : CS := fun ev σ M ks kx => c ev σ M (fun t M => Bool.rec (b ev σ M ks kx) (a ev σ M ks kx) t) kx
def cAsg (a : CE) (g : CG) : CS := fun ev σ M ks kx => a ev σ M (fun x M => g ev x σ M ks.nx kx) kx
section
variable {S : St8} {ci : CI} {pos : Pos}
theorem sss_nil : SSs S ci [] cNext := fun X Wx hX hS hC W σd σ M ks kx D s m h hD hx => tofSs pss_nil (hD.nx W _ _ M (Le.refl _) m s h)
theorem sss_cons {st : Stmt} {sts : List Stmt} {a b : CS} (ha : SS S ci st a) (hb : SSs S ci sts b) : SSs S ci (st :: sts) (cSeq a b) :=
  fun X Wx hX hS hC W σd σ M ks kx D s m h hD hx => tofSs (pss_cons ps_tof pss_tof) (ha X Wx hX hS hC W σd σ M _ kx _ s m h ⟨fun W1 σ1d σ1 M1 l1 m1 s1 h1 => hb X Wx hX hS hC W1 σ1d σ1 M1 ks kx D s1 m1 h1 (hD.mono l1) (hx.mono l1), hD.rt, hD.bk, hD.ct⟩ hx)
theorem sss_one {st : Stmt} {a : CS} (ha : SS S ci st a) : SSs S ci [st] a := fun X Wx hX hS hC W σd σ M ks kx D s m h hD hx => tofSs (pss_one ps_tof) (ha X Wx hX hS hC W σd σ M ks kx D s m h hD hx)
theorem ss_pass : SS S ci (.Pass pos) cNext := fun X Wx hX hS hC W σd σ M ks kx D s m h hD hx => tofS ps_pass (hD.nx W _ _ M (Le.refl _) m s h)
theorem ss_break : SS S ci (.Break pos) cBreak := fun X Wx hX hS hC W σd σ M ks kx D s m h hD hx => tofS ps_break (hD.bk W _ _ M (Le.refl _) m s h)
theorem ss_cont : SS S ci (.Continue pos) cCont := fun X Wx hX hS hC W σd σ M ks kx D s m h hD hx => tofS ps_continue (hD.ct W _ _ M (Le.refl _) m s h)
theorem ss_never {st : Stmt} : SS S ci st cNever := fun X Wx hX hS hC W σd σ M ks kx D s m h hD hx => by cases h
theorem ss_retN : SS S ci (.Return none pos) cRetN := fun X Wx hX hS hC W σd σ M ks kx D s m h hD hx => tofS ps_retN (hD.rt W _ _ M (Le.refl _) m .non h)
theorem ss_ret {e : Expr} {a : CE} (ha : SE S ci e a) : SS S ci (.Return (some e) pos) (cRet a) := fun X Wx hX hS hC W σd σ M ks kx D s m h hD hx => tofS (ps_ret pe_tof) (ha X Wx hX hC W σd σ M _ kx _ s m h hD.rt (hx σ))
/-- no comprehension of its own block's kind -/
def notComp : Expr → Bool
  | .ListComp .. => false
  | .SetComp .. => false
  | .DictComp .. => false
  | _ => true
theorem swaps_no {e : Expr} (h : notComp e = true) (t : Option Expr) (l : Nat) (env : Env) : swapsWith e t l env = pure false := by
  cases e <;> first | rfl | (simp [notComp] at h; done)
theorem ss_expr {e : Expr} {a : CE} (ha : SE S ci e a) (hn : notComp e = true) : SS S ci (.Expr e pos) (cDrop a) := fun X Wx hX hS hC W σd σ M ks kx D s m h hD hx =>
  tofS (ps_expr pe_tof (swaps_no hn _ _ _)) (ha X Wx hX hC W σd σ M _ kx _ s m h (fun W1 x v M1 l1 m1 r1 h1 => hD.nx W1 σd σ M1 l1 m1 (s.mono l1) h1) (hx σ))
theorem ss_if {c : Expr} {p q : List Stmt} {cc : CB} {a b : CS} (hc : STt S ci c cc) (ha : SSs S ci p a) (hb : SSs S ci q b) : SS S ci (.If c p q pos) (cIfS cc a b) := fun X Wx hX hS hC W σd σ M ks kx D s m h hD hx =>
  tofS (ps_if pt_tof pss_tof pss_tof) (hc X Wx hX hC W σd σ M _ kx _ s m h (fun W1 t M1 l1 m1 h1 => by
    cases t with
    | true => rw [if_pos rfl]; exact ha X Wx hX hS hC W1 σd σ M1 ks kx D (s.mono l1) m1 h1 (hD.mono l1) (hx.mono l1)
    | false => rw [if_neg Bool.false_ne_true]; exact hb X Wx hX hS hC W1 σd σ M1 ks kx D (s.mono l1) m1 h1 (hD.mono l1) (hx.mono l1)) (hx σ))
theorem ss_asg0 {tg e : Expr} {vs : List Nat} {a : CE} {g : CG} (ha : SE S ci e a) (hg : SG S ci tg vs g) {X : Cx} {Wx : WX} (hX : XOk S.T S.r X Wx) (hC : CIok S.T ci X) {W : Wd} {σd : SEnv} {σ : L2.St} {M : Sto} {ks : Ks} {kx : KX} {D : Ends}
    (s : SR S.T W σd σ) (m : MR S.T W M) (h : cAsg a g S.ev σd M ks kx = true) (hD : PK S.T W ks D) (hx : PX' S.T W kx Wx) : tAsg (TofE X e) (TofG X tg) D σ W.H :=
  ha X Wx hX hC W σd σ M _ kx _ s m h (fun W1 x v M1 l1 m1 r1 h1 => hg X Wx hX hC W1 x v σd σ M1 _ kx _ (s.mono l1) m1 r1 h1 (hD.nx.mono l1).pg fun W' σ' l' _ => (hx.mono (l1.trans l')) σ') (hx σ)
end
end Z
end
set_option Elab.async false
set_option autoImplicit false
set_option linter.all false
set_option maxRecDepth 100000
set_option maxHeartbeats 1000000
noncomputable section
namespace Z
open PySem PySem.Spec PyProof.Rows L2
def isStarE : Expr → Bool
  | .Starred .. => true
  | _ => false
def swNames (sc : Scope) (line : Nat) (ts : List Expr) : List Str := ts.filterMap fun
    | .Name id pos => if sc.names.lookup id == some .local && pos.line == line then some id else none
    | _ => none
def swB (sc : Scope) (ts vs : List Expr) : Option (Option (List Str)) :=
  if (!(ts.length == 2 || ts.length == 3) || vs.length != ts.length) = true then some none else
  if (vs.any isStarE) = true then some none else
  if ((swNames sc ((ts.head?.map (·.pos.line)).getD 0) ts).length != ts.length || (swNames sc ((ts.head?.map (·.pos.line)).getD 0) ts).eraseDups.length != (swNames sc ((ts.head?.map (·.pos.line)).getD 0) ts).length) = true then some none else
  if (vs.all (foldedForSure 8)) = true then some none else
  if (vs.all (constantsAlone 8)) = true then none else some (some (swNames sc ((ts.head?.map (·.pos.line)).getD 0) ts))
theorem swB_ok {env : Env} {sc : Scope} (hs : env.scope = sc) (hk : sc.kind = .function) {ts vs : List Expr} {k k2 : Nat} {p p2 : Pos} {r : Option (List Str)} (h : swB sc ts vs = some r) :
    swappedStores [.Tuple ts k p] (.Tuple vs k2 p2) env = pure r := by
  have hb : (env.blockKind != .function) = false := by
    unfold Env.blockKind; rw [hs, hk]; rfl
  have hst : (vs.any fun | .Starred .. => true | _ => false) = vs.any isStarE := by
    congr 1
  have hkf : env.kindOf = fun id => sc.names.lookup id := by funext id; unfold Env.kindOf; rw [hs]
  unfold swappedStores
  show (if (!(ts.length == 2 || ts.length == 3) || vs.length != ts.length || env.blockKind != .function) = true then pure none else
    if (vs.any fun | .Starred .. => true | _ => false) = true then pure none else _) = _
  rw [hb, hst, Bool.or_false]
  rw [hkf]
  unfold swB at h
  by_cases c1 : (!(ts.length == 2 || ts.length == 3) || vs.length != ts.length) = true
  · rw [if_pos c1] at h ⊢; cases h; rfl
  rw [if_neg c1] at h ⊢
  by_cases c2 : (vs.any isStarE) = true
  · rw [if_pos c2] at h ⊢; cases h; rfl
  rw [if_neg c2] at h ⊢
  split at h
  · rename_i c3; cases h; exact if_pos c3
  rename_i c3
  refine (if_neg c3).trans ?_
  split at h
  · rename_i c4; cases h; exact if_pos c4
  rename_i c4
  refine (if_neg c4).trans ?_
  split at h
  · cases h
  rename_i c5
  refine (if_neg c5).trans ?_
  cases h
  rfl
end Z
end
set_option Elab.async false
set_option autoImplicit false
set_option linter.all false
set_option maxRecDepth 100000
set_option maxHeartbeats 4000000
/-! ZI: enumerate and zip over lists and tuples. -/
namespace ZI
open PySem PySem.Spec PyProof.Rows L2

inductive Src where | lst (a : Addr) | tup (a : Addr)
def Src.ad : Src → Addr
  | .lst a => a
  | .tup a => a
def Src.Sq (K : PySem.W.Frag) (H : Hp) : Src → List V → Prop
  | .lst a, xs => SqL K H a xs
  | .tup a, xs => SqT K H a xs
def Src.Iter (h : Heap) (it : Addr) (i : Nat) : Src → Prop
  | .lst a => h.IsListIter it a i
  | .tup a => h.IsTupleIter it a i
def Src.obj : Src → Obj
  | .lst a => { cls := .type "list_iterator", data := .fields #[.ref a, .int 0 0] }
  | .tup a => { cls := .type "tuple_iterator", data := .fields #[.ref a, .int 0 0] }
theorem Src.iter_obj {h : Heap} {it : Addr} {i : Nat} {c : Src} (x : c.Iter h it i) : ∃ o, h.get? it = some o ∧ ∀ v, o.data ≠ .cell v := by
  cases c with
  | lst a => obtain ⟨o, e, _, d⟩ := x; exact ⟨o, e, fun v q => by rw [d] at q; cases q⟩
  | tup a => obtain ⟨o, e, _, d⟩ := x; exact ⟨o, e, fun v q => by rw [d] at q; cases q⟩
theorem Src.iter_at {h h' : Heap} {it : Addr} {i : Nat} {c : Src} (x : c.Iter h it i) (k : ∀ o, h.get? it = some o → h'.get? it = some o) : c.Iter h' it i := by
  cases c with
  | lst a => exact Heap.IsListIter.at x k
  | tup a => exact Heap.IsTupleIter.at x k
theorem Src.iter_new {h : Heap} {it : Addr} {c : Src} (x : h.get? it = some c.obj) : c.Iter h it 0 := by
  cases c with
  | lst a => exact ⟨_, x, rfl, rfl⟩
  | tup a => exact ⟨_, x, rfl, rfl⟩
/-- what the source stands for -/
structure Look (prog : Program) (w : World) (A : Around) (c : Src) (s : Shared) (xs : List V) (its : List Value) (St : Addr → Nat → Heap → Prop) (H0 : Heap → Prop) : Prop where
  vals : Vals xs its
  draws : ∀ it, c.ad ≠ it → Draws prog w A it [it, c.ad] its.length (fun i v => its[i]? = some v) (St it)
  of : ∀ it i, c.Iter s.heap it i → St it i s.heap
  to : ∀ it i h, St it i h → c.Iter h it i
  beg : Begins (.ref c.ad) c.obj H0
  here : H0 s.heap
theorem look {X : Cx} {pins : List (Addr × Obj)} {σ : L2.St} {H : Hp} {s : Shared} {c : Src} {xs : List V} (I : Inv X pins σ H s) (hc : X.calm = true) (h : c.Sq X.K H xs) :
    ∃ its St H0, Look X.prog X.w X.A.in1 c s xs its St H0 ∧ c.ad < s.heap.objs.size := by
  cases c with
  | lst a =>
    obtain ⟨its, rv, p, _⟩ := I.list h
    refine ⟨its, fun it i h => h.IsListIter it a i ∧ h.IsList a its.toArray, fun h => h.IsList a its.toArray, ⟨rv, fun it hne => ?_, fun it i x => ⟨x, p.isList⟩, fun it i h x => x.1, begins_list a _, p.isList⟩, p.lt⟩
    have := Draws.list (prog := X.prog) (w := X.w) (A := X.A.in1) (I.ok.hd hc) it a hne its.toArray
    simp only [List.size_toArray, List.getElem?_toArray] at this
    exact this
  | tup a =>
    obtain ⟨its, rv, p, _⟩ := I.tuple h
    have p' : s.heap.IsTuple a its.toArray := p
    refine ⟨its, fun it i h => h.IsTupleIter it a i ∧ h.IsTuple a its.toArray, fun h => h.IsTuple a its.toArray, ⟨rv, fun it hne => ?_, fun it i x => ⟨x, p'⟩, fun it i h x => x.1, begins_tuple a _, p'⟩, by obtain ⟨o, e, _⟩ := p'; exact Heap.lt_size e⟩
    have := Draws.tuple (prog := X.prog) (w := X.w) (A := X.A.in1) (I.ok.hd hc) it a hne its.toArray
    simp only [List.size_toArray, List.getElem?_toArray] at this
    exact this
theorem sq_inj {X : Cx} {pins : List (Addr × Obj)} {σ : L2.St} {H : Hp} {s : Shared} {c : Src} {xs ys : List V} (I : Inv X pins σ H s) (h : c.Sq X.K H xs) (h' : c.Sq X.K H ys) : xs = ys := by
  cases c with
  | lst a => exact I.list_inj h h'
  | tup a => exact I.tuple_inj h h'

/-! ### enumerate -/
def ItE (K : PySem.W.Frag) (c : Src) : It :=
  ⟨fun i H => ∃ (xs : List V) (x : V), c.Sq K H xs ∧ xs[i]? = some x, fun i H v H' => ∃ T x, v = .ref T ∧ H T = none ∧ H' = upd H T (.tup [.int (i : Nat), x]) ∧ ∀ xs, c.Sq K H xs → xs[i]? = some x, fun i H => ∃ xs : List V, c.Sq K H xs ∧ xs.length = i⟩
theorem turn_enumS {P : Program} {w : World} {K : PySem.W.Frag} {elts : List Expr} {kk : Nat} {tpos : Pos} {c : Src} {e it : Addr} (hei : e ≠ it) (hea : c.ad ≠ e) (hia : c.ad ≠ it) :
    Turn P w K (.Tuple elts kk tpos) (ItE K c) [e, it] e (fun i h => (∃ old, IsEnum h e it ((i : Nat) : Int) old) ∧ c.Iter h it i) where
  mem := by simp
  obj := fun i h st b hb => by
    obtain ⟨⟨old, he⟩, hi⟩ := st
    have e' : b = e ∨ b = it := by simpa using hb
    rcases e' with z | z
    · rw [z]; exact ⟨_, he, fun v q => nomatch q⟩
    · rw [z]; exact Src.iter_obj hi
  keep := fun i h h' st k => let ⟨⟨old, he⟩, hi⟩ := st; ⟨⟨old, k e (by simp) _ he⟩, Src.iter_at hi fun o q => k it (by simp) o q⟩
  item := by
    intro X hP hw hK hc i pins s σ H E I hf st hg
    subst hP hw hK
    obtain ⟨⟨old, he⟩, hit⟩ := st
    obtain ⟨xs, x, hq, hx⟩ := hg
    obtain ⟨its, St, H0, L, _⟩ := look I hc hq
    have hilt : i < its.length := by
      rw [← L.vals.length]
      exact (List.getElem?_eq_some_iff.mp hx).1
    have hel : e < s.heap.objs.size := Heap.lt_size he
    have hil : it < s.heap.objs.size := by obtain ⟨_, q, _⟩ := Src.iter_obj hit; exact Heap.lt_size q
    refine wpAny_pyNext_enum_itemD (L.draws it hia) he (L.of it i hit) hilt hei (by simp [hei, Ne.symm hea]) fun u h' tk hu ho hst' hT hsz hk => ?_
    obtain ⟨u', hu', ru⟩ := L.vals.get hx
    rw [hu] at hu'
    cases hu'
    refine ⟨_, rfl, wpAny_letOwnedTupleGo_enum (s := { s with heap := h', toks := tk + 1 }) ho fun h'' he' sb => ?_⟩
    have hT2 : h''.get? s.heap.objs.size = some { cls := .type "tuple", data := .seq #[.int i tk, u] } := (sb.2 _ (Nat.ne_of_gt hel)).trans hT
    have new : ObjOk X.prog X.w (upd H s.heap.objs.size (.tup [.int (i : Nat), x])) h'' s.heap.objs.size (.tup [.int (i : Nat), x]) :=
      ⟨by show 2 ≤ sizeLine; decide, [.int i tk, u], .cons ⟨_, rfl⟩ (.cons ru .nil), ⟨_, hT2, rfl, _, rfl⟩⟩
    have I1 : Inv X pins σ (upd H s.heap.objs.size (.tup [.int (i : Nat), x])) { s with heap := h'', toks := tk + 1 } :=
      I.turnedNew (ch := [e, it]) (fun b ob hb q => (sb.2 b (fun z => hb (by simp [z]))).trans (hk b ob (fun z => hb (by simp [z])) (fun z => hb (by simp [z])) q)) hf (Nat.le_refl _) new
    refine ⟨.ref s.heap.objs.size, _, I1, rfl, ⟨_, x, rfl, I.hok.fresh (Nat.le_refl _), rfl, fun ys hy => by rw [sq_inj I hy hq]; exact hx⟩, ⟨⟨u, ?_⟩, Src.iter_at (L.to it (i + 1) h' hst') fun o q => (sb.2 it (Ne.symm hei)).trans q⟩, fun b hb => ?_⟩
    · have e1 : ((i + 1 : Nat) : Int) = (i : Int) + 1 := by omega
      rw [e1]; exact he'
    · have hb' : b < s.heap.objs.size := by
        have e' : b = e ∨ b = it := by simpa using hb
        rcases e' with z | z
        · rw [z]; exact hel
        · rw [z]; exact hil
      rw [upd_ne (Nat.ne_of_lt hb')]
      exact (hf b hb).1
  done := by
    intro X hP hw hK hc i pins s σ H E I hf st hg
    subst hP hw hK
    obtain ⟨⟨old, he⟩, hit⟩ := st
    obtain ⟨xs, hq, hx⟩ := hg
    obtain ⟨its, St, H0, L, _⟩ := look I hc hq
    obtain ⟨f0, f1, f2, f3, f4, f5⟩ := hf it (by simp)
    have hst := L.of it i hit
    have hi : i = its.length := by rw [← hx, L.vals.length]
    rw [hi] at hst
    exact wpAny_pyNext_enum_endD (L.draws it hia) he hst fun h' eb => ⟨rfl, I.turned (t' := s.toks) (fun b o hb q => eb b o hb q) f0 f1 f3 f4 f5⟩
  self := fun A i s Q E st h => let ⟨⟨_, he⟩, _⟩ := st; wpAny_pyIter_enum he h
section
variable {X : Cx} {pins : List (Addr × Obj)} {σ : L2.St} {H : Hp} {s : Shared}
theorem meets_enumerate_newS {v : Value} {o : Obj} {H : Heap → Prop} (B : Begins v o H) :
    Meets (Builtin.«enumerate.__new__» ⟨[.type "enumerate", v], []⟩) (fun _ R s => H s.heap ∧
      R (.ok (.ret (.ref (s.heap.push o).objs.size))) { s with heap := (s.heap.push o).push { cls := .type "enumerate", data := .fields #[.none, .bool false, .ref s.heap.objs.size, rawInt 0, .none, .none] } }) :=
  .of_wp fun prog w A R s h => by
    obtain ⟨hp, g, d, tk, os⟩ := s; obtain ⟨h1, h⟩ := h
    have hsub := sub_enumerate
    have q1 : ∀ {A' : Around} {E : Value → Shared → Prop} {Q : Value → Shared → Prop}, Q (.ref hp.objs.size) ⟨hp.push o, g, d, tk, os⟩ → wpAny (model prog w) A' (pyIter v) Q E ⟨hp, g, d, tk, os⟩ :=
      fun q => B.iter prog w _ _ ⟨hp, g, d, tk, os⟩ _ h1 q
    wp_walk using q1
    refine wpAny_stack_any fun st => wpAny_pure ?_
    split
    · rename_i c _ _ _ _ _
      cases (c == Value.type "enumerate")
      · wp_walk using q1
        exact ⟨_, rfl, h⟩
      · wp_walk using q1
        exact ⟨_, rfl, h⟩
    · wp_walk using q1
      exact ⟨_, rfl, h⟩
theorem enum_beginsS {prog : Program} {w : World} {A : Around} {E : Value → Shared → Prop} {s : Shared} {v : Value} {o : Obj} {H : Heap → Prop} {Q : Value → Shared → Prop} (B : Begins v o H) (h1 : H s.heap)
    (h : ∀ h', IsEnum h' (s.heap.objs.size + 1) s.heap.objs.size 0 .none → h'.get? s.heap.objs.size = some o → h'.objs.size = s.heap.objs.size + 2 →
      (∀ b o, s.heap.get? b = some o → h'.get? b = some o) → Q (.ref (s.heap.objs.size + 1)) { s with heap := h' }) :
    wpAny (model prog w) A (call (.type "enumerate") [v]) Q E s := by
  refine callType_new F.called_enumerate (by decide) (F.typeCall_enumerate_1 _) (F.newCall_enumerate_1 _) (fun obj => F.args_object_init_2 obj _) F.entry_enumerate_new
    (meets_enumerate_newS B) ⟨h1, ?_⟩
  have hz : (s.heap.push o).objs.size = s.heap.objs.size + 1 := Heap.size_push ..
  show _ ∧ _
  rw [hz]
  have he : IsEnum ((s.heap.push o).push { cls := .type "enumerate", data := .fields #[.none, .bool false, .ref s.heap.objs.size, rawInt 0, .none, .none] }) (s.heap.objs.size + 1) s.heap.objs.size 0 .none := by
    have := Heap.get?_push_size (s.heap.push o) (o := { cls := .type "enumerate", data := .fields #[.none, .bool false, .ref s.heap.objs.size, rawInt 0, .none, .none] }) rfl
    rw [hz] at this; exact this
  refine ⟨⟨_, he, rfl⟩, h _ he (Heap.get?_push_of_some _ (Heap.get?_push_size _ B.free)) (by rw [Heap.size_push, hz]) fun b o x => Heap.get?_push_of_some _ (Heap.get?_push_of_some _ x)⟩
/-- enumerate(..) made and walked -/
theorem enum_it {elts : List Expr} {kk : Nat} {tpos : Pos} {R : It → Hp → Prop} {E : Value → Shared → Prop} {c : Src} {xs : List V} (I : Inv X pins σ H s) (hc : X.calm = true) (hq : c.Sq X.K H xs) (q : R (ItE X.K c) H) :
    wpAny (model X.prog X.w) X.A (call (.type "enumerate") [.ref c.ad]) (fun v s1 => wpAny (model X.prog X.w) X.A (pyIter v) (PIE X pins σ (.Tuple elts kk tpos) R) E s1) E s := by
  obtain ⟨its, St, H0, L, hlt⟩ := look I hc hq
  refine enum_beginsS L.beg L.here fun h' he ho hsz hk => wpAny_pyIter_enum he ?_
  have I2 : Inv X pins σ H { s with heap := h' } := I.kept (t' := s.toks) hk
  refine ⟨s.heap.objs.size + 1, [s.heap.objs.size + 1, s.heap.objs.size], _, _, H, rfl, I2, turn_enumS (c := c) (it := s.heap.objs.size) (Nat.succ_ne_self _) (Nat.ne_of_lt (Nat.lt_succ_of_lt hlt)) (Nat.ne_of_lt hlt), ⟨⟨.none, he⟩, Src.iter_new ho⟩, fun b hb => ?_, q⟩
  have e' : b = s.heap.objs.size + 1 ∨ b = s.heap.objs.size := by simpa using hb
  have hle : s.heap.objs.size ≤ b := by
    rcases e' with z | z
    · rw [z]; exact Nat.le_add_right _ _
    · rw [z]; exact Nat.le_refl _
  exact I.fpOk hle (I.hok.fresh hle)
end

/-! ### zip -/
def ItZ (K : PySem.W.Frag) (c d : Src) : It :=
  ⟨fun i H => ∃ (xs ys : List V) (x y : V), c.Sq K H xs ∧ d.Sq K H ys ∧ xs[i]? = some x ∧ ys[i]? = some y,
    fun i H v H' => ∃ T x y, v = .ref T ∧ H T = none ∧ H' = upd H T (.tup [x, y]) ∧ (∀ xs, c.Sq K H xs → xs[i]? = some x) ∧ ∀ ys, d.Sq K H ys → ys[i]? = some y,
    fun i H => ∃ xs ys : List V, c.Sq K H xs ∧ d.Sq K H ys ∧ i ≤ xs.length ∧ i ≤ ys.length ∧ (i = xs.length ∨ i = ys.length)⟩
theorem turn_zipS {P : Program} {w : World} {K : PySem.W.Frag} {elts : List Expr} {kk : Nat} {tpos : Pos} {c d : Src} {z TI TO i1 i2 : Addr} (D : ZipSep2 z TI TO i1 i2 [i1, c.ad] [i2, d.ad]) (h1 : c.ad ≠ i1) (h2 : d.ad ≠ i2) :
    Turn P w K (.Tuple elts kk tpos) (ItZ K c d) [z, TI, TO, i1, i2] z (fun i h => IsZip h z TI TO .none ∧ IsTupOf2 h TI (.ref i1) (.ref i2) ∧ (∃ x y, IsTupOf2 h TO x y) ∧ c.Iter h i1 i ∧ d.Iter h i2 i) where
  mem := by simp
  obj := fun i h st b hb => by
    obtain ⟨hz, hTI, ⟨x, y, hTO⟩, k1, k2⟩ := st
    have e' : b = z ∨ b = TI ∨ b = TO ∨ b = i1 ∨ b = i2 := by simpa using hb
    rcases e' with q | q | q | q | q
    · rw [q]; exact ⟨_, hz, fun v q => nomatch q⟩
    · rw [q]; exact ⟨_, hTI, fun v q => nomatch q⟩
    · rw [q]; exact ⟨_, hTO, fun v q => nomatch q⟩
    · rw [q]; exact Src.iter_obj k1
    · rw [q]; exact Src.iter_obj k2
  keep := fun i h h' st k => by
    obtain ⟨hz, hTI, ⟨x, y, hTO⟩, k1, k2⟩ := st
    exact ⟨k z (by simp) _ hz, k TI (by simp) _ hTI, ⟨x, y, k TO (by simp) _ hTO⟩, Src.iter_at k1 fun o q => k i1 (by simp) o q, Src.iter_at k2 fun o q => k i2 (by simp) o q⟩
  item := by
    intro X hP hw hK hc i pins s σ H E I hf st hg
    subst hP hw hK
    obtain ⟨hz, hTI, ⟨x0, y0, hTO⟩, k1, k2⟩ := st
    obtain ⟨xs, ys, x, y, hqx, hqy, hx, hy⟩ := hg
    obtain ⟨its, St, H0, L, _⟩ := look I hc hqx
    obtain ⟨its2, St2, H02, L2, _⟩ := look I hc hqy
    have hl1 : i < its.length := by rw [← L.vals.length]; exact (List.getElem?_eq_some_iff.mp hx).1
    have hl2 : i < its2.length := by rw [← L2.vals.length]; exact (List.getElem?_eq_some_iff.mp hy).1
    have hzl : z < s.heap.objs.size := Heap.lt_size hz
    refine wpAny_pyNext_zipD2_item D (L.draws i1 h1) (L2.draws i2 h2) hz hTI hTO (L.of _ _ k1) (L2.of _ _ k2) hl1 hl2 fun u u2 h' tk hu hu2 z' TO' st1 st2 hT hsz hk => ?_
    obtain ⟨u', hu', ru⟩ := L.vals.get hx
    rw [hu] at hu'; cases hu'
    obtain ⟨u2', hu2', ru2⟩ := L2.vals.get hy
    rw [hu2] at hu2'; cases hu2'
    refine ⟨_, rfl, wpAny_letOwnedTupleGo_zip (s := { s with heap := h', toks := tk }) z' fun h'' z'' sb => ?_⟩
    have hT2 : h''.get? s.heap.objs.size = some { cls := .type "tuple", data := .seq #[u, u2] } := (sb.2 _ (Nat.ne_of_gt hzl)).trans hT
    have new : ObjOk X.prog X.w (upd H s.heap.objs.size (.tup [x, y])) h'' s.heap.objs.size (.tup [x, y]) :=
      ⟨by show 2 ≤ sizeLine; decide, [u, u2], .cons ru (.cons ru2 .nil), ⟨_, hT2, rfl, _, rfl⟩⟩
    have I1 : Inv X pins σ (upd H s.heap.objs.size (.tup [x, y])) { s with heap := h'', toks := tk } :=
      I.turnedNew (ch := [z, TI, TO, i1, i2]) (fun c o hb q => (sb.2 c (fun q' => hb (by simp [q']))).trans (hk c o (fun q' => hb (by simp [q'])) (fun q' => hb (by simp [q'])) (fun q' => hb (by simp [q'])) (fun q' => hb (by simp [q'])) q)) hf (Nat.le_refl _) new
    have zi1 := D.zi1
    have zi2 := D.zi2
    refine ⟨.ref s.heap.objs.size, _, I1, rfl, ⟨_, x, y, rfl, I.hok.fresh (Nat.le_refl _), rfl, fun l hl => by rw [sq_inj I hl hqx]; exact hx, fun l hl => by rw [sq_inj I hl hqy]; exact hy⟩, ⟨z'', ?_, ⟨u, u2, ?_⟩, ?_, ?_⟩, fun c hcm => ?_⟩
    · exact (sb.2 _ D.TIz).trans (hk _ _ D.TIz D.TITO D.TIi1 D.TIi2 hTI)
    · exact (sb.2 _ D.TOz).trans TO'
    · exact Src.iter_at (L.to _ _ _ st1) fun o q => (sb.2 _ (Ne.symm zi1)).trans q
    · exact Src.iter_at (L2.to _ _ _ st2) fun o q => (sb.2 _ (Ne.symm zi2)).trans q
    · have hlt : c < s.heap.objs.size := by
        have e' : c = z ∨ c = TI ∨ c = TO ∨ c = i1 ∨ c = i2 := by simpa using hcm
        rcases e' with q | q | q | q | q
        · rw [q]; exact hzl
        · rw [q]; exact Heap.lt_size hTI
        · rw [q]; exact Heap.lt_size hTO
        · rw [q]; obtain ⟨_, e1, _⟩ := Src.iter_obj k1; exact Heap.lt_size e1
        · rw [q]; obtain ⟨_, e2, _⟩ := Src.iter_obj k2; exact Heap.lt_size e2
      rw [upd_ne (Nat.ne_of_lt hlt)]
      exact (hf c hcm).1
  done := by
    intro X hP hw hK hc i pins s σ H E I hf st hg
    subst hP hw hK
    obtain ⟨hz, hTI, ⟨x0, y0, hTO⟩, k1, k2⟩ := st
    obtain ⟨xs, ys, hqx, hqy, q1, q2, q3⟩ := hg
    obtain ⟨its, St, H0, L, _⟩ := look I hc hqx
    obtain ⟨its2, St2, H02, L2, _⟩ := look I hc hqy
    rw [L.vals.length] at q1 q3
    rw [L2.vals.length] at q2 q3
    exact wpAny_pyNext_zipD2_end D (L.draws i1 h1) (L2.draws i2 h2) hz hTI hTO (L.of _ _ k1) (L2.of _ _ k2) q1 q2 q3 fun h' tk hk => ⟨rfl, I.turnedL (t' := tk) (ch := [z, TI, TO, i1, i2]) (fun c o hb q =>
      hk c o (fun q' => hb (by simp [q'])) (fun q' => hb (by simp [q'])) (fun q' => hb (by simp [q'])) (fun q' => hb (by simp [q'])) q) hf⟩
  self := fun A i s Q E st h => wpAny_pyIter_zip st.1 h
section
variable {X : Cx} {pins : List (Addr × Obj)} {σ : L2.St} {H : Hp} {s : Shared}
theorem zip_it {elts : List Expr} {kk : Nat} {tpos : Pos} {R : It → Hp → Prop} {E : Value → Shared → Prop} {c d : Src} {xs ys : List V} (I : Inv X pins σ H s) (hc : X.calm = true) (hq : c.Sq X.K H xs) (hq2 : d.Sq X.K H ys) (q : R (ItZ X.K c d) H) :
    wpAny (model X.prog X.w) X.A (call (.type "zip") [.ref c.ad, .ref d.ad]) (fun v s1 => wpAny (model X.prog X.w) X.A (pyIter v) (PIE X pins σ (.Tuple elts kk tpos) R) E s1) E s := by
  obtain ⟨its, St, H0, L, hlt⟩ := look I hc hq
  obtain ⟨its2, St2, H02, L2, hlt2⟩ := look I hc hq2
  refine zip_begins2 L.beg L2.beg L.here L2.here fun h' hz hTI hTO h1 h2 hsz hk => wpAny_pyIter_zip hz ?_
  have I2 : Inv X pins σ H { s with heap := h' } := I.kept (t' := s.toks) hk
  have S : ZipSep2 (s.heap.objs.size + 4) (s.heap.objs.size + 2) (s.heap.objs.size + 3) s.heap.objs.size (s.heap.objs.size + 1) [s.heap.objs.size, c.ad] [s.heap.objs.size + 1, d.ad] :=
    zip_sep2 (fun b hb => by rw [List.mem_singleton.mp hb]; exact hlt) (fun b hb => by rw [List.mem_singleton.mp hb]; exact hlt2)
  refine ⟨s.heap.objs.size + 4, [s.heap.objs.size + 4, s.heap.objs.size + 2, s.heap.objs.size + 3, s.heap.objs.size, s.heap.objs.size + 1], _, _, H, rfl, I2, turn_zipS S (Nat.ne_of_lt hlt) (Nat.ne_of_lt (Nat.lt_succ_of_lt hlt2)), ⟨hz, hTI, ⟨_, _, hTO⟩, Src.iter_new h1, Src.iter_new h2⟩, fun b hb => ?_, q⟩
  have e' : b = s.heap.objs.size + 4 ∨ b = s.heap.objs.size + 2 ∨ b = s.heap.objs.size + 3 ∨ b = s.heap.objs.size ∨ b = s.heap.objs.size + 1 := by simpa using hb
  have hle : s.heap.objs.size ≤ b := by
    rcases e' with z | z | z | z | z
    · rw [z]; exact Nat.le_add_right _ _
    · rw [z]; exact Nat.le_add_right _ _
    · rw [z]; exact Nat.le_add_right _ _
    · rw [z]; exact Nat.le_refl _
    · rw [z]; exact Nat.le_add_right _ _
  exact I.fpOk hle (I.hok.fresh hle)
/-! ### lists, tuples, texts themselves -/
theorem it_list {tg : Expr} {R : It → Hp → Prop} {E : Value → Shared → Prop} {a : Addr} {xs : List V} (I : Inv X pins σ H s) (hq : SqL X.K H a xs) (q : R (Itl X.K a) H) : wpAny (model X.prog X.w) X.A (pyIter (.ref a)) (PIE X pins σ tg R) E s := by
  obtain ⟨its, rv, p, hz⟩ := I.list hq
  refine wpAny_pyIter_list p.isList ?_
  refine ⟨s.heap.objs.size, [s.heap.objs.size], _, _, H, rfl, I.kept (t' := s.toks) fun b o e => Heap.get?_push_of_some _ e, turn_list a _, ⟨_, Heap.get?_push_size _ rfl, rfl, rfl⟩, fun b hb => ?_, q⟩
  have e : b = s.heap.objs.size := by simpa using hb
  subst e
  exact I.fpOk (Nat.le_refl _) (I.hok.fresh (Nat.le_refl _))
theorem it_tup {tg : Expr} {R : It → Hp → Prop} {E : Value → Shared → Prop} {a : Addr} {xs : List V} (I : Inv X pins σ H s) (hq : SqT X.K H a xs) (q : R (Itt X.K a) H) : wpAny (model X.prog X.w) X.A (pyIter (.ref a)) (PIE X pins σ tg R) E s := by
  obtain ⟨its, rv, p, hz⟩ := I.tuple hq
  refine wpAny_pyIter_tuple (show s.heap.IsTuple a its.toArray from p) ?_
  refine ⟨s.heap.objs.size, [s.heap.objs.size], _, _, H, rfl, I.kept (t' := s.toks) fun b o e => Heap.get?_push_of_some _ e, turn_tuple a _, ⟨_, Heap.get?_push_size _ rfl, rfl, rfl⟩, fun b hb => ?_, q⟩
  have e : b = s.heap.objs.size := by simpa using hb
  subst e
  exact I.fpOk (Nat.le_refl _) (I.hok.fresh (Nat.le_refl _))
theorem it_str {tg : Expr} {R : It → Hp → Prop} {E : Value → Shared → Prop} {x : Str} {t : Tok} (I : Inv X pins σ H s) (q : R (Its x) H) : wpAny (model X.prog X.w) X.A (pyIter (.str x t)) (PIE X pins σ tg R) E s := by
  cases ha : x.cps.all (· < 128)
  · exact wpAny_pyIter_wide ha (pi_one (tk := s.toks) I _ (turn_str _ x t "str_iterator" (.inr rfl)) ⟨_, Heap.get?_push_size _ rfl, rfl, rfl⟩ q)
  · exact wpAny_pyIter_ascii ha (pi_one (tk := s.toks) I _ (turn_str _ x t "str_ascii_iterator" (.inl rfl)) ⟨_, Heap.get?_push_size _ rfl, rfl, rfl⟩ q)
end
end ZI
set_option Elab.async false
set_option autoImplicit false
set_option linter.all false
set_option maxRecDepth 100000
set_option maxHeartbeats 1000000
/-! Z9: what is walked; for, while; assignments. -/
noncomputable section
namespace Z
open PySem PySem.Spec PyProof.Rows L2

/-! ### what is walked -/
/-- the item at turn i; where there is none -/
abbrev JD := Nat → Sto → (D → Sto → Bool) → Bool → Bool
abbrev CIt := Ev → SEnv → Sto → (JD → Sto → Bool) → KX → Bool
def JR (T : Tb) (W : Wd) (J : JD) (It : L2.It) : Prop := ∀ W' M' i k no, Le W W' → MR T W' M' → J i M' k no = true →
  (It.stop i W'.H ∧ no = true) ∨ (It.go i W'.H ∧ ∀ x H', It.yld i W'.H x H' → ∃ W'' d M'', Le W' W'' ∧ W''.H = H' ∧ MR T W'' M'' ∧ VR T W'' d x ∧ k d M'' = true)
def TofI (X : Cx) (tg iter : Expr) : TI := fun σ H R => ∀ (pins : List (Addr × Obj)) (s : Shared), Inv X pins σ H s →
    wpAny (model X.prog X.w) X.A (eval iter X.env) (fun v s1 => wpAny (model X.prog X.w) X.A (pyIter v) (PIE X pins σ tg R) X.xe s1) X.xe s
theorem pi_tof {X : Cx} {tg iter : Expr} : PI X tg iter (TofI X tg iter) := ⟨fun pins s σ H R I h => h pins s I⟩
theorem tofI {X : Cx} {tg iter : Expr} {t : TI} (p : PI X tg iter t) {σ : L2.St} {H : Hp} {R} (h : t σ H R) : TofI X tg iter σ H R := fun pins s I => p.run pins s σ H R I h
def PI' (T : Tb) (W : Wd) (k : JD → Sto → Bool) (R : L2.It → Hp → Prop) : Prop := ∀ W' J It M', Le W W' → MR T W' M' → JR T W' J It → k J M' = true → R It W'.H
theorem PI'.mono {T : Tb} {W W1 : Wd} {k} {R} (h : PI' T W k R) (le : Le W W1) : PI' T W1 k R := fun W' J It M' l => h W' J It M' (le.trans l)
def SI (S : St8) (ci : CI) (tg iter : Expr) (c : CIt) : Prop := ∀ (X : Cx) (Wx : WX), XOk S.T S.r X Wx → CIok S.T ci X → ∀ (W : Wd) (σd : SEnv) (σ : L2.St) (M : Sto) (k : JD → Sto → Bool) (kx : KX) (R : L2.It → Hp → Prop),
  SR S.T W σd σ → MR S.T W M → c S.ev σd M k kx = true → PI' S.T W k R → PX S.T W kx (fun c d H => Wx c d σ H) → TofI X tg iter σ W.H R
/-- the item at i of a list; no: at its end -/
def itemAt (ds : List D) : Nat → (D → Bool) → Bool → Bool := List.rec (fun i _ no => Nat.rec no (fun _ _ => false) i) (fun x _ ih i k no => Nat.rec (k x) (fun m _ => ih m k no) i) ds
theorem itemAt_t : ∀ {ds : List D} {i : Nat} {k : D → Bool} {no : Bool}, itemAt ds i k no = true → (ds.length = i ∧ no = true) ∨ ∃ d, ds[i]? = some d ∧ k d = true
  | [], 0, _, _, h => .inl ⟨rfl, h⟩
  | [], _ + 1, _, _, h => by cases h
  | x :: _, 0, _, _, h => .inr ⟨x, rfl, h⟩
  | x :: r, i + 1, k, no, h => by
    rcases itemAt_t (ds := r) (i := i) h with ⟨e, q⟩ | ⟨d, e, q⟩
    · exact .inl ⟨by rw [List.length_cons, e], q⟩
    · exact .inr ⟨d, by simpa using e, q⟩
def seqJ (d : D) : JD := fun i M k no => seqK d M (fun ds => itemAt ds i (fun x => k x M) no) (fun ds => itemAt ds i (fun x => k x M) no)
def strAt (s : List Nat) : Nat → (D → Bool) → Bool → Bool := List.rec (fun i _ no => Nat.rec no (fun _ _ => false) i) (fun x _ ih i k no => Nat.rec (k (.str [x])) (fun m _ => ih m k no) i) s
theorem strAt_t : ∀ {s : List Nat} {i : Nat} {k : D → Bool} {no : Bool}, strAt s i k no = true → (s.length = i ∧ no = true) ∨ ∃ c, s[i]? = some c ∧ k (.str [c]) = true
  | [], 0, _, _, h => .inl ⟨rfl, h⟩
  | [], _ + 1, _, _, h => by cases h
  | x :: _, 0, _, _, h => .inr ⟨x, rfl, h⟩
  | x :: r, i + 1, k, no, h => by
    rcases strAt_t (s := r) (i := i) h with ⟨e, q⟩ | ⟨d, e, q⟩
    · exact .inl ⟨by rw [List.length_cons, e], q⟩
    · exact .inr ⟨d, by simpa using e, q⟩
def strJ (s : List Nat) : JD := fun i M k no => strAt s i (fun x => k x M) no
def rngJ (lo : Int) (n : Nat) : JD := fun i M k no => Bool.rec no (frI (iadd lo (.ofNat i)) fun z => k (.int z) M) (Nat.blt i n)
def enmJ (d : D) : JD := fun i M k no => seqK d M (fun ds => itemAt ds i (fun x => k (.tup false [.int (.ofNat i), x]) M) no) (fun ds => itemAt ds i (fun x => k (.tup false [.int (.ofNat i), x]) M) no)
/-- two lists side by side -/
def zipAt (xs : List D) : List D → Nat → (D → D → Bool) → Bool → Bool := List.rec (fun _ i _ no => Nat.rec no (fun _ _ => false) i)
  (fun x _ ih ys => List.rec (fun i _ no => Nat.rec no (fun _ _ => false) i) (fun y r _ i k no => Nat.rec (k x y) (fun m _ => ih r m k no) i) ys) xs
theorem zipAt_t : ∀ {xs ys : List D} {i : Nat} {k : D → D → Bool} {no : Bool}, zipAt xs ys i k no = true →
    (i ≤ xs.length ∧ i ≤ ys.length ∧ (i = xs.length ∨ i = ys.length) ∧ no = true) ∨ ∃ x y, xs[i]? = some x ∧ ys[i]? = some y ∧ k x y = true
  | [], ys, 0, _, _, h => .inl ⟨Nat.le_refl _, Nat.zero_le _, .inl rfl, h⟩
  | [], _, _ + 1, _, _, h => by cases h
  | x :: _, [], 0, _, _, h => .inl ⟨Nat.zero_le _, Nat.le_refl _, .inr rfl, h⟩
  | x :: _, [], _ + 1, _, _, h => by cases h
  | x :: _, y :: _, 0, _, _, h => .inr ⟨x, y, rfl, rfl, h⟩
  | x :: r, y :: q, i + 1, k, no, h => by
    rcases zipAt_t (xs := r) (ys := q) (i := i) h with ⟨a, b, c, d⟩ | ⟨u, v, a, b, c⟩
    · exact .inl ⟨Nat.succ_le_succ a, Nat.succ_le_succ b, c.imp (congrArg Nat.succ) (congrArg Nat.succ), d⟩
    · exact .inr ⟨u, v, by simpa using a, by simpa using b, c⟩
def seqS (d : D) (M : Sto) (k : List D → Bool) : Bool := seqK d M k k
def zipJ (a b : D) : JD := fun i M k no => seqS a M fun xs => seqS b M fun ys => zipAt xs ys i (fun x y => k (.tup false [x, y]) M) no
def srcOf (d : D) (a : Addr) : ZI.Src := match d with
  | .tup _ _ => .tup a
  | _ => .lst a
theorem srcOf_ad (d : D) (a : Addr) : (srcOf d a).ad = a := by cases d <;> rfl
section
variable {T : Tb} {r : Nat} {X : Cx} {Wx : WX} {W : Wd}
theorem seqS_t (hX : XOk T r X Wx) {d : D} {v : V} {M : Sto} {k : List D → Bool} (m : MR T W M) (rv : VR T W d v) (h : seqS d M k = true) :
    ∃ a xs ds, v = .ref a ∧ (srcOf d a).Sq X.K W.H xs ∧ VRs T W ds xs ∧ k ds = true := by
  cases d with
  | tup ka ds =>
    obtain ⟨a, ys, rfl, hs, rq⟩ := rv.sqT hX
    exact ⟨a, ys, ds, rfl, hs, rq, h⟩
  | lv ds =>
    obtain ⟨a, ys, rfl, hs, rq⟩ := rv.sqLv hX
    exact ⟨a, ys, ds, rfl, hs, rq, h⟩
  | loc l =>
    have h' : lstC M l k = true := h
    obtain ⟨ds, xs, hs, rq, _, _, h2⟩ := m.lstC h'
    obtain ⟨_, rfl⟩ := rv.loc_at
    exact ⟨_, xs, ds, rfl, SqL.of hs, rq, h2⟩
  | _ => cases h
/-- the walk over a sequence -/
def itOf (K : PySem.W.Frag) (d : D) (a : Addr) : L2.It := match d with
  | .tup _ _ => Itt K a
  | _ => Itl K a
theorem jr_seq (hX : XOk T r X Wx) {d : D} {a : Addr} (rv : VR T W d (.ref a)) : JR T W (seqJ d) (itOf X.K d a) := by
  intro W' M' i k no le m h
  have h' : seqS d M' (fun ds => itemAt ds i (fun x => k x M') no) = true := h
  obtain ⟨a', xs, ds, e, hs, rs, h2⟩ := seqS_t hX m (rv.mono le) h'
  cases e
  rcases itemAt_t h2 with ⟨e, q⟩ | ⟨x, e, q⟩
  · left
    refine ⟨?_, q⟩
    have hl : xs.length ≤ i := by rw [← rs.length, e]; exact Nat.le_refl _
    cases d <;> exact ⟨xs, hs, hl⟩
  · right
    obtain ⟨v, ev, rx⟩ := rs.get e
    have fin : ∀ {x : V} {H' : Hp}, H' = W'.H → x = v → ∃ W'' d M'', Le W' W'' ∧ W''.H = H' ∧ MR T W'' M'' ∧ VR T W'' d x ∧ k d M'' = true := fun e1 e2 => by
      subst e1 e2
      exact ⟨W', _, M', Le.refl _, rfl, m, rx, q⟩
    cases d <;> exact ⟨⟨xs, v, hs, ev⟩, fun x H' y => fin y.1 (by
      have := y.2 xs hs
      rw [ev] at this
      exact (Option.some.inj this).symm)⟩
theorem jr_str {s : List Nat} : JR T W (strJ s) (Its (toS s)) := by
  intro W' M' i k no le m h
  rcases strAt_t h with ⟨e, q⟩ | ⟨c, e, q⟩
  · exact .inl ⟨by show (toS s).cps.size ≤ i; rw [← e]; exact Nat.le_of_eq (by simp [toS]), q⟩
  · refine .inr ⟨?_, fun x H' y => ?_⟩
    · show i < (toS s).cps.size
      have := (List.getElem?_eq_some_iff.mp e).1
      simpa [toS] using this
    · obtain ⟨rfl, c', hc, rfl⟩ := y
      have : c' = c := by
        have e2 : (toS s).cps[i]? = some c := by simpa [toS] using e
        rw [e2] at hc
        exact (Option.some.inj hc).symm
      subst this
      exact ⟨W', _, M', Le.refl _, rfl, m, .str [c'], q⟩
theorem jr_rng {lo : Int} {n : Nat} : JR T W (rngJ lo n) (Itr lo n) := by
  intro W' M' i k no le m h
  have h' : (Bool.rec no (frI (iadd lo (.ofNat i)) fun z => k (.int z) M') (Nat.blt i n) : Bool) = true := h
  cases q : Nat.blt i n with
  | false =>
    rw [q] at h'
    refine .inl ⟨?_, h'⟩
    show n ≤ i
    have : ¬ i < n := fun z => by rw [Nat.blt_eq.mpr z] at q; cases q
    omega
  | true =>
    rw [q] at h'
    have h' : frI (iadd lo (.ofNat i)) (fun z => k (.int z) M') = true := h'
    rw [frI_eq, iadd_eq] at h'
    refine .inr ⟨Nat.blt_eq.mp q, fun x H' y => ?_⟩
    obtain ⟨rfl, rfl⟩ := y
    exact ⟨W', _, M', Le.refl _, rfl, m, .int _, h'⟩
theorem jr_enm (hX : XOk T r X Wx) {d : D} {a : Addr} (rv : VR T W d (.ref a)) : JR T W (enmJ d) (ZI.ItE X.K (srcOf d a)) := by
  intro W' M' i k no le m h
  have h' : seqS d M' (fun ds => itemAt ds i (fun x => k (.tup false [.int (.ofNat i), x]) M') no) = true := h
  obtain ⟨a', xs, ds, e, hs, rs, h2⟩ := seqS_t hX m (rv.mono le) h'
  cases e
  rcases itemAt_t h2 with ⟨e, q⟩ | ⟨x, e, q⟩
  · exact .inl ⟨⟨xs, hs, by rw [← rs.length, e]⟩, q⟩
  · obtain ⟨v, ev, rx⟩ := rs.get e
    refine .inr ⟨⟨xs, v, hs, ev⟩, fun u H' y => ?_⟩
    obtain ⟨p, z, rfl, hp, rfl, hz⟩ := y
    have := hz xs hs
    rw [ev] at this
    cases this
    have g := grows (o := .tup [.int (i : Nat), v]) hp
    exact ⟨⟨W'.n, W'.ρ, upd W'.H p (.tup [.int (i : Nat), v])⟩, _, M', Le.ext g, rfl, m.ext g, .tup (xs := [.int (i : Nat), v]) upd_same (.cons (.int _) (.cons (rx.mono (Le.ext g)) .nil)), q⟩
theorem jr_zip (hX : XOk T r X Wx) {d e : D} {a b : Addr} (rv : VR T W d (.ref a)) (ru : VR T W e (.ref b)) : JR T W (zipJ d e) (ZI.ItZ X.K (srcOf d a) (srcOf e b)) := by
  intro W' M' i k no le m h
  obtain ⟨a', xs, ds, ea, hs, rs, h2⟩ := seqS_t hX m (rv.mono le) h
  cases ea
  obtain ⟨b', ys, es, eb, hs2, rs2, h3⟩ := seqS_t hX m (ru.mono le) h2
  cases eb
  rcases zipAt_t h3 with ⟨q1, q2, q3, q⟩ | ⟨x, y, e1, e2, q⟩
  · rw [rs.length] at q1 q3
    rw [rs2.length] at q2 q3
    exact .inl ⟨⟨xs, ys, hs, hs2, q1, q2, q3⟩, q⟩
  · obtain ⟨v, ev, rx⟩ := rs.get e1
    obtain ⟨u, eu, ry⟩ := rs2.get e2
    refine .inr ⟨⟨xs, ys, v, u, hs, hs2, ev, eu⟩, fun w H' y => ?_⟩
    obtain ⟨p, z, z2, rfl, hp, rfl, hz, hz2⟩ := y
    have t1 := hz xs hs
    rw [ev] at t1
    cases t1
    have t2 := hz2 ys hs2
    rw [eu] at t2
    cases t2
    have g := grows (o := .tup [v, u]) hp
    exact ⟨⟨W'.n, W'.ρ, upd W'.H p (.tup [v, u])⟩, _, M', Le.ext g, rfl, m.ext g, .tup (xs := [v, u]) upd_same (.cons (rx.mono (Le.ext g)) (.cons (ry.mono (Le.ext g)) .nil)), q⟩
end
section
variable {S : St8} {ci : CI} {pos : Pos}
def cIter (a : CE) : CIt := fun ev σ M k kx => a ev σ M (fun x M => D.casesOn x false false (fun _ => false) (fun _ => false) (fun s => k (strJ s) M) (fun _ => false) (fun _ _ => k (seqJ x) M) (fun l => lstC M l fun _ => k (seqJ x) M) (fun _ => false) (fun _ => false) (fun _ => false) (fun _ => k (seqJ x) M)) kx
theorem si_iter {tg e : Expr} {a : CE} (ha : SE S ci e a) : SI S ci tg e (cIter a) := by
  intro X Wx hX hC W σd σ M k kx R s m h hR hx pins st I
  refine thn (ha X Wx hX hC W σd σ M _ kx (fun v H => (∃ x, v = .str x ∧ R (Its x) H) ∨ ∃ a, v = .ref a ∧ ((∃ xs, SqT X.K H a xs ∧ R (Itt X.K a) H) ∨ (∃ xs, SqL X.K H a xs ∧ R (Itl X.K a) H))) s m h (fun W1 x v M1 l1 m1 r1 h1 => ?_) hx pins st I) fun u s1 ⟨v, H1, I1, rv, q⟩ => ?_
  · cases x with
    | str z => cases r1; exact .inl ⟨_, rfl, hR W1 _ _ M1 l1 m1 jr_str h1⟩
    | tup kb ds =>
      obtain ⟨a, xs, rfl, hs, rs⟩ := r1.sqT hX
      exact .inr ⟨a, rfl, .inl ⟨xs, hs, hR W1 _ _ M1 l1 m1 (jr_seq hX r1) h1⟩⟩
    | lv ds =>
      obtain ⟨a, xs, rfl, hs, rs⟩ := r1.sqLv hX
      exact .inr ⟨a, rfl, .inr ⟨xs, hs, hR W1 _ _ M1 l1 m1 (jr_seq hX r1) h1⟩⟩
    | loc l =>
      obtain ⟨ds, xs, hs, rs, _, _, h2⟩ := m1.lstC h1
      obtain ⟨_, rfl⟩ := r1.loc_at
      exact .inr ⟨_, rfl, .inr ⟨xs, SqL.of hs, hR W1 _ _ M1 l1 m1 (jr_seq hX r1) h2⟩⟩
    | _ => cases h1
  · rcases q with ⟨x, rfl, q⟩ | ⟨a, rfl, ⟨xs, hs, q⟩ | ⟨xs, hs, q⟩⟩
    · obtain ⟨t, rfl⟩ := rv; exact ZI.it_str I1 q
    · cases rv; exact ZI.it_tup I1 hs q
    · cases rv; exact ZI.it_list I1 hs q
/-! range -/
def small62 (i : Int) (b : Bool) : Bool := Int.rec (fun n => chk (Nat.blt n 1000000000000) b) (fun n => chk (Nat.blt n 1000000000000) b) i
theorem small62_t {i : Int} {b : Bool} (h : small62 i b = true) : -(2 ^ 62) ≤ i ∧ i < 2 ^ 62 ∧ b = true := by
  cases i with
  | ofNat n =>
    obtain ⟨h1, h2⟩ := chk_t h
    have := Nat.blt_eq.mp h1
    refine ⟨?_, ?_, h2⟩ <;> (simp only [Int.ofNat_eq_natCast]; omega)
  | negSucc n =>
    obtain ⟨h1, h2⟩ := chk_t h
    have := Nat.blt_eq.mp h1
    refine ⟨?_, ?_, h2⟩ <;> (rw [Int.negSucc_eq]; omega)
def toN (i : Int) (k : Nat → Bool) : Bool := Int.rec (fun n => k n) (fun _ => k 0) i
theorem toN_eq (i : Int) (k) : toN i k = k i.toNat := by cases i <;> rfl
def cRng1 (args : CA) : CIt := fun ev σ M k kx => args ev σ M (fun xs M => arg1 xs fun d => isInt d fun j => small62 j (toN j fun n => k (rngJ (.ofNat 0) n) M)) kx
def cRng2 (args : CA) : CIt := fun ev σ M k kx => args ev σ M (fun xs M => arg2 xs fun d e => isInt d fun i => isInt e fun j => small62 i (small62 j (frI (isub j i) fun z => toN z fun n => k (rngJ i n) M))) kx
theorem si_rng1 {tg a : Expr} {p : Pos} {c : CA} (ha : SA S ci [a] c) (hs : ci.sc.names.lookup ("range" : Str) = some .globalImplicit) (hm : S.T.mg "range" = none) (hst : notStar a = true) : SI S ci tg (.Call (.Name "range" p) [a] [] pos) (cRng1 c) := by
  intro X Wx hX hC W σd σ M k kx R s m h hR hx
  refine tofI (pi_range1 (by unfold Gl Env.kindOf; rw [hC.sc]; exact hs) (by rw [hX.mg]; exact hm) pa_tof (star_cons hst X.env)) (ha X Wx hX hC W σd σ M _ kx _ s m h (fun W1 xs vs M1 l1 m1 r1 h1 => ?_) hx)
  obtain ⟨d, rfl, h2⟩ := arg1_t h1
  obtain ⟨v, rfl, rv⟩ := r1.one
  obtain ⟨j, rfl, h3⟩ := isInt_t h2
  cases rv
  obtain ⟨q1, q2, h4⟩ := small62_t h3
  rw [toN_eq] at h4
  exact ⟨j, rfl, q1, q2, hR W1 _ _ M1 l1 m1 jr_rng h4⟩
theorem si_rng2 {tg a b : Expr} {p : Pos} {c : CA} (ha : SA S ci [a, b] c) (hs : ci.sc.names.lookup ("range" : Str) = some .globalImplicit) (hm : S.T.mg "range" = none) (hst : notStar a = true) (hst2 : notStar b = true) : SI S ci tg (.Call (.Name "range" p) [a, b] [] pos) (cRng2 c) := by
  intro X Wx hX hC W σd σ M k kx R s m h hR hx
  refine tofI (pi_range2 (by unfold Gl Env.kindOf; rw [hC.sc]; exact hs) (by rw [hX.mg]; exact hm) pa_tof (by rw [star_cons hst, star_cons hst2]; rfl) (star_cons hst2 X.env)) (ha X Wx hX hC W σd σ M _ kx _ s m h (fun W1 xs vs M1 l1 m1 r1 h1 => ?_) hx)
  obtain ⟨d, e, rfl, h2⟩ := arg2_t h1
  obtain ⟨v, u, rfl, rv, ru⟩ := r1.two
  obtain ⟨i, rfl, h3⟩ := isInt_t h2
  obtain ⟨j, rfl, h4⟩ := isInt_t h3
  cases rv; cases ru
  obtain ⟨q1, q2, h5⟩ := small62_t h4
  obtain ⟨q3, q4, h6⟩ := small62_t h5
  rw [frI_eq, isub_eq, toN_eq] at h6
  exact ⟨i, j, rfl, ⟨q1, q2, q3, q4⟩, hR W1 _ _ M1 l1 m1 jr_rng h6⟩
/-! enumerate, zip -/
def cEnm (args : CA) : CIt := fun ev σ M k kx => args ev σ M (fun xs M => arg1 xs fun d => seqS d M fun _ => k (enmJ d) M) kx
def cZip (args : CA) : CIt := fun ev σ M k kx => args ev σ M (fun xs M => arg2 xs fun d e => seqS d M fun _ => seqS e M fun _ => k (zipJ d e) M) kx
theorem si_enm {elts : List Expr} {kk : Nat} {tpos : Pos} {a : Expr} {p : Pos} {c : CA} (ha : SA S ci [a] c) (hs : ci.sc.names.lookup ("enumerate" : Str) = some .globalImplicit) (hm : S.T.mg "enumerate" = none) (hst : notStar a = true) :
    SI S ci (.Tuple elts kk tpos) (.Call (.Name "enumerate" p) [a] [] pos) (cEnm c) := by
  intro X Wx hX hC W σd σ M k kx R s m h hR hx pins st I
  refine Call_ (ld_blt I (by unfold Gl Env.kindOf; rw [hC.sc]; exact hs) (by rw [hX.mg]; exact hm) boot_enumerate (PyProof.Rows.callWith_type1 (thn (ha X Wx hX hC W σd σ M _ kx (fun vs H => ∃ (c : ZI.Src) (xs : List V), vs = [.ref c.ad] ∧ c.Sq X.K H xs ∧ R (ZI.ItE X.K c) H) s m h (fun W1 xs vs M1 l1 m1 r1 h1 => ?_) hx pos pins st I)
    fun us s1 ⟨vs, H1, I1, r1, c, xs, ev, hq, q⟩ => ?_) (star_cons hst X.env) rfl))
  · obtain ⟨d, rfl, h2⟩ := arg1_t h1
    obtain ⟨v, rfl, rv⟩ := r1.one
    obtain ⟨a, xs, ds, rfl, hq, rs, h3⟩ := seqS_t hX m1 rv h2
    refine ⟨srcOf d a, xs, by rw [srcOf_ad], hq, hR W1 _ _ M1 l1 m1 (jr_enm hX rv) h3⟩
  · subst ev
    rw [Vals.ref1 r1]
    exact ZI.enum_it I1 hX.calm hq q
theorem si_zip {elts : List Expr} {kk : Nat} {tpos : Pos} {a b : Expr} {p : Pos} {c : CA} (ha : SA S ci [a, b] c) (hs : ci.sc.names.lookup ("zip" : Str) = some .globalImplicit) (hm : S.T.mg "zip" = none) (hst : notStar a = true) (hst2 : notStar b = true) :
    SI S ci (.Tuple elts kk tpos) (.Call (.Name "zip" p) [a, b] [] pos) (cZip c) := by
  intro X Wx hX hC W σd σ M k kx R s m h hR hx pins st I
  refine Call_ (ld_blt I (by unfold Gl Env.kindOf; rw [hC.sc]; exact hs) (by rw [hX.mg]; exact hm) PyProof.Rows.boot_zip (PyProof.Rows.callWith_type1 (thn (ha X Wx hX hC W σd σ M _ kx (fun vs H => ∃ (c d : ZI.Src) (xs ys : List V), vs = [.ref c.ad, .ref d.ad] ∧ c.Sq X.K H xs ∧ d.Sq X.K H ys ∧ R (ZI.ItZ X.K c d) H) s m h (fun W1 xs vs M1 l1 m1 r1 h1 => ?_) hx pos pins st I)
    fun us s1 ⟨vs, H1, I1, r1, c, d, xs, ys, ev, hq, hq2, q⟩ => ?_) (star_cons hst X.env) (star_plain (es := [b]) (by show (notStar b && true) = true; rw [hst2]; rfl) X.env pos)))
  · obtain ⟨d, e, rfl, h2⟩ := arg2_t h1
    obtain ⟨v, u, rfl, rv, ru⟩ := r1.two
    obtain ⟨a, xs, ds, rfl, hq, rs, h3⟩ := seqS_t hX m1 rv h2
    obtain ⟨b, ys, es, rfl, hq2, rs2, h4⟩ := seqS_t hX m1 ru h3
    exact ⟨srcOf d a, srcOf e b, xs, ys, by rw [srcOf_ad, srcOf_ad], hq, hq2, hR W1 _ _ M1 l1 m1 (jr_zip hX rv ru) h4⟩
  · subst ev
    obtain ⟨u1, u2, rfl, q1, q2⟩ := Vals.two r1
    cases q1; cases q2
    exact ZI.zip_it I1 hX.calm hq hq2 q
end

/-! ### for, while -/
def fuel : Nat := 1000000
def forK (J : JD) (turn : D → SEnv → Sto → (SEnv → Sto → Bool) → Bool) (fin : SEnv → Sto → Bool) : Nat → Nat → SEnv → Sto → Bool :=
  Nat.rec (fun _ _ _ => false) fun _ ih i σ M => J i M (fun d M => turn d σ M fun σ M => frN (Nat.succ i) fun j => ih j σ M) (fin σ M)
def cFor (it : CIt) (g : CG) (b : CS) : CS := fun ev σ M ks kx => it ev σ M (fun J M => forK J (fun d σ M nx => g ev d σ M (fun σ M => b ev σ M ⟨nx, ks.rt, ks.nx, nx⟩ kx) kx) ks.nx fuel 0 σ M) kx
def whK (turn : SEnv → Sto → (SEnv → Sto → Bool) → Bool) : Nat → SEnv → Sto → Bool := Nat.rec (fun _ _ => false) fun _ ih σ M => turn σ M ih
def cWhile (c : CB) (b : CS) : CS := fun ev σ M ks kx => whK (fun σ M nx => c ev σ M (fun t M => Bool.rec (ks.nx σ M) (b ev σ M ⟨nx, ks.rt, ks.nx, nx⟩ kx) t) kx) fuel σ M
section
variable {S : St8} {ci : CI} {pos : Pos}
/-- no set display -/
def notSet : Expr → Bool
  | .Set .. => false
  | _ => true
theorem fold_no {e : Expr} (h : notSet e = true) (env : Env) : ∀ x, foldedSetIterable e env x = pure x := by
  intro x
  cases e <;> first | rfl | (simp [notSet] at h; done)
theorem ss_for {tg iter : Expr} {body : List Stmt} {vs : List Nat} {it : CIt} {g : CG} {b : CS} (hi : SI S ci tg iter it) (hg : SG S ci tg vs g) (hb : SSs S ci body b) (hn : notSet iter = true) : SS S ci (.For tg iter body [] pos) (cFor it g b) := by
  intro X Wx hX hS hC W σd σ M ks kx D s m h hD hx
  refine tofS (ps_for hS.pass hX.calm pi_tof pg_tof pss_tof (fold_no hn X.env)) (hi X Wx hX hC W σd σ M _ kx _ s m h (fun W1 J It M1 l1 m1 jr h1 => ?_) (hx σ))
  refine ⟨fun i f σ H => ∃ W' σd M', Le W1 W' ∧ W'.H = H ∧ SR S.T W' σd σ ∧ MR S.T W' M' ∧ forK J (fun d σ M nx => g S.ev d σ M (fun σ M => b S.ev σ M ⟨nx, ks.rt, ks.nx, nx⟩ kx) kx) ks.nx f i σd M' = true, ⟨fuel, W1, σd, M1, Le.refl _, rfl, s.mono l1, m1, h1⟩, ?_⟩
  rintro i f σ H ⟨W2, σ2, M2, l2, rfl, s2, m2, h2⟩
  cases f with
  | zero => cases h2
  | succ f =>
    rcases jr W2 M2 i _ _ l2 m2 h2 with ⟨st, q⟩ | ⟨go, q⟩
    · exact .inl ⟨st, hD.nx W2 σ2 σ M2 (l1.trans l2) m2 s2 q⟩
    · refine .inr ⟨go, fun σ H => ∃ W' σd M', Le W1 W' ∧ W'.H = H ∧ SR S.T W' σd σ ∧ MR S.T W' M' ∧ forK J (fun d σ M nx => g S.ev d σ M (fun σ M => b S.ev σ M ⟨nx, ks.rt, ks.nx, nx⟩ kx) kx) ks.nx f (i + 1) σd M' = true, fun σ' H' w => ⟨f, Nat.lt_succ_self _, w⟩, fun x H' y => ?_⟩
      obtain ⟨W3, d, M3, l3, rfl, m3, r3, h3⟩ := q x H' y
      have l13 := l2.trans l3
      refine hg X Wx hX hC W3 d x σ2 σ M3 _ kx _ (s2.mono l3) m3 r3 h3 (fun W4 σ4d σ4 M4 l4 m4 s4 _ h4 => ?_) (fun W' σ' l' _ => (hx.mono ((l1.trans l13).trans l')) σ')
      have again : PSt S.T W4 (fun σ M => frN (Nat.succ i) fun j => forK J (fun d σ M nx => g S.ev d σ M (fun σ M => b S.ev σ M ⟨nx, ks.rt, ks.nx, nx⟩ kx) kx) ks.nx f j σ M) (fun σ H => ∃ W' σd M', Le W1 W' ∧ W'.H = H ∧ SR S.T W' σd σ ∧ MR S.T W' M' ∧ forK J (fun d σ M nx => g S.ev d σ M (fun σ M => b S.ev σ M ⟨nx, ks.rt, ks.nx, nx⟩ kx) kx) ks.nx f (i + 1) σd M' = true) :=
        fun W5 σ5d σ5 M5 l5 m5 s5 h5 => ⟨W5, σ5d, M5, (l13.trans l4).trans l5, rfl, s5, m5, (frN_eq (Nat.succ i) _).symm.trans h5⟩
      exact hb X Wx hX hS hC W4 σ4d σ4 M4 _ kx _ s4 m4 h4 ⟨again, hD.rt.mono ((l1.trans l13).trans l4), hD.nx.mono ((l1.trans l13).trans l4), again⟩ (hx.mono ((l1.trans l13).trans l4))
theorem ss_while {c : Expr} {body : List Stmt} {cc : CB} {b : CS} (hc : STt S ci c cc) (hb : SSs S ci body b) : SS S ci (.While c body [] pos) (cWhile cc b) := by
  intro X Wx hX hS hC W σd σ M ks kx D s m h hD hx
  refine tofS (ps_while hS.pass pt_tof pss_tof) ?_
  refine ⟨fun f σ H => ∃ W' σd M', Le W W' ∧ W'.H = H ∧ SR S.T W' σd σ ∧ MR S.T W' M' ∧ whK (fun σ M nx => cc S.ev σ M (fun t M => Bool.rec (ks.nx σ M) (b S.ev σ M ⟨nx, ks.rt, ks.nx, nx⟩ kx) t) kx) f σd M' = true, ⟨fuel, W, σd, M, Le.refl _, rfl, s, m, h⟩, ?_⟩
  rintro f σ H ⟨W2, σ2, M2, l2, rfl, s2, m2, h2⟩
  cases f with
  | zero => cases h2
  | succ f =>
    refine hc X Wx hX hC W2 σ2 σ M2 _ kx _ s2 m2 h2 (fun W3 t M3 l3 m3 h3 => ?_) ((hx.mono l2) σ)
    cases t with
    | false => rw [if_neg Bool.false_ne_true]; exact hD.nx W3 σ2 σ M3 (l2.trans l3) m3 (s2.mono l3) h3
    | true =>
      rw [if_pos rfl]
      refine ⟨fun σ H => ∃ W' σd M', Le W W' ∧ W'.H = H ∧ SR S.T W' σd σ ∧ MR S.T W' M' ∧ whK (fun σ M nx => cc S.ev σ M (fun t M => Bool.rec (ks.nx σ M) (b S.ev σ M ⟨nx, ks.rt, ks.nx, nx⟩ kx) t) kx) f σd M' = true, fun σ' H' w => ⟨f, Nat.lt_succ_self _, w⟩, ?_⟩
      have again : PSt S.T W3 (whK (fun σ M nx => cc S.ev σ M (fun t M => Bool.rec (ks.nx σ M) (b S.ev σ M ⟨nx, ks.rt, ks.nx, nx⟩ kx) t) kx) f) (fun σ H => ∃ W' σd M', Le W W' ∧ W'.H = H ∧ SR S.T W' σd σ ∧ MR S.T W' M' ∧ whK (fun σ M nx => cc S.ev σ M (fun t M => Bool.rec (ks.nx σ M) (b S.ev σ M ⟨nx, ks.rt, ks.nx, nx⟩ kx) t) kx) f σd M' = true) :=
        fun W5 σ5d σ5 M5 l5 m5 s5 h5 => ⟨W5, σ5d, M5, (l2.trans l3).trans l5, rfl, s5, m5, h5⟩
      exact hb X Wx hX hS hC W3 σ2 σ M3 _ kx _ (s2.mono l3) m3 h3 ⟨again, hD.rt.mono (l2.trans l3), hD.nx.mono (l2.trans l3), again⟩ (hx.mono (l2.trans l3))
end
end Z
end
set_option Elab.async false
set_option autoImplicit false
set_option linter.all false
set_option maxRecDepth 100000
set_option maxHeartbeats 1000000
/-! Z10: assignments. -/
noncomputable section
namespace Z
open PySem PySem.Spec PyProof.Rows L2

/-! ### in place -/
section
variable {T : Tb} {r : Nat}
def gIAdd : G2 := fun a b M f => D.casesOn a false false (fun _ => false) (fun i => isInt b fun j => frI (iadd i j) fun z => f (.int z) M) (fun s => isStr b fun t => appK s t fun u => shortL u (f (.str u) M)) (fun _ => false) (fun _ _ => false)
  (fun l => isLoc b fun l2 => lstC M l fun xs => lstC M l2 fun zs => appK xs zs fun ys => shortL ys (setC M l (.lst ys) fun M' => f (.loc l) M')) (fun _ => false) (fun _ => false) (fun _ => false) (fun _ => false)
theorem iadd_ok : Op2 T r (inplaceOp .Add) gIAdd := by
  intro X Wx hX W a b x y M k Q m ra rb h hQ
  cases a with
  | int i =>
    obtain ⟨j, rfl, h1⟩ := isInt_t h
    rw [frI_eq, iadd_eq] at h1
    cases ra; cases rb
    exact rS_of iop_add ⟨i, j, rfl, rfl, hQ.here m (.int _) h1⟩
  | str s =>
    obtain ⟨t, rfl, h1⟩ := isStr_t h
    rw [appK_eq] at h1
    obtain ⟨hl, h2⟩ := shortL_t h1
    cases ra; cases rb
    refine rS_of iop_add_str ⟨toS s, toS t, rfl, rfl, ?_, ?_⟩
    · rw [toS_length, toS_length, ← List.length_append]; exact hl
    · rw [← toS_app]; exact hQ.here m (.str _) h2
  | loc l =>
    obtain ⟨l2, rfl, h1⟩ := isLoc_t h
    obtain ⟨ds, xs, e1, r1, hl, _, h2⟩ := m.lstC h1
    obtain ⟨es, ys, e2, r2, _, _, h3⟩ := m.lstC h2
    rw [appK_eq] at h3
    obtain ⟨hs, h4⟩ := shortL_t h3
    have ra' := ra
    obtain ⟨_, rfl⟩ := ra.loc_at
    obtain ⟨_, rfl⟩ := rb.loc_at
    obtain ⟨le, m'⟩ := mr_lset m hl e1 (r1.append r2)
    exact rS_of iop_ext ⟨_, _, xs, ys, rfl, rfl, e1, e2, by rw [← r1.length, ← r2.length, ← List.length_append]; exact hs, hQ _ _ _ _ le m' (ra'.mono le) (setC_t h4)⟩
  | _ => cases h
def gISub : G2 := gSub
theorem isub_ok : Op2 T r (inplaceOp .Sub) gISub := by
  intro X Wx hX W a b x y M k Q m ra rb h hQ
  obtain ⟨i, rfl, h1⟩ := isInt_t h
  obtain ⟨j, rfl, h2⟩ := isInt_t h1
  rw [frI_eq, isub_eq] at h2
  cases ra; cases rb
  exact rS_of iop_sub ⟨i, j, rfl, rfl, hQ.here m (.int _) h2⟩
def gIMul : G2 := fun a b M f => isInt a fun i => isInt b fun j => gMulI i j M f
theorem imul_ok : Op2 T r (inplaceOp .Mult) gIMul := by
  intro X Wx hX W a b x y M k Q m ra rb h hQ
  obtain ⟨i, rfl, h1⟩ := isInt_t h
  obtain ⟨j, rfl, h2⟩ := isInt_t h1
  obtain ⟨h3, h4⟩ := chk_t h2
  rw [frI_eq, imul_eq] at h4
  cases ra; cases rb
  refine rS_of (q := rI CMulW fun i j => .int (i * j)) (opI fun _ _ _ _ _ _ _ hc q => imul_int q hc.ok) ⟨i, j, rfl, rfl, Nat.blt_eq.mp h3, hQ.here m (.int _) h4⟩
def gIDiv : G2 := fun a b M f => isInt a fun i => isInt b fun j => Int.rec (fun n => chk (Nat.blt 0 n) (chk (Nat.blt (Nat.log2 n) 9000) (frI (idivP i n) fun z => f (.int z) M))) (fun _ => false) j
theorem idiv_ok : Op2 T r (inplaceOp .FloorDiv) gIDiv := by
  intro X Wx hX W a b x y M k Q m ra rb h hQ
  obtain ⟨i, rfl, h1⟩ := isInt_t h
  obtain ⟨j, rfl, h2⟩ := isInt_t h1
  cases ra; cases rb
  cases j with
  | ofNat n =>
    obtain ⟨h3, h4⟩ := chk_t h2
    obtain ⟨h5, h6⟩ := chk_t h4
    have n0 := Nat.blt_eq.mp h3
    rw [frI_eq, idivP_eq _ _ n0] at h6
    exact rS_of iop_fdivW ⟨i, _, rfl, rfl, ⟨by simp only [Int.ofNat_eq_natCast]; omega, Nat.blt_eq.mp h5⟩, hQ.here m (.int _) h6⟩
  | negSucc n => cases h2
theorem imod_ok : Op2 T r (inplaceOp .Mod) gMod := by
  intro X Wx hX W a b x y M k Q m ra rb h hQ
  obtain ⟨i, rfl, h1⟩ := isInt_t h
  obtain ⟨j, rfl, h2⟩ := isInt_t h1
  cases ra; cases rb
  cases j with
  | ofNat n =>
    obtain ⟨h3, h4⟩ := chk_t h2
    have n0 := Nat.blt_eq.mp h3
    rw [frI_eq, imodP_eq _ _ n0] at h4
    exact rS_of iop_mod ⟨i, _, rfl, rfl, by simp only [Int.ofNat_eq_natCast]; omega, hQ.here m (.int _) h4⟩
  | negSucc n => cases h2
end
/-- name op= e -/
def cAug (i : Nat) (a : CE) (g : G2) : CS := fun ev σ M ks kx => nthK σ i fun x => notU x (a ev σ M (fun y M => g x y M fun z M => setK σ i z fun σ' => ks.nx σ' M) kx)
section
variable {S : St8} {ci : CI} {pos : Pos}
theorem pip_S {X : Cx} {op : Operator} : PIp X op (rS X (inplaceOp op)) := fun pins s σ H x y v u Q I r1 r2 h => h pins s σ v u I r1 r2
theorem ss_aug {x : Str} {i : Nat} {e : Expr} {a : CE} {op : Operator} {g : G2} {pos' : Pos} (ha : SE S ci e a) (hg : Op2 S.T S.r (inplaceOp op) g) (hN : ci.N[i]? = some x) (ho : ownB ci.own x = true) : SS S ci (.AugAssign (.Name x pos') op e pos) (cAug i a g) := by
  intro X Wx hX hS hC W σd σ M ks kx D s m h hD hx
  obtain ⟨d, e1, h1⟩ := nthK_t h
  obtain ⟨hu, h2⟩ := notU_t h1
  obtain ⟨hl, hf⟩ := hC.loc ho
  rcases s.at_ i d e1 with z | ⟨v, ev, rv⟩
  · exact absurd z hu
  · refine tofS (ps_aug hX.nd (by rw [hC.N]; exact hN) hl pe_tof pip_S hf) ⟨v, ev, ha X Wx hX hC W σd σ M _ kx _ s m h2 (fun W1 y u M1 l1 m1 r1 h3 => ?_) (hx σ)⟩
    refine hg X Wx hX W1 d y v u M1 _ _ m1 (rv.mono l1) r1 h3 (fun W2 z w M2 l2 m2 r2 h4 => ?_)
    obtain ⟨_, h5⟩ := setK_t h4
    exact hD.nx W2 _ _ M2 (l1.trans l2) m2 ((s.mono (l1.trans l2)).set r2 i) h5

/-! ### target = value -/
/-- the value goes by its own road to the target -/
def swF (sc : Scope) (tg e : Expr) : Bool := match e, tg with
  | .ListComp _ _ s pe, .Name t p => !(sc.names.lookup t == some .local && p.line == pe.line && !(s.names.any fun (n, k) => n == t && (k == .local || k == .cell)))
  | .ListComp .., _ => true
  | .SetComp .., _ => false
  | .DictComp _ _ _ s pe, .Name t p => !(sc.names.lookup t == some .local && p.line == pe.line && !(s.names.any fun (n, k) => n == t && (k == .local || k == .cell)))
  | .DictComp .., _ => true
  | _, _ => true
theorem swF_ok {sc : Scope} {tg e : Expr} {env : Env} (h : swF sc tg e = true) (hs : env.scope = sc) (hk : env.scope.kind = .function) (l : Nat) : swapsWithSole [tg] e l env = pure false := by
  have hb : env.blockKind = .function := by unfold Env.blockKind; rw [hk]; rfl
  have go : ∀ {t : Str} {s : Scope} {p pe : Pos}, (!(sc.names.lookup t == some .local && p.line == pe.line && !(s.names.any fun (n, k) => n == t && (k == .local || k == .cell)))) = true →
      (env.blockKind == .function && env.kindOf t == some .local && p.line == pe.line && !(s.names.any fun (n, k) => n == t && (k == .local || k == .cell))) = false := fun {t s p pe} z => by
    unfold Env.kindOf
    rw [hb, hs]
    generalize (sc.names.lookup t == some .local) = A at z ⊢
    generalize (p.line == pe.line) = B at z ⊢
    generalize (s.names.any fun (n, k) => n == t && (k == .local || k == .cell)) = C at z ⊢
    cases A <;> cases B <;> cases C <;> first | rfl | (simp at z; done)
  show swapsWith e (some tg) l env = pure false
  cases e with
  | ListComp elt gs s pe =>
    cases tg with
    | Name t p =>
      show (pure (env.blockKind == .function && env.kindOf t == some .local && p.line == pe.line && !(s.names.any fun (n, k) => n == t && (k == .local || k == .cell))) : Sem Bool) = pure false
      rw [go h]
    | _ => rfl
  | DictComp k v gs s pe =>
    cases tg with
    | Name t p =>
      show (pure (env.blockKind == .function && env.kindOf t == some .local && p.line == pe.line && !(s.names.any fun (n, k) => n == t && (k == .local || k == .cell))) : Sem Bool) = pure false
      rw [go h]
    | _ => rfl
  | SetComp => simp [swF] at h
  | _ => rfl
/-- no swapped stores -/
def swN (sc : Scope) (tg e : Expr) : Bool := match tg, e with
  | .Tuple ts _ _, .Tuple vs _ _ => (match swB sc ts vs with
    | some none => true
    | _ => false)
  | .List _ _, _ => false
  | _, _ => true
theorem swN_ok {sc : Scope} {tg e : Expr} {env : Env} (h : swN sc tg e = true) (hs : env.scope = sc) (hk : env.scope.kind = .function) : swappedStores [tg] e env = pure none := by
  cases tg with
  | Tuple ts k p =>
    cases e with
    | Tuple vs k2 p2 =>
      unfold swN at h
      simp only at h
      split at h
      · exact swB_ok hs (by rw [← hs]; exact hk) (by assumption)
      · cases h
    | _ => rfl
  | List => simp [swN] at h
  | _ => cases e <;> rfl
theorem ss_asg {tg e : Expr} {vs : List Nat} {a : CE} {g : CG} (ha : SE S ci e a) (hg : SG S ci tg vs g) (h1 : swF ci.sc tg e = true) (h2 : swN ci.sc tg e = true) (h3 : notStar tg = true) : SS S ci (.Assign [tg] e pos) (cAsg a g) :=
  fun X Wx hX hS hC W σd σ M ks kx D s m h hD hx => tofS (ps_asg pe_tof pg_tof (swF_ok h1 hC.sc hS.kind _) (swN_ok h2 hC.sc hS.kind) (by rw [each_cons h3]; rfl)) (ss_asg0 ha hg hX hC s m h hD hx)
def cPar (i j : Nat) (c : CA) : CS := fun ev σ M ks kx => c ev σ M (fun xs M => arg2 xs fun x y => setK σ i x fun σ => setK σ j y fun σ => ks.nx σ M) kx
def isLocal (sc : Scope) (x : Str) : Bool := match sc.names.lookup x with
  | some .local => true
  | _ => false
theorem isLocal_t {sc : Scope} {x : Str} (h : isLocal sc x = true) : sc.names.lookup x = some .local := by
  unfold isLocal at h
  split at h <;> first | assumption | cases h
theorem ss_par {x y : Str} {i j : Nat} {a b : Expr} {c : CA} {px py pt pt2 : Pos} {kt k2 : Nat} (ha : SA S ci [a, b] c) (hi : ci.N[i]? = some x) (hj : ci.N[j]? = some y) (hij : i ≠ j) (lx : isLocal ci.sc x = true) (ly : isLocal ci.sc y = true)
    (hw : swB ci.sc [.Name x px, .Name y py] [a, b] = some (some [x, y])) : SS S ci (.Assign [.Tuple [.Name x px, .Name y py] kt pt] (.Tuple [a, b] k2 pt2) pos) (cPar i j c) :=
  fun X Wx hX hS hC W σd σ M ks kx D s m h hD hx => tofS (ps_par hX.calm hX.nd (by rw [hC.N]; exact hi) (by rw [hC.N]; exact hj) hij (by rw [hC.sc]; exact isLocal_t lx) (by rw [hC.sc]; exact isLocal_t ly) pa_tof (swB_ok hC.sc (by rw [← hC.sc]; exact hS.kind) hw))
    (ha X Wx hX hC W σd σ M _ kx _ s m h (fun W1 xs vs M1 l1 m1 r1 h1 => by
      obtain ⟨d, e, rfl, h2⟩ := arg2_t h1
      obtain ⟨v, u, rfl, rv, ru⟩ := r1.two
      obtain ⟨_, h3⟩ := setK_t h2
      obtain ⟨_, h4⟩ := setK_t h3
      exact ⟨v, u, rfl, hD.nx W1 _ _ M1 l1 m1 (((s.mono l1).set rv i).set ru j) h4⟩) (hx σ))
def arg3 (ds : List D) (k : D → D → D → Bool) : Bool := List.casesOn ds false fun d r => arg2 r fun e f => k d e f
theorem arg3_t {ds : List D} {k} (h : arg3 ds k = true) : ∃ d e f, ds = [d, e, f] ∧ k d e f = true := by
  cases ds with
  | nil => cases h
  | cons d r => obtain ⟨e, f, rfl, h2⟩ := arg2_t (ds := r) h; exact ⟨d, e, f, rfl, h2⟩
theorem VRs.three {T : Tb} {W : Wd} {d e f : D} {vs : List V} (h : VRs T W [d, e, f] vs) : ∃ v u w, vs = [v, u, w] ∧ VR T W d v ∧ VR T W e u ∧ VR T W f w := by
  cases h with
  | cons h t =>
    obtain ⟨u, w, rfl, h1, h2⟩ := t.two
    exact ⟨_, _, _, rfl, h, h1, h2⟩
def cPar3 (i j l : Nat) (c : CA) : CS := fun ev σ M ks kx => c ev σ M (fun xs M => arg3 xs fun x y z => setK σ i x fun σ => setK σ j y fun σ => setK σ l z fun σ => ks.nx σ M) kx
theorem ss_par3 {x y z : Str} {i j l : Nat} {a b e : Expr} {c : CA} {px py pz pt pt2 : Pos} {kt k2 : Nat} (ha : SA S ci [a, b, e] c) (hi : ci.N[i]? = some x) (hj : ci.N[j]? = some y) (hl : ci.N[l]? = some z) (hij : i ≠ j) (hil : i ≠ l) (hjl : j ≠ l)
    (lx : isLocal ci.sc x = true) (ly : isLocal ci.sc y = true) (lz : isLocal ci.sc z = true) (hw : swB ci.sc [.Name x px, .Name y py, .Name z pz] [a, b, e] = some (some [x, y, z])) :
    SS S ci (.Assign [.Tuple [.Name x px, .Name y py, .Name z pz] kt pt] (.Tuple [a, b, e] k2 pt2) pos) (cPar3 i j l c) :=
  fun X Wx hX hS hC W σd σ M ks kx D s m h hD hx => tofS (ps_par3 hX.calm hX.nd (by rw [hC.N]; exact hi) (by rw [hC.N]; exact hj) (by rw [hC.N]; exact hl) hij hil hjl (by rw [hC.sc]; exact isLocal_t lx) (by rw [hC.sc]; exact isLocal_t ly) (by rw [hC.sc]; exact isLocal_t lz) pa_tof (swB_ok hC.sc (by rw [← hC.sc]; exact hS.kind) hw))
    (ha X Wx hX hC W σd σ M _ kx _ s m h (fun W1 xs vs M1 l1 m1 r1 h1 => by
      obtain ⟨d, e, f, rfl, h2⟩ := arg3_t h1
      obtain ⟨v, u, w, rfl, rv, ru, rw'⟩ := r1.three
      obtain ⟨_, h3⟩ := setK_t h2
      obtain ⟨_, h4⟩ := setK_t h3
      obtain ⟨_, h5⟩ := setK_t h4
      exact ⟨v, u, w, rfl, hD.nx W1 _ _ M1 l1 m1 ((((s.mono l1).set rv i).set ru j).set rw' l) h5⟩) (hx σ))
end
end Z
end
set_option Elab.async false
set_option autoImplicit false
set_option linter.all false
set_option maxRecDepth 100000
set_option maxHeartbeats 2000000
/-! ZC: list comprehensions of any number of clauses. -/
noncomputable section
namespace Z
open PySem PySem.Spec PyProof.Rows L2

/-! ### the model's turn -/
section
variable {prog : Program} {w : World} {A : Around} {R : Result → Shared → Prop} {s : Shared} {elt t i : Expr} {ifs : List Expr} {gens : List Comprehension} {scope : Scope} {pos : Pos} {depth : Nat} {it acc : Value} {env : Env}
/-- what a turn does behind its tests -/
def actW (prog : Program) (w : World) (A : Around) (elt : Expr) (gens : List Comprehension) (scope : Scope) (pos : Pos) (depth : Nat) (acc : Value) (env : Env) (N : Value → Shared → Prop) (Q : Shared → Prop) (s : Shared) : Prop :=
  match gens[depth + 1]? with
  | some g' => wpAny (model prog w) A (eval g'.iter env) (fun x s₄ => wpAny (model prog w) A (pyIter x) (fun it1 s₅ =>
      codeAny (model prog w) A (.compStart (.ListComp elt gens scope pos) (depth + 1) it1 acc env) (fun r s' => match r with
        | .ok _ => Q s'
        | .error _ => False) s₅) N s₄) N s
  | none => wpAny (model prog w) A (eval elt env) (fun x s₄ => wpAny (model prog w) A (call (.builtin "list.append") [acc, x]) (fun _ s₅ => Q s₅) N s₄) N s
theorem loop_at (hg : gens[depth]? = some ⟨t, i, ifs, 0⟩) (hn : ∀ g', gens[depth + 1]? = some g' → g'.is_async = 0 ∧ ∀ x, foldedSetIterable g'.iter env x = pure x) (I : Nat → Shared → Prop)
    (turn : ∀ n s, I n s → wpAny (model prog w) A (pyNext it) (fun r s₁ => match r with
      | none => R (.ok .next) s₁
      | some v => wpAny (model prog w) A (letOwnedTupleGo t it v) (fun _ s₁' => wpAny (model prog w) A (assign t env v) (fun _ s₂ =>
          wpAny (model prog w) A (forIn ifs true fun c r => if r = true then do let ok ← isTrue c env (eval c env); pure (ForInStep.yield ok) else pure (ForInStep.yield r)) (fun ok s₃ =>
            if ok = true then actW prog w A elt gens scope pos depth acc env (notedBy (model prog w) A env fun e s' => R (.error e) s') (fun s₄ => ∃ m, m < n ∧ I m s₄) s₃
            else ∃ m, m < n ∧ I m s₃) (notedBy (model prog w) A env fun e s' => R (.error e) s') s₂) (notedBy (model prog w) A env fun e s' => R (.error e) s') s₁') (notedBy (model prog w) A env fun e s' => R (.error e) s') s₁) (notedBy (model prog w) A env fun e s' => R (.error e) s') s)
    (n : Nat) (h : I n s) :
    codeAny (model prog w) A (.compLoop (.ListComp elt gens scope pos) depth it acc env) R s := by
  refine codeAny_loop rfl I (fun n s hI => ?_) n h
  show wpAny _ A ((compTurn (.ListComp elt gens scope pos) depth it acc env).onRaise (fun x => do noteFrame x env; theTreesLotGoes x)) _ _ s
  refine wpAny_noted ?_
  unfold compTurn
  simp only [hg]
  refine wpAny_bind (wpAny_standAt ?_)
  refine wpAny_bind (wpAny_mono (turn n s hI) (fun r s₁ h₁ => ?_) fun _ _ h' => h')
  cases r with
  | none => exact wpAny_pure h₁
  | some v =>
    refine wpAny_bind (wpAny_mono h₁ (fun _ s₁' h₁' => ?_) fun _ _ h' => h')
    refine wpAny_bind (wpAny_mono h₁' (fun _ s₂ h₂ => wpAny_bind (wpAny_mono h₂ (fun ok s₃ h₃ => ?_) fun _ _ h' => h')) fun _ _ h' => h')
    cases ok with
    | false => exact wpAny_pure ⟨rfl, h₃⟩
    | true =>
      have h₃ : actW prog w A elt gens scope pos depth acc env (notedBy (model prog w) A env fun e s' => R (.error e) s') (fun s₄ => ∃ m, m < n ∧ I m s₄) s₃ := h₃
      unfold actW at h₃
      cases q : gens[depth + 1]? with
      | none =>
        simp only [q] at h₃
        exact wpAny_bind (wpAny_bind (wpAny_mono h₃ (fun x s₄ h₄ => wpAny_bind (wpAny_mono h₄ (fun _ s₅ h₅ => wpAny_pure (wpAny_pure ⟨rfl, h₅⟩)) fun _ _ h' => h')) fun _ _ h' => h'))
      | some g' =>
        simp only [q] at h₃
        obtain ⟨ha, hs⟩ := hn g' q
        obtain ⟨t', i', ifs', a'⟩ := g'
        simp only at ha
        subst ha
        refine wpAny_bind (wpAny_mono h₃ (fun x s₄ h₄ => ?_) fun _ _ h' => h')
        refine wpAny_bind (wpAny_standAt ?_)
        refine wpAny_bind (wpAny_of_eq (hs x) (wpAny_bind (wpAny_holding (wpAny_mono h₄ (fun it1 s₅ h₅ => ?_) fun _ _ h' => h'))))
        refine wpAny_bind (wpAny_runOwn ?_)
        rw [Around.mark_none]
        refine codeAny_mono h₅ fun r s' hr => ?_
        cases r with
        | ok f =>
          first
            | exact wpAny_pure ⟨rfl, hr⟩
            | exact wpAny_bind (wpAny_pure (wpAny_pure ⟨rfl, hr⟩))
        | error e => exact hr.elim
theorem start_at (hg : gens[depth]? = some ⟨t, i, ifs, 0⟩) (h0 : codeAny (model prog w) A (.compLoop (.ListComp elt gens scope pos) depth it acc env) R s)
    (h : wpAny (model prog w) A (pyIter it) (fun it' s' => codeAny (model prog w) A (.compLoop (.ListComp elt gens scope pos) depth it' acc env) R s')
      (notedBy (model prog w) A env fun x s' => R (.error x) s') s) :
    codeAny (model prog w) A (.compStart (.ListComp elt gens scope pos) depth it acc env) R s := by
  refine codeAny_of_tree ?_
  show wpAny _ _ ((compStart (.ListComp elt gens scope pos) depth it acc env).onRaise (fun x => do noteFrame x env; standAt theWindowsPlace)) _ _ s
  refine wpAny_notedAt ?_
  unfold compStart
  have hc : (clausesOf (.ListComp elt gens scope pos))[depth]? = some ⟨t, i, ifs, 0⟩ := hg
  simp only [hc]
  show wpAny _ _ (ask >>= _) _ _ s
  refine wpAny_bind (wpAny_askSetting (wpAny_ite ?_))
  split
  · first
      | exact wpAny_bind (wpAny_pure (wpAny_pure (And.intro rfl h0)))
      | exact wpAny_pure (And.intro rfl h0)
  · first
      | exact wpAny_bind (wpAny_rule (wpAny_bind (wpAny_standAt (wpAny_bind (wpAny_mono h (fun it' s' h' => wpAny_pure (And.intro rfl h')) fun _ _ x => x)))))
      | (refine wpAny_bind (wpAny_rule ?_); show wpAny _ _ (standAt i.pos >>= _) _ _ s; exact wpAny_bind (wpAny_standAt (wpAny_bind (wpAny_mono h (fun it' s' h' => wpAny_pure (And.intro rfl h')) fun _ _ x => x))))
end

/-! ### the evaluator's comprehension -/
abbrev CC := Ev → Nat → SEnv → Sto → (Sto → Bool) → Bool
def kx0 : KX := fun _ _ => false
theorem PX.zero {T : Tb} {W : Wd} {w} : PX T W kx0 w := fun _ _ _ _ _ _ _ _ h => by cases h
def isUnd (d : D) (b : Bool) : Bool := D.casesOn d b false (fun _ => false) (fun _ => false) (fun _ => false) (fun _ => false) (fun _ _ => false) (fun _ => false) (fun _ => false) (fun _ => false) (fun _ => false) (fun _ => false)
def undB (σ : SEnv) (vs : List Nat) (b : Bool) : Bool := List.rec b (fun i _ ih => nthK σ i fun d => isUnd d ih) vs
theorem undB_t {σ : SEnv} {b : Bool} : ∀ {vs : List Nat}, undB σ vs b = true → (∀ i ∈ vs, σ[i]? = some .und) ∧ b = true
  | [], h => ⟨fun _ z => (nomatch z), h⟩
  | v :: vs, h => by
    obtain ⟨d, e, h1⟩ := nthK_t h
    cases d <;> first | (cases h1; done) | skip
    obtain ⟨h2, h3⟩ := undB_t (vs := vs) h1
    exact ⟨fun i hi => (List.mem_cons.mp hi).elim (fun z => by rw [z]; exact e) (h2 i), h3⟩
def wipeD (vs : List Nat) : SEnv → (SEnv → Bool) → Bool := List.rec (fun σ k => k σ) (fun v _ ih σ k => ih σ fun σ' => setK σ' v .und k) vs
section
variable {T : Tb} {W : Wd}
theorem SR.setU {σd : SEnv} {σ : L2.St} (s : SR T W σd σ) (i : Nat) : SR T W (σd.set i .und) (σ.set i none) := by
  refine ⟨by rw [List.length_set, List.length_set, s.len], fun j e h => ?_⟩
  by_cases hj : i = j
  · subst hj
    have hi : i < σd.length := by
      have := (List.getElem?_eq_some_iff.mp h).1
      rwa [List.length_set] at this
    rw [List.getElem?_set_self hi] at h
    cases h
    exact .inl rfl
  · rw [List.getElem?_set_ne hj] at h
    rw [List.getElem?_set_ne hj]
    exact s.at_ j e h
theorem wipeD_t : ∀ {vs : List Nat} {σd : SEnv} {σ : L2.St} {k : SEnv → Bool}, SR T W σd σ → wipeD vs σd k = true → ∃ σd', SR T W σd' (wipe σ vs) ∧ k σd' = true
  | [], _, _, _, s, h => ⟨_, s, h⟩
  | v :: vs, σd, σ, k, s, h => by
    obtain ⟨σ', s', h'⟩ := wipeD_t (vs := vs) (k := fun σ' => setK σ' v .und k) s h
    obtain ⟨_, h2⟩ := setK_t h'
    exact ⟨_, s'.setU v, h2⟩
theorem SR.same {σd : SEnv} {σ σ' : L2.St} {vs : List Nat} (s : SR T W σd σ) (e : Same vs σ σ') (hu : ∀ i ∈ vs, σd[i]? = some .und) : SR T W σd σ' := by
  refine ⟨s.len.trans e.1.symm, fun i d h => ?_⟩
  by_cases hi : i ∈ vs
  · rw [hu i hi] at h
    cases h
    exact .inl rfl
  · rw [e.2 i hi]
    exact s.at_ i d h
theorem JR.mono {W1 : Wd} {J : JD} {It : L2.It} (h : JR T W J It) (le : Le W W1) : JR T W1 J It := fun W' M' i k no l => h W' M' i k no (le.trans l)
end
def forC (J : JD) (turn : D → Sto → (Sto → Bool) → Bool) (fin : Sto → Bool) : Nat → Nat → Sto → Bool := Nat.rec (fun _ _ => false) fun _ ih i M => J i M (fun d M => turn d M fun M => frN (Nat.succ i) fun j => ih j M) (fin M)
def cTurn (g : CG) (tt : CB) (inner : CC) (ev : Ev) (L : Nat) (σ : SEnv) : D → Sto → (Sto → Bool) → Bool := fun d M nx => g ev d σ M (fun σ M => tt ev σ M (fun b M => Bool.rec (nx M) (inner ev L σ M nx) b) kx0) kx0
def cEmit (elt : CE) : CC := fun ev L σ M k => elt ev σ M (fun x M => lstC M L fun xs => shortL xs (appK xs [x] fun ys => setC M L (.lst ys) k)) kx0
def cLvl (it : CIt) (us : List Nat) (g : CG) (tt : CB) (inner : CC) : CC := fun ev L σ M k => undB σ us (it ev σ M (fun J M => forC J (cTurn g tt inner ev L σ) k fuel 0 M) kx0)
def cLc (it : CIt) (own us : List Nat) (g : CG) (tt : CB) (inner : CC) : CE := fun ev σ M k kx => it ev σ M (fun J M => newC M (.lst []) fun L M => wipeD own σ fun σ => undB σ us (forC J (cTurn g tt inner ev L σ) (fun M => k (.loc L) M) fuel 0 M)) kx
def cYes : CB := fun _ _ M k _ => k true M
def TofPT (X : Cx) (ifs : List Expr) : TT := fun σ H Q => ∀ (pins : List (Addr × Obj)) (s : Shared), Inv X pins σ H s →
    wpAny (model X.prog X.w) X.A (forIn ifs true fun c r => if r = true then do let ok ← isTrue c X.env (eval c X.env); pure (ForInStep.yield ok) else pure (ForInStep.yield r)) (TP X pins σ Q) X.xe s
section
variable (S : St8)
def SPt (ci : CI) (ifs : List Expr) (c : CB) : Prop := ∀ (X : Cx) (Wx : WX), XOk S.T S.r X Wx → CIok S.T ci X → ∀ (W : Wd) (σd : SEnv) (σ : L2.St) (M : Sto) (k : KB) (kx : KX) (Q : Bool → Hp → Prop),
  SR S.T W σd σ → MR S.T W M → c S.ev σd M k kx = true → PB S.T W k Q → PX S.T W kx (fun c d H => Wx c d σ H) → TofPT X ifs σ W.H Q
def SAct (ci : CI) (elt : Expr) (gens : List Comprehension) (scope : Scope) (pos : Pos) (depth : Nat) (ws : List Nat) (c : CC) : Prop :=
  ∀ (Y : Cx) (Wy : WX), XOk S.T S.r Y Wy → CIok S.T ci Y → (Y.xe = fun _ _ => False) → ∀ (W : Wd) (σd : SEnv) (σ : L2.St) (M : Sto) (L : Nat) (k : Sto → Bool) (pins : List (Addr × Obj)) (s : Shared) (N : Value → Shared → Prop) (Q : Shared → Prop),
  SR S.T W σd σ → MR S.T W M → L < W.n → Inv Y pins σ W.H s → c S.ev L σd M k = true → (∀ W' M' σ' s', Le W W' → MR S.T W' M' → Same ws σ σ' → Inv Y pins σ' W'.H s' → k M' = true → Q s') →
  actW Y.prog Y.w Y.A elt gens scope pos depth (.ref (W.ρ L)) Y.env N Q s
end
section
variable {S : St8} {ci : CI} {pos : Pos}
theorem spt_nil : SPt S ci [] cYes := fun X Wx hX hC W σd σ M k kx Q s m h hQ hx pins st I => pts_nil.run pins st σ W.H Q I (hQ W _ M (Le.refl _) m h)
theorem spt_one {c : Expr} {cc : CB} (hc : STt S ci c cc) : SPt S ci [c] cc := fun X Wx hX hC W σd σ M k kx Q s m h hQ hx pins st I => (pts_one pt_tof).run pins st σ W.H Q I (hc X Wx hX hC W σd σ M k kx Q s m h hQ hx)
theorem sact_emit {elt : Expr} {c : CE} {gens : List Comprehension} {scope : Scope} {depth : Nat} (he : SE S ci elt c) (hd : gens[depth + 1]? = none) : SAct S ci elt gens scope pos depth [] (cEmit c) := by
  intro Y Wy hY hC hxe W σd σ M L k pins s N Q sr m hL I h hQ
  unfold actW
  simp only [hd]
  have := he Y Wy hY hC W σd σ M _ kx0 (fun y H => ∃ acc W1 M1 ys, W1.H = H ∧ Le W W1 ∧ MR S.T W1 M1 ∧ W1.H (W.ρ L) = some (.lst acc) ∧ acc.length < sizeLine ∧ VRs S.T W1 ys (acc ++ [y]) ∧ k (M1.set L (.lst ys)) = true) sr m h (fun W1 x v M1 l1 m1 r1 h1 => ?_) PX.zero pins s I
  · rw [hxe] at this
    refine thnF this fun u s1 ⟨y, H1, I1, ry, acc, W1, M1, ys, eH, l1, m1, e1, hz, rs, q⟩ => ?_
    subst eH
    refine app_ok (X := Y) I1 e1 hz ry fun s2 I2 => ?_
    rw [← l1.ρ L hL] at e1 I2
    have hL1 : L < W1.n := Nat.lt_of_lt_of_le hL l1.n
    obtain ⟨le, m2⟩ := mr_lset m1 hL1 e1 rs
    exact hQ _ _ σ s2 (l1.trans le) m2 Same.refl I2 q
  · obtain ⟨ds, xs, e1, rx, hl, _, h2⟩ := m1.lstC h1
    obtain ⟨hs, h3⟩ := shortL_lt h2
    rw [appK_eq] at h3
    refine ⟨xs, W1, M1, _, rfl, l1, m1, by rw [← l1.ρ L hL]; exact e1, by rw [← rx.length]; exact hs, rx.append (.cons r1 .nil), setC_t h3⟩
/-- the loop of a clause -/
theorem lvl_loop {elt t i : Expr} {ifs : List Expr} {gens : List Comprehension} {scope : Scope} {depth : Nat} {vs ws : List Nat} {g : CG} {tt : CB} {inner : CC} (hg : gens[depth]? = some ⟨t, i, ifs, 0⟩)
    (hn : ∀ g', gens[depth + 1]? = some g' → g'.is_async = 0 ∧ notSet g'.iter = true) (sg : SG S ci t vs g) (st : SPt S ci ifs tt) (sa : SAct S ci elt gens scope pos depth ws inner)
    {Y : Cx} {Wy : WX} (hY : XOk S.T S.r Y Wy) (hC : CIok S.T ci Y) (hxe : Y.xe = fun _ _ => False) {W : Wd} {σd : SEnv} {σ : L2.St} {M : Sto} {L : Nat} {k : Sto → Bool} {pins : List (Addr × Obj)} {s : Shared} {R : Result → Shared → Prop}
    {it : Addr} {fp : List Addr} {tn : Nat → Heap → Prop} {J : JD} {It : L2.It} (T : Turn Y.prog Y.w Y.K t It fp it tn) (t0 : tn 0 s.heap) (hf : ∀ H' : Hp, (∀ b ∈ fp, H' b = none) → ∀ (σ' : L2.St) (s' : Shared), Inv Y pins σ' H' s' → ∀ b ∈ fp, FpOk Y pins H' b) (hf0 : ∀ b ∈ fp, W.H b = none)
    (jr : JR S.T W J It) (sr : SR S.T W σd σ) (m : MR S.T W M) (hL : L < W.n) (I : Inv Y pins σ W.H s) (hu : ∀ i ∈ vs ++ ws, σd[i]? = some .und) (h : forC J (cTurn g tt inner S.ev L σd) k fuel 0 M = true)
    (hR : ∀ W' M' σ' s', Le W W' → MR S.T W' M' → Same (vs ++ ws) σ σ' → Inv Y pins σ' W'.H s' → k M' = true → R (.ok .next) s') :
    codeAny (model Y.prog Y.w) Y.A (.compLoop (.ListComp elt gens scope pos) depth (.ref it) (.ref (W.ρ L)) Y.env) R s := by
  refine loop_at hg (fun g' e => ⟨(hn g' e).1, fold_no (hn g' e).2 Y.env⟩) (fun f s' => ∃ i W' σ' M', Le W W' ∧ MR S.T W' M' ∧ Same (vs ++ ws) σ σ' ∧ Inv Y pins σ' W'.H s' ∧ tn i s'.heap ∧ (∀ b ∈ fp, W'.H b = none) ∧ forC J (cTurn g tt inner S.ev L σd) k f i M' = true) ?_ fuel
    ⟨0, W, σ, M, Le.refl _, m, Same.refl, I, t0, hf0, h⟩
  rintro f s1 ⟨i, W1, σ1, M1, l1, m1, sm1, I1, tn1, fr1, h1⟩
  cases f with
  | zero => cases h1
  | succ f =>
    rcases jr W1 M1 i _ _ l1 m1 h1 with ⟨stop, q⟩ | ⟨go, q⟩
    · refine thnF (T.done Y rfl rfl rfl hY.calm i pins s1 σ1 W1.H (fun _ _ => False) I1 (hf _ fr1 σ1 s1 I1) tn1 stop) fun r s2 ⟨hr, I2⟩ => ?_
      subst hr
      exact hR W1 M1 σ1 s2 l1 m1 sm1 I2 q
    · refine thnF (T.item Y rfl rfl rfl hY.calm i pins s1 σ1 W1.H (fun _ _ => False) I1 (hf _ fr1 σ1 s1 I1) tn1 go) fun r s2 ⟨u, hr, h2⟩ => ?_
      subst hr
      refine thnF h2 fun _ s3 ⟨x, H3, I3, r3, y3, tn3, fr3⟩ => ?_
      obtain ⟨W3, d, M3, l3, eH, m3, rx, h3⟩ := q x H3 y3
      subst eH
      have l13 := l1.trans l3
      have I3' := I3.pinned (hf _ fr3 σ1 s3 I3) (T.obj _ _ tn3)
      have sr3 : SR S.T W3 σd σ1 := (sr.mono l13).same sm1 hu
      -- the store
      have g3 := sg Y Wy hY hC W3 d x σd σ1 M3 _ kx0 (fun σ' H' => ∃ W' σd' M', Le W3 W' ∧ W'.H = H' ∧ MR S.T W' M' ∧ SR S.T W' σd' σ' ∧ Same vs σ1 σ' ∧
          tt S.ev σd' M' (fun b M => Bool.rec ((fun M => frN (Nat.succ i) fun j => forC J (cTurn g tt inner S.ev L σd) k f j M) M) (inner S.ev L σd' M (fun M => frN (Nat.succ i) fun j => forC J (cTurn g tt inner S.ev L σd) k f j M)) b) kx0 = true) sr3 m3 rx h3
        (fun W' σd' σ' M' l m s sm e => ⟨W', σd', M', l, rfl, m, s, sm, e⟩) (fun W' σ' l sm => PX.zero) _ s3 u I3' r3
      rw [hxe] at g3
      refine thnF g3 fun _ s4 ⟨σ4, H4, I4, W4, σ4d, M4, l4, eH4, m4, sr4, sm4, h4⟩ => ?_
      subst eH4
      have p4 := st Y Wy hY hC W4 σ4d σ4 M4 _ kx0 (fun b H => ∃ W' M', Le W4 W' ∧ W'.H = H ∧ MR S.T W' M' ∧ (Bool.rec ((fun M => frN (Nat.succ i) fun j => forC J (cTurn g tt inner S.ev L σd) k f j M) M') (inner S.ev L σ4d M' (fun M => frN (Nat.succ i) fun j => forC J (cTurn g tt inner S.ev L σd) k f j M)) b : Bool) = true) sr4 m4 h4
        (fun W' b M' l m e => ⟨W', M', l, rfl, m, e⟩) PX.zero _ s4 I4
      rw [hxe] at p4
      refine thnF p4 fun b s5 ⟨H5, I5, W5, M5, l5, eH5, m5, h5⟩ => ?_
      subst eH5
      have l15 := (l13.trans l4).trans l5
      -- the turn's end
      have fin : ∀ {σ' : L2.St} {W' : Wd} {M' : Sto} {s' : Shared}, Le W5 W' → MR S.T W' M' → Same (vs ++ ws) σ1 σ' → Inv Y (pins ++ pinsAt fp s3.heap) σ' W'.H s' → (frN (Nat.succ i) fun j => forC J (cTurn g tt inner S.ev L σd) k f j M') = true →
          ∃ m, m < f + 1 ∧ ∃ i W' σ' M', Le W W' ∧ MR S.T W' M' ∧ Same (vs ++ ws) σ σ' ∧ Inv Y pins σ' W'.H s' ∧ tn i s'.heap ∧ (∀ b ∈ fp, W'.H b = none) ∧ forC J (cTurn g tt inner S.ev L σd) k m i M' = true := fun {σ' W' M' s'} l' m' sm' I' h' => by
        have pin' : ∀ b ∈ fp, ∀ o, s3.heap.get? b = some o → s'.heap.get? b = some o ∧ W'.H b = none := fun b hb o e =>
          let z := I'.pin (b, o) (List.mem_append_right _ (List.mem_append_right _ (mem_pinsAt hb e)))
          ⟨z.1, z.2.1⟩
        rw [frN_eq] at h'
        refine ⟨f, Nat.lt_succ_self _, i + 1, W', σ', M', l15.trans l', m', sm1.trans sm', I'.unpinned, T.keep _ _ _ tn3 fun b hb o e => (pin' b hb o e).1, fun b hb => ?_, h'⟩
        obtain ⟨o, e, _⟩ := T.obj _ _ tn3 b hb
        exact (pin' b hb o e).2
      cases b with
      | false =>
        simp only [Bool.false_eq_true, if_false]
        exact fin (Le.refl _) m5 (sm4.sub fun i hi => List.mem_append_left _ hi) I5 h5
      | true =>
        simp only [if_true]
        have eL : W.ρ L = W5.ρ L := (l15.ρ L hL).symm
        rw [eL]
        exact sa Y Wy hY hC hxe W5 σ4d σ4 M5 L _ _ s5 _ _ (sr4.mono l5) m5 (Nat.lt_of_lt_of_le hL l15.n) I5 h5 fun W' M' σ' s' l' m' sm' I' h' => fin l' m' ((sm4.sub fun i hi => List.mem_append_left _ hi).trans (sm'.sub fun i hi => List.mem_append_right _ hi)) I' h'
/-- a further clause -/
theorem sact_lvl {elt t i : Expr} {ifs : List Expr} {gens : List Comprehension} {scope : Scope} {depth : Nat} {vs ws : List Nat} {ic : CIt} {g : CG} {tt : CB} {inner : CC} (hg : gens[depth + 1]? = some ⟨t, i, ifs, 0⟩)
    (hn : ∀ g', gens[depth + 2]? = some g' → g'.is_async = 0 ∧ notSet g'.iter = true) (si : SI S ci t i ic) (sg : SG S ci t vs g) (st : SPt S ci ifs tt) (sa : SAct S ci elt gens scope pos (depth + 1) ws inner) : SAct S ci elt gens scope pos depth (vs ++ ws) (cLvl ic (vs ++ ws) g tt inner) := by
  intro Y Wy hY hC hxe W σd σ M L k pins s N Q sr m hL I h hQ
  obtain ⟨hu, h1⟩ := undB_t h
  unfold actW
  simp only [hg]
  have p1 := si Y Wy hY hC W σd σ M _ kx0 (fun It H => ∃ W1 J M1, Le W W1 ∧ W1.H = H ∧ MR S.T W1 M1 ∧ JR S.T W1 J It ∧ forC J (cTurn g tt inner S.ev L σd) k fuel 0 M1 = true) sr m h1 (fun W1 J It M1 l1 m1 jr e => ⟨W1, J, M1, l1, rfl, m1, jr, e⟩) PX.zero pins s I
  rw [hxe] at p1
  refine thnF p1 fun v s1 p2 => thnF p2 fun itv s2 ⟨it, fp, tn, It, H', e, I2, T, tn2, f2, W1, J, M1, l1, eH, m1, jr, h2⟩ => ?_
  subst e eH
  have eL : W.ρ L = W1.ρ L := (l1.ρ L hL).symm
  rw [eL]
  have loop : codeAny (model Y.prog Y.w) Y.A (.compLoop (.ListComp elt gens scope pos) (depth + 1) (.ref it) (.ref (W1.ρ L)) Y.env) (fun r s' => match r with
        | .ok _ => Q s'
        | .error _ => False) s2 :=
    lvl_loop hg hn sg st sa hY hC hxe T tn2 (fun H' hn' σ' s' I' b hb => ⟨hn' b hb, (f2 b hb).2⟩) (fun b hb => (f2 b hb).1) jr (sr.mono l1) m1 (Nat.lt_of_lt_of_le hL l1.n) I2 hu h2 fun W' M' σ' s' l' m' sm' I' h' => hQ W' M' σ' s' (l1.trans l') m' sm' I' h'
  exact start_at hg loop (T.self Y.A 0 _ _ _ tn2 loop)
/-- the compiler's knowledge within a block -/
def blkCI (ci : CI) (scope : Scope) : CI := { ci with sc := relS scope ci.sc, own := scope, top := false }
theorem XOk.blk {T : Tb} {r : Nat} {X : Cx} {Wx : WX} (hX : XOk T r X Wx) (s : Shared) (H : Hp) (scope : Scope) (ce : Env) (fp : List Addr) : XOk T r (X.blk s H scope ce fp) (fun _ _ _ _ => False) :=
  ⟨hX.P, hX.w, hX.K, hX.mg, hX.base, hX.calm, hX.nd, hX.room, fun u s' ⟨_, _, _, _, _, _, _, _, _, _, _, _, _, _, _, _, w⟩ => w⟩
theorem CIok.blk {T : Tb} {X : Cx} (hC : CIok T ci X) (s : Shared) (H : Hp) (scope : Scope) (cl : List (Str × Addr)) (C : Addr) (fp : List Addr) : CIok T (blkCI ci scope) (X.blk s H scope (compEnvC scope cl C X.env) fp) := by
  have hsc : (compEnvC scope cl C X.env).scope = relS scope ci.sc := by rw [← hC.sc]; rfl
  refine ⟨hC.N, hsc, fun x h => ?_, fun h => hC.tab h, fun z => (nomatch z)⟩
  have h' : scope.names.lookup x = some .local ∨ scope.names.lookup x = some .cell := h
  show Loc (compEnvC scope cl C X.env).scope x ∧ ((scope.names.lookup x == some .cell) = true ∨ (compEnvC scope cl C X.env).scope.names.lookup x = some .local)
  rw [hsc]
  rcases h' with h | h
  · have := lookup_relS_keep (sc := ci.sc) (by decide) h
    exact ⟨.inl this, .inr this⟩
  · have := lookup_relS_keep (sc := ci.sc) (by decide) h
    exact ⟨.inr this, .inl (by rw [h]; rfl)⟩
theorem lc_coreN {elt tg iter : Expr} {ifs : List Expr} {rest : List Comprehension} {scope : Scope} {own : List (Str × Nat)} {pos pos' : Pos} {vs ws : List Nat} {ic : CIt} {g : CG} {tt : CB} {inner : CC} {use : Option (Value → Sem Unit)} {Qf : Value → Shared → Prop}
    (si : SI S ci tg iter ic) (sg : SG S (blkCI ci scope) tg vs g) (st : SPt S (blkCI ci scope) ifs tt) (sa : SAct S (blkCI ci scope) elt (⟨tg, iter, ifs, 0⟩ :: rest) scope pos 0 ws inner) (hb : BlkOk ci.N ci.sc scope own)
    (hn : ∀ g', rest[0]? = some g' → g'.is_async = 0 ∧ notSet g'.iter = true) (hs : notSet iter = true)
    {X : Cx} {Wx : WX} (hX : XOk S.T S.r X Wx) (hC : CIok S.T ci X) {W : Wd} {σd : SEnv} {σ : L2.St} {M : Sto} {k : K1} {kx : KX} {pins : List (Addr × Obj)} {s : Shared}
    (sr : SR S.T W σd σ) (m : MR S.T W M) (I : Inv X pins σ W.H s) (h : cLc ic (own.map (·.2)) (vs ++ ws) g tt inner S.ev σd M k kx = true) (hx : PX S.T W kx (fun c d H => Wx c d σ H))
    (hRR : ∀ W' L M' C mm s', Le W W' → MR S.T W' M' → L < W'.n → Inv X pins σ W'.H s' → k (.loc L) M' = true → s'.heap.Ns C mm → FpOk X pins W'.H C → compPost (model X.prog X.w) X.A X.xe use Qf (.ref (W'.ρ L)) C (.ok .next) s') :
    wpAny (model X.prog X.w) X.A (comprehension (.ListComp elt (⟨tg, iter, ifs, 0⟩ :: rest) scope pos) scope X.env pos' (newList []) false (eval iter X.env) use) Qf X.xe s := by
  have ok : BlkOk X.N X.env.scope scope own := by rw [hC.N, hC.sc]; exact hb
  have hfree : ∀ y ∈ scope.names, y.2 = .free → ∃ c, X.env.cells.lookup y.1 = some c := fun y hy e => by
    rcases ok.free y hy e with k | k
    · exact I.ok.has _ (.inl k)
    · exact I.ok.has _ (.inr k)
  refine wpAny_comprehension_free (use := use) rfl (fold_no hs X.env) (closure_ok hfree) ok.kind (fun y hy e => by rw [ok.uniq y hy, e])
    (thn (si X Wx hX hC W σd σ M _ kx (fun It H => ∃ W1 J M1, Le W W1 ∧ W1.H = H ∧ MR S.T W1 M1 ∧ JR S.T W1 J It ∧ (newC M1 (.lst []) fun L M => wipeD (own.map (·.2)) σd fun σ => undB σ (vs ++ ws) (forC J (cTurn g tt inner S.ev L σ) (fun M => k (.loc L) M) fuel 0 M)) = true)
      sr m h (fun W1 J It M1 l1 m1 jr e => ⟨W1, J, M1, l1, rfl, m1, jr, e⟩) hx pins s I) fun xv s1 hx1 => thn hx1 fun itv s2 h2 => ?_)
  obtain ⟨it, fp, tn, It, H2, e, I2, T, st2, f2, W1, J, M1, l1, eH, m1, jr, h1⟩ := h2
  subst e eH
  have h1 := newC_t h1
  refine wpAny_newObj_type (newEnv_comp ?_) (by show 0 ≤ sizeLine; decide)
  generalize hD : s2.heap.objs.size = D
  have hDn : W1.H D = none := I2.hok.fresh (Nat.le_of_eq hD)
  -- the new list
  generalize hs3 : ({ s2 with heap := s2.heap.push { cls := .type "list", data := .seq ([] : List Value).toArray } } : Shared) = s3
  have I3 : Inv X pins σ (upd W1.H D (.lst [])) s3 := by
    rw [← hs3]
    refine I2.laid (t' := s2.toks) (fun b o e => Heap.get?_push_of_some _ e) (Nat.le_of_eq hD) ⟨Nat.zero_le _, [], 0, .nil, ?_⟩
    rw [← hD]
    exact Heap.get?_push_size _ rfl
  have h3 : s3.heap = s2.heap.push { cls := .type "list", data := .seq ([] : List Value).toArray } := by rw [← hs3]
  have gr := grows (o := .lst []) hDn
  have m3 : MR S.T (W1.new D (upd W1.H D (.lst []))) (M1.push (.lst [])) := m1.new hDn gr upd_same (show HR S.T _ (.lst []) (.lst []) from .nil)
  have l3 : Le W1 (W1.new D (upd W1.H D (.lst []))) := Le.new gr
  have l13 := l1.trans l3
  have eD : (W1.new D (upd W1.H D (.lst []))).ρ M1.n = D := by rw [m1.n]; exact if_pos rfl
  have hLn : M1.n < (W1.new D (upd W1.H D (.lst []))).n := by rw [m1.n]; exact Nat.lt_succ_self _
  have eHn : (W1.new D (upd W1.H D (.lst []))).H = upd W1.H D (.lst []) := rfl
  have jr3 := jr.mono l3
  have sz : ∀ b ∈ fp, b < s2.heap.objs.size := fun b hb => by
    obtain ⟨o, e, _⟩ := T.obj _ _ st2 b hb
    exact Heap.lt_size e
  have f3 : ∀ b ∈ fp, FpOk X pins (upd W1.H D (.lst [])) b ∧ b < s3.heap.objs.size := fun b hb => by
    have hlt := sz b hb
    refine ⟨⟨?_, (f2 b hb).2⟩, by rw [h3, Heap.size_push]; exact Nat.lt_succ_of_lt hlt⟩
    rw [upd_ne (by rw [← hD]; exact Nat.ne_of_lt hlt)]
    exact (f2 b hb).1
  have st3 : tn 0 s3.heap := T.keep _ _ _ st2 fun b _ o e => by rw [h3]; exact Heap.get?_push_of_some _ e
  obtain ⟨σw, srw, h4⟩ := wipeD_t (sr.mono l13) h1
  obtain ⟨hu, h5⟩ := undB_t h4
  have I4 := block_start I3 ok hX.nd f3
  have hXb := hX.blk s3 (upd W1.H D (.lst [])) scope (compEnvC scope (cellsFrom (s3.heap.objs.size + 1) scope.names (cloFrom X.env.cells scope.names [])) s3.heap.objs.size X.env) fp
  have hCb := hC.blk s3 (upd W1.H D (.lst [])) scope (cellsFrom (s3.heap.objs.size + 1) scope.names (cloFrom X.env.cells scope.names [])) s3.heap.objs.size fp
  show codeAny _ _ (.compStart (.ListComp elt (⟨tg, iter, ifs, 0⟩ :: rest) scope pos) 0 (.ref it) (.ref D) (compEnvC scope (cellsFrom (s3.heap.objs.size + 1) scope.names (cloFrom X.env.cells scope.names [])) s3.heap.objs.size X.env)) (compPost (model X.prog X.w) X.A X.xe use Qf (.ref D) s3.heap.objs.size) { s3 with heap := pushCells (s3.heap.push { cls := .type "dict", data := .dict #[] }) scope.names }
  generalize hce : compEnvC scope (cellsFrom (s3.heap.objs.size + 1) scope.names (cloFrom X.env.cells scope.names [])) s3.heap.objs.size X.env = ce at I4 hXb hCb ⊢
  have cL : ce.locals = s3.heap.objs.size := by subst hce; rfl
  generalize hs4 : ({ s3 with heap := pushCells (s3.heap.push { cls := .type "dict", data := .dict #[] }) scope.names } : Shared) = s4 at I4 ⊢
  have st4 : tn 0 s4.heap := T.keep _ _ _ st3 fun b _ o e => by rw [← hs4]; exact pushCells_keeps _ _ _ _ (Heap.get?_push_of_some _ e)
  have loop : codeAny (model X.prog X.w) X.A (.compLoop (.ListComp elt (⟨tg, iter, ifs, 0⟩ :: rest) scope pos) 0 (.ref it) (.ref ((W1.new D (upd W1.H D (.lst []))).ρ M1.n)) ce) (compPost (model X.prog X.w) X.A X.xe use Qf (.ref D) s3.heap.objs.size) s4 := by
    refine lvl_loop (Y := X.blk s3 (upd W1.H D (.lst [])) scope ce fp) (depth := 0) rfl (fun g' e => hn g' (by simpa using e)) sg st sa hXb hCb rfl T st4 (fun H' hn' σ' s' I' b hb => ⟨hn' b hb, (I'.ok.exf b hb).1, I'.ok.exfs b hb, .inl hb, fun x c e => (I'.ok.exf b hb).2 x c e, fun p hp => absurd (show p ∈ ([] : List (Addr × Obj)) ++ [] from hp) (by simp)⟩)
      (fun b hb => (f3 b hb).1.1) jr3 srw m3 hLn I4 hu h5 fun W' M' σ' s6 l' m' sm' I6 h6 => ?_
    have I7 : Inv X pins σ W'.H s6 := I3.call' (ch := fp) I6.os I6.base I6.hok I6.bare fun b hb => ⟨(f3 b hb).1.2.2.2.1, (f3 b hb).1.2.1, (f3 b hb).1.2.2.2.2.1, (f3 b hb).1.2.2.2.2.2⟩
    have nC : W'.H s3.heap.objs.size = none := by
      have z : W'.H ce.locals = none := I6.free
      rw [cL] at z
      exact z
    obtain ⟨mm, hnn, _⟩ := I6.loc
    have hnn : s6.heap.Ns ce.locals mm := hnn
    rw [cL] at hnn
    have eD' : W'.ρ M1.n = D := by rw [l'.ρ _ hLn]; exact eD
    have := hRR W' M1.n M' s3.heap.objs.size mm s6 (l13.trans l') m' (Nat.lt_of_lt_of_le hLn l'.n) I7 h6 hnn (I3.fpOk (Nat.le_refl _) nC)
    rw [eD'] at this
    exact this
  rw [eD] at loop
  exact codeAny_compStart_list loop (T.self X.A 0 _ _ _ st4 loop)
theorem se_lc {elt tg iter : Expr} {ifs : List Expr} {rest : List Comprehension} {scope : Scope} {own : List (Str × Nat)} {vs ws : List Nat} {ic : CIt} {g : CG} {tt : CB} {inner : CC}
    (si : SI S ci tg iter ic) (sg : SG S (blkCI ci scope) tg vs g) (st : SPt S (blkCI ci scope) ifs tt) (sa : SAct S (blkCI ci scope) elt (⟨tg, iter, ifs, 0⟩ :: rest) scope pos 0 ws inner) (hb : BlkOk ci.N ci.sc scope own)
    (hn : ∀ g', rest[0]? = some g' → g'.is_async = 0 ∧ notSet g'.iter = true) (hs : notSet iter = true) : SE S ci (.ListComp elt (⟨tg, iter, ifs, 0⟩ :: rest) scope pos) (cLc ic (own.map (·.2)) (vs ++ ws) g tt inner) := by
  intro X Wx hX hC W σd σ M k kx Q s m h hQ hx pins st0 I
  rw [eval_ListComp]
  refine lc_coreN si sg st sa hb hn hs hX hC s m I h hx fun W' L M' C mm s' l' m' hL I' hk hnn f => ⟨mm, hnn, fun h'' sb => ?_⟩
  obtain ⟨f0, f1, f2, f3, f4, f5⟩ := f
  exact ⟨.ref (W'.ρ L), W'.H, I'.turned (t' := s'.toks) (fun b o hb e => (sb.2 b hb).trans e) f0 f1 f3 f4 f5, rfl, hQ W' _ _ M' l' m' (.loc hL) hk⟩
/-- name = [..] that goes by its own road -/
def swT (sc : Scope) (t : Str) (p pe : Pos) (s : Scope) : Bool := sc.names.lookup t == some .local && p.line == pe.line && !(s.names.any fun (n, k) => n == t && (k == .local || k == .cell))
theorem swT_ok {sc : Scope} {elt : Expr} {gens : List Comprehension} {s : Scope} {pe p : Pos} {t : Str} {env : Env} (h : swT sc t p pe s = true) (hs : env.scope = sc) (hk : env.scope.kind = .function) (l : Nat) : swapsWith (.ListComp elt gens s pe) (some (.Name t p)) l env = pure true := by
  have hb : env.blockKind = .function := by unfold Env.blockKind; rw [hk]; rfl
  show (pure (env.blockKind == .function && env.kindOf t == some .local && p.line == pe.line && !(s.names.any fun (n, k) => n == t && (k == .local || k == .cell))) : Sem Bool) = pure true
  congr 1
  unfold Env.kindOf
  rw [hb, hs]
  unfold swT at h
  generalize (sc.names.lookup t == some .local) = A at h ⊢
  generalize (p.line == pe.line) = B at h ⊢
  generalize (s.names.any fun (n, k) => n == t && (k == .local || k == .cell)) = C at h ⊢
  cases A <;> cases B <;> cases C <;> first | rfl | (simp at h; done)
theorem ss_setLc {y : Str} {j : Nat} {py pe : Pos} {elt tg iter : Expr} {ifs : List Expr} {rest : List Comprehension} {scope : Scope} {own : List (Str × Nat)} {vs ws : List Nat} {ic : CIt} {g : CG} {tt : CB} {inner : CC}
    (si : SI S ci tg iter ic) (sg : SG S (blkCI ci scope) tg vs g) (st : SPt S (blkCI ci scope) ifs tt) (sa : SAct S (blkCI ci scope) elt (⟨tg, iter, ifs, 0⟩ :: rest) scope pe 0 ws inner) (hb : BlkOk ci.N ci.sc scope own)
    (hn : ∀ g', rest[0]? = some g' → g'.is_async = 0 ∧ notSet g'.iter = true) (hs : notSet iter = true) (hN : ci.N[j]? = some y) (hl : isLocal ci.sc y = true) (hw : swT ci.sc y py pe scope = true) :
    SS S ci (.Assign [.Name y py] (.ListComp elt (⟨tg, iter, ifs, 0⟩ :: rest) scope pe) pos) (cAsg (cLc ic (own.map (·.2)) (vs ++ ws) g tt inner) (cGName j)) := by
  intro X Wx hX hS hC W σd σ M ks kx D s m h hD hx pins st0 I
  have hyl : X.env.scope.names.lookup y = some .local := by rw [hC.sc]; exact isLocal_t hl
  rw [exec_Assign_Name_used _ _ _ _ (swT_ok hw hC.sc hS.kind _)]
  refine wpAny_bind (wpAny_standAt (wpAny_bind ?_))
  show wpAny _ X.A (do let _ ← comprehension (.ListComp elt (⟨tg, iter, ifs, 0⟩ :: rest) scope pe) scope X.env (firstIterPos (⟨tg, iter, ifs, 0⟩ :: rest) pe) (newList []) false (eval iter X.env) (some (assign (.Name y py) X.env))) _ _ st0
  refine wpAny_bind (thn (lc_coreN (Qf := fun _ s' => SP X pins D .next s') si sg st sa hb hn hs hX hC s m I h (hx σ) fun W' L M' C mm s' l' m' hL I' hk hnn f => ?_) fun _ s' hq => wpAny_pure (wpAny_pure hq))
  show wpAny _ _ (assign (.Name y py) X.env (.ref (W'.ρ L))) _ _ _
  obtain ⟨_, h2⟩ := setK_t hk
  refine wpAny_assign_Name (store_ok2 (v := V.ref (W'.ρ L)) I' hX.nd (by rw [hC.N]; exact hN) (.inl hyl) rfl (fun s2 I2 ⟨a, sb, ha⟩ => ?_) (.inr hyl))
  obtain ⟨f0, f1, f2, f3, f4, f5⟩ := f
  have haC : C ≠ a := by
    rcases ha with z | z
    · rw [z]; exact f1
    · exact fun e => f4 y a z e.symm
  refine ⟨mm, hnn.sameBut sb haC, fun h3 sb3 => ?_⟩
  exact ⟨_, W'.H, I2.turned (t' := s2.toks) (fun b o hb e => (sb3.2 b hb).trans e) f0 f1 f3 f4 f5, hD.nx W' _ _ M' l' m' ((s.mono l').set (.loc hL) j) h2⟩
end
end Z
end
set_option Elab.async false
set_option autoImplicit false
set_option linter.all false
set_option maxRecDepth 100000
set_option maxHeartbeats 1000000
/-! ZN: names by numbers. -/
namespace Z
open PySem PySem.Spec PyProof.Rows L2
/-- a text as a number; 0: none -/
def encL : List Nat → Nat
  | [] => 1
  | c :: r => match encL r with
    | 0 => 0
    | n + 1 => match Nat.blt c 2097152 with
      | true => Nat.add (Nat.mul (n + 1) 2097152) c
      | false => 0
def enc (x : Str) : Nat := encL x.cps.toList
theorem encL_cons (c : Nat) (r : List Nat) : encL (c :: r) = if encL r = 0 ∨ ¬ c < 2097152 then 0 else encL r * 2097152 + c := by
  rw [encL]
  cases h : encL r with
  | zero => simp
  | succ n =>
    show (match Nat.blt c 2097152 with
      | true => Nat.add (Nat.mul (n + 1) 2097152) c
      | false => 0) = _
    cases q : Nat.blt c 2097152 with
    | true =>
      have := Nat.blt_eq.mp q
      rw [if_neg (by omega)]
      rfl
    | false =>
      have : ¬ c < 2097152 := fun z => by rw [Nat.blt_eq.mpr z] at q; cases q
      rw [if_pos (by omega)]
theorem encL_inj : ∀ (a b : List Nat), encL a = encL b → encL a ≠ 0 → a = b
  | [], [], _, _ => rfl
  | [], c :: r, h, _ => by
    rw [encL_cons] at h
    have h1 : encL [] = 1 := rfl
    rw [h1] at h
    split at h
    · cases h
    · rename_i q
      have : encL r ≠ 0 := fun z => q (.inl z)
      omega
  | c :: r, [], h, _ => by
    rw [encL_cons] at h
    have h1 : encL [] = 1 := rfl
    rw [h1] at h
    split at h
    · cases h
    · rename_i q
      have : encL r ≠ 0 := fun z => q (.inl z)
      omega
  | c :: r, d :: s, h, hn => by
    rw [encL_cons, encL_cons] at h
    rw [encL_cons] at hn
    split at h
    · rename_i q
      rw [if_pos q] at hn
      exact absurd rfl hn
    · rename_i q
      split at h
      · rename_i q2
        rw [if_neg q, h] at hn
        exact absurd rfl hn
      · rename_i q2
        have c1 : c < 2097152 := by omega
        have c2 : d < 2097152 := by omega
        have e1 : encL r = encL s := by omega
        have e2 : c = d := by omega
        rw [e2, encL_inj r s e1 (by omega)]
/-- the same text -/
def sEq (x y : Str) : Bool := match Nat.beq (enc x) (enc y) with
  | false => false
  | true => Nat.blt 0 (enc x)
theorem sEq_t {x y : Str} (h : sEq x y = true) : x = y := by
  unfold sEq at h
  split at h
  · cases h
  · rename_i q
    have h1 := Nat.blt_eq.mp h
    have h2 := Nat.eq_of_beq_eq_true q
    have := encL_inj _ _ h2 (by show enc x ≠ 0; omega)
    cases x; cases y
    simp only [Str.mk.injEq]
    exact Array.toList_inj.mp this
/-- surely another text -/
def sNe (x y : Str) : Bool := match Nat.beq (enc x) (enc y) with
  | false => true
  | true => false
theorem sNe_t {x y : Str} (h : sNe x y = true) : x ≠ y := fun e => by
  subst e
  unfold sNe at h
  rw [Nat.beq_refl] at h
  cases h
theorem sNe_beq {x y : Str} (h : sNe x y = true) : (x == y) = false := beq_eq_false_iff_ne.mpr (sNe_t h)
section
variable {α : Type}
/-- what stands at x -/
def look (x : Str) : List (Str × α) → Option α
  | [] => none
  | (y, a) :: r => match sNe x y with
    | true => look x r
    | false => match sEq x y with
      | true => some a
      | false => none
theorem look_t {x : Str} {a : α} : ∀ {l : List (Str × α)}, look x l = some a → l.lookup x = some a
  | [], h => by cases h
  | (y, b) :: r, h => by
    unfold look at h
    rw [List.lookup_cons]
    split at h
    · rename_i q
      rw [sNe_beq q]
      exact look_t h
    · split at h
      · rename_i q
        cases h
        rw [sEq_t q, beq_self_eq_true]
      · cases h
/-- the place of x, from i -/
def placeF (x : Str) : List Str → Nat → Option Nat
  | [], _ => none
  | y :: r, i => match sEq x y with
    | true => some i
    | false => placeF x r (i + 1)
def place (x : Str) (l : List Str) : Option Nat := placeF x l 0
theorem placeF_t {x : Str} : ∀ {l : List Str} {i j : Nat}, placeF x l i = some j → i ≤ j ∧ l[j - i]? = some x
  | [], i, j, h => by cases h
  | y :: r, i, j, h => by
    unfold placeF at h
    split at h
    · rename_i q
      cases h
      rw [sEq_t q]
      exact ⟨Nat.le_refl _, by simp⟩
    · obtain ⟨h1, h2⟩ := placeF_t h
      have e : j - i = (j - (i + 1)) + 1 := by omega
      refine ⟨by omega, ?_⟩
      rw [e]
      simpa using h2
theorem place_t {x : Str} {l : List Str} {j : Nat} (h : place x l = some j) : l[j]? = some x := by
  have := (placeF_t h).2
  simpa using this
end
end Z
set_option Elab.async false
set_option autoImplicit false
set_option linter.all false
set_option maxRecDepth 100000
set_option maxHeartbeats 1000000
/-! Z11: the compiler, over any algebra of combinators. -/
namespace Z
open PySem PySem.Spec PyProof.Rows L2

inductive BK where | add | sub | mul | div | mod | pow | eq | ne | lt | le | gt | ge | is | isn | iadd | isub | imul | idiv | imod | inn | nin
  deriving DecidableEq, Repr
inductive FK where | len | isi | sum | any | all | abs | max | min | gcd | int | tup | lst | sorted
  deriving DecidableEq, Repr
inductive MK where | append | extend | pop | get
  deriving DecidableEq, Repr
structure Alg where
  E : Type
  A : Type
  B : Type
  I : Type
  G : Type
  Gs : Type
  C : Type
  S : Type
  O : Type
  eVar : Nat → E
  eLit : D → E
  eInt : Int → E
  eStr : List Nat → E
  eBin : BK → E → E → E
  eChain : BK → BK → E → E → E → E
  eNot : E → E
  eNeg : E → E
  eAnd : E → E → E
  eOr : E → E → E
  eIf : B → E → E → E
  eTup : A → E
  eLst : A → E
  eIx : E → E → E
  eSl : E → O → O → E
  oNo : O
  oPart : E → O
  eCall : Nat → Nat → A → E
  eCallV : Nat → List Nat → A → E
  eTold : Nat → List Hd → E → E
  eRepr : A → E
  eBlt : FK → A → E
  eMeth : MK → E → A → E
  eRev : E → E
  eDict0 : E
  eLc : I → List Nat → List Nat → G → B → C → E
  eLock : Nat → E → E
  aNil : A
  aCons : E → A → A
  bTst : E → B
  bTru : E → B
  bNot : B → B
  bAnd : B → B → B
  bOr : B → B → B
  bYes : B
  iIter : E → I
  iR1 : A → I
  iR2 : A → I
  iEnm : A → I
  iZip : A → I
  iItm : E → I
  gName : Nat → G
  gTup : Nat → Gs → G
  gSub : E → E → G
  gsNil : Gs
  gsCons : G → Gs → Gs
  cEmit : E → C
  cLvl : I → List Nat → G → B → C → C
  sNext : S
  sBrk : S
  sCont : S
  sNever : S
  sRaise : Nat → List Nat → A → S
  sRetN : S
  sSeq : S → S → S
  sDrop : E → S
  sRet : E → S
  sIf : B → S → S → S
  sAsg : E → G → S
  sPar : Nat → Nat → A → S
  sPar3 : Nat → Nat → Nat → A → S
  sAug : Nat → E → BK → S
  sFor : I → G → S → S
  sWhile : B → S → S
def opBK : Operator → Option BK
  | .Add => some .add
  | .Sub => some .sub
  | .Mult => some .mul
  | .FloorDiv => some .div
  | .Mod => some .mod
  | .Pow => some .pow
  | _ => none
def ipBK : Operator → Option BK
  | .Add => some .iadd
  | .Sub => some .isub
  | .Mult => some .imul
  | .FloorDiv => some .idiv
  | .Mod => some .imod
  | _ => none
def cmpBK : CmpOp → BK
  | .Eq => .eq
  | .NotEq => .ne
  | .Lt => .lt
  | .LtE => .le
  | .Gt => .gt
  | .GtE => .ge
  | .Is => .is
  | .IsNot => .isn
  | .In => .inn
  | .NotIn => .nin
def fkName : FK → Str
  | .len => "len" | .isi => "isinstance" | .sum => "sum" | .any => "any" | .all => "all" | .abs => "abs" | .max => "max" | .min => "min" | .gcd => "gcd" | .int => "int" | .tup => "tuple" | .lst => "list" | .sorted => "sorted"
def fkAll : List FK := [.len, .isi, .tup, .all, .int, .sum, .lst, .any, .abs, .max, .min, .sorted]
def fkOf (x : Str) : List FK → Option FK
  | [] => none
  | f :: r => match sEq x (fkName f) with
    | true => some f
    | false => fkOf x r
def mkName : MK → Str
  | .append => "append" | .extend => "extend" | .pop => "pop" | .get => "get"
def mkOf (x : Str) : List MK → Option MK
  | [] => none
  | f :: r => match sEq x (mkName f) with
    | true => some f
    | false => mkOf x r
def tyName : TyN → Str
  | .int => "int" | .bool => "bool" | .str => "str" | .tuple => "tuple" | .list => "list" | .dict => "dict"
def tyOf (x : Str) : List TyN → Option TyN
  | [] => none
  | f :: r => match sEq x (tyName f) with
    | true => some f
    | false => tyOf x r
/-- the names that are the block's own, with their places -/
def ownPl (N : List Str) : List (Str × NameKind) → Option (List (Str × Nat))
  | [] => some []
  | (y, k) :: r => match k with
    | .local => (match place y N, ownPl N r with
      | some i, some l => some ((y, i) :: l)
      | _, _ => none)
    | .cell => (match place y N, ownPl N r with
      | some i, some l => some ((y, i) :: l)
      | _, _ => none)
    | _ => ownPl N r
def isKind (k : NameKind) (o : Option NameKind) : Bool := match k, o with
  | .local, some .local => true
  | .cell, some .cell => true
  | .free, some .free => true
  | .globalImplicit, some .globalImplicit => true
  | .globalExplicit, some .globalExplicit => true
  | _, _ => false
def isFun (sc : Scope) : Bool := match sc.kind with
  | .function => true
  | _ => false
/-- the block's names are as they must be -/
def blkB (sc scope : Scope) : List (Str × NameKind) → Bool
  | [] => true
  | (y, k) :: r => (match isKind k (look y scope.names) with
    | false => false
    | true => match k with
      | .free => (match look y sc.names with
        | some .cell => blkB sc scope r
        | some .free => blkB sc scope r
        | _ => false)
      | _ => blkB sc scope r)
structure Cm (al : Alg) where
  E : CI → Expr → Option al.E
  T : CI → Expr → Option al.B
  I : CI → Expr → Expr → Option al.I
  G : CI → Expr → Option (List Nat × al.G)
section
variable {al : Alg}
def cA (E : Expr → Option al.E) : List Expr → Option al.A
  | [] => some al.aNil
  | e :: r => match notStar e, E e, cA E r with
    | true, some a, some b => some (al.aCons a b)
    | _, _, _ => none
def cBE (E : Expr → Option al.E) (f : al.E → al.E → al.E) : List Expr → Option al.E
  | [] => none
  | e :: r => match r with
    | [] => E e
    | _ => match E e, cBE E f r with
      | some a, some b => some (f a b)
      | _, _ => none
def cBT (T : Expr → Option al.B) (f : al.B → al.B → al.B) : List Expr → Option al.B
  | [] => none
  | e :: r => match r with
    | [] => T e
    | _ => match T e, cBT T f r with
      | some a, some b => some (f a b)
      | _, _ => none
def cGs (G : Expr → Option (List Nat × al.G)) : List Expr → Option (List Nat × al.Gs)
  | [] => some ([], al.gsNil)
  | e :: r => match notStar e, G e, cGs G r with
    | true, some (v, a), some (w, b) => some (v ++ w, al.gsCons a b)
    | _, _, _ => none
def cTests (T : Expr → Option al.B) : List Expr → Option al.B
  | [] => some al.bYes
  | [c] => T c
  | _ => none
def isZ (i : Int) : Bool := match i with
  | .ofNat 0 => true
  | _ => false
/-- the clauses behind the first -/
def cCls (c : Cm al) (ci : CI) (elt : Expr) : List Comprehension → Option (List Nat × al.C)
  | [] => (match c.E ci elt with
    | some e => some ([], al.cEmit e)
    | none => none)
  | ⟨tg, iter, ifs, a⟩ :: r => match isZ a, notSet iter, c.I ci tg iter, c.G ci tg, cTests (c.T ci) ifs, cCls c ci elt r with
    | true, true, some i, some (vs, g), some t, some (ws, n) => some (vs ++ ws, al.cLvl i (vs ++ ws) g t n)
    | _, _, _, _, _, _ => none
/-- a list comprehension: first its source, in the def's own scope -/
def cComp (c : Cm al) (ci : CI) (elt : Expr) (gens : List Comprehension) (scope : Scope) : Option al.E := match gens with
  | ⟨tg, iter, ifs, a⟩ :: r => (match isFun scope, blkB ci.sc scope scope.names, ownPl ci.N scope.names with
    | true, true, some own => (match isZ a, notSet iter, c.I ci tg iter, c.G (blkCI ci scope) tg, cTests (c.T (blkCI ci scope)) ifs, cCls c (blkCI ci scope) elt r with
      | true, true, some i, some (vs, g), some t, some (ws, n) => some (al.eLc i (own.map (·.2)) (vs ++ ws) g t n)
      | _, _, _, _, _, _ => none)
    | _, _, _ => none)
  | [] => none
/-- the slot of the dict whose pairs are walked first -/
def lockOf (ci : CI) : List Comprehension → Option Nat
  | ⟨_, .Call (.Attribute (.Name x _) _ _) [] [] _, _, _⟩ :: _ => place x ci.N
  | _ => none
/-- a name's value -/
def cName (ci : CI) (x : Str) : Option al.E := match look x ci.sc.names with
  | some .globalImplicit => (match look x ci.gl, sNe x "__debug__" with
    | some (.val d), true => some (al.eLit d)
    | some (.fn i), true => some (al.eLit (.fn i))
    | some (.fnk i), true => some (al.eLit (.fn i))
    | some (.cls i), true => some (al.eLit (.cls i))
    | some .free, true => (match tyOf x [.tuple, .int, .bool, .str, .list, .dict] with
      | some t => some (al.eLit (.ty t))
      | none => none)
    | _, _ => none)
  | some k => (match isKind .globalExplicit (some k), place x ci.N, sNe x "__debug__", sNe x "__classdict__" with
    | false, some i, true, true => some (al.eVar i)
    | _, _, _, _ => none)
  | none => none
def short30 (es : List Expr) : Bool := Nat.blt es.length 30
/-- f(..) -/
def cCallF (fns : List (List Str)) (E : Expr → Option al.E) (ci : CI) (x : Str) (es : List Expr) : Option al.E := match look x ci.sc.names, sNe x "__debug__", cA E es with
  | some .globalImplicit, true, some a => (match look x ci.gl with
    | some (.fn i) => (match fns[i]? with
      | some ps => some (al.eCall i ps.length a)
      | none => none)
    | some (.fnk i) => (match fns[i]? with
      | some ps => some (al.eCall i ps.length a)
      | none => none)
    | some .free => (match fkOf x fkAll, es with
      | some f, _ :: _ => some (al.eBlt f a)
      | _, _ => none)
    | some (.bfun "math.gcd") => (match es with
      | _ :: _ => some (al.eBlt .gcd a)
      | [] => none)
    | _ => none)
  | _, _, _ => none
/-- f(..) where f is a variable -/
def cCallW (fns : List (List Str)) (E : Expr → Option al.E) (ci : CI) (x : Str) (es : List Expr) : Option al.E := match look x ci.sc.names, place x ci.N, cA E es, es, sNe x "__debug__", sNe x "__classdict__" with
  | some .local, some i, some a, _ :: _, true, true => some (al.eCallV i (fns.map List.length) a)
  | some .cell, some i, some a, _ :: _, true, true => some (al.eCallV i (fns.map List.length) a)
  | some .free, some i, some a, _ :: _, true, true => some (al.eCallV i (fns.map List.length) a)
  | _, _, _, _, _, _ => none
/-- repr(e) -/
def cReprF (E : Expr → Option al.E) (ci : CI) (x : Str) (es : List Expr) : Option al.E := match look x ci.sc.names, look x ci.gl, ci.top, sEq x "repr", cA E es, es with
  | some .globalImplicit, some .free, true, true, some a, [_] => some (al.eRepr a)
  | _, _, _, _, _, _ => none
/-- the values of a call by names -/
def cKw (E : Expr → Option al.E) : List Keyword → List Str → Option al.A
  | [], [] => some al.aNil
  | ⟨some y, e, _⟩ :: r, z :: ps => (match sEq y z, E e, cKw E r ps with
    | true, some a, some b => some (al.aCons a b)
    | _, _, _ => none)
  | _, _ => none
def cCallKw (fns : List (List Str)) (E : Expr → Option al.E) (ci : CI) (x : Str) (kws : List Keyword) : Option al.E := match look x ci.sc.names, look x ci.gl, sNe x "__debug__" with
  | some .globalImplicit, some (.fnk i), true => (match fns[i]? with
    | some ps => (match cKw E kws ps with
      | some a => some (al.eCall i ps.length a)
      | none => none)
    | none => none)
  | _, _, _ => none
def lamB (sc scope : Scope) : List (Str × NameKind) → Bool
  | [] => true
  | (y, k) :: r => (match k with
    | .free => (match look y sc.names with
      | some .cell => lamB sc scope r
      | some .free => lamB sc scope r
      | _ => false)
    | .local => false
    | .cell => false
    | _ => lamB sc scope r)
def noCoro (s : Scope) : Bool := match s.isCoroutine, s.isGenerator with
  | false, false => true
  | _, _ => false
/-- f(lambda: body) -/
def cLamF (E : CI → Expr → Option al.E) (ci : CI) (x : Str) (body : Expr) (scope : Scope) : Option al.E := match look x ci.sc.names, look x ci.gl, sNe x "__debug__", ci.tab, isFun scope, noCoro scope, lamB ci.sc scope scope.names, E ⟨ci.N, scope, scope, ci.gl, false, false⟩ body with
  | some .globalImplicit, some (.told nc hs), true, true, true, true, true, some c => some (al.eTold nc hs c)
  | _, _, _, _, _, _, _, _ => none
def cOpt (E : Expr → Option al.E) : Option Expr → Option al.O
  | none => some al.oNo
  | some e => match E e with
    | some a => some (al.oPart a)
    | none => none
def isOne (i : Int) : Bool := match i with
  | .ofNat 1 => true
  | _ => false
def stepE (fns : List (List Str)) (c : Cm al) (ci : CI) : Expr → Option al.E
  | .Constant k _ _ => (match k with
    | .int i => some (al.eInt i)
    | .bool b => some (al.eLit (.bl b))
    | .none => some (al.eLit .non)
    | .str x => some (al.eStr x.cps.toList)
    | _ => none)
  | .Name x _ => cName ci x
  | .BinOp a op b _ => (match opBK op, c.E ci a, c.E ci b with
    | some o, some x, some y => some (al.eBin o x y)
    | _, _, _ => none)
  | .UnaryOp op a _ => (match op, c.E ci a with
    | .Not, some x => some (al.eNot x)
    | .USub, some x => some (al.eNeg x)
    | _, _ => none)
  | .BoolOp op es _ => (match op with
    | .And => cBE (c.E ci) al.eAnd es
    | .Or => cBE (c.E ci) al.eOr es)
  | .Compare a [op] [b] _ => (match c.E ci a, c.E ci b, behindInMarks op b with
    | some x, some y, false => some (al.eBin (cmpBK op) x y)
    | _, _, _ => none)
  | .Compare a [op, op'] [b, b'] _ => (match c.E ci a, c.E ci b, c.E ci b', behindInMarks op' b' with
    | some x, some y, some z, false => some (al.eChain (cmpBK op) (cmpBK op') x y z)
    | _, _, _, _ => none)
  | .IfExp t a b _ => (match c.T ci t, c.E ci a, c.E ci b with
    | some x, some y, some z => some (al.eIf x y z)
    | _, _, _ => none)
  | .Tuple es _ _ => (match cA (c.E ci) es with
    | some a => some (al.eTup a)
    | none => none)
  | .List es _ => (match cA (c.E ci) es with
    | some a => some (al.eLst a)
    | none => none)
  | .Subscript a (.Slice lo hi none _) _ => (match c.E ci a, cOpt (c.E ci) lo, cOpt (c.E ci) hi with
    | some x, some l, some h => some (al.eSl x l h)
    | _, _, _ => none)
  | .Subscript a (.Slice none none (some (.UnaryOp .USub (.Constant (.int i) _ _) _)) _) _ => (match isOne i, c.E ci a with
    | true, some x => some (al.eRev x)
    | _, _ => none)
  | .Dict [] [] _ => some al.eDict0
  | .Subscript a b _ => (match c.E ci a, c.E ci b, notSlice b with
    | some x, some y, true => some (al.eIx x y)
    | _, _, _ => none)
  | .ListComp elt gens scope _ => (match lockOf ci gens, cComp c ci elt gens scope with
    | some i, some a => some (al.eLock i a)
    | none, some a => some a
    | _, none => none)
  | .Call (.Name x _) [.Lambda ⟨[], [], none, [], [], none, []⟩ body scope _] [] _ => cLamF c.E ci x body scope
  | .Call (.Name x _) es [] _ => (match cCallF fns (c.E ci) ci x es with
    | some r => some r
    | none => (match cCallW fns (c.E ci) ci x es with
      | some r => some r
      | none => cReprF (c.E ci) ci x es))
  | .Call (.Name x _) [] kws _ => cCallKw fns (c.E ci) ci x kws
  | .Call (.Attribute o nm apos) es [] pos => (match mkOf nm [.append, .get, .extend, .pop], notCall o, short30 es, Nat.beq apos.endLine pos.line, c.E ci o, cA (c.E ci) es with
    | some m, true, true, true, some x, some a => some (al.eMeth m x a)
    | _, _, _, _, _, _ => none)
  | _ => none
def stepT (c : Cm al) (ci : CI) : Expr → Option al.B
  | .UnaryOp op a _ => (match op, c.T ci a with
    | .Not, some x => some (al.bNot x)
    | _, _ => none)
  | .BoolOp op es _ => (match op with
    | .And => cBT (c.T ci) al.bAnd es
    | .Or => cBT (c.T ci) al.bOr es)
  | .Compare a [op] [b] _ => (match c.E ci a, c.E ci b, behindInMarks op b with
    | some x, some y, false => some (al.bTst (al.eBin (cmpBK op) x y))
    | _, _, _ => none)
  | .Compare a [op, op'] [b, b'] _ => (match c.E ci a, c.E ci b, c.E ci b', behindInMarks op' b' with
    | some x, some y, some z, false => some (al.bTst (al.eChain (cmpBK op) (cmpBK op') x y z))
    | _, _, _, _ => none)
  | e => (match plainTest e, c.E ci e with
    | true, some x => some (al.bTru x)
    | _, _ => none)
def isTupE : Expr → Bool
  | .Tuple .. => true
  | _ => false
def stepI (c : Cm al) (ci : CI) (tg : Expr) (e : Expr) : Option al.I := match e with
  | .Call (.Name x _) es [] _ => (match look x ci.sc.names, look x ci.gl, cA (c.E ci) es with
    | some .globalImplicit, some .free, some a => (match es with
      | [_] => (match sEq x "range" with
        | true => some (al.iR1 a)
        | false => match sEq x "enumerate", isTupE tg with
          | true, true => some (al.iEnm a)
          | _, _ => match c.E ci e with
            | some z => some (al.iIter z)
            | none => none)
      | [_, _] => (match sEq x "range" with
        | true => some (al.iR2 a)
        | false => match sEq x "zip", isTupE tg with
          | true, true => some (al.iZip a)
          | _, _ => none)
      | _ => none)
    | _, _, _ => match c.E ci e with
      | some z => some (al.iIter z)
      | none => none)
  | .Call (.Attribute o nm apos) [] [] pos => (match sEq nm "items", isTupE tg, notCall o, Nat.beq apos.endLine pos.line, c.E ci o with
    | true, true, true, true, some z => some (al.iItm z)
    | _, _, _, _, _ => match c.E ci e with
      | some z => some (al.iIter z)
      | none => none)
  | _ => match c.E ci e with
    | some z => some (al.iIter z)
    | none => none
def stepG (c : Cm al) (ci : CI) : Expr → Option (List Nat × al.G)
  | .Name x _ => (match place x ci.N, look x ci.own.names with
    | some i, some .local => some ([i], al.gName i)
    | some i, some .cell => some ([i], al.gName i)
    | _, _ => none)
  | .Tuple es _ _ => (match cGs (c.G ci) es with
    | some (vs, g) => some (vs, al.gTup es.length g)
    | none => none)
  | .Subscript o i _ => (match notSlice i, c.E ci o, c.E ci i with
    | true, some a, some b => some ([], al.gSub a b)
    | _, _, _ => none)
  | _ => none
def cm (fns : List (List Str)) : Nat → Cm al
  | 0 => ⟨fun _ _ => none, fun _ _ => none, fun _ _ _ => none, fun _ _ => none⟩
  | n + 1 => ⟨stepE fns (cm fns n), stepT (cm fns n), stepI (cm fns n), stepG (cm fns n)⟩
/-! statements -/
def cSs (St : Stmt → Option al.S) : List Stmt → Option al.S
  | [] => some al.sNext
  | s :: r => match r with
    | [] => St s
    | _ => match St s, cSs St r with
      | some a, some b => some (al.sSeq a b)
      | _, _ => none
/-- x, y = a, b stored from the right -/
def cParB (E : Expr → Option al.E) (ci : CI) (ts vs : List Expr) : Option al.S := match ts, vs, cA E vs with
  | [.Name x _, .Name y _], [_, _], some a => (match place x ci.N, place y ci.N, isKind .local (look x ci.sc.names), isKind .local (look y ci.sc.names) with
    | some i, some j, true, true => (match Nat.beq i j with
      | false => some (al.sPar i j a)
      | true => none)
    | _, _, _, _ => none)
  | [.Name x _, .Name y _, .Name z _], [_, _, _], some a => (match place x ci.N, place y ci.N, place z ci.N, isKind .local (look x ci.sc.names), isKind .local (look y ci.sc.names), isKind .local (look z ci.sc.names) with
    | some i, some j, some l, true, true, true => (match Nat.beq i j, Nat.beq i l, Nat.beq j l with
      | false, false, false => some (al.sPar3 i j l a)
      | _, _, _ => none)
    | _, _, _, _, _, _ => none)
  | _, _, _ => none
def allSN (x : Str) : List Str → Bool
  | [] => true
  | y :: r => match sNe x y with
    | true => allSN x r
    | false => false
def nodupS : List Str → Bool
  | [] => true
  | x :: r => match allSN x r with
    | true => nodupS r
    | false => false
/-- plain local names on one line -/
def parNames (sc : Scope) (line : Nat) : List Expr → Option (List Str)
  | [] => some []
  | t :: r => match t with
    | .Name x p => (match isKind .local (look x sc.names), Nat.beq p.line line, parNames sc line r with
      | true, true, some l => some (x :: l)
      | _, _, _ => none)
    | _ => none
/-- surely not a plain local name on that line -/
def notPar (sc : Scope) (line : Nat) : Expr → Bool
  | .Name x p => (match look x sc.names with
    | some .local => !(Nat.beq p.line line)
    | some _ => true
    | none => false)
  | _ => true
/-- how a tuple's items are stored: 0: as they stand; 1: swapped; 2: not known -/
def parKind (sc : Scope) (ts vs : List Expr) : Nat := match (!(Nat.beq ts.length 2 || Nat.beq ts.length 3) || !(Nat.beq vs.length ts.length)) with
  | true => 0
  | false => match vs.any isStarE with
    | true => 0
    | false => match ts.any (notPar sc ((ts.head?.map (·.pos.line)).getD 0)) with
      | true => 0
      | false => match parNames sc ((ts.head?.map (·.pos.line)).getD 0) ts with
        | some l => (match nodupS l, vs.all (foldedForSure 8), vs.all (constantsAlone 8) with
          | true, true, _ => 0
          | true, false, false => 1
          | _, _, _ => 2)
        | none => 2
def swC (sc : Scope) (t : Str) (p pe : Pos) (s : Scope) : Option Bool := match look t sc.names, look t s.names with
  | some .local, o => (match Nat.beq p.line pe.line with
    | false => some false
    | true => (match o with
      | some .local => some false
      | some .cell => some false
      | some _ => some true
      | none => match s.names.all fun y => sNe t y.1 with
        | true => some true
        | false => none))
  | some _, _ => some false
  | none, _ => none
def stepS (fns : List (List Str)) (c : Cm al) (ci : CI) (Ss : List Stmt → Option al.S) : Stmt → Option al.S
  | .Pass _ => some al.sNext
  | .Break _ => some al.sBrk
  | .Continue _ => some al.sCont
  | .Return none _ => some al.sRetN
  | .Return (some e) _ => (match c.E ci e with
    | some a => some (al.sRet a)
    | none => none)
  | .Raise (some (.Call (.Name x _) es [] _)) none _ => (match look x ci.sc.names, look x ci.gl, sNe x "__debug__", cA (c.E ci) es, es with
    | some .globalImplicit, some (.exc i ats), true, some a, _ :: _ => (match Nat.ble ats.length 1000 with
      | true => some (al.sRaise i ats a)
      | false => some al.sNever)
    | _, _, _, _, _ => some al.sNever)
  | .Raise _ _ _ => some al.sNever
  | .Expr e _ => (match notComp e, c.E ci e with
    | true, some a => some (al.sDrop a)
    | _, _ => none)
  | .If t a b _ => (match c.T ci t, Ss a, Ss b with
    | some x, some y, some z => some (al.sIf x y z)
    | _, _, _ => none)
  | .For tg iter body [] _ => (match notSet iter, c.I ci tg iter, c.G ci tg, Ss body with
    | true, some i, some (_, g), some b => some (al.sFor i g b)
    | _, _, _, _ => none)
  | .While t body [] _ => (match c.T ci t, Ss body with
    | some x, some b => some (al.sWhile x b)
    | _, _ => none)
  | .AugAssign (.Name x _) op e _ => (match place x ci.N, look x ci.own.names, ipBK op, c.E ci e with
    | some i, some .local, some o, some a => some (al.sAug i a o)
    | some i, some .cell, some o, some a => some (al.sAug i a o)
    | _, _, _, _ => none)
  | .Assign [.Name y py] (.ListComp elt gens s pe) _ => (match swC ci.sc y py pe s, c.E ci (.ListComp elt gens s pe), c.G ci (.Name y py), lockOf ci gens with
    | some true, some a, some (_, g), none => (match isKind .local (look y ci.sc.names) with
      | true => some (al.sAsg a g)
      | false => none)
    | some false, some a, some (_, g), none => some (al.sAsg a g)
    | _, _, _, _ => none)
  | .Assign [.Tuple ts k p] (.Tuple vs k2 p2) _ => (match parKind ci.sc ts vs with
    | 0 => (match c.E ci (.Tuple vs k2 p2), c.G ci (.Tuple ts k p) with
      | some a, some (_, g) => some (al.sAsg a g)
      | _, _ => none)
    | 1 => cParB (c.E ci) ci ts vs
    | _ => none)
  | .Assign [.List _ _] _ _ => none
  | .Assign [tg] e _ => (match notComp e, notStar tg, c.E ci e, c.G ci tg with
    | true, true, some a, some (_, g) => some (al.sAsg a g)
    | _, _, _, _ => none)
  | _ => none
def cmS (fns : List (List Str)) (c : Cm al) (ci : CI) : Nat → List Stmt → Option al.S
  | 0, _ => none
  | n + 1, l => cSs (stepS fns c ci (cmS fns c ci n)) l
end
end Z
set_option Elab.async false
set_option autoImplicit false
set_option linter.all false
set_option maxRecDepth 100000
set_option maxHeartbeats 4000000
/-! ZR: [::-1] of a tuple. -/
namespace ZP
open PySem PySem.Spec PyProof.Rows L2 HT
section
variable {prog : Program} {w : World} {A : Around} {E : Value → Shared → Prop} {s : Shared}
theorem adjust_rev (n : Nat) : Builtin.Slice.sliceAdjust none none (-1) (n : Int) = ((n : Int) - 1, -1) := by
  unfold Builtin.Slice.sliceAdjust
  rfl
theorem places_rev (n : Nat) : Builtin.Slice.slicePlaces ((n : Int) - 1) (-1) (-1) = n := by
  unfold Builtin.Slice.slicePlaces
  rw [if_neg (by omega)]
  split
  · rw [Int.neg_neg, Int.ediv_one]; omega
  · omega
theorem fm_map {α β : Type} {f : α → Option β} {g : α → β} : ∀ {l : List α}, (∀ x ∈ l, f x = some (g x)) → l.filterMap f = l.map g
  | [], _ => rfl
  | x :: r, h => by rw [List.filterMap_cons, h x List.mem_cons_self, List.map_cons, fm_map fun y hy => h y (List.mem_cons_of_mem _ hy)]
theorem pick_rev (xs : Array Value) : ((List.range xs.size).filterMap fun (k : Nat) => xs[(((xs.size : Int) - 1) + (k : Int) * (-1)).toNat]?).toArray = xs.toList.reverse.toArray := by
  congr 1
  apply List.ext_getElem?
  intro i
  have h : ((List.range xs.size).filterMap fun (k : Nat) => xs[(((xs.size : Int) - 1) + (k : Int) * (-1)).toNat]?) = (List.range xs.size).map fun k => xs.getD (xs.size - 1 - k) .none := by
    refine fm_map fun k hk => ?_
    have hk' := List.mem_range.mp hk
    have e : (((xs.size : Int) - 1) + (k : Int) * (-1)).toNat = xs.size - 1 - k := by omega
    rw [e]
    have hlt : xs.size - 1 - k < xs.size := by omega
    simp [hlt]
  rw [h, List.getElem?_map]
  by_cases hi : i < xs.size
  · rw [List.getElem?_range hi, List.getElem?_reverse (by simpa using hi)]
    have hlt : xs.size - 1 - i < xs.size := by omega
    simp [hlt]
  · rw [List.getElem?_eq_none (by simpa using Nat.le_of_not_lt hi), List.getElem?_eq_none (by simpa using Nat.le_of_not_lt hi)]
    rfl
theorem sliceApplied_rev {sl : Addr} {vl vu vs : Value} {n : Nat} {Q : Int × Int × Nat → Shared → Prop} (hs : s.heap.IsSliceOf sl vl vu vs) (pl : IsPart vl none) (pu : IsPart vu none) (ps : IsPart vs (some (-1)))
    (h : Q ((n : Int) - 1, -1, n) s) : wpAny (model prog w) A (Builtin.Slice.sliceApplied (.ref sl) (pure (n : Int))) Q E s := by
  obtain ⟨os, hos, hcs, hds⟩ := id hs
  unfold Builtin.Slice.sliceApplied Builtin.Slice.sliceFields
  refine wpAny_bind (wpAny_bind (wpAny_field hos hds (x := vl) rfl (wpAny_bind (wpAny_field hos hds (x := vu) rfl (wpAny_bind (wpAny_field hos hds (x := vs) rfl (wpAny_pure ?_)))))))
  refine wpAny_bind (slicePart_ ps ?_)
  show wpAny _ _ (if ((-1 : Int) == 0) = true then _ else _) _ _ s
  rw [if_neg (by decide)]
  refine wpAny_bind (slicePart_ pl (wpAny_bind (slicePart_ pu (wpAny_bind (wpAny_pure ?_)))))
  show wpAny _ _ (match Builtin.Slice.sliceAdjust none none (-1) (n : Int) with | (lo, hi) => pure (lo, (-1 : Int), Builtin.Slice.slicePlaces lo hi (-1))) _ _ s
  rw [adjust_rev]
  show wpAny _ _ (pure ((n : Int) - 1, (-1 : Int), Builtin.Slice.slicePlaces ((n : Int) - 1) (-1) (-1))) _ _ s
  rw [places_rev]
  exact wpAny_pure h
theorem getItem_tuple_rev {t sl : Addr} {items : Array Value} {vl vu vs : Value} {Q : Value → Shared → Prop} (ht : IsTup s.heap t items) (hs : s.heap.IsSliceOf sl vl vu vs) (pl : IsPart vl none) (pu : IsPart vu none) (ps : IsPart vs (some (-1)))
    (h : Q (.ref s.heap.objs.size) { s with heap := s.heap.push { cls := .type "tuple", data := .seq items.toList.reverse.toArray } }) (hsz : items.size ≤ sizeLine) : wpAny (model prog w) A (getItem (.ref t) (.ref sl)) Q E s := by
  have htake : sizeOk (.seq items.toList.reverse.toArray) := by
    show items.toList.reverse.toArray.size ≤ sizeLine
    rw [List.size_toArray, List.length_reverse, Array.length_toList]
    exact hsz
  obtain ⟨os, hos, hcs, hds⟩ := id hs
  have hTs : s.TypeIs (.ref sl) "slice" := ⟨os, hos, hcs⟩
  unfold getItem
  try with_reducible refine wpAny_holding ?_
  first | refine wpAny_bind (wpAny_pure ?_) | skip
  refine wpAny_bind (wpAny_sequenceKey ht.typeIs (by decide) ?_)
  refine wpAny_bind (wpAny_callSpecial?_slot (name := Str.ofString "__getitem__") ht.typeIs PyProof.Rows.slot_tuple_getitem
    (wpAny_call_entry PyProof.Rows.slot_tuple_getitem ht.typeIs entry_tuple_getitem ?_ (args_tuple_getitem _ _)))
  show wpAny _ _ (Builtin.Tuple.tupleItemsOf (.ref t) >>= _) _ _ s
  refine wpAny_bind (tupleItemsOf_ ht ?_)
  refine wpAny_bind (wpAny_typeOf hTs ?_)
  rw [if_pos (by decide)]
  refine wpAny_bind (sliceApplied_rev hs pl pu ps ?_)
  have hno : ¬ ((((items.size : Int) - 1) == 0 && (-1 : Int) == 1 && items.size == items.size) = true) := by
    intro q
    rw [Bool.and_eq_true, Bool.and_eq_true] at q
    have q1 : (-1 : Int) = 1 := eq_of_beq q.1.2
    omega
  show wpAny _ _ (if (((items.size : Int) - 1) == 0 && (-1 : Int) == 1 && items.size == items.size) = true then _ else _) _ _ s
  rw [if_neg hno, pick_rev]
  first
    | exact wpAny_bind (m := Builtin.Tuple.tupleExact _) (wpAny_newObj_type (wpAny_pure ⟨_, rfl, wpAny_pure h⟩) htake)
    | exact wpAny_bind (m := Builtin.Tuple.tupleExact _) (wpAny_newObj_type (wpAny_bind (wpAny_pure (wpAny_pure ⟨_, rfl, wpAny_pure h⟩))) htake)
    | exact wpAny_bind (wpAny_bind (m := Builtin.Tuple.tupleExact _) (wpAny_newObj_type (wpAny_pure (wpAny_pure ⟨_, rfl, wpAny_pure h⟩)) htake))
    | exact wpAny_bind (wpAny_bind (m := Builtin.Tuple.tupleExact _) (wpAny_newObj_type (wpAny_pure ⟨_, rfl, wpAny_pure h⟩) htake))
end
section
variable {X : Cx}
/-- xs[::-1], a list or a tuple -/
def tRevA (K : PySem.W.Frag) (te : TE) : TE := fun σ H Q => te σ H fun x H1 => ∃ a xs, x = .ref a ∧ ((SqL K H1 a xs ∧ ∀ p, H1 p = none → Q (.ref p) (upd H1 p (.lst xs.reverse))) ∨ (SqT K H1 a xs ∧ ∀ p, H1 p = none → Q (.ref p) (upd H1 p (.tup xs.reverse))))
theorem pe_revA {e : Expr} {te : TE} {k : Nat} {p1 p2 p3 pos : Pos} (he : PE X e te) : PE X (.Subscript e (.Slice none none (some (.UnaryOp .USub (.Constant (.int 1) k p1) p2)) p3) pos) (tRevA X.K te) := by
  refine ⟨fun pins s σ H Q I h => ?_⟩
  refine Subscript_ (thn (he.run pins s σ H _ I h) fun v s1 ⟨x, H1, I1, r1, q1⟩ => ?_)
  obtain ⟨a, xs, ex, hx⟩ := q1
  subst ex
  cases r1
  have hst : PO X (some (.UnaryOp .USub (.Constant (.int 1) k p1) p2)) (tPart (tUn (rU fun i => .int (-i)) (tC (.int 1)))) := po_some (pe_un un_neg pe_int)
  refine wpAny_Slice (thn (po_none.run pins s1 σ H1 (fun o H2 => o = none ∧ H2 = H1) I1 ⟨rfl, rfl⟩) fun vl s2 ⟨l, H2, I2, pl, el, e2⟩ => ?_)
  subst el e2
  refine thn (po_none.run pins s2 σ H2 (fun o H3 => o = none ∧ H3 = H2) I2 ⟨rfl, rfl⟩) fun vu s3 ⟨u, H3, I3, pu, eu, e3⟩ => ?_
  subst eu e3
  refine thn (hst.run pins s3 σ H3 (fun o H4 => o = some (-1) ∧ H4 = H3) I3 ⟨1, rfl, -1, rfl, rfl, rfl⟩) fun vs s4 ⟨o, H4, I4, ps, eo, e4⟩ => ?_
  subst eo e4
  have I5 : Inv X pins σ H4 { s4 with heap := s4.heap.push { cls := .type "slice", data := .fields #[vl, vu, vs] } } := I4.kept (t' := s4.toks) fun b ob q => Heap.get?_push_of_some _ q
  show wpAny (model X.prog X.w) X.A (subscriptTail e (.Slice none none (some (.UnaryOp .USub (.Constant (.int 1) k p1) p2)) p3) (.ref a) (.ref s4.heap.objs.size)) (EP X pins σ Q) X.xe { s4 with heap := s4.heap.push { cls := .type "slice", data := .fields #[vl, vu, vs] } }
  rcases hx with ⟨hx, q⟩ | ⟨hx, q⟩
  · obtain ⟨its, r, ht, hz⟩ := I5.list hx
    have hlen := r.length
    refine tail_any (ops := [.ref a, .ref s4.heap.objs.size]) ht.isList.typeIs (PySem.slot_list_getitem.lookup) ?_ (by with_unfolding_all rfl)
    refine wpAny_getItem_list_slice ht.isList (Heap.IsSliceOf.new _ vl vu vs) pl pu ps (by decide) ?_ (by rw [List.size_toArray]; omega)
    rw [PySem.W.krv_pick]
    refine ⟨.ref _, _, I5.laid (t' := s4.toks) (o := .lst xs.reverse) (fun b ob q => Heap.get?_push_of_some _ q) (Nat.le_refl _) ?_, rfl, q _ (I5.hok.fresh (Nat.le_refl _))⟩
    exact ⟨by rw [List.length_reverse]; exact hz, _, 0, r.reverse, Heap.get?_push_size _ rfl⟩
  · obtain ⟨its, r, ht, hz⟩ := I5.tuple hx
    have hlen := r.length
    refine tail_any (ops := [.ref a, .ref s4.heap.objs.size]) ht.typeIs (PyProof.Rows.slot_tuple_getitem.lookup) ?_ (by with_unfolding_all rfl)
    refine getItem_tuple_rev ht (Heap.IsSliceOf.new _ vl vu vs) pl pu ps ?_ (by rw [List.size_toArray]; omega)
    refine ⟨.ref _, _, I5.laid (t' := s4.toks) (o := .tup xs.reverse) (fun b ob q => Heap.get?_push_of_some _ q) (Nat.le_refl _) ?_, rfl, q _ (I5.hok.fresh (Nat.le_refl _))⟩
    exact ⟨by rw [List.length_reverse]; exact hz, _, r.reverse, IsTup.new _ _⟩
end
end ZP
noncomputable section
namespace Z
open PySem PySem.Spec PyProof.Rows L2
def cRev (a : CE) : CE := fun ev σ M k kx => a ev σ M (fun x M => seqK x M (fun ds => revK ds fun r => k (.tup false r) M) (fun ds => revK ds fun r => newC M (.lst r) fun n M => k (.loc n) M)) kx
def cDict0 : CE := fun _ _ M k _ => newC M (.dct false []) fun n M => k (.loc n) M
section
variable {S : St8} {ci : CI} {pos : Pos}
theorem se_rev {e : Expr} {a : CE} {k : Nat} {p1 p2 p3 : Pos} (ha : SE S ci e a) : SE S ci (.Subscript e (.Slice none none (some (.UnaryOp .USub (.Constant (.int 1) k p1) p2)) p3) pos) (cRev a) :=
  fun X Wx hX hC W σd σ M k kx Q s m h hQ hx => tofE (ZP.pe_revA pe_tof) (ha X Wx hX hC W σd σ M _ kx _ s m h (fun W1 x v M1 l1 m1 r1 h1 => by
    obtain ⟨a, xs, ds, rfl, rs, ⟨hs, h2⟩ | ⟨hs, h2⟩⟩ := seqK_t hX m1 r1 h1
    · rw [revK_eq] at h2
      exact ⟨a, xs, rfl, .inr ⟨hs, (hQ.mono l1).tup m1 rs.reverse h2⟩⟩
    · rw [revK_eq] at h2
      exact ⟨a, xs, rfl, .inl ⟨hs, (hQ.mono l1).lst m1 rs.reverse (newC_t h2)⟩⟩) hx)
theorem se_dict0 : SE S ci (.Dict [] [] pos) cDict0 := fun X Wx hX hC W σd σ M k kx Q s m h hQ hx => tofE pe_dnewK (fun p hp => by
  have g := grows (o := .dK []) hp
  exact hQ (W.new p (upd W.H p (.dK []))) (.loc M.n) (.ref p) (M.push (.dct false [])) (Le.new g) (m.new hp g upd_same (show HR S.T _ (.dct false []) (.dK []) from .nil)) (VR.new m) (newC_t h))
end
end Z
end
set_option Elab.async false
set_option autoImplicit false
set_option linter.all false
set_option maxRecDepth 100000
set_option maxHeartbeats 2000000
/-! ZSort: sorted of tuples of ints (a list of them, a dict's keys). -/
noncomputable section
namespace Z
open PySem PySem.Spec PyProof.Rows L2
/-- the tuples' order -/
def lexL : List Int → List Int → Bool := fun xs => List.rec (motive := fun _ => List Int → Bool) (fun ys => List.rec (motive := fun _ => Bool) false (fun _ _ _ => true) ys) (fun x _ ih ys => List.rec (motive := fun _ => Bool) false (fun y r _ => Bool.rec (ilt x y) (ih r) (ieq x y)) ys) xs
theorem lexL_cc (x y : Int) (xs ys : List Int) : lexL (x :: xs) (y :: ys) = if x = y then lexL xs ys else decide (x < y) := by
  show (Bool.rec (ilt x y) (lexL xs ys) (ieq x y) : Bool) = _
  rw [ieq_eq, ilt_eq]
  by_cases h : x = y
  · rw [decide_eq_true h, if_pos h]
  · rw [decide_eq_false h, if_neg h]
theorem lex_asym : ∀ x y : List Int, lexL x y = true → lexL y x = false
  | [], [], h => rfl
  | [], _ :: _, h => rfl
  | _ :: _, [], h => (nomatch h)
  | x :: xs, y :: ys, h => by
    rw [lexL_cc] at h ⊢
    by_cases e : x = y
    · rw [if_pos e] at h
      rw [if_pos e.symm]
      exact lex_asym xs ys h
    · rw [if_neg e] at h
      rw [if_neg (fun z => e z.symm)]
      have h := of_decide_eq_true h
      exact decide_eq_false (by omega)
theorem lex_tr : ∀ x y z : List Int, lexL y x = false → lexL z y = false → lexL z x = false
  | [], [], z, h1, h2 => h2
  | [], y :: ys, z, h1, h2 => by
    cases z with
    | nil => rfl
    | cons _ _ => rfl
  | x :: xs, [], z, h1, h2 => (nomatch h1)
  | x :: xs, y :: ys, [], h1, h2 => (nomatch h2)
  | x :: xs, y :: ys, z :: zs, h1, h2 => by
    rw [lexL_cc] at h1 h2 ⊢
    by_cases e1 : y = x
    · rw [if_pos e1] at h1
      by_cases e2 : z = y
      · rw [if_pos e2] at h2
        rw [if_pos (e2.trans e1)]
        exact lex_tr xs ys zs h1 h2
      · rw [if_neg e2] at h2
        have h2 := of_decide_eq_false h2
        rw [if_neg (by omega)]
        exact decide_eq_false (by omega)
    · rw [if_neg e1] at h1
      have h1 := of_decide_eq_false h1
      by_cases e2 : z = y
      · rw [if_neg (by omega)]
        exact decide_eq_false (by omega)
      · rw [if_neg e2] at h2
        have h2 := of_decide_eq_false h2
        rw [if_neg (by omega)]
        exact decide_eq_false (by omega)
theorem lex_swo {α : Type} (f : α → List Int) : SrtO.Swo fun x y => lexL (f x) (f y) := ⟨fun x y => lex_asym _ _, fun x y z => lex_tr _ _ _⟩

/-! ### the one sorted list -/
section
variable {α : Type}
def insG (lt : α → α → Bool) (z : α) : List α → List α
  | [] => [z]
  | y :: r => bif lt y z then y :: insG lt z r else z :: y :: r
def isortG (lt : α → α → Bool) : List α → List α
  | [] => []
  | z :: r => insG lt z (isortG lt r)
theorem ins_stb {lt : α → α → Bool} (O : SrtO.Swo lt) (z : α) : ∀ l : List α, SrtO.Stb lt (insG lt z l) (z :: l)
  | [] => SrtO.Stb.refl _
  | y :: r => by
    unfold insG
    cases h : lt y z with
    | false => exact SrtO.Stb.refl _
    | true =>
      have a : SrtO.Stb lt ([y] ++ insG lt z r) ([y] ++ (z :: r)) := (SrtO.Stb.refl [y]).app (ins_stb O z r)
      have b : SrtO.Stb lt (([y] ++ [z]) ++ r) (([z] ++ [y]) ++ r) := (SrtO.Stb.swap O (A := [y]) (B := [z]) fun a ha b hb => by rw [List.mem_singleton.mp ha, List.mem_singleton.mp hb]; exact h).app (SrtO.Stb.refl r)
      exact a.trans b
theorem ins_srtd {lt : α → α → Bool} (O : SrtO.Swo lt) (z : α) : ∀ {l : List α}, SrtO.Srtd lt l → SrtO.Srtd lt (insG lt z l)
  | [], _ => List.pairwise_singleton _ _
  | y :: r, s => by
    obtain ⟨h1, h2⟩ := List.pairwise_cons.mp s
    unfold insG
    cases h : lt y z with
    | true =>
      refine List.pairwise_cons.mpr ⟨fun m hm => ?_, ins_srtd O z h2⟩
      rcases List.mem_cons.mp ((ins_stb O z r).perm.mem_iff.mp hm) with e | hm
      · rw [e]; exact O.asym _ _ h
      · exact h1 m hm
    | false =>
      refine List.pairwise_cons.mpr ⟨fun m hm => ?_, s⟩
      rcases List.mem_cons.mp hm with e | hm
      · rw [e]; exact h
      · exact O.tr _ _ _ h (h1 m hm)
theorem isort_ok {lt : α → α → Bool} (O : SrtO.Swo lt) : ∀ l : List α, SrtO.Srtd lt (isortG lt l) ∧ SrtO.Stb lt (isortG lt l) l
  | [] => ⟨List.Pairwise.nil, SrtO.Stb.refl _⟩
  | z :: r => by
    obtain ⟨h1, h2⟩ := isort_ok O r
    exact ⟨ins_srtd O z h1, (ins_stb O z _).trans ((SrtO.Stb.refl [z]).app h2)⟩
theorem ins_congr {lt lt' : α → α → Bool} {z : α} : ∀ {l : List α}, (∀ y ∈ l, lt y z = lt' y z) → insG lt z l = insG lt' z l
  | [], _ => rfl
  | y :: r, h => by
    unfold insG
    rw [h y List.mem_cons_self, ins_congr fun m hm => h m (List.mem_cons_of_mem _ hm)]
theorem isort_congr {lt lt' : α → α → Bool} (O : SrtO.Swo lt) : ∀ {l : List α}, (∀ x ∈ l, ∀ y ∈ l, lt x y = lt' x y) → isortG lt l = isortG lt' l
  | [], _ => rfl
  | z :: r, h => by
    show insG lt z (isortG lt r) = insG lt' z (isortG lt' r)
    rw [← isort_congr O (l := r) fun x hx y hy => h x (List.mem_cons_of_mem _ hx) y (List.mem_cons_of_mem _ hy)]
    exact ins_congr fun y hy => h y (List.mem_cons_of_mem _ ((isort_ok O r).2.perm.mem_iff.mp hy)) z List.mem_cons_self
end

/-! ### the model's sort -/
section
variable {prog : Program} {w : World} {A : Around} {E : Value → Shared → Prop} {s : Shared}
theorem kat_lexL {b : Bool} {xs ys : List Value} {ns ms : List Int} {Q : Bool → Shared → Prop} (i : Nat) (hx : IntsAre xs ns) (hy : IntsAre ys ms) (h : Q (lexL ns ms) s) : PySem.W.KatLex prog w A b (decide (xs.length < ys.length)) Q (xs.zip ys) i s := by
  induction hx generalizing ys ms i with
  | nil =>
    cases hy with
    | nil => exact PySem.W.kat_nil h
    | cons q u hy => exact PySem.W.kat_nil h
  | @cons p t xs ns hx ih =>
    cases hy with
    | nil => exact PySem.W.kat_nil h
    | @cons q u ys ms hy =>
      show PySem.W.KatLex prog w A b (decide (xs.length + 1 < ys.length + 1)) Q ((Value.int p t, Value.int q u) :: xs.zip ys) i s
      rw [show decide (xs.length + 1 < ys.length + 1) = decide (xs.length < ys.length) from decide_eq_decide.mpr (by omega)]
      rw [lexL_cc] at h
      refine PySem.W.kat_cons (wpAny_eqBool_int ?_)
      by_cases e : p = q
      · subst e
        rw [if_pos rfl] at h
        rw [beq_self_eq_true]
        exact PySem.W.kat_yes (ih (i + 1) hy h)
      · rw [if_neg e] at h
        rw [show (p == q) = false from beq_eq_false_iff_ne.mpr e]
        exact PySem.W.kat_no (TS.oneLt_ints _ h)
/-- what is sorted: tuples of ints, none empty -/
def TupsN (h : Heap) (q : Value → List Int) (vs : List Value) : Prop := ∀ v, v ∈ vs → TS.TupInts h v (q v) ∧ q v ≠ []
theorem TupsN.keeps {h h' : Heap} {q : Value → List Int} {vs : List Value} (x : TupsN h q vs) (k : ∀ b o, h.get? b = some o → o.cls = .type "tuple" → h'.get? b = some o) : TupsN h' q vs := fun v hv =>
  let ⟨t, r⟩ := x v hv; ⟨t.keeps k, r⟩
theorem firstsN {h : Heap} {q : Value → List Int} : ∀ vs : List Value, TupsN h q vs → ∃ fs, PySem.W.KatTups h vs fs ∧ fs.length = vs.length ∧ ∀ f, f ∈ fs → ∃ n t, f = Value.int n t
  | [], _ => ⟨[], PySem.W.KatTups.nil, rfl, fun f hf => by simp at hf⟩
  | v :: vs, x => by
    obtain ⟨fs, k, hl, hi⟩ := firstsN vs fun u hu => x u (List.mem_cons_of_mem _ hu)
    obtain ⟨⟨a, xs, rfl, ⟨o, ho, hc, n, hdt⟩, i⟩, hn⟩ := x v (List.mem_cons_self ..)
    obtain ⟨y, ys, e⟩ : ∃ y ys, xs.toList = y :: ys := by
      cases z : xs.toList with
      | nil =>
        rw [z] at i
        generalize q (Value.ref a) = ns at i hn
        cases i
        exact absurd rfl hn
      | cons y ys => exact ⟨y, ys, rfl⟩
    obtain ⟨m, t, hy⟩ := i.all y (by rw [e]; exact List.mem_cons_self ..)
    refine ⟨y :: fs, PySem.W.KatTups.cons ho hc hdt ?_ k, by simp [hl], ?_⟩
    · have z := congrArg (fun l : List Value => l[0]?) e
      simpa using z
    · intro f hf
      rcases List.mem_cons.mp hf with rfl | hf
      · exact ⟨m, t, hy⟩
      · exact hi f hf
theorem tups_sortable {a : Addr} {q : Value → List Int} {vs : List Value} (h0 : 0 < vs.length) (hp : TupsN s.heap q vs) (ha : ∀ o, s.heap.get? a = some o → o.cls ≠ .type "tuple") : SrtO.SortableO prog w A s a vs fun u v => lexL (q u) (q v) := by
  intro h' keep
  have kp : ∀ b o, s.heap.get? b = some o → o.cls = .type "tuple" → h'.get? b = some o := fun b o e c => keep b o (fun z => by subst z; exact ha o e c) e
  obtain ⟨fs, h1, h2, h3⟩ := firstsN vs (hp.keeps kp)
  refine ⟨tuples' true, fun Q E hq => ?_, ?_⟩
  · refine PySem.W.kat_kind (T := .type "int") h1 (by omega) (fun f hm => ?_) (by rfl) ?_
    · obtain ⟨x, t, rfl⟩ := h3 f hm
      exact PySem.W.Looks.now
    · have e : (Value.type "int" != Value.type "tuple") = true := by first | decide +kernel | rfl | decide
      rw [e]
      exact hq
  · intro p r hm hm'
    have tp := (hp _ hm).1.keeps kp
    have tq := (hp _ hm').1.keeps kp
    show wpAny (model prog w) A (keyLt' (tuples' true) p.1 r.1) (fun r' s' => s' = _ ∧ r' = lexL (q p.1) (q r.1)) (fun _ _ => False) _
    generalize q p.1 = ns at tp ⊢
    generalize q r.1 = ms at tq ⊢
    obtain ⟨a, xs, e1, ⟨o, ho, hc, n, hdt⟩, i⟩ := tp
    obtain ⟨a', ys, e2, ⟨o', ho', hc', n', hdt'⟩, i'⟩ := tq
    rw [e1, e2]
    refine PySem.W.kat_lt ho hdt ho' hdt' ?_
    rw [← Array.length_toList, ← Array.length_toList]
    exact kat_lexL 0 i i' ⟨rfl, rfl⟩
end

/-! ### as rules of the layer -/
section
variable {α β : Type}
theorem ins_map {lt : β → β → Bool} (f : α → β) (z : α) : ∀ l : List α, insG lt (f z) (l.map f) = (insG (fun x y => lt (f x) (f y)) z l).map f
  | [] => rfl
  | y :: r => by
    show (bif lt (f y) (f z) then f y :: insG lt (f z) (r.map f) else _) = (bif lt (f y) (f z) then y :: insG _ z r else z :: y :: r).map f
    cases h : lt (f y) (f z) with
    | false => rfl
    | true =>
      show f y :: insG lt (f z) (r.map f) = f y :: (insG _ z r).map f
      rw [ins_map f z r]
theorem isort_map {lt : β → β → Bool} (f : α → β) : ∀ l : List α, isortG lt (l.map f) = (isortG (fun x y => lt (f x) (f y)) l).map f
  | [] => rfl
  | z :: r => by
    show insG lt (f z) (isortG lt (r.map f)) = (insG _ z (isortG _ r)).map f
    rw [isort_map f r, ins_map]
end
def unV : V → Value
  | .ref a => .ref a
  | _ => .none
abbrev ltZ (x y : V × List Int) : Bool := lexL x.2 y.2
theorem unV_bk {us : List Value} (h : ∀ u ∈ us, ∃ a, u = Value.ref a) : (us.map bkV).map unV = us := by
  induction us with
  | nil => rfl
  | cons u r ih =>
    obtain ⟨a, rfl⟩ := h u List.mem_cons_self
    show Value.ref a :: _ = _
    rw [ih fun v hv => h v (List.mem_cons_of_mem _ hv)]
theorem vals_un : ∀ {l : List (V × List Int)}, (∀ z ∈ l, ∃ a, z.1 = V.ref a) → Vals (l.map Prod.fst) (l.map fun z => unV z.1)
  | [], _ => .nil
  | z :: r, h => by
    obtain ⟨a, e⟩ := h z List.mem_cons_self
    refine .cons ?_ (vals_un fun y hy => h y (List.mem_cons_of_mem _ hy))
    show RelV z.1 (unV z.1)
    rw [e]
    rfl
/-- what comes out -/
theorem srt_out {s : Heap} {zs : List (V × List Int)} {its out : List Value} (ei : its = zs.map fun z => unV z.1) (hk : ∀ z ∈ zs, TS.TupInts s (unV z.1) z.2) (h1 : SrtO.Srtd (fun u v => lexL (TS.intsOf s u) (TS.intsOf s v)) out) (h2 : SrtO.Stb (fun u v => lexL (TS.intsOf s u) (TS.intsOf s v)) out its) :
    out = (isortG ltZ zs).map fun z => unV z.1 := by
  have O := lex_swo (TS.intsOf s)
  obtain ⟨k1, k2⟩ := isort_ok O its
  have e := SrtO.stb_uniq O h1 k1 (h2.trans ⟨k2.perm.symm, fun x => (k2.cls x).symm⟩)
  rw [e, ei, isort_map]
  congr 1
  refine isort_congr (lex_swo _) fun x hx y hy => ?_
  show lexL (TS.intsOf s (unV x.1)) (TS.intsOf s (unV y.1)) = lexL x.2 y.2
  rw [(hk x hx).ints, (hk y hy).ints]
section
variable {X : Cx}
/-- sorted(xs), xs a list of tuples of ints -/
def rSrtL (K : PySem.W.Frag) : List V → Hp → VK → Prop := fun vs H Q => ∃ (a : Addr) (zs : List (V × List Int)), vs = [.ref a] ∧ SqL K H a (zs.map Prod.fst) ∧ (∀ z ∈ zs, TupI K H z.1 z.2 ∧ z.2 ≠ []) ∧ ∀ p, H p = none → Q (.ref p) (upd H p (.lst ((isortG ltZ zs).map Prod.fst)))
theorem cr_srtL : CallR X (.builtin "sorted") (rSrtL X.K) := by
  intro pins s σ H vs us Q I r h
  obtain ⟨a, zs, rfl, hs, hx, q⟩ := h
  obtain ⟨its, rv, hl, hz⟩ := I.list hs
  rw [Vals.ref1 r]
  have hr : ∀ z ∈ zs, ∃ t, z.1 = V.ref t := fun z hz => by obtain ⟨⟨t, e, _⟩, _⟩ := hx z hz; exact ⟨t, e⟩
  obtain ⟨e1, e2⟩ := bkV_refs rv fun x m => by
    obtain ⟨z, hz, e⟩ := List.mem_map.mp m
    rw [← e]; exact hr z hz
  have ei : its = zs.map fun z => unV z.1 := by
    have := congrArg (List.map unV) e1
    rw [unV_bk e2, List.map_map] at this
    exact this.symm
  have hk : ∀ z ∈ zs, TS.TupInts s.heap (unV z.1) z.2 := fun z hz => by
    obtain ⟨⟨t, e, ht⟩, _⟩ := hx z hz
    rw [e]
    exact tupI_raw I ht
  have hp : TupsN s.heap (TS.intsOf s.heap) its := fun v hv => by
    rw [ei] at hv
    obtain ⟨z, hz, e⟩ := List.mem_map.mp hv
    rw [← e, (hk z hz).ints]
    exact ⟨hk z hz, (hx z hz).2⟩
  refine SrtO.sorted_ord (lex_swo (TS.intsOf s.heap)) hl.isList (by rw [← rv.length]; exact hz) (fun h2 h₁ b ho keep => ?_) fun out h1 h2 => ?_
  · refine tups_sortable (by omega) (fun v hv => ⟨(hp v hv).1.keeps fun c o e _ => (keep c o e).2, (hp v hv).2⟩) fun o e c => ?_
    have e' : h₁.get? b = some o := e
    rw [ho] at e'
    cases e'
    exact absurd (show Value.type "list" = Value.type "tuple" from c) (by decide +kernel)
  · have eo := srt_out ei hk h1 h2
    obtain ⟨ep, he'⟩ := PyProof.Rows.sortedAll_at s.heap its out.toArray
    have hlen : ((isortG ltZ zs).map Prod.fst).length ≤ sizeLine := by
      rw [List.length_map, (isort_ok (lex_swo _) zs).2.perm.length_eq, ← List.length_map (f := Prod.fst)]
      exact hz
    have hv : Vals ((isortG ltZ zs).map Prod.fst) out := by
      rw [eo]
      exact vals_un fun z hz => hr z ((isort_ok (lex_swo _) zs).2.perm.mem_iff.mp hz)
    exact ⟨.ref _, upd H (s.heap.objs.size + 1) (.lst ((isortG ltZ zs).map Prod.fst)), I.laid (t' := s.toks) (fun _ _ => PyProof.Rows.sortedAll_old) (Nat.le_succ _) ⟨hlen, out, ep, hv, he'⟩, rfl, q _ (I.hok.fresh (Nat.le_succ _))⟩
/-- sorted(d), d a dict whose keys are tuples of ints -/
def KZ (H : Hp) (kvs : List (List Key × V)) (zs : List (V × List Int)) : Prop := Paired (fun p z => (∃ b, z.1 = V.ref b ∧ H b = some (.tup (p.1.map kV))) ∧ p.1 = z.2.map Sum.inl ∧ z.2 ≠ []) kvs zs
def rSrtD : List V → Hp → VK → Prop := fun vs H Q => ∃ (d : Addr) (kvs : List (List Key × V)) (ns : List (List Int)), vs = [.ref d] ∧ Rd H d (.dT kvs) ∧ Paired (fun p n => p.1 = n.map Sum.inl ∧ n ≠ []) kvs ns ∧
  ∀ zs p, KZ H kvs zs → zs.map Prod.snd = ns → H p = none → Q (.ref p) (upd H p (.lst ((isortG ltZ zs).map Prod.fst)))
theorem kz_of {H : Hp} {kvs : List (List Key × V)} {xs : List (List Key × Addr × Value)} {ns : List (List Int)} (r : L2.KT H kvs xs) (q : Paired (fun p n => p.1 = n.map Sum.inl ∧ n ≠ []) kvs ns) :
    ∃ zs : List (V × List Int), KZ H kvs zs ∧ zs.map Prod.snd = ns ∧ zs.map Prod.fst = xs.map fun x => V.ref x.2.1 := by
  unfold KZ
  induction r generalizing ns with
  | nil => cases q; exact ⟨[], Paired.nil, rfl, rfl⟩
  | @cons a b _ _ h t ih =>
    cases q with
    | @cons _ n _ _ hn tn =>
      obtain ⟨zs, h1, h2, h3⟩ := ih tn
      exact ⟨(V.ref b.2.1, n) :: zs, Paired.cons ⟨⟨_, rfl, h.2.1⟩, hn⟩ h1, by rw [List.map_cons, h2], by rw [List.map_cons, List.map_cons, h3]⟩
theorem kz_tup {K : PySem.W.Frag} {H : Hp} {kvs : List (List Key × V)} {zs : List (V × List Int)} (h : KZ H kvs zs) : ∀ z ∈ zs, TupI K H z.1 z.2 ∧ z.2 ≠ [] := by
  unfold KZ at h
  induction h with
  | nil => exact fun z hz => (nomatch hz)
  | @cons p z _ _ h t ih =>
    intro y hy
    rcases List.mem_cons.mp hy with e | hy
    · subst e
      obtain ⟨⟨b, e1, e2⟩, e3, e4⟩ := h
      rw [e3, List.map_map] at e2
      exact ⟨⟨b, e1, .inl (.inl e2)⟩, e4⟩
    · exact ih y hy
theorem cr_srtD (hc : X.calm = true) : CallR X (.builtin "sorted") rSrtD := by
  intro pins s σ H vs us Q I r h
  obtain ⟨d, kvs, ns, rfl, hd, hn, q⟩ := h
  rw [Vals.ref1 r]
  obtain ⟨z, hs, ks, pr, o, es, ep, ho, hx, hdt, he, hnn⟩ := (show ObjOk X.prog X.w H s.heap d (.dT kvs) from hd.ok I.hok)
  have l1 : es.size = ks.length := size_of_entries he
  have l2 : kvs.length = ks.length := Paired.length pr
  obtain ⟨zs, hz, hzn, hzf⟩ := kz_of pr hn
  have hx' := kz_tup (K := X.K) hz
  have hzl : zs.length = ks.length := by
    have := congrArg List.length hzf
    rw [List.length_map, List.length_map] at this
    exact this
  refine Calls.call_function_entry PyProof.Rows.kind_sorted PyProof.Rows.plain_sorted PyProof.Rows.entry_sorted (PyProof.Rows.args_sorted1 _) ?_
  unfold Builtin.«sorted»
  refine wpAny_bind (m := checkCount "sorted" 1 1 _) (wpAny_pure ?_)
  refine wpAny_bind (PySem.W.kdu_collect (A := X.A.in1) (kdl_raw hs hx hdt) (I.ok.hd hc) ho (by omega) fun h' tk acc' hk it => ?_)
  have ea : acc'.toList = zs.map fun x => unV x.1 := by
    have e0 : acc'.toList = ks.map fun x => Value.ref x.2.1 := by
      have hl : acc'.toList.length = ks.length := by rw [Array.length_toList, it.1]; exact l1
      apply List.ext_getElem?
      intro j
      rw [List.getElem?_map]
      cases hj : acc'.toList[j]? with
      | none =>
        have h1 := List.getElem?_eq_none_iff.mp hj
        rw [List.getElem?_eq_none (by omega)]
        all_goals rfl
      | some v =>
        obtain ⟨en, hen, hv⟩ := it.2 j v (by rw [← Array.getElem?_toList]; exact hj)
        have qe := entry_at he j
        rw [hen] at qe
        cases hb : ks[j]? with
        | none =>
          rw [hb] at qe
          exact nomatch (show some en = none from qe)
        | some b =>
          rw [hb] at qe
          have e2 : en = entryOfKey (tupleKind (mixKind X.prog X.w)) b := Option.some.inj qe
          rw [hv, e2]
          all_goals rfl
    have := congrArg (List.map unV) hzf
    rw [List.map_map, List.map_map] at this
    rw [e0]
    exact this.symm
  have I1 : Inv X pins σ H { s with heap := h', toks := tk } := I.kept hk
  have hlen0 : acc'.toList.length ≤ sizeLine := by rw [ea, List.length_map]; omega
  refine wpAny_bind (wpAny_newList ?_ hlen0)
  have hoL : (h'.push (seqObj "list" acc'.toList.toArray 0)).get? h'.objs.size = some (seqObj "list" acc'.toList.toArray 0) := Heap.get?_push_size _ rfl
  show wpAny _ _ _ _ _ { s with heap := h'.push (seqObj "list" acc'.toList.toArray 0), toks := tk }
  have kp : ∀ b u, h'.get? b = some u → (h'.push (seqObj "list" acc'.toList.toArray 0)).get? b = some u := fun b u e => Heap.get?_push_of_some _ e
  have hkz : ∀ z ∈ zs, TS.TupInts h' (unV z.1) z.2 := fun z hz => by
    obtain ⟨⟨t, e, ht⟩, _⟩ := hx' z hz
    rw [e]
    exact tupI_raw I1 ht
  have hp : TupsN h' (TS.intsOf h') acc'.toList := fun v hv => by
    rw [ea] at hv
    obtain ⟨z, hz, e⟩ := List.mem_map.mp hv
    rw [← e, (hkz z hz).ints]
    exact ⟨hkz z hz, (hx' z hz).2⟩
  refine wpAny_bind (wpAny_holding (wpAny_call_entry PyProof.Rows.slot_list_sort ⟨_, hoL, rfl⟩ PyProof.Rows.entry_list_sort
    (SrtO.list_sort_ord (s := { s with heap := h'.push (seqObj "list" acc'.toList.toArray 0), toks := tk }) (lex_swo (TS.intsOf h')) hoL hlen0 (fun h2 => tups_sortable (by omega) (fun v hv => ⟨(hp v hv).1.keeps fun c o e _ => kp c o e, (hp v hv).2⟩) fun o e c => ?_) fun out g1 g2 => ⟨_, rfl, ?_⟩) (PyProof.Rows.args_list_sort _)))
  · have e' : (h'.push (seqObj "list" acc'.toList.toArray 0)).get? h'.objs.size = some o := e
    rw [hoL] at e'
    cases e'
    exact absurd (show Value.type "list" = Value.type "tuple" from c) (by decide +kernel)
  have eo := srt_out ea hkz g1 g2
  obtain ⟨e', he'⟩ := PyProof.Rows.sortedHeap_at (vs := acc'.toList) (out := out.toArray) hoL
  have pm := (isort_ok (lex_swo (fun z : V × List Int => z.2)) zs).2.perm
  have hlen : ((isortG ltZ zs).map Prod.fst).length ≤ sizeLine := by
    rw [List.length_map, pm.length_eq]
    omega
  have hv : Vals ((isortG ltZ zs).map Prod.fst) out := by
    rw [eo]
    exact vals_un fun z hz => by obtain ⟨⟨t, e, _⟩, _⟩ := hx' z (pm.mem_iff.mp hz); exact ⟨t, e⟩
  refine wpAny_pure ⟨_, rfl, .ref h'.objs.size, upd H h'.objs.size (.lst ((isortG ltZ zs).map Prod.fst)), I1.laid (t' := tk) (fun b u e => ?_) (Nat.le_refl _)
    (show ObjOk X.prog X.w _ _ _ (.lst ((isortG ltZ zs).map Prod.fst)) from ⟨hlen, out, e', hv, he'⟩), rfl, q zs _ hz hzn (I1.hok.fresh (Nat.le_refl _))⟩
  have hb : b < h'.objs.size := Heap.lt_size e
  rw [PyProof.Rows.sortedHeap_old (Nat.ne_of_lt hb) (by rw [size_push']; exact Nat.lt_succ_of_lt hb)]
  exact Heap.get?_push_of_some _ e
end
end Z
end
set_option Elab.async false
set_option autoImplicit false
set_option linter.all false
set_option maxRecDepth 100000
set_option maxHeartbeats 2000000
/-! ZSo: sorted over the data. -/
noncomputable section
namespace Z
open PySem PySem.Spec PyProof.Rows L2
section
variable {α : Type}
def insC (lt : α → α → Bool) (z : α) (l : List α) : (List α → Bool) → Bool := List.rec (motive := fun _ => (List α → Bool) → Bool) (fun k => k [z]) (fun y r ih k => Bool.rec (k (z :: y :: r)) (ih fun r' => k (y :: r')) (lt y z)) l
def isortC (lt : α → α → Bool) (l : List α) : (List α → Bool) → Bool := List.rec (motive := fun _ => (List α → Bool) → Bool) (fun k => k []) (fun z _ ih k => ih fun r => insC lt z r k) l
theorem insC_eq (lt : α → α → Bool) (z : α) : ∀ (l : List α) (k), insC lt z l k = k (insG lt z l)
  | [], k => rfl
  | y :: r, k => by
    show (Bool.rec (k (z :: y :: r)) (insC lt z r fun r' => k (y :: r')) (lt y z) : Bool) = k (bif lt y z then _ else _)
    cases lt y z with
    | false => rfl
    | true => exact insC_eq lt z r _
theorem isortC_eq (lt : α → α → Bool) : ∀ (l : List α) (k), isortC lt l k = k (isortG lt l)
  | [], k => rfl
  | z :: r, k => by
    show isortC lt r (fun r => insC lt z r k) = _
    rw [isortC_eq lt r, insC_eq]
    rfl
end
/-- the ints of a tuple that has some -/
def tupI (d : D) (k : List D → List Int → Bool) : Bool := D.casesOn d false false (fun _ => false) (fun _ => false) (fun _ => false) (fun _ => false) (fun _ es => intsK es fun is => List.casesOn is false fun _ _ => k es is) (fun _ => false) (fun _ => false) (fun _ => false) (fun _ => false) (fun _ => false)
theorem tupI_t {d : D} {k} (h : tupI d k = true) : ∃ ka is, d = .tup ka (is.map D.int) ∧ is ≠ [] ∧ k (is.map D.int) is = true := by
  cases d with
  | tup ka es =>
    have h' : intsK es (fun is => List.casesOn is false fun _ _ => k es is) = true := h
    obtain ⟨is, rfl, h1⟩ := intsK_t h'
    cases is with
    | nil => cases h1
    | cons i r => exact ⟨ka, i :: r, rfl, by simp, h1⟩
  | _ => cases h
abbrev DZ := D × List Int
def ltD (x y : DZ) : Bool := lexL x.2 y.2
def pairsC (ds : List D) : (List DZ → Bool) → Bool := List.rec (motive := fun _ => (List DZ → Bool) → Bool) (fun k => k []) (fun d _ ih k => tupI d fun _ is => ih fun r => k ((d, is) :: r)) ds
def keysC (kvs : List (D × D)) : (List DZ → Bool) → Bool := List.rec (motive := fun _ => (List DZ → Bool) → Bool) (fun k => k []) (fun p _ ih k => Prod.casesOn p fun d _ => tupI d fun es is => ih fun r => k ((.tup false es, is) :: r)) kvs
def fstC (zs : List DZ) : (List D → Bool) → Bool := List.rec (motive := fun _ => (List D → Bool) → Bool) (fun k => k []) (fun p _ ih k => Prod.casesOn p fun d _ => ih fun r => k (d :: r)) zs
theorem fstC_eq : ∀ (zs : List DZ) (k), fstC zs k = k (zs.map Prod.fst)
  | [], k => rfl
  | (d, is) :: r, k => fstC_eq r _
def sortZ (zs : List DZ) (M : Sto) (f : K1) : Bool := isortC ltD zs fun zs => fstC zs fun ds => newC M (.lst ds) fun n M => f (.loc n) M
theorem sortZ_t {zs : List DZ} {M : Sto} {f : K1} (h : sortZ zs M f = true) : f (.loc M.n) (M.push (.lst ((isortG ltD zs).map Prod.fst))) = true := by
  unfold sortZ at h
  rw [isortC_eq, fstC_eq] at h
  exact newC_t h
def gSorted : GC := fun ds M f => arg1 ds fun d => D.casesOn d false false (fun _ => false) (fun _ => false) (fun _ => false) (fun _ => false) (fun _ _ => false)
  (fun l => getC M l fun c => Cell.casesOn c (fun xs => pairsC xs fun zs => sortZ zs M f) (fun t kvs => Bool.rec (chk (emptyB kvs) (setC M l (.dct true []) fun M' => sortZ [] M' f)) (keysC kvs fun zs => sortZ zs M f) t) (fun _ _ => false) (fun _ => false)) (fun _ => false) (fun _ => false) (fun _ => false) (fun xs => pairsC xs fun zs => sortZ zs M f)
section
variable {T : Tb} {r : Nat} {W : Wd}
/-- data and values with their ints -/
def ZR (T : Tb) (W : Wd) : List DZ → List (V × List Int) → Prop := Paired fun x z => VR T W x.1 z.1 ∧ x.2 = z.2
theorem ins_zr {x : DZ} {z : V × List Int} (h : VR T W x.1 z.1 ∧ x.2 = z.2) : ∀ {l : List DZ} {m : List (V × List Int)}, ZR T W l m → ZR T W (insG ltD x l) (insG ltZ z m)
  | [], _, .nil => .cons h .nil
  | y :: l, u :: m, .cons g t => by
    unfold insG
    have e : ltD y x = ltZ u z := by show lexL y.2 x.2 = lexL u.2 z.2; rw [g.2, h.2]
    rw [e]
    cases ltZ u z with
    | true => exact .cons g (ins_zr h t)
    | false => exact .cons h (.cons g t)
theorem isort_zr : ∀ {l : List DZ} {m : List (V × List Int)}, ZR T W l m → ZR T W (isortG ltD l) (isortG ltZ m)
  | [], _, .nil => .nil
  | _ :: _, _ :: _, .cons g t => ins_zr g (isort_zr t)
theorem ZR.fst : ∀ {l : List DZ} {m : List (V × List Int)}, ZR T W l m → VRs T W (l.map Prod.fst) (m.map Prod.fst)
  | [], _, .nil => .nil
  | _ :: _, _ :: _, .cons g t => .cons g.1 (ZR.fst t)
theorem pairsC_t {X : Cx} {Wx : WX} (hX : XOk T r X Wx) : ∀ {ds : List D} {xs : List V} {k}, VRs T W ds xs → pairsC ds k = true → ∃ (l : List DZ) (zs : List (V × List Int)), ZR T W l zs ∧ zs.map Prod.fst = xs ∧ (∀ z ∈ zs, TupI X.K W.H z.1 z.2 ∧ z.2 ≠ []) ∧ k l = true
  | [], _, k, .nil, h => ⟨[], [], .nil, rfl, fun z hz => (nomatch hz), h⟩
  | d :: ds, v :: xs, k, .cons rv rs, h => by
    have h' : tupI d (fun _ is => pairsC ds fun r => k ((d, is) :: r)) = true := h
    obtain ⟨ka, is, rfl, hne, h1⟩ := tupI_t h'
    obtain ⟨l, zs, q1, q2, q3, q4⟩ := pairsC_t hX rs h1
    obtain ⟨a, ys, rfl, hs, rq⟩ := rv.sqT hX
    cases rq.ints
    refine ⟨_, (.ref a, is) :: zs, .cons ⟨rv, rfl⟩ q1, by rw [List.map_cons, q2], fun z hz => ?_, q4⟩
    rcases List.mem_cons.mp hz with e | hz
    · subst e; exact ⟨⟨a, rfl, hs⟩, hne⟩
    · exact q3 z hz
theorem keyDs_ints : ∀ is : List Int, keyDs (is.map D.int) = some (is.map Sum.inl)
  | [] => rfl
  | i :: r => by
    show (match keyD (.int i), keyDs (r.map D.int) with
      | some k, some ks => some (k :: ks)
      | _, _ => none) = _
    rw [keyDs_ints r]
    rfl
theorem keysC_t : ∀ {kvs : List (D × D)} {ks : List (List Key × V)} {k}, TR T W kvs ks → keysC kvs k = true → ∃ (ns : List (List Int)), Paired (fun p n => p.1 = n.map Sum.inl ∧ n ≠ []) ks ns ∧ k (ns.map fun n => (.tup false (n.map D.int), n)) = true
  | [], _, k, .nil, h => ⟨[], .nil, h⟩
  | (d, e) :: kvs, q :: ks, k, .cons g t, h => by
    have h' : tupI d (fun es is => keysC kvs fun r => k ((.tup false es, is) :: r)) = true := h
    obtain ⟨ka, is, rfl, hne, h1⟩ := tupI_t h'
    obtain ⟨ns, q1, q2⟩ := keysC_t t h1
    refine ⟨is :: ns, .cons ⟨?_, hne⟩ q1, q2⟩
    cases ka with
    | true => exact (nomatch g.1)
    | false =>
      have g1 : keyDs (is.map D.int) = some q.1 := g.1
      rw [keyDs_ints] at g1
      exact (Option.some.inj g1).symm
theorem zr_keys : ∀ {ks : List (List Key × V)} {zs : List (V × List Int)}, KZ W.H ks zs → ZR T W ((zs.map Prod.snd).map fun n => (.tup false (n.map D.int), n)) zs
  | _, _, .nil => .nil
  | _, z :: _, .cons h t => by
    obtain ⟨⟨b, e1, e2⟩, e3, e4⟩ := h
    refine .cons ⟨?_, rfl⟩ (zr_keys t)
    rw [e3, List.map_map] at e2
    show VR T W (.tup false (z.2.map D.int)) z.1
    rw [e1]
    exact .tup e2 (VRs.of_ints z.2)
theorem sorted_ok : OpC T r (.builtin "sorted") gSorted := by
  intro X Wx hX W ds vs M k Q m rs h hQ
  obtain ⟨d, rfl, h1⟩ := arg1_t h
  obtain ⟨v, rfl, rv⟩ := rs.one
  have fin : ∀ {a : Addr} {ds : List D} {xs : List V}, SqL X.K W.H a xs → VRs T W ds xs → pairsC ds (fun zs => sortZ zs M k) = true → CaS X (.builtin "sorted") [.ref a] W.H Q := fun {a ds xs} hs rq h2 => by
    obtain ⟨l, zs, q1, rfl, q3, q4⟩ := pairsC_t hX rq h2
    exact CaS_of cr_srtL ⟨a, zs, rfl, hs, q3, fun p hp => hQ.lst m (isort_zr q1).fst (sortZ_t q4) p hp⟩
  cases d with
  | lv ds =>
    obtain ⟨a, ys, rfl, hs, rq⟩ := rv.sqLv hX
    exact fin hs rq h1
  | loc l =>
    have h2 : getC M l (fun c => Cell.casesOn c (fun xs => pairsC xs fun zs => sortZ zs M k) (fun t kvs => Bool.rec (chk (emptyB kvs) (setC M l (.dct true []) fun M' => sortZ [] M' k)) (keysC kvs fun zs => sortZ zs M k) t) (fun _ _ => false) (fun _ => false)) = true := h1
    obtain ⟨_, rfl⟩ := rv.loc_at
    obtain ⟨c, hl, hc, h3⟩ := getC_t h2
    cases c with
    | lst xs =>
      obtain ⟨ys, e, rq⟩ := m.lst (by rw [← m.n]; exact hl) hc
      exact fin (SqL.of e) rq h3
    | dct t kvs =>
      cases t with
      | false =>
        obtain ⟨ht, h4⟩ := chk_t (show chk (emptyB kvs) (setC M l (.dct true []) fun M' => sortZ [] M' k) = true from h3)
        have := emptyB_t ht
        subst this
        have hl' : l < W.n := by rw [← m.n]; exact hl
        obtain ⟨u0, hu, q⟩ := m.cell l _ hl' hc
        cases u0 <;> first | exact False.elim q | skip
        cases q
        have le : Le W ⟨W.n, W.ρ, upd W.H (W.ρ l) (.dT [])⟩ := Le.write hu (fun _ z => nomatch z) (fun _ _ z => nomatch z)
        have m' : MR T ⟨W.n, W.ρ, upd W.H (W.ρ l) (.dT [])⟩ (M.set l (.dct true [])) := m.write hl' hu (fun _ z => nomatch z) (fun _ _ z => nomatch z) ⟨_, upd_same, .nil⟩
        have g : CaS X (.builtin "sorted") [.ref (W.ρ l)] (upd W.H (W.ρ l) (.dT [])) Q := CaS_of (cr_srtD hX.calm) ⟨_, [], [], rfl, .inl upd_same, .nil, fun zs p hz hn hp => by
          cases hz
          exact (hQ.mono le).lst m' .nil (sortZ_t (zs := []) (setC_t h4)) p hp⟩
        intro pins s σ us I rus
        exact g pins s σ us (retype I hu) rus
      | true =>
        have h4 : keysC kvs (fun zs => sortZ zs M k) = true := h3
        obtain ⟨u, e, z⟩ := m.cell l _ (by rw [← m.n]; exact hl) hc
        cases u <;> first | exact False.elim z | skip
        rename_i ks
        obtain ⟨ns, q1, q2⟩ := keysC_t z h4
        exact CaS_of (cr_srtD hX.calm) ⟨_, ks, ns, rfl, .inl e, q1, fun zs p hz hn hp => by
          subst hn
          exact hQ.lst m (isort_zr (zr_keys hz)).fst (sortZ_t q2) p hp⟩
    | _ => cases h3
  | _ => cases h1
end
end Z
end
set_option Elab.async false
set_option autoImplicit false
set_option linter.all false
set_option maxRecDepth 100000
set_option maxHeartbeats 2000000
/-! ZExc: own errors: their makers, raise. -/
noncomputable section
namespace Z
open PySem PySem.Spec PyProof.Rows L2
theorem vis_par {N P : List Str} {sc : Scope} (S : FnScope N P sc) {x : Str} (h : x ∈ P) : Vis sc x := (S.par x h).imp id .inl
theorem init1 {P : Program} {w : World} {K : PySem.W.Frag} {mg : Str → Option Value} {base : Heap} {CX : CXT} {qual f g : Str} {params : Arguments} {p p' q pos : Pos} {scope : Scope} {fI : Addr} {fd : FuncData}
    (F : FunD K "__init__" qual params [.Assign [.Attribute (.Name "self" p) f p'] (.Name g q) pos] scope [] [] fI fd) (S : FnScope ["self", g] ["self", g] scope) (hd : (g == ("__debug__" : Str)) = false) (hc : (g == ("__classdict__" : Str)) = false) :
    FnOk P w K mg base CX 1 fI fd ["self", g] (spInit K [f]) := by
  refine F.ok S (fun vs H Q E ⟨a, C, ys, e, hl, _⟩ => by rw [e]; show ys.length + 1 = 2; rw [hl]; rfl) (fun cdv A outer s H vs Q E hr ⟨a, C, ys, e, hl, T, hf, ea, hq⟩ => ?_)
  subst e
  match ys, hl with
  | [y], _ =>
    refine ⟨_, pss_one (ps_ost (pe_var (i := 0) rfl (vis_par S (by simp))) (pe_var (i := 1) rfl (vis_par S (by simp)) hd hc)), ?_⟩
    refine ⟨y, rfl, .ref a, rfl, a, C, rfl, T, hf f (by simp), .inl ⟨ea, fun dx hx hne => ?_⟩⟩
    refine hq dx _ hx hne upd_same ?_ fun b h1 h2 => ?_
    · rw [upd_ne hne, upd_same] <;> rfl
    · rw [upd_ne h1, upd_ne h2]
theorem init2 {P : Program} {w : World} {K : PySem.W.Frag} {mg : Str → Option Value} {base : Heap} {CX : CXT} {qual f g f2 g2 : Str} {params : Arguments} {p p' q pos p2 p2' q2 pos2 : Pos} {scope : Scope} {fI : Addr} {fd : FuncData}
    (F : FunD K "__init__" qual params [.Assign [.Attribute (.Name "self" p) f p'] (.Name g q) pos, .Assign [.Attribute (.Name "self" p2) f2 p2'] (.Name g2 q2) pos2] scope [] [] fI fd) (S : FnScope ["self", g, g2] ["self", g, g2] scope)
    (hd : (g == ("__debug__" : Str)) = false) (hc : (g == ("__classdict__" : Str)) = false) (hd2 : (g2 == ("__debug__" : Str)) = false) (hc2 : (g2 == ("__classdict__" : Str)) = false) :
    FnOk P w K mg base CX 1 fI fd ["self", g, g2] (spInit K [f, f2]) := by
  refine F.ok S (fun vs H Q E ⟨a, C, ys, e, hl, _⟩ => by rw [e]; show ys.length + 1 = 3; rw [hl]; rfl) (fun cdv A outer s H vs Q E hr ⟨a, C, ys, e, hl, T, hf, ea, hq⟩ => ?_)
  subst e
  match ys, hl with
  | [y, z], _ =>
    refine ⟨_, pss_cons (ps_ost (pe_var (i := 0) rfl (vis_par S (by simp))) (pe_var (i := 1) rfl (vis_par S (by simp)) hd hc)) (pss_one (ps_ost (pe_var (i := 0) rfl (vis_par S (by simp))) (pe_var (i := 2) rfl (vis_par S (by simp)) hd2 hc2))), ?_⟩
    refine ⟨y, rfl, .ref a, rfl, a, C, rfl, T, hf f (by simp), .inl ⟨ea, fun dx hx hne => ?_⟩⟩
    refine ⟨z, rfl, .ref a, rfl, a, C, rfl, T, hf f2 (by simp), .inr ⟨dx, _, upd_same, by rw [upd_ne hne, upd_same], by show 1 ≤ 900; decide, ?_⟩⟩
    refine hq dx _ hx hne ?_ ?_ fun b h1 h2 => ?_
    · rw [upd_ne (Ne.symm hne), upd_same]
    · rw [upd_same] <;> rfl
    · rw [upd_ne h2, upd_ne h1, upd_ne h2]
/-- the fields, the last one first -/
def zipK (ats : List Nat) : List D → (List (Nat × D) → Bool) → Bool := fun ds k => (List.rec (fun _ acc => k acc) (fun n _ ih ds acc => List.casesOn ds false fun d r => ih r ((n, d) :: acc)) ats : List D → List (Nat × D) → Bool) ds []
theorem zipK_aux (k : List (Nat × D) → Bool) : ∀ (ats : List Nat) (ds : List D) (acc : List (Nat × D)), (List.rec (fun _ acc => k acc) (fun n _ ih ds acc => List.casesOn ds false fun d r => ih r ((n, d) :: acc)) ats : List D → List (Nat × D) → Bool) ds acc = true →
    ats.length ≤ ds.length ∧ k ((ats.zip ds).reverse ++ acc) = true
  | [], ds, acc, h => ⟨Nat.zero_le _, by cases ds <;> exact h⟩
  | n :: r, [], acc, h => by cases h
  | n :: r, d :: ds, acc, h => by
    obtain ⟨h1, h2⟩ := zipK_aux k r ds ((n, d) :: acc) h
    exact ⟨Nat.succ_le_succ h1, by rw [List.zip_cons_cons, List.reverse_cons, List.append_assoc]; exact h2⟩
theorem zipK_t {ats : List Nat} {ds : List D} {k} (h : zipK ats ds k = true) : ats.length ≤ ds.length ∧ k (ats.zip ds).reverse = true := by
  obtain ⟨h1, h2⟩ := zipK_aux k ats ds [] h
  rw [List.append_nil] at h2
  exact ⟨h1, h2⟩
theorem FR.zip {T : Tb} {W : Wd} : ∀ {ats : List Nat} {fs : List Str} {ds : List D} {ys : List V}, Paired (fun n f => T.at_[n]? = some f) ats fs → VRs T W ds ys → ds.length = ats.length → FR T W (ats.zip ds) (fs.zip ys)
  | _, _, _, _, .nil, .nil, _ => .nil
  | _, _, _, _, .nil, .cons _ _, h => by cases h
  | _, _, _, _, .cons _ _, .nil, h => by cases h
  | _, _, _, _, .cons a b, .cons r s, h => .cons ⟨a, r⟩ (FR.zip b s (Nat.succ.inj h))
theorem FR.rev {T : Tb} {W : Wd} : ∀ {l : List (Nat × D)} {m : List (Str × V)} {l2 : List (Nat × D)} {m2 : List (Str × V)}, FR T W l m → FR T W l2 m2 → FR T W (l.reverse ++ l2) (m.reverse ++ m2)
  | _, _, _, _, .nil, h => h
  | _, _, _, _, .cons a b, h => by
    rw [List.reverse_cons, List.reverse_cons, List.append_assoc, List.append_assoc]
    exact FR.rev b (.cons a h)
/-- raise X(..) -/
def cRaise (i : Nat) (ats : List Nat) (args : CA) : CS := fun ev σ M ks kx => args ev σ M (fun xs M => lenIs xs ats.length (zipK ats xs fun fs => kx ⟨i, fs⟩ M)) kx
section
variable {S : St8} {ci : CI} {pos : Pos}
theorem ss_raise {x : Str} {p pos' : Pos} {e : Expr} {es : List Expr} {c : CA} {i : Nat} {ats : List Nat} (hr1 : 2 ≤ S.r) (h9 : ats.length ≤ 1000) (ho : ExcOk S.T x i ats) (hs : ci.sc.names.lookup x = some .globalImplicit) (hd : (x == ("__debug__" : Str)) = false)
    (ha : SA S ci (e :: es) c) (hst : notStars (e :: es) = true) : SS S ci (.Raise (some (.Call (.Name x p) (e :: es) [] pos)) none pos') (cRaise i ats c) := by
  intro X Wx hX hS hC W σd σ M ks kx D s m h hD hx
  obtain ⟨fI, fd, fs, ps, iC, tI, F1, hb, pa, hno⟩ := ho.ini
  have hst' : (notStar e && notStars es) = true := hst
  rw [Bool.and_eq_true] at hst'
  have F1 : FnOk X.prog X.w X.K X.mg X.base (L2.CX X.prog X.w) 1 fI fd ps (spInit X.K fs) := by rw [hX.P, hX.w, hX.K, hX.mg, hX.base]; exact F1
  have oex : OexC X.K (S.T.ca i) := by rw [hX.K]; exact ho.oex
  have mk := pmk_oex (X := X) (x := x) (p := p) (pos := pos) (dvs := []) oex (by rw [hX.K]; exact iC) (by rw [hX.K]; exact tI) F1 (hX.room.mono hr1) (by rw [hX.K]; exact hb) .nil
    (fun pins σ H s e s' I hc => absurd hc (by intro ⟨_, _, _, _, _, _, _, _, _, _, _, _, z⟩; exact z))
    (by unfold Gl Env.kindOf; rw [hC.sc]; exact hs) (by rw [hX.mg]; exact ho.mg) pa_tof hd (star_cons hst'.1 X.env) (star_plain hst'.2 X.env pos)
  refine tofS (ps_raise hX.calm hX.tk mk) ?_
  refine ha X Wx hX hC W σd σ M _ kx _ s m h (fun W1 ds vs M1 l1 m1 r1 h1 => ?_) (hx σ)
  obtain ⟨hl, h2⟩ := lenIs_t h1
  obtain ⟨hz, h3⟩ := zipK_t h2
  have hfl : fs.length = ats.length := (Paired.length pa).symm
  refine ⟨by rw [← r1.length, hl]; exact h9, fun a ha1 => ⟨a, S.T.ca i, vs, by simp, by rw [← r1.length, hl, hfl], oex, by rw [hX.K]; exact hno, upd_same, fun dx H2 hdx hne ea ed hoth => ?_⟩⟩
  have hdx1 : W1.H dx = none := by rw [upd_ne hne] at hdx; exact hdx
  refine ⟨rfl, dx, _, ea, ed, hdx1, ?_⟩
  have he : upd (del H2 a) dx (.xd ((fs.zip vs).reverse)) = upd W1.H dx (.xd ((fs.zip vs).reverse)) := by
    funext b
    by_cases hb1 : b = dx
    · rw [hb1, upd_same, upd_same]
    · rw [upd_ne hb1, upd_ne hb1]
      by_cases hb2 : b = a
      · rw [hb2, del_same, ha1]
      · rw [del_ne hb2, hoth b hb2 hb1, upd_ne hb2]
  rw [he]
  have g := grows (o := .xd ((fs.zip vs).reverse)) hdx1
  have fr0 := FR.rev (FR.zip (T := S.T) (W := W1) pa r1 hl) .nil
  rw [List.append_nil, List.append_nil] at fr0
  exact hx σ ⟨W1.n, W1.ρ, upd W1.H dx (.xd ((fs.zip vs).reverse))⟩ ⟨i, (ats.zip ds).reverse⟩ _ _ M1 (l1.trans (Le.ext g)) (m1.ext g) ⟨rfl, .inr ⟨dx, _, rfl, upd_same, FR.mono (Le.ext g) fr0⟩⟩ h3
end
end Z
end
set_option Elab.async false
set_option autoImplicit false
set_option linter.all false
set_option maxRecDepth 100000
set_option maxHeartbeats 2000000
/-! ZTold: f(lambda: ..) where f tells the errors; calls of what a variable holds. -/
noncomputable section
namespace Z
open PySem PySem.Spec PyProof.Rows L2
/-! ### a call by a variable -/
def cCallV (i : Nat) (lens : List Nat) (args : CA) : CE := fun ev σ M k kx => nthK σ i fun d => isFn d fun j => nthK lens j fun n => args ev σ M (fun xs M => lenIs xs n (ev.call j xs M k kx)) kx
section
variable {S : St8} {ci : CI} {pos : Pos}
theorem se_callV (hS : S.Ok) {x : Str} {p : Pos} {e : Expr} {es : List Expr} {c : CA} {i : Nat} (hN : ci.N[i]? = some x) (hv : Vis ci.sc x) (hd : (x == ("__debug__" : Str)) = false) (hc : (x == ("__classdict__" : Str)) = false)
    (ha : SA S ci (e :: es) c) (hst : notStars (e :: es) = true) : SE S ci (.Call (.Name x p) (e :: es) [] pos) (cCallV i (S.fns.map List.length) c) := by
  intro X Wx hX hC W σd σ M k kx Q s m h hQ hx pins st I
  have hst' : (notStar e && notStars es) = true := hst
  rw [Bool.and_eq_true] at hst'
  obtain ⟨d, e1, h1⟩ := nthK_t h
  obtain ⟨j, rfl, h2⟩ := isFn_t h1
  obtain ⟨n, e2, h3⟩ := nthK_t h2
  obtain ⟨ps, hp, hn⟩ : ∃ ps, S.fns[j]? = some ps ∧ ps.length = n := by
    rw [List.getElem?_map] at e2
    cases q : S.fns[j]? with
    | none => rw [q] at e2; cases e2
    | some ps => rw [q] at e2; exact ⟨ps, rfl, Option.some.inj e2⟩
  subst hn
  rcases s.at_ i _ e1 with z | ⟨v, ev, rv⟩
  · cases z
  cases rv
  refine wpAny_Call_Name_kw (thn ((pe_var (pos := p) (by rw [hC.N]; exact hN) (by rw [hC.sc]; exact hv) hd hc : PE X (.Name x p) (tVar i)).run pins st σ W.H (fun v H => v = .ref (S.T.fa j) ∧ H = W.H) I ⟨_, ev, rfl, rfl⟩) fun u s0 ⟨v0, H0, I0, r0, ev0, eH⟩ => ?_)
  subst ev0
  subst eH
  obtain rfl : u = Value.ref (S.T.fa j) := r0
  refine PySem.W.callWith_K (h₀ := X.base) I0.ok.mod.kin (kp_of hS hX hp) (thn (ha X Wx hX hC W σd σ M _ kx (fun vs H => ∀ (pins : List (Addr × Obj)) (s : Shared) (us : List Value), Inv X pins σ H s → Vals vs us → wpAny (model X.prog X.w) X.A (call (.ref (S.T.fa j)) us) (EP X pins σ Q) X.xe s) s m h3 (fun W1 ds vs M1 l1 m1 r1 h1 => ?_) hx pos pins s0 I0) fun us s1 ⟨vs, H1, I1, r, q⟩ => ⟨I1.kIn, ?_⟩)
    (star_cons hst'.1 X.env) (star_plain hst'.2 X.env pos)
  · intro pins2 s2 us2 I2 r2
    obtain ⟨hl, h2⟩ := lenIs_t h1
    exact run_def hS hX hp I2 r2 m1 r1 hl h2 (hQ.mono l1) (hx.mono l1)
  · exact q pins s1 us I1 r
end
/-! ### what is told of an error -/
def fldsK (fs : List Nat) (xs : List (Nat × D)) (k : List D → Bool) : Bool := (List.rec (fun k => k []) (fun n _ ih k => (List.rec false (fun p _ ih2 => Bool.rec ih2 (ih fun r => k (p.2 :: r)) (Nat.beq p.1 n)) xs : Bool)) fs : (List D → Bool) → Bool) k
def neE {α : Type} (l : List α) (b : Bool) : Bool := List.casesOn l false fun _ _ => b
theorem neE_t {α : Type} {l : List α} {b : Bool} (h : neE l b = true) : l ≠ [] ∧ b = true := match l, h with
  | _ :: _, h => ⟨List.cons_ne_nil _ _, h⟩
def toldK (nc : Nat) (hs : List Hd) (x : Xn) (M : Sto) (k : K1) : Bool := chk (Nat.blt x.cls nc) (List.rec false (fun h _ ih => Bool.rec ih (neE x.fs (fldsK h.fs x.fs fun ds => k (.tup false (.str h.tag :: ds)) M)) (Nat.beq x.cls h.c)) hs)
def cTold (nc : Nat) (hs : List Hd) (c : CE) : CE := fun ev σ M k kx => c ev σ M k fun x M => toldK nc hs x M k
section
variable {T : Tb} {W : Wd}
theorem fld_at {n : Nat} {k : D → Bool} : ∀ {xs : List (Nat × D)} {fs : List (Str × V)}, FR T W xs fs → (∀ (i j : Nat) (f : Str), T.at_[i]? = some f → T.at_[j]? = some f → i = j) → (List.rec false (fun p _ ih2 => Bool.rec ih2 (k p.2) (Nat.beq p.1 n)) xs : Bool) = true →
    ∃ (f : Str) (d : D) (v : V), T.at_[n]? = some f ∧ fs.lookup f = some v ∧ VR T W d v ∧ k d = true
  | _, _, .nil, _, h => (nomatch h)
  | (i, d) :: r, (f, v) :: fs, .cons ⟨a, rv⟩ b, inj, h => by
    have h' : (Bool.rec (List.rec false (fun p _ ih2 => Bool.rec ih2 (k p.2) (Nat.beq p.1 n)) r : Bool) (k d) (Nat.beq i n) : Bool) = true := h
    cases q : Nat.beq i n with
    | true =>
      rw [q] at h'
      have := Nat.eq_of_beq_eq_true q
      subst this
      exact ⟨f, d, v, a, by simp [List.lookup], rv, h'⟩
    | false =>
      rw [q] at h'
      obtain ⟨f', d', v', a', l', r', k'⟩ := fld_at b inj h'
      refine ⟨f', d', v', a', ?_, r', k'⟩
      have ne : f' ≠ f := fun z => Nat.ne_of_beq_eq_false q (inj i n f a (z ▸ a'))
      rw [List.lookup_cons, beq_eq_false_iff_ne.mpr ne]
      exact l'
theorem fldsK_t {xs : List (Nat × D)} {fs : List (Str × V)} (r : FR T W xs fs) (inj : ∀ (i j : Nat) (f : Str), T.at_[i]? = some f → T.at_[j]? = some f → i = j) : ∀ {ns : List Nat} {k : List D → Bool}, fldsK ns xs k = true →
    ∃ ds vs, VRs T W ds vs ∧ Paired (fun (n : Nat) (v : V) => ∃ f : Str, T.at_[n]? = some f ∧ fs.lookup f = some v) ns vs ∧ k ds = true
  | [], k, h => ⟨[], [], .nil, .nil, h⟩
  | n :: ns, k, h => by
    have h' : (List.rec false (fun p _ ih2 => Bool.rec ih2 (fldsK ns xs fun r => k (p.2 :: r)) (Nat.beq p.1 n)) xs : Bool) = true := h
    obtain ⟨f, d, v, a, l, rv, h2⟩ := fld_at (k := fun d => fldsK ns xs fun r => k (d :: r)) r inj h'
    obtain ⟨ds, vs, rs, p, h3⟩ := fldsK_t r inj h2
    exact ⟨d :: ds, v :: vs, .cons rv rs, .cons ⟨f, a, l⟩ p, h3⟩
/-- what flies is told -/
theorem told_px {x : Str} {nc : Nat} {hs : List Hd} {k : K1} {Q : VK} (ho : ToldOk T x nc hs) (inj : ∀ (i j : Nat) (f : Str), T.at_[i]? = some f → T.at_[j]? = some f → i = j) (hQ : PV T W k Q) : PX T W (fun x M => toldK nc hs x M k) (toldW T Q hs) := by
  intro W' xn c d M' le m hxr h
  obtain ⟨h1, h2⟩ := chk_t (show chk (Nat.blt xn.cls nc) _ = true from h)
  have hlt := Nat.blt_eq.mp h1
  obtain ⟨rfl, hf⟩ := hxr
  have go : ∀ hs' : List Hd, (∀ h ∈ hs', h ∈ hs) → (List.rec false (fun h _ ih => Bool.rec ih (neE xn.fs (fldsK h.fs xn.fs fun ds => k (.tup false (.str h.tag :: ds)) M')) (Nat.beq xn.cls h.c)) hs' : Bool) = true → toldW T Q hs' (.ref (T.ca xn.cls)) d W'.H := by
    intro hs'
    induction hs' with
    | nil => intro _ h; cases h
    | cons hd tl ih =>
      intro hm h
      have h' : (Bool.rec (List.rec false (fun h _ ih => Bool.rec ih (neE xn.fs (fldsK h.fs xn.fs fun ds => k (.tup false (.str h.tag :: ds)) M')) (Nat.beq xn.cls h.c)) tl : Bool) (neE xn.fs (fldsK hd.fs xn.fs fun ds => k (.tup false (.str hd.tag :: ds)) M')) (Nat.beq xn.cls hd.c) : Bool) = true := h
      refine ⟨Nat.beq xn.cls hd.c, ho.exm _ hlt _ (hm _ List.mem_cons_self), fun hb => ?_, fun hb => ?_⟩
      · rw [hb] at h'
        have ec := Nat.eq_of_beq_eq_true hb
        refine ⟨by rw [ec], ?_⟩
        obtain ⟨hne, h'⟩ := neE_t h'
        rcases hf with he | ⟨b, fs', ed, eh, fr⟩
        · exact absurd he hne
        · obtain ⟨ds, vs, rs, p, h3⟩ := fldsK_t fr ho.inj h'
          refine ⟨b, fs', vs, ed, eh, p, fun q hq => ?_⟩
          exact (hQ.mono le).tup m (.cons (.str _) rs) h3 q hq
      · rw [hb] at h'
        exact ih (fun h hh => hm h (List.mem_cons_of_mem _ hh)) h'
  exact go hs (fun h hh => hh) h2
theorem extN_le {H1 : Hp} (e : LamX.ExtN W.H H1) : Le W ⟨W.n, W.ρ, H1⟩ := ⟨Nat.le_refl _, fun _ _ => rfl, fun a xs h => e a _ h (fun ps z => (nomatch z)), fun a o xs h => e a _ h (fun ps z => (nomatch z))⟩
theorem cr_notTbl {c : Cell} {a : Addr} (h : CR T W c a) : ∃ u : HO, W.H a = Option.some u ∧ ∀ ps : Array Value, u ≠ HO.tbl ps := by
  cases c with
  | lk c =>
    cases c with
    | lk c =>
      cases c with
      | lst _ => obtain ⟨b, p, e, _⟩ := h; exact ⟨_, e, fun ps z => by cases z⟩
      | _ => exact h
    | _ => obtain ⟨o, u, e, _⟩ := h; exact ⟨_, e, fun ps z => by cases z⟩
  | lst ds => obtain ⟨u, e, q⟩ := h; refine ⟨u, e, fun ps z => ?_⟩; subst z; exact q
  | dct t kvs => obtain ⟨u, e, q⟩ := h; refine ⟨u, e, fun ps z => ?_⟩; subst z; cases t <;> exact q
  | ins i fs => obtain ⟨u, e, q⟩ := h; refine ⟨u, e, fun ps z => ?_⟩; subst z; exact q
theorem MR.extN {M : Sto} (m : MR T W M) {H1 : Hp} (e : LamX.ExtN W.H H1) (t : LamX.Tabs T.tabs H1) : MR T ⟨W.n, W.ρ, H1⟩ M :=
  ⟨m.n, m.full, fun l c hl q => by
    have z := m.cell l c hl q
    obtain ⟨u, e2, hn⟩ := cr_notTbl z
    exact z.mono (extN_le e) ((e _ _ e2 hn).trans e2.symm), m.inj, t⟩
end
section
variable {S : St8} {ci : CI} {pos : Pos}
abbrev noArgs : Arguments := ⟨[], [], none, [], [], none, []⟩
/-- f(lambda: body) -/
theorem se_told (hS : S.Ok) (hw : S.q + 2 ≤ S.r) {x : Str} {p lpos : Pos} {nc : Nat} {hs : List Hd} {body : Expr} {scope : Scope} {cb : CE} (ho : ToldOk S.T x nc hs) (hg : ci.sc.names.lookup x = some .globalImplicit) (hdb : (x == ("__debug__" : Str)) = false)
    (htab : ci.tab = true) (L : LamX.LamS ci.sc scope) (hb : SE S.low ⟨ci.N, scope, scope, ci.gl, false, false⟩ body cb) : SE S ci (.Call (.Name x p) [.Lambda noArgs body scope lpos] [] pos) (cTold nc hs cb) := by
  intro X Wx hX hC W σd σ M k kx Q s m h hQ hx
  obtain ⟨g, a, pg, bg, sg, dV, kV, doc, pm, cdv, ct, oc, an, od, osl, Ng, hmg, hkp, lk, hcg, hbd, Sg, hNg, hva, hda, hca, hG⟩ := ho.ex
  obtain ⟨c, P, hcode, TB, hmT, hu⟩ := hC.tab htab
  have LX : LamX.LamS X.env.scope scope := by rw [hC.sc]; exact L
  have pe := LamX.pe_lamcall (X := X) (T := S.T.tabs) (TT := TTx S.T hs) (x := x) (a := a) (k := S.q) (params := noArgs) (body := body) (scope := scope) (p := p) (lpos := lpos) (pos := pos)
    (t := fun E σ HZ Q => ∀ (A : Around) (outer : List Env) (s1 : Shared) (H0 : Hp) (f c' : Addr), Room S.q (A.deeper (LamX.lamEnv X scope s1.heap.objs.size f c')) → TofE (LamX.lamCx X A outer s1 H0 E scope f c') body σ HZ Q)
    (by unfold Gl Env.kindOf; rw [hC.sc]; exact hg) (by rw [hX.mg]; exact hmg) (by rw [hX.K]; exact hkp) (by rw [hX.K]; exact lk) (by rw [hX.K]; exact hcg) (by rw [hX.K]; exact hbd) Sg hNg hva
    (hG X _ hX.K hX.mg) TB hcode hmT hu (hX.room.mono hw) LX rfl (fun q cl pm cv ctv => by rfl)
    (fun A outer s1 H0 E f c' hr => ⟨fun pins s2 σ2 H2 Q2 I2 h2 => h2 A outer s1 H0 f c' hr pins s2 I2⟩) hdb hda hca
  refine tofE pe ⟨m.tabs, fun H1 e t => ?_⟩
  show (∀ (A : Around) (outer : List Env) (s1 : Shared) (H0 : Hp) (f c' : Addr), Room S.q (A.deeper (LamX.lamEnv X scope s1.heap.objs.size f c')) → TofE (LamX.lamCx X A outer s1 H0 (toldW S.T Q hs) scope f c') body σ H1 Q)
  intro A outer s1 H0 f c' hr
  have le := extN_le (W := W) e
  have m1 := m.extN e t
  refine hb (LamX.lamCx X A outer s1 H0 (toldW S.T Q hs) scope f c') (fun cls d σ H => toldW S.T Q hs cls d H) ⟨hX.P, hX.w, hX.K, hX.mg, hX.base, rfl, hX.nd, hr, takes_of rfl rfl rfl rfl⟩
    ⟨hC.N, rfl, fun y hy => ?_, fun z => (nomatch z), fun z => (nomatch z)⟩ ⟨W.n, W.ρ, H1⟩ σd σ M k _ Q (s.mono le) m1 h (hQ.mono le) (told_px ho ho.inj (hQ.mono le))
  rcases hy with hy | hy
  · exact absurd rfl (L.own _ (PySem.mem_of_lookup hy)).1
  · exact absurd rfl (L.own _ (PySem.mem_of_lookup hy)).2
end
/-! ### a call by the parameters' names -/
def TofK (X : Cx) (kws : List Keyword) : TA := fun σ H Q => ∀ (pos : Pos) (pins : List (Addr × Obj)) (s : Shared), Inv X pins σ H s → wpAny (model X.prog X.w) X.A (evalAll ((backToKw pos (keywordEach kws X.env)).map (·.2))) (AP X pins σ Q) X.xe s
theorem pk_tof {X : Cx} {kws : List Keyword} : L2.PK X kws (TofK X kws) := ⟨fun pos pins s σ H Q I h => h pos pins s I⟩
theorem tofK {X : Cx} {kws : List Keyword} {t : TA} (p : L2.PK X kws t) {σ : L2.St} {H : Hp} {Q : List V → Hp → Prop} (h : t σ H Q) : TofK X kws σ H Q := fun pos pins s I => p.run pos pins s σ H Q I h
def SK (S : St8) (ci : CI) (kws : List Keyword) (c : CA) : Prop := ∀ (X : Cx) (Wx : WX), XOk S.T S.r X Wx → CIok S.T ci X → ∀ (W : Wd) (σd : SEnv) (σ : L2.St) (M : Sto) (k : KA) (kx : KX) (Q : List V → Hp → Prop),
  SR S.T W σd σ → MR S.T W M → c S.ev σd M k kx = true → PA' S.T W k Q → PX S.T W kx (fun c d H => Wx c d σ H) → TofK X kws σ W.H Q
section
variable {S : St8} {ci : CI} {pos : Pos}
theorem sk_nil : SK S ci [] cNil := fun X Wx hX hC W σd σ M k kx Q s m h hQ hx => tofK pk_nil (hQ W _ _ M (Le.refl _) m .nil h)
theorem sk_cons {nm : Option Str} {e : Expr} {kpos : Pos} {kws : List Keyword} {c : CE} {r : CA} (he : SE S ci e c) (hr : SK S ci kws r) : SK S ci (⟨nm, e, kpos⟩ :: kws) (cCons c r) :=
  fun X Wx hX hC W σd σ M k kx Q s m h hQ hx => tofK (pk_cons pe_tof pk_tof) (he X Wx hX hC W σd σ M _ kx _ s m h (fun W1 x v M1 l1 m1 r1 h1 =>
    hr X Wx hX hC W1 σd σ M1 _ kx _ (s.mono l1) m1 h1 (fun W2 xs vs M2 l2 m2 r2 h2 => hQ W2 _ _ M2 (l1.trans l2) m2 (.cons (r1.mono l2) r2) h2) (hx.mono l1)) hx)
theorem kw_all {env : Env} {pos : Pos} : ∀ {kws : List Keyword} {ks : List Str}, kws.map (·.arg) = ks.map some → (backToKw pos (keywordEach kws env)).all (·.1.isSome) = true ∧ (backToKw pos (keywordEach kws env)).filterMap (·.1) = ks ∧ (backToKw pos (keywordEach kws env)).any (·.1.isNone) = false
  | [], [], _ => ⟨rfl, rfl, rfl⟩
  | [], _ :: _, h => (nomatch h)
  | _ :: _, [], h => (nomatch h)
  | ⟨nm, e, kp⟩ :: r, y :: ks, h => by
    have h1 := List.cons.inj h
    obtain ⟨a, b, c⟩ := kw_all (env := env) (pos := pos) h1.2
    have e1 : nm = some y := h1.1
    subst e1
    exact ⟨a, congrArg (y :: ·) b, c⟩
theorem se_callKw (hS : S.Ok) {x : Str} {p : Pos} {kws : List Keyword} {c : CA} {i : Nat} {ps : List Str} (hp : S.fns[i]? = some ps) (hk : kwB S.T i = true) (hs : ci.sc.names.lookup x = some .globalImplicit) (hm : S.T.mg x = some (.ref (S.T.fa i))) (hd : (x == ("__debug__" : Str)) = false)
    (ha : SK S ci kws c) (hn : kws.map (·.arg) = ps.map some) : SE S ci (.Call (.Name x p) [] kws pos) (cCallN i ps.length c) := by
  intro X Wx hX hC W σd σ M k kx Q s m h hQ hx pins st I
  obtain ⟨a1, a2, a3⟩ := kw_all (env := X.env) (pos := pos) hn
  obtain ⟨fd, F, kp, b, kw⟩ := hS.fn i ps hp
  have kw := kw hk
  have F' : FnOk X.prog X.w X.K X.mg X.base (L2.CX X.prog X.w) S.q (S.T.fa i) fd ps (spOf S.T S.ev i ps.length) := by rw [hX.P, hX.w, hX.K, hX.mg, hX.base]; exact F
  refine wpAny_Call_Name_kw (ld_glob I (by unfold Gl Env.kindOf; rw [hC.sc]; exact hs) (by rw [hX.mg]; exact hm) ?_ hd)
  refine PySem.W.callWith_KW0 (h₀ := X.base) I.ok.mod.kin (kp_of hS hX hp) a1 (thn (ha X Wx hX hC W σd σ M _ kx (fun vs H => ∀ (pins : List (Addr × Obj)) (s : Shared) (us : List Value), Inv X pins σ H s → Vals vs us → wpAny (model X.prog X.w) X.A (call (.ref (S.T.fa i)) [] (ps.zip us)) (EP X pins σ Q) X.xe s) s m h (fun W1 ds vs M1 l1 m1 r1 h1 => ?_) hx pos pins st I) fun us s1 ⟨vs, H1, I1, r, q⟩ => ⟨I1.kIn, ?_⟩)
    (by rw [Bool.or_eq_false_iff]; exact ⟨rfl, a3⟩)
  · intro pins2 s2 us2 I2 r2
    obtain ⟨hl, h2⟩ := lenIs_t h1
    have hul : us2.length = ps.length := by rw [← r2.length, ← r1.length]; exact hl
    have kw2 := kw s2 us2 (by rw [← hX.K]; exact I2.kIn) hul
    refine wpAny_call (codeAny_mono (F'.run X.A X.stack s2 W1.H ⟨[], ps.zip us2⟩ us2 vs Q (WE Wx σ) (hX.room.mono hS.le) I2.env0 kw2 r2 ⟨W1, ds, M1, k, kx, rfl, m1, r1, by rw [← r1.length]; exact hl, h2, hQ.mono l1, hx.mono l1⟩) fun r s' hq => ?_)
    cases r with
    | error e => exact passAt hX.tk σ pins2 W1.H s2 e s' I2 hq
    | ok fl =>
      cases fl with
      | ret u => exact I2.after hq
      | next => exact False.elim hq
      | brk => exact False.elim hq
      | cont => exact False.elim hq
  · rw [a2]
    exact q pins s1 us I1 r
end
end Z
end
set_option Elab.async false
set_option autoImplicit false
set_option linter.all false
set_option maxRecDepth 100000
set_option maxHeartbeats 2000000
/-! ZTell: the def that tells errors: try: return call() / except X as e: return ('X', e.f, ..) .. -/
noncomputable section
namespace Z
open PySem PySem.Spec PyProof.Rows L2
/-- e.f, .. -/
inductive FldsAre (T : Tb) (C : Addr) (n : Str) : List Expr → List Nat → List Str → Prop
  | nil : FldsAre T C n [] [] []
  | cons {f : Str} {k : Nat} {p q : Pos} {es : List Expr} {ks : List Nat} {fs : List Str} (h : T.at_[k]? = some f) (hno : PySem.W.findIn T.K (.ref C) f = some none) (r : FldsAre T C n es ks fs) : FldsAre T C n (.Attribute (.Name n p) f q :: es) (k :: ks) (f :: fs)
/-- the clauses -/
inductive Clauses (T : Tb) (sg : Scope) (Ng : List Str) : List ExceptHandler → List Hd → List (Nat × Hd × List Str) → Prop
  | nil : Clauses T sg Ng [] [] []
  | cons {cx n tag : Str} {i j kk : Nat} {np p2 p3 p4 p5 : Pos} {es : List Expr} {fs : List Str} {h : Hd} {hds : List ExceptHandler} {hs : List Hd} {l : List (Nat × Hd × List Str)} (hg : sg.names.lookup cx = some .globalImplicit) (hd : (cx == ("__debug__" : Str)) = false) (hm : T.mg cx = some (.ref (T.ca h.c)))
      (hi : Ng[i]? = some n) (hln : sg.names.lookup n = some .local) (hnd : (n == ("__debug__" : Str)) = false) (hnc : (n == ("__classdict__" : Str)) = false) (ht : tag = toS h.tag) (hx : XfC T.K (T.ca h.c)) (hf : FldsAre T (T.ca h.c) n es h.fs fs) (hl : es.length ≤ 1000) (r : Clauses T sg Ng hds hs l) :
      Clauses T sg Ng (.ExceptHandler (some (.Name cx np)) (some n) [.Return (some (.Tuple (.Constant (.str tag) j p2 :: es) kk p3)) p4] p5 :: hds) (h :: hs) ((i, h, fs) :: l)
def tFlds (a : Addr) (cls : Value) (d : Option Addr) (C : Addr) (i : Nat) : List Str → TA
  | [] => tNil
  | f :: r => tCons (tXf a cls d C f (tVar i)) (tFlds a cls d C i r)
def tTells (T : Tb) : Nat × Hd × List Str → Value × Nat × (Addr → Value → Option Addr → TS) := fun p => (.ref (T.ca p.2.1.c), p.1, fun a cls d => tRet (tTup (tCons (tC (.str (toS p.2.1.tag))) (tFlds a cls d (T.ca p.2.1.c) p.1 p.2.2))))
section
variable {T : Tb} {Z : Cx} {sg : Scope} {Ng : List Str}
theorem pa_flds {C a : Addr} {n : Str} {i : Nat} {oe : Obj} {cls : Value} {d : Option Addr} {pn : List (Addr × Obj)} (hK : Z.K = T.K) (hx : XfC T.K C) (hz : Zc cls d oe) (hf : ∃ vs, oe.data = .fields vs) (hN : Z.N[i]? = some n) (hv : Vis Z.env.scope n) (hnd : (n == ("__debug__" : Str)) = false) (hnc : (n == ("__classdict__" : Str)) = false) :
    ∀ {es : List Expr} {ks : List Nat} {fs : List Str}, FldsAre T C n es ks fs → PA (Z.suite a ((a, oe) :: pn)) es (tFlds a cls d C i fs)
  | _, _, _, .nil => pa_nil
  | _, _, _, .cons (p := p) (q := q) h hno r => pa_cons (pe_xf (by rw [hK]; exact hx) (by rw [hK]; exact hno) hz hf (pe_var (X := Z.suite a ((a, oe) :: pn)) hN hv hnd hnc)) (pa_flds hK hx hz hf hN hv hnd hnc r)
theorem hds_ok (hK : Z.K = T.K) (hmg : Z.mg = T.mg) (hN : Z.N = Ng) (hsc : Z.env.scope = sg) : ∀ {hds : List ExceptHandler} {hs : List Hd} {l : List (Nat × Hd × List Str)}, Clauses T sg Ng hds hs l → HdsAs Z hds (l.map (tTells T))
  | _, _, _, .nil => .nil
  | _, _, _, .cons (tag := tag) hg hd hm hi hln hnd hnc ht hx hf hl r => by
    refine .cons ⟨by unfold Gl Env.kindOf; rw [hsc]; exact hg, hd, .inl (by rw [hmg]; exact hm)⟩ (by rw [hN]; exact hi) (by unfold Env.kindOf; rw [hsc]; exact hln) (fun a oe cls d pn hz hfd => ?_) (hds_ok hK hmg hN hsc r)
    subst ht
    exact pss_one (ps_ret (pe_tup (pa_cons pe_str (pa_flds hK hx hz hfd (by rw [hN]; exact hi) (by rw [hsc]; exact .inl hln) hnd hnc hf))))
/-- the fields are read -/
theorem flds_read {C a : Addr} {n : Str} {i : Nat} {d : Option Addr} {dd : Addr} {fl : List (Str × V)} {σ : L2.St} {H : Hp} (hd : d = some dd) (hH : H dd = some (.xd fl)) (hσ : σ[i]? = some (some (.ref a))) :
    ∀ {es : List Expr} {ks : List Nat} {fs : List Str} {vs : List V} {Q : List V → Hp → Prop}, FldsAre T C n es ks fs → Paired (fun (k : Nat) (v : V) => ∃ f : Str, T.at_[k]? = some f ∧ fl.lookup f = some v) ks vs → Q vs H → tFlds a (.ref C) d C i fs σ H Q
  | _, _, _, _, Q, .nil, .nil, hq => hq
  | _, _, _, _, Q, .cons h hno r, .cons ⟨f', h1, h2⟩ ps, hq => by
    rw [h] at h1
    cases h1
    exact ⟨_, hσ, rfl, rfl, dd, fl, _, hd, hH, h2, flds_read hd hH hσ r ps hq⟩
/-- the wish of the clauses -/
theorem told_many {D : Ends} {Q : VK} {cls : Value} {d : Option Addr} {σ : L2.St} {H : Hp} (hNl : ∀ i n, Ng[i]? = some n → i < Ng.length) (hrt : D.rt = Q) : ∀ {hds : List ExceptHandler} {hs : List Hd} {l : List (Nat × Hd × List Str)}, Clauses T sg Ng hds hs l → toldW T Q hs cls d H → wManyAs T.K Ng.length (fun _ _ _ _ => False) D (l.map (tTells T)) cls d σ H
  | _, _, _, .nil, h => h
  | _, _, _, .cons (i := i) hg hd hm hi hln hnd hnc ht hx hf hl r, h => by
    obtain ⟨b, e1, hy, hn⟩ := h
    refine ⟨b, e1, fun hb a ha hlen => ?_, fun hb => told_many hNl hrt r (hn hb)⟩
    obtain ⟨ec, dd, fl, vs, ed, eH, pr, hq⟩ := hy hb
    subst ec
    have hσ : (σ.set i (some (V.ref a)))[i]? = some (some (V.ref a)) := List.getElem?_set_self (by rw [hlen]; exact hNl _ _ hi)
    refine flds_read (C := T.ca _) ed eH hσ hf pr ?_
    have hvl : vs.length ≤ 1000 := by
      have : ∀ {es : List Expr} {ks : List Nat} {fs : List Str} {C : Addr} {n : Str}, FldsAre T C n es ks fs → ks.length = es.length := by
        intro es ks fs C n q
        induction q with
        | nil => rfl
        | cons _ _ _ ih => exact congrArg Nat.succ ih
      rw [← Paired.length pr, this hf]; exact hl
    refine ⟨by rw [show sizeLine = 16777216 from sizeLine_eq, List.length_cons]; omega, fun p hp => ?_⟩
    show D.rt _ _
    rw [hrt]
    exact hq p hp
end
/-- such a def gives what is told -/
theorem tells_gives {T : Tb} {X : Cx} {Ng : List Str} {x a q : Str} {sg : Scope} {g : Addr} {cdg : Value} {p1 p2 p3 p8 : Pos} {h0 : ExceptHandler} {hds : List ExceptHandler} {hs : List Hd} {l : List (Nat × Hd × List Str)} (hK : X.K = T.K) (hmg : X.mg = T.mg) (hnd : Ng.Nodup) (hN0 : Ng[0]? = some a)
    (hc : Clauses T sg Ng (h0 :: hds) hs l) : LamX.GivesTo X Ng x sg g cdg [.Try [.Return (some (.Call (.Name a p1) [] [] p2)) p3] (h0 :: hds) [] [] p8] a q (TTx T hs) := by
  intro f c' s H Q tl act hco h
  have hst : (L2.start Ng [V.ref f])[0]? = some (some (V.ref f)) := rfl
  have hh := hds_ok (Z := (cxOf C8.CX0 X.prog X.w X.K X.mg X.base Ng x sg g cdg X.A X.stack s H C8.E0).nox) (T := T) (sg := sg) (Ng := Ng) hK hmg rfl rfl hc
  refine ⟨_, pss_one (ps_try_manyAs (X := (cxOf C8.CX0 X.prog X.w X.K X.mg X.base Ng x sg g cdg X.A X.stack s H C8.E0).nox)
      (tb := fun W D σ H => ∃ Ech : XK, (∀ cls d σ' H', Ech cls d H' → W cls d σ' H') ∧ σ[0]? = some (some (.ref f)) ∧ H c' = some (LamX.CodeO c' q) ∧ tl Ech H D.rt)
      rfl rfl hnd LamX.takes0 (fun W pn xe tk _ => ?_) hh), ?_⟩
  · refine ⟨fun pins s' σ H' D I h' => ?_⟩
    obtain ⟨Ech, hW, h1, h2, h3⟩ := h'
    have hp := act W pn xe Ech p1 p2 tk hW
    have hq := pss_one (ps_ret (pos := p3) hp)
    exact hq.run pins s' σ H' D I ⟨h1, h2, h3⟩
  · refine ⟨toldW T Q hs, fun cls d σ' H' hw => ?_, hst, hco, h⟩
    have := told_many (T := T) (sg := sg) (Ng := Ng) (D := { nx := fun _ H' => Q .non H', rt := Q }) (σ := σ') (fun i n e => (List.getElem?_eq_some_iff.mp e).1) rfl hc hw
    show wManyAs X.K Ng.length _ _ _ cls d σ' H'
    rw [hK]
    exact this
end Z
end
set_option Elab.async false
set_option autoImplicit false
set_option linter.all false
set_option maxRecDepth 100000
set_option maxHeartbeats 2000000
/-! ZRepr: repr of plain data, where nothing is shown yet. -/
noncomputable section
namespace Z
open PySem PySem.Spec PyProof.Rows L2
/-- how much is shown, at most; an int beyond the bound counts as too much -/
def szI (i : Int) : Nat := Int.rec (fun n => bif Nat.blt n (10 ^ 60) then 200 else 1000000000) (fun n => bif Nat.blt n (10 ^ 59) then 200 else 1000000000) i
def szD (d : D) : Nat := D.rec (motive_1 := fun _ => Nat) (motive_2 := fun _ => Nat)
  0 0 (fun _ => 0) (fun i => szI i) (fun s => s.length) (fun _ => 0) (fun _ _ ih => ih) (fun _ => 0) (fun _ => 0) (fun _ => 0) (fun _ _ => 0) (fun _ ih => ih) 0 (fun _ _ h t => h + 1 + t) d
def szDs (ds : List D) : Nat := szD (.lv ds)
theorem szDs_cons (d : D) (r : List D) : szDs (d :: r) = szD d + 1 + szDs r := rfl
theorem szD_tup (k : Bool) (ds : List D) : szD (.tup k ds) = szDs ds := rfl
theorem szD_lv (ds : List D) : szD (.lv ds) = szDs ds := rfl
theorem plain_cons (d : D) (r : List D) : plains (d :: r) = (plain d && plains r) := rfl
structure Shows (p : PyData) (n : Nat) : Prop where
  w : p.weight ≤ n
  l : p.canLay0 = true → p.leavesShort 64 = true
  s : p.showable = true
structure ShowsAll (p : List PyData) (n : Nat) : Prop where
  w : PyData.weightAll p ≤ n
  l : PyData.canLayAll0 p = true → PyData.leavesShortAll 64 p = true
  s : PyData.showableAll p = true
theorem int_shows {i : Int} (h : szI i ≤ 200000) : Shows (.int i) (szI i) := by
  have hb : i.natAbs < 10 ^ 60 := by
    cases i with
    | ofNat n =>
      have h' : (bif Nat.blt n (10 ^ 60) then 200 else 1000000000) ≤ 200000 := h
      cases q : Nat.blt n (10 ^ 60) with
      | true => exact Nat.blt_eq.mp q
      | false => rw [q] at h'; exact absurd h' (by decide)
    | negSucc n =>
      have h' : (bif Nat.blt n (10 ^ 59) then 200 else 1000000000) ≤ 200000 := h
      cases q : Nat.blt n (10 ^ 59) with
      | true =>
        have := Nat.blt_eq.mp q
        show n + 1 < 10 ^ 60
        have e : (10 : Nat) ^ 60 = 10 * 10 ^ 59 := by decide
        omega
      | false => rw [q] at h'; exact absurd h' (by decide)
  have hz : szI i = 200 := by
    cases i with
    | ofNat n =>
      show (bif Nat.blt n (10 ^ 60) then 200 else 1000000000) = 200
      rw [Nat.blt_eq.mpr (show n < 10 ^ 60 from hb)]; rfl
    | negSucc n =>
      have h' : (bif Nat.blt n (10 ^ 59) then 200 else 1000000000) ≤ 200000 := h
      show (bif Nat.blt n (10 ^ 59) then 200 else 1000000000) = 200
      cases q : Nat.blt n (10 ^ 59) with
      | true => rfl
      | false => rw [q] at h'; exact absurd h' (by decide)
  have hlog : i.natAbs.log2 < 200 := by
    by_cases h0 : i.natAbs = 0
    · rw [h0]; decide
    · exact (Nat.log2_lt h0).mpr (Nat.lt_of_lt_of_le hb (by decide))
  refine ⟨?_, fun _ => ?_, ?_⟩
  · rw [hz]
    show (if i == 0 then 0 else i.natAbs.log2 + 1) ≤ 200
    split <;> omega
  · show decide ((PyData.shown (.int i)).length ≤ 64) = true
    have := int_text_length_le10 (a := i) (k := 60) (by decide) hb
    have e : (PyData.shown (.int i)).length = (toString i).length := by
      show (Str.ofString (toString i)).length = _
      exact PySem.ofString_length _
    exact decide_eq_true (by rw [e]; omega)
  · show decide (i.natAbs.log2 < 1920) = true
    exact decide_eq_true (by omega)
mutual
theorem szD_ok : ∀ (d : D), plain d = true → szD d ≤ 200000 → Shows (py d) (szD d)
  | .non, _, _ => ⟨Nat.le_refl _, fun _ => rfl, rfl⟩
  | .bl b, _, _ => ⟨Nat.le_refl _, fun _ => rfl, rfl⟩
  | .int i, _, h => int_shows h
  | .str s, _, h => ⟨by show s.toArray.size ≤ _; simp [szD], fun hc => by
      have hc' : PyData.strOk (toS s) = true := hc
      have h0 : (toS s).cps.all (· < 0x110000) = true := by simpa only [PyData.strOk] using hc'
      show ((toS s).cps.toList.all fun c => decide (c < 16 ^ 8)) = true
      rw [List.all_eq_true]
      intro c hcm
      have := Array.all_eq_true_iff_forall_mem.mp h0 c (Array.mem_toList_iff.mp hcm)
      have h2 : c < 0x110000 := of_decide_eq_true this
      exact decide_eq_true (Nat.lt_trans h2 (by decide)), rfl⟩
  | .tup k ds, hp, h => by
    have hp' : plains ds = true := by rw [← plain_lv]; exact hp
    have q := szDs_ok ds hp' h
    rw [py_tup]
    exact ⟨q.w, q.l, q.s⟩
  | .lv ds, hp, h => by
    have hp' : plains ds = true := by rw [← plain_lv]; exact hp
    have q := szDs_ok ds hp' h
    rw [py_lv]
    exact ⟨q.w, q.l, q.s⟩
  | .und, hp, _ => (nomatch hp)
  | .ty _, hp, _ => (nomatch hp)
  | .loc _, hp, _ => (nomatch hp)
  | .fn _, hp, _ => (nomatch hp)
  | .cls _, hp, _ => (nomatch hp)
  | .rp _, hp, _ => (nomatch hp)
theorem szDs_ok : ∀ (ds : List D), plains ds = true → szDs ds ≤ 200000 → ShowsAll (ds.map py) (szDs ds)
  | [], _, _ => ⟨Nat.le_refl _, fun _ => rfl, rfl⟩
  | d :: r, hp, h => by
    rw [plain_cons, Bool.and_eq_true] at hp
    rw [szDs_cons] at h ⊢
    have a := szD_ok d hp.1 (by omega)
    have b := szDs_ok r hp.2 (by omega)
    refine ⟨?_, fun hc => ?_, ?_⟩
    · show (py d).weight + 1 + PyData.weightAll (r.map py) ≤ _
      have := a.w; have := b.w
      omega
    · have hc' : ((py d).canLay0 && PyData.canLayAll0 (r.map py)) = true := hc
      rw [Bool.and_eq_true] at hc'
      show ((py d).leavesShort 64 && PyData.leavesShortAll 64 (r.map py)) = true
      rw [a.l hc'.1, b.l hc'.2]; rfl
    · show ((py d).showable && PyData.showableAll (r.map py)) = true
      rw [a.s, b.s]; rfl
end
def isSeq (d : D) (b : Bool) : Bool := D.casesOn d false false (fun _ => false) (fun _ => false) (fun _ => false) (fun _ => false) (fun _ _ => b) (fun _ => false) (fun _ => false) (fun _ => false) (fun _ => false) (fun _ => b)
theorem isSeq_t {d : D} {b : Bool} (h : isSeq d b = true) : ((∃ k ds, d = .tup k ds) ∨ ∃ ds, d = .lv ds) ∧ b = true := by
  cases d <;> first | (cases h; done) | exact ⟨.inl ⟨_, _, rfl⟩, h⟩ | exact ⟨.inr ⟨_, rfl⟩, h⟩
def gRepr : GC := fun ds M f => arg1 ds fun d => rsv 60 d M fun e => isSeq e (chk (Nat.ble (szD e) 200000) (f (.rp e) M))
theorem repr_ok {T : Tb} {r : Nat} {X : Cx} {Wx : WX} (hX : XOk T r X Wx) (hg : X.A.guards = some []) {W : Wd} {ds : List D} {vs : List V} {M : Sto} {k : K1} {Q : VK} (m : MR T W M) (rs : VRs T W ds vs) (h : gRepr ds M k = true) (hQ : PV T W k Q) : CaS X (.builtin "repr") vs W.H Q := by
  obtain ⟨d, rfl, h1⟩ := arg1_t h
  obtain ⟨v, rfl, rv⟩ := rs.one
  obtain ⟨e, h2, rd⟩ := rsv_ok X.K hX.K m 60 d v _ rv h1
  obtain ⟨hseq, h3⟩ := isSeq_t h2
  obtain ⟨h4, h5⟩ := chk_t h3
  have sh := szD_ok e rd.pl (Nat.le_of_ble_eq_true h4)
  have hsz := Nat.le_of_ble_eq_true h4
  intro pins s σ us I rvs
  obtain ⟨u, rfl, ru⟩ : ∃ u, us = [u] ∧ RelV v u := by
    cases rvs with
    | cons a b => cases b; exact ⟨_, rfl, a⟩
  obtain ⟨as, R⟩ := Dp.reads I (py e) v u rd.dp ru
  obtain ⟨a, ha⟩ : ∃ a, u = .ref a := by
    rcases hseq with ⟨kk, es, rfl⟩ | ⟨es, rfl⟩
    · rw [py_tup] at R
      cases R with
      | tuple _ _ _ _ => exact ⟨_, rfl⟩
    · rw [py_lv] at R
      cases R with
      | list _ _ _ _ => exact ⟨_, rfl⟩
  subst ha
  have hlen : (py e).shown.length ≤ sizeLine := by
    have q := PyData.shown_le 64 (by decide) (py e) (sh.l rd.lay)
    have w := sh.w
    rw [show sizeLine = 16777216 from sizeLine_eq]
    omega
  have hu := hX.u64
  refine repr_of_reads' R sh.s (PyData.noDict_hsm (PyData.hasDict_of_canLay _ rd.lay)) hg (by have := rd.dep; omega) (fun b o z => z) (fun h' t tk hk => ?_) hlen
  exact ⟨.str (py e).shown, W.H, I.kept hk, ⟨_, rfl⟩, hQ.here m (.rp e) h5⟩
section
variable {S : St8} {ci : CI} {pos : Pos}
theorem se_repr {p : Pos} {e : Expr} {c : CA} (htop : ci.top = true) (ha : SA S ci [e] c) (hs : ci.sc.names.lookup ("repr" : Str) = some .globalImplicit) (hm : S.T.mg "repr" = none) (hst : notStars [e] = true) : SE S ci (.Call (.Name "repr" p) [e] [] pos) (cBlt gRepr c) := by
  intro X Wx hX hC W σd σ M k kx Q s m h hQ hx
  have hst' : (notStar e && notStars []) = true := hst
  rw [Bool.and_eq_true] at hst'
  exact tofE (pe_callB (x := "repr") callR_S (by unfold Gl Env.kindOf; rw [hC.sc]; exact hs) (by rw [hX.mg]; exact hm) (by kernel_rfl) pa_tof (by decide +kernel) (by decide +kernel) (star_cons hst'.1 X.env) (star_plain hst'.2 X.env pos))
    (ha X Wx hX hC W σd σ M _ kx _ s m h (fun W1 ds vs M1 l1 m1 r1 h1 => repr_ok hX (hC.top htop) m1 r1 h1 (hQ.mono l1)) hx)
end
end Z
end
set_option Elab.async false
set_option autoImplicit false
set_option linter.all false
set_option maxRecDepth 100000
set_option maxHeartbeats 2000000
/-! ZDt: k in d, tuple(d) for dicts with tuples as keys. -/
noncomputable section
namespace Z
open PySem PySem.Spec PyProof.Rows L2
/-! ### in -/
def isDctL (b : D) (M : Sto) (kd : Nat → Bool) (no : Bool) : Bool := D.casesOn b no no (fun _ => no) (fun _ => no) (fun _ => no) (fun _ => no) (fun _ _ => no) (fun l => getC M l fun c => Cell.casesOn c (fun _ => no) (fun _ _ => kd l) (fun _ _ => no) (fun _ => no)) (fun _ => no) (fun _ => no) (fun _ => no) (fun _ => no)
theorem isDctL_t {b : D} {M : Sto} {kd : Nat → Bool} {no : Bool} (h : isDctL b M kd no = true) : (∃ l t kvs, b = .loc l ∧ l < M.n ∧ M.get l = some (.dct t kvs) ∧ kd l = true) ∨ no = true := by
  cases b with
  | loc l =>
    obtain ⟨c, h1, h2, h3⟩ := getC_t (show getC M l _ = true from h)
    cases c with
    | dct t kvs => exact .inl ⟨l, t, kvs, rfl, h1, h2, h3⟩
    | _ => exact .inr h3
  | _ => exact .inr h
def gInD (neg : Bool) (old : G2) : G2 := fun a b M f => isDctL b M (fun l => fixT M l a fun M' => dgetK M' l a (fun _ => f (.bl (Bool.rec true false neg)) M') (f (.bl neg) M')) (old a b M f)
section
variable {T : Tb} {r : Nat}
/-- an empty dict that is asked for a tuple is one of tuples from now on, whatever is asked -/
theorem fixT_ok {W : Wd} {M : Sto} {l : Nat} {a : D} {k : Sto → Bool} (m : MR T W M) (hl : l < W.n) (h : fixT M l a k = true) :
    (k M = true) ∨ ∃ W' M', Le W W' ∧ MR T W' M' ∧ W'.n = W.n ∧ W'.ρ = W.ρ ∧ k M' = true ∧ ∀ {X : Cx} {pins : List (Addr × Obj)} {σ : L2.St} {s : Shared}, Inv X pins σ W.H s → Inv X pins σ W'.H s := by
  obtain ⟨c, _, e, h2⟩ := getC_t h
  cases c with
  | dct t kvs =>
    cases t with
    | true => exact .inl h2
    | false =>
      have h3 : (Bool.rec (k M) (Bool.rec (k M) (setC M l (.dct true []) k) (emptyB kvs)) (isKeyTB a) : Bool) = true := h2
      cases ht : isKeyTB a with
      | false => rw [ht] at h3; exact .inl h3
      | true =>
        rw [ht] at h3
        cases he : emptyB kvs with
        | false => rw [he] at h3; exact .inl h3
        | true =>
          rw [he] at h3
          have := emptyB_t he
          subst this
          obtain ⟨u0, hu, q⟩ := m.cell l _ hl e
          cases u0 <;> first | exact False.elim q | skip
          cases q
          have le : Le W ⟨W.n, W.ρ, upd W.H (W.ρ l) (.dT [])⟩ := Le.write hu (fun _ z => nomatch z) (fun _ _ z => nomatch z)
          have m' : MR T ⟨W.n, W.ρ, upd W.H (W.ρ l) (.dT [])⟩ (M.set l (.dct true [])) := m.write hl hu (fun _ z => nomatch z) (fun _ _ z => nomatch z) ⟨_, upd_same, .nil⟩
          exact .inr ⟨_, _, le, m', rfl, rfl, setC_t h3, fun I => retype I hu⟩
  | lst _ => exact .inl h2
  | ins _ _ => exact .inl h2
  | lk _ => exact .inl h2
theorem inD_ok (neg : Bool) {old : G2} (ho : Op2 T r (compareOp (Bool.rec .In .NotIn neg)) old) : Op2 T r (compareOp (Bool.rec .In .NotIn neg)) (gInD neg old) := by
  intro X Wx hX W a b x y M k Q m ra rb h hQ
  rcases isDctL_t h with ⟨l, t, kvs, rfl, hl, hc, h1⟩ | h1
  · obtain ⟨hlW, rfl⟩ := rb.loc_at
    have go : ∀ (W' : Wd) (M' : Sto), Le W W' → MR T W' M' → W'.ρ l = W.ρ l → dgetK M' l a (fun _ => k (.bl (Bool.rec true false neg)) M') (k (.bl neg) M') = true → rS X (compareOp (Bool.rec .In .NotIn neg)) x (.ref (W.ρ l)) W'.H Q := by
      intro W' M' le m' er h2
      obtain ⟨_, h3⟩ := m'.dget (ra.mono le) h2
      rw [er] at h3
      intro pins s σ v u I rx ry
      cases ry
      cases neg with
      | false =>
        rcases h3 with ⟨d, z, g, _, h4⟩ | ⟨g, h4⟩
        · exact d_in hX.u1 I g rx fun s' I' => ⟨.bl true, _, I', rfl, (hQ.mono le).here m' (.bl true) h4⟩
        · exact d_in hX.u1 I g rx fun s' I' => ⟨.bl false, _, I', rfl, (hQ.mono le).here m' (.bl false) h4⟩
      | true =>
        rcases h3 with ⟨d, z, g, _, h4⟩ | ⟨g, h4⟩
        · exact d_notIn hX.u1 I g rx fun s' I' => ⟨.bl false, _, I', rfl, (hQ.mono le).here m' (.bl false) h4⟩
        · exact d_notIn hX.u1 I g rx fun s' I' => ⟨.bl true, _, I', rfl, (hQ.mono le).here m' (.bl true) h4⟩
    rcases fixT_ok m hlW h1 with h2 | ⟨W', M', le, m', _, er, h2, inv⟩
    · exact go W M (Le.refl _) m rfl h2
    · have g := go W' M' le m' (by rw [er]) h2
      intro pins s σ v u I rx ry
      exact g pins s σ v u (inv I) rx ry
  · exact ho X Wx hX W a b x y M k Q m ra rb h1 hQ
/-! ### tuple(d) -/
abbrev KP (H : Hp) (kvs : List (List Key × V)) (zs : List V) : Prop := Paired (fun p z => ∃ b, z = V.ref b ∧ H b = some (.tup (p.1.map kV))) kvs zs
def rTupD : List V → Hp → VK → Prop := fun vs H Q => ∃ (d : Addr) (kvs : List (List Key × V)), vs = [.ref d] ∧ Rd H d (.dT kvs) ∧ kvs.length ≤ 16000000 ∧ ∀ zs p, KP H kvs zs → H p = none → Q (.ref p) (upd H p (.tup zs))
theorem keysP_of {H : Hp} {kvs : List (List Key × V)} {xs : List (List Key × Addr × Value)} (r : L2.KT H kvs xs) : ∃ zs, KP H kvs zs ∧ zs = xs.map fun x => V.ref x.2.1 := by
  induction r with
  | nil => exact ⟨[], Paired.nil, rfl⟩
  | @cons a b _ _ h t ih =>
    obtain ⟨zs, h1, h2⟩ := ih
    exact ⟨V.ref b.2.1 :: zs, Paired.cons ⟨_, rfl, h.2.1⟩ h1, by rw [h2]; rfl⟩
theorem vals_refs : ∀ {l : List V}, (∀ z ∈ l, ∃ a, z = V.ref a) → Vals l (l.map unV)
  | [], _ => .nil
  | z :: r, h => by
    obtain ⟨a, rfl⟩ := h z List.mem_cons_self
    exact .cons rfl (vals_refs fun y hy => h y (List.mem_cons_of_mem _ hy))
theorem cr_tupD {X : Cx} (hc : X.calm = true) : CallR X (.type "tuple") rTupD := by
  intro pins s σ H vs us Q I rv h
  obtain ⟨d, kvs, rfl, hd, hn, q⟩ := h
  rw [Vals.ref1 rv]
  obtain ⟨z, hs, ks, pr, o, es, ep, ho, hx, hdt, he, hnn⟩ := (show ObjOk X.prog X.w H s.heap d (.dT kvs) from hd.ok I.hok)
  have l1 : es.size = ks.length := size_of_entries he
  have l2 : kvs.length = ks.length := Paired.length pr
  obtain ⟨zs, hz, hzf⟩ := keysP_of pr
  have hTd : s.TypeIs (.ref d) "dict" := ⟨o, ho, hx.1⟩
  refine callType_codes (Q₁ := fun obj s₁ => s₁.TypeIs obj "tuple" ∧ EP X pins σ Q obj s₁) F.called_tuple (F.typeCall_tuple_1 _) F.entry_object_init ?_ fun obj s₁ h₁ =>
    ⟨h₁.1, F.args_object_init_2 obj _, object_init_meets F.called_tuple.init.lookup F.called_tuple.made (by decide) X.prog X.w X.A.in1 _ s₁ ⟨h₁.1, rfl, h₁.2⟩⟩
  refine codeAny_of_tree ?_
  show wpAny _ X.A.in1.in1 (do checkBuiltinCall "tuple.__new__" ⟨[.type "tuple", .ref d], []⟩; again (.builtin "tuple.__new__" ⟨[.type "tuple", .ref d], []⟩)) _ _ s
  refine wpAny_bind (wpAny_of_eq (F.newCall_tuple_1 _) (wpAny_pure ⟨plainId_quiet F.plain_tuple_new _, codeAny_builtin F.entry_tuple_new ?_⟩))
  rw [Around.under_plainId F.plain_tuple_new _]
  have n1 := sub_tuple_self
  have n2 := init_tuple_lookup
  have n3 := madeHere_tuple
  have hcol : ∀ {R : List Value → Shared → Prop} {E : Value → Shared → Prop}, (∀ (h' : Heap) (tk : Nat) (acc : Array Value), (∀ b o, s.heap.get? b = some o → h'.get? b = some o) → PySem.ItemsOf (fun j v => ∃ en, es[j]? = some en ∧ v = en.key) acc es.size → R acc.toList { s with heap := h', toks := tk }) → wpAny (model X.prog X.w) X.A.in1.in1 (collect (.ref d)) R E s :=
    fun {R E} h => PySem.W.kdu_collect (A := X.A.in1.in1) (kdl_raw hs hx hdt) (I.ok.hd hc) ho (by omega) fun h' tk acc' hk it => h h' tk acc' hk it
  wp_walk using wpAny_typeOf hTd, hcol
  intro h' tk acc hk it
  have el : acc.toList = zs.map unV := by
    rw [hzf, List.map_map]
    apply List.ext_getElem?
    intro j
    have hl : acc.toList.length = ks.length := by rw [Array.length_toList, it.1]; exact l1
    rw [List.getElem?_map]
    cases hj : acc.toList[j]? with
    | none =>
      have h1 := List.getElem?_eq_none_iff.mp hj
      rw [List.getElem?_eq_none (by omega)]; rfl
    | some v =>
      obtain ⟨en, hen, hv⟩ := it.2 j v (by rw [← Array.getElem?_toList]; exact hj)
      have qe := entry_at he j
      rw [hen] at qe
      cases hb : ks[j]? with
      | none => rw [hb] at qe; cases qe
      | some b =>
        rw [hb] at qe
        have e2 : en = entryOfKey (tupleKind (mixKind X.prog X.w)) b := Option.some.inj qe
        rw [hv, e2]; rfl
  have hzl : zs.length ≤ 16000000 := by rw [← Paired.length hz]; exact hn
  have rv2 : Vals zs acc.toList := by
    rw [el]
    exact vals_refs fun y hy => by
      have : ∀ {kvs : List (List Key × V)} {zs : List V}, KP H kvs zs → ∀ y ∈ zs, ∃ b, y = V.ref b := by
        intro kvs zs hp
        induction hp with
        | nil => exact fun y hy => (nomatch hy)
        | cons a b ih =>
          intro y hy
          rcases List.mem_cons.mp hy with rfl | hy
          · obtain ⟨c, e, _⟩ := a; exact ⟨c, e⟩
          · exact ih y hy
      exact this hz y hy
  have hsz : acc.toList.length ≤ sizeLine := by rw [el, List.length_map, show sizeLine = 16777216 from sizeLine_eq]; omega
  have I1 : Inv X pins σ H { s with heap := h', toks := tk } := I.kept hk
  show wpAny _ _ (Builtin.Tuple.tupleExact acc.toList.toArray >>= fun v => ret v) _ _ _
  unfold Builtin.Tuple.tupleExact
  refine wpAny_bind (wpAny_newObj_type ?_ (by show acc.toList.toArray.size ≤ sizeLine; rw [List.size_toArray]; exact hsz))
  refine wpAny_pure ⟨⟨_, Heap.get?_push_size _ rfl, rfl⟩, .ref h'.objs.size, upd H h'.objs.size (.tup zs), ?_, rfl, q zs _ hz (I1.hok.fresh (Nat.le_refl _))⟩
  exact I1.laid (t' := tk) (fun b u e => Heap.get?_push_of_some _ e) (Nat.le_refl _) (show ObjOk X.prog X.w _ _ _ (.tup zs) from ⟨by rw [show sizeLine = 16777216 from sizeLine_eq]; omega, acc.toList, rv2, ⟨_, Heap.get?_push_size _ rfl, rfl, ⟨_, rfl⟩⟩⟩)
theorem keyDs_vrs {W : Wd} : ∀ {ds : List D} {ks : List Key}, keyDs ds = some ks → VRs T W ds (ks.map kV)
  | [], ks, h => by cases h; exact .nil
  | d :: r, ks, h => by
    unfold keyDs at h
    split at h
    · rename_i k l h1 h2
      cases h
      refine .cons ?_ (keyDs_vrs h2)
      cases d <;> first | (cases h1; done) | skip
      · cases h1; exact .int _
      · cases h1; exact .str _
    · cases h
theorem keyT_vr {W : Wd} {d : D} {ks : List Key} {z : V} (h : keyT d = some ks) (hz : ∃ b, z = V.ref b ∧ W.H b = some (.tup (ks.map kV))) : VR T W d z := by
  obtain ⟨b, rfl, e⟩ := hz
  cases d <;> first | (cases h; done) | skip
  rename_i k ds
  cases k <;> first | (cases h; done) | skip
  exact .tup e (keyDs_vrs h)
theorem keys_vrs {W : Wd} : ∀ {kvs : List (D × D)} {ks : List (List Key × V)} {zs : List V}, TR T W kvs ks → KP W.H ks zs → VRs T W (kvs.map Prod.fst) zs
  | _, _, _, .nil, .nil => .nil
  | _, _, _, .cons a b, .cons c d => .cons (keyT_vr a.1 c) (keys_vrs b d)
def keysK (kvs : List (D × D)) (k : List D → Bool) : Bool := (List.rec (fun k => k []) (fun p _ ih k => ih fun r => k (p.1 :: r)) kvs : (List D → Bool) → Bool) k
theorem keysK_eq : ∀ (kvs : List (D × D)) (k), keysK kvs k = k (kvs.map Prod.fst)
  | [], _ => rfl
  | p :: r, k => keysK_eq r (fun l => k (p.1 :: l))
def gTupD : GC := fun ds M f => arg1 ds fun d => isDctL d M (fun l => dctC M l fun t kvs => Bool.rec false (keysK kvs fun ks => lenK ks fun n => chk (Nat.ble n 16000000) (f (.tup false ks) M)) t) (gTupOf ds M f)
theorem tupD_ok : OpC T r (.type "tuple") gTupD := by
  intro X Wx hX W ds vs M k Q m rs h hQ
  obtain ⟨d, rfl, h1⟩ := arg1_t h
  rcases isDctL_t h1 with ⟨l, t, kvs, rfl, hl, hc, h2⟩ | h2
  · obtain ⟨v, rfl, rv⟩ := rs.one
    obtain ⟨hlW, rfl⟩ := rv.loc_at
    obtain ⟨t', kvs', _, h3, q⟩ := m.dctR h2
    cases t' with
    | false => cases h3
    | true =>
      have h4 : keysK kvs' (fun ks => lenK ks fun n => chk (Nat.ble n 16000000) (k (.tup false ks) M)) = true := h3
      rw [keysK_eq, lenK_eq] at h4
      obtain ⟨h5, h6⟩ := chk_t h4
      rcases q with ⟨z, _⟩ | ⟨_, ks, e, tr⟩
      · cases z
      · have hlen : ks.length ≤ 16000000 := by
          have := Nat.le_of_ble_eq_true h5
          rw [List.length_map, Paired.length tr] at this
          exact this
        exact CaS_of (cr_tupD hX.calm) ⟨_, ks, rfl, e, hlen, fun zs p hz hp => hQ.tup m (keys_vrs tr hz) h6 p hp⟩
  · exact tupOf_ok X Wx hX W [d] vs M k Q m rs h2 hQ
end
end Z
end
set_option Elab.async false
set_option autoImplicit false
set_option linter.all false
set_option maxRecDepth 100000
set_option maxHeartbeats 2000000
/-! ZLk: the pairs of a dict that is held fast while it is walked. -/
noncomputable section
namespace Z
open PySem PySem.Spec PyProof.Rows L2
def kvAt (l : List (D × D)) : Nat → (D → D → Bool) → Bool → Bool := List.rec (fun i _ no => Nat.rec no (fun _ _ => false) i) (fun p _ ih i k no => Nat.rec (Prod.casesOn p fun x y => k x y) (fun m _ => ih m k no) i) l
theorem kvAt_t : ∀ {l : List (D × D)} {i : Nat} {k : D → D → Bool} {no : Bool}, kvAt l i k no = true → (l.length = i ∧ no = true) ∨ ∃ x y, l[i]? = some (x, y) ∧ k x y = true
  | [], 0, _, _, h => .inl ⟨rfl, h⟩
  | [], _ + 1, _, _, h => by cases h
  | (x, y) :: _, 0, _, _, h => .inr ⟨x, y, rfl, h⟩
  | _ :: r, i + 1, k, no, h => by
    rcases kvAt_t (l := r) (i := i) h with ⟨e, q⟩ | ⟨x, y, e, q⟩
    · exact .inl ⟨by rw [List.length_cons, e], q⟩
    · exact .inr ⟨x, y, by simpa using e, q⟩
def itmJ (kvs : List (D × D)) : JD := fun i M k no => kvAt kvs i (fun x y => k (.tup false [x, y]) M) no
/-- a plain dict's pairs -/
def dctK (c : Cell) (f : List (D × D) → Bool) : Bool := Cell.casesOn c (fun _ => false) (fun t kvs => Bool.rec (f kvs) false t) (fun _ _ => false) (fun _ => false)
def lkdK (c : Cell) (f : List (D × D) → Bool) : Bool := Cell.casesOn c (fun _ => false) (fun _ _ => false) (fun _ _ => false) (fun c => dctK c f)
theorem dctK_t {c : Cell} {f} (h : dctK c f = true) : ∃ kvs, c = .dct false kvs ∧ f kvs = true := by
  cases c with
  | dct t kvs => cases t <;> first | exact ⟨kvs, rfl, h⟩ | cases h
  | _ => cases h
theorem lkdK_t {c : Cell} {f} (h : lkdK c f = true) : ∃ kvs, c = .lk (.dct false kvs) ∧ f kvs = true := by
  cases c with
  | lk c => obtain ⟨kvs, rfl, h1⟩ := dctK_t h; exact ⟨kvs, rfl, h1⟩
  | _ => cases h
section
variable {T : Tb} {r : Nat} {X : Cx} {Wx : WX} {W : Wd}
theorem keyD_vr {d : D} {k : Key} (h : keyD d = some k) : VR T W d (kV k) := by
  cases d <;> cases h <;> first | exact .int _ | exact .str _
theorem kr_get : ∀ {l : List (D × D)} {m : List (Key × V)} {i : Nat} {x y : D} {k : Key} {v : V}, KR T W l m → l[i]? = some (x, y) → m[i]? = some (k, v) → keyD x = some k ∧ VR T W y v
  | _, _, _, _, _, _, _, .nil, e, _ => by simp at e
  | _, _, 0, _, _, _, _, .cons h _, e, e2 => by simp at e e2; subst e e2; exact h
  | _, _, i + 1, _, _, _, _, .cons _ t, e, e2 => kr_get (i := i) t (by simpa using e) (by simpa using e2)
theorem jr_itm {d : Addr} {o : Obj} {kvs : List (D × D)} {ks : List (Key × V)} (hd : W.H d = some (.frz o (.dK ks))) (q : KR T W kvs ks) : JR T W (itmJ kvs) (Iti d o ks) := by
  intro W' M' i k no le m h
  have hd' := le.frz _ _ _ hd
  have hl : kvs.length = ks.length := Paired.length q
  rcases kvAt_t h with ⟨e, q1⟩ | ⟨x, y, e, q1⟩
  · exact .inl ⟨⟨hd', by rw [← hl, e]; exact Nat.le_refl _⟩, q1⟩
  · have hi : i < ks.length := by rw [← hl]; exact (List.getElem?_eq_some_iff.mp e).1
    refine .inr ⟨⟨hd', hi⟩, fun u H' z => ?_⟩
    obtain ⟨p, kk, v, e2, rfl, hp, rfl⟩ := z
    obtain ⟨r1, r2⟩ := kr_get q e e2
    have g := grows (o := .tup [kV kk, v]) hp
    have l2 := Le.ext (W := W') g
    exact ⟨⟨W'.n, W'.ρ, upd W'.H p (.tup [kV kk, v])⟩, _, M', l2, rfl, m.ext g, .tup (xs := [kV kk, v]) upd_same (.cons (keyD_vr r1) (.cons ((r2.mono le).mono l2) .nil)), q1⟩
end
section
variable {S : St8} {ci : CI} {pos : Pos}
def cItm (a : CE) : CIt := fun ev σ M k kx => a ev σ M (fun x M => isLoc x fun l => getC M l fun c => lkdK c fun kvs => k (itmJ kvs) M) kx
theorem si_itm {elts : List Expr} {kk : Nat} {tpos : Pos} {e : Expr} {a : CE} {apos : Pos} (ha : SE S ci e a) (hb : notCall e = true) (hline : (apos.endLine == pos.line) = true) : SI S ci (.Tuple elts kk tpos) (.Call (.Attribute e "items" apos) [] [] pos) (cItm a) := by
  intro X Wx hX hC W σd σ M k kx R s m h hR hx
  refine tofI (pi_items pe_tof (base_of hb _ _ _) hline) (ha X Wx hX hC W σd σ M _ kx _ s m h (fun W1 x v M1 l1 m1 r1 h1 => ?_) hx)
  obtain ⟨l, rfl, h2⟩ := isLoc_t h1
  obtain ⟨c, hl, hc, h3⟩ := getC_t h2
  obtain ⟨kvs, rfl, h4⟩ := lkdK_t h3
  obtain ⟨hlt, rfl⟩ := r1.loc_at
  obtain ⟨o, u, e1, hr, _⟩ := m1.cell l _ hlt hc
  cases u with
  | dK ks => exact ⟨_, o, ks, rfl, e1, hR W1 _ _ M1 l1 m1 (jr_itm e1 hr) h4⟩
  | _ => exact False.elim hr
/-- the dict in the slot i held fast -/
def cLock (i : Nat) (a : CE) : CE := fun ev σ M k kx => nthK σ i fun d => isLoc d fun l => getC M l fun c => dctK c fun kvs => setC M l (.lk (.dct false kvs)) fun M1 =>
  a ev σ M1 (fun v M2 => getC M2 l fun c => lkdK c fun kvs2 => setC M2 l (.dct false kvs2) fun M3 => k v M3) kx0
theorem se_lock {e : Expr} {a : CE} {i : Nat} (ha : SE S ci e a) : SE S ci e (cLock i a) := by
  intro X Wx hX hC W σd σ M k kx Q s m h hQ hx
  obtain ⟨d, hd, h1⟩ := nthK_t h
  obtain ⟨l, rfl, h2⟩ := isLoc_t h1
  obtain ⟨c, hln, hc, h3⟩ := getC_t h2
  obtain ⟨kvs, rfl, h4⟩ := dctK_t h3
  have h5 := setC_t h4
  have hl : l < W.n := by rw [← m.n]; exact hln
  obtain ⟨u, hu, hr⟩ := m.cell l _ hl hc
  cases u with
  | dK ks =>
    refine tofE (pe_lock pe_tof) ⟨W.ρ l, .dK ks, hu, trivial, fun od => ?_⟩
    have le1 : Le W ⟨W.n, W.ρ, upd W.H (W.ρ l) (.frz od (.dK ks))⟩ := Le.write hu (fun _ z => nomatch z) (fun _ _ z => nomatch z)
    have m1 : MR S.T ⟨W.n, W.ρ, upd W.H (W.ρ l) (.frz od (.dK ks))⟩ (M.set l (.lk (.dct false kvs))) :=
      m.write hl hu (fun _ z => nomatch z) (fun _ _ z => nomatch z) ⟨od, .dK ks, upd_same, KR.mono le1 hr, fun _ z => nomatch z⟩
    refine ha X Wx hX hC _ σd σ _ _ kx0 _ (s.mono le1) m1 h5 (fun W2 v x M2 l2 m2 r2 h6 => ?_) PX.zero
    obtain ⟨c2, hl2, hc2, h7⟩ := getC_t h6
    obtain ⟨kvs2, rfl, h8⟩ := lkdK_t h7
    have h9 := setC_t h8
    have e2 : W2.H (W.ρ l) = some (.frz od (.dK ks)) := l2.frz _ _ _ upd_same
    have eρ : W2.ρ l = W.ρ l := l2.ρ l hl
    have hl2' : l < W2.n := by rw [← m2.n]; exact hl2
    obtain ⟨o', u', e3, hr2, _⟩ := m2.cell l _ hl2' hc2
    rw [eρ, e2] at e3
    cases e3
    refine ⟨e2, ?_⟩
    have ne : ∀ a u, W2.H a = some u → u ≠ .frz od (.dK ks) → upd W2.H (W2.ρ l) (.dK ks) a = some u := fun a u q n => by
      rw [eρ, upd_ne (fun z => by rw [z, e2] at q; exact n (Option.some.inj q).symm)]; exact q
    have lw : LeW W2 ⟨W2.n, W2.ρ, upd W2.H (W2.ρ l) (.dK ks)⟩ := ⟨Nat.le_refl _, fun _ _ => rfl, fun a xs q => ne a _ q (fun z => nomatch z), fun a o xs q => ne a _ q (fun z => by cases z)⟩
    have e2' : W2.H (W2.ρ l) = some (.frz od (.dK ks)) := by rw [eρ]; exact e2
    have m3 : MR S.T ⟨W2.n, W2.ρ, upd W2.H (W2.ρ l) (.dK ks)⟩ (M2.set l (.dct false kvs2)) :=
      m2.writeW hl2' lw ⟨.dK ks, upd_same, KR.monoW lw hr2⟩ (tabs_write m2.tabs e2' rfl)
    have le3 : Le W ⟨W2.n, W2.ρ, upd W2.H (W2.ρ l) (.dK ks)⟩ := by
      refine ⟨l2.n, l2.ρ, fun a xs q => ne a _ (l2.tup _ _ (le1.tup _ _ q)) (fun z => nomatch z), fun a o x q => ?_⟩
      have na : a ≠ W.ρ l := fun z => by rw [z, hu] at q; cases q
      show upd W2.H (W2.ρ l) (.dK ks) a = _
      rw [eρ, upd_ne na]
      exact l2.frz _ _ _ (le1.frz _ _ _ q)
    have := hQ _ v x _ le3 m3 (r2.monoW lw) h9
    rw [eρ] at this
    exact this
  | _ => exact False.elim hr
end
end Z
end
set_option Elab.async false
set_option autoImplicit false
set_option linter.all false
set_option maxRecDepth 100000
set_option maxHeartbeats 2000000
/-! Z12: the compiler is right. -/
noncomputable section
namespace Z
open PySem PySem.Spec PyProof.Rows L2
def g0 : G2 := fun _ _ _ _ => false
def gc0 : GC := fun _ _ _ => false
/-- x in the list (the tuple) b; ints alone -/
def inI (i : Int) (is : List Int) (k : Bool → Bool) : Bool := List.rec (k false) (fun j _ ih => Bool.rec ih (k true) (ieq j i)) is
def gIn (neg : Bool) : G2 := fun a b M f => isInt a fun i => seqS b M fun ds => intsK ds fun is => inI i is fun z => f (.bl (Bool.rec z (Bool.rec true false z) neg)) M
def bkG : BK → G2
  | .add => gAdd | .sub => gSub | .mul => gMul | .div => gDiv | .mod => gMod | .pow => gPow | .eq => gEq | .ne => gNe | .lt => gLt | .le => gLe | .gt => gGt | .ge => gGe | .is => gIs | .isn => gIsNot
  | .iadd => gIAdd | .isub => gISub | .imul => gIMul | .idiv => gIDiv | .imod => gMod | .inn => gInD false (gIn false) | .nin => gInD true (gIn true)
def fkG : FK → GC
  | .len => gLen | .isi => gIsi | .sum => gSum | .any => gAny | .all => gAll | .abs => gAbs | .max => gMax | .min => gMin | .gcd => gGcd | .int => gInt | .tup => gTupD | .lst => gLstOf | .sorted => gSorted
def mkG : MK → GM
  | .append => gAppend | .extend => gExtend | .pop => gPop | .get => gGet
def mkT : MK → GT
  | .append => isLstT | .extend => isLstT | .pop => isLstT | .get => isDctT
def cInt (i : Int) : CE := fun _ _ M k _ => frI i fun z => k (.int z) M
def sh : Alg where
  E := CE
  A := CA
  B := CB
  I := CIt
  G := CG
  Gs := CGs
  C := CC
  S := CS
  O := CO
  eVar := cVar
  eLit := cLit
  eInt := cInt
  eStr l := cLit (.str l)
  eBin b := cBin (bkG b)
  eChain b b' := cChain (bkG b) (bkG b')
  eNot := cNotV
  eNeg := cNeg
  eAnd := cAndV
  eOr := cOrV
  eIf := cIf
  eTup := cTup
  eLst := cLst
  eIx := cBin gIx
  eSl := cSl
  oNo := cNo
  oPart := cPart
  eCall := cCallN
  eCallV := cCallV
  eTold := cTold
  eRepr := cBlt gRepr
  eBlt f := cBlt (fkG f)
  eMeth m := cMeth (mkT m) (mkG m)
  eRev := cRev
  eDict0 := cDict0
  eLc := cLc
  eLock := cLock
  aNil := cNil
  aCons := cCons
  bTst := cTst
  bTru := cTru
  bNot := cNotT
  bAnd := cAndT
  bOr := cOrT
  bYes := cYes
  iIter := cIter
  iR1 := cRng1
  iR2 := cRng2
  iEnm := cEnm
  iZip := cZip
  iItm := cItm
  gName := cGName
  gTup := cGTup
  gSub := cGSub
  gsNil := cGNil
  gsCons := cGCons
  cEmit := cEmit
  cLvl := cLvl
  sNext := cNext
  sBrk := cBreak
  sCont := cCont
  sNever := cNever
  sRaise := cRaise
  sRetN := cRetN
  sSeq := cSeq
  sDrop := cDrop
  sRet := cRet
  sIf := cIfS
  sAsg := cAsg
  sPar := cPar
  sPar3 := cPar3
  sAug i a b := cAug i a (bkG b)
  sFor := cFor
  sWhile := cWhile

section
variable {T : Tb} {r : Nat}
theorem inI_eq (i : Int) (is : List Int) (k) : inI i is k = k (is.any fun j => decide (j = i)) := by
  induction is with
  | nil => rfl
  | cons j r ih =>
    show (Bool.rec (inI i r k) (k true) (ieq j i) : Bool) = _
    rw [ieq_eq, List.any_cons]
    by_cases h : j = i
    · rw [decide_eq_true h]; rfl
    · rw [decide_eq_false h, Bool.false_or, ← ih]
theorem inV_ints (i : Int) (is : List Int) : inV (.int i) (is.map V.int) = is.any fun j => decide (j = i) := by
  unfold inV
  rw [List.any_map]
  congr 1
theorem in_ok : Op2 T r (compareOp .In) (gIn false) := by
  intro X Wx hX W a b x y M k Q m ra rb h hQ
  obtain ⟨i, rfl, h1⟩ := isInt_t h
  obtain ⟨p, xs, ds, rfl, hq, rs, h2⟩ := seqS_t hX m rb h1
  obtain ⟨is, rfl, h3⟩ := intsK_t h2
  rw [inI_eq] at h3
  cases ra
  cases rs.ints
  have hs : SqL X.K W.H p (is.map V.int) ∨ SqT X.K W.H p (is.map V.int) := by
    cases b <;> first | exact .inr hq | exact .inl hq
  refine rS_of op_in_seq ⟨p, _, rfl, hs, rfl, ?_, ?_⟩
  · rw [List.all_map]; exact List.all_eq_true.mpr fun _ _ => rfl
  · rw [inV_ints]; exact hQ.here m (.bl _) h3
theorem nin_ok : Op2 T r (compareOp .NotIn) (gIn true) := by
  intro X Wx hX W a b x y M k Q m ra rb h hQ
  obtain ⟨i, rfl, h1⟩ := isInt_t h
  obtain ⟨p, xs, ds, rfl, hq, rs, h2⟩ := seqS_t hX m rb h1
  obtain ⟨is, rfl, h3⟩ := intsK_t h2
  rw [inI_eq] at h3
  cases ra
  cases rs.ints
  have hs : SqL X.K W.H p (is.map V.int) ∨ SqT X.K W.H p (is.map V.int) := by
    cases b <;> first | exact .inr hq | exact .inl hq
  refine rS_of op_notIn_seq ⟨p, _, rfl, hs, rfl, ?_, ?_⟩
  · rw [List.all_map]; exact List.all_eq_true.mpr fun _ _ => rfl
  · show Q (.bl (!inV (.int i) (is.map V.int))) W.H
    rw [inV_ints, ← bnot_eq]; exact hQ.here m (.bl _) h3
theorem bkG_op {op : Operator} {b : BK} (h : opBK op = some b) : Op2 T r (binaryOp op) (bkG b) := by
  cases op <;> cases h
  · exact add_ok
  · exact sub_ok
  · exact mul_ok
  · exact mod_ok
  · exact pow_ok
  · exact div_ok
theorem bkG_ip {op : Operator} {b : BK} (h : ipBK op = some b) : Op2 T r (inplaceOp op) (bkG b) := by
  cases op <;> cases h
  · exact iadd_ok
  · exact isub_ok
  · exact imul_ok
  · exact imod_ok
  · exact idiv_ok
theorem bkG_cmp (op : CmpOp) : Op2 T r (compareOp op) (bkG (cmpBK op)) := by
  cases op
  · exact eq_ok
  · exact ne_ok
  · exact lt_ok
  · exact le_ok
  · exact gt_ok
  · exact ge_ok
  · exact is_ok
  · exact isNot_ok
  · exact inD_ok false in_ok
  · exact inD_ok true nin_ok
theorem gc0_ok {f : Value} : OpC T r f gc0 := fun _ _ _ _ _ _ _ _ _ _ _ h _ => by cases h
end
theorem fkOf_t {x : Str} {f : FK} : ∀ {l : List FK}, fkOf x l = some f → x = fkName f ∧ f ∈ l
  | [], h => by cases h
  | g :: r, h => by
    unfold fkOf at h
    split at h
    · rename_i q; cases h; exact ⟨sEq_t q, List.mem_cons_self⟩
    · obtain ⟨h1, h2⟩ := fkOf_t h; exact ⟨h1, List.mem_cons_of_mem _ h2⟩
theorem mkOf_t {x : Str} {f : MK} : ∀ {l : List MK}, mkOf x l = some f → x = mkName f
  | [], h => by cases h
  | g :: r, h => by
    unfold mkOf at h
    split at h
    · rename_i q; cases h; exact sEq_t q
    · exact mkOf_t h
theorem tyOf_t {x : Str} {f : TyN} : ∀ {l : List TyN}, tyOf x l = some f → x = tyName f
  | [], h => by cases h
  | g :: r, h => by
    unfold tyOf at h
    split at h
    · rename_i q; cases h; exact sEq_t q
    · exact tyOf_t h
theorem boot_ty (t : TyN) : bootBuiltins (tyName t) = some (.type (tyS t)) := by cases t <;> kernel_rfl
theorem ty_n (t : TyN) : tyName t ≠ "__name__" := by cases t <;> decide +kernel
section
variable {S : St8} {ci : CI} {pos : Pos}
/-- the built-in function's call -/
theorem se_fk {f : FK} (hf : f ∈ fkAll) {x : Str} {p : Pos} {e : Expr} {es : List Expr} {c : CA} (hx : x = fkName f) (ha : SA S ci (e :: es) c) (hs : ci.sc.names.lookup x = some .globalImplicit) (hm : S.T.mg x = none) (hd : (x == ("__debug__" : Str)) = false) (hst : notStars (e :: es) = true) :
    SE S ci (.Call (.Name x p) (e :: es) [] pos) (cBlt (fkG f) c) := by
  have hn : x ≠ "__name__" := by rw [hx]; cases f <;> decide +kernel
  subst hx
  cases f
  · exact se_bltF len_ok ha hs hm (by kernel_rfl) hn hd hst
  · exact se_bltF isi_ok ha hs hm (by kernel_rfl) hn hd hst
  · exact se_bltF sum_ok ha hs hm (by kernel_rfl) hn hd hst
  · exact se_bltF any_ok ha hs hm (by kernel_rfl) hn hd hst
  · exact se_bltF all_ok ha hs hm (by kernel_rfl) hn hd hst
  · exact se_bltF abs_ok ha hs hm (by kernel_rfl) hn hd hst
  · exact se_bltF max_ok ha hs hm (by kernel_rfl) hn hd hst
  · exact se_bltF min_ok ha hs hm (by kernel_rfl) hn hd hst
  · simp [fkAll] at hf
  · exact se_bltT int_ok ha hs hm (by kernel_rfl) hn hd hst
  · exact se_bltT tupD_ok ha hs hm (by kernel_rfl) hn hd hst
  · exact se_bltT lstOf_ok ha hs hm (by kernel_rfl) hn hd hst
  · exact se_bltF sorted_ok ha hs hm (by kernel_rfl) hn hd hst
theorem se_mk {m : MK} {x : Str} {o : Expr} {es : List Expr} {co : CE} {ca : CA} {apos : Pos} (hx : x = mkName m) (ho : SE S ci o co) (ha : SA S ci es ca) (hb : notCall o = true) (hst : notStars es = true) (hl : es.length < 30) (hline : (apos.endLine == pos.line) = true) (hc : es = [] → ca = cNil) :
    SE S ci (.Call (.Attribute o x apos) es [] pos) (cMeth (mkT m) (mkG m) co ca) := by
  subst hx
  cases es with
  | nil =>
    rw [hc rfl]
    cases m
    · exact se_meth0 F.plainAttrs_list F.slot_list_append F.type_list_append isLstT_ok append_ok ho hb hline
    · exact se_meth0 F.plainAttrs_list F.slot_list_extend F.type_list_extend isLstT_ok extend_ok ho hb hline
    · exact se_meth0 F.plainAttrs_list F.slot_list_pop F.type_list_pop isLstT_ok pop_ok ho hb hline
    · exact se_meth0 F.plainAttrs_dict F.slot_dict_get F.type_dict_get isDctT_ok get_ok ho hb hline
  | cons e es =>
    cases m
    · exact se_meth F.plainAttrs_list F.slot_list_append F.type_list_append isLstT_ok append_ok ho ha hb hst hl hline
    · exact se_meth F.plainAttrs_list F.slot_list_extend F.type_list_extend isLstT_ok extend_ok ho ha hb hst hl hline
    · exact se_meth F.plainAttrs_list F.slot_list_pop F.type_list_pop isLstT_ok pop_ok ho ha hb hst hl hline
    · exact se_meth F.plainAttrs_dict F.slot_dict_get F.type_dict_get isDctT_ok get_ok ho ha hb hst hl hline
theorem se_intc {i : Int} {j : Nat} : SE S ci (.Constant (.int i) j pos) (cInt i) := fun X Wx hX hC W σd σ M k kx Q s m h hQ hx => se_int (S := S) (ci := ci) X Wx hX hC W σd σ M k kx Q s m (by
  have h' : frI i (fun z => k (.int z) M) = true := h
  rw [frI_eq] at h'
  exact h') hQ hx
end
end Z
end
set_option Elab.async false
set_option autoImplicit false
set_option linter.all false
set_option maxRecDepth 100000
set_option maxHeartbeats 2000000
/-! Z13: the compiler is right: expressions. -/
noncomputable section
namespace Z
open PySem PySem.Spec PyProof.Rows L2
structure CmOk (S : St8) (c : Cm sh) : Prop where
  E : ∀ ci e r, CiOk S ci → c.E ci e = some r → SE S ci e r
  T : ∀ ci e r, CiOk S ci → c.T ci e = some r → STt S ci e r
  I : ∀ ci tg e r, CiOk S ci → c.I ci tg e = some r → SI S ci tg e r
  G : ∀ ci tg vs r, CiOk S ci → c.G ci tg = some (vs, r) → SG S ci tg vs r
section
variable {S : St8} {ci : CI} {pos : Pos} {c : Cm sh}
theorem cA_ok {E : Expr → Option sh.E} (hE : ∀ e r, E e = some r → SE S ci e r) : ∀ {es : List Expr} {r : CA}, cA E es = some r → SA S ci es r ∧ notStars es = true ∧ (es = [] → r = cNil)
  | [], r, h => by cases h; exact ⟨sa_nil, rfl, fun _ => rfl⟩
  | e :: es, r, h => by
    unfold cA at h
    split at h
    · rename_i a b h1 h2 h3
      cases h
      obtain ⟨q1, q2, _⟩ := cA_ok hE h3
      exact ⟨sa_cons (hE _ _ h2) q1 h1, by show (notStar e && notStars es) = true; rw [h1, q2]; rfl, fun z => nomatch z⟩
    · cases h
theorem cBE_and {E : Expr → Option sh.E} (hE : ∀ e r, E e = some r → SE S ci e r) : ∀ {es : List Expr} {r : CE}, cBE E sh.eAnd es = some r → SE S ci (.BoolOp .And es pos) r
  | [], r, h => by cases h
  | [e], r, h => se_one (hE _ _ h)
  | e :: e2 :: es, r, h => by
    unfold cBE at h
    simp only at h
    split at h
    · rename_i a b h1 h2
      cases h
      exact se_and (hE _ _ h1) (cBE_and hE h2)
    · cases h
theorem cBE_or {E : Expr → Option sh.E} (hE : ∀ e r, E e = some r → SE S ci e r) : ∀ {es : List Expr} {r : CE}, cBE E sh.eOr es = some r → SE S ci (.BoolOp .Or es pos) r
  | [], r, h => by cases h
  | [e], r, h => se_one (hE _ _ h)
  | e :: e2 :: es, r, h => by
    unfold cBE at h
    simp only at h
    split at h
    · rename_i a b h1 h2
      cases h
      exact se_or (hE _ _ h1) (cBE_or hE h2)
    · cases h
theorem cBT_and {T : Expr → Option sh.B} (hT : ∀ e r, T e = some r → STt S ci e r) : ∀ {es : List Expr} {r : CB}, cBT T sh.bAnd es = some r → STw S ci (.BoolOp .And es pos) r
  | [], r, h => by cases h
  | [e], r, h => sw_and1 (hT _ _ h)
  | e :: e2 :: es, r, h => by
    unfold cBT at h
    simp only at h
    split at h
    · rename_i a b h1 h2
      cases h
      exact sw_and (hT _ _ h1) (cBT_and hT h2)
    · cases h
theorem cBT_or {T : Expr → Option sh.B} (hT : ∀ e r, T e = some r → STt S ci e r) : ∀ {es : List Expr} {r : CB}, cBT T sh.bOr es = some r → STw S ci (.BoolOp .Or es pos) r
  | [], r, h => by cases h
  | [e], r, h => sw_or1 (hT _ _ h)
  | e :: e2 :: es, r, h => by
    unfold cBT at h
    simp only at h
    split at h
    · rename_i a b h1 h2
      cases h
      exact sw_or (hT _ _ h1) (cBT_or hT h2)
    · cases h
theorem cGs_ok {G : Expr → Option (List Nat × sh.G)} (hG : ∀ e vs r, G e = some (vs, r) → SG S ci e vs r) : ∀ {es : List Expr} {vs : List Nat} {r : CGs}, cGs G es = some (vs, r) → SGs S ci es vs r ∧ notStars es = true
  | [], vs, r, h => by cases h; exact ⟨sgs_nil, rfl⟩
  | e :: es, vs, r, h => by
    unfold cGs at h
    split at h
    · rename_i v a w b h1 h2 h3
      cases h
      obtain ⟨q1, q2⟩ := cGs_ok hG h3
      exact ⟨sgs_cons ((hG _ _ _ h2).sub fun i hi => List.mem_append_left _ hi) (q1.sub fun i hi => List.mem_append_right _ hi) h1, by show (notStar e && notStars es) = true; rw [h1, q2]; rfl⟩
    · cases h
theorem cTests_ok {T : Expr → Option sh.B} (hT : ∀ e r, T e = some r → STt S ci e r) : ∀ {es : List Expr} {r : CB}, cTests T es = some r → SPt S ci es r
  | [], r, h => by cases h; exact spt_nil
  | [e], r, h => spt_one (hT _ _ h)
  | _ :: _ :: _, r, h => by cases h
theorem isZ_t {i : Int} (h : isZ i = true) : i = 0 := by
  unfold isZ at h
  split at h <;> first | rfl | cases h
theorem cCls_ok (hc : CmOk S c) (hg : CiOk S ci) {elt : Expr} {scope : Scope} : ∀ {rest pre : List Comprehension} {ws : List Nat} {r : CC} {g0 : Comprehension}, cCls c ci elt rest = some (ws, r) →
    SAct S ci elt (pre ++ g0 :: rest) scope pos pre.length ws r ∧ ∀ g', rest[0]? = some g' → g'.is_async = 0 ∧ notSet g'.iter = true
  | [], pre, ws, r, g0, h => by
    unfold cCls at h
    split at h
    · rename_i e he
      cases h
      exact ⟨sact_emit (hc.E _ _ _ hg he) (by simp), fun g' z => by cases z⟩
    · cases h
  | ⟨tg, iter, ifs, a⟩ :: rest, pre, ws, r, g0, h => by
    unfold cCls at h
    split at h
    · rename_i ic vs g t ws' n h1 h2 h3 h4 h5 h6
      cases h
      have := isZ_t h1
      subst this
      obtain ⟨q1, q2⟩ := cCls_ok hc hg (scope := scope) (pre := pre ++ [g0]) (g0 := ⟨tg, iter, ifs, 0⟩) h6
      have e : pre ++ [g0] ++ ⟨tg, iter, ifs, 0⟩ :: rest = pre ++ g0 :: ⟨tg, iter, ifs, 0⟩ :: rest := by simp
      rw [e, List.length_append, List.length_singleton] at q1
      refine ⟨sact_lvl (by simp) (fun g' z => q2 g' ?_) (hc.I _ _ _ _ hg h3) (hc.G _ _ _ _ hg h4) (cTests_ok (fun e r => hc.T _ e r hg) h5) q1, fun g' z => ?_⟩
      · have e2 : (pre ++ g0 :: ⟨tg, iter, ifs, 0⟩ :: rest)[pre.length + 2]? = rest[0]? := by
          rw [List.getElem?_append_right (by omega)]
          have : pre.length + 2 - pre.length = 2 := by omega
          rw [this]
          simp
        rw [e2] at z
        exact z
      · simp at z
        subst z
        exact ⟨rfl, h2⟩
    · cases h
theorem isKind_t {k : NameKind} {o : Option NameKind} (h : isKind k o = true) : o = some k := by
  unfold isKind at h
  split at h <;> first | rfl | cases h
theorem ownPl_t {N : List Str} : ∀ {names : List (Str × NameKind)} {own : List (Str × Nat)}, ownPl N names = some own → (∀ p ∈ own, N[p.2]? = some p.1) ∧ ∀ y ∈ names, y.2 = .local ∨ y.2 = .cell → y.1 ∈ own.map (·.1)
  | [], own, h => by cases h; exact ⟨fun _ z => (nomatch z), fun _ z => (nomatch z)⟩
  | (y, k) :: r, own, h => by
    unfold ownPl at h
    have go : ∀ {i : Nat} {l : List (Str × Nat)}, place y N = some i → ownPl N r = some l → (∀ p ∈ (y, i) :: l, N[p.2]? = some p.1) ∧ ∀ z ∈ (y, k) :: r, z.2 = .local ∨ z.2 = .cell → z.1 ∈ ((y, i) :: l).map (·.1) := fun {i l} e1 e2 => by
      obtain ⟨q1, q2⟩ := ownPl_t e2
      refine ⟨fun p hp => ?_, fun z hz hk => ?_⟩
      · rcases List.mem_cons.mp hp with rfl | hp
        · exact place_t e1
        · exact q1 p hp
      · rcases List.mem_cons.mp hz with rfl | hz
        · exact List.mem_cons_self
        · exact List.mem_cons_of_mem _ (q2 z hz hk)
    split at h
    · split at h
      · rename_i e1 e2; cases h; exact go e1 e2
      · cases h
    · split at h
      · rename_i e1 e2; cases h; exact go e1 e2
      · cases h
    · rename_i n1 n2
      obtain ⟨q1, q2⟩ := ownPl_t h
      refine ⟨q1, fun z hz hk => ?_⟩
      rcases List.mem_cons.mp hz with rfl | hz
      · rcases hk with e | e
        · exact absurd e n1
        · exact absurd e n2
      · exact q2 z hz hk
theorem blkB_t {sc scope : Scope} : ∀ {names : List (Str × NameKind)}, blkB sc scope names = true → ∀ y ∈ names, scope.names.lookup y.1 = some y.2 ∧ (y.2 = .free → sc.names.lookup y.1 = some .cell ∨ sc.names.lookup y.1 = some .free)
  | [], _, y, hy => (nomatch hy)
  | (x, k) :: r, h, y, hy => by
    unfold blkB at h
    split at h
    · cases h
    · rename_i q
      have q := look_t (isKind_t q)
      have tail : ∀ {z : Prop}, blkB sc scope r = true → (k = .free → sc.names.lookup x = some .cell ∨ sc.names.lookup x = some .free) → scope.names.lookup y.1 = some y.2 ∧ (y.2 = .free → sc.names.lookup y.1 = some .cell ∨ sc.names.lookup y.1 = some .free) := fun {_} h1 h2 => by
        rcases List.mem_cons.mp hy with rfl | hy
        · exact ⟨q, h2⟩
        · exact blkB_t h1 y hy
      split at h
      · split at h
        · rename_i e; exact tail (z := True) h fun _ => .inl (look_t e)
        · rename_i e; exact tail (z := True) h fun _ => .inr (look_t e)
        · cases h
      · rename_i n
        exact tail (z := True) h fun e => absurd e n
theorem isFun_t {sc : Scope} (h : isFun sc = true) : sc.kind = .function := by
  unfold isFun at h
  split at h <;> first | assumption | cases h
theorem blk_ok {N : List Str} {sc scope : Scope} {own : List (Str × Nat)} (h1 : isFun scope = true) (h2 : blkB sc scope scope.names = true) (h3 : ownPl N scope.names = some own) : BlkOk N sc scope own := by
  obtain ⟨q1, q2⟩ := ownPl_t h3
  exact ⟨isFun_t h1, fun y hy => (blkB_t h2 y hy).1, q1, fun y hy e => (blkB_t h2 y hy).2 e, fun y hy e => .inl (q2 y hy e)⟩
/-- what a list comprehension needs -/
structure LcOk (S : St8) (ci : CI) (elt tg iter : Expr) (ifs : List Expr) (rest : List Comprehension) (scope : Scope) (pos : Pos) (r : CE) : Prop where
  ex : ∃ (own : List (Str × Nat)) (vs ws : List Nat) (ic : CIt) (g : CG) (tt : CB) (inner : CC), SI S ci tg iter ic ∧ SG S (blkCI ci scope) tg vs g ∧ SPt S (blkCI ci scope) ifs tt ∧ SAct S (blkCI ci scope) elt (⟨tg, iter, ifs, 0⟩ :: rest) scope pos 0 ws inner ∧ BlkOk ci.N ci.sc scope own ∧
    (∀ g', rest[0]? = some g' → g'.is_async = 0 ∧ notSet g'.iter = true) ∧ notSet iter = true ∧ r = cLc ic (own.map (·.2)) (vs ++ ws) g tt inner
theorem cComp_ok (hc : CmOk S c) (hg : CiOk S ci) {elt : Expr} {gens : List Comprehension} {scope : Scope} {r : CE} (h : cComp c ci elt gens scope = some r) : ∃ tg iter ifs rest, gens = ⟨tg, iter, ifs, 0⟩ :: rest ∧ LcOk S ci elt tg iter ifs rest scope pos r := by
  unfold cComp at h
  split at h
  · rename_i tg iter ifs a rest
    split at h
    · rename_i own h1 h2 h3
      split at h
      · rename_i ic vs g t ws n k1 k2 k3 k4 k5 k6
        cases h
        have := isZ_t k1
        subst this
        have hg' : CiOk S (blkCI ci scope) := hg
        obtain ⟨q1, q2⟩ := cCls_ok (ci := blkCI ci scope) (pos := pos) hc hg' (scope := scope) (pre := []) (g0 := ⟨tg, iter, ifs, 0⟩) k6
        exact ⟨tg, iter, ifs, rest, rfl, own, vs, ws, ic, g, t, n, hc.I _ _ _ _ hg k3, hc.G _ _ _ _ hg' k4, cTests_ok (fun e r => hc.T _ e r hg') k5, q1, blk_ok h1 h2 h3, q2, k2, rfl⟩
      · cases h
    · cases h
  · cases h
end
end Z
end
set_option Elab.async false
set_option autoImplicit false
set_option linter.all false
set_option maxRecDepth 100000
set_option maxHeartbeats 4000000
/-! Z14: the compiler is right: one step. -/
noncomputable section
namespace Z
open PySem PySem.Spec PyProof.Rows L2
section
variable {S : St8} {ci : CI} {pos : Pos} {c : Cm sh} {fns : List (List Str)}
theorem cName_ok (hg : CiOk S ci) {x : Str} {r : CE} (h : cName (al := sh) ci x = some r) : SE S ci (.Name x pos) r := by
  unfold cName at h
  split at h
  · rename_i e1
    have e1 := look_t e1
    split at h
    · rename_i d e2 e3
      cases h
      obtain ⟨u, v, hm, rv, hv⟩ := hg.1 _ _ (look_t e2)
      exact se_glob e1 hm rv hv (sNe_beq e3)
    · rename_i i e2 e3
      cases h
      exact se_glob (v := .ref (S.T.fa i)) e1 (hg.1 _ _ (look_t e2)) rfl (fun W => .fn i) (sNe_beq e3)
    · rename_i i e2 e3
      cases h
      exact se_glob (v := .ref (S.T.fa i)) e1 (hg.1 _ _ (look_t e2)).1 rfl (fun W => .fn i) (sNe_beq e3)
    · rename_i i e2 e3
      cases h
      exact se_glob (v := .ref (S.T.ca i)) e1 (hg.1 _ _ (look_t e2)) rfl (fun W => .cls i) (sNe_beq e3)
    · rename_i e2 e3
      split at h
      · rename_i t e4
        cases h
        have := tyOf_t e4
        subst this
        exact se_blt (v := .ty (tyS t)) e1 (hg.1 _ _ (look_t e2)) (boot_ty t) rfl (fun W => .ty t) (ty_n t) (sNe_beq e3)
      · cases h
    · cases h
  · rename_i k hk e1
    have e1 := look_t e1
    split at h
    · rename_i i e2 e3 e4 e5
      cases h
      refine se_var (place_t e3) ?_ (sNe_beq e4) (sNe_beq e5)
      cases k
      · exact .inl e1
      · exact .inr (.inl e1)
      · exact .inr (.inr e1)
      · simp [isKind] at e2
      · exact absurd rfl hk
    · cases h
  · cases h
theorem short30_t {es : List Expr} (h : short30 es = true) : es.length < 30 := Nat.blt_eq.mp h
theorem cCallF_ok (hS : S.Ok) (hf : fns = S.fns) (hg : CiOk S ci) {E : Expr → Option sh.E} (hE : ∀ e r, E e = some r → SE S ci e r) {x : Str} {es : List Expr} {p : Pos} {r : CE} (h : cCallF fns E ci x es = some r) : SE S ci (.Call (.Name x p) es [] pos) r := by
  unfold cCallF at h
  split at h
  · rename_i a e1 e2 e3
    have e1 := look_t e1
    obtain ⟨q1, q2, q3⟩ := cA_ok hE e3
    split at h
    · rename_i i e4
      split at h
      · rename_i ps e5
        cases h
        rw [hf] at e5
        cases es with
        | nil =>
          rw [q3 rfl]
          exact se_call0 hS e5 e1 (hg.1 _ _ (look_t e4)) (sNe_beq e2)
        | cons e es => exact se_call hS e5 e1 (hg.1 _ _ (look_t e4)) (sNe_beq e2) q1 q2
      · cases h
    · rename_i i e4
      split at h
      · rename_i ps e5
        cases h
        rw [hf] at e5
        cases es with
        | nil =>
          rw [q3 rfl]
          exact se_call0 hS e5 e1 (hg.1 _ _ (look_t e4)).1 (sNe_beq e2)
        | cons e es => exact se_call hS e5 e1 (hg.1 _ _ (look_t e4)).1 (sNe_beq e2) q1 q2
      · cases h
    · rename_i e4
      split at h
      · rename_i f e es e5
        cases h
        obtain ⟨k1, k2⟩ := fkOf_t e5
        exact se_fk k2 k1 q1 e1 (hg.1 _ _ (look_t e4)) (sNe_beq e2) q2
      · cases h
    · rename_i e4
      split at h
      · cases h
        exact se_bltG gcd_ok q1 e1 (hg.1 _ _ (look_t e4)) (sNe_beq e2) q2
      · cases h
    · cases h
  · cases h
theorem cCallW_ok (hS : S.Ok) (hf : fns = S.fns) {E : Expr → Option sh.E} (hE : ∀ e r, E e = some r → SE S ci e r) {x : Str} {es : List Expr} {p : Pos} {r : CE} (h : cCallW fns E ci x es = some r) : SE S ci (.Call (.Name x p) es [] pos) r := by
  unfold cCallW at h
  split at h
  · rename_i i a e es e1 e2 e5 e6 e3
    cases h
    obtain ⟨q1, q2, _⟩ := cA_ok hE e3
    rw [hf]
    exact se_callV hS (place_t e2) (.inl (look_t e1)) (sNe_beq e5) (sNe_beq e6) q1 q2
  · rename_i i a e es e1 e2 e5 e6 e3
    cases h
    obtain ⟨q1, q2, _⟩ := cA_ok hE e3
    rw [hf]
    exact se_callV hS (place_t e2) (.inr (.inl (look_t e1))) (sNe_beq e5) (sNe_beq e6) q1 q2
  · rename_i i a e es e1 e2 e5 e6 e3
    cases h
    obtain ⟨q1, q2, _⟩ := cA_ok hE e3
    rw [hf]
    exact se_callV hS (place_t e2) (.inr (.inr (look_t e1))) (sNe_beq e5) (sNe_beq e6) q1 q2
  · cases h
theorem cReprF_ok (hg : CiOk S ci) {E : Expr → Option sh.E} (hE : ∀ e r, E e = some r → SE S ci e r) {x : Str} {es : List Expr} {p : Pos} {r : CE} (h : cReprF E ci x es = some r) : SE S ci (.Call (.Name x p) es [] pos) r := by
  unfold cReprF at h
  split at h
  · rename_i a e e1 e2 e3 e4 e5
    cases h
    have := sEq_t e4
    subst this
    obtain ⟨q1, q2, _⟩ := cA_ok hE e5
    exact se_repr e3 q1 (look_t e1) (hg.1 _ _ (look_t e2)) q2
  · cases h
theorem cKw_ok {E : Expr → Option sh.E} (hE : ∀ e r, E e = some r → SE S ci e r) : ∀ {kws : List Keyword} {ps : List Str} {r : CA}, cKw E kws ps = some r → SK S ci kws r ∧ kws.map (·.arg) = ps.map some
  | [], [], r, h => by cases h; exact ⟨sk_nil, rfl⟩
  | [], _ :: _, r, h => (nomatch h)
  | ⟨none, e, kp⟩ :: l, [], r, h => (nomatch h)
  | ⟨none, e, kp⟩ :: l, _ :: _, r, h => (nomatch h)
  | ⟨some y, e, kp⟩ :: l, [], r, h => (nomatch h)
  | ⟨some y, e, kp⟩ :: l, z :: ps, r, h => by
    unfold cKw at h
    split at h
    · rename_i a b e1 e2 e3
      cases h
      obtain ⟨q1, q2⟩ := cKw_ok hE e3
      have := sEq_t e1
      subst this
      exact ⟨sk_cons (hE _ _ e2) q1, congrArg (some y :: ·) q2⟩
    · cases h
theorem cCallKw_ok (hS : S.Ok) (hf : fns = S.fns) (hg : CiOk S ci) {E : Expr → Option sh.E} (hE : ∀ e r, E e = some r → SE S ci e r) {x : Str} {kws : List Keyword} {p : Pos} {r : CE} (h : cCallKw fns E ci x kws = some r) : SE S ci (.Call (.Name x p) [] kws pos) r := by
  unfold cCallKw at h
  split at h
  · rename_i i e1 e2 e3
    split at h
    · rename_i ps e4
      split at h
      · rename_i a e5
        cases h
        rw [hf] at e4
        obtain ⟨q1, q2⟩ := cKw_ok hE e5
        obtain ⟨k1, k2⟩ := hg.1 _ _ (look_t e2)
        exact se_callKw hS e4 k2 (look_t e1) k1 (sNe_beq e3) q1 q2
      · cases h
    · cases h
  · cases h
theorem lamB_own {sc scope : Scope} : ∀ {l : List (Str × NameKind)}, lamB sc scope l = true → ∀ y ∈ l, (y.2 ≠ .local ∧ y.2 ≠ .cell) ∧ (y.2 = .free → sc.names.lookup y.1 = some .cell ∨ sc.names.lookup y.1 = some .free)
  | [], _, _, h => (nomatch h)
  | (z, k) :: r, h, y, hy => by
    unfold lamB at h
    cases k with
    | free =>
      simp only at h
      split at h
      · rename_i e
        rcases List.mem_cons.mp hy with q | q
        · subst q; exact ⟨⟨fun z => (nomatch z), fun z => (nomatch z)⟩, fun _ => .inl (look_t e)⟩
        · exact lamB_own h y q
      · rename_i e
        rcases List.mem_cons.mp hy with q | q
        · subst q; exact ⟨⟨fun z => (nomatch z), fun z => (nomatch z)⟩, fun _ => .inr (look_t e)⟩
        · exact lamB_own h y q
      · cases h
    | «local» => cases h
    | cell => cases h
    | _ =>
      rcases List.mem_cons.mp hy with q | q
      · subst q; exact ⟨⟨fun z => (nomatch z), fun z => (nomatch z)⟩, fun z => (nomatch z)⟩
      · exact lamB_own h y q
theorem lamS_of {sc scope : Scope} (h1 : isFun scope = true) (h2 : noCoro scope = true) (h3 : lamB sc scope scope.names = true) : LamX.LamS sc scope := by
  unfold noCoro at h2
  split at h2
  · rename_i c1 c2
    refine ⟨?_, c1, c2, fun y hy => (lamB_own h3 y hy).1, fun y hy e => (lamB_own h3 y hy).2 e⟩
    unfold isFun at h1
    split at h1
    · assumption
    · cases h1
  · cases h2
theorem cLamF_ok (hS : S.Ok) (hg : CiOk S ci) {E : CI → Expr → Option sh.E} (hE : ∀ ci e r, CiOk S.low ci → E ci e = some r → SE S.low ci e r) {x : Str} {body : Expr} {scope : Scope} {p lpos : Pos} {r : CE} (h : cLamF E ci x body scope = some r) : SE S ci (.Call (.Name x p) [.Lambda ⟨[], [], none, [], [], none, []⟩ body scope lpos] [] pos) r := by
  unfold cLamF at h
  split at h
  · rename_i nc hs c e1 e2 e3 e4 e5 e6 e7 e8
    cases h
    exact se_told hS (hg.2 e4) (hg.1 _ _ (look_t e2)) (look_t e1) (sNe_beq e3) e4 (lamS_of e5 e6 e7) (hE _ _ _ ⟨hg.1, fun z => (nomatch z)⟩ e8)
  · cases h
theorem cOpt_ok {E : Expr → Option sh.E} (hE : ∀ e r, E e = some r → SE S ci e r) {o : Option Expr} {r : CO} (h : cOpt E o = some r) : SO S ci o r := by
  cases o with
  | none => cases h; exact so_no
  | some e =>
    unfold cOpt at h
    simp only at h
    split at h
    · rename_i a ea
      cases h
      exact so_part (hE _ _ ea)
    · cases h
theorem stepE_ok (hS : S.Ok) (hf : fns = S.fns) (hc : CmOk S c) (hcl : CmOk S.low c) (hg : CiOk S ci) {e : Expr} {r : CE} (h : stepE fns c ci e = some r) : SE S ci e r := by
  have hE : ∀ e r, c.E ci e = some r → SE S ci e r := fun e r => hc.E ci e r hg
  unfold stepE at h
  split at h
  · split at h
    · cases h; exact se_intc
    · cases h; exact se_bl
    · cases h; exact se_non
    · cases h; exact se_str rfl
    · cases h
  · exact cName_ok hg h
  · split at h
    · rename_i o x y e1 e2 e3
      cases h
      exact se_bin (hE _ _ e2) (hE _ _ e3) (bkG_op e1)
    · cases h
  · split at h
    · rename_i x e1
      cases h
      exact se_not (hE _ _ e1)
    · rename_i x e1
      cases h
      exact se_neg (hE _ _ e1)
    · cases h
  · split at h
    · exact cBE_and hE h
    · exact cBE_or hE h
  · split at h
    · rename_i x y e1 e2 e3
      cases h
      exact se_cmp (hE _ _ e1) (hE _ _ e2) (bkG_cmp _) e3
    · cases h
  · split at h
    · rename_i x y z e1 e2 e3 e4
      cases h
      exact se_chain (hE _ _ e1) (hE _ _ e2) (hE _ _ e3) (bkG_cmp _) (bkG_cmp _) e4
    · cases h
  · split at h
    · rename_i x y z e1 e2 e3
      cases h
      exact se_if (hc.T _ _ _ hg e1) (hE _ _ e2) (hE _ _ e3)
    · cases h
  · split at h
    · rename_i a e1
      cases h
      exact se_tup (cA_ok hE e1).1
    · cases h
  · split at h
    · rename_i a e1
      cases h
      exact se_lst (cA_ok hE e1).1
    · cases h
  · split at h
    · rename_i x l hh e1 e2 e3
      cases h
      exact se_sl (hE _ _ e1) (cOpt_ok hE e2) (cOpt_ok hE e3)
    · cases h
  · rename_i a i _ _ _ _ _
    split at h
    · rename_i x e1 e2
      cases h
      have : i = 1 := by
        unfold isOne at e1
        split at e1 <;> first | rfl | cases e1
      subst this
      exact se_rev (hE _ _ e2)
    · cases h
  · cases h; exact se_dict0
  · split at h
    · rename_i x y e1 e2 e3
      cases h
      exact se_ix (hE _ _ e1) (hE _ _ e2) e3
    · cases h
  · have go : ∀ {elt : Expr} {gens : List Comprehension} {scope : Scope} {p : Pos} {a : CE}, cComp c ci elt gens scope = some a → SE S ci (.ListComp elt gens scope p) a := fun {elt gens scope p a} h => by
      obtain ⟨tg, iter, ifs, rest, rfl, L⟩ := cComp_ok (pos := p) hc hg h
      obtain ⟨own, vs, ws, ic, g, tt, inner, a1, a2, a3, a4, a5, a6, a7, rfl⟩ := L.ex
      exact se_lc a1 a2 a3 a4 a5 a6 a7
    split at h
    · rename_i i a e1 e2
      cases h
      exact se_lock (go e2)
    · rename_i a e1 e2
      cases h
      exact go e2
    · cases h
  · exact cLamF_ok hS hg hcl.E h
  · split at h
    · rename_i r' e1
      cases h
      exact cCallF_ok hS hf hg hE e1
    · split at h
      · rename_i r' e1
        cases h
        exact cCallW_ok hS hf hE e1
      · exact cReprF_ok hg hE h
  · exact cCallKw_ok hS hf hg hE h
  · split at h
    · rename_i m x a e1 e2 e3 e4 e5 e6
      cases h
      obtain ⟨q1, q2, q3⟩ := cA_ok hE e6
      exact se_mk (mkOf_t e1) (hE _ _ e5) q1 e2 q2 (short30_t e3) (by rw [Nat.eq_of_beq_eq_true e4]; exact beq_self_eq_true _) q3
    · cases h
  · cases h
theorem stepT_ok (hc : CmOk S c) (hg : CiOk S ci) {e : Expr} {r : CB} (h : stepT c ci e = some r) : STt S ci e r := by
  have hE : ∀ e r, c.E ci e = some r → SE S ci e r := fun e r => hc.E ci e r hg
  have hT : ∀ e r, c.T ci e = some r → STt S ci e r := fun e r => hc.T ci e r hg
  unfold stepT at h
  split at h
  · split at h
    · rename_i x e1
      cases h
      exact st_not (hT _ _ e1)
    · cases h
  · split at h
    · exact (cBT_and hT h).t
    · exact (cBT_or hT h).t
  · split at h
    · rename_i x y e1 e2 e3
      cases h
      exact st_cmp (hE _ _ e1) (hE _ _ e2) (bkG_cmp _) e3
    · cases h
  · split at h
    · rename_i x y z e1 e2 e3 e4
      cases h
      exact st_chain (hE _ _ e1) (hE _ _ e2) (hE _ _ e3) (bkG_cmp _) (bkG_cmp _) e4
    · cases h
  · split at h
    · rename_i x e1 e2
      cases h
      exact st_tru (hE _ _ e2) e1
    · cases h
theorem isTupE_t {e : Expr} (h : isTupE e = true) : ∃ es k p, e = .Tuple es k p := by
  cases e <;> first | exact ⟨_, _, _, rfl⟩ | (simp [isTupE] at h; done)
theorem notStars1 {a : Expr} (h : notStars [a] = true) : notStar a = true := by
  have h' : (notStar a && true) = true := h
  rwa [Bool.and_true] at h'
theorem notStars2 {a b : Expr} (h : notStars [a, b] = true) : notStar a = true ∧ notStar b = true := by
  have h' : (notStar a && (notStar b && true)) = true := h
  rwa [Bool.and_true, Bool.and_eq_true] at h'
theorem stepI_ok (hc : CmOk S c) (hg : CiOk S ci) {tg e : Expr} {r : CIt} (h : stepI c ci tg e = some r) : SI S ci tg e r := by
  have hE : ∀ e r, c.E ci e = some r → SE S ci e r := fun e r => hc.E ci e r hg
  unfold stepI at h
  split at h
  · rename_i x p es pos
    split at h
    · rename_i a e1 e2 e3
      have e1 := look_t e1
      have hm := hg.1 _ _ (look_t e2)
      obtain ⟨q1, q2, _⟩ := cA_ok hE e3
      split at h
      · split at h
        · rename_i k
          cases h
          have := sEq_t k
          subst this
          exact si_rng1 q1 e1 hm (notStars1 q2)
        · split at h
          · rename_i k1 k2
            cases h
            have := sEq_t k1
            subst this
            obtain ⟨es', kk, p', rfl⟩ := isTupE_t k2
            exact si_enm q1 e1 hm (notStars1 q2)
          · split at h
            · rename_i z e1
              cases h
              exact si_iter (hE _ _ e1)
            · cases h
      · split at h
        · rename_i k
          cases h
          have := sEq_t k
          subst this
          exact si_rng2 q1 e1 hm (notStars2 q2).1 (notStars2 q2).2
        · split at h
          · rename_i k1 k2
            cases h
            have := sEq_t k1
            subst this
            obtain ⟨es', kk, p', rfl⟩ := isTupE_t k2
            exact si_zip q1 e1 hm (notStars2 q2).1 (notStars2 q2).2
          · cases h
      · cases h
    · split at h
      · rename_i z e1
        cases h
        exact si_iter (hE _ _ e1)
      · cases h
  · rename_i o nm apos pos
    split at h
    · rename_i z k1 k2 k3 k4 k5
      cases h
      have := sEq_t k1
      subst this
      obtain ⟨es', kk, p', rfl⟩ := isTupE_t k2
      exact si_itm (hE _ _ k5) k3 (by have e := Nat.eq_of_beq_eq_true k4; rw [e]; exact beq_self_eq_true _)
    · split at h
      · rename_i z e1
        cases h
        exact si_iter (hE _ _ e1)
      · cases h
  · split at h
    · rename_i z e1
      cases h
      exact si_iter (hE _ _ e1)
    · cases h
theorem stepG_ok (hc : CmOk S c) (hg : CiOk S ci) {e : Expr} {vs : List Nat} {r : CG} (h : stepG c ci e = some (vs, r)) : SG S ci e vs r := by
  have hE : ∀ e r, c.E ci e = some r → SE S ci e r := fun e r => hc.E ci e r hg
  unfold stepG at h
  split at h
  · split at h
    · rename_i i e1 e2
      cases h
      exact sg_name (place_t e1) (by unfold ownB; rw [look_t e2])
    · rename_i i e1 e2
      cases h
      exact sg_name (place_t e1) (by unfold ownB; rw [look_t e2])
    · cases h
  · split at h
    · rename_i vs g e1
      cases h
      obtain ⟨q1, q2⟩ := cGs_ok (fun e vs r => hc.G _ e vs r hg) e1
      exact sg_tup q1 q2
    · cases h
  · split at h
    · rename_i a b e1 e2 e3
      cases h
      exact sg_sub (hE _ _ e2) (hE _ _ e3) e1
    · cases h
  · cases h
theorem cm_ok : ∀ (n : Nat) {S : St8}, S.Ok → fns = S.fns → CmOk S (cm fns n)
  | 0, _, _, _ => ⟨fun _ _ _ _ h => (nomatch h), fun _ _ _ _ h => (nomatch h), fun _ _ _ _ _ h => (nomatch h), fun _ _ _ _ _ h => (nomatch h)⟩
  | n + 1, S, hS, hf => ⟨fun ci e r hg h => stepE_ok hS hf (cm_ok n hS hf) (cm_ok n hS.low hf) hg h, fun ci e r hg h => stepT_ok (cm_ok n hS hf) hg h, fun ci tg e r hg h => stepI_ok (cm_ok n hS hf) hg h, fun ci tg vs r hg h => stepG_ok (cm_ok n hS hf) hg h⟩
/-! statements -/
theorem cSs_ok {St : Stmt → Option sh.S} (hS : ∀ s r, St s = some r → SS S ci s r) : ∀ {l : List Stmt} {r : CS}, cSs St l = some r → SSs S ci l r
  | [], r, h => by cases h; exact sss_nil
  | [s], r, h => sss_one (hS _ _ h)
  | s :: s2 :: l, r, h => by
    unfold cSs at h
    simp only at h
    split at h
    · rename_i a b h1 h2
      cases h
      show SSs S ci (s :: s2 :: l) (cSeq a b)
      exact sss_cons (hS _ _ h1) (cSs_ok hS h2)
    · cases h
theorem allSN_t {x : Str} : ∀ {l : List Str}, allSN x l = true → x ∉ l
  | [], _ => List.not_mem_nil
  | y :: r, h => by
    unfold allSN at h
    split at h
    · rename_i q
      intro z
      rcases List.mem_cons.mp z with e | z
      · exact sNe_t q e
      · exact allSN_t h z
    · cases h
theorem nodupS_t : ∀ {l : List Str}, nodupS l = true → l.Nodup
  | [], _ => List.nodup_nil
  | x :: r, h => by
    unfold nodupS at h
    split at h
    · rename_i q
      exact List.nodup_cons.mpr ⟨allSN_t q, nodupS_t h⟩
    · cases h
theorem eraseDups_nodup : ∀ {l : List Str}, l.Nodup → l.eraseDups = l
  | [], _ => rfl
  | x :: r, h => by
    obtain ⟨h1, h2⟩ := List.nodup_cons.mp h
    rw [List.eraseDups_cons]
    have : r.filter (fun b => !b == x) = r := List.filter_eq_self.mpr fun y hy => by
      have : (y == x) = false := beq_eq_false_iff_ne.mpr fun e => h1 (by rw [← e]; exact hy)
      rw [this]; rfl
    rw [this, eraseDups_nodup h2]
theorem parNames_t {sc : Scope} {line : Nat} : ∀ {ts : List Expr} {l : List Str}, parNames sc line ts = some l → swNames sc line ts = l ∧ l.length = ts.length
  | [], l, h => by cases h; exact ⟨rfl, rfl⟩
  | t :: r, l, h => by
    unfold parNames at h
    split at h
    · rename_i x p
      split at h
      · rename_i l' e1 e2 e3
        cases h
        obtain ⟨q1, q2⟩ := parNames_t e3
        have k1 := look_t (isKind_t e1)
        have k2 := Nat.eq_of_beq_eq_true e2
        refine ⟨?_, by rw [List.length_cons, List.length_cons, q2]⟩
        unfold swNames at q1 ⊢
        rw [List.filterMap_cons, ]
        simp only [k1, k2, beq_self_eq_true, Bool.and_true, if_true]
        rw [q1]
      · cases h
    · cases h
theorem swNames_one {sc : Scope} {line : Nat} {x : Str} {p : Pos} : swNames sc line [.Name x p] = if (sc.names.lookup x == some .local && p.line == line) = true then [x] else [] := by
  unfold swNames
  simp only [List.filterMap_cons, List.filterMap_nil]
  cases q : (sc.names.lookup x == some .local && p.line == line) <;> rfl
theorem notPar_t {sc : Scope} {line : Nat} {t : Expr} (h : notPar sc line t = true) : swNames sc line [t] = [] := by
  cases t <;> first | rfl | skip
  rename_i x p
  rw [swNames_one]
  unfold notPar at h
  simp only at h
  split at h
  · rename_i e
    rw [look_t e]
    have : (p.line == line) = false := by
      cases q : Nat.beq p.line line with
      | true => rw [q] at h; cases h
      | false => exact beq_eq_false_iff_ne.mpr (Nat.ne_of_beq_eq_false q)
    rw [this]
    rfl
  · rename_i k hk e
    rw [look_t e]
    have : (some k == some NameKind.local) = false := by
      cases k <;> first | rfl | exact absurd rfl hk
    rw [this]
    rfl
  · cases h
theorem swNames_le {sc : Scope} {line : Nat} : ∀ ts : List Expr, (swNames sc line ts).length ≤ ts.length := fun ts => List.length_filterMap_le _ _
theorem swNames_cons {sc : Scope} {line : Nat} {t : Expr} {ts : List Expr} : swNames sc line (t :: ts) = swNames sc line [t] ++ swNames sc line ts := by
  unfold swNames
  rw [← List.filterMap_append]
  rfl
theorem swNames_lt {sc : Scope} {line : Nat} : ∀ {ts : List Expr}, ts.any (notPar sc line) = true → (swNames sc line ts).length < ts.length
  | [], h => by cases h
  | t :: r, h => by
    rw [swNames_cons, List.length_append, List.length_cons]
    rw [List.any_cons, Bool.or_eq_true] at h
    rcases h with h | h
    · rw [notPar_t h]
      have := swNames_le (sc := sc) (line := line) r
      show 0 + _ < _
      omega
    · have h1 := swNames_lt h
      have h2 := swNames_le (sc := sc) (line := line) [t]
      rw [List.length_singleton] at h2
      omega
theorem nbeq (a b : Nat) : Nat.beq a b = (a == b) := by
  cases q : Nat.beq a b with
  | true => exact (beq_iff_eq.mpr (Nat.eq_of_beq_eq_true q)).symm
  | false => exact (beq_eq_false_iff_ne.mpr (Nat.ne_of_beq_eq_false q)).symm
theorem parKind0 {sc : Scope} {ts vs : List Expr} (h : parKind sc ts vs = 0) : swB sc ts vs = some none := by
  unfold parKind at h
  unfold swB
  have e1 : (!(Nat.beq ts.length 2 || Nat.beq ts.length 3) || !(Nat.beq vs.length ts.length)) = (!(ts.length == 2 || ts.length == 3) || vs.length != ts.length) := by
    rw [nbeq, nbeq, nbeq]; rfl
  rw [e1] at h
  split at h
  · rename_i c1; rw [if_pos c1]
  · rename_i c1
    rw [if_neg (by rw [c1]; exact Bool.false_ne_true)]
    split at h
    · rename_i c2; rw [if_pos c2]
    · rename_i c2
      rw [if_neg (by rw [c2]; exact Bool.false_ne_true)]
      split at h
      · rename_i c3
        have := swNames_lt c3
        rw [if_pos (by rw [Bool.or_eq_true]; exact .inl (bne_iff_ne.mpr (by omega)))]
      · split at h
        · rename_i l hl
          obtain ⟨q1, q2⟩ := parNames_t hl
          split at h
          · rename_i k1 k2
            rw [q1, q2, eraseDups_nodup (nodupS_t k1), q2]
            rw [if_neg (by simp), if_pos k2]
          · cases h
          · cases h
        · cases h
theorem parKind1 {sc : Scope} {ts vs : List Expr} (h : parKind sc ts vs = 1) : ∃ l, parNames sc ((ts.head?.map (·.pos.line)).getD 0) ts = some l ∧ swB sc ts vs = some (some l) := by
  unfold parKind at h
  unfold swB
  have e1 : (!(Nat.beq ts.length 2 || Nat.beq ts.length 3) || !(Nat.beq vs.length ts.length)) = (!(ts.length == 2 || ts.length == 3) || vs.length != ts.length) := by
    rw [nbeq, nbeq, nbeq]; rfl
  rw [e1] at h
  split at h
  · cases h
  · rename_i c1
    rw [if_neg (by rw [c1]; exact Bool.false_ne_true)]
    split at h
    · cases h
    · rename_i c2
      rw [if_neg (by rw [c2]; exact Bool.false_ne_true)]
      split at h
      · cases h
      · split at h
        · rename_i l hl
          obtain ⟨q1, q2⟩ := parNames_t hl
          split at h
          · cases h
          · rename_i k1 k2 k3
            refine ⟨l, hl, ?_⟩
            rw [q1, q2, eraseDups_nodup (nodupS_t k1), q2]
            rw [if_neg (by simp), if_neg (by rw [k2]; exact Bool.false_ne_true), if_neg (by rw [k3]; exact Bool.false_ne_true)]
          · cases h
        · cases h
theorem isLocal_of {sc : Scope} {x : Str} (h : isKind .local (look x sc.names) = true) : isLocal sc x = true := by
  unfold isLocal
  rw [look_t (isKind_t h)]
theorem cParB_ok {E : Expr → Option sh.E} (hE : ∀ e r, E e = some r → SE S ci e r) {ts vs : List Expr} {k k2 : Nat} {p p2 : Pos} {r : CS} (h1 : parKind ci.sc ts vs = 1) (h : cParB E ci ts vs = some r) : SS S ci (.Assign [.Tuple ts k p] (.Tuple vs k2 p2) pos) r := by
  obtain ⟨l, hl, hw⟩ := parKind1 h1
  unfold cParB at h
  split at h
  · rename_i x px y py e e' a ha
    split at h
    · rename_i i j e1 e2 e3 e4
      split at h
      · rename_i e5
        cases h
        have : l = [x, y] := by
          simp only [parNames] at hl
          split at hl
          · rename_i l' k1 k2 k3
            split at k3
            · rename_i l'' k4 k5 k6
              cases k6; cases k3; cases hl; rfl
            · cases k3
          · cases hl
        subst this
        exact ss_par (cA_ok hE ha).1 (place_t e1) (place_t e2) (Nat.ne_of_beq_eq_false e5) (isLocal_of e3) (isLocal_of e4) hw
      · cases h
    · cases h
  · rename_i x px y py z pz e e' e'' a ha
    split at h
    · rename_i i j l0 e1 e2 e3 e4 e5 e6
      split at h
      · rename_i k1 k2 k3
        cases h
        have : l = [x, y, z] := by
          simp only [parNames] at hl
          split at hl
          · rename_i l' q1 q2 q3
            split at q3
            · rename_i l'' q4 q5 q6
              split at q6
              · rename_i l3 q7 q8 q9
                cases q9; cases q6; cases q3; cases hl; rfl
              · cases q6
            · cases q3
          · cases hl
        subst this
        exact ss_par3 (cA_ok hE ha).1 (place_t e1) (place_t e2) (place_t e3) (Nat.ne_of_beq_eq_false k1) (Nat.ne_of_beq_eq_false k2) (Nat.ne_of_beq_eq_false k3) (isLocal_of e4) (isLocal_of e5) (isLocal_of e6) hw
      · cases h
    · cases h
  · cases h
end
end Z
end
set_option Elab.async false
set_option autoImplicit false
set_option linter.all false
set_option maxRecDepth 100000
set_option maxHeartbeats 4000000
/-! Z15: the compiler is right: statements. -/
noncomputable section
namespace Z
open PySem PySem.Spec PyProof.Rows L2
section
variable {S : St8} {ci : CI} {pos : Pos} {c : Cm sh} {fns : List (List Str)}
theorem any_lookup {names : List (Str × NameKind)} {t : Str} (h : ∀ y ∈ names, y.1 = t → y.2 ≠ .local ∧ y.2 ≠ .cell) : (names.any fun (n, k) => n == t && (k == .local || k == .cell)) = false := by
  rw [List.any_eq_false]
  intro y hy z
  obtain ⟨n, k⟩ := y
  simp only [Bool.and_eq_true, Bool.or_eq_true, beq_iff_eq] at z
  obtain ⟨h1, h2⟩ := h _ hy z.1
  rcases z.2 with e | e
  · exact h1 e
  · exact h2 e
theorem lookup_any {names : List (Str × NameKind)} {t : Str} {k : NameKind} (h : names.lookup t = some k) (hk : k = .local ∨ k = .cell) : (names.any fun (n, k) => n == t && (k == .local || k == .cell)) = true := by
  have := PySem.mem_of_lookup h
  rw [List.any_eq_true]
  refine ⟨(t, k), this, ?_⟩
  simp only [beq_self_eq_true, Bool.true_and, Bool.or_eq_true, beq_iff_eq]
  exact hk
/-- the names of a block stand once -/
theorem swC_ok {sc : Scope} {t : Str} {p pe : Pos} {s : Scope} {b : Bool} (hu : ∀ y ∈ s.names, s.names.lookup y.1 = some y.2) (h : swC sc t p pe s = some b) : (b = true → swT sc t p pe s = true) ∧ (b = false → (!(sc.names.lookup t == some .local && p.line == pe.line && !(s.names.any fun (n, k) => n == t && (k == .local || k == .cell)))) = true) := by
  unfold swC at h
  split at h
  · rename_i o e1
    have e1 := look_t e1
    split at h
    · rename_i e2
      cases h
      refine ⟨fun z => (nomatch z), fun _ => ?_⟩
      have : (p.line == pe.line) = false := beq_eq_false_iff_ne.mpr (Nat.ne_of_beq_eq_false e2)
      rw [this]
      simp
    · rename_i e2
      have e2 : (p.line == pe.line) = true := beq_iff_eq.mpr (Nat.eq_of_beq_eq_true e2)
      split at h
      · rename_i e3
        cases h
        refine ⟨fun z => (nomatch z), fun _ => ?_⟩
        rw [lookup_any (look_t e3) (.inl rfl)]
        simp
      · rename_i e3
        cases h
        refine ⟨fun z => (nomatch z), fun _ => ?_⟩
        rw [lookup_any (look_t e3) (.inr rfl)]
        simp
      · rename_i k n1 n2 e3
        cases h
        refine ⟨fun _ => ?_, fun z => (nomatch z)⟩
        unfold swT
        rw [e1, e2, any_lookup]
        · rfl
        · intro y hy e
          have e3 := look_t e3
          have := hu y hy
          rw [e, e3] at this
          cases this
          exact ⟨fun z => n1 (by rw [z]), fun z => n2 (by rw [z])⟩
      · rename_i e3
        split at h
        · rename_i e4
          cases h
          refine ⟨fun _ => ?_, fun z => (nomatch z)⟩
          unfold swT
          rw [e1, e2, any_lookup]
          · rfl
          · intro y hy e
            exact absurd e.symm (sNe_t (List.all_eq_true.mp e4 y hy))
        · cases h
  · rename_i k n1 e1
    cases h
    refine ⟨fun z => (nomatch z), fun _ => ?_⟩
    have e1 := look_t e1
    have : (sc.names.lookup t == some .local) = false := by
      rw [e1]
      cases k <;> first | rfl | exact absurd rfl n1
    rw [this]
    rfl
  · cases h
/-- the step at a comprehension that is stored -/
theorem stepE_lc {elt : Expr} {gens : List Comprehension} {scope : Scope} (hc : CmOk S c) (hg : CiOk S ci) {r : CE} (hl : lockOf ci gens = none) (h : stepE fns c ci (.ListComp elt gens scope pos) = some r) : ∃ tg iter ifs rest, gens = ⟨tg, iter, ifs, 0⟩ :: rest ∧ LcOk S ci elt tg iter ifs rest scope pos r := by
  unfold stepE at h
  cases q : cComp c ci elt gens scope with
  | none => simp only [hl, q] at h; exact absurd h (by simp)
  | some a => simp only [hl, q] at h; obtain rfl := Option.some.inj h; exact cComp_ok hc hg q
theorem stepS_ok (h2r : 2 ≤ S.r) (hS : S.Ok) (hf : fns = S.fns) {n : Nat} (hg : CiOk S ci) {Ss : List Stmt → Option sh.S} (hSs : ∀ l r, Ss l = some r → SSs S ci l r) {st : Stmt} {r : CS} (h : stepS fns (cm fns (n + 1)) ci Ss st = some r) : SS S ci st r := by
  have hc := cm_ok (S := S) (n + 1) hS hf
  have hE : ∀ e r, (cm (al := sh) fns (n + 1)).E ci e = some r → SE S ci e r := fun e r => hc.E ci e r hg
  have hT : ∀ e r, (cm (al := sh) fns (n + 1)).T ci e = some r → STt S ci e r := fun e r => hc.T ci e r hg
  have hG : ∀ e vs r, (cm (al := sh) fns (n + 1)).G ci e = some (vs, r) → SG S ci e vs r := fun e vs r => hc.G ci e vs r hg
  unfold stepS at h
  split at h
  · cases h; exact ss_pass
  · cases h; exact ss_break
  · cases h; exact ss_cont
  · cases h; exact ss_retN
  · split at h
    · rename_i a e1; obtain rfl := Option.some.inj h; exact ss_ret (hE _ _ e1)
    · cases h
  · split at h
    · rename_i i ats a e es e1 e2 e3 e4
      obtain ⟨q1, q2, _⟩ := cA_ok hE e4
      split at h
      · rename_i e5
        cases h
        exact ss_raise h2r (Nat.le_of_ble_eq_true e5) (hg.1 _ _ (look_t e2)) (look_t e1) (sNe_beq e3) q1 q2
      · cases h; exact ss_never
    · cases h; exact ss_never
  · cases h; exact ss_never
  · split at h
    · rename_i a e1 e2; obtain rfl := Option.some.inj h; exact ss_expr (hE _ _ e2) e1
    · cases h
  · split at h
    · rename_i x y z e1 e2 e3; obtain rfl := Option.some.inj h; exact ss_if (hT _ _ e1) (hSs _ _ e2) (hSs _ _ e3)
    · cases h
  · split at h
    · rename_i i vs g b e1 e2 e3 e4; obtain rfl := Option.some.inj h; show SS S ci _ (cFor i g b); exact ss_for (hc.I _ _ _ _ hg e2) (hG _ _ _ e3) (hSs _ _ e4) e1
    · cases h
  · split at h
    · rename_i x b e1 e2; obtain rfl := Option.some.inj h; show SS S ci _ (cWhile x b); exact ss_while (hT _ _ e1) (hSs _ _ e2)
    · cases h
  · split at h
    · rename_i i o a e1 e2 e3 e4; obtain rfl := Option.some.inj h; exact ss_aug (hE _ _ e4) (bkG_ip e3) (place_t e1) (by unfold ownB; rw [look_t e2])
    · rename_i i o a e1 e2 e3 e4; obtain rfl := Option.some.inj h; exact ss_aug (hE _ _ e4) (bkG_ip e3) (place_t e1) (by unfold ownB; rw [look_t e2])
    · cases h
  · rename_i y py elt gens s pe pos'
    split at h
    · rename_i a vs g e1 e2 e3 e0
      split at h
      · rename_i e4
        cases h
        obtain ⟨tg, iter, ifs, rest, rfl, L⟩ := stepE_lc (fns := fns) (pos := pe) (cm_ok (S := S) n hS hf) hg e0 e2
        obtain ⟨own, vs', ws, ic, g', tt, inner, a1, a2, a3, a4, a5, a6, a7, rfl⟩ := L.ex
        have hw := (swC_ok a5.uniq e1).1 rfl
        -- the target
        have h3 : (match place y ci.N, look y ci.own.names with
          | some i, some .local => some ([i], sh.gName i)
          | some i, some .cell => some ([i], sh.gName i)
          | _, _ => none) = some (vs, g) := e3
        split at h3
        · rename_i i k1 k2
          cases h3
          exact ss_setLc a1 a2 a3 a4 a5 a6 a7 (place_t k1) (isLocal_of e4) hw
        · rename_i i k1 k2
          cases h3
          exact ss_setLc a1 a2 a3 a4 a5 a6 a7 (place_t k1) (isLocal_of e4) hw
        · cases h3
      · cases h
    · rename_i a vs g e1 e2 e3 e0
      cases h
      obtain ⟨tg, iter, ifs, rest, rfl, L⟩ := stepE_lc (fns := fns) (pos := pe) (cm_ok (S := S) n hS hf) hg e0 e2
      obtain ⟨own, vs', ws, ic, g', tt, inner, a1, a2, a3, a4, a5, a6, a7, rfl⟩ := L.ex
      have hw := (swC_ok a5.uniq e1).2 rfl
      exact ss_asg (hE _ _ e2) (hG _ _ _ e3) hw rfl rfl
    · cases h
  · split at h
    · rename_i e0
      split at h
      · rename_i a vs g e1 e2
        cases h
        refine ss_asg (hE _ _ e1) (hG _ _ _ e2) rfl ?_ rfl
        unfold swN
        simp only [parKind0 e0]
      · cases h
    · rename_i e0
      exact cParB_ok hE e0 h
    · cases h
  · cases h
  · rename_i tg e pos' n1 n2 n3
    split at h
    · rename_i a vs g e1 e2 e3 e4
      cases h
      refine ss_asg (hE _ _ e3) (hG _ _ _ e4) ?_ ?_ e2
      · unfold swF
        cases e <;> first | rfl | (simp [notComp] at e1; done)
      · unfold swN
        split
        · rename_i ts k p vs k2 p2
          exact absurd rfl (n2 ts k p vs k2 p2 rfl)
        · exact absurd rfl (n3 _ _)
        · rfl
    · cases h
  · cases h
theorem cmS_ok (h2r : 2 ≤ S.r) (hS : S.Ok) (hf : fns = S.fns) {n : Nat} (hg : CiOk S ci) : ∀ (d : Nat) (l : List Stmt) (r : CS), cmS (al := sh) fns (cm fns (n + 1)) ci d l = some r → SSs S ci l r
  | 0, _, _, h => (nomatch h)
  | d + 1, l, r, h => cSs_ok (fun s r h => stepS_ok h2r hS hf hg (cmS_ok h2r hS hf hg d) h) h
end
end Z
end
set_option Elab.async false
set_option autoImplicit false
set_option linter.all false
set_option maxRecDepth 100000
set_option maxHeartbeats 2000000
/-! Z16: the table of defs. -/
noncomputable section
namespace Z
open PySem PySem.Spec PyProof.Rows L2
/-- a def of the table: its code, with so many further slots; or what it is known to do -/
inductive Fun where
  | code (nl : Nat) (c : CS)
  | orc (f : List D → Sto → K1 → KX → Bool)
def padU (ds : List D) : Nat → (List D → Bool) → Bool := Nat.rec (fun k => appK ds [] k) (fun _ ih k => ih fun r => k r)
/-- so many und -/
def unds (n : Nat) (k : List D → Bool) : Bool := (Nat.rec (fun a k => k a) (fun _ ih a k => ih (D.und :: a) k) n : List D → (List D → Bool) → Bool) [] k
theorem unds_aux (n : Nat) (a : List D) (k) : (Nat.rec (fun a k => k a) (fun _ ih a k => ih (D.und :: a) k) n : List D → (List D → Bool) → Bool) a k = k (List.replicate n D.und ++ a) := by
  induction n generalizing a with
  | zero => rfl
  | succ n ih =>
    show (Nat.rec (fun a k => k a) (fun _ ih a k => ih (D.und :: a) k) n : List D → (List D → Bool) → Bool) (D.und :: a) k = _
    rw [ih, List.replicate_succ', List.append_assoc]
    rfl
theorem unds_eq (n : Nat) (k) : unds n k = k (List.replicate n D.und) := by
  unfold unds
  rw [unds_aux, List.append_nil]
def Fun.run (f : Fun) (ev : Ev) (ds : List D) (M : Sto) (k : K1) (kx : KX) : Bool := Fun.rec (fun nl c => unds nl fun us => appK ds us fun σ => c ev σ M ⟨fun _ M => k .non M, k, fun _ _ => false, fun _ _ => false⟩ kx) (fun g => g ds M k kx) f
def stp (fs : List Fun) (ev : Ev) : Ev := ⟨fun i ds M k kx => nthK fs i fun f => f.run ev ds M k kx⟩
def ev0 : Ev := ⟨fun _ _ _ _ _ => false⟩
def evN (fs : List Fun) (n : Nat) : Ev := Nat.rec ev0 (fun _ ev => stp fs ev) n
section
variable {T : Tb} {fs : List Fun} {fns : List (List Str)}
theorem SR.start {W : Wd} {ds : List D} {vs : List V} {N : List Str} (h : VRs T W ds vs) (hl : vs.length ≤ N.length) : SR T W (ds ++ List.replicate (N.length - vs.length) D.und) (start N vs) := by
  refine ⟨by unfold L2.start; rw [List.length_append, List.length_append, List.length_replicate, List.length_replicate, List.length_map, h.length], fun i d e => ?_⟩
  by_cases hi : i < ds.length
  · rw [List.getElem?_append_left hi] at e
    obtain ⟨v, ev, rv⟩ := h.get e
    refine .inr ⟨v, ?_, rv⟩
    unfold L2.start
    rw [List.getElem?_append_left (by rw [List.length_map, ← h.length]; exact hi), List.getElem?_map, ev]
    rfl
  · rw [List.getElem?_append_right (by omega), List.getElem?_replicate] at e
    split at e
    · cases e; exact .inl rfl
    · cases e
/-- FunD.ok, the code object told -/
theorem funD_okC {P : Program} {w : World} {K : PySem.W.Frag} {mg : Str → Option Value} {base : Heap} {x qual : Str} {params : Arguments} {body : List Stmt} {scope : Scope} {dvs : List V} {kws : List (Str × V)} {f : Addr} {fd : FuncData} {CX : CXT} {N ps : List Str} {k : Nat} {sp : Sp} (F : FunD K x qual params body scope dvs kws f fd) (S : FnScope N ps scope) (len : ∀ vs H Q E, sp vs H Q E → vs.length = ps.length)
    (hbody : ∀ (cdv : Value) (A : Around) (outer : List Env) (s : Shared) (H : Hp) (vs : List V) (Q : VK) (E : XK), Room k (A.deeper (envOfC qual scope s.heap.objs.size f cdv)) → PySem.W.codeIn K cdv qual = true → (∃ oc od osl, K.lookup f = some ⟨oc, od, .func fd, osl⟩ ∧ fd.code = cdv) → sp vs H Q E →
      ∃ t, PSs (cxOf CX P w K mg base N qual scope f cdv A outer s H E) body t ∧ t { nx := fun _ H' => Q .non H', rt := Q } (start N vs) H) : FnOk P w K mg base CX (k + 1) f fd ps sp := by
  obtain ⟨oc, od, dV, kV, doc, pm, an, cdv, ct, osl, rfl, lk, hcd, _, _⟩ := F.ex
  exact fn_of lk hcd S len fun A outer s H vs Q E hr hsp => hbody cdv A outer s H vs Q E hr hcd ⟨oc, od, osl, lk, rfl⟩ hsp
theorem code_ref {K : PySem.W.Frag} {cdv : Value} {q : Str} (h : PySem.W.codeIn K cdv q = true) : ∃ c, cdv = .ref c := by
  unfold PySem.W.codeIn at h
  split at h
  · exact ⟨_, rfl⟩
  · cases h
/-- what a def that makes lambdas must show -/
def TabF (T : Tb) (i : Nat) (g qual : Str) : Prop := He.fAd T.K (g, none) = T.fa i ∧ ∃ P, LamX.TabB T.base T.mg (He.codeOf T.K (g, none)) P ∧ (P, (qual ++ ".<locals>.") ++ "<lambda>") ∈ T.tabs ∧ ∀ p ∈ T.tabs, p.1 = P → p.2 = (qual ++ ".<locals>.") ++ "<lambda>"
theorem tabE_of {T : Tb} {i : Nat} {g qual : Str} {scope : Scope} {fd : FuncData} {cdv : Value} {N : List Str} {A : Around} {outer : List Env} {s : Shared} {H : Hp} {E : XK} (h : TabF T i g qual) (hc : PySem.W.codeIn T.K cdv qual = true) (hk : ∃ oc od osl, T.K.lookup (T.fa i) = some ⟨oc, od, .func fd, osl⟩ ∧ fd.code = cdv) :
    TabE T (cxOf (L2.CX T.P T.w) T.P T.w T.K T.mg T.base N qual scope (T.fa i) cdv A outer s H E) := by
  obtain ⟨hf, P, tb, h1, h2⟩ := h
  obtain ⟨oc, od, osl, lk, ec⟩ := hk
  obtain ⟨c, rfl⟩ := code_ref hc
  have : He.codeOf T.K (g, none) = c := He.codeOf_eq (by rw [hf]; exact lk) ec
  rw [this] at tb
  exact ⟨c, P, rfl, tb, h1, h2⟩
/-- nothing is promised at depth 0 -/
theorem fn_zero {i : Nat} {ps : List Str} {fd : FuncData} (kp : PySem.W.keepIn T.K (.ref (T.fa i)) = true) (b : Binds T.K fd ps []) (hkw : kwB T i = true → BindsKw T.K fd ps) : FnIs T (evN fs 0) 0 i ps :=
  ⟨fd, ⟨fun vs H Q E ⟨W, ds, M, k, kx, _, _, _, hl, h, _⟩ => (nomatch h), fun A outer s H args us vs Q E hr he hb hv ⟨W, ds, M, k, kx, _, _, _, hl, h, _⟩ => (nomatch h)⟩, kp, b, hkw⟩
/-- a def by its code, its promise told by the code -/
theorem fn_raw {i nl d e : Nat} {ps N : List Str} {x qual : Str} {params : Arguments} {body : List Stmt} {scope : Scope} {fd : FuncData} {c : CS} {gl : List (Str × Gd)} {n : Nat} {ev : Ev} {tab : Bool} {g0 : Str}
    (ht : tab = true → TabF T i g0 qual) (F : FunD T.K x qual params body scope [] [] (T.fa i) fd) (sc : FnScope N ps scope) (hg : GlOk T gl) (hN : N.length = ps.length + nl)
    (hc : St8.Ok ⟨T, ev, n + 2, fns, n⟩ → SSs ⟨T, ev, n + 2, fns, n⟩ ⟨N, scope, scope, gl, tab, false⟩ body c)
    (hS : St8.Ok ⟨T, ev, n + 2, fns, n⟩) : FnOk T.P T.w T.K T.mg T.base (L2.CX T.P T.w) (n + 3) (T.fa i) fd ps (spOf T ⟨fun _ ds M k kx => (Fun.code nl c).run (ev) ds M k kx⟩ i ps.length) := by
  refine funD_okC F sc (fun vs H Q E ⟨W, ds, M, k, kx, _, _, _, hl, _⟩ => hl) (fun cdv A outer s H vs Q E hr hcd hkl ⟨W, ds, M, k, kx, eH, m, rs, hl, h, hQ, hx⟩ => ?_)
  subst eH
  refine ⟨TofSs (cxOf (L2.CX T.P T.w) T.P T.w T.K T.mg T.base N qual scope (T.fa i) cdv A outer s W.H E) body, pss_tof, ?_⟩
  have h2 : unds nl (fun us => appK ds us fun σ => c (ev) σ M ⟨fun _ M => k .non M, k, fun _ _ => false, fun _ _ => false⟩ kx) = true := h
  rw [unds_eq, appK_eq] at h2
  have en : nl = N.length - vs.length := by omega
  rw [en] at h2
  have tk := takes_of (X := cxOf (L2.CX T.P T.w) T.P T.w T.K T.mg T.base N qual scope (T.fa i) cdv A outer s W.H E) (E := E) rfl rfl rfl rfl
  refine hc hS _ (fun cls d _ H => E cls d H) ⟨rfl, rfl, rfl, rfl, rfl, rfl, sc.nd, hr, tk⟩ ⟨passes_of rfl, rfl, rfl, sc.kind⟩ ⟨rfl, rfl, fun x hx => ⟨hx, .inl rfl⟩, fun z => tabE_of (ht z) hcd hkl, fun z => (nomatch z)⟩
    W _ _ M _ kx _ (SR.start rs (by omega)) m h2 ⟨fun W' σd' σ' M' l m s e => hQ W' _ _ M' l m .non e, hQ, fun W' σd' σ' M' l m s e => (nomatch e), fun W' σd' σ' M' l m s e => (nomatch e)⟩ (fun σ => hx)
theorem fn_code {i nl d e : Nat} {ps N : List Str} {x qual : Str} {params : Arguments} {body : List Stmt} {scope : Scope} {fd : FuncData} {c : CS} {gl : List (Str × Gd)} {n : Nat} {ev : Ev} {tab : Bool} {g0 : Str}
    (ht : tab = true → TabF T i g0 qual) (F : FunD T.K x qual params body scope [] [] (T.fa i) fd) (b : Binds T.K fd ps []) (hkw : kwB T i = true → BindsKw T.K fd ps) (sc : FnScope N ps scope) (hg : GlOk T gl) (hi : fs[i]? = some (.code nl c)) (hN : N.length = ps.length + nl) (hc : cmS (al := sh) fns (cm fns (e + 1)) ⟨N, scope, scope, gl, tab, false⟩ d body = some c)
    (hS : St8.Ok ⟨T, ev, n + 2, fns, n⟩) : FnIs T (stp fs ev) (n + 3) i ps := by
  have R := fn_raw (d := d) (e := e) ht F sc hg hN (fun hS => cmS_ok (S := ⟨T, ev, n + 2, fns, n⟩) (ci := ⟨N, scope, scope, gl, tab, false⟩) (Nat.le_add_left 2 n) hS rfl ⟨hg, fun _ => Nat.le_refl _⟩ d body c hc) hS
  refine ⟨fd, R.imp fun vs H Q E ⟨W, ds, M, k, kx, q1, q2, q3, q4, h, q5⟩ => ⟨W, ds, M, k, kx, q1, q2, q3, q4, ?_, q5⟩, F.kp, b, hkw⟩
  have h1 : nthK fs i (fun f => f.run (ev) ds M k kx) = true := h
  rw [nthK_of hi] at h1
  exact h1
/-- a def by what it is known to do -/
theorem fn_orc {i nl d e : Nat} {ps N : List Str} {x qual : Str} {params : Arguments} {body : List Stmt} {scope : Scope} {fd : FuncData} {c : CS} {gl : List (Str × Gd)} {n : Nat} {ev : Ev} {tab : Bool} {g0 : Str} {g : List D → Sto → K1 → KX → Bool}
    (ht : tab = true → TabF T i g0 qual) (F : FunD T.K x qual params body scope [] [] (T.fa i) fd) (b : Binds T.K fd ps []) (hkw : kwB T i = true → BindsKw T.K fd ps) (sc : FnScope N ps scope) (hg : GlOk T gl) (hi : fs[i]? = some (.orc g)) (hN : N.length = ps.length + nl)
    (hc : St8.Ok ⟨T, ev, n + 2, fns, n⟩ → SSs ⟨T, ev, n + 2, fns, n⟩ ⟨N, scope, scope, gl, tab, false⟩ body c)
    (hw : ∀ vs H Q E, spOf T ⟨fun _ ds M k kx => g ds M k kx⟩ i ps.length vs H Q E → spOf T ⟨fun _ ds M k kx => (Fun.code nl c).run (ev) ds M k kx⟩ i ps.length vs H Q E)
    (hS : St8.Ok ⟨T, ev, n + 2, fns, n⟩) : FnIs T (stp fs ev) (n + 3) i ps := by
  have R := fn_raw (d := d) (e := e) ht F sc hg hN hc hS
  refine ⟨fd, R.imp fun vs H Q E ⟨W, ds, M, k, kx, q1, q2, q3, q4, h, q5⟩ => hw vs H Q E ⟨W, ds, M, k, kx, q1, q2, q3, q4, ?_, q5⟩, F.kp, b, hkw⟩
  have h1 : nthK fs i (fun f => f.run (ev) ds M k kx) = true := h
  rw [nthK_of hi] at h1
  exact h1
/-- the table -/
theorem table_ok (h0 : ∀ i ps, fns[i]? = some ps → FnIs T (evN fs 0) 0 i ps) (h1 : ∀ n ev, St8.Ok ⟨T, ev, n + 2, fns, n⟩ → ∀ i ps, fns[i]? = some ps → FnIs T (stp fs ev) (n + 3) i ps) : ∀ n, St8.Ok ⟨T, evN fs n, 3 * n + 2, fns, 3 * n⟩
  | 0 => ⟨fun i ps h => h0 i ps h, Nat.zero_le _⟩
  | n + 1 => ⟨fun i ps h => h1 (3 * n) _ (table_ok h0 h1 n) i ps h, Nat.le_add_right _ _⟩
end
end Z
end
set_option Elab.async false
set_option autoImplicit false
set_option linter.all false
set_option maxRecDepth 100000
set_option maxHeartbeats 4000000
/-! ZPen: the law's draws. -/
noncomputable section
namespace Z
open PySem PySem.Spec PyProof.Rows L2

/-! ### the store, the other way -/
theorem Tr.getK_of {t : Tr} : ∀ {k : Nat} {c : Cell} {f : Cell → Bool}, t.get k = some c → t.getK k f = f c := by
  induction t with
  | lf => intro k c f h; cases h
  | nd l v r ihl ihr =>
    intro k c f h
    cases k with
    | zero => cases h; rfl
    | succ m =>
      show (Bool.rec (r.getK (m / 2) f) (l.getK (m / 2) f) (Nat.beq (m % 2) 0) : Bool) = _
      unfold Tr.get at h
      rw [if_neg (Nat.succ_ne_zero m)] at h
      cases hb : Nat.beq (m % 2) 0 with
      | true =>
        have := Nat.eq_of_beq_eq_true hb
        rw [if_pos (by omega)] at h
        exact ihl h
      | false =>
        have : m % 2 ≠ 0 := fun z => by rw [z] at hb; cases hb
        rw [if_neg (by omega)] at h
        exact ihr h
theorem Tr.setK_of {t : Tr} : ∀ {k : Nat} {c d : Cell} {f : Tr → Bool}, t.get k = some d → t.setK k c f = f (t.set k c) := by
  induction t with
  | lf => intro k c d f h; cases h
  | nd l v r ihl ihr =>
    intro k c d f h
    cases k with
    | zero => rfl
    | succ m =>
      show (Bool.rec (r.setK (m / 2) c fun r' => f (.nd l v r')) (l.setK (m / 2) c fun l' => f (.nd l' v r)) (Nat.beq (m % 2) 0) : Bool) = _
      unfold Tr.get at h
      unfold Tr.set
      rw [if_neg (Nat.succ_ne_zero m)] at h ⊢
      cases hb : Nat.beq (m % 2) 0 with
      | true =>
        have := Nat.eq_of_beq_eq_true hb
        rw [if_pos (by omega)] at h ⊢
        exact ihl (f := fun l' => f (.nd l' v r)) h
      | false =>
        have : m % 2 ≠ 0 := fun z => by rw [z] at hb; cases hb
        rw [if_neg (by omega)] at h ⊢
        exact ihr (f := fun r' => f (.nd l v r')) h
theorem getC_of {M : Sto} {l : Nat} {c : Cell} {f} (h : M.get l = some c) (hl : l < M.n) : getC M l f = f c := by
  unfold getC
  rw [Nat.blt_eq.mpr hl]
  exact Tr.getK_of h
theorem setC_of {M : Sto} {l : Nat} {c d : Cell} {f} (h : M.get l = some d) : setC M l c f = f (M.set l c) := Tr.setK_of h
theorem Sto.get_set {M : Sto} {l : Nat} {c d : Cell} (h : M.get l = some d) : (M.set l c).get l = some c := Tr.get_set_old _ _ _ (by rw [show M.t.get l = some d from h]; rfl)
theorem Sto.get_ne {M : Sto} {l k : Nat} {c : Cell} (h : k ≠ l) : (M.set l c).get k = M.get k := Tr.get_set_ne _ _ _ _ h
/-- retold -/
theorem MR.re {T : Tb} {W : Wd} {M M' : Sto} (m : MR T W M) (hn : M'.n = M.n) (hf : M'.full) {l : Nat} (ho : ∀ k, k ≠ l → M'.get k = M.get k) (hc : ∀ c, M'.get l = some c → CR T W c (W.ρ l)) : MR T W M' :=
  ⟨hn.trans m.n, hf, fun k c hk e => by
    by_cases z : k = l
    · subst z; exact hc c e
    · exact m.cell k c hk (by rw [← ho k z]; exact e), m.inj, m.tabs⟩
/-! ### a pen as a dict -/
def penC (p : PenS) : Cell := .dct false [(.str [99,101,108,108,115], .lv (p.cs.map D.int)), (.str [97,116], .int p.a), (.str [100,105,103,105,116,115], .int p.d), (.str [99,111,117,110,116], .int p.n), (.str [102,111,108,100], .int p.f)]
theorem s_cells : toS [99,101,108,108,115] = ("cells" : Str) := by decide +kernel
theorem s_at : toS [97,116] = ("at" : Str) := by decide +kernel
theorem s_digits : toS [100,105,103,105,116,115] = ("digits" : Str) := by decide +kernel
theorem s_count : toS [99,111,117,110,116] = ("count" : Str) := by decide +kernel
theorem s_fold : toS [102,111,108,100] = ("fold" : Str) := by decide +kernel
theorem vrs_ints {T : Tb} {W : Wd} (is : List Int) : VRs T W (is.map D.int) (is.map V.int) := VRs.of_ints is
theorem pen_open {T : Tb} {W : Wd} {a : Addr} (h : PenOk T.K W.H a) : ∃ p : PenS, p.ok ∧ CR T W (penC p) a := by
  obtain ⟨b, p, e1, e2, h1⟩ := h
  refine ⟨p, h1, _, e1, ?_⟩
  show KR T W _ _
  unfold KR
  refine .cons ⟨?_, .lv e2 (vrs_ints _)⟩ (.cons ⟨?_, .int _⟩ (.cons ⟨?_, .int _⟩ (.cons ⟨?_, .int _⟩ (.cons ⟨?_, .int _⟩ .nil))))
  · show some (Sum.inr (toS _)) = _; rw [s_cells]
  · show some (Sum.inr (toS _)) = _; rw [s_at]
  · show some (Sum.inr (toS _)) = _; rw [s_digits]
  · show some (Sum.inr (toS _)) = _; rw [s_count]
  · show some (Sum.inr (toS _)) = _; rw [s_fold]
theorem KR.uncons {T : Tb} {W : Wd} {a b : D} {kvs : List (D × D)} {ks : List (Key × V)} (h : KR T W ((a, b) :: kvs) ks) : ∃ k v ks', ks = (k, v) :: ks' ∧ keyD a = some k ∧ VR T W b v ∧ KR T W kvs ks' := by
  unfold KR at h
  cases h with
  | @cons _ q _ qs h r =>
    obtain ⟨k, v⟩ := q
    exact ⟨k, v, _, rfl, h.1, h.2, r⟩
theorem keyS {s : List Nat} {k : Key} (h : keyD (.str s) = some k) : k = .inr (toS s) := by cases h; rfl
theorem pen_shut {T : Tb} {W : Wd} {a : Addr} {p : PenS} (h : CR T W (penC p) a) (ok : p.ok) : PenOk T.K W.H a := by
  obtain ⟨u, e, r⟩ := h
  cases u <;> first | exact False.elim r | skip
  rename_i ks
  obtain ⟨k1, v1, _, rfl, a1, b1, r⟩ := KR.uncons (show KR T W _ ks from r)
  obtain ⟨k2, v2, _, rfl, a2, b2, r⟩ := r.uncons
  obtain ⟨k3, v3, _, rfl, a3, b3, r⟩ := r.uncons
  obtain ⟨k4, v4, _, rfl, a4, b4, r⟩ := r.uncons
  obtain ⟨k5, v5, _, rfl, a5, b5, r⟩ := r.uncons
  have r' : Paired _ [] _ := r
  cases r'
  have a1 := keyS a1
  have a2 := keyS a2
  have a3 := keyS a3
  have a4 := keyS a4
  have a5 := keyS a5
  rw [s_cells] at a1
  rw [s_at] at a2
  rw [s_digits] at a3
  rw [s_count] at a4
  rw [s_fold] at a5
  subst a1 a2 a3 a4 a5
  cases b2; cases b3; cases b4; cases b5
  cases b1 with
  | lv hb hs =>
    have := hs.ints
    subst this
    exact ⟨_, p, e, hb, ok⟩
/-! ### the steps of a draw -/
section
variable {M : Sto} {l : Nat} {p : PenS} {f : K1}
theorem ix_pen {key : List Nat} {v : D} (h : M.get l = some (penC p)) (hl : l < M.n) (hk : lookK [(.str [99,101,108,108,115], .lv (p.cs.map D.int)), (.str [97,116], .int p.a), (.str [100,105,103,105,116,115], .int p.d), (.str [99,111,117,110,116], .int p.n), (.str [102,111,108,100], .int p.f)] (.str key) (fun d => f d M) false = f v M) : gIx (.loc l) (.str key) M f = f v M := by
  show getC M l _ = _
  rw [getC_of h hl]
  show dctC M l _ = _
  unfold dctC
  rw [getC_of h hl]
  exact hk
theorem ix_cells (h : M.get l = some (penC p)) (hl : l < M.n) : gIx (.loc l) (.str [99,101,108,108,115]) M f = f (.lv (p.cs.map D.int)) M := ix_pen h hl rfl
theorem ix_at (h : M.get l = some (penC p)) (hl : l < M.n) : gIx (.loc l) (.str [97,116]) M f = f (.int p.a) M := ix_pen h hl rfl
theorem ix_digits (h : M.get l = some (penC p)) (hl : l < M.n) : gIx (.loc l) (.str [100,105,103,105,116,115]) M f = f (.int p.d) M := ix_pen h hl rfl
theorem ix_count (h : M.get l = some (penC p)) (hl : l < M.n) : gIx (.loc l) (.str [99,111,117,110,116]) M f = f (.int p.n) M := ix_pen h hl rfl
theorem ix_fold (h : M.get l = some (penC p)) (hl : l < M.n) : gIx (.loc l) (.str [102,111,108,100]) M f = f (.int p.f) M := ix_pen h hl rfl
theorem set_pen {key : List Nat} {v : D} {q : PenS} {k : Sto → Bool} (h : M.get l = some (penC p)) (hl : l < M.n)
    (hk : putD (.str key) v [(.str [99,101,108,108,115], .lv (p.cs.map D.int)), (.str [97,116], .int p.a), (.str [100,105,103,105,116,115], .int p.d), (.str [99,111,117,110,116], .int p.n), (.str [102,111,108,100], .int p.f)] false (fun kvs' => setC M l (.dct false kvs') k) = setC M l (penC q) k) : gSet (.loc l) (.str key) v M k = k (M.set l (penC q)) := by
  show getC M l _ = _
  rw [getC_of h hl, ← setC_of (f := k) h, ← hk]
  rfl
theorem set_at {i : Int} {k : Sto → Bool} (h : M.get l = some (penC p)) (hl : l < M.n) : gSet (.loc l) (.str [97,116]) (.int i) M k = k (M.set l (penC { p with a := i })) := set_pen h hl rfl
theorem set_digits {i : Int} {k : Sto → Bool} (h : M.get l = some (penC p)) (hl : l < M.n) : gSet (.loc l) (.str [100,105,103,105,116,115]) (.int i) M k = k (M.set l (penC { p with d := i })) := set_pen h hl rfl
theorem set_count {i : Int} {k : Sto → Bool} (h : M.get l = some (penC p)) (hl : l < M.n) : gSet (.loc l) (.str [99,111,117,110,116]) (.int i) M k = k (M.set l (penC { p with n := i })) := set_pen h hl rfl
theorem set_fold {i : Int} {k : Sto → Bool} (h : M.get l = some (penC p)) (hl : l < M.n) : gSet (.loc l) (.str [102,111,108,100]) (.int i) M k = k (M.set l (penC { p with f := i })) := set_pen h hl rfl
end
end Z
end
set_option Elab.async false
set_option autoImplicit false
set_option linter.all false
set_option maxRecDepth 100000
set_option maxHeartbeats 4000000
/-! ZDraw: _law_draw, by its code. -/
noncomputable section
namespace Z
open PySem PySem.Spec PyProof.Rows L2
section
variable {M : Sto} {f : K1}
theorem q_add (i j : Int) : gAdd (.int i) (.int j) M f = f (.int (i + j)) M := by show frI (iadd i j) (fun z => f (.int z) M) = _; rw [frI_eq, iadd_eq]
theorem q_sub (i j : Int) : gSub (.int i) (.int j) M f = f (.int (i - j)) M := by show frI (isub i j) (fun z => f (.int z) M) = _; rw [frI_eq, isub_eq]
theorem q_mul (i j : Int) (h : Nat.add (Nat.log2 (Int.natAbs i)) (Nat.log2 (Int.natAbs j)) < 1000000) : gMul (.int i) (.int j) M f = f (.int (i * j)) M := by
  show chk _ (frI (imul i j) _) = _
  rw [Nat.blt_eq.mpr h, frI_eq, imul_eq]; rfl
theorem q_mod (i : Int) (n : Nat) (h : 0 < n) : gMod (.int i) (.int (.ofNat n)) M f = f (.int (i % (n : Int))) M := by
  show chk _ (frI (imodP i n) _) = _
  rw [Nat.blt_eq.mpr h, frI_eq, imodP_eq _ _ h]; rfl
theorem q_div (i : Int) (n : Nat) (h : 0 < n) (h2 : Nat.log2 n < 9000) : gDiv (.int i) (.int (.ofNat n)) M f = f (.int (i / (n : Int))) M := by
  show chk _ (chk _ (frI (idivP i n) _)) = _
  rw [Nat.blt_eq.mpr h, Nat.blt_eq.mpr h2, frI_eq, idivP_eq _ _ h]; rfl
theorem q_pow : gPow (.int 10) (.int 18) M f = f (.int (1000000000000000000)) M := by
  show chk (Nat.ble 18 1000) (chk (Nat.blt 10 18446744073709551616) (frN (Nat.pow 10 18) fun z => f (.int (.ofNat z)) M)) = _
  rw [frN_eq]; rfl
theorem q_ge (i j : Int) : gGe (.int i) (.int j) M f = f (.bl (decide (j ≤ i))) M := by show frB (ile j i) (fun z => f (.bl z) M) = _; rw [frB_eq, ile_eq]
theorem q_gt (i j : Int) : gGt (.int i) (.int j) M f = f (.bl (decide (j < i))) M := by show frB (ilt j i) (fun z => f (.bl z) M) = _; rw [frB_eq, ilt_eq]
theorem q_lt (i j : Int) : gLt (.int i) (.int j) M f = f (.bl (decide (i < j))) M := by show frB (ilt i j) (fun z => f (.bl z) M) = _; rw [frB_eq, ilt_eq]
theorem q_eq (i j : Int) : gEq (.int i) (.int j) M f = f (.bl (decide (i = j))) M := by show frB (ieq i j) (fun z => f (.bl z) M) = _; rw [frB_eq, ieq_eq]
theorem q_len (xs : List D) : gLen [.lv xs] M f = f (.int (xs.length : Int)) M := by show lenK xs _ = _; rw [lenK_eq]; rfl
theorem q_int (i : Int) : gInt [.int i] M f = f (.int i) M := rfl
theorem q_ix {cs : List Int} {i : Int} {x : Int} (h0 : 0 ≤ i) (h : cs[i.toNat]? = some x) : gIx (.lv (cs.map D.int)) (.int i) M f = f (.int x) M := by
  obtain ⟨n, rfl⟩ := Int.eq_ofNat_of_zero_le h0
  show nthK (cs.map D.int) n _ = _
  rw [nthK_of (x := D.int x)]
  rw [List.getElem?_map]
  rw [show ((n : Int)).toNat = n from rfl] at h
  rw [h]; rfl
theorem u_loc (l : Nat) (b : Bool) : notU (.loc l) b = b := rfl
theorem u_int (l : Int) (b : Bool) : notU (.int l) b = b := rfl
theorem q_bl (b : Bool) (k : Bool → Bool) : isBl (.bl b) k = k b := rfl
end
/-- the draw's code -/
def cDraw : CS := (cSeq (cAsg (cBin gAdd (cBin gIx (cVar 0) (cLit (.str [99,111,117,110,116]))) (cInt (1))) (cGSub (cVar 0) (cLit (.str [99,111,117,110,116])))) (cSeq (cIfS (cAndT (cTst (cBin gEq (cBin gIx (cVar 0) (cLit (.str [100,105,103,105,116,115]))) (cInt (0)))) (cTst (cBin gLt (cBin gIx (cVar 0) (cLit (.str [97,116]))) (cBlt gLen (cCons (cBin gIx (cVar 0) (cLit (.str [99,101,108,108,115]))) cNil))))) (cSeq (cAsg (cBin gIx (cBin gIx (cVar 0) (cLit (.str [99,101,108,108,115]))) (cBin gIx (cVar 0) (cLit (.str [97,116])))) (cGName 2)) (cSeq (cAsg (cBin gAdd (cBin gIx (cVar 0) (cLit (.str [97,116]))) (cInt (1))) (cGSub (cVar 0) (cLit (.str [97,116])))) (cIfS (cTst (cBin gGe (cVar 2) (cBin gPow (cInt (10)) (cInt (18))))) (cAsg (cBin gSub (cVar 2) (cBin gPow (cInt (10)) (cInt (18)))) (cGSub (cVar 0) (cLit (.str [100,105,103,105,116,115])))) (cAsg (cBin gMod (cBlt gInt (cCons (cBin gAdd (cBin gMul (cBin gIx (cVar 0) (cLit (.str [102,111,108,100]))) (cInt (60083))) (cVar 2)) cNil)) (cInt (2147483543))) (cGSub (cVar 0) (cLit (.str [102,111,108,100]))))))) cNext) (cSeq (cIfS (cTst (cBin gGt (cBin gIx (cVar 0) (cLit (.str [100,105,103,105,116,115]))) (cInt (0)))) (cSeq (cAsg (cBin gMod (cBlt gInt (cCons (cBin gIx (cVar 0) (cLit (.str [100,105,103,105,116,115]))) cNil)) (cVar 1)) (cGName 3)) (cSeq (cAsg (cBin gDiv (cBin gIx (cVar 0) (cLit (.str [100,105,103,105,116,115]))) (cVar 1)) (cGSub (cVar 0) (cLit (.str [100,105,103,105,116,115])))) (cRet (cVar 3)))) cNext) (cSeq (cAsg (cBin gMod (cBlt gInt (cCons (cBin gAdd (cBin gAdd (cBin gMul (cBin gIx (cVar 0) (cLit (.str [102,111,108,100]))) (cInt (48271))) (cBin gIx (cVar 0) (cLit (.str [99,111,117,110,116])))) (cInt (29))) cNil)) (cInt (2147483543))) (cGSub (cVar 0) (cLit (.str [102,111,108,100])))) (cRet (cBin gMod (cBlt gInt (cCons (cBin gDiv (cBin gIx (cVar 0) (cLit (.str [102,111,108,100]))) (cInt (101))) cNil)) (cVar 1)))))))
/-- the last part: the fold gives the digit -/
theorem fold_small {x : Int} (h0 : 0 ≤ x) (h1 : x < 2147483543) (j : Nat) (hj : Nat.log2 j < 100) : Nat.add (Nat.log2 (Int.natAbs x)) (Nat.log2 (Int.natAbs (Int.ofNat j))) < 1000000 := by
  have e : x.natAbs < 2 ^ 32 := by omega
  have : x.natAbs.log2 < 32 := by
    by_cases z : x.natAbs = 0
    · rw [z]; decide
    · exact (Nat.log2_lt z).mpr e
  show x.natAbs.log2 + Nat.log2 j < 1000000
  omega
/-- where a draw may end -/
def DrawEnd (M : Sto) (l many : Nat) (k : K1) : Prop := ∀ (i : Nat) (q : PenS) (M' : Sto), i < many → q.ok → M'.n = M.n → M'.full → (∀ j, j ≠ l → M'.get j = M.get j) → M'.get l = some (penC q) → k (.int (.ofNat i)) M' = true
theorem draw_run {ev : Ev} {M : Sto} {l many : Nat} {p : PenS} {k : K1} {ks : Ks} (hr : ks.rt = k) (hm : 0 < many) (hm2 : Nat.log2 many < 9000) (hf : M.full) (hl : l < M.n) (hp : M.get l = some (penC p)) (ok : p.ok) (hk : DrawEnd M l many k) :
    cDraw ev [.loc l, .int (.ofNat many), .und, .und] M ks kx0 = true := by
  obtain ⟨o1, o2, o3, o4, o5⟩ := ok
  have st : ∀ {M1 : Sto} {q q' : PenS}, (M1.n = M.n ∧ M1.full ∧ (∀ j, j ≠ l → M1.get j = M.get j) ∧ M1.get l = some (penC q)) → ((M1.set l (penC q')).n = M.n ∧ (M1.set l (penC q')).full ∧ (∀ j, j ≠ l → (M1.set l (penC q')).get j = M.get j) ∧ (M1.set l (penC q')).get l = some (penC q')) := fun {M1 q q'} ⟨a, b, c, d⟩ =>
    ⟨a, Sto.set_full b, fun j hj => (Sto.get_ne hj).trans (c j hj), Sto.get_set d⟩
  -- the last part
  have last : ∀ (M1 : Sto) (q : PenS) (σ : SEnv), (M1.n = M.n ∧ M1.full ∧ (∀ j, j ≠ l → M1.get j = M.get j) ∧ M1.get l = some (penC q)) → q.ok → σ[0]? = some (.loc l) → σ[1]? = some (.int (.ofNat many)) →
      (cSeq (cAsg (cBin gMod (cBlt gInt (cCons (cBin gAdd (cBin gAdd (cBin gMul (cBin gIx (cVar 0) (cLit (.str [102,111,108,100]))) (cInt (48271))) (cBin gIx (cVar 0) (cLit (.str [99,111,117,110,116])))) (cInt (29))) cNil)) (cInt (2147483543))) (cGSub (cVar 0) (cLit (.str [102,111,108,100])))) (cRet (cBin gMod (cBlt gInt (cCons (cBin gDiv (cBin gIx (cVar 0) (cLit (.str [102,111,108,100]))) (cInt (101))) cNil)) (cVar 1)))) ev σ M1 ks kx0 = true := by
    rintro M1 q σ ⟨a, b, c, d⟩ ⟨q1, q2, q3, q4, q5⟩ s0 s1
    have hl1 : l < M1.n := by rw [a]; exact hl
    simp only [cSeq, cAsg, cBin, cBlt, cCons, cVar, cLit, cInt, cNil, cGSub, cRet, frI_eq]
    rw [nthK_of s0, u_loc, ix_fold d hl1, show (48271 : Int) = Int.ofNat 48271 from rfl, q_mul _ _ (fold_small q4 q5 48271 (by decide)), nthK_of s0, u_loc, ix_count d hl1, q_add, q_add, q_int,
      show (2147483543 : Int) = Int.ofNat 2147483543 from rfl, q_mod _ _ (by decide), nthK_of s0, u_loc, set_fold d hl1, nthK_of s0, u_loc]
    generalize hx : (q.f * Int.ofNat 48271 + q.n + 29) % ((2147483543 : Nat) : Int) = x
    have x0 : 0 ≤ x := by rw [← hx]; exact Int.emod_nonneg _ (by decide)
    have x1 : x < 2147483543 := by rw [← hx]; exact Int.emod_lt_of_pos _ (by decide)
    obtain ⟨a', b', c', d'⟩ := st (q' := { q with f := x }) ⟨a, b, c, d⟩
    rw [ix_fold d' (by rw [a']; exact hl), show (101 : Int) = Int.ofNat 101 from rfl, q_div _ _ (by decide) (by decide), q_int, nthK_of s1, u_int, q_mod _ _ hm, hr]
    have y0 : 0 ≤ (x / ((101 : Nat) : Int)) % (many : Int) := Int.emod_nonneg _ (by omega)
    have y1 : (x / ((101 : Nat) : Int)) % (many : Int) < many := Int.emod_lt_of_pos _ (by omega)
    obtain ⟨i, hi⟩ := Int.eq_ofNat_of_zero_le y0
    show k (.int ((x / ((101 : Nat) : Int)) % (many : Int))) _ = true
    rw [hi]
    exact hk i { q with f := x } _ (by omega) ⟨q1, q2, q3, x0, x1⟩ a' b' c' d'
  -- the digit, or the last part
  have mid : ∀ (M1 : Sto) (q : PenS) (σ : SEnv), (M1.n = M.n ∧ M1.full ∧ (∀ j, j ≠ l → M1.get j = M.get j) ∧ M1.get l = some (penC q)) → q.ok → σ.length = 4 → σ[0]? = some (.loc l) → σ[1]? = some (.int (.ofNat many)) →
      (cSeq (cIfS (cTst (cBin gGt (cBin gIx (cVar 0) (cLit (.str [100,105,103,105,116,115]))) (cInt (0)))) (cSeq (cAsg (cBin gMod (cBlt gInt (cCons (cBin gIx (cVar 0) (cLit (.str [100,105,103,105,116,115]))) cNil)) (cVar 1)) (cGName 3)) (cSeq (cAsg (cBin gDiv (cBin gIx (cVar 0) (cLit (.str [100,105,103,105,116,115]))) (cVar 1)) (cGSub (cVar 0) (cLit (.str [100,105,103,105,116,115])))) (cRet (cVar 3)))) cNext) (cSeq (cAsg (cBin gMod (cBlt gInt (cCons (cBin gAdd (cBin gAdd (cBin gMul (cBin gIx (cVar 0) (cLit (.str [102,111,108,100]))) (cInt (48271))) (cBin gIx (cVar 0) (cLit (.str [99,111,117,110,116])))) (cInt (29))) cNil)) (cInt (2147483543))) (cGSub (cVar 0) (cLit (.str [102,111,108,100])))) (cRet (cBin gMod (cBlt gInt (cCons (cBin gDiv (cBin gIx (cVar 0) (cLit (.str [102,111,108,100]))) (cInt (101))) cNil)) (cVar 1))))) ev σ M1 ks kx0 = true := by
    intro M1 q σ hs qo hlen s0 s1
    have lst := last M1 q σ hs qo s0 s1
    obtain ⟨a, b, c, d⟩ := hs
    obtain ⟨q1, q2, q3, q4, q5⟩ := qo
    have hl1 : l < M1.n := by rw [a]; exact hl
    rw [cSeq]
    generalize hL : (cSeq (cAsg (cBin gMod (cBlt gInt (cCons (cBin gAdd (cBin gAdd (cBin gMul (cBin gIx (cVar 0) (cLit (.str [102,111,108,100]))) (cInt (48271))) (cBin gIx (cVar 0) (cLit (.str [99,111,117,110,116])))) (cInt (29))) cNil)) (cInt (2147483543))) (cGSub (cVar 0) (cLit (.str [102,111,108,100])))) (cRet (cBin gMod (cBlt gInt (cCons (cBin gDiv (cBin gIx (cVar 0) (cLit (.str [102,111,108,100]))) (cInt (101))) cNil)) (cVar 1)))) = Lc at lst ⊢
    simp only [cIfS, cTst, cBin, cVar, cLit, cInt, frI_eq]
    rw [nthK_of s0, u_loc, ix_digits d hl1, q_gt, q_bl]
    by_cases hd : 0 < q.d
    · rw [decide_eq_true hd]
      simp only [cSeq, cAsg, cBin, cBlt, cCons, cVar, cLit, cNil, cGSub, cGName, cRet]
      rw [nthK_of s0, u_loc, ix_digits d hl1, q_int, nthK_of s1, u_int, q_mod _ _ hm, setK_of (by rw [hlen]; decide)]
      generalize hx : q.d % (many : Int) = x
      have y0 : 0 ≤ x := by rw [← hx]; exact Int.emod_nonneg _ (by omega)
      have y1 : x < many := by rw [← hx]; exact Int.emod_lt_of_pos _ (by omega)
      have t0 : (σ.set 3 (.int x))[0]? = some (.loc l) := by rw [List.getElem?_set_ne (by decide)]; exact s0
      have t1 : (σ.set 3 (.int x))[1]? = some (.int (.ofNat many)) := by rw [List.getElem?_set_ne (by decide)]; exact s1
      have t3 : (σ.set 3 (.int x))[3]? = some (.int x) := List.getElem?_set_self (by rw [hlen]; decide)
      rw [nthK_of t0, u_loc, ix_digits d hl1, nthK_of t1, u_int, q_div _ _ hm hm2, nthK_of t0, u_loc, set_digits d hl1, nthK_of t3, u_int, hr]
      obtain ⟨a', b', c', d'⟩ := st (q' := { q with d := q.d / (many : Int) }) ⟨a, b, c, d⟩
      obtain ⟨i, rfl⟩ := Int.eq_ofNat_of_zero_le y0
      exact hk i { q with d := q.d / (many : Int) } _ (by omega) ⟨q1, q2, Int.ediv_nonneg q3 (by omega), q4, q5⟩ a' b' c' d'
    · rw [decide_eq_false hd]
      exact lst
  -- the start
  have hl0 := hl
  unfold cDraw
  rw [cSeq]
  generalize hB : (cSeq (cIfS (cTst (cBin gGt (cBin gIx (cVar 0) (cLit (.str [100,105,103,105,116,115]))) (cInt (0)))) (cSeq (cAsg (cBin gMod (cBlt gInt (cCons (cBin gIx (cVar 0) (cLit (.str [100,105,103,105,116,115]))) cNil)) (cVar 1)) (cGName 3)) (cSeq (cAsg (cBin gDiv (cBin gIx (cVar 0) (cLit (.str [100,105,103,105,116,115]))) (cVar 1)) (cGSub (cVar 0) (cLit (.str [100,105,103,105,116,115])))) (cRet (cVar 3)))) cNext) (cSeq (cAsg (cBin gMod (cBlt gInt (cCons (cBin gAdd (cBin gAdd (cBin gMul (cBin gIx (cVar 0) (cLit (.str [102,111,108,100]))) (cInt (48271))) (cBin gIx (cVar 0) (cLit (.str [99,111,117,110,116])))) (cInt (29))) cNil)) (cInt (2147483543))) (cGSub (cVar 0) (cLit (.str [102,111,108,100])))) (cRet (cBin gMod (cBlt gInt (cCons (cBin gDiv (cBin gIx (cVar 0) (cLit (.str [102,111,108,100]))) (cInt (101))) cNil)) (cVar 1))))) = Bc at mid ⊢
  simp only [cAsg, cBin, cVar, cLit, cInt, cGSub, frI_eq]
  rw [nthK_of (x := D.loc l) rfl, u_loc, ix_count hp hl, q_add, nthK_of (x := D.loc l) rfl, u_loc, set_count hp hl]
  have h1 := st (q' := { p with n := p.n + 1 }) (⟨rfl, hf, fun _ _ => rfl, hp⟩ : M.n = M.n ∧ M.full ∧ (∀ j, j ≠ l → M.get j = M.get j) ∧ M.get l = some (penC p))
  generalize M.set l (penC { p with n := p.n + 1 }) = M1 at h1
  have hq : (⟨p.cs, p.a, p.d, p.n + 1, p.f⟩ : PenS).ok := ⟨o1, o2, o3, o4, o5⟩
  have hl1 : l < M1.n := by rw [h1.1]; exact hl
  have hp1 : M1.get l = some (penC ⟨p.cs, p.a, p.d, p.n + 1, p.f⟩) := h1.2.2.2
  rw [cSeq]
  simp only [cIfS, cAndT, cTst, cBin, cVar, cLit, cInt, frI_eq, cBlt, cCons, cNil]
  rw [nthK_of (x := D.loc l) rfl, u_loc, ix_digits hp1 hl1, q_eq, q_bl]
  by_cases hd : p.d = 0
  · rw [decide_eq_true hd]
    show nthK [D.loc l, D.int (Int.ofNat many), D.und, D.und] 0 _ = true
    rw [nthK_of (x := D.loc l) rfl, u_loc, ix_at hp1 hl1, nthK_of (x := D.loc l) rfl, u_loc, ix_cells hp1 hl1, q_len, q_lt, q_bl, List.length_map]
    by_cases hlt : p.a < (p.cs.length : Int)
    · rw [decide_eq_true hlt]
      have hx : ∃ x, p.cs[p.a.toNat]? = some x := ⟨_, List.getElem?_eq_getElem (by omega)⟩
      obtain ⟨x, hx⟩ := hx
      simp only [cSeq, cAsg, cBin, cBlt, cCons, cVar, cLit, cInt, frI_eq, cNil, cGSub, cGName]
      rw [nthK_of (x := D.loc l) rfl, u_loc, ix_cells hp1 hl1, nthK_of (x := D.loc l) rfl, u_loc, ix_at hp1 hl1, q_ix o2 hx]
      rw [setK_of (show 2 < ([D.loc l, D.int (Int.ofNat many), D.und, D.und] : List D).length from (by decide : 2 < 4)), show ([D.loc l, D.int (Int.ofNat many), D.und, D.und] : List D).set 2 (.int x) = [D.loc l, D.int (Int.ofNat many), D.int x, D.und] from rfl]
      rw [nthK_of (x := D.loc l) rfl, u_loc, ix_at hp1 hl1, q_add, nthK_of (x := D.loc l) rfl, u_loc, set_at hp1 hl1]
      have h2 := st (q' := ⟨p.cs, p.a + 1, p.d, p.n + 1, p.f⟩) h1
      generalize M1.set l _ = M2 at h2
      have hl2 : l < M2.n := by rw [h2.1]; exact hl
      have hp2 : M2.get l = some (penC ⟨p.cs, p.a + 1, p.d, p.n + 1, p.f⟩) := h2.2.2.2
      simp only [cIfS, cTst, cBin, cVar, cInt, frI_eq]
      rw [nthK_of (x := D.int x) rfl, u_int, q_pow, q_ge, q_bl]
      by_cases hg : 1000000000000000000 ≤ x
      · rw [decide_eq_true hg]
        simp only [cAsg, cBin, cVar, cLit, cInt, frI_eq, cGSub, cBlt, cCons, cNil]
        show nthK [D.loc l, D.int (Int.ofNat many), D.int x, D.und] 2 _ = true
        rw [nthK_of (x := D.int x) rfl, u_int, q_pow, q_sub, nthK_of (x := D.loc l) rfl, u_loc, set_digits hp2 hl2]
        exact mid _ ⟨p.cs, p.a + 1, x - 1000000000000000000, p.n + 1, p.f⟩ _ (st h2) ⟨o1, by show 0 ≤ p.a + 1; omega, by show 0 ≤ x - 1000000000000000000; omega, o4, o5⟩ rfl rfl rfl
      · rw [decide_eq_false hg]
        simp only [cAsg, cBin, cVar, cLit, cInt, frI_eq, cGSub, cBlt, cCons, cNil]
        show nthK [D.loc l, D.int (Int.ofNat many), D.int x, D.und] 0 _ = true
        rw [nthK_of (x := D.loc l) rfl, u_loc, ix_fold hp2 hl2, show (60083 : Int) = Int.ofNat 60083 from rfl, q_mul _ _ (fold_small o4 o5 60083 (by decide)), nthK_of (x := D.int x) rfl, u_int, q_add, q_int, show (2147483543 : Int) = Int.ofNat 2147483543 from rfl, q_mod _ _ (by decide), nthK_of (x := D.loc l) rfl, u_loc, set_fold hp2 hl2]
        exact mid _ ⟨p.cs, p.a + 1, p.d, p.n + 1, _⟩ _ (st h2) ⟨o1, by show 0 ≤ p.a + 1; omega, o3, Int.emod_nonneg _ (by decide), Int.emod_lt_of_pos _ (by decide)⟩ rfl rfl rfl
    · rw [decide_eq_false hlt]
      exact mid M1 _ _ h1 hq rfl rfl rfl
  · rw [decide_eq_false hd]
    exact mid M1 _ _ h1 hq rfl rfl rfl
end Z
end
set_option Elab.async false
set_option autoImplicit false
set_option linter.all false
set_option maxRecDepth 100000
set_option maxHeartbeats 4000000
/-! ZOrc: the law's pen and draws, as they are known. -/
noncomputable section
namespace Z
open PySem PySem.Spec PyProof.Rows L2
/-! ### a draw -/
def allD (k : Nat → Bool) : Nat → Bool := Nat.rec true fun i ih => Bool.rec false ih (k i)
theorem allD_t {k : Nat → Bool} : ∀ {n : Nat}, allD k n = true → ∀ i, i < n → k i = true
  | 0, _, i, hi => by omega
  | n + 1, h, i, hi => by
    have h' : (Bool.rec false (allD k n) (k n) : Bool) = true := h
    cases q : k n with
    | false => rw [q] at h'; cases h'
    | true =>
      rw [q] at h'
      by_cases e : i = n
      · rw [e]; exact q
      · exact allD_t h' i (by omega)
def isOpq (c : Cell) (b : Bool) : Bool := Cell.casesOn c (fun _ => false) (fun _ _ => false) (fun _ _ => false) (fun c => Cell.casesOn c (fun _ => false) (fun _ _ => false) (fun _ _ => false) (fun c => Cell.casesOn c (fun ds => List.casesOn ds b fun _ _ => false) (fun _ _ => false) (fun _ _ => false) (fun _ => false)))
theorem isOpq_t {c : Cell} {b : Bool} (h : isOpq c b = true) : c = opq ∧ b = true := by
  cases c with
  | lk c => cases c with
    | lk c => cases c with
      | lst ds => cases ds with
        | nil => exact ⟨rfl, h⟩
        | cons _ _ => cases h
      | _ => cases h
    | _ => cases h
  | _ => cases h
def posN (i : Int) (k : Nat → Bool) : Bool := Int.rec (fun n => chk (Nat.blt 0 n) (chk (Nat.blt (Nat.log2 n) 9000) (k n))) (fun _ => false) i
theorem posN_t {i : Int} {k : Nat → Bool} (h : posN i k = true) : ∃ n : Nat, i = .ofNat n ∧ 0 < n ∧ Nat.log2 n < 9000 ∧ k n = true := by
  cases i with
  | ofNat n =>
    obtain ⟨h1, h2⟩ := chk_t h
    obtain ⟨h3, h4⟩ := chk_t h2
    exact ⟨n, rfl, Nat.blt_eq.mp h1, Nat.blt_eq.mp h3, h4⟩
  | negSucc n => cases h
def orcDraw : List D → Sto → K1 → KX → Bool := fun ds M k _ => arg2 ds fun d e => isLoc d fun l => isInt e fun j => posN j fun many => getC M l fun c => isOpq c (allD (fun i => k (.int (.ofNat i)) M) many)
/-- a draw does what is known of it -/
theorem draw_know {T : Tb} {i : Nat} {ev : Ev} (vs : List V) (H : Hp) (Q : VK) (E : XK) (h : spOf T ⟨fun _ ds M k kx => orcDraw ds M k kx⟩ i 2 vs H Q E) : spOf T ⟨fun _ ds M k kx => (Fun.code 2 cDraw).run ev ds M k kx⟩ i 2 vs H Q E := by
  obtain ⟨W, ds, M, k, kx, eH, m, rs, hl, h, hQ, hx⟩ := h
  obtain ⟨d, e, rfl, h1⟩ := arg2_t (show arg2 ds _ = true from h)
  obtain ⟨l, rfl, h2⟩ := isLoc_t h1
  obtain ⟨j, rfl, h3⟩ := isInt_t h2
  obtain ⟨many, rfl, hm, hm2, h4⟩ := posN_t h3
  obtain ⟨c, hln, hc, h5⟩ := getC_t h4
  obtain ⟨rfl, h6⟩ := isOpq_t h5
  have hlW : l < W.n := by rw [← m.n]; exact hln
  have po : PenOk T.K W.H (W.ρ l) := m.cell l opq hlW hc
  obtain ⟨p, ok, cr⟩ := pen_open po
  have hf2 : (M.set l (penC p)).full := Sto.set_full m.full
  have hg2 : (M.set l (penC p)).get l = some (penC p) := Sto.get_set hc
  have m2 : MR T W (M.set l (penC p)) := m.re rfl hf2 (fun k hk => Sto.get_ne hk) (fun c e => by rw [hg2] at e; cases e; exact cr)
  let P : D → Sto → Prop := fun d M' => ∃ (i : Nat) (q : PenS), i < many ∧ q.ok ∧ d = .int (.ofNat i) ∧ M'.n = (M.set l (penC p)).n ∧ M'.full ∧ (∀ j, j ≠ l → M'.get j = (M.set l (penC p)).get j) ∧ M'.get l = some (penC q)
  refine ⟨W, _, M.set l (penC p), fun d M' => @decide (P d M') (Classical.propDecidable _), kx0, eH, m2, rs, hl, ?_, fun W' d v M' le m' rv hk => ?_, PX.zero⟩
  · show (Fun.code 2 cDraw).run ev [D.loc l, D.int (Int.ofNat many)] (M.set l (penC p)) (fun d M' => @decide (P d M') (Classical.propDecidable _)) kx0 = true
    generalize hk : (fun d M' => @decide (P d M') (Classical.propDecidable _)) = k2
    show unds 2 (fun us => appK [D.loc l, D.int (Int.ofNat many)] us fun σ => cDraw ev σ (M.set l (penC p)) ⟨fun _ M => k2 .non M, k2, fun _ _ => false, fun _ _ => false⟩ kx0) = true
    rw [unds_eq, appK_eq, ← hk]
    refine draw_run (k := fun d M' => @decide (P d M') (Classical.propDecidable _)) rfl hm hm2 hf2 hln hg2 ok fun i q M' hi hq hn hf ho hgl => ?_
    exact @decide_eq_true _ (Classical.propDecidable _) ⟨i, q, hi, hq, rfl, hn, hf, ho, hgl⟩
  · obtain ⟨i, q, hi, hq, rfl, hn, hf, ho, hgl⟩ := @of_decide_eq_true _ (Classical.propDecidable _) hk
    have hn' : M.n = M'.n := hn.symm
    have hl' : l < W'.n := Nat.lt_of_lt_of_le hlW le.n
    have m'' : MR T W' M := m'.re hn' m.full (fun k hk => by rw [ho k hk]; exact (Sto.get_ne hk).symm) (fun c e => by
      rw [hc] at e
      cases e
      exact pen_shut (m'.cell l _ hl' hgl) hq)
    exact hQ W' _ v M le m'' rv (allD_t h6 i hi)

/-! ### the pen made -/
/-- return {'cells': list(script), 'at': 0, 'digits': 0, 'count': 0, 'fold': fold} -/
def cPen (i j : Nat) : CS := fun _ σ M ks _ => nthK σ i fun d => notU d (seqS d M fun xs => intsK xs fun is => lenK is fun n => chk (Nat.ble n 63) (nthK σ j fun e => isInt e fun f => posF f (ks.rt (.loc M.n) (M.push opq))))
where posF (f : Int) (b : Bool) : Bool := Int.rec (fun n => chk (Nat.blt n 2147483543) b) (fun _ => false) f
theorem posF_t {f : Int} {b : Bool} (h : cPen.posF f b = true) : 0 ≤ f ∧ f < 2147483543 ∧ b = true := by
  cases f with
  | ofNat n =>
    obtain ⟨h1, h2⟩ := chk_t h
    have := Nat.blt_eq.mp h1
    exact ⟨by simp, by simp only [Int.ofNat_eq_natCast]; omega, h2⟩
  | negSucc n => cases h
/-- the return's form -/
def isPenRet : Expr → Option (Str × Str)
  | .Dict [some (.Constant (.str a) _ _), some (.Constant (.str b) _ _), some (.Constant (.str c) _ _), some (.Constant (.str d) _ _), some (.Constant (.str e) _ _)]
      [.Call (.Name g _) [.Name x _] [] _, .Constant (.int z1) _ _, .Constant (.int z2) _ _, .Constant (.int z3) _ _, .Name y _] _ =>
    (match sEq a "cells", sEq b "at", sEq c "digits", sEq d "count", sEq e "fold", sEq g "list", isZ z1, isZ z2, isZ z3 with
      | true, true, true, true, true, true, true, true, true => some (x, y)
      | _, _, _, _, _, _, _, _, _ => none)
  | _ => none
theorem merge_pen (v1 v2 v3 v4 v5 : V) : mergeK [] [((.inr "cells" : Key), v1), (.inr "at", v2), (.inr "digits", v3), (.inr "count", v4), (.inr "fold", v5)] = [(.inr "cells", v1), (.inr "at", v2), (.inr "digits", v3), (.inr "count", v4), (.inr "fold", v5)] := by
  have n1 : ¬ (Str.ofString "cells" = Str.ofString "at") := by decide +kernel
  have n2 : ¬ (Str.ofString "cells" = Str.ofString "digits") := by decide +kernel
  have n3 : ¬ (Str.ofString "cells" = Str.ofString "count") := by decide +kernel
  have n4 : ¬ (Str.ofString "cells" = Str.ofString "fold") := by decide +kernel
  have n5 : ¬ (Str.ofString "at" = Str.ofString "digits") := by decide +kernel
  have n6 : ¬ (Str.ofString "at" = Str.ofString "count") := by decide +kernel
  have n7 : ¬ (Str.ofString "at" = Str.ofString "fold") := by decide +kernel
  have n8 : ¬ (Str.ofString "digits" = Str.ofString "count") := by decide +kernel
  have n9 : ¬ (Str.ofString "digits" = Str.ofString "fold") := by decide +kernel
  have n10 : ¬ (Str.ofString "count" = Str.ofString "fold") := by decide +kernel
  simp [mergeK, putK, n1, n2, n3, n4, n5, n6, n7, n8, n9, n10]
section
variable {S : St8} {ci : CI} {pos : Pos}
theorem ss_pen {x y : Str} {i j : Nat} {p0 p1 p2 p3 p4 p5 p6 p7 p8 p9 p10 p11 pd : Pos} {k0 k1 k2 k3 k4 k5 k6 k7 : Nat} (hi : ci.N[i]? = some x) (hj : ci.N[j]? = some y) (vx : Vis ci.sc x) (vy : Vis ci.sc y) (dx : (x == ("__debug__" : Str)) = false) (cx : (x == ("__classdict__" : Str)) = false) (dy : (y == ("__debug__" : Str)) = false) (cy : (y == ("__classdict__" : Str)) = false)
    (hs : ci.sc.names.lookup ("list" : Str) = some .globalImplicit) (hm : S.T.mg "list" = none) :
    SS S ci (.Return (some (.Dict [some (.Constant (.str "cells") k0 p0), some (.Constant (.str "at") k1 p1), some (.Constant (.str "digits") k2 p2), some (.Constant (.str "count") k3 p3), some (.Constant (.str "fold") k4 p4)]
      [.Call (.Name "list" p5) [.Name x p6] [] p7, .Constant (.int 0) k5 p8, .Constant (.int 0) k6 p9, .Constant (.int 0) k7 p10, .Name y p11] pd)) pos) (cPen i j) := by
  intro X Wx hX hS hC W σd σ M ks kx D s m h hD hx pins st I
  obtain ⟨d, e1, h1⟩ := nthK_t h
  obtain ⟨hu, h2⟩ := notU_t h1
  rcases s.at_ i d e1 with z | ⟨v, ev, rv⟩
  · exact absurd z hu
  obtain ⟨a, xs, ds, rfl, hq, rs, h3⟩ := seqS_t hX m rv h2
  obtain ⟨is, rfl, h4⟩ := intsK_t h3
  rw [lenK_eq] at h4
  obtain ⟨h5, h6⟩ := chk_t h4
  have h63 := Nat.le_of_ble_eq_true h5
  obtain ⟨e, e2, h7⟩ := nthK_t h6
  obtain ⟨f, rfl, h8⟩ := isInt_t h7
  obtain ⟨f0, f1, h9⟩ := posF_t h8
  rcases s.at_ j _ e2 with z | ⟨w, ew, rw'⟩
  · cases z
  cases rw'
  cases rs.ints
  have sq : SqL X.K W.H a (is.map V.int) ∨ SqT X.K W.H a (is.map V.int) := by
    cases d <;> first | exact .inr hq | exact .inl hq
  have pv1 : PE X (.Name x p6) (tVar i) := pe_var (by rw [hC.N]; exact hi) (by rw [hC.sc]; exact vx) dx cx
  have pv2 : PE X (.Name y p11) (tVar j) := pe_var (by rw [hC.N]; exact hj) (by rw [hC.sc]; exact vy) dy cy
  have pl := pe_callTy (pos := p7) (p := p5) (call_list_of (X := X)) (by unfold Gl Env.kindOf; rw [hC.sc]; exact hs) (by rw [hX.mg]; exact hm) (by kernel_rfl) (pa_cons pv1 pa_nil) (by decide +kernel) (by decide +kernel)
  have pps := pps_cons (pos := pd) (pe_str (X := X) (x := "cells") (j := k0) (pos := p0)) pl (pps_cons (pe_str (x := "at") (j := k1) (pos := p1)) (pe_int (i := 0) (j := k5) (pos := p8)) (pps_cons (pe_str (x := "digits") (j := k2) (pos := p2)) (pe_int (i := 0) (j := k6) (pos := p9)) (pps_cons (pe_str (x := "count") (j := k3) (pos := p3)) (pe_int (i := 0) (j := k7) (pos := p10)) (pps_cons (pe_str (x := "fold") (j := k4) (pos := p4)) pv2 pps_nil))))
  have pd' := pe_disp (pos := pd) pps rfl rfl (by simp) (by show 5 ≤ 15; decide)
  refine wpAny_Return_some (thn (pd'.run pins st σ W.H (fun v H => ∃ p l, ∃ is : List Int, v = .ref p ∧ is.length ≤ 63 ∧ W.H p = none ∧ W.H l = none ∧ l ≠ p ∧ H = upd (upd (upd W.H p (.dK [])) l (.lst (is.map V.int))) p (.dK [(.inr "cells", .ref l), (.inr "at", .int 0), (.inr "digits", .int 0), (.inr "count", .int 0), (.inr "fold", .int f)])) I ?_) fun u s1 ⟨v, H1, I1, r1, p, l, is2, ev1, hz, hp, hl, hne, eH⟩ => ?_)
  · intro p hp
    have g := grows (o := .dK []) hp
    obtain ⟨a', xs', ds', ea, hq', rs', h3'⟩ := seqS_t hX (m.ext g) (rv.mono (Le.ext g)) h2
    cases ea
    obtain ⟨is', rfl, h4'⟩ := intsK_t h3'
    rw [lenK_eq] at h4'
    have hz' := Nat.le_of_ble_eq_true (chk_t h4').1
    cases rs'.ints
    have sq' : SqL X.K (upd W.H p (.dK [])) a (is'.map V.int) ∨ SqT X.K (upd W.H p (.dK [])) a (is'.map V.int) := by
      cases d <;> first | exact .inr hq' | exact .inl hq'
    refine ⟨_, ev, a, is'.map V.int, rfl, sq', fun l hl => ?_⟩
    have hne : l ≠ p := fun z => by rw [z, upd_same] at hl; cases hl
    rw [upd_ne hne] at hl
    refine ⟨_, ew, ?_, [(.inr "cells", .ref l), (.inr "at", .int 0), (.inr "digits", .int 0), (.inr "count", .int 0), (.inr "fold", .int f)], rfl, by show 5 ≤ 15; decide, p, l, is', rfl, hz', hp, hl, hne, ?_⟩
    · rw [upd_ne hne.symm]; exact upd_same
    · rw [merge_pen]
  · subst ev1 eH
    cases r1
    have e3 : upd (upd (upd W.H p (.dK [])) l (.lst (is2.map V.int))) p (.dK [(.inr "cells", .ref l), (.inr "at", .int 0), (.inr "digits", .int 0), (.inr "count", .int 0), (.inr "fold", .int f)]) l = some (.lst (is2.map V.int)) := by rw [upd_ne hne]; exact upd_same
    obtain ⟨od, I2⟩ := I1.lock e3 trivial
    generalize hH3 : upd (upd (upd (upd W.H p (.dK [])) l (.lst (is2.map V.int))) p (.dK [(.inr "cells", .ref l), (.inr "at", .int 0), (.inr "digits", .int 0), (.inr "count", .int 0), (.inr "fold", .int f)])) l (.frz od (.lst (is2.map V.int))) = H3 at I2
    have hold : ∀ b o, W.H b = some o → H3 b = some o := fun b o e => by
      rw [← hH3, upd_ne (ne_of_none e hl), upd_ne (ne_of_none e hp), upd_ne (ne_of_none e hl), upd_ne (ne_of_none e hp)]
      exact e
    have hp3 : H3 p = some (.dK [(.inr "cells", .ref l), (.inr "at", .int 0), (.inr "digits", .int 0), (.inr "count", .int 0), (.inr "fold", .int f)]) := by
      rw [← hH3, upd_ne hne.symm]; exact upd_same
    have hl3 : H3 l = some (.frz od (.lst (is2.map V.int))) := by rw [← hH3]; exact upd_same
    -- the pen is told as an object first, then as a pen
    have kr : KR S.T (W.new p H3) [(.str [99,101,108,108,115], .lv (is2.map Z.D.int)), (.str [97,116], .int 0), (.str [100,105,103,105,116,115], .int 0), (.str [99,111,117,110,116], .int 0), (.str [102,111,108,100], .int f)]
        [(.inr "cells", .ref l), (.inr "at", .int 0), (.inr "digits", .int 0), (.inr "count", .int 0), (.inr "fold", .int f)] := by
      unfold KR
      refine .cons ⟨?_, .lv (.inl ⟨od, hl3⟩) (vrs_ints _)⟩ (.cons ⟨?_, .int _⟩ (.cons ⟨?_, .int _⟩ (.cons ⟨?_, .int _⟩ (.cons ⟨?_, .int _⟩ .nil))))
      · show some (Sum.inr (toS _)) = _; rw [s_cells]
      · show some (Sum.inr (toS _)) = _; rw [s_at]
      · show some (Sum.inr (toS _)) = _; rw [s_digits]
      · show some (Sum.inr (toS _)) = _; rw [s_count]
      · show some (Sum.inr (toS _)) = _; rw [s_fold]
    have m1 : MR S.T (W.new p H3) (M.push (penC ⟨is2, 0, 0, 0, f⟩)) := m.new hp hold hp3 kr
    have g1 : (M.push (penC ⟨is2, 0, 0, 0, f⟩)).get M.n = some (penC ⟨is2, 0, 0, 0, f⟩) := Tr.get_set_new _ _ _ m.full
    have g2 : (M.push opq).get M.n = some opq := Tr.get_set_new _ _ _ m.full
    have c1 := m1.cell M.n _ (by rw [m.n]; exact Nat.lt_succ_self _) g1
    have m2 : MR S.T (W.new p H3) (M.push opq) := m1.re (l := M.n) rfl (Sto.push_full m.full) (fun k hk => (Tr.get_set_ne _ _ _ _ hk).trans (Tr.get_set_ne _ _ _ _ hk).symm) fun c e => by
      rw [g2] at e
      cases e
      exact pen_shut c1 ⟨hz, Int.le_refl 0, Int.le_refl 0, f0, f1⟩
    exact ⟨.ref p, σ, H3, I2, rfl, hD.rt (W.new p H3) (.loc M.n) (.ref p) (M.push opq) (Le.new hold) m2 (VR.new m) h9⟩
theorem isPenRet_ok {e : Expr} {x y : Str} (h : isPenRet e = some (x, y)) : ∃ p0 p1 p2 p3 p4 p5 p6 p7 p8 p9 p10 p11 pd k0 k1 k2 k3 k4 k5 k6 k7, e = (.Dict [some (.Constant (.str "cells") k0 p0), some (.Constant (.str "at") k1 p1), some (.Constant (.str "digits") k2 p2), some (.Constant (.str "count") k3 p3), some (.Constant (.str "fold") k4 p4)]
      [.Call (.Name "list" p5) [.Name x p6] [] p7, .Constant (.int 0) k5 p8, .Constant (.int 0) k6 p9, .Constant (.int 0) k7 p10, .Name y p11] pd) := by
  unfold isPenRet at h
  split at h
  · split at h
    · rename_i a1 a2 a3 a4 a5 a6 a7 a8 a9
      cases h
      have a1 := sEq_t a1
      have a2 := sEq_t a2
      have a3 := sEq_t a3
      have a4 := sEq_t a4
      have a5 := sEq_t a5
      have a6 := sEq_t a6
      have a7 := isZ_t a7
      have a8 := isZ_t a8
      have a9 := isZ_t a9
      subst a1 a2 a3 a4 a5 a6 a7 a8 a9
      exact ⟨_, _, _, _, _, _, _, _, _, _, _, _, _, _, _, _, _, _, _, _, _, rfl⟩
    · cases h
  · cases h
/-- a name that stands in a slot -/
def slotOf (ci : CI) (x : Str) : Option Nat := match look x ci.sc.names, place x ci.N, sNe x "__debug__", sNe x "__classdict__" with
  | some .local, some i, true, true => some i
  | some .cell, some i, true, true => some i
  | _, _, _, _ => none
theorem slotOf_t {x : Str} {i : Nat} (h : slotOf ci x = some i) : ci.N[i]? = some x ∧ Vis ci.sc x ∧ (x == ("__debug__" : Str)) = false ∧ (x == ("__classdict__" : Str)) = false := by
  unfold slotOf at h
  split at h
  · rename_i i e1 e2 e3 e4
    cases h
    exact ⟨place_t e2, .inl (look_t e1), sNe_beq e3, sNe_beq e4⟩
  · rename_i i e1 e2 e3 e4
    cases h
    exact ⟨place_t e2, .inr (.inl (look_t e1)), sNe_beq e3, sNe_beq e4⟩
  · cases h
/-- _law_pen's body: fold = 0; for ..; return {..} -/
def cmPen (fns : List (List Str)) (ci : CI) : List Stmt → Option CS
  | [a, b, .Return (some e) _] => (match stepS (al := sh) fns (cm fns 20) ci (cmS fns (cm fns 20) ci 10) a, stepS (al := sh) fns (cm fns 20) ci (cmS fns (cm fns 20) ci 10) b, isPenRet e, look "list" ci.sc.names, look "list" ci.gl with
    | some p, some q, some (x, y), some .globalImplicit, some .free => (match slotOf ci x, slotOf ci y with
      | some i, some j => some (cSeq p (cSeq q (cPen i j)))
      | _, _ => none)
    | _, _, _, _, _ => none)
  | _ => none
theorem cmPen_ok {fns : List (List Str)} (h2r : 2 ≤ S.r) (hS : S.Ok) (hf : fns = S.fns) (hg : CiOk S ci) {body : List Stmt} {c : CS} (h : cmPen fns ci body = some c) : SSs S ci body c := by
  unfold cmPen at h
  split at h
  · split at h
    · rename_i p q x y e1 e2 e3 e4 e5
      split at h
      · rename_i i j s1 s2
        cases h
        obtain ⟨t1, t2, t3, t4⟩ := slotOf_t s1
        obtain ⟨u1, u2, u3, u4⟩ := slotOf_t s2
        obtain ⟨p0, p1, p2, p3, p4, p5, p6, p7, p8, p9, p10, p11, pd, k0, k1, k2, k3, k4, k5, k6, k7, rfl⟩ := isPenRet_ok e3
        have c1 := stepS_ok (S := S) h2r hS hf (n := 19) hg (cmS_ok h2r hS hf hg 10) e1
        have c2 := stepS_ok (S := S) h2r hS hf (n := 19) hg (cmS_ok h2r hS hf hg 10) e2
        exact sss_cons c1 (sss_cons c2 (sss_one (ss_pen t1 u1 t2 u2 t3 t4 u3 u4 (look_t e4) (hg.1 _ _ (look_t e5)))))
      · cases h
    · cases h
  · cases h
end
/-- the pen's code -/
def cPenCode : CS := cSeq (cAsg (cInt 0) (cGName 1)) (cSeq (cFor (cIter (cVar 0)) (cGName 2) (cAsg (cBin gMod (cBlt gInt (cCons (cBin gAdd (cBin gMul (cVar 1) (cInt 163)) (cVar 2)) cNil)) (cInt 1000004227)) (cGName 1))) (cPen 0 1))
def orcPen : List D → Sto → K1 → KX → Bool := fun ds M k _ => arg1 ds fun d => seqS d M fun xs => intsK xs fun is => lenK is fun n => chk (Nat.ble n 63) (k (.loc M.n) (M.push opq))
theorem itemAt_lt {ds : List D} {i : Nat} {x : D} {k : D → Bool} {no : Bool} (h : ds[i]? = some x) : itemAt ds i k no = k x := by
  induction ds generalizing i with
  | nil => cases h
  | cons y r ih => cases i with
    | zero => cases h; rfl
    | succ i => exact ih (by simpa using h)
theorem itemAt_end {ds : List D} {k : D → Bool} {no : Bool} : itemAt ds ds.length k no = no := by
  induction ds with
  | nil => rfl
  | cons y r ih => exact ih
theorem seqS_same {d : D} {M : Sto} {k : List D → Bool} (h : seqS d M k = true) : ∃ xs, k xs = true ∧ (∀ g, seqS d M g = g xs) ∧ ((∃ a b, d = .tup a b) ∨ (∃ l, d = .loc l ∧ ∀ b : Bool, lstC M l (fun _ => b) = b) ∨ ∃ b, d = .lv b) := by
  cases d with
  | tup a ds => exact ⟨ds, h, fun g => rfl, .inl ⟨_, _, rfl⟩⟩
  | lv ds => exact ⟨ds, h, fun g => rfl, .inr (.inr ⟨_, rfl⟩)⟩
  | loc l =>
    have h' : lstC M l k = true := h
    obtain ⟨ds, h1, h2, h3⟩ := lstC_t h'
    have eq : ∀ g, lstC M l g = g ds := fun g => by unfold lstC; rw [getC_of h2 h1]
    exact ⟨ds, h3, eq, .inr (.inl ⟨l, rfl, fun b => eq _⟩)⟩
  | _ => cases h
theorem intsK_of {is : List Int} {k : List Int → Bool} : intsK (is.map D.int) k = k is := by
  induction is generalizing k with
  | nil => rfl
  | cons i r ih => exact ih (k := fun r => k (i :: r))
theorem q_addI {M : Sto} {f : K1} (i j : Int) : gAdd (.int i) (.int j) M f = f (.int (i + j)) M := q_add i j
theorem pen_run {ev : Ev} {M : Sto} {d : D} {k : K1} {ks : Ks} {kx : KX} (hr : ks.rt = k) (h : orcPen [d] M k kx = true) : cPenCode ev [d, .und, .und] M ks kx0 = true := by
  have h' : seqS d M (fun xs => intsK xs fun is => lenK is fun n => chk (Nat.ble n 63) (k (.loc M.n) (M.push opq))) = true := h
  obtain ⟨xs, h1, hg, hd⟩ := seqS_same h'
  obtain ⟨is, rfl, h2⟩ := intsK_t h1
  rw [lenK_eq] at h2
  obtain ⟨h3, h4⟩ := chk_t h2
  have h63 := Nat.le_of_ble_eq_true h3
  have hn : ∀ b, notU d b = b := fun b => by
    rcases hd with ⟨_, _, rfl⟩ | ⟨_, rfl, _⟩ | ⟨_, rfl⟩ <;> rfl
  -- the end
  have fin : ∀ (f : Int) (c : D), 0 ≤ f → f < 2147483543 → cPen 0 1 ev [d, .int f, c] M ks kx0 = true := fun f c f0 f1 => by
    show nthK [d, .int f, c] 0 _ = true
    rw [nthK_of (x := d) rfl, hn, hg, intsK_of, lenK_eq, h3]
    rw [nthK_of (x := D.int f) rfl]
    obtain ⟨n, rfl⟩ := Int.eq_ofNat_of_zero_le f0
    show chk (Nat.blt n 2147483543) (ks.rt (.loc M.n) (M.push opq)) = true
    rw [Nat.blt_eq.mpr (by omega), hr]
    exact h4
  have loop : ∀ (m : Nat) (i F : Nat) (f : Int) (c : D), i + m = is.length → m < F → 0 ≤ f → f < 2147483543 →
      forK (seqJ d) (fun d σ M nx => cGName 2 ev d σ M (fun σ M => cAsg (cBin gMod (cBlt gInt (cCons (cBin gAdd (cBin gMul (cVar 1) (cInt 163)) (cVar 2)) cNil)) (cInt 1000004227)) (cGName 1) ev σ M ⟨nx, ks.rt, fun σ M => cPen 0 1 ev σ M ks kx0, nx⟩ kx0) kx0) (fun σ M => cPen 0 1 ev σ M ks kx0) F i [d, .int f, c] M = true := by
    intro m
    induction m with
    | zero =>
      intro i F f c hi hF f0 f1
      cases F with
      | zero => omega
      | succ F =>
        show seqS d M (fun ds => itemAt ds i _ _) = true
        rw [hg]
        have e : i = (is.map D.int).length := by rw [List.length_map]; omega
        rw [e, itemAt_end]
        exact fin f c f0 f1
    | succ m ih =>
      intro i F f c hi hF f0 f1
      cases F with
      | zero => omega
      | succ F =>
        show seqS d M (fun ds => itemAt ds i _ _) = true
        rw [hg]
        have hx : ∃ x, is[i]? = some x := ⟨_, List.getElem?_eq_getElem (by omega)⟩
        obtain ⟨x, hx⟩ := hx
        rw [itemAt_lt (x := D.int x) (by rw [List.getElem?_map, hx]; rfl)]
        simp only [cGName]
        rw [setK_of (show 2 < ([d, D.int f, c] : List D).length from (by decide : 2 < 3)), show ([d, D.int f, c] : List D).set 2 (.int x) = [d, D.int f, .int x] from rfl]
        simp only [cAsg, cBin, cBlt, cCons, cVar, cInt, cNil, cGName, frI_eq]
        rw [nthK_of (x := D.int f) rfl, u_int, show (163 : Int) = Int.ofNat 163 from rfl, q_mul _ _ (fold_small f0 f1 163 (by decide)), nthK_of (x := D.int x) rfl, u_int, q_add, q_int, show (1000004227 : Int) = Int.ofNat 1000004227 from rfl, q_mod _ _ (by decide),
          setK_of (show 1 < ([d, D.int f, D.int x] : List D).length from (by decide : 1 < 3))]
        rw [frN_eq]
        have y1 : (f * Int.ofNat 163 + x) % ((1000004227 : Nat) : Int) < ((1000004227 : Nat) : Int) := Int.emod_lt_of_pos _ (by decide)
        exact ih (i + 1) F _ _ (by omega) (by omega) (Int.emod_nonneg _ (by decide)) (by omega)
  unfold cPenCode
  simp only [cSeq, cAsg, cInt, frI_eq, cGName]
  rw [setK_of (show 1 < ([d, D.und, D.und] : List D).length from (by decide : 1 < 3)), show ([d, D.und, D.und] : List D).set 1 (.int 0) = [d, D.int 0, .und] from rfl]
  simp only [cFor, cIter, cVar]
  rw [nthK_of (x := d) rfl, hn]
  have go := loop is.length 0 fuel 0 .und (by omega) (by unfold fuel; omega) (Int.le_refl 0) (by decide)
  rcases hd with ⟨a, b, rfl⟩ | ⟨l, rfl, hb⟩ | ⟨b, rfl⟩
  · exact go
  · show lstC M l _ = true
    rw [hb]
    exact go
  · exact go
theorem pen_know {T : Tb} {i : Nat} {ev : Ev} (vs : List V) (H : Hp) (Q : VK) (E : XK) (h : spOf T ⟨fun _ ds M k kx => orcPen ds M k kx⟩ i 1 vs H Q E) : spOf T ⟨fun _ ds M k kx => (Fun.code 2 cPenCode).run ev ds M k kx⟩ i 1 vs H Q E := by
  obtain ⟨W, ds, M, k, kx, eH, m, rs, hl, h, hQ, hx⟩ := h
  have h0 : orcPen ds M k kx = true := h
  obtain ⟨d, rfl, h1⟩ := arg1_t h0
  refine ⟨W, _, M, k, kx0, eH, m, rs, hl, ?_, hQ, PX.zero⟩
  show unds 2 (fun us => appK [d] us fun σ => cPenCode ev σ M ⟨fun _ M => k .non M, k, fun _ _ => false, fun _ _ => false⟩ kx0) = true
  rw [unds_eq, appK_eq]
  exact pen_run rfl h0
end Z
end
set_option Elab.async false
set_option autoImplicit false
set_option linter.all false
set_option maxRecDepth 100000
set_option maxHeartbeats 2000000
/-! ZHead: from the head's facts to the table. -/
noncomputable section
namespace Z
open PySem PySem.Spec PyProof.Rows L2
/-- the value u is the datum d, in the written part -/
def vrB (K : PySem.W.Frag) : Nat → D → Value → Bool
  | 0, _, _ => false
  | n + 1, d, u => match d, u with
    | .int i, .int j _ => decide (i = j)
    | .str s, .str y _ => decide (y = toS s)
    | .bl b, .bool c => decide (b = c)
    | .non, .none => true
    | .tup true ds, .ref a => (match K.lookup a with
      | some o => decide (o.cls = .type "tuple") && (match o.data with
        | .seq its _ => Nat.ble its.size 1000 && (List.rec (motive := fun _ => List Value → Bool) (fun us => us.isEmpty) (fun d _ ih us => match us with
          | [] => false
          | u :: r => vrB K n d u && ih r) ds) its.toList
        | _ => false)
      | none => false)
    | _, _ => false
theorem vrB_ok {T : Tb} : ∀ {n : Nat} {d : D} {u : Value}, vrB T.K n d u = true → ∃ v, RelV v u ∧ ∀ W, VR T W d v
  | 0, _, _, h => by cases h
  | n + 1, d, u, h => by
    unfold vrB at h
    split at h
    · have := of_decide_eq_true h; subst this; exact ⟨.int _, ⟨_, rfl⟩, fun W => .int _⟩
    · have := of_decide_eq_true h; subst this; exact ⟨.str _, ⟨_, rfl⟩, fun W => .str _⟩
    · have := of_decide_eq_true h; subst this; exact ⟨.bl _, rfl, fun W => .bl _⟩
    · exact ⟨.non, rfl, fun W => .non⟩
    · rename_i ds a
      split at h
      · rename_i o ho
        rw [Bool.and_eq_true] at h
        obtain ⟨h1, h2⟩ := h
        have h1 := of_decide_eq_true h1
        split at h2
        · rename_i its m hd
          rw [Bool.and_eq_true] at h2
          obtain ⟨h3, h4⟩ := h2
          have h3 := Nat.le_of_ble_eq_true h3
          have go : ∀ (ds : List D) (us : List Value), (List.rec (motive := fun _ => List Value → Bool) (fun us => us.isEmpty) (fun d _ ih us => match us with
              | [] => false
              | u :: r => vrB T.K n d u && ih r) ds) us = true → ∃ xs, Vals xs us ∧ ∀ W, VRs T W ds xs := by
            intro ds
            induction ds with
            | nil =>
              intro us h
              have h : us.isEmpty = true := h
              cases us with
              | nil => exact ⟨[], .nil, fun W => .nil⟩
              | cons _ _ => cases h
            | cons d ds ih =>
              intro us h
              cases us with
              | nil => cases h
              | cons u us =>
                have h : (vrB T.K n d u && _) = true := h
                rw [Bool.and_eq_true] at h
                obtain ⟨v, r1, r2⟩ := vrB_ok (n := n) h.1
                obtain ⟨xs, r3, r4⟩ := ih us h.2
                exact ⟨v :: xs, .cons r1 r3, fun W => .cons (r2 W) (r4 W)⟩
          obtain ⟨xs, r1, r2⟩ := go ds its.toList h4
          refine ⟨.ref a, rfl, fun W => .ktu ⟨o, its, m, ho, h1, hd, by rw [show (sizeLine : Nat) = 16777216 from sizeLine_eq]; omega, r1⟩ (r2 W)⟩
        · cases h2
      · cases h
    · cases h
/-- what of the law's text the tables take -/
structure LS where
  names : List Str
  cls : List Str
  ats : List Str
  tf : List Str
  kws : List Nat
  tld : List Str
def lawT (P : Program) (w : World) (K : PySem.W.Frag) (mg : Str → Option Value) (base : Heap) (L : LS) : Tb := ⟨P, w, K, mg, base, fun i => He.ga K (L.names.getD i Str.empty), fun i => He.ga K (L.cls.getD i Str.empty), L.ats, L.tf.map fun x => ((He.cT K (x, none)).2, (x ++ ".<locals>.") ++ "<lambda>"), L.kws⟩
def fnG (kws : List Nat) (i : Nat) : Gd := match kws.any (Nat.beq i) with
  | true => .fnk i
  | false => .fn i
def numF (kws : List Nat) : List Str → Nat → List (Str × Gd)
  | [], _ => []
  | x :: r, i => (x, fnG kws i) :: numF kws r (i + 1)
def valsF : List (Str × D) → List (Str × Gd)
  | [] => []
  | (x, d) :: r => (x, .val d) :: valsF r
def freeF : List Str → List (Str × Gd)
  | [] => []
  | x :: r => (x, .free) :: freeF r
def lawGl (L : LS) (vals : List (Str × D)) (gcd : Bool) (frees : List Str) (extra : List (Str × Gd)) : List (Str × Gd) := numF L.kws L.names 0 ++ (valsF vals ++ ((match gcd with | true => [("gcd", .bfun "math.gcd")] | false => []) ++ (freeF frees ++ extra)))
def lawFa (L : LS) (frees : List Str) : List He.Fa := L.names.map .glo ++ (L.cls.map .glo ++ (L.tld.map .glo ++ frees.map .free))
def lawEx (vals : List (Str × D)) (gcd : Bool) (K : PySem.W.Frag) : Bool := (vals.all fun p => match PySem.W.nsIn K mainGlobals p.1 with
  | some (some u) => vrB K 8 p.2 u
  | _ => false) && (match gcd with | true => He.eqO (PySem.W.nsIn K mainGlobals "gcd") (some (some (.builtin "math.gcd"))) | false => true)
theorem numF_mem {kws : List Nat} {x : Str} {g : Gd} : ∀ {l : List Str} {i : Nat}, (x, g) ∈ numF kws l i → ∃ j, g = fnG kws (i + j) ∧ l[j]? = some x
  | [], i, h => (nomatch h)
  | y :: r, i, h => by
    rcases List.mem_cons.mp h with e | h
    · cases e; exact ⟨0, rfl, rfl⟩
    · obtain ⟨j, e, q⟩ := numF_mem h
      exact ⟨j + 1, by rw [e]; congr 1; omega, by simpa using q⟩
theorem valsF_mem {x : Str} {g : Gd} : ∀ {l : List (Str × D)}, (x, g) ∈ valsF l → ∃ d, g = .val d ∧ (x, d) ∈ l
  | [], h => (nomatch h)
  | (y, d) :: r, h => by
    rcases List.mem_cons.mp h with e | h
    · cases e; exact ⟨d, rfl, List.mem_cons_self⟩
    · obtain ⟨d', e, q⟩ := valsF_mem h
      exact ⟨d', e, List.mem_cons_of_mem _ q⟩
theorem freeF_mem {x : Str} {g : Gd} : ∀ {l : List Str}, (x, g) ∈ freeF l → g = .free ∧ x ∈ l
  | [], h => (nomatch h)
  | y :: r, h => by
    rcases List.mem_cons.mp h with e | h
    · cases e; exact ⟨rfl, List.mem_cons_self⟩
    · obtain ⟨e, q⟩ := freeF_mem h
      exact ⟨e, List.mem_cons_of_mem _ q⟩
section
variable {P : Program} {w : World} {K : PySem.W.Frag} {mg : Str → Option Value} {base h : Heap} {L : LS} {frees : List Str} {vals : List (Str × D)} {gcd : Bool} {extra : List (Str × Gd)}
theorem lawGl_ok (X : K.In h) (G : h.Ns mainGlobals mg) (cf : ∀ f ∈ lawFa L frees, f.ok K = true) (ce : lawEx vals gcd K = true) (hE : ∀ p ∈ extra, GdOk (lawT P w K mg base L) p.1 p.2) : GlOk (lawT P w K mg base L) (lawGl L vals gcd frees extra) := by
  intro x g hl
  have hm := PySem.mem_of_lookup hl
  unfold lawEx at ce
  rw [Bool.and_eq_true] at ce
  rcases List.mem_append.mp hm with hm | hm
  · obtain ⟨j, rfl, e⟩ := numF_mem hm
    have q := He.glo_ok X G (cf (.glo x) (List.mem_append_left _ (List.mem_map_of_mem (List.mem_of_getElem? e))))
    have q2 : mg x = some (.ref (He.ga K (L.names.getD (0 + j) Str.empty))) := by
      rw [Nat.zero_add, List.getD_eq_getElem?_getD, e]
      exact q
    unfold fnG
    cases z : L.kws.any (Nat.beq (0 + j)) with
    | true => exact ⟨q2, z⟩
    | false => exact q2
  rcases List.mem_append.mp hm with hm | hm
  · obtain ⟨d, rfl, e⟩ := valsF_mem hm
    have q := List.all_eq_true.mp ce.1 (x, d) e
    simp only at q
    split at q
    · rename_i u hu
      obtain ⟨v, r1, r2⟩ := vrB_ok (T := lawT P w K mg base L) q
      exact ⟨u, v, PySem.W.mg_of X G hu, r1, r2⟩
    · cases q
  rcases List.mem_append.mp hm with hm | hm
  · cases gcd with
    | false => cases hm
    | true =>
      rcases List.mem_cons.mp hm with e | hm
      · cases e
        exact PySem.W.mg_of X G (He.eqO_ok ce.2)
      · cases hm
  rcases List.mem_append.mp hm with hm | hm
  · obtain ⟨rfl, e⟩ := freeF_mem hm
    exact He.free_ok X G (cf (.free x) (List.mem_append_right _ (List.mem_append_right _ (List.mem_append_right _ (List.mem_map_of_mem e)))))
  · exact hE _ hm
end
/-! ### the law's own def -/
/-- pen = _law_pen(script); then the rest -/
def lawSeq (ip : Nat) (rest : CS) : CS := cSeq (cAsg (cCallN ip 1 (cCons (cVar 0) cNil)) (cGName 1)) rest
def M0 : Sto := ⟨0, .lf⟩
def M1 : Sto := ⟨1, .nd .lf opq .lf⟩
theorem law_run {fs fl : List Fun} {ev : Ev} {iL ip nl : Nat} {rest : CS} {ns : List Int} {k : K1} {kx : KX} (hL : fl[iL]? = some (.code (nl + 1) (lawSeq ip rest))) (hp : fs[ip]? = some (.orc orcPen)) (hz : ns.length ≤ 63)
    (h : unds nl (fun us => rest (stp fs ev) (.lv (ns.map D.int) :: .loc 0 :: us) M1 ⟨fun _ M => k .non M, k, fun _ _ => false, fun _ _ => false⟩ kx) = true) : (stp fl (stp fs ev)).call iL [.lv (ns.map D.int)] M0 k kx = true := by
  show nthK fl iL _ = true
  rw [nthK_of hL]
  show unds (nl + 1) (fun us => appK [D.lv (ns.map D.int)] us fun σ => lawSeq ip rest (stp fs ev) σ M0 ⟨fun _ M => k .non M, k, fun _ _ => false, fun _ _ => false⟩ kx) = true
  rw [unds_eq, appK_eq, List.replicate_succ]
  rw [unds_eq] at h
  unfold lawSeq
  simp only [cSeq, cAsg, cCallN, cCons, cVar, cNil, cGName]
  rw [nthK_of (x := D.lv (ns.map D.int)) rfl]
  show lenIs [D.lv (ns.map D.int)] 1 (nthK fs ip _) = true
  rw [nthK_of hp]
  refine Eq.trans (show _ = intsK (ns.map D.int) _ from rfl) ?_
  rw [intsK_of, lenK_eq]
  have : Nat.ble ns.length 63 = true := Nat.ble_eq_true_of_le hz
  rw [this]
  exact h
/-- the law's promise -/
theorem law_sp {T : Tb} {ev : Ev} {i : Nat} {H : Hp} {a : Addr} {ns : List Int} (hT : LamX.Tabs T.tabs H) (hO : Only H) (hS : SqL T.K H a (ns.map V.int)) (h : ev.call i [.lv (ns.map D.int)] M0 (fun d _ => isBl d fun b => b) kx0 = true) :
    spOf T ev i 1 [.ref a] H (fun v _ => v = .bl true) fun _ _ _ => False := by
  refine ⟨⟨0, fun _ => 0, H⟩, [.lv (ns.map D.int)], M0, _, kx0, rfl, ⟨rfl, fun l hl => absurd hl (Nat.not_lt_zero _), fun l c hl => absurd hl (Nat.not_lt_zero _), fun i j hi => absurd hi (Nat.not_lt_zero _), hT⟩, .cons (.lv (xs := ns.map V.int) ?_ (vrs_ints ns)) .nil, rfl, h, fun W' d v M' le m rv e => ?_, PX.zero⟩
  · rcases hS with (q | ⟨o, q⟩) | q
    · rcases hO a with z | ⟨o, xs, z⟩
      · rw [z] at q; cases q
      · rw [z] at q; cases q
    · exact .inl ⟨o, q⟩
    · exact .inr q
  · obtain ⟨b, rfl, e2⟩ := isBl_t e
    cases rv
    rw [show b = true from e2]
/-! ### a def of the law's that is True at known arguments -/
def retT : K1 := fun d M => isBl d fun b => chk b (getC M 0 fun c => isOpq c true)
def orcT (P : List D → Bool) : List D → Sto → K1 → KX → Bool := fun ds M k _ => chk (Nat.beq M.n 1) (getC M 0 fun c => isOpq c (chk (P ds) (k (.bl true) M)))
theorem opq_at {M : Sto} {b : Bool} (h : getC M 0 (fun c => isOpq c b) = true) : 0 < M.n ∧ M.get 0 = some opq ∧ b = true := by
  obtain ⟨c, h1, h2, h3⟩ := getC_t h
  obtain ⟨rfl, h4⟩ := isOpq_t h3
  exact ⟨h1, h2, h4⟩
theorem M1_full : M1.full := fun l hl => by
  have hl : l < 1 := hl
  have : l = 0 := by omega
  subst this
  rfl
theorem orcT_know {T : Tb} {i np : Nat} {ev : Ev} {P : List D → Bool} {nl : Nat} {c : CS} (hP : ∀ ds, P ds = true → (Fun.code nl c).run ev ds M1 retT kx0 = true) (vs : List V) (H : Hp) (Q : VK) (E : XK) (h : spOf T ⟨fun _ ds M k kx => orcT P ds M k kx⟩ i np vs H Q E) : spOf T ⟨fun _ ds M k kx => (Fun.code nl c).run ev ds M k kx⟩ i np vs H Q E := by
  obtain ⟨W, ds, M, k, kx, eH, m, rs, hl, h, hQ, hx⟩ := h
  obtain ⟨h1, h2⟩ := chk_t (show chk (Nat.beq M.n 1) (getC M 0 fun c => isOpq c (chk (P ds) (k (.bl true) M))) = true from h)
  have hn : M.n = 1 := Nat.eq_of_beq_eq_true h1
  obtain ⟨_, h3, h4⟩ := opq_at h2
  obtain ⟨h5, h6⟩ := chk_t h4
  have hW : W.n = 1 := m.n.symm.trans hn
  have c0 : CR T W opq (W.ρ 0) := m.cell 0 _ (by rw [hW]; exact Nat.one_pos) h3
  have mr : ∀ {W' : Wd} {M' : Sto}, W'.n = 1 → M'.n = 1 → M'.full → M'.get 0 = some opq → CR T W' opq (W'.ρ 0) → LamX.Tabs T.tabs W'.H → MR T W' M' := fun {W' M'} a b f e z tb =>
    ⟨b.trans a.symm, f, fun l c hl q => by
      have : l = 0 := by omega
      subst this
      rw [e] at q
      cases q
      exact z, fun i j hi hj _ => by omega, tb⟩
  refine ⟨W, ds, M1, retT, kx0, eH, mr hW rfl M1_full rfl c0 m.tabs, rs, hl, hP ds h5, fun W' d v M' le m' rv e => ?_, PX.zero⟩
  obtain ⟨b, rfl, e1⟩ := isBl_t e
  obtain ⟨rfl, e2⟩ := chk_t e1
  obtain ⟨p0, p1, _⟩ := opq_at e2
  cases rv
  have z : CR T W' opq (W'.ρ 0) := m'.cell 0 _ (by rw [← m'.n]; exact p0) p1
  exact hQ ⟨1, W'.ρ, W'.H⟩ (.bl true) (.bl true) M ⟨by rw [hW]; exact Nat.le_refl _, le.ρ, le.tup, le.frz⟩ (mr (W' := ⟨1, W'.ρ, W'.H⟩) rfl hn m.full h3 z m'.tabs) (.bl true) h6
/-- one int from lo to hi; two -/
def inR (lo hi : Nat) (d : D) (b : Bool) : Bool := isInt d fun i => Int.rec (fun n => chk (Nat.ble lo n) (chk (Nat.ble n hi) b)) (fun _ => false) i
theorem inR_t {lo hi : Nat} {d : D} {b : Bool} (h : inR lo hi d b = true) : ∃ n, d = .int (.ofNat n) ∧ lo ≤ n ∧ n ≤ hi ∧ b = true := by
  obtain ⟨i, rfl, h1⟩ := isInt_t h
  cases i with
  | ofNat n =>
    obtain ⟨h2, h3⟩ := chk_t (show chk (Nat.ble lo n) (chk (Nat.ble n hi) b) = true from h1)
    obtain ⟨h4, h5⟩ := chk_t h3
    exact ⟨n, rfl, Nat.le_of_ble_eq_true h2, Nat.le_of_ble_eq_true h4, h5⟩
  | negSucc n => cases h1
def P1 (lo hi : Nat) (ds : List D) : Bool := arg1 ds fun d => inR lo hi d true
def P2 (lo hi lo2 hi2 : Nat) (ds : List D) : Bool := arg2 ds fun d e => inR lo hi d (inR lo2 hi2 e true)
theorem P1_t {lo hi : Nat} {ds : List D} (h : P1 lo hi ds = true) : ∃ n, ds = [.int (.ofNat n)] ∧ lo ≤ n ∧ n ≤ hi := by
  obtain ⟨d, rfl, h1⟩ := arg1_t h
  obtain ⟨n, rfl, h2, h3, _⟩ := inR_t h1
  exact ⟨n, rfl, h2, h3⟩
theorem P2_t {lo hi lo2 hi2 : Nat} {ds : List D} (h : P2 lo hi lo2 hi2 ds = true) : ∃ n m, ds = [.int (.ofNat n), .int (.ofNat m)] ∧ lo ≤ n ∧ n ≤ hi ∧ lo2 ≤ m ∧ m ≤ hi2 := by
  obtain ⟨d, e, rfl, h1⟩ := arg2_t h
  obtain ⟨n, rfl, h2, h3, h4⟩ := inR_t h1
  obtain ⟨m, rfl, h5, h6, _⟩ := inR_t h4
  exact ⟨n, m, rfl, h2, h3, h5, h6⟩
end Z
end
set_option Elab.async false
set_option autoImplicit false
set_option linter.all false
set_option maxRecDepth 100000
set_option maxHeartbeats 2000000
/-! ZCls: the law's own errors and the def that tells them, from the head's facts. -/
noncomputable section
namespace Z
open PySem PySem.Spec PyProof.Rows L2
/-- the class at C is an own error over ValueError -/
def oexB (K : PySem.W.Frag) (C : Addr) : Bool := (match K.lookup C with
  | some ⟨.type "type", _, .cls cd, sl⟩ => (match cd.mro, sl.toList with
    | .ref C' :: bm, [_, _, _, _, some (.builtin n), _] => decide (C' = C) && (decide (n = "ValueError.__new__") && (!cd.hasDel && (cd.hasDict && PySem.HandSPX.refsVE bm)))
    | _, _ => false)
  | _ => false) && (decide (PySem.W.findIn K (.ref C) "__setattr__" = some (some (.builtin "object.__setattr__"))) && (decide (PySem.W.subIn K (.ref C) (.type "BaseException") = some true) && (decide (PySem.W.typeIn K (.ref C) = some (.type "type")) && PySem.W.keepIn K (.ref C))))
theorem oexB_ok {K : PySem.W.Frag} {C : Addr} (h : oexB K C = true) : OexC K C := by
  unfold oexB at h
  simp only [Bool.and_eq_true, decide_eq_true_eq] at h
  obtain ⟨h0, h1, h2, h3, h4⟩ := h
  refine ⟨?_, h1, h2, h3, h4⟩
  split at h0
  · rename_i dd cd sl ho
    split at h0
    · rename_i C1 bm a0 a1 a2 a3 nw a5 hm hl
      simp only [Bool.and_eq_true, decide_eq_true_eq, Bool.not_eq_true'] at h0
      obtain ⟨rfl, rfl, g1, g2, g3⟩ := h0
      cases cd with
      | mk nm bs mro ns qn hd sn sub ab col del =>
        cases sl with
        | mk l =>
          have e1 : mro = .ref C1 :: bm := hm
          have e2 : l = [a0, a1, a2, a3, some (.builtin "ValueError.__new__"), a5] := hl
          have e3 : del = false := g1
          have e4 : hd = true := g2
          subst e1 e2 e3 e4
          exact ⟨_, _, _, _, _, _, _, _, _, _, _, _, _, _, _, ho, g3⟩
    · cases h0
  · cases h0
def excB (K : PySem.W.Frag) (x : Str) (fs : List Str) : Bool := oexB K (He.ga K x) && (xfB K (He.ga K x) && (decide (PySem.W.findIn K (.ref (He.ga K x)) "__init__" = some (some (.ref (He.fAd K (x, some "__init__"))))) && (decide (PySem.W.typeIn K (.ref (He.fAd K (x, some "__init__"))) = some (.type "function")) &&
  fs.all fun f => decide (PySem.W.findIn K (.ref (He.ga K x)) f = some none))))
/-- each class catches its own errors alone -/
def exmB (K : PySem.W.Frag) (cls : List Str) : Bool := (List.range cls.length).all fun i => (List.range cls.length).all fun j => decide (PySem.W.exmOne K (.ref (He.ga K (cls.getD i Str.empty))) (.ref (He.ga K (cls.getD j Str.empty))) = some (Nat.beq i j))
def clsB (K : PySem.W.Frag) (excs : List (Str × List Str)) : Bool := (excs.all fun p => excB K p.1 p.2) && exmB K (excs.map (·.1))
/-! ### the __init__ -/
def isInit1 (b : List Stmt) (f g : Str) : Bool := match b with
  | [.Assign [.Attribute (.Name s _) f' _] (.Name g' _) _] => sEq s "self" && (sEq f' f && sEq g' g)
  | _ => false
def isInit2 (b : List Stmt) (f g f2 g2 : Str) : Bool := match b with
  | [.Assign [.Attribute (.Name s _) f' _] (.Name g' _) _, .Assign [.Attribute (.Name s2 _) f2' _] (.Name g2' _) _] => (sEq s "self" && (sEq f' f && sEq g' g)) && (sEq s2 "self" && (sEq f2' f2 && sEq g2' g2))
  | _ => false
section
variable {P : Program} {w : World} {K : PySem.W.Frag} {mg : Str → Option Value} {base : Heap} {L : LS}
theorem exc_parts {x : Str} {fs : List Str} (h : excB K x fs = true) : OexC K (He.ga K x) ∧ XfC K (He.ga K x) ∧ PySem.W.findIn K (.ref (He.ga K x)) "__init__" = some (some (.ref (He.fAd K (x, some "__init__")))) ∧ PySem.W.typeIn K (.ref (He.fAd K (x, some "__init__"))) = some (.type "function") ∧ ∀ f ∈ fs, PySem.W.findIn K (.ref (He.ga K x)) f = some none := by
  unfold excB at h
  simp only [Bool.and_eq_true, decide_eq_true_eq] at h
  obtain ⟨h1, h2, h3, h4, h5⟩ := h
  exact ⟨oexB_ok h1, xfB_ok h2, h3, h4, fun f hf => of_decide_eq_true (List.all_eq_true.mp h5 f hf)⟩
theorem ca_eq {x : Str} {i : Nat} (h : L.cls[i]? = some x) : (lawT P w K mg base L).ca i = He.ga K x := by
  show He.ga K (L.cls.getD i Str.empty) = _
  rw [List.getD_eq_getElem?_getD, h] <;> rfl
theorem exc1_ok {x qual f g : Str} {i n : Nat} {params : Arguments} {body : List Stmt} {scope : Scope} {fd : FuncData} (hx : L.cls[i]? = some x) (hm : mg x = some (.ref (He.ga K x))) (hc : excB K x [f] = true)
    (F : FunD K "__init__" qual params body scope [] [] (He.fAd K (x, some "__init__")) fd) (hb : isInit1 body f g = true) (S : FnScope ["self", g] ["self", g] scope) (hd : (g == ("__debug__" : Str)) = false) (hcd : (g == ("__classdict__" : Str)) = false) (bd : Binds K fd ["self", g] []) (hn : L.ats[n]? = some f) :
    ExcOk (lawT P w K mg base L) x i [n] := by
  obtain ⟨h1, h2, h3, h4, h5⟩ := exc_parts hc
  unfold isInit1 at hb
  split at hb
  · rename_i s p1 f' p2 g' p3 p4
    simp only [Bool.and_eq_true] at hb
    have e1 := sEq_t hb.1
    have e2 := sEq_t hb.2.1
    have e3 := sEq_t hb.2.2
    subst e1 e2 e3
    refine ⟨by rw [ca_eq hx]; exact hm, by rw [ca_eq hx]; exact h1, _, fd, [f'], ["self", g'], by rw [ca_eq hx]; exact h3, h4, init1 F S hd hcd, bd, .cons hn .nil, fun f hf => by rw [ca_eq hx]; exact h5 f hf⟩
  · cases hb
theorem exc2_ok {x qual f g f2 g2 : Str} {i n n2 : Nat} {params : Arguments} {body : List Stmt} {scope : Scope} {fd : FuncData} (hx : L.cls[i]? = some x) (hm : mg x = some (.ref (He.ga K x))) (hc : excB K x [f, f2] = true)
    (F : FunD K "__init__" qual params body scope [] [] (He.fAd K (x, some "__init__")) fd) (hb : isInit2 body f g f2 g2 = true) (S : FnScope ["self", g, g2] ["self", g, g2] scope) (hd : (g == ("__debug__" : Str)) = false) (hcd : (g == ("__classdict__" : Str)) = false) (hd2 : (g2 == ("__debug__" : Str)) = false) (hcd2 : (g2 == ("__classdict__" : Str)) = false)
    (bd : Binds K fd ["self", g, g2] []) (hn : L.ats[n]? = some f) (hn2 : L.ats[n2]? = some f2) : ExcOk (lawT P w K mg base L) x i [n, n2] := by
  obtain ⟨h1, h2, h3, h4, h5⟩ := exc_parts hc
  unfold isInit2 at hb
  split at hb
  · rename_i s p1 f' p2 g' p3 p4 s2 q1 f2' q2 g2' q3 q4
    simp only [Bool.and_eq_true] at hb
    have e1 := sEq_t hb.1.1
    have e2 := sEq_t hb.1.2.1
    have e3 := sEq_t hb.1.2.2
    have e4 := sEq_t hb.2.1
    have e5 := sEq_t hb.2.2.1
    have e6 := sEq_t hb.2.2.2
    subst e1 e2 e3 e4 e5 e6
    refine ⟨by rw [ca_eq hx]; exact hm, by rw [ca_eq hx]; exact h1, _, fd, [f', f2'], ["self", g', g2'], by rw [ca_eq hx]; exact h3, h4, init2 F S hd hcd hd2 hcd2, bd, .cons hn (.cons hn2 .nil), fun f hf => by rw [ca_eq hx]; exact h5 f hf⟩
  · cases hb
/-! ### the def that tells errors -/
def fldB (ats : List Str) (n : Str) : List Expr → List Nat → List Str → Bool
  | [], [], [] => true
  | .Attribute (.Name m _) f _ :: es, k :: ks, g :: fs => sEq m n && (sEq f g && ((match ats[k]? with
    | some f' => sEq f' f
    | none => false) && fldB ats n es ks fs))
  | _, _, _ => false
/-- the clauses, with the slots of their names, the fields' names -/
def hdB (L : LS) (sg : Scope) (Ng : List Str) : List ExceptHandler → List Hd → List (Nat × List Str) → Bool
  | [], [], [] => true
  | .ExceptHandler (some (.Name cx _)) (some n) [.Return (some (.Tuple (.Constant (.str tag) _ _ :: es) _ _)) _] _ :: r, h :: hs, (i, fs) :: l =>
    (match look cx sg.names, L.cls[h.c]?, Ng[i]?, look n sg.names with
    | some .globalImplicit, some cx', some n', some .local => (sEq cx' cx && (sEq n' n && (sNe cx "__debug__" && (sNe n "__debug__" && (sNe n "__classdict__" && (decide (tag.cps.toList = h.tag) && (fldB L.ats n es h.fs fs && Nat.ble es.length 1000)))))))
    | _, _, _, _ => false) && hdB L sg Ng r hs l
  | _, _, _ => false
theorem fldB_ok {T : Tb} {C : Addr} {n : Str} : ∀ {es : List Expr} {ks : List Nat} {fs : List Str}, fldB T.at_ n es ks fs = true → (∀ f ∈ fs, PySem.W.findIn T.K (.ref C) f = some none) → FldsAre T C n es ks fs := by
  intro es
  induction es with
  | nil =>
    intro ks fs h hno
    cases ks <;> cases fs <;> first | exact .nil | (simp [fldB] at h; done)
  | cons e es ih =>
    intro ks fs h hno
    unfold fldB at h
    split at h
    · rename_i e
      cases e
    · rename_i m p f q es' k ks' g fs' e
      cases e
      simp only [Bool.and_eq_true] at h
      obtain ⟨h1, h2, h3, h4⟩ := h
      have e1 := sEq_t h1
      have e2 := sEq_t h2
      subst e1 e2
      split at h3
      · rename_i f' hk
        have e3 := sEq_t h3
        subst e3
        exact .cons hk (hno _ List.mem_cons_self) (ih h4 fun f hf => hno f (List.mem_cons_of_mem _ hf))
      · cases h3
    · cases h
theorem tag_eq {tag : Str} {l : List Nat} (h : tag.cps.toList = l) : tag = toS l := by
  cases tag with
  | mk a => subst h; show (⟨a⟩ : Str) = ⟨a.toList.toArray⟩; rw [Array.toArray_toList]
theorem hdB_ok {sg : Scope} {Ng : List Str} {excs : List (Str × List Str)} (hcls : L.cls = excs.map (·.1)) (hm : ∀ x ∈ L.cls, mg x = some (.ref (He.ga K x))) (hc : (excs.all fun p => excB K p.1 p.2) = true)
    (hfs : ∀ (h : Hd) (fs : List Str), True) : ∀ {hds : List ExceptHandler} {hs : List Hd} {l : List (Nat × List Str)}, hdB L sg Ng hds hs l = true → (∀ p ∈ hs.zip l, ∀ f ∈ p.2.2, ∃ q, excs[p.1.c]? = some q ∧ f ∈ q.2) → ∃ l', Clauses (lawT P w K mg base L) sg Ng hds hs l' := by
  intro hds
  induction hds with
  | nil =>
    intro hs l h hz
    cases hs <;> cases l <;> first | exact ⟨[], .nil⟩ | (simp [hdB] at h; done)
  | cons hd hds ih =>
    intro hs l h hz
    unfold hdB at h
    split at h
    · rename_i e
      cases e
    · rename_i cx np n tag j p2 es kk p3 p4 p5 r hh hs' i fs l' e
      cases e
      rw [Bool.and_eq_true] at h
      obtain ⟨h1, h2⟩ := h
      split at h1
      · rename_i cx' n' g1 g2 g3 g4
        simp only [Bool.and_eq_true, decide_eq_true_eq] at h1
        obtain ⟨k1, k2, k3, k4, k5, k6, k7, k8⟩ := h1
        have e1 := sEq_t k1
        have e2 := sEq_t k2
        subst e1 e2
        obtain ⟨l2, hl2⟩ := ih h2 fun p hp => hz p (by rw [List.zip_cons_cons]; exact List.mem_cons_of_mem _ hp)
        -- the class
        obtain ⟨q, hq, hq2⟩ : ∃ q, excs[hh.c]? = some q ∧ q.1 = cx' := by
          rw [hcls, List.getElem?_map] at g2
          cases z : excs[hh.c]? with
          | none => rw [z] at g2; cases g2
          | some q => rw [z] at g2; exact ⟨q, rfl, Option.some.inj g2⟩
        have hex := List.all_eq_true.mp hc q (List.mem_of_getElem? hq)
        rw [hq2] at hex
        obtain ⟨o1, o2, o3, o4, o5⟩ := exc_parts hex
        have eca := ca_eq (P := P) (w := w) (K := K) (mg := mg) (base := base) g2
        refine ⟨(i, hh, fs) :: l2, .cons (look_t g1) (sNe_beq k3) (by rw [eca]; exact hm _ (List.mem_of_getElem? g2)) g3 (look_t g4) (sNe_beq k4) (sNe_beq k5) (tag_eq k6) (by rw [eca]; exact o2) (fldB_ok k7 fun f hf => ?_) (Nat.le_of_ble_eq_true k8) hl2⟩
        rw [eca]
        obtain ⟨q', hq', hf'⟩ := hz (hh, i, fs) (by rw [List.zip_cons_cons]; exact List.mem_cons_self) f hf
        rw [hq] at hq'
        cases hq'
        exact o5 f hf'
      · cases h1
    · cases h
end
end Z
end
set_option Elab.async false
set_option autoImplicit false
set_option linter.all false
set_option maxRecDepth 100000
set_option maxHeartbeats 2000000
/-! ZEnd: a law called by the claim's own caller. -/
noncomputable section
namespace Z
open PySem PySem.Spec PyProof.Rows L2
/-- what is tracked when the law is entered: the tables; the script, where the written part does not hold it -/
def hp0 (K : PySem.W.Frag) (T : List Addr) (a : Addr) (o : Obj) (xs : List V) : Hp := fun b => if b ∈ T then some (.tbl #[]) else if b = a ∧ K.lookup a = none then some (.frz o (.lst xs)) else none
section
variable {P : Program} {w : World} {K : PySem.W.Frag} {mg mb : Str → Option Value} {T : List Addr} {a : Addr} {o : Obj} {xs : List V} {S : Shared}
theorem hp0_t {b : Addr} (h : b ∈ T) : hp0 K T a o xs b = some (.tbl #[]) := if_pos h
theorem hp0_cases (b : Addr) : (b ∈ T ∧ hp0 K T a o xs b = some (.tbl #[])) ∨ (b = a ∧ b ∉ T ∧ K.lookup a = none ∧ hp0 K T a o xs b = some (.frz o (.lst xs))) ∨ (b ∉ T ∧ hp0 K T a o xs b = none) := by
  by_cases h1 : b ∈ T
  · exact .inl ⟨h1, if_pos h1⟩
  · by_cases h2 : b = a ∧ K.lookup a = none
    · exact .inr (.inl ⟨h2.1, h1, h2.2, by unfold hp0; rw [if_neg h1, if_pos h2]⟩)
    · exact .inr (.inr ⟨h1, by unfold hp0; rw [if_neg h1, if_neg h2]⟩)
/-- what is no sequence and no empty table is not tracked -/
structure Shy (u : Obj) : Prop where
  seq : ∀ vs n, u.data ≠ .seq vs n
  tab : u.data ≠ .fields #[]
theorem shy_dict {u : Obj} {es : Array DictEntry} {ep : Nat} (h : u.data = .dict es ep) : Shy u := ⟨fun vs n z => (nomatch h.symm.trans z), fun z => (nomatch h.symm.trans z)⟩
theorem shy_plain {u : Obj} (h : u.data = .plain) : Shy u := ⟨fun vs n z => (nomatch h.symm.trans z), fun z => (nomatch h.symm.trans z)⟩
/-- the state in which the law is entered -/
structure Entry (K : PySem.W.Frag) (mg mb : Str → Option Value) (cs : List (Addr × Addr)) (a : Addr) (vs : List Value) (ns : List Int) (S : Shared) : Prop where
  kin : K.In S.heap
  glob : S.heap.Ns mainGlobals mg
  blt : S.heap.Ns builtinsNs mb
  bltIs : ∀ x : Str, x ≠ "__name__" → mb x = bootBuiltins x
  lim : S.heap.NoLimit
  gens : S.gens = #[]
  empty : ∀ p ∈ cs, S.heap.get? p.2 = some { cls := .none, data := .fields #[] }
  out : ∀ p ∈ cs, K.lookup p.2 = none
  code : ∀ p ∈ cs, PySem.W.CodeHd S.heap p.1 p.2
  bmod : ∃ (bm : Addr) (ob : Obj), mg "__builtins__" = some (.ref bm) ∧ bm ≠ builtinsNs ∧ S.heap.get? bm = some ob ∧ ob.cls = .type "module" ∧ ob.dict = some builtinsNs ∧ ob.data = .plain
  list : S.heap.get? a = some { cls := .type "list", data := .seq vs.toArray }
  whole : IntsAre vs ns
  short : ns.length ≤ sizeLine
variable {cs : List (Addr × Addr)} {vs : List Value} {ns : List Int}
abbrev Entry.H (_E : Entry K mg mb cs a vs ns S) : Hp := hp0 K (cs.map (·.2)) a { cls := .type "list", data := .seq vs.toArray } (ns.map V.int)
theorem Entry.tab_at (E : Entry K mg mb cs a vs ns S) {b : Addr} (h : b ∈ cs.map (·.2)) : S.heap.get? b = some { cls := .none, data := .fields #[] } := by
  obtain ⟨p, hp, rfl⟩ := List.mem_map.mp h
  exact E.empty p hp
theorem Entry.a_out (E : Entry K mg mb cs a vs ns S) : a ∉ cs.map (·.2) := fun h => by
  have q := (E.tab_at h).symm.trans E.list
  cases q
theorem Entry.shy_none (E : Entry K mg mb cs a vs ns S) {b : Addr} {u : Obj} (e : S.heap.get? b = some u) (y : Shy u) : E.H b = none := by
  rcases hp0_cases (K := K) (T := cs.map (·.2)) (a := a) (o := { cls := .type "list", data := .seq vs.toArray }) (xs := ns.map V.int) b with ⟨h, _⟩ | ⟨h, _⟩ | ⟨_, h⟩
  · have q := (E.tab_at h).symm.trans e
    cases q
    exact absurd rfl y.tab
  · subst h
    have q := E.list.symm.trans e
    cases q
    exact absurd rfl (y.seq _ _)
  · exact h
theorem Entry.shy_base (E : Entry K mg mb cs a vs ns S) {b : Addr} {u : Obj} (e : S.heap.get? b = some u) (y : Shy u) : (hidT S.heap E.H).get? b = some u := hidT_get e (E.shy_none e y)
theorem Entry.ns_base (E : Entry K mg mb cs a vs ns S) {b : Addr} {m : Str → Option Value} (h : S.heap.Ns b m) : (hidT S.heap E.H).Ns b m := by
  obtain ⟨u, es, ep, e, d, r⟩ := h
  exact ⟨u, es, ep, E.shy_base e (shy_dict d), d, r⟩
theorem Entry.k_base (E : Entry K mg mb cs a vs ns S) : K.In (hidT S.heap E.H) := fun b u e => by
  refine hidT_get (E.kin b u e) ?_
  rcases hp0_cases (K := K) (T := cs.map (·.2)) (a := a) (o := { cls := .type "list", data := .seq vs.toArray }) (xs := ns.map V.int) b with ⟨h, _⟩ | ⟨h, _, n, _⟩ | ⟨_, h⟩
  · obtain ⟨p, hp, rfl⟩ := List.mem_map.mp h
    rw [E.out p hp] at e
    cases e
  · subst h
    rw [n] at e
    cases e
  · exact h
theorem Entry.tabs (E : Entry K mg mb cs a vs ns S) (p : Addr × Addr) (hp : p ∈ cs) : LamX.TabB (hidT S.heap E.H) mg p.1 p.2 := by
  have hne : mainGlobals ≠ p.2 := fun z => by
    obtain ⟨u, es, ep, e, d, _⟩ := E.glob
    rw [z, E.empty p hp] at e
    cases e
    cases d
  constructor
  · obtain ⟨u, us, file, tf, flags, tg, inF, text, tt, e1, r1, r2, r3, r⟩ := E.code p hp
    refine ⟨u, us, file, tf, flags, tg, inF, text, tt, E.shy_base e1 ⟨fun v n z => ?_, fun z => ?_⟩, r1, r2, r3, r⟩
    · cases r2.symm.trans z
    · cases r2.symm.trans z
      cases r3
  · obtain ⟨bm, ob, b1, b2, b3, b4, b5, b6⟩ := E.bmod
    have q1 : bm ≠ mainGlobals := fun z => by
      obtain ⟨u, es, ep, e, d, _⟩ := E.glob
      rw [← z, b3] at e
      cases e
      cases b6.symm.trans d
    have q2 : bm ≠ p.2 := fun z => by
      have e := E.empty p hp
      rw [← z, b3] at e
      cases e
      cases b6
    exact ⟨bm, ob, b1, b2, q1, q2, E.shy_base b3 (shy_plain b6), b4, b5, b6⟩
  · exact hne
theorem Entry.hok (E : Entry K mg mb cs a vs ns S) : HOk P w E.H S.heap := fun b u e => by
  rcases hp0_cases (K := K) (T := cs.map (·.2)) (a := a) (o := { cls := .type "list", data := .seq vs.toArray }) (xs := ns.map V.int) b with ⟨h, q⟩ | ⟨h, _, n, q⟩ | ⟨_, q⟩
  · cases q.symm.trans e
    exact E.tab_at h
  · cases q.symm.trans e
    subst h
    exact ⟨E.list, by rw [List.length_map]; exact E.short, vs, _, vals_ints E.whole, E.list⟩
  · cases q.symm.trans e
theorem Entry.env (E : Entry K mg mb cs a vs ns S) : Env0 P w K mg (hidT S.heap E.H) callerA [] S E.H :=
  have lim : (hidT S.heap E.H).NoLimit := let ⟨mc, h1, h2⟩ := E.lim; ⟨mc, E.ns_base h1, h2⟩
  ⟨rfl, ⟨E.k_base, E.ns_base E.glob, ⟨mb, E.ns_base E.blt, E.bltIs⟩, lim⟩, fun b u e => of_hidT e, Nat.le_of_eq (hidT_size _ _), trivial, fun b hb => absurd (show b ∈ ([] : List Addr) from hb) List.not_mem_nil, E.hok, .of_eq E.gens⟩
theorem Entry.sq (E : Entry K mg mb cs a vs ns S) : (∃ o', E.H a = some (.frz o' (.lst (ns.map V.int)))) ∨ KL K a (ns.map V.int) := by
  cases hk : K.lookup a with
  | none =>
    refine .inl ⟨{ cls := .type "list", data := .seq vs.toArray }, ?_⟩
    show hp0 K _ a _ _ a = _
    unfold hp0
    rw [if_neg E.a_out, if_pos ⟨rfl, hk⟩]
  | some u =>
    have e := (E.kin a u hk).symm.trans E.list
    cases e
    exact .inr ⟨_, vs.toArray, _, hk, rfl, rfl, rfl, by rw [List.size_toArray, E.whole.length]; exact E.short, by simpa using vals_ints E.whole⟩
/-- the law's call, from its run -/
theorem Entry.ends (E : Entry K mg mb cs a vs ns S) {fa : Addr} {CX : CXT} (run : codeAny (model P w) callerA (.call (.ref fa) ⟨[.ref a], []⟩) (L2.CR CX [] P w E.H S (fun v _ => v = .bl true) (fun _ _ _ => False)) S) (hCX : ∀ H e s', CX [] H S (fun _ _ _ => False) e s' → False) :
    codeAny (model P w) callerA (.call (.ref fa) ⟨[.ref a], []⟩) (fun r s' => r = .ok (.ret (.bool true)) ∧ OldK S.heap s'.heap ∧ s'.os = S.os ∧ AllBare s'.gens) S := by
  refine codeAny_mono run fun r s' h => ?_
  match r, h with
  | .error e, h => exact (hCX _ e s' h).elim
  | .ok .next, h => exact False.elim h
  | .ok .brk, h => exact False.elim h
  | .ok .cont, h => exact False.elim h
  | .ok (.ret u), ⟨v, H', os, bare, un, hok', r', q⟩ =>
    have q' : v = .bl true := q
    subst q'
    obtain rfl : u = Value.bool true := r'
    -- what is no table stays
    have stay : ∀ b u, b ∉ cs.map (·.2) → S.heap.get? b = some u → s'.heap.get? b = some u := fun b u nb e => by
      rcases hp0_cases (K := K) (T := cs.map (·.2)) (a := a) (o := { cls := .type "list", data := .seq vs.toArray }) (xs := ns.map V.int) b with ⟨h, _⟩ | ⟨h, _, n, z⟩ | ⟨_, z⟩
      · exact absurd h nb
      · have k1 := (E.hok (P := P) (w := w) b _ z).1
        have k2 := (hok' b _ (un.frzs b _ _ z)).1
        cases e.symm.trans k1
        exact k2
      · exact un.keep b u e z (by intro y; cases y) (by simp)
    have grow : ∀ p ∈ cs, ∃ more : Array Value, s'.heap.get? p.2 = some { cls := .none, data := .fields more } := fun p hp => by
      obtain ⟨more, z⟩ := un.tbls p.2 #[] (hp0_t (List.mem_map_of_mem hp))
      exact ⟨_, hok' p.2 _ z⟩
    refine ⟨rfl, ⟨fun b u e => ?_, fun b u e => ?_⟩, os, bare⟩
    · by_cases hb : b ∈ cs.map (·.2)
      · obtain ⟨p, hp, rfl⟩ := List.mem_map.mp hb
        obtain ⟨more, hm⟩ := grow p hp
        cases e.symm.trans (E.empty p hp)
        exact .inr (.inl ⟨((E.code p hp).tab (E.empty p hp)).isCodeTable, rfl, #[], more, rfl, by rw [Array.empty_append]; exact hm⟩)
      · exact .inl (stay b u hb e)
    · by_cases hb : b ∈ cs.map (·.2)
      · obtain ⟨p, hp, rfl⟩ := List.mem_map.mp hb
        obtain ⟨more, hm⟩ := grow p hp
        exact ⟨_, hm⟩
      · exact ⟨u, stay b u hb e⟩
end
end Z
end
set_option Elab.async false
set_option autoImplicit false
set_option linter.all false
set_option maxRecDepth 100000
set_option maxHeartbeats 2000000
/-! ZLaw: a law over the table. -/
noncomputable section
namespace Z
open PySem PySem.Spec PyProof.Rows L2
theorem cx_never {P : Program} {w : World} {outer : List Env} {H : Hp} {s s' : Shared} {e : Value} (h : L2.CX P w outer H s (fun _ _ _ => False) e s') : False := by
  obtain ⟨_, _, _, _, _, _, _, _, _, _, _, _, h⟩ := h
  exact h
/-! ### the table, def by def -/
def AllF (p : Nat → List Str → Prop) : Nat → List (List Str) → Prop
  | _, [] => True
  | i, ps :: r => p i ps ∧ AllF p (i + 1) r
theorem AllF.at_ {p : Nat → List Str → Prop} : ∀ {l : List (List Str)} {j i : Nat} {ps : List Str}, AllF p j l → l[i]? = some ps → p (j + i) ps
  | [], _, _, _, _, e => (nomatch e)
  | ps :: r, j, 0, _, h, e => by cases e; exact h.1
  | ps :: r, j, i + 1, _, h, e => by
    have := AllF.at_ (i := i) h.2 (by simpa using e)
    rw [show j + (i + 1) = j + 1 + i from by omega]
    exact this
abbrev BindP (x : Str) (st : Stmt) (ps : List Str) : Prop := ∀ (kV doc pm : Value) (an : Option Addr) (cdv ct : Value) (us : List Value), us.length = ps.length → bindArgs (PySem.W.fnOf x x (defArgs st) (defBody st) (defScope st) .none kV doc pm an cdv ct) ⟨us, []⟩ = pure (ps.zip us)
/-- the same by the parameters' names -/
abbrev BindPK (x : Str) (st : Stmt) (ps : List Str) : Prop := ∀ (kV doc pm : Value) (an : Option Addr) (cdv ct : Value) (us : List Value), us.length = ps.length → bindArgs (PySem.W.fnOf x x (defArgs st) (defBody st) (defScope st) .none kV doc pm an cdv ct) ⟨[], ps.zip us⟩ = pure (ps.zip us)
theorem bindsKw_of {K : PySem.W.Frag} {x : Str} {st : Stmt} {ps : List Str} {f : Addr} {fd : FuncData} (F : FunD K x x (defArgs st) (defBody st) (defScope st) [] [] f fd) (h : BindPK x st ps) : BindsKw K fd ps := by
  obtain ⟨oc, od, dV, kV, doc, pm, an, cdv, ct, osl, rfl, lk, hcd, hD, hK⟩ := F.ex
  rcases hD with ⟨_, rfl⟩ | ⟨e, _⟩
  · exact fun s us _ hl => .of_eq (h kV doc pm an cdv ct us hl)
  · exact absurd rfl e
/-- the tables of the defs that make lambdas -/
structure LTab (L : LS) (K : PySem.W.Frag) (mg : Str → Option Value) (base : Heap) : Prop where
  tab : ∀ x ∈ L.tf, LamX.TabB base mg (He.cT K (x, none)).1 (He.cT K (x, none)).2
  nd : (L.tf.map fun x => (He.cT K (x, none)).2).Nodup
theorem nodup_map_inj {α β : Type} {f : α → β} : ∀ {l : List α}, (l.map f).Nodup → ∀ {x y : α}, x ∈ l → y ∈ l → f x = f y → x = y
  | [], _, _, _, h, _, _ => (nomatch h)
  | a :: r, hn, x, y, hx, hy, e => by
    rw [List.map_cons, List.nodup_cons] at hn
    rcases List.mem_cons.mp hx with h1 | h1 <;> rcases List.mem_cons.mp hy with h2 | h2
    · rw [h1, h2]
    · exact absurd (by rw [← h1, e]; exact List.mem_map_of_mem h2) hn.1
    · exact absurd (by rw [← h2, ← e]; exact List.mem_map_of_mem h1) hn.1
    · exact nodup_map_inj hn.2 h1 h2 e
theorem nodup_at {α : Type} {l : List α} (h : l.Nodup) : ∀ {i j : Nat} {x : α}, l[i]? = some x → l[j]? = some x → i = j := by
  induction l with
  | nil => intro i j x e; simp at e
  | cons a r ih =>
    rw [List.nodup_cons] at h
    intro i j x e1 e2
    cases i with
    | zero => cases j with
      | zero => rfl
      | succ j =>
        have q : a = x := by simpa using e1
        have q2 : r[j]? = some x := by simpa using e2
        exact absurd (by rw [q]; exact List.mem_of_getElem? q2) h.1
    | succ i => cases j with
      | zero =>
        have q : a = x := by simpa using e2
        have q2 : r[i]? = some x := by simpa using e1
        exact absurd (by rw [q]; exact List.mem_of_getElem? q2) h.1
      | succ j =>
        have q1 : r[i]? = some x := by simpa using e1
        have q2 : r[j]? = some x := by simpa using e2
        exact congrArg Nat.succ (ih h.2 q1 q2)
theorem LTab.f {L : LS} {P : Program} {w : World} {K : PySem.W.Frag} {mg : Str → Option Value} {base : Heap} (t : LTab L K mg base) {x : Str} {i : Nat} (hx : x ∈ L.tf) (hi : L.names.getD i Str.empty = x) : TabF (lawT P w K mg base L) i x x := by
  refine ⟨by show He.ga K x = He.ga K (L.names.getD i Str.empty); rw [hi], _, t.tab x hx, List.mem_map.mpr ⟨x, hx, rfl⟩, fun p hp e => ?_⟩
  obtain ⟨y, hy, rfl⟩ := List.mem_map.mp hp
  have := nodup_map_inj t.nd hy hx e
  rw [this]
section
variable {P : Program} {w : World} {K : PySem.W.Frag} {mg : Str → Option Value} {base : Heap} {L : LS} {fs : List Fun} {fns : List (List Str)} {gl : List (Str × Gd)} {n : Nat} {ev : Ev} {tab : Bool}
abbrev FnX (K : PySem.W.Frag) (L : LS) (i : Nat) (x : Str) (st : Stmt) : Prop := ∃ fd, FunD K x x (defArgs st) (defBody st) (defScope st) [] [] (He.ga K (L.names.getD i Str.empty)) fd
abbrev KwX (L : LS) (i : Nat) (x : Str) (st : Stmt) (ps : List Str) : Prop := L.kws.any (Nat.beq i) = true → BindPK x st ps
abbrev TbX (L : LS) (i : Nat) (tab : Bool) : Prop := tab = true → L.names.getD i Str.empty ∈ L.tf
theorem mk_code {i nl : Nat} {x : Str} {st : Stmt} {N ps : List Str} {c : CS} (hF : FnX K L i x st) (hb : BindP x st ps) (hk : KwX L i x st ps) (hx : tab = true → L.names.getD i Str.empty = x ∧ x ∈ L.tf) (hT : LTab L K mg base) (sc : FnScope N ps (defScope st)) (hN : N.length = ps.length + nl)
    (hc : cmS (al := sh) fns (cm fns 41) ⟨N, defScope st, defScope st, gl, tab, false⟩ 40 (defBody st) = some c) (hi : fs[i]? = some (.code nl c)) (hg : GlOk (lawT P w K mg base L) gl)
    (hS : St8.Ok ⟨lawT P w K mg base L, ev, n + 2, fns, n⟩) : FnIs (lawT P w K mg base L) (stp fs ev) (n + 3) i ps := by
  obtain ⟨fd, F⟩ := hF
  exact fn_code (T := lawT P w K mg base L) (d := 40) (e := 40) (g0 := x) (fun z => hT.f (hx z).2 (hx z).1) F (F.bindsN hb) (fun z => bindsKw_of F (hk z)) sc hg hi hN hc hS
theorem mk_pen {i : Nat} {x : Str} {st : Stmt} {N ps : List Str} (hF : FnX K L i x st) (hb : BindP x st ps) (hk : KwX L i x st ps) (sc : FnScope N ps (defScope st)) (hN : N.length = ps.length + 2) (h1 : ps.length = 1)
    (hc : cmPen fns ⟨N, defScope st, defScope st, gl, false, false⟩ (defBody st) = some cPenCode) (hi : fs[i]? = some (.orc orcPen)) (hg : GlOk (lawT P w K mg base L) gl)
    (hS : St8.Ok ⟨lawT P w K mg base L, ev, n + 2, fns, n⟩) : FnIs (lawT P w K mg base L) (stp fs ev) (n + 3) i ps := by
  obtain ⟨fd, F⟩ := hF
  refine fn_orc (T := lawT P w K mg base L) (d := 0) (e := 0) (nl := 2) (c := cPenCode) (g0 := x) (tab := false) (fun z => (nomatch z)) F (F.bindsN hb) (fun z => bindsKw_of F (hk z)) sc hg hi hN (fun hS => cmPen_ok (S := ⟨lawT P w K mg base L, ev, n + 2, fns, n⟩) (ci := ⟨N, defScope st, defScope st, gl, false, false⟩) (Nat.le_add_left 2 n) hS rfl ⟨hg, fun z => (nomatch z)⟩ hc) ?_ hS
  rw [h1]
  exact pen_know
theorem mk_orc {i nl : Nat} {x : Str} {st : Stmt} {N ps : List Str} {c : CS} {g : List D → Sto → K1 → KX → Bool} (hF : FnX K L i x st) (hb : BindP x st ps) (hk : KwX L i x st ps) (sc : FnScope N ps (defScope st)) (hN : N.length = ps.length + nl)
    (hc : cmS (al := sh) fns (cm fns 41) ⟨N, defScope st, defScope st, gl, false, false⟩ 40 (defBody st) = some c) (hi : fs[i]? = some (.orc g)) (hg : GlOk (lawT P w K mg base L) gl)
    (hw : ∀ vs H Q E, spOf (lawT P w K mg base L) ⟨fun _ ds M k kx => g ds M k kx⟩ i ps.length vs H Q E → spOf (lawT P w K mg base L) ⟨fun _ ds M k kx => (Fun.code nl c).run ev ds M k kx⟩ i ps.length vs H Q E)
    (hS : St8.Ok ⟨lawT P w K mg base L, ev, n + 2, fns, n⟩) : FnIs (lawT P w K mg base L) (stp fs ev) (n + 3) i ps := by
  obtain ⟨fd, F⟩ := hF
  exact fn_orc (T := lawT P w K mg base L) (d := 0) (e := 0) (g0 := x) (tab := false) (fun z => (nomatch z)) F (F.bindsN hb) (fun z => bindsKw_of F (hk z)) sc hg hi hN (fun hS => cmS_ok (S := ⟨lawT P w K mg base L, ev, n + 2, fns, n⟩) (ci := ⟨N, defScope st, defScope st, gl, false, false⟩) (Nat.le_add_left 2 n) hS rfl ⟨hg, fun z => (nomatch z)⟩ 40 _ c hc) hw hS
theorem mk_draw {i : Nat} {x : Str} {st : Stmt} {N ps : List Str} (hF : FnX K L i x st) (hb : BindP x st ps) (hk : KwX L i x st ps) (sc : FnScope N ps (defScope st)) (hN : N.length = ps.length + 2) (h2 : ps.length = 2)
    (hc : cmS (al := sh) fns (cm fns 41) ⟨N, defScope st, defScope st, gl, false, false⟩ 40 (defBody st) = some cDraw) (hi : fs[i]? = some (.orc orcDraw)) (hg : GlOk (lawT P w K mg base L) gl)
    (hS : St8.Ok ⟨lawT P w K mg base L, ev, n + 2, fns, n⟩) : FnIs (lawT P w K mg base L) (stp fs ev) (n + 3) i ps :=
  mk_orc hF hb hk sc hN hc hi hg (by rw [h2]; exact draw_know) hS
/-- a def that nothing is promised of -/
theorem mk_none {i : Nat} {x : Str} {st : Stmt} {ps : List Str} (hF : FnX K L i x st) (hb : BindP x st ps) (hk : KwX L i x st ps) (hi : fs[i]? = some (.orc fun _ _ _ _ => false)) : FnIs (lawT P w K mg base L) (stp fs ev) (n + 3) i ps := by
  obtain ⟨fd, F⟩ := hF
  have no : ∀ vs H Q E, spOf (lawT P w K mg base L) (stp fs ev) i ps.length vs H Q E → False := fun vs H Q E ⟨W, ds, M, k, kx, _, _, _, hl, h, _⟩ => by
    have h1 : nthK fs i (fun f => f.run ev ds M k kx) = true := h
    rw [nthK_of hi] at h1
    cases h1
  exact ⟨fd, ⟨fun vs H Q E h => (no vs H Q E h).elim, fun A outer s H args us vs Q E hr he hb hv h => (no vs H Q E h).elim⟩, F.kp, F.bindsN hb, fun z => bindsKw_of F (hk z)⟩
theorem mk_zero {i : Nat} {x : Str} {st : Stmt} {ps : List Str} (hF : FnX K L i x st) (hb : BindP x st ps) (hk : KwX L i x st ps) : FnIs (lawT P w K mg base L) (evN fs 0) 0 i ps := by
  obtain ⟨fd, F⟩ := hF
  exact fn_zero F.kp (F.bindsN hb) fun z => bindsKw_of F (hk z)
theorem allF_ok {p : Nat → List Str → Prop} (h : AllF p 0 fns) (i : Nat) (ps : List Str) (e : fns[i]? = some ps) : p i ps := by
  have := AllF.at_ h e
  rwa [Nat.zero_add] at this
/-! ### the def that tells errors -/
def tryHds (b : List Stmt) (a : Str) : List ExceptHandler := match b with
  | [.Try [.Return (some (.Call (.Name a' _) [] [] _)) _] hds [] [] _] => (match sEq a' a with
    | true => hds
    | false => [])
  | _ => []
def zB (excs : List (Str × List Str)) : List Hd → List (Nat × List Str) → Bool
  | h :: hs, (_, fs) :: l => (match excs[h.c]? with
    | some q => (fs.all fun f => q.2.any fun g => sEq f g) && (Nat.blt h.c excs.length)
    | none => false) && zB excs hs l
  | [], [] => true
  | _, _ => false
theorem zB_ok {excs : List (Str × List Str)} : ∀ {hs : List Hd} {l : List (Nat × List Str)}, zB excs hs l = true → (∀ p ∈ hs.zip l, ∀ f ∈ p.2.2, ∃ q, excs[p.1.c]? = some q ∧ f ∈ q.2) ∧ ∀ h ∈ hs, h.c < excs.length
  | [], [], _ => ⟨fun p hp => (nomatch hp), fun h hh => (nomatch hh)⟩
  | [], _ :: _, h => (nomatch h)
  | _ :: _, [], h => (nomatch h)
  | h :: hs, (i, fs) :: l, e => by
    unfold zB at e
    rw [Bool.and_eq_true] at e
    obtain ⟨e1, e2⟩ := e
    obtain ⟨q1, q2⟩ := zB_ok e2
    split at e1
    · rename_i q hq
      rw [Bool.and_eq_true] at e1
      refine ⟨fun p hp f hf => ?_, fun g hg => ?_⟩
      · rw [List.zip_cons_cons] at hp
        rcases List.mem_cons.mp hp with rfl | hp
        · obtain ⟨g, hg, e3⟩ := List.any_eq_true.mp (List.all_eq_true.mp e1.1 f hf)
          exact ⟨q, hq, by rw [sEq_t e3]; exact hg⟩
        · exact q1 p hp f hf
      · rcases List.mem_cons.mp hg with rfl | hg
        · exact Nat.blt_eq.mp e1.2
        · exact q2 g hg
    · cases e1
theorem told_ok {x a : Str} {excs : List (Str × List Str)} {params : Arguments} {body : List Stmt} {scope : Scope} {fd : FuncData} {Ng : List Str} {hs : List Hd} {l : List (Nat × List Str)} (hcls : L.cls = excs.map (·.1)) (hm : ∀ x ∈ L.cls, mg x = some (.ref (He.ga K x))) (hce : clsB K excs = true) (hmx : mg x = some (.ref (He.ga K x)))
    (F : FunD K x x params body scope [] [] (He.ga K x) fd) (S : FnScope Ng [a] scope) (bd : Binds K fd [a] []) (hNa : Ng[0]? = some a) (hda : (a == ("__debug__" : Str)) = false) (hca : (a == ("__classdict__" : Str)) = false) (hb : hdB L scope Ng (tryHds body a) hs l = true) (hz : zB excs hs l = true) (hne : hs ≠ []) (hats : L.ats.Nodup) :
    ToldOk (lawT P w K mg base L) x L.cls.length hs := by
  unfold clsB at hce
  rw [Bool.and_eq_true] at hce
  obtain ⟨z1, z2⟩ := zB_ok hz
  obtain ⟨l', hl'⟩ := hdB_ok (P := P) (w := w) (base := base) hcls hm hce.1 (fun _ _ => trivial) hb z1
  obtain ⟨oc, od, dV, kV, doc, pm, an, cdv, ct, osl, rfl, lk, hcd, hD, hK⟩ := F.ex
  have hlen : L.cls.length = excs.length := by rw [hcls, List.length_map]
  refine ⟨⟨_, a, params, body, scope, dV, kV, doc, pm, cdv, ct, oc, an, od, osl, Ng, hmx, F.kp, lk, hcd, bd, S, hNa, vis_par S (by simp), hda, hca, fun X q hXK hXm => ?_⟩, fun i hi h hh => ?_, fun i j f e1 e2 => ?_⟩
  · unfold tryHds at hl'
    split at hl'
    · rename_i a' p1 p2 p3 hds p4
      split at hl'
      · rename_i ea
        have := sEq_t ea
        subst this
        cases hds with
        | nil => cases hl'; exact absurd rfl hne
        | cons h0 hds => exact tells_gives hXK hXm S.nd hNa hl'
      · cases hl'; exact absurd rfl hne
    · cases hl'; exact absurd rfl hne
  · have q := List.all_eq_true.mp hce.2 i (List.mem_range.mpr (by rw [List.length_map]; omega))
    have q2 := List.all_eq_true.mp q h.c (List.mem_range.mpr (by rw [List.length_map]; exact z2 h hh))
    have q3 := of_decide_eq_true q2
    show PySem.W.exmOne K (.ref (He.ga K (L.cls.getD i Str.empty))) (.ref (He.ga K (L.cls.getD h.c Str.empty))) = _
    rw [hcls]
    exact q3
  · exact nodup_at hats e1 e2
end
/-! ### the law's def, called by the claim's caller -/
section
variable {P : Program} {w : World} {K : PySem.W.Frag} {mg mb : Str → Option Value} {L : LS} {fns : List (List Str)} {gl : List (Str × Gd)} {n : Nat} {ev : Ev} {cs : List (Addr × Addr)} {a : Addr} {vs : List Value} {ns : List Int} {S : Shared}
theorem law_body {nl : Nat} {x : Str} {st : Stmt} {N : List Str} {c : CS} {fa : Addr} {fd : FuncData} {tab : Bool} (E : Entry K mg mb cs a vs ns S) (F : FunD K x x (defArgs st) (defBody st) (defScope st) [] [] fa fd) (hfd : BindsTo S fd ⟨[.ref a], []⟩ [("script", .ref a)]) (sc : FnScope N ["script"] (defScope st)) (hN : N.length = 1 + nl)
    (ht : tab = true → TabF (lawT P w K mg (hidT S.heap E.H) L) (L.names.findIdx (· == x)) x x ∧ fa = He.ga K x)
    (hfa : (lawT P w K mg (hidT S.heap E.H) L).fa (L.names.findIdx (· == x)) = fa)
    (hc : cmS (al := sh) fns (cm fns 41) ⟨N, defScope st, defScope st, gl, tab, true⟩ 40 (defBody st) = some c) (hg : GlOk (lawT P w K mg (hidT S.heap E.H) L) gl)
    (hS : St8.Ok ⟨lawT P w K mg (hidT S.heap E.H) L, ev, n + 2, fns, n⟩) (hr : Room (n + 3) callerA) (hTs : LamX.Tabs (lawT P w K mg (hidT S.heap E.H) L).tabs E.H)
    (h : (Fun.code nl c).run ev [.lv (ns.map D.int)] M0 (fun d _ => isBl d fun b => b) kx0 = true) :
    codeAny (model P w) callerA (.call (.ref fa) ⟨[.ref a], []⟩) (L2.CR (L2.CX P w) [] P w E.H S (fun v _ => v = .bl true) (fun _ _ _ => False)) S := by
  obtain ⟨oc, od, dV, kV, doc, pm, an, cdv, ct, osl, rfl, lk, hcd, _, _⟩ := F.ex
  have h2 : unds nl (fun us => appK [D.lv (ns.map D.int)] us fun σ => c ev σ M0 ⟨fun _ M => (fun d _ => isBl d fun b => b) .non M, fun d _ => isBl d fun b => b, fun _ _ => false, fun _ _ => false⟩ kx0) = true := h
  rw [unds_eq, appK_eq] at h2
  refine LamX.run_ofS (N := N) (ps := ["script"]) (us := [.ref a]) (vs := [.ref a]) lk hcd sc hr E.env hfd (.cons rfl .nil) rfl fun hr' => ?_
  refine ⟨TofSs (cxOf (L2.CX P w) P w K mg (hidT S.heap E.H) N x (defScope st) fa cdv callerA [] S E.H fun _ _ _ => False) (defBody st), pss_tof, ?_⟩
  have tk := takes_of (X := cxOf (L2.CX P w) P w K mg (hidT S.heap E.H) N x (defScope st) fa cdv callerA [] S E.H fun _ _ _ => False) (E := fun _ _ _ => False) rfl rfl rfl rfl
  have en : nl = N.length - 1 := by omega
  rw [en] at h2
  have fin : ∀ (W' : Wd) (d : D) (v : V) (M' : Sto), VR (lawT P w K mg (hidT S.heap E.H) L) W' d v → (isBl d fun b => b) = true → v = .bl true := fun W' d v M' rv e => by
    obtain ⟨b, rfl, e2⟩ := isBl_t e
    cases rv
    rw [show b = true from e2]
  refine cmS_ok (S := ⟨lawT P w K mg (hidT S.heap E.H) L, ev, n + 2, fns, n⟩) (ci := ⟨N, defScope st, defScope st, gl, tab, true⟩) (n := 40) (Nat.le_add_left 2 n) hS rfl ⟨hg, fun _ => Nat.le_refl _⟩ 40 _ c hc _ (fun cls d _ H => False) ⟨rfl, rfl, rfl, rfl, rfl, rfl, sc.nd, hr', tk⟩ ⟨passes_of rfl, rfl, rfl, sc.kind⟩
    ⟨rfl, rfl, fun y hy => ⟨hy, .inl rfl⟩, fun z => by
      obtain ⟨t1, t2⟩ := ht z
      have := tabE_of (T := lawT P w K mg (hidT S.heap E.H) L) (scope := defScope st) (N := N) (A := callerA) (outer := []) (s := S) (H := E.H) (E := fun _ _ _ => False) t1 hcd ⟨oc, od, osl, by rw [hfa]; exact lk, rfl⟩
      rw [hfa] at this
      exact this, fun _ => rfl⟩
    ⟨0, fun _ => 0, E.H⟩ _ _ M0 _ kx0 _ (SR.start (.cons (.lv (xs := ns.map V.int) ?_ (vrs_ints ns)) .nil) (by show 1 ≤ N.length; omega)) ⟨rfl, fun l hl => absurd hl (Nat.not_lt_zero _), fun l c hl => absurd hl (Nat.not_lt_zero _), fun i j hi => absurd hi (Nat.not_lt_zero _), hTs⟩ h2
    ⟨fun W' σd' σ' M' l m s e => fin W' _ _ M' .non e, fun W' d v M' l m rv e => fin W' d v M' rv e, fun W' σd' σ' M' l m s e => (nomatch e), fun W' σd' σ' M' l m s e => (nomatch e)⟩ (fun σ => PX.zero)
  rcases E.sq with ⟨o', q⟩ | q
  · exact .inl ⟨o', q⟩
  · exact .inr q
end
/-- the head's law: what is asked at each world -/
theorem walk_law {l : PySem.W.OpenLaw} {nz : Nat} {q : Program} {loose : List Str} {XP : (Str → Option Value) → Heap → Prop} {YP : World → Heap → Prop} {d : DefRec} (hn : l.most = some nz) (hn2 : nz ≤ sizeLine) (hdf : d.params.defaults = [])
    (F : ∀ (w : World) (mg : Str → Option Value) (fa : Addr) (h : Heap), YP w h → h.Ns mainGlobals mg → mg d.name = some (.ref fa) → ∃ (K : PySem.W.Frag) (cs : List (Addr × Addr)), K.In h ∧ (∀ p ∈ cs, h.get? p.2 = some { cls := .none, data := .fields #[] }) ∧ (∀ p ∈ cs, K.lookup p.2 = none) ∧ (∀ p ∈ cs, PySem.W.CodeHd h p.1 p.2) ∧
      ∀ (mb : Str → Option Value) (a : Addr) (vs : List Value) (ns : List Int) (S : Shared) (E : Entry K mg mb cs a vs ns S), ns.length ≤ nz → codeAny (model l.prog w) callerA (.call (.ref fa) ⟨[.ref a], []⟩) (L2.CR (L2.CX l.prog w) [] l.prog w E.H S (fun v _ => v = .bl true) (fun _ _ _ => False)) S) :
    PySem.W.WalkO q loose XP YP l.row.toRowW d [] (fun f vs => PySem.call f vs) := by
  refine Att.attach_call hn hdf fun w s₀ s₁ mg mb fa o pm cd doc a vs ns G Y ho hd hcd hmg hobj hints hlen hg => ?_
  obtain ⟨K, cs, KX, hT, nT, C, run⟩ := F w mg fa _ Y G.T.g hmg
  have E : Entry K mg mb cs a vs ns s₁ := ⟨KX, G.T.g, G.T.b, G.T.builtins, G.T.nolimit, hg, hT, nT, C, G.T.bmain, hobj, hints, Nat.le_trans hlen hn2⟩
  exact E.ends (run mb a vs ns s₁ E hlen) fun H e s' => cx_never
/-! ### the law's run, the pen being made first -/
abbrev kB : K1 := fun d _ => isBl d fun b => b
abbrev ksB : Ks := ⟨fun _ M => kB .non M, kB, fun _ _ => false, fun _ _ => false⟩
section
variable {fs : List Fun} {ev : Ev} {ip nl : Nat} {ns : List Int}
theorem pen_first {f : D → Sto → Bool} {us : List D} (hp : fs[ip]? = some (.orc orcPen)) (hz : ns.length ≤ 63) (h : f (.loc 0) M1 = true) : cCallN ip 1 (cCons (cVar 0) cNil) (stp fs ev) (.lv (ns.map D.int) :: us) M0 f kx0 = true := by
  show lenIs [D.lv (ns.map D.int)] 1 (nthK fs ip _) = true
  rw [nthK_of hp]
  refine Eq.trans (show _ = intsK (ns.map D.int) _ from rfl) ?_
  rw [intsK_of, lenK_eq]
  have : Nat.ble ns.length 63 = true := Nat.ble_eq_true_of_le hz
  rw [this]
  exact h
/-- pen = _law_pen(script); .. -/
theorem law_run1 {rest : CS} (hp : fs[ip]? = some (.orc orcPen)) (hz : ns.length ≤ 63) (h : unds nl (fun us => rest (stp fs ev) (.lv (ns.map D.int) :: .loc 0 :: us) M1 ksB kx0) = true) :
    (Fun.code (nl + 1) (lawSeq ip rest)).run (stp fs ev) [.lv (ns.map D.int)] M0 kB kx0 = true := by
  show unds (nl + 1) (fun us => appK [D.lv (ns.map D.int)] us fun σ => lawSeq ip rest (stp fs ev) σ M0 ksB kx0) = true
  rw [unds_eq, appK_eq, List.replicate_succ]
  rw [unds_eq] at h
  exact pen_first (us := D.und :: List.replicate nl D.und) (f := fun d M => cGName 1 (stp fs ev) d (.lv (ns.map D.int) :: D.und :: List.replicate nl D.und) M (fun σ M => rest (stp fs ev) σ M ksB kx0) kx0) hp hz h
/-- pen, x = _law_pen(script), ..; .. -/
def lawSeq2 (ip i j : Nat) (r : CA) (rest : CS) : CS := cSeq (cPar i j (cCons (cCallN ip 1 (cCons (cVar 0) cNil)) r)) rest
theorem law_run2 {r : CA} {rest : CS} {i j : Nat} (hp : fs[ip]? = some (.orc orcPen)) (hz : ns.length ≤ 63)
    (h : unds nl (fun us => r (stp fs ev) (.lv (ns.map D.int) :: us) M1 (fun xs M => arg2 (.loc 0 :: xs) fun x y => setK (.lv (ns.map D.int) :: us) i x fun σ => setK σ j y fun σ => rest (stp fs ev) σ M ksB kx0) kx0) = true) :
    (Fun.code nl (lawSeq2 ip i j r rest)).run (stp fs ev) [.lv (ns.map D.int)] M0 kB kx0 = true := by
  show unds nl (fun us => appK [D.lv (ns.map D.int)] us fun σ => lawSeq2 ip i j r rest (stp fs ev) σ M0 ksB kx0) = true
  rw [unds_eq, appK_eq]
  rw [unds_eq] at h
  exact pen_first (us := List.replicate nl D.und) (f := fun d M => r (stp fs ev) (.lv (ns.map D.int) :: List.replicate nl D.und) M (fun xs M => arg2 (d :: xs) fun x y => setK (.lv (ns.map D.int) :: List.replicate nl D.und) i x fun σ => setK σ j y fun σ => rest (stp fs ev) σ M ksB kx0) kx0) hp hz h
end
/-- the __init__ of a class, by its place -/
def initAt (k : Nat) (st : Stmt) : Stmt := match st with
  | .ClassDef _ _ _ b _ _ _ _ _ _ _ => b.getD k st
  | _ => st
/-- the same bind fact for an __init__ -/
abbrev BindPI (q : Str) (st : Stmt) (ps : List Str) : Prop := ∀ (kV doc pm : Value) (an : Option Addr) (cdv ct : Value) (us : List Value), us.length = ps.length → bindArgs (PySem.W.fnOf "__init__" q (defArgs st) (defBody st) (defScope st) .none kV doc pm an cdv ct) ⟨us, []⟩ = pure (ps.zip us)
def tabU (K : PySem.W.Frag) (L : LS) : Bool := decide ((L.tf.map fun x => (He.cT K (x, none)).2).Nodup)
theorem noTab {p : Prop} : false = true → p := fun z => Bool.noConfusion z
end Z
end
set_option Elab.async false
set_option linter.all false
set_option maxRecDepth 1000000
set_option maxHeartbeats 0
noncomputable section
namespace Lw
open PySem PySem.Spec PyProof.Rows L2 Z
def top (i : Nat) : Stmt := PySem.Challenge.pw_gainsteps_k37_errors_of_sharing_and_part.main.body.getD i (.Pass ⟨0, 0, 0, 0⟩)
def names : List Str := (["is_whole", "is_count", "just_as", "many_in", "is_sizes_in", "play_in", "number_in", "need_number", "changed_in", "is_game_in", "need_game", "gain_in", "is_lot", "are_worths", "is_shared_in", "need_shared", "users_in", "game_in", "is_round_in", "rounds_in", "sums_in", "open_round_in", "table_in", "potential_in_rounds", "is_word", "sum_in", "is_open_in", "is_bar_in", "shared_table", "together_in"] : List Str) ++ (["alone_in", "things_in", "share_answer", "are_things", "tells", "is_share_answer", "is_sharing", "play_users", "lowest_in", "lessened_in", "added_in", "mean_in", "rest_in", "lots_in", "potential_in", "potential_in_parting", "told_in", "parts_in", "parted_answer", "is_parted_answer", "potential_of", "swirl_of", "has_swirl", "plain_steps", "_law_pen", "_law_draw", "_law_pick", "_law_games", "law"] : List Str)
def fns : List (List Str) := ([(["value"] : List Str), (["value"] : List Str), (["value", "due"] : List Str), (["sizes"] : List Str), (["value"] : List Str), (["sizes", "k"] : List Str), (["sizes", "play"] : List Str), (["sizes", "what", "k"] : List Str), (["sizes", "k", "i", "a"] : List Str), (["value"] : List Str), (["game"] : List Str), (["game", "k", "i", "a"] : List Str), (["most", "value"] : List Str), (["players", "value"] : List Str), (["value"] : List Str), (["shared"] : List Str), (["lots", "play"] : List Str), (["worths", "lots"] : List Str), (["sizes", "value"] : List Str), (["sizes"] : List Str)] : List (List Str)) ++ ([(["game", "told"] : List Str), (["game"] : List Str), (["game", "weights"] : List Str), (["game"] : List Str), (["value", "word", "many"] : List Str), (["game"] : List Str), (["game", "value"] : List Str), (["game", "value"] : List Str), (["shared"] : List Str), (["sizes", "table"] : List Str), (["game", "table"] : List Str), (["game", "table"] : List Str), (["game"] : List Str), (["sizes", "worths", "lots"] : List Str), (["game", "worths", "lots"] : List Str), (["game", "value"] : List Str), (["game"] : List Str), (["shared", "k"] : List Str), (["top", "bottom"] : List Str), (["bottom", "numbers"] : List Str)] : List (List Str)) ++ ([(["one", "two", "times", "by"] : List Str), (["sizes", "i", "table"] : List Str), (["sizes", "i", "table"] : List Str), (["many"] : List Str), (["game"] : List Str), (["game"] : List Str), (["table"] : List Str), (["game"] : List Str), (["game"] : List Str), (["game", "value"] : List Str), (["game"] : List Str), (["game"] : List Str), (["game"] : List Str), (["game"] : List Str), (["script"] : List Str), (["pen", "many"] : List Str), (["pen", "some"] : List Str), (["game"] : List Str), (["script"] : List Str)] : List (List Str))
def vals : List (Str × D) := [("MOST_PLAYS", (.int (64))), ("MOST_WORTH", (.int (99))), ("MOST_THINGS", (.int (12))), ("MOST_TOLD", (.int (400)))]
def frs : List Str := ["len", "isinstance", "tuple", "all", "int", "sum", "list", "any", "range", "enumerate", "zip", "bool", "str", "dict", "abs", "max", "min", "sorted", "repr", "next", "type"]
def excs : List (Str × List Str) := [("BadNumber", ["what", "number"]), ("BadGame", ["game"]), ("BadShared", ["shared"])]
def L0 : LS := ⟨names, ["BadNumber", "BadGame", "BadShared"], ["what", "number", "game", "shared"], ["_law_games", "law"], [28,37,52], ["_law_told_error"]⟩
def extra : List (Str × Gd) := [("BadNumber", (.exc 0 [0,1])), ("BadGame", (.exc 1 [2])), ("BadShared", (.exc 2 [3])), ("_law_told_error", (.told 3 [⟨1, [66,97,100,71,97,109,101], [2]⟩, ⟨0, [66,97,100,78,117,109,98,101,114], [0,1]⟩, ⟨2, [66,97,100,83,104,97,114,101,100], [3]⟩]))]
def gl : List (Str × Gd) := lawGl L0 vals true frs extra
/-! is_whole -/
def N0 : List Str := ["value"]
theorem sc0 : FnScope N0 ["value"] (defScope (top 6)) := ⟨rfl, rfl, rfl, by decide +kernel, rfl, by decide +kernel, by decide +kernel⟩
theorem bd0 : BindP "is_whole" (top 6) ["value"] := fun _ _ _ _ _ _ us hl => match us, hl with | [_], _ => rfl
def dd0 : He.DefD := ⟨("is_whole", none), "is_whole", "is_whole", defArgs (top 6), defBody (top 6), defScope (top 6), [], []⟩
theorem bk0 : KwX L0 0 "is_whole" (top 6) ["value"] := fun z => Bool.noConfusion (show false = true from z)
def f0 : CS := (cRet (cAndV (cBlt gIsi (cCons (cVar 0) (cCons (cLit (.ty .int)) cNil))) (cNotV (cBlt gIsi (cCons (cVar 0) (cCons (cLit (.ty .bool)) cNil))))))
theorem cd0 : cmS (al := sh) fns (cm fns 41) ⟨N0, defScope (top 6), defScope (top 6), gl, false, false⟩ 40 (defBody (top 6)) = some f0 := by kernel_rfl
/-! is_count -/
def N1 : List Str := ["value"]
theorem sc1 : FnScope N1 ["value"] (defScope (top 7)) := ⟨rfl, rfl, rfl, by decide +kernel, rfl, by decide +kernel, by decide +kernel⟩
theorem bd1 : BindP "is_count" (top 7) ["value"] := fun _ _ _ _ _ _ us hl => match us, hl with | [_], _ => rfl
def dd1 : He.DefD := ⟨("is_count", none), "is_count", "is_count", defArgs (top 7), defBody (top 7), defScope (top 7), [], []⟩
theorem bk1 : KwX L0 1 "is_count" (top 7) ["value"] := fun z => Bool.noConfusion (show false = true from z)
def f1 : CS := (cRet (cAndV (cCallN 0 1 (cCons (cVar 0) cNil)) (cBin gGe (cVar 0) (cInt (0)))))
theorem cd1 : cmS (al := sh) fns (cm fns 41) ⟨N1, defScope (top 7), defScope (top 7), gl, false, false⟩ 40 (defBody (top 7)) = some f1 := by kernel_rfl
/-! just_as -/
def N2 : List Str := ["value", "due", "is_row", ".0", "one", "two"]
theorem sc2 : FnScope N2 ["value", "due"] (defScope (top 8)) := ⟨rfl, rfl, rfl, by decide +kernel, rfl, by decide +kernel, by decide +kernel⟩
theorem bd2 : BindP "just_as" (top 8) ["value", "due"] := fun _ _ _ _ _ _ us hl => match us, hl with | [_, _], _ => rfl
def dd2 : He.DefD := ⟨("just_as", none), "just_as", "just_as", defArgs (top 8), defBody (top 8), defScope (top 8), [], []⟩
theorem bk2 : KwX L0 2 "just_as" (top 8) ["value", "due"] := fun z => Bool.noConfusion (show false = true from z)
def f2 : CS := (cSeq (cIfS (cTru (cBlt gIsi (cCons (cVar 1) (cCons (cLit (.ty .tuple)) cNil)))) (cSeq (cAsg (cAndV (cBlt gIsi (cCons (cVar 0) (cCons (cLit (.ty .tuple)) cNil))) (cBin gEq (cBlt gLen (cCons (cVar 0) cNil)) (cBlt gLen (cCons (cVar 1) cNil)))) (cGName 2)) (cRet (cAndV (cVar 2) (cBlt gAll (cCons (cLc (cZip (cCons (cVar 0) (cCons (cVar 1) cNil))) [3,4,5] [4,5] (cGTup 2 (cGCons (cGName 4) (cGCons (cGName 5) cGNil))) cYes (cEmit (cCallN 2 2 (cCons (cVar 4) (cCons (cVar 5) cNil))))) cNil))))) cNext) (cSeq (cIfS (cTru (cBlt gIsi (cCons (cVar 1) (cCons (cLit (.ty .str)) cNil)))) (cRet (cAndV (cBlt gIsi (cCons (cVar 0) (cCons (cLit (.ty .str)) cNil))) (cBin gEq (cVar 0) (cVar 1)))) cNext) (cRet (cIf (cTst (cBin gIs (cVar 1) (cLit .non))) (cBin gIs (cVar 0) (cLit .non)) (cAndV (cCallN 0 1 (cCons (cVar 0) cNil)) (cBin gEq (cVar 0) (cVar 1)))))))
theorem cd2 : cmS (al := sh) fns (cm fns 41) ⟨N2, defScope (top 8), defScope (top 8), gl, false, false⟩ 40 (defBody (top 8)) = some f2 := by kernel_rfl
/-! many_in -/
def N3 : List Str := ["sizes", "found", "size"]
theorem sc3 : FnScope N3 ["sizes"] (defScope (top 13)) := ⟨rfl, rfl, rfl, by decide +kernel, rfl, by decide +kernel, by decide +kernel⟩
theorem bd3 : BindP "many_in" (top 13) ["sizes"] := fun _ _ _ _ _ _ us hl => match us, hl with | [_], _ => rfl
def dd3 : He.DefD := ⟨("many_in", none), "many_in", "many_in", defArgs (top 13), defBody (top 13), defScope (top 13), [], []⟩
theorem bk3 : KwX L0 3 "many_in" (top 13) ["sizes"] := fun z => Bool.noConfusion (show false = true from z)
def f3 : CS := (cSeq (cAsg (cInt (1)) (cGName 1)) (cSeq (cFor (cIter (cVar 0)) (cGName 2) (cAug 1 (cVar 2) gIMul)) (cRet (cVar 1))))
theorem cd3 : cmS (al := sh) fns (cm fns 41) ⟨N3, defScope (top 13), defScope (top 13), gl, false, false⟩ 40 (defBody (top 13)) = some f3 := by kernel_rfl
/-! is_sizes_in -/
def N4 : List Str := ["value", ".0", "size"]
theorem sc4 : FnScope N4 ["value"] (defScope (top 14)) := ⟨rfl, rfl, rfl, by decide +kernel, rfl, by decide +kernel, by decide +kernel⟩
theorem bd4 : BindP "is_sizes_in" (top 14) ["value"] := fun _ _ _ _ _ _ us hl => match us, hl with | [_], _ => rfl
def dd4 : He.DefD := ⟨("is_sizes_in", none), "is_sizes_in", "is_sizes_in", defArgs (top 14), defBody (top 14), defScope (top 14), [], []⟩
theorem bk4 : KwX L0 4 "is_sizes_in" (top 14) ["value"] := fun z => Bool.noConfusion (show false = true from z)
def f4 : CS := (cSeq (cIfS (cOrT (cNotT (cTru (cBlt gIsi (cCons (cVar 0) (cCons (cLit (.ty .tuple)) cNil))))) (cNotT (cTst (cChain gLe gLe (cInt (2)) (cBlt gLen (cCons (cVar 0) cNil)) (cInt (4)))))) (cRet (cLit (.bl false))) cNext) (cRet (cAndV (cBlt gAll (cCons (cLc (cIter (cVar 0)) [1,2] [2] (cGName 2) cYes (cEmit (cAndV (cCallN 0 1 (cCons (cVar 2) cNil)) (cChain gLe gLe (cInt (2)) (cVar 2) (cInt (4)))))) cNil)) (cBin gLe (cCallN 3 1 (cCons (cVar 0) cNil)) (cLit (.int (64)))))))
theorem cd4 : cmS (al := sh) fns (cm fns 41) ⟨N4, defScope (top 14), defScope (top 14), gl, false, false⟩ 40 (defBody (top 14)) = some f4 := by kernel_rfl
/-! play_in -/
def N5 : List Str := ["sizes", "k", "found", "size"]
theorem sc5 : FnScope N5 ["sizes", "k"] (defScope (top 15)) := ⟨rfl, rfl, rfl, by decide +kernel, rfl, by decide +kernel, by decide +kernel⟩
theorem bd5 : BindP "play_in" (top 15) ["sizes", "k"] := fun _ _ _ _ _ _ us hl => match us, hl with | [_, _], _ => rfl
def dd5 : He.DefD := ⟨("play_in", none), "play_in", "play_in", defArgs (top 15), defBody (top 15), defScope (top 15), [], []⟩
theorem bk5 : KwX L0 5 "play_in" (top 15) ["sizes", "k"] := fun z => Bool.noConfusion (show false = true from z)
def f5 : CS := (cSeq (cAsg (cLst cNil) (cGName 2)) (cSeq (cFor (cIter (cRev (cVar 0))) (cGName 3) (cSeq (cDrop (cMeth isLstT gAppend (cVar 2) (cCons (cBin gMod (cVar 1) (cVar 3)) cNil))) (cAug 1 (cVar 3) gIDiv))) (cRet (cBlt gTupD (cCons (cRev (cVar 2)) cNil)))))
theorem cd5 : cmS (al := sh) fns (cm fns 41) ⟨N5, defScope (top 15), defScope (top 15), gl, false, false⟩ 40 (defBody (top 15)) = some f5 := by kernel_rfl
/-! number_in -/
def N6 : List Str := ["sizes", "play", "found", "size", "choice"]
theorem sc6 : FnScope N6 ["sizes", "play"] (defScope (top 16)) := ⟨rfl, rfl, rfl, by decide +kernel, rfl, by decide +kernel, by decide +kernel⟩
theorem bd6 : BindP "number_in" (top 16) ["sizes", "play"] := fun _ _ _ _ _ _ us hl => match us, hl with | [_, _], _ => rfl
def dd6 : He.DefD := ⟨("number_in", none), "number_in", "number_in", defArgs (top 16), defBody (top 16), defScope (top 16), [], []⟩
theorem bk6 : KwX L0 6 "number_in" (top 16) ["sizes", "play"] := fun z => Bool.noConfusion (show false = true from z)
def f6 : CS := (cSeq (cAsg (cInt (0)) (cGName 2)) (cSeq (cFor (cZip (cCons (cVar 0) (cCons (cVar 1) cNil))) (cGTup 2 (cGCons (cGName 3) (cGCons (cGName 4) cGNil))) (cAsg (cBin gAdd (cBin gMul (cVar 2) (cVar 3)) (cVar 4)) (cGName 2))) (cRet (cVar 2))))
theorem cd6 : cmS (al := sh) fns (cm fns 41) ⟨N6, defScope (top 16), defScope (top 16), gl, false, false⟩ 40 (defBody (top 16)) = some f6 := by kernel_rfl
/-! need_number -/
def N7 : List Str := ["sizes", "what", "k"]
theorem sc7 : FnScope N7 ["sizes", "what", "k"] (defScope (top 17)) := ⟨rfl, rfl, rfl, by decide +kernel, rfl, by decide +kernel, by decide +kernel⟩
theorem bd7 : BindP "need_number" (top 17) ["sizes", "what", "k"] := fun _ _ _ _ _ _ us hl => match us, hl with | [_, _, _], _ => rfl
def dd7 : He.DefD := ⟨("need_number", none), "need_number", "need_number", defArgs (top 17), defBody (top 17), defScope (top 17), [], []⟩
theorem bk7 : KwX L0 7 "need_number" (top 17) ["sizes", "what", "k"] := fun z => Bool.noConfusion (show false = true from z)
def f7 : CS := (cIfS (cOrT (cNotT (cTru (cCallN 1 1 (cCons (cVar 2) cNil)))) (cTst (cBin gGe (cVar 2) (cCallN 3 1 (cCons (cVar 0) cNil))))) (cRaise 0 [0,1] (cCons (cVar 1) (cCons (cVar 2) cNil))) cNext)
theorem cd7 : cmS (al := sh) fns (cm fns 41) ⟨N7, defScope (top 17), defScope (top 17), gl, false, false⟩ 40 (defBody (top 17)) = some f7 := by kernel_rfl
/-! changed_in -/
def N8 : List Str := ["sizes", "k", "i", "a", "play"]
theorem sc8 : FnScope N8 ["sizes", "k", "i", "a"] (defScope (top 18)) := ⟨rfl, rfl, rfl, by decide +kernel, rfl, by decide +kernel, by decide +kernel⟩
theorem bd8 : BindP "changed_in" (top 18) ["sizes", "k", "i", "a"] := fun _ _ _ _ _ _ us hl => match us, hl with | [_, _, _, _], _ => rfl
def dd8 : He.DefD := ⟨("changed_in", none), "changed_in", "changed_in", defArgs (top 18), defBody (top 18), defScope (top 18), [], []⟩
theorem bk8 : KwX L0 8 "changed_in" (top 18) ["sizes", "k", "i", "a"] := fun z => Bool.noConfusion (show false = true from z)
def f8 : CS := (cSeq (cAsg (cCallN 5 2 (cCons (cVar 0) (cCons (cVar 1) cNil))) (cGName 4)) (cRet (cCallN 6 2 (cCons (cVar 0) (cCons (cBin gAdd (cBin gAdd (cSl (cVar 4) cNo (cPart (cVar 2))) (cTup (cCons (cVar 3) cNil))) (cSl (cVar 4) (cPart (cBin gAdd (cVar 2) (cInt (1)))) cNo)) cNil)))))
theorem cd8 : cmS (al := sh) fns (cm fns 41) ⟨N8, defScope (top 18), defScope (top 18), gl, false, false⟩ 40 (defBody (top 18)) = some f8 := by kernel_rfl
/-! is_game_in -/
def N9 : List Str := ["value", "rows", "many", "row", ".0", "item"]
theorem sc9 : FnScope N9 ["value"] (defScope (top 19)) := ⟨rfl, rfl, rfl, by decide +kernel, rfl, by decide +kernel, by decide +kernel⟩
theorem bd9 : BindP "is_game_in" (top 19) ["value"] := fun _ _ _ _ _ _ us hl => match us, hl with | [_], _ => rfl
def dd9 : He.DefD := ⟨("is_game_in", none), "is_game_in", "is_game_in", defArgs (top 19), defBody (top 19), defScope (top 19), [], []⟩
theorem bk9 : KwX L0 9 "is_game_in" (top 19) ["value"] := fun z => Bool.noConfusion (show false = true from z)
def f9 : CS := (cSeq (cIfS (cOrT (cNotT (cTru (cBlt gIsi (cCons (cVar 0) (cCons (cLit (.ty .tuple)) cNil))))) (cOrT (cTst (cBin gNe (cBlt gLen (cCons (cVar 0) cNil)) (cInt (2)))) (cNotT (cTru (cCallN 4 1 (cCons (cBin gIx (cVar 0) (cInt (0))) cNil)))))) (cRet (cLit (.bl false))) cNext) (cSeq (cPar 1 2 (cCons (cBin gIx (cVar 0) (cInt (1))) (cCons (cCallN 3 1 (cCons (cBin gIx (cVar 0) (cInt (0))) cNil)) cNil))) (cSeq (cIfS (cOrT (cNotT (cTru (cBlt gIsi (cCons (cVar 1) (cCons (cLit (.ty .tuple)) cNil))))) (cTst (cBin gNe (cBlt gLen (cCons (cVar 1) cNil)) (cBlt gLen (cCons (cBin gIx (cVar 0) (cInt (0))) cNil))))) (cRet (cLit (.bl false))) cNext) (cSeq (cFor (cIter (cVar 1)) (cGName 3) (cSeq (cIfS (cOrT (cNotT (cTru (cBlt gIsi (cCons (cVar 3) (cCons (cLit (.ty .tuple)) cNil))))) (cTst (cBin gNe (cBlt gLen (cCons (cVar 3) cNil)) (cVar 2)))) (cRet (cLit (.bl false))) cNext) (cIfS (cNotT (cTru (cBlt gAll (cCons (cLc (cIter (cVar 3)) [4,5] [5] (cGName 5) cYes (cEmit (cCallN 0 1 (cCons (cVar 5) cNil)))) cNil)))) (cRet (cLit (.bl false))) cNext))) (cRet (cLit (.bl true)))))))
theorem cd9 : cmS (al := sh) fns (cm fns 41) ⟨N9, defScope (top 19), defScope (top 19), gl, false, false⟩ 40 (defBody (top 19)) = some f9 := by kernel_rfl
/-! need_game -/
def N10 : List Str := ["game"]
theorem sc10 : FnScope N10 ["game"] (defScope (top 20)) := ⟨rfl, rfl, rfl, by decide +kernel, rfl, by decide +kernel, by decide +kernel⟩
theorem bd10 : BindP "need_game" (top 20) ["game"] := fun _ _ _ _ _ _ us hl => match us, hl with | [_], _ => rfl
def dd10 : He.DefD := ⟨("need_game", none), "need_game", "need_game", defArgs (top 20), defBody (top 20), defScope (top 20), [], []⟩
theorem bk10 : KwX L0 10 "need_game" (top 20) ["game"] := fun z => Bool.noConfusion (show false = true from z)
def f10 : CS := (cIfS (cNotT (cTru (cCallN 9 1 (cCons (cVar 0) cNil)))) (cRaise 1 [2] (cCons (cVar 0) cNil)) cNext)
theorem cd10 : cmS (al := sh) fns (cm fns 41) ⟨N10, defScope (top 20), defScope (top 20), gl, false, false⟩ 40 (defBody (top 20)) = some f10 := by kernel_rfl
/-! gain_in -/
def N11 : List Str := ["game", "k", "i", "a"]
theorem sc11 : FnScope N11 ["game", "k", "i", "a"] (defScope (top 21)) := ⟨rfl, rfl, rfl, by decide +kernel, rfl, by decide +kernel, by decide +kernel⟩
theorem bd11 : BindP "gain_in" (top 21) ["game", "k", "i", "a"] := fun _ _ _ _ _ _ us hl => match us, hl with | [_, _, _, _], _ => rfl
def dd11 : He.DefD := ⟨("gain_in", none), "gain_in", "gain_in", defArgs (top 21), defBody (top 21), defScope (top 21), [], []⟩
theorem bk11 : KwX L0 11 "gain_in" (top 21) ["game", "k", "i", "a"] := fun z => Bool.noConfusion (show false = true from z)
def f11 : CS := (cRet (cBin gSub (cBin gIx (cBin gIx (cBin gIx (cVar 0) (cInt (1))) (cVar 2)) (cCallN 8 4 (cCons (cBin gIx (cVar 0) (cInt (0))) (cCons (cVar 1) (cCons (cVar 2) (cCons (cVar 3) cNil)))))) (cBin gIx (cBin gIx (cBin gIx (cVar 0) (cInt (1))) (cVar 2)) (cVar 1))))
theorem cd11 : cmS (al := sh) fns (cm fns 41) ⟨N11, defScope (top 21), defScope (top 21), gl, false, false⟩ 40 (defBody (top 21)) = some f11 := by kernel_rfl
/-! is_lot -/
def N12 : List Str := ["most", "value", ".0", "item", "one", "two"]
theorem sc12 : FnScope N12 ["most", "value"] (defScope (top 22)) := ⟨rfl, rfl, rfl, by decide +kernel, rfl, by decide +kernel, by decide +kernel⟩
theorem bd12 : BindP "is_lot" (top 22) ["most", "value"] := fun _ _ _ _ _ _ us hl => match us, hl with | [_, _], _ => rfl
def dd12 : He.DefD := ⟨("is_lot", none), "is_lot", "is_lot", defArgs (top 22), defBody (top 22), defScope (top 22), [], []⟩
theorem bk12 : KwX L0 12 "is_lot" (top 22) ["most", "value"] := fun z => Bool.noConfusion (show false = true from z)
def f12 : CS := (cSeq (cIfS (cOrT (cNotT (cTru (cBlt gIsi (cCons (cVar 1) (cCons (cLit (.ty .tuple)) cNil))))) (cNotT (cTru (cBlt gAll (cCons (cLc (cIter (cVar 1)) [2,3] [3] (cGName 3) cYes (cEmit (cAndV (cCallN 1 1 (cCons (cVar 3) cNil)) (cBin gLt (cVar 3) (cVar 0))))) cNil))))) (cRet (cLit (.bl false))) cNext) (cRet (cBlt gAll (cCons (cLc (cZip (cCons (cVar 1) (cCons (cSl (cVar 1) (cPart (cInt (1))) cNo) cNil))) [2,4,5] [4,5] (cGTup 2 (cGCons (cGName 4) (cGCons (cGName 5) cGNil))) cYes (cEmit (cBin gLt (cVar 4) (cVar 5)))) cNil))))
theorem cd12 : cmS (al := sh) fns (cm fns 41) ⟨N12, defScope (top 22), defScope (top 22), gl, false, false⟩ 40 (defBody (top 22)) = some f12 := by kernel_rfl
/-! are_worths -/
def N13 : List Str := ["players", "value", "row", ".0", "item"]
theorem sc13 : FnScope N13 ["players", "value"] (defScope (top 23)) := ⟨rfl, rfl, rfl, by decide +kernel, rfl, by decide +kernel, by decide +kernel⟩
theorem bd13 : BindP "are_worths" (top 23) ["players", "value"] := fun _ _ _ _ _ _ us hl => match us, hl with | [_, _], _ => rfl
def dd13 : He.DefD := ⟨("are_worths", none), "are_worths", "are_worths", defArgs (top 23), defBody (top 23), defScope (top 23), [], []⟩
theorem bk13 : KwX L0 13 "are_worths" (top 23) ["players", "value"] := fun z => Bool.noConfusion (show false = true from z)
def f13 : CS := (cSeq (cIfS (cOrT (cNotT (cTru (cBlt gIsi (cCons (cVar 1) (cCons (cLit (.ty .tuple)) cNil))))) (cNotT (cTst (cChain gLe gLe (cInt (1)) (cBlt gLen (cCons (cVar 1) cNil)) (cLit (.int (12))))))) (cRet (cLit (.bl false))) cNext) (cSeq (cFor (cIter (cVar 1)) (cGName 2) (cSeq (cIfS (cOrT (cNotT (cTru (cBlt gIsi (cCons (cVar 2) (cCons (cLit (.ty .tuple)) cNil))))) (cTst (cBin gNe (cBlt gLen (cCons (cVar 2) cNil)) (cVar 0)))) (cRet (cLit (.bl false))) cNext) (cIfS (cNotT (cTru (cBlt gAll (cCons (cLc (cIter (cVar 2)) [3,4] [4] (cGName 4) cYes (cEmit (cAndV (cCallN 0 1 (cCons (cVar 4) cNil)) (cChain gLe gLe (cNeg (cLit (.int (99)))) (cVar 4) (cLit (.int (99))))))) cNil)))) (cRet (cLit (.bl false))) cNext))) (cRet (cLit (.bl true)))))
theorem cd13 : cmS (al := sh) fns (cm fns 41) ⟨N13, defScope (top 23), defScope (top 23), gl, false, false⟩ 40 (defBody (top 23)) = some f13 := by kernel_rfl
/-! is_shared_in -/
def N14 : List Str := ["value", "worths", "lots", ".0", "own", "lot"]
theorem sc14 : FnScope N14 ["value"] (defScope (top 24)) := ⟨rfl, rfl, rfl, by decide +kernel, rfl, by decide +kernel, by decide +kernel⟩
theorem bd14 : BindP "is_shared_in" (top 24) ["value"] := fun _ _ _ _ _ _ us hl => match us, hl with | [_], _ => rfl
def dd14 : He.DefD := ⟨("is_shared_in", none), "is_shared_in", "is_shared_in", defArgs (top 24), defBody (top 24), defScope (top 24), [], []⟩
theorem bk14 : KwX L0 14 "is_shared_in" (top 24) ["value"] := fun z => Bool.noConfusion (show false = true from z)
def f14 : CS := (cSeq (cIfS (cOrT (cNotT (cTru (cBlt gIsi (cCons (cVar 0) (cCons (cLit (.ty .tuple)) cNil))))) (cOrT (cTst (cBin gNe (cBlt gLen (cCons (cVar 0) cNil)) (cInt (2)))) (cNotT (cTru (cBlt gIsi (cCons (cBin gIx (cVar 0) (cInt (1))) (cCons (cLit (.ty .tuple)) cNil))))))) (cRet (cLit (.bl false))) cNext) (cSeq (cAsg (cVar 0) (cGTup 2 (cGCons (cGName 1) (cGCons (cGName 2) cGNil)))) (cSeq (cIfS (cOrT (cNotT (cTru (cBlt gAll (cCons (cLc (cIter (cVar 2)) [3,4] [4] (cGName 4) cYes (cEmit (cBlt gIsi (cCons (cVar 4) (cCons (cLit (.ty .tuple)) cNil))))) cNil)))) (cNotT (cTru (cCallN 4 1 (cCons (cBlt gTupD (cCons (cLc (cIter (cVar 2)) [3,4] [4] (cGName 4) cYes (cEmit (cBlt gLen (cCons (cVar 4) cNil)))) cNil)) cNil))))) (cRet (cLit (.bl false))) cNext) (cSeq (cIfS (cNotT (cTru (cCallN 13 2 (cCons (cBlt gLen (cCons (cVar 2) cNil)) (cCons (cVar 1) cNil))))) (cRet (cLit (.bl false))) cNext) (cRet (cBlt gAll (cCons (cLc (cIter (cVar 2)) [3,4,5] [4,5] (cGName 4) cYes (cLvl (cIter (cVar 4)) [5] (cGName 5) cYes (cEmit (cCallN 12 2 (cCons (cBlt gLen (cCons (cVar 1) cNil)) (cCons (cVar 5) cNil)))))) cNil)))))))
theorem cd14 : cmS (al := sh) fns (cm fns 41) ⟨N14, defScope (top 24), defScope (top 24), gl, false, false⟩ 40 (defBody (top 24)) = some f14 := by kernel_rfl
/-! need_shared -/
def N15 : List Str := ["shared"]
theorem sc15 : FnScope N15 ["shared"] (defScope (top 25)) := ⟨rfl, rfl, rfl, by decide +kernel, rfl, by decide +kernel, by decide +kernel⟩
theorem bd15 : BindP "need_shared" (top 25) ["shared"] := fun _ _ _ _ _ _ us hl => match us, hl with | [_], _ => rfl
def dd15 : He.DefD := ⟨("need_shared", none), "need_shared", "need_shared", defArgs (top 25), defBody (top 25), defScope (top 25), [], []⟩
theorem bk15 : KwX L0 15 "need_shared" (top 25) ["shared"] := fun z => Bool.noConfusion (show false = true from z)
def f15 : CS := (cIfS (cNotT (cTru (cCallN 14 1 (cCons (cVar 0) cNil)))) (cRaise 2 [3] (cCons (cVar 0) cNil)) cNext)
theorem cd15 : cmS (al := sh) fns (cm fns 41) ⟨N15, defScope (top 25), defScope (top 25), gl, false, false⟩ 40 (defBody (top 25)) = some f15 := by kernel_rfl
/-! users_in -/
def N16 : List Str := ["lots", "play", "found", "own", "choice", "thing"]
theorem sc16 : FnScope N16 ["lots", "play"] (defScope (top 26)) := ⟨rfl, rfl, rfl, by decide +kernel, rfl, by decide +kernel, by decide +kernel⟩
theorem bd16 : BindP "users_in" (top 26) ["lots", "play"] := fun _ _ _ _ _ _ us hl => match us, hl with | [_, _], _ => rfl
def dd16 : He.DefD := ⟨("users_in", none), "users_in", "users_in", defArgs (top 26), defBody (top 26), defScope (top 26), [], []⟩
theorem bk16 : KwX L0 16 "users_in" (top 26) ["lots", "play"] := fun z => Bool.noConfusion (show false = true from z)
def f16 : CS := (cSeq (cAsg cDict0 (cGName 2)) (cSeq (cFor (cZip (cCons (cVar 0) (cCons (cVar 1) cNil))) (cGTup 2 (cGCons (cGName 3) (cGCons (cGName 4) cGNil))) (cFor (cIter (cBin gIx (cVar 3) (cVar 4))) (cGName 5) (cAsg (cBin gAdd (cMeth isDctT gGet (cVar 2) (cCons (cVar 5) (cCons (cInt (0)) cNil))) (cInt (1))) (cGSub (cVar 2) (cVar 5))))) (cRet (cVar 2))))
theorem cd16 : cmS (al := sh) fns (cm fns 41) ⟨N16, defScope (top 26), defScope (top 26), gl, false, false⟩ 40 (defBody (top 26)) = some f16 := by kernel_rfl
/-! game_in -/
def N17 : List Str := ["worths", "lots", "sizes", "rows", "k", "play", "users", "i", "choice", ".0", "own", "thing", "row"]
theorem sc17 : FnScope N17 ["worths", "lots"] (defScope (top 27)) := ⟨rfl, rfl, rfl, by decide +kernel, rfl, by decide +kernel, by decide +kernel⟩
theorem bd17 : BindP "game_in" (top 27) ["worths", "lots"] := fun _ _ _ _ _ _ us hl => match us, hl with | [_, _], _ => rfl
def dd17 : He.DefD := ⟨("game_in", none), "game_in", "game_in", defArgs (top 27), defBody (top 27), defScope (top 27), [], []⟩
theorem bk17 : KwX L0 17 "game_in" (top 27) ["worths", "lots"] := fun z => Bool.noConfusion (show false = true from z)
def f17 : CS := (cSeq (cPar 2 3 (cCons (cBlt gTupD (cCons (cLc (cIter (cVar 1)) [9,10] [10] (cGName 10) cYes (cEmit (cBlt gLen (cCons (cVar 10) cNil)))) cNil)) (cCons (cLc (cIter (cVar 1)) [9,10] [10] (cGName 10) cYes (cEmit (cLst cNil))) cNil))) (cSeq (cFor (cRng1 (cCons (cCallN 3 1 (cCons (cVar 2) cNil)) cNil)) (cGName 4) (cSeq (cAsg (cCallN 5 2 (cCons (cVar 2) (cCons (cVar 4) cNil))) (cGName 5)) (cSeq (cAsg (cCallN 16 2 (cCons (cVar 1) (cCons (cVar 5) cNil))) (cGName 6)) (cFor (cEnm (cCons (cVar 5) cNil)) (cGTup 2 (cGCons (cGName 7) (cGCons (cGName 8) cGNil))) (cDrop (cMeth isLstT gAppend (cBin gIx (cVar 3) (cVar 7)) (cCons (cBlt gSum (cCons (cLc (cIter (cBin gIx (cBin gIx (cVar 1) (cVar 7)) (cVar 8))) [9,11] [11] (cGName 11) cYes (cEmit (cBin gIx (cBin gIx (cVar 0) (cVar 11)) (cBin gSub (cBin gIx (cVar 6) (cVar 11)) (cInt (1)))))) cNil)) cNil))))))) (cRet (cTup (cCons (cVar 2) (cCons (cBlt gTupD (cCons (cLc (cIter (cVar 3)) [9,12] [12] (cGName 12) cYes (cEmit (cBlt gTupD (cCons (cVar 12) cNil)))) cNil)) cNil))))))
theorem cd17 : cmS (al := sh) fns (cm fns 41) ⟨N17, defScope (top 27), defScope (top 27), gl, false, false⟩ 40 (defBody (top 27)) = some f17 := by kernel_rfl
/-! is_round_in -/
def N18 : List Str := ["sizes", "value", "s", "i", "a", "j", "b", "play", ".0", "item"]
theorem sc18 : FnScope N18 ["sizes", "value"] (defScope (top 29)) := ⟨rfl, rfl, rfl, by decide +kernel, rfl, by decide +kernel, by decide +kernel⟩
theorem bd18 : BindP "is_round_in" (top 29) ["sizes", "value"] := fun _ _ _ _ _ _ us hl => match us, hl with | [_, _], _ => rfl
def dd18 : He.DefD := ⟨("is_round_in", none), "is_round_in", "is_round_in", defArgs (top 29), defBody (top 29), defScope (top 29), [], []⟩
theorem bk18 : KwX L0 18 "is_round_in" (top 29) ["sizes", "value"] := fun z => Bool.noConfusion (show false = true from z)
def f18 : CS := (cSeq (cIfS (cOrT (cNotT (cTru (cBlt gIsi (cCons (cVar 1) (cCons (cLit (.ty .tuple)) cNil))))) (cOrT (cTst (cBin gNe (cBlt gLen (cCons (cVar 1) cNil)) (cInt (5)))) (cNotT (cTru (cBlt gAll (cCons (cLc (cIter (cVar 1)) [8,9] [9] (cGName 9) cYes (cEmit (cCallN 1 1 (cCons (cVar 9) cNil)))) cNil)))))) (cRet (cLit (.bl false))) cNext) (cSeq (cAsg (cVar 1) (cGTup 5 (cGCons (cGName 2) (cGCons (cGName 3) (cGCons (cGName 4) (cGCons (cGName 5) (cGCons (cGName 6) cGNil))))))) (cSeq (cIfS (cOrT (cTst (cBin gGe (cVar 2) (cCallN 3 1 (cCons (cVar 0) cNil)))) (cOrT (cNotT (cTst (cChain gLt gLt (cVar 3) (cVar 5) (cBlt gLen (cCons (cVar 0) cNil))))) (cOrT (cTst (cBin gGe (cVar 4) (cBin gIx (cVar 0) (cVar 3)))) (cTst (cBin gGe (cVar 6) (cBin gIx (cVar 0) (cVar 5))))))) (cRet (cLit (.bl false))) cNext) (cSeq (cAsg (cCallN 5 2 (cCons (cVar 0) (cCons (cVar 2) cNil))) (cGName 7)) (cRet (cAndV (cBin gNe (cBin gIx (cVar 7) (cVar 3)) (cVar 4)) (cBin gNe (cBin gIx (cVar 7) (cVar 5)) (cVar 6))))))))
theorem cd18 : cmS (al := sh) fns (cm fns 41) ⟨N18, defScope (top 29), defScope (top 29), gl, false, false⟩ 40 (defBody (top 29)) = some f18 := by kernel_rfl
/-! rounds_in -/
def N19 : List Str := ["sizes", "found", "s", "play", "i", "a", "j", ".0", "b"]
theorem sc19 : FnScope N19 ["sizes"] (defScope (top 30)) := ⟨rfl, rfl, rfl, by decide +kernel, rfl, by decide +kernel, by decide +kernel⟩
theorem bd19 : BindP "rounds_in" (top 30) ["sizes"] := fun _ _ _ _ _ _ us hl => match us, hl with | [_], _ => rfl
def dd19 : He.DefD := ⟨("rounds_in", none), "rounds_in", "rounds_in", defArgs (top 30), defBody (top 30), defScope (top 30), [], []⟩
theorem bk19 : KwX L0 19 "rounds_in" (top 30) ["sizes"] := fun z => Bool.noConfusion (show false = true from z)
def f19 : CS := (cSeq (cAsg (cLst cNil) (cGName 1)) (cSeq (cFor (cRng1 (cCons (cCallN 3 1 (cCons (cVar 0) cNil)) cNil)) (cGName 2) (cSeq (cAsg (cCallN 5 2 (cCons (cVar 0) (cCons (cVar 2) cNil))) (cGName 3)) (cFor (cRng1 (cCons (cBlt gLen (cCons (cVar 0) cNil)) cNil)) (cGName 4) (cFor (cIter (cLc (cRng1 (cCons (cBin gIx (cVar 0) (cVar 4)) cNil)) [7,5] [5] (cGName 5) (cTst (cBin gNe (cVar 5) (cBin gIx (cVar 3) (cVar 4)))) (cEmit (cVar 5)))) (cGName 5) (cFor (cRng2 (cCons (cBin gAdd (cVar 4) (cInt (1))) (cCons (cBlt gLen (cCons (cVar 0) cNil)) cNil))) (cGName 6) (cDrop (cMeth isLstT gExtend (cVar 1) (cCons (cLc (cRng1 (cCons (cBin gIx (cVar 0) (cVar 6)) cNil)) [7,8] [8] (cGName 8) (cTst (cBin gNe (cVar 8) (cBin gIx (cVar 3) (cVar 6)))) (cEmit (cTup (cCons (cVar 2) (cCons (cVar 4) (cCons (cVar 5) (cCons (cVar 6) (cCons (cVar 8) cNil)))))))) cNil)))))))) (cRet (cVar 1))))
theorem cd19 : cmS (al := sh) fns (cm fns 41) ⟨N19, defScope (top 30), defScope (top 30), gl, false, false⟩ 40 (defBody (top 30)) = some f19 := by kernel_rfl
/-! sums_in -/
def N20 : List Str := ["game", "told", "s", "i", "a", "j", "b", "sizes", "play", "one", "two", "three", "first"]
theorem sc20 : FnScope N20 ["game", "told"] (defScope (top 31)) := ⟨rfl, rfl, rfl, by decide +kernel, rfl, by decide +kernel, by decide +kernel⟩
theorem bd20 : BindP "sums_in" (top 31) ["game", "told"] := fun _ _ _ _ _ _ us hl => match us, hl with | [_, _], _ => rfl
def dd20 : He.DefD := ⟨("sums_in", none), "sums_in", "sums_in", defArgs (top 31), defBody (top 31), defScope (top 31), [], []⟩
theorem bk20 : KwX L0 20 "sums_in" (top 31) ["game", "told"] := fun z => Bool.noConfusion (show false = true from z)
def f20 : CS := (cSeq (cAsg (cVar 1) (cGTup 5 (cGCons (cGName 2) (cGCons (cGName 3) (cGCons (cGName 4) (cGCons (cGName 5) (cGCons (cGName 6) cGNil))))))) (cSeq (cAsg (cBin gIx (cVar 0) (cInt (0))) (cGName 7)) (cSeq (cAsg (cCallN 5 2 (cCons (cVar 7) (cCons (cVar 2) cNil))) (cGName 8)) (cSeq (cAsg (cCallN 8 4 (cCons (cVar 7) (cCons (cVar 2) (cCons (cVar 3) (cCons (cVar 4) cNil))))) (cGName 9)) (cSeq (cAsg (cCallN 8 4 (cCons (cVar 7) (cCons (cVar 9) (cCons (cVar 5) (cCons (cVar 6) cNil))))) (cGName 10)) (cSeq (cAsg (cCallN 8 4 (cCons (cVar 7) (cCons (cVar 10) (cCons (cVar 3) (cCons (cBin gIx (cVar 8) (cVar 3)) cNil))))) (cGName 11)) (cSeq (cAsg (cBin gAdd (cCallN 11 4 (cCons (cVar 0) (cCons (cVar 2) (cCons (cVar 3) (cCons (cVar 4) cNil))))) (cCallN 11 4 (cCons (cVar 0) (cCons (cVar 10) (cCons (cVar 3) (cCons (cBin gIx (cVar 8) (cVar 3)) cNil)))))) (cGName 12)) (cRet (cTup (cCons (cVar 12) (cCons (cBin gAdd (cCallN 11 4 (cCons (cVar 0) (cCons (cVar 9) (cCons (cVar 5) (cCons (cVar 6) cNil))))) (cCallN 11 4 (cCons (cVar 0) (cCons (cVar 11) (cCons (cVar 5) (cCons (cBin gIx (cVar 8) (cVar 5)) cNil)))))) cNil)))))))))))
theorem cd20 : cmS (al := sh) fns (cm fns 41) ⟨N20, defScope (top 31), defScope (top 31), gl, false, false⟩ 40 (defBody (top 31)) = some f20 := by kernel_rfl
/-! open_round_in -/
def N21 : List Str := ["game", ".0", "told"]
theorem sc21 : FnScope N21 ["game"] (defScope (top 32)) := ⟨rfl, rfl, rfl, by decide +kernel, rfl, by decide +kernel, by decide +kernel⟩
theorem bd21 : BindP "open_round_in" (top 32) ["game"] := fun _ _ _ _ _ _ us hl => match us, hl with | [_], _ => rfl
def dd21 : He.DefD := ⟨("open_round_in", none), "open_round_in", "open_round_in", defArgs (top 32), defBody (top 32), defScope (top 32), [], []⟩
theorem bk21 : KwX L0 21 "open_round_in" (top 32) ["game"] := fun z => Bool.noConfusion (show false = true from z)
/-! table_in -/
def N22 : List Str := ["game", "weights", "sizes", "found", "k", "at", "total", "i", "a"]
theorem sc22 : FnScope N22 ["game", "weights"] (defScope (top 33)) := ⟨rfl, rfl, rfl, by decide +kernel, rfl, by decide +kernel, by decide +kernel⟩
theorem bd22 : BindP "table_in" (top 33) ["game", "weights"] := fun _ _ _ _ _ _ us hl => match us, hl with | [_, _], _ => rfl
def dd22 : He.DefD := ⟨("table_in", none), "table_in", "table_in", defArgs (top 33), defBody (top 33), defScope (top 33), [], []⟩
theorem bk22 : KwX L0 22 "table_in" (top 33) ["game", "weights"] := fun z => Bool.noConfusion (show false = true from z)
def f22 : CS := (cSeq (cPar 2 3 (cCons (cBin gIx (cVar 0) (cInt (0))) (cCons (cLst cNil) cNil))) (cSeq (cFor (cRng1 (cCons (cCallN 3 1 (cCons (cVar 2) cNil)) cNil)) (cGName 4) (cSeq (cAsg (cTup (cCons (cInt (0)) (cCons (cInt (0)) cNil))) (cGTup 2 (cGCons (cGName 5) (cGCons (cGName 6) cGNil)))) (cSeq (cFor (cEnm (cCons (cCallN 5 2 (cCons (cVar 2) (cCons (cVar 4) cNil))) cNil)) (cGTup 2 (cGCons (cGName 7) (cGCons (cGName 8) cGNil))) (cSeq (cAug 6 (cBin gMul (cBin gIx (cVar 1) (cVar 7)) (cCallN 11 4 (cCons (cVar 0) (cCons (cVar 5) (cCons (cVar 7) (cCons (cVar 8) cNil)))))) gIAdd) (cAsg (cCallN 8 4 (cCons (cVar 2) (cCons (cVar 5) (cCons (cVar 7) (cCons (cVar 8) cNil))))) (cGName 5)))) (cDrop (cMeth isLstT gAppend (cVar 3) (cCons (cVar 6) cNil)))))) (cRet (cBlt gTupD (cCons (cVar 3) cNil)))))
theorem cd22 : cmS (al := sh) fns (cm fns 41) ⟨N22, defScope (top 33), defScope (top 33), gl, false, false⟩ 40 (defBody (top 33)) = some f22 := by kernel_rfl
/-! potential_in_rounds -/
def N23 : List Str := ["game"]
theorem sc23 : FnScope N23 ["game"] (defScope (top 34)) := ⟨rfl, rfl, rfl, by decide +kernel, rfl, by decide +kernel, by decide +kernel⟩
theorem bd23 : BindP "potential_in" (top 34) ["game"] := fun _ _ _ _ _ _ us hl => match us, hl with | [_], _ => rfl
def dd23 : He.DefD := ⟨("potential_in_rounds", none), "potential_in", "potential_in", defArgs (top 34), defBody (top 34), defScope (top 34), [], []⟩
theorem bk23 : KwX L0 23 "potential_in" (top 34) ["game"] := fun z => Bool.noConfusion (show false = true from z)
def f23 : CS := (cRet (cIf (cTst (cBin gIsNot (cCallN 21 1 (cCons (cVar 0) cNil)) (cLit .non))) (cLit .non) (cCallN 22 2 (cCons (cVar 0) (cCons (cBin gMul (cTup (cCons (cInt (1)) cNil)) (cBlt gLen (cCons (cBin gIx (cVar 0) (cInt (0))) cNil))) cNil)))))
theorem cd23 : cmS (al := sh) fns (cm fns 41) ⟨N23, defScope (top 34), defScope (top 34), gl, false, false⟩ 40 (defBody (top 34)) = some f23 := by kernel_rfl
/-! is_word -/
def N24 : List Str := ["value", "word", "many"]
theorem sc24 : FnScope N24 ["value", "word", "many"] (defScope (top 36)) := ⟨rfl, rfl, rfl, by decide +kernel, rfl, by decide +kernel, by decide +kernel⟩
theorem bd24 : BindP "is_word" (top 36) ["value", "word", "many"] := fun _ _ _ _ _ _ us hl => match us, hl with | [_, _, _], _ => rfl
def dd24 : He.DefD := ⟨("is_word", none), "is_word", "is_word", defArgs (top 36), defBody (top 36), defScope (top 36), [], []⟩
theorem bk24 : KwX L0 24 "is_word" (top 36) ["value", "word", "many"] := fun z => Bool.noConfusion (show false = true from z)
def f24 : CS := (cRet (cAndV (cBlt gIsi (cCons (cVar 0) (cCons (cLit (.ty .tuple)) cNil))) (cAndV (cBin gEq (cBlt gLen (cCons (cVar 0) cNil)) (cVar 2)) (cAndV (cBlt gIsi (cCons (cBin gIx (cVar 0) (cInt (0))) (cCons (cLit (.ty .str)) cNil))) (cBin gEq (cBin gIx (cVar 0) (cInt (0))) (cVar 1))))))
theorem cd24 : cmS (al := sh) fns (cm fns 41) ⟨N24, defScope (top 36), defScope (top 36), gl, false, false⟩ 40 (defBody (top 36)) = some f24 := by kernel_rfl
/-! sum_in -/
def N25 : List Str := ["game", "told"]
theorem sc25 : FnScope N25 ["game"] (defScope (top 37)) := ⟨rfl, rfl, rfl, by decide +kernel, rfl, by decide +kernel, by decide +kernel⟩
theorem bd25 : BindP "sum_in" (top 37) ["game"] := fun _ _ _ _ _ _ us hl => match us, hl with | [_], _ => rfl
def dd25 : He.DefD := ⟨("sum_in", none), "sum_in", "sum_in", defArgs (top 37), defBody (top 37), defScope (top 37), [], []⟩
theorem bk25 : KwX L0 25 "sum_in" (top 37) ["game"] := fun z => Bool.noConfusion (show false = true from z)
def f25 : CS := (cSeq (cAsg (cCallN 21 1 (cCons (cVar 0) cNil)) (cGName 1)) (cRet (cIf (cTst (cBin gIs (cVar 1) (cLit .non))) (cTup (cCons (cLit (.str [112,111,116,101,110,116,105,97,108])) (cCons (cCallN 23 1 (cCons (cVar 0) cNil)) cNil))) (cBin gAdd (cTup (cCons (cLit (.str [114,111,117,110,100])) cNil)) (cVar 1)))))
theorem cd25 : cmS (al := sh) fns (cm fns 41) ⟨N25, defScope (top 37), defScope (top 37), gl, false, false⟩ 40 (defBody (top 37)) = some f25 := by kernel_rfl
/-! is_open_in -/
def N26 : List Str := ["game", "value"]
theorem sc26 : FnScope N26 ["game", "value"] (defScope (top 38)) := ⟨rfl, rfl, rfl, by decide +kernel, rfl, by decide +kernel, by decide +kernel⟩
theorem bd26 : BindP "is_open_in" (top 38) ["game", "value"] := fun _ _ _ _ _ _ us hl => match us, hl with | [_, _], _ => rfl
def dd26 : He.DefD := ⟨("is_open_in", none), "is_open_in", "is_open_in", defArgs (top 38), defBody (top 38), defScope (top 38), [], []⟩
theorem bk26 : KwX L0 26 "is_open_in" (top 38) ["game", "value"] := fun z => Bool.noConfusion (show false = true from z)
def f26 : CS := (cRet (cAndV (cCallN 18 2 (cCons (cBin gIx (cVar 0) (cInt (0))) (cCons (cVar 1) cNil))) (cBin gNe (cBlt gSum (cCons (cCallN 20 2 (cCons (cVar 0) (cCons (cVar 1) cNil))) cNil)) (cInt (0)))))
theorem cd26 : cmS (al := sh) fns (cm fns 41) ⟨N26, defScope (top 38), defScope (top 38), gl, false, false⟩ 40 (defBody (top 38)) = some f26 := by kernel_rfl
/-! is_bar_in -/
def N27 : List Str := ["game", "value"]
theorem sc27 : FnScope N27 ["game", "value"] (defScope (top 39)) := ⟨rfl, rfl, rfl, by decide +kernel, rfl, by decide +kernel, by decide +kernel⟩
theorem bd27 : BindP "is_bar_in" (top 39) ["game", "value"] := fun _ _ _ _ _ _ us hl => match us, hl with | [_, _], _ => rfl
def dd27 : He.DefD := ⟨("is_bar_in", none), "is_bar_in", "is_bar_in", defArgs (top 39), defBody (top 39), defScope (top 39), [], []⟩
theorem bk27 : KwX L0 27 "is_bar_in" (top 39) ["game", "value"] := fun z => Bool.noConfusion (show false = true from z)
def f27 : CS := (cRet (cAndV (cCallN 24 3 (cCons (cVar 1) (cCons (cLit (.str [114,111,117,110,100])) (cCons (cInt (6)) cNil)))) (cCallN 26 2 (cCons (cVar 0) (cCons (cSl (cVar 1) (cPart (cInt (1))) cNo) cNil)))))
theorem cd27 : cmS (al := sh) fns (cm fns 41) ⟨N27, defScope (top 39), defScope (top 39), gl, false, false⟩ 40 (defBody (top 39)) = some f27 := by kernel_rfl
/-! shared_table -/
def N28 : List Str := ["shared", "worths", "lots", "sizes", "found", "k", "users", ".0", "own", "thing", "many"]
theorem sc28 : FnScope N28 ["shared"] (defScope (top 42)) := ⟨rfl, rfl, rfl, by decide +kernel, rfl, by decide +kernel, by decide +kernel⟩
theorem bd28 : BindP "shared_table" (top 42) ["shared"] := fun _ _ _ _ _ _ us hl => match us, hl with | [_], _ => rfl
def dd28 : He.DefD := ⟨("shared_table", none), "shared_table", "shared_table", defArgs (top 42), defBody (top 42), defScope (top 42), [], []⟩
theorem bk28 : KwX L0 28 "shared_table" (top 42) ["shared"] := fun _ _ _ _ _ _ _ us hl => match us, hl with | [_], _ => rfl
def f28 : CS := (cSeq (cDrop (cCallN 15 1 (cCons (cVar 0) cNil))) (cSeq (cAsg (cVar 0) (cGTup 2 (cGCons (cGName 1) (cGCons (cGName 2) cGNil)))) (cSeq (cPar 3 4 (cCons (cBlt gTupD (cCons (cLc (cIter (cVar 2)) [7,8] [8] (cGName 8) cYes (cEmit (cBlt gLen (cCons (cVar 8) cNil)))) cNil)) (cCons (cLst cNil) cNil))) (cSeq (cFor (cRng1 (cCons (cCallN 3 1 (cCons (cVar 3) cNil)) cNil)) (cGName 5) (cSeq (cAsg (cCallN 16 2 (cCons (cVar 2) (cCons (cCallN 5 2 (cCons (cVar 3) (cCons (cVar 5) cNil))) cNil))) (cGName 6)) (cDrop (cMeth isLstT gAppend (cVar 4) (cCons (cBlt gSum (cCons (cLock 6 (cLc (cItm (cVar 6)) [7,9,10] [9,10] (cGTup 2 (cGCons (cGName 9) (cGCons (cGName 10) cGNil))) cYes (cEmit (cBlt gSum (cCons (cSl (cBin gIx (cVar 1) (cVar 9)) cNo (cPart (cVar 10))) cNil))))) cNil)) cNil))))) (cRet (cBlt gTupD (cCons (cVar 4) cNil)))))))
theorem cd28 : cmS (al := sh) fns (cm fns 41) ⟨N28, defScope (top 42), defScope (top 42), gl, false, false⟩ 40 (defBody (top 42)) = some f28 := by kernel_rfl
/-! together_in -/
def N29 : List Str := ["sizes", "table", ".0", "k", "worth"]
theorem sc29 : FnScope N29 ["sizes", "table"] (defScope (top 43)) := ⟨rfl, rfl, rfl, by decide +kernel, rfl, by decide +kernel, by decide +kernel⟩
theorem bd29 : BindP "together_in" (top 43) ["sizes", "table"] := fun _ _ _ _ _ _ us hl => match us, hl with | [_, _], _ => rfl
def dd29 : He.DefD := ⟨("together_in", none), "together_in", "together_in", defArgs (top 43), defBody (top 43), defScope (top 43), [], []⟩
theorem bk29 : KwX L0 29 "together_in" (top 43) ["sizes", "table"] := fun z => Bool.noConfusion (show false = true from z)
def f29 : CS := (cRet (cLc (cEnm (cCons (cVar 1) cNil)) [2,3,4] [3,4] (cGTup 2 (cGCons (cGName 3) (cGCons (cGName 4) cGNil))) (cTru (cVar 4)) (cEmit (cTup (cCons (cCallN 5 2 (cCons (cVar 0) (cCons (cVar 3) cNil))) (cCons (cVar 4) cNil))))))
theorem cd29 : cmS (al := sh) fns (cm fns 41) ⟨N29, defScope (top 43), defScope (top 43), gl, false, false⟩ 40 (defBody (top 43)) = some f29 := by kernel_rfl
/-! alone_in -/
def N30 : List Str := ["game", "table", "sizes", "rows", "found", "i", "k", "play"]
theorem sc30 : FnScope N30 ["game", "table"] (defScope (top 44)) := ⟨rfl, rfl, rfl, by decide +kernel, rfl, by decide +kernel, by decide +kernel⟩
theorem bd30 : BindP "alone_in" (top 44) ["game", "table"] := fun _ _ _ _ _ _ us hl => match us, hl with | [_, _], _ => rfl
def dd30 : He.DefD := ⟨("alone_in", none), "alone_in", "alone_in", defArgs (top 44), defBody (top 44), defScope (top 44), [], []⟩
theorem bk30 : KwX L0 30 "alone_in" (top 44) ["game", "table"] := fun z => Bool.noConfusion (show false = true from z)
def f30 : CS := (cSeq (cAsg (cVar 0) (cGTup 2 (cGCons (cGName 2) (cGCons (cGName 3) cGNil)))) (cSeq (cAsg (cLst cNil) (cGName 4)) (cSeq (cFor (cRng1 (cCons (cBlt gLen (cCons (cVar 2) cNil)) cNil)) (cGName 5) (cFor (cRng1 (cCons (cCallN 3 1 (cCons (cVar 2) cNil)) cNil)) (cGName 6) (cSeq (cAsg (cCallN 5 2 (cCons (cVar 2) (cCons (cVar 6) cNil))) (cGName 7)) (cIfS (cAndT (cTst (cBin gEq (cBin gIx (cVar 7) (cVar 5)) (cInt (0)))) (cTst (cBin gNe (cBin gIx (cBin gIx (cVar 3) (cVar 5)) (cVar 6)) (cBin gIx (cVar 1) (cVar 6))))) (cDrop (cMeth isLstT gAppend (cVar 4) (cCons (cTup (cCons (cVar 5) (cCons (cVar 7) (cCons (cBin gSub (cBin gIx (cBin gIx (cVar 3) (cVar 5)) (cVar 6)) (cBin gIx (cVar 1) (cVar 6))) cNil)))) cNil))) cNext)))) (cRet (cVar 4)))))
theorem cd30 : cmS (al := sh) fns (cm fns 41) ⟨N30, defScope (top 44), defScope (top 44), gl, false, false⟩ 40 (defBody (top 44)) = some f30 := by kernel_rfl
/-! things_in -/
def N31 : List Str := ["game", "table", "sizes", "a", "many", "worths", "lots", "play", "worth", "i", "choice", "j", "own", "lot", ".0", "size"]
theorem sc31 : FnScope N31 ["game", "table"] (defScope (top 45)) := ⟨rfl, rfl, rfl, by decide +kernel, rfl, by decide +kernel, by decide +kernel⟩
theorem bd31 : BindP "things_in" (top 45) ["game", "table"] := fun _ _ _ _ _ _ us hl => match us, hl with | [_, _], _ => rfl
def dd31 : He.DefD := ⟨("things_in", none), "things_in", "things_in", defArgs (top 45), defBody (top 45), defScope (top 45), [], []⟩
theorem bk31 : KwX L0 31 "things_in" (top 45) ["game", "table"] := fun z => Bool.noConfusion (show false = true from z)
def f31 : CS := (cSeq (cAsg (cBin gIx (cVar 0) (cInt (0))) (cGName 2)) (cSeq (cPar3 4 5 6 (cCons (cBlt gLen (cCons (cVar 2) cNil)) (cCons (cLst cNil) (cCons (cLc (cIter (cVar 2)) [14,15] [15] (cGName 15) cYes (cEmit (cLc (cRng1 (cCons (cVar 15) cNil)) [14,3] [3] (cGName 3) cYes (cEmit (cLst cNil))))) cNil)))) (cSeq (cFor (cIter (cCallN 29 2 (cCons (cVar 2) (cCons (cVar 1) cNil)))) (cGTup 2 (cGCons (cGName 7) (cGCons (cGName 8) cGNil))) (cSeq (cFor (cEnm (cCons (cVar 7) cNil)) (cGTup 2 (cGCons (cGName 9) (cGCons (cGName 10) cGNil))) (cDrop (cMeth isLstT gAppend (cBin gIx (cBin gIx (cVar 6) (cVar 9)) (cVar 10)) (cCons (cBlt gLen (cCons (cVar 5) cNil)) cNil)))) (cDrop (cMeth isLstT gAppend (cVar 5) (cCons (cBin gAdd (cBin gMul (cTup (cCons (cInt (0)) cNil)) (cBin gSub (cVar 4) (cInt (1)))) (cTup (cCons (cVar 8) cNil))) cNil))))) (cSeq (cFor (cIter (cCallN 30 2 (cCons (cVar 0) (cCons (cVar 1) cNil)))) (cGTup 3 (cGCons (cGName 9) (cGCons (cGName 7) (cGCons (cGName 8) cGNil)))) (cSeq (cFor (cEnm (cCons (cVar 6) cNil)) (cGTup 2 (cGCons (cGName 11) (cGCons (cGName 12) cGNil))) (cFor (cEnm (cCons (cVar 12) cNil)) (cGTup 2 (cGCons (cGName 3) (cGCons (cGName 13) cGNil))) (cIfS (cOrT (cTst (cBin gEq (cVar 11) (cVar 9))) (cTst (cBin gNe (cVar 3) (cBin gIx (cVar 7) (cVar 11))))) (cDrop (cMeth isLstT gAppend (cVar 13) (cCons (cBlt gLen (cCons (cVar 5) cNil)) cNil))) cNext))) (cDrop (cMeth isLstT gAppend (cVar 5) (cCons (cBin gAdd (cTup (cCons (cVar 8) cNil)) (cBin gMul (cTup (cCons (cInt (0)) cNil)) (cBin gSub (cVar 4) (cInt (1))))) cNil))))) (cRet (cTup (cCons (cBlt gTupD (cCons (cVar 5) cNil)) (cCons (cBlt gTupD (cCons (cLc (cIter (cVar 6)) [14,12] [12] (cGName 12) cYes (cEmit (cBlt gTupD (cCons (cLc (cIter (cVar 12)) [14,13] [13] (cGName 13) cYes (cEmit (cBlt gTupD (cCons (cVar 13) cNil)))) cNil)))) cNil)) cNil))))))))
theorem cd31 : cmS (al := sh) fns (cm fns 41) ⟨N31, defScope (top 45), defScope (top 45), gl, false, false⟩ 40 (defBody (top 45)) = some f31 := by kernel_rfl
/-! share_answer -/
def N32 : List Str := ["game", "found"]
theorem sc32 : FnScope N32 ["game"] (defScope (top 46)) := ⟨rfl, rfl, rfl, by decide +kernel, rfl, by decide +kernel, by decide +kernel⟩
theorem bd32 : BindP "share_answer" (top 46) ["game"] := fun _ _ _ _ _ _ us hl => match us, hl with | [_], _ => rfl
def dd32 : He.DefD := ⟨("share_answer", none), "share_answer", "share_answer", defArgs (top 46), defBody (top 46), defScope (top 46), [], []⟩
theorem bk32 : KwX L0 32 "share_answer" (top 46) ["game"] := fun z => Bool.noConfusion (show false = true from z)
def f32 : CS := (cSeq (cDrop (cCallN 10 1 (cCons (cVar 0) cNil))) (cSeq (cAsg (cCallN 25 1 (cCons (cVar 0) cNil)) (cGName 1)) (cRet (cIf (cTst (cBin gEq (cBin gIx (cVar 1) (cInt (0))) (cLit (.str [112,111,116,101,110,116,105,97,108])))) (cBin gAdd (cTup (cCons (cLit (.str [116,104,105,110,103,115])) cNil)) (cCallN 31 2 (cCons (cVar 0) (cCons (cBin gIx (cVar 1) (cInt (1))) cNil)))) (cVar 1)))))
theorem cd32 : cmS (al := sh) fns (cm fns 41) ⟨N32, defScope (top 46), defScope (top 46), gl, false, false⟩ 40 (defBody (top 46)) = some f32 := by kernel_rfl
/-! are_things -/
def N33 : List Str := ["sizes", "worths", "lots", "row", ".0", "item", "own", "lot"]
theorem sc33 : FnScope N33 ["sizes", "worths", "lots"] (defScope (top 47)) := ⟨rfl, rfl, rfl, by decide +kernel, rfl, by decide +kernel, by decide +kernel⟩
theorem bd33 : BindP "are_things" (top 47) ["sizes", "worths", "lots"] := fun _ _ _ _ _ _ us hl => match us, hl with | [_, _, _], _ => rfl
def dd33 : He.DefD := ⟨("are_things", none), "are_things", "are_things", defArgs (top 47), defBody (top 47), defScope (top 47), [], []⟩
theorem bk33 : KwX L0 33 "are_things" (top 47) ["sizes", "worths", "lots"] := fun z => Bool.noConfusion (show false = true from z)
def f33 : CS := (cSeq (cIfS (cOrT (cNotT (cTru (cBlt gIsi (cCons (cVar 1) (cCons (cLit (.ty .tuple)) cNil))))) (cOrT (cNotT (cTru (cBlt gIsi (cCons (cVar 2) (cCons (cLit (.ty .tuple)) cNil))))) (cTst (cBin gGt (cBlt gLen (cCons (cVar 1) cNil)) (cLit (.int (400))))))) (cRet (cLit (.bl false))) cNext) (cSeq (cFor (cIter (cVar 1)) (cGName 3) (cIfS (cOrT (cNotT (cTru (cBlt gIsi (cCons (cVar 3) (cCons (cLit (.ty .tuple)) cNil))))) (cOrT (cTst (cBin gNe (cBlt gLen (cCons (cVar 3) cNil)) (cBlt gLen (cCons (cVar 0) cNil)))) (cNotT (cTru (cBlt gAll (cCons (cLc (cIter (cVar 3)) [4,5] [5] (cGName 5) cYes (cEmit (cCallN 0 1 (cCons (cVar 5) cNil)))) cNil)))))) (cRet (cLit (.bl false))) cNext)) (cSeq (cIfS (cOrT (cTst (cBin gNe (cBlt gLen (cCons (cVar 2) cNil)) (cBlt gLen (cCons (cVar 0) cNil)))) (cNotT (cTru (cBlt gAll (cCons (cLc (cIter (cVar 2)) [4,6] [6] (cGName 6) cYes (cEmit (cBlt gIsi (cCons (cVar 6) (cCons (cLit (.ty .tuple)) cNil))))) cNil))))) (cRet (cLit (.bl false))) cNext) (cSeq (cIfS (cTst (cBin gNe (cBlt gTupD (cCons (cLc (cIter (cVar 2)) [4,6] [6] (cGName 6) cYes (cEmit (cBlt gLen (cCons (cVar 6) cNil)))) cNil)) (cVar 0))) (cRet (cLit (.bl false))) cNext) (cRet (cBlt gAll (cCons (cLc (cIter (cVar 2)) [4,6,7] [6,7] (cGName 6) cYes (cLvl (cIter (cVar 6)) [7] (cGName 7) cYes (cEmit (cCallN 12 2 (cCons (cBlt gLen (cCons (cVar 1) cNil)) (cCons (cVar 7) cNil)))))) cNil)))))))
theorem cd33 : cmS (al := sh) fns (cm fns 41) ⟨N33, defScope (top 47), defScope (top 47), gl, false, false⟩ 40 (defBody (top 47)) = some f33 := by kernel_rfl
/-! tells -/
def N34 : List Str := ["game", "worths", "lots"]
theorem sc34 : FnScope N34 ["game", "worths", "lots"] (defScope (top 48)) := ⟨rfl, rfl, rfl, by decide +kernel, rfl, by decide +kernel, by decide +kernel⟩
theorem bd34 : BindP "tells" (top 48) ["game", "worths", "lots"] := fun _ _ _ _ _ _ us hl => match us, hl with | [_, _, _], _ => rfl
def dd34 : He.DefD := ⟨("tells", none), "tells", "tells", defArgs (top 48), defBody (top 48), defScope (top 48), [], []⟩
theorem bk34 : KwX L0 34 "tells" (top 48) ["game", "worths", "lots"] := fun z => Bool.noConfusion (show false = true from z)
def f34 : CS := (cRet (cBin gEq (cCallN 17 2 (cCons (cVar 1) (cCons (cVar 2) cNil))) (cVar 0)))
theorem cd34 : cmS (al := sh) fns (cm fns 41) ⟨N34, defScope (top 48), defScope (top 48), gl, false, false⟩ 40 (defBody (top 48)) = some f34 := by kernel_rfl
/-! is_share_answer -/
def N35 : List Str := ["game", "value"]
theorem sc35 : FnScope N35 ["game", "value"] (defScope (top 49)) := ⟨rfl, rfl, rfl, by decide +kernel, rfl, by decide +kernel, by decide +kernel⟩
theorem bd35 : BindP "is_share_answer" (top 49) ["game", "value"] := fun _ _ _ _ _ _ us hl => match us, hl with | [_, _], _ => rfl
def dd35 : He.DefD := ⟨("is_share_answer", none), "is_share_answer", "is_share_answer", defArgs (top 49), defBody (top 49), defScope (top 49), [], []⟩
theorem bk35 : KwX L0 35 "is_share_answer" (top 49) ["game", "value"] := fun z => Bool.noConfusion (show false = true from z)
def f35 : CS := (cSeq (cDrop (cCallN 10 1 (cCons (cVar 0) cNil))) (cSeq (cIfS (cOrT (cNotT (cTru (cBlt gIsi (cCons (cVar 1) (cCons (cLit (.ty .tuple)) cNil))))) (cOrT (cTst (cBin gEq (cVar 1) (cTup cNil))) (cNotT (cTru (cBlt gIsi (cCons (cBin gIx (cVar 1) (cInt (0))) (cCons (cLit (.ty .str)) cNil))))))) (cRet (cLit (.bl false))) cNext) (cSeq (cIfS (cTst (cBin gEq (cBin gIx (cVar 1) (cInt (0))) (cLit (.str [116,104,105,110,103,115])))) (cRet (cAndV (cBin gEq (cBlt gLen (cCons (cVar 1) cNil)) (cInt (3))) (cAndV (cCallN 33 3 (cCons (cBin gIx (cVar 0) (cInt (0))) (cCons (cBin gIx (cVar 1) (cInt (1))) (cCons (cBin gIx (cVar 1) (cInt (2))) cNil)))) (cCallN 34 3 (cCons (cVar 0) (cCons (cBin gIx (cVar 1) (cInt (1))) (cCons (cBin gIx (cVar 1) (cInt (2))) cNil))))))) cNext) (cRet (cCallN 27 2 (cCons (cVar 0) (cCons (cVar 1) cNil)))))))
theorem cd35 : cmS (al := sh) fns (cm fns 41) ⟨N35, defScope (top 49), defScope (top 49), gl, false, false⟩ 40 (defBody (top 49)) = some f35 := by kernel_rfl
/-! is_sharing -/
def N36 : List Str := ["game"]
theorem sc36 : FnScope N36 ["game"] (defScope (top 50)) := ⟨rfl, rfl, rfl, by decide +kernel, rfl, by decide +kernel, by decide +kernel⟩
theorem bd36 : BindP "is_sharing" (top 50) ["game"] := fun _ _ _ _ _ _ us hl => match us, hl with | [_], _ => rfl
def dd36 : He.DefD := ⟨("is_sharing", none), "is_sharing", "is_sharing", defArgs (top 50), defBody (top 50), defScope (top 50), [], []⟩
theorem bk36 : KwX L0 36 "is_sharing" (top 50) ["game"] := fun z => Bool.noConfusion (show false = true from z)
def f36 : CS := (cSeq (cDrop (cCallN 10 1 (cCons (cVar 0) cNil))) (cRet (cBin gEq (cBin gIx (cCallN 25 1 (cCons (cVar 0) cNil)) (cInt (0))) (cLit (.str [112,111,116,101,110,116,105,97,108])))))
theorem cd36 : cmS (al := sh) fns (cm fns 41) ⟨N36, defScope (top 50), defScope (top 50), gl, false, false⟩ 40 (defBody (top 50)) = some f36 := by kernel_rfl
/-! play_users -/
def N37 : List Str := ["shared", "k", "worths", "lots", "sizes", "users", ".0", "own", "thing"]
theorem sc37 : FnScope N37 ["shared", "k"] (defScope (top 51)) := ⟨rfl, rfl, rfl, by decide +kernel, rfl, by decide +kernel, by decide +kernel⟩
theorem bd37 : BindP "play_users" (top 51) ["shared", "k"] := fun _ _ _ _ _ _ us hl => match us, hl with | [_, _], _ => rfl
def dd37 : He.DefD := ⟨("play_users", none), "play_users", "play_users", defArgs (top 51), defBody (top 51), defScope (top 51), [], []⟩
theorem bk37 : KwX L0 37 "play_users" (top 51) ["shared", "k"] := fun _ _ _ _ _ _ _ us hl => match us, hl with | [_, _], _ => rfl
def f37 : CS := (cSeq (cDrop (cCallN 15 1 (cCons (cVar 0) cNil))) (cSeq (cAsg (cVar 0) (cGTup 2 (cGCons (cGName 2) (cGCons (cGName 3) cGNil)))) (cSeq (cAsg (cBlt gTupD (cCons (cLc (cIter (cVar 3)) [6,7] [7] (cGName 7) cYes (cEmit (cBlt gLen (cCons (cVar 7) cNil)))) cNil)) (cGName 4)) (cSeq (cDrop (cCallN 7 3 (cCons (cVar 4) (cCons (cLit (.str [107])) (cCons (cVar 1) cNil))))) (cSeq (cAsg (cCallN 16 2 (cCons (cVar 3) (cCons (cCallN 5 2 (cCons (cVar 4) (cCons (cVar 1) cNil))) cNil))) (cGName 5)) (cRet (cBlt gTupD (cCons (cLc (cRng1 (cCons (cBlt gLen (cCons (cVar 2) cNil)) cNil)) [6,8] [8] (cGName 8) cYes (cEmit (cMeth isDctT gGet (cVar 5) (cCons (cVar 8) (cCons (cInt (0)) cNil))))) cNil))))))))
theorem cd37 : cmS (al := sh) fns (cm fns 41) ⟨N37, defScope (top 51), defScope (top 51), gl, false, false⟩ 40 (defBody (top 51)) = some f37 := by kernel_rfl
/-! lowest_in -/
def N38 : List Str := ["top", "bottom", "divisor"]
theorem sc38 : FnScope N38 ["top", "bottom"] (defScope (top 53)) := ⟨rfl, rfl, rfl, by decide +kernel, rfl, by decide +kernel, by decide +kernel⟩
theorem bd38 : BindP "lowest_in" (top 53) ["top", "bottom"] := fun _ _ _ _ _ _ us hl => match us, hl with | [_, _], _ => rfl
def dd38 : He.DefD := ⟨("lowest_in", none), "lowest_in", "lowest_in", defArgs (top 53), defBody (top 53), defScope (top 53), [], []⟩
theorem bk38 : KwX L0 38 "lowest_in" (top 53) ["top", "bottom"] := fun z => Bool.noConfusion (show false = true from z)
def f38 : CS := (cSeq (cAsg (cIf (cTst (cBin gGt (cVar 1) (cInt (0)))) (cBlt gGcd (cCons (cVar 0) (cCons (cVar 1) cNil))) (cNeg (cBlt gGcd (cCons (cVar 0) (cCons (cVar 1) cNil))))) (cGName 2)) (cRet (cTup (cCons (cBin gDiv (cVar 0) (cVar 2)) (cCons (cBin gDiv (cVar 1) (cVar 2)) cNil)))))
theorem cd38 : cmS (al := sh) fns (cm fns 41) ⟨N38, defScope (top 53), defScope (top 53), gl, false, false⟩ 40 (defBody (top 53)) = some f38 := by kernel_rfl
/-! lessened_in -/
def N39 : List Str := ["bottom", "numbers", "divisor", "number", ".0"]
theorem sc39 : FnScope N39 ["bottom", "numbers"] (defScope (top 55)) := ⟨rfl, rfl, rfl, by decide +kernel, rfl, by decide +kernel, by decide +kernel⟩
theorem bd39 : BindP "lessened_in" (top 55) ["bottom", "numbers"] := fun _ _ _ _ _ _ us hl => match us, hl with | [_, _], _ => rfl
def dd39 : He.DefD := ⟨("lessened_in", none), "lessened_in", "lessened_in", defArgs (top 55), defBody (top 55), defScope (top 55), [], []⟩
theorem bk39 : KwX L0 39 "lessened_in" (top 55) ["bottom", "numbers"] := fun z => Bool.noConfusion (show false = true from z)
def f39 : CS := (cSeq (cAsg (cVar 0) (cGName 2)) (cSeq (cFor (cIter (cVar 1)) (cGName 3) (cAsg (cBlt gGcd (cCons (cVar 2) (cCons (cVar 3) cNil))) (cGName 2))) (cRet (cTup (cCons (cBin gDiv (cVar 0) (cVar 2)) (cCons (cLc (cIter (cVar 1)) [4,3] [3] (cGName 3) cYes (cEmit (cBin gDiv (cVar 3) (cVar 2)))) cNil))))))
theorem cd39 : cmS (al := sh) fns (cm fns 41) ⟨N39, defScope (top 55), defScope (top 55), gl, false, false⟩ 40 (defBody (top 55)) = some f39 := by kernel_rfl
/-! added_in -/
def N40 : List Str := ["one", "two", "times", "by", "bottom", "low", "numbers", ".0", "a", "b"]
theorem sc40 : FnScope N40 ["one", "two", "times", "by"] (defScope (top 56)) := ⟨rfl, rfl, rfl, by decide +kernel, rfl, by decide +kernel, by decide +kernel⟩
theorem bd40 : BindP "added_in" (top 56) ["one", "two", "times", "by"] := fun _ _ _ _ _ _ us hl => match us, hl with | [_, _, _, _], _ => rfl
def dd40 : He.DefD := ⟨("added_in", none), "added_in", "added_in", defArgs (top 56), defBody (top 56), defScope (top 56), [], []⟩
theorem bk40 : KwX L0 40 "added_in" (top 56) ["one", "two", "times", "by"] := fun z => Bool.noConfusion (show false = true from z)
def f40 : CS := (cSeq (cAsg (cTup (cCons (cBin gMul (cBin gMul (cBin gIx (cVar 0) (cInt (0))) (cBin gIx (cVar 1) (cInt (0)))) (cVar 3)) (cCons (cBin gMul (cBin gIx (cVar 1) (cInt (0))) (cVar 3)) cNil))) (cGTup 2 (cGCons (cGName 4) (cGCons (cGName 5) cGNil)))) (cSeq (cAsg (cLc (cZip (cCons (cBin gIx (cVar 0) (cInt (1))) (cCons (cBin gIx (cVar 1) (cInt (1))) cNil))) [7,8,9] [8,9] (cGTup 2 (cGCons (cGName 8) (cGCons (cGName 9) cGNil))) cYes (cEmit (cBin gAdd (cBin gMul (cVar 8) (cVar 5)) (cBin gMul (cBin gMul (cVar 9) (cBin gIx (cVar 0) (cInt (0)))) (cVar 2))))) (cGName 6)) (cRet (cCallN 39 2 (cCons (cVar 4) (cCons (cVar 6) cNil))))))
theorem cd40 : cmS (al := sh) fns (cm fns 41) ⟨N40, defScope (top 56), defScope (top 56), gl, false, false⟩ 40 (defBody (top 56)) = some f40 := by kernel_rfl
/-! mean_in -/
def N41 : List Str := ["sizes", "i", "table", "numbers", "k", ".0", "a"]
theorem sc41 : FnScope N41 ["sizes", "i", "table"] (defScope (top 57)) := ⟨rfl, rfl, rfl, by decide +kernel, rfl, by decide +kernel, by decide +kernel⟩
theorem bd41 : BindP "mean_in" (top 57) ["sizes", "i", "table"] := fun _ _ _ _ _ _ us hl => match us, hl with | [_, _, _], _ => rfl
def dd41 : He.DefD := ⟨("mean_in", none), "mean_in", "mean_in", defArgs (top 57), defBody (top 57), defScope (top 57), [], []⟩
theorem bk41 : KwX L0 41 "mean_in" (top 57) ["sizes", "i", "table"] := fun z => Bool.noConfusion (show false = true from z)
def f41 : CS := (cSeq (cAsg (cLst cNil) (cGName 3)) (cSeq (cFor (cRng1 (cCons (cCallN 3 1 (cCons (cVar 0) cNil)) cNil)) (cGName 4) (cDrop (cMeth isLstT gAppend (cVar 3) (cCons (cBlt gSum (cCons (cLc (cRng1 (cCons (cBin gIx (cVar 0) (cVar 1)) cNil)) [5,6] [6] (cGName 6) cYes (cEmit (cBin gIx (cBin gIx (cVar 2) (cInt (1))) (cCallN 8 4 (cCons (cVar 0) (cCons (cVar 4) (cCons (cVar 1) (cCons (cVar 6) cNil)))))))) cNil)) cNil)))) (cRet (cCallN 39 2 (cCons (cBin gMul (cBin gIx (cVar 2) (cInt (0))) (cBin gIx (cVar 0) (cVar 1))) (cCons (cVar 3) cNil))))))
theorem cd41 : cmS (al := sh) fns (cm fns 41) ⟨N41, defScope (top 57), defScope (top 57), gl, false, false⟩ 40 (defBody (top 57)) = some f41 := by kernel_rfl
/-! rest_in -/
def N42 : List Str := ["sizes", "i", "table"]
theorem sc42 : FnScope N42 ["sizes", "i", "table"] (defScope (top 58)) := ⟨rfl, rfl, rfl, by decide +kernel, rfl, by decide +kernel, by decide +kernel⟩
theorem bd42 : BindP "rest_in" (top 58) ["sizes", "i", "table"] := fun _ _ _ _ _ _ us hl => match us, hl with | [_, _, _], _ => rfl
def dd42 : He.DefD := ⟨("rest_in", none), "rest_in", "rest_in", defArgs (top 58), defBody (top 58), defScope (top 58), [], []⟩
theorem bk42 : KwX L0 42 "rest_in" (top 58) ["sizes", "i", "table"] := fun z => Bool.noConfusion (show false = true from z)
def f42 : CS := (cRet (cCallN 40 4 (cCons (cVar 2) (cCons (cCallN 41 3 (cCons (cVar 0) (cCons (cVar 1) (cCons (cVar 2) cNil)))) (cCons (cNeg (cInt (1))) (cCons (cInt (1)) cNil))))))
theorem cd42 : cmS (al := sh) fns (cm fns 41) ⟨N42, defScope (top 58), defScope (top 58), gl, false, false⟩ 40 (defBody (top 58)) = some f42 := by kernel_rfl
/-! lots_in -/
def N43 : List Str := ["many", "found", "lap", ".0", "row", "is_there"]
theorem sc43 : FnScope N43 ["many"] (defScope (top 59)) := ⟨rfl, rfl, rfl, by decide +kernel, rfl, by decide +kernel, by decide +kernel⟩
theorem bd43 : BindP "lots_in" (top 59) ["many"] := fun _ _ _ _ _ _ us hl => match us, hl with | [_], _ => rfl
def dd43 : He.DefD := ⟨("lots_in", none), "lots_in", "lots_in", defArgs (top 59), defBody (top 59), defScope (top 59), [], []⟩
theorem bk43 : KwX L0 43 "lots_in" (top 59) ["many"] := fun z => Bool.noConfusion (show false = true from z)
def f43 : CS := (cSeq (cAsg (cLst (cCons (cTup cNil) cNil)) (cGName 1)) (cSeq (cFor (cRng1 (cCons (cVar 0) cNil)) (cGName 2) (cAsg (cLc (cIter (cVar 1)) [3,4,5] [4,5] (cGName 4) cYes (cLvl (cIter (cTup (cCons (cLit (.bl false)) (cCons (cLit (.bl true)) cNil)))) [5] (cGName 5) cYes (cEmit (cBin gAdd (cVar 4) (cTup (cCons (cVar 5) cNil)))))) (cGName 1))) (cRet (cSl (cVar 1) (cPart (cInt (1))) cNo))))
theorem cd43 : cmS (al := sh) fns (cm fns 41) ⟨N43, defScope (top 59), defScope (top 59), gl, false, false⟩ 40 (defBody (top 59)) = some f43 := by kernel_rfl
/-! potential_in -/
def N44 : List Str := ["game", "sizes", "rows", "pull", "i", "size", "found", "lot", "part", "weight", "is_there"]
theorem sc44 : FnScope N44 ["game"] (defScope (top 60)) := ⟨rfl, rfl, rfl, by decide +kernel, rfl, by decide +kernel, by decide +kernel⟩
theorem bd44 : BindP "potential_in" (top 60) ["game"] := fun _ _ _ _ _ _ us hl => match us, hl with | [_], _ => rfl
def dd44 : He.DefD := ⟨("potential_in", none), "potential_in", "potential_in", defArgs (top 60), defBody (top 60), defScope (top 60), [], []⟩
theorem bk44 : KwX L0 44 "potential_in" (top 60) ["game"] := fun z => Bool.noConfusion (show false = true from z)
def f44 : CS := (cSeq (cAsg (cVar 0) (cGTup 2 (cGCons (cGName 1) (cGCons (cGName 2) cGNil)))) (cSeq (cAsg (cTup (cCons (cInt (1)) (cCons (cBin gMul (cLst (cCons (cInt (0)) cNil)) (cCallN 3 1 (cCons (cVar 1) cNil))) cNil))) (cGName 3)) (cSeq (cFor (cEnm (cCons (cVar 1) cNil)) (cGTup 2 (cGCons (cGName 4) (cGCons (cGName 5) cGNil))) (cAsg (cCallN 40 4 (cCons (cVar 3) (cCons (cCallN 42 3 (cCons (cVar 1) (cCons (cVar 4) (cCons (cTup (cCons (cInt (1)) (cCons (cBlt gLstOf (cCons (cBin gIx (cVar 2) (cVar 4)) cNil)) cNil))) cNil)))) (cCons (cVar 5) (cCons (cInt (1)) cNil))))) (cGName 3))) (cSeq (cAsg (cTup (cCons (cInt (1)) (cCons (cBin gMul (cLst (cCons (cInt (0)) cNil)) (cCallN 3 1 (cCons (cVar 1) cNil))) cNil))) (cGName 6)) (cSeq (cFor (cIter (cCallN 43 1 (cCons (cBlt gLen (cCons (cVar 1) cNil)) cNil))) (cGName 7) (cSeq (cPar 8 9 (cCons (cVar 3) (cCons (cInt (0)) cNil))) (cSeq (cFor (cEnm (cCons (cVar 7) cNil)) (cGTup 2 (cGCons (cGName 4) (cGCons (cGName 10) cGNil))) (cSeq (cAsg (cIf (cTru (cVar 10)) (cCallN 42 3 (cCons (cVar 1) (cCons (cVar 4) (cCons (cVar 8) cNil)))) (cCallN 41 3 (cCons (cVar 1) (cCons (cVar 4) (cCons (cVar 8) cNil))))) (cGName 8)) (cAug 9 (cIf (cTru (cVar 10)) (cBin gIx (cVar 1) (cVar 4)) (cInt (0))) gIAdd))) (cAsg (cCallN 40 4 (cCons (cVar 6) (cCons (cVar 8) (cCons (cInt (1)) (cCons (cVar 9) cNil))))) (cGName 6))))) (cRet (cVar 6)))))))
theorem cd44 : cmS (al := sh) fns (cm fns 41) ⟨N44, defScope (top 60), defScope (top 60), gl, false, false⟩ 40 (defBody (top 60)) = some f44 := by kernel_rfl
/-! potential_in_parting -/
def N45 : List Str := ["game", "sizes", "rows", "pull", "i", "size", "found", "lot", "part", "weight", "is_there"]
theorem sc45 : FnScope N45 ["game"] (defScope (top 60)) := ⟨rfl, rfl, rfl, by decide +kernel, rfl, by decide +kernel, by decide +kernel⟩
theorem bd45 : BindP "potential_in" (top 60) ["game"] := fun _ _ _ _ _ _ us hl => match us, hl with | [_], _ => rfl
def dd45 : He.DefD := ⟨("potential_in_parting", none), "potential_in", "potential_in", defArgs (top 60), defBody (top 60), defScope (top 60), [], []⟩
theorem bk45 : KwX L0 45 "potential_in" (top 60) ["game"] := fun z => Bool.noConfusion (show false = true from z)
def f45 : CS := (cSeq (cAsg (cVar 0) (cGTup 2 (cGCons (cGName 1) (cGCons (cGName 2) cGNil)))) (cSeq (cAsg (cTup (cCons (cInt (1)) (cCons (cBin gMul (cLst (cCons (cInt (0)) cNil)) (cCallN 3 1 (cCons (cVar 1) cNil))) cNil))) (cGName 3)) (cSeq (cFor (cEnm (cCons (cVar 1) cNil)) (cGTup 2 (cGCons (cGName 4) (cGCons (cGName 5) cGNil))) (cAsg (cCallN 40 4 (cCons (cVar 3) (cCons (cCallN 42 3 (cCons (cVar 1) (cCons (cVar 4) (cCons (cTup (cCons (cInt (1)) (cCons (cBlt gLstOf (cCons (cBin gIx (cVar 2) (cVar 4)) cNil)) cNil))) cNil)))) (cCons (cVar 5) (cCons (cInt (1)) cNil))))) (cGName 3))) (cSeq (cAsg (cTup (cCons (cInt (1)) (cCons (cBin gMul (cLst (cCons (cInt (0)) cNil)) (cCallN 3 1 (cCons (cVar 1) cNil))) cNil))) (cGName 6)) (cSeq (cFor (cIter (cCallN 43 1 (cCons (cBlt gLen (cCons (cVar 1) cNil)) cNil))) (cGName 7) (cSeq (cPar 8 9 (cCons (cVar 3) (cCons (cInt (0)) cNil))) (cSeq (cFor (cEnm (cCons (cVar 7) cNil)) (cGTup 2 (cGCons (cGName 4) (cGCons (cGName 10) cGNil))) (cSeq (cAsg (cIf (cTru (cVar 10)) (cCallN 42 3 (cCons (cVar 1) (cCons (cVar 4) (cCons (cVar 8) cNil)))) (cCallN 41 3 (cCons (cVar 1) (cCons (cVar 4) (cCons (cVar 8) cNil))))) (cGName 8)) (cAug 9 (cIf (cTru (cVar 10)) (cBin gIx (cVar 1) (cVar 4)) (cInt (0))) gIAdd))) (cAsg (cCallN 40 4 (cCons (cVar 6) (cCons (cVar 8) (cCons (cInt (1)) (cCons (cVar 9) cNil))))) (cGName 6))))) (cRet (cVar 6)))))))
theorem cd45 : cmS (al := sh) fns (cm fns 41) ⟨N45, defScope (top 60), defScope (top 60), gl, false, false⟩ 40 (defBody (top 60)) = some f45 := by kernel_rfl
/-! told_in -/
def N46 : List Str := ["table", ".0", "number"]
theorem sc46 : FnScope N46 ["table"] (defScope (top 62)) := ⟨rfl, rfl, rfl, by decide +kernel, rfl, by decide +kernel, by decide +kernel⟩
theorem bd46 : BindP "told_in" (top 62) ["table"] := fun _ _ _ _ _ _ us hl => match us, hl with | [_], _ => rfl
def dd46 : He.DefD := ⟨("told_in", none), "told_in", "told_in", defArgs (top 62), defBody (top 62), defScope (top 62), [], []⟩
theorem bk46 : KwX L0 46 "told_in" (top 62) ["table"] := fun z => Bool.noConfusion (show false = true from z)
def f46 : CS := (cRet (cBlt gTupD (cCons (cLc (cIter (cBin gIx (cVar 0) (cInt (1)))) [1,2] [2] (cGName 2) cYes (cEmit (cCallN 38 2 (cCons (cVar 2) (cCons (cBin gIx (cVar 0) (cInt (0))) cNil))))) cNil)))
theorem cd46 : cmS (al := sh) fns (cm fns 41) ⟨N46, defScope (top 62), defScope (top 62), gl, false, false⟩ 40 (defBody (top 62)) = some f46 := by kernel_rfl
/-! parts_in -/
def N47 : List Str := ["game", "sizes", "rows", "potential", "swirl", ".0", "i", "row", "table"]
theorem sc47 : FnScope N47 ["game"] (defScope (top 63)) := ⟨rfl, rfl, rfl, by decide +kernel, rfl, by decide +kernel, by decide +kernel⟩
theorem bd47 : BindP "parts_in" (top 63) ["game"] := fun _ _ _ _ _ _ us hl => match us, hl with | [_], _ => rfl
def dd47 : He.DefD := ⟨("parts_in", none), "parts_in", "parts_in", defArgs (top 63), defBody (top 63), defScope (top 63), [], []⟩
theorem bk47 : KwX L0 47 "parts_in" (top 63) ["game"] := fun z => Bool.noConfusion (show false = true from z)
def f47 : CS := (cSeq (cAsg (cVar 0) (cGTup 2 (cGCons (cGName 1) (cGCons (cGName 2) cGNil)))) (cSeq (cAsg (cCallN 45 1 (cCons (cVar 0) cNil)) (cGName 3)) (cSeq (cAsg (cLc (cEnm (cCons (cVar 2) cNil)) [5,6,7] [6,7] (cGTup 2 (cGCons (cGName 6) (cGCons (cGName 7) cGNil))) cYes (cEmit (cCallN 42 3 (cCons (cVar 1) (cCons (cVar 6) (cCons (cCallN 40 4 (cCons (cTup (cCons (cInt (1)) (cCons (cBlt gLstOf (cCons (cVar 7) cNil)) cNil))) (cCons (cVar 3) (cCons (cNeg (cInt (1))) (cCons (cInt (1)) cNil))))) cNil)))))) (cGName 4)) (cRet (cTup (cCons (cCallN 46 1 (cCons (cVar 3) cNil)) (cCons (cBlt gTupD (cCons (cLc (cIter (cVar 4)) [5,8] [8] (cGName 8) cYes (cEmit (cCallN 46 1 (cCons (cVar 8) cNil)))) cNil)) cNil)))))))
theorem cd47 : cmS (al := sh) fns (cm fns 41) ⟨N47, defScope (top 63), defScope (top 63), gl, false, false⟩ 40 (defBody (top 63)) = some f47 := by kernel_rfl
/-! parted_answer -/
def N48 : List Str := ["game"]
theorem sc48 : FnScope N48 ["game"] (defScope (top 64)) := ⟨rfl, rfl, rfl, by decide +kernel, rfl, by decide +kernel, by decide +kernel⟩
theorem bd48 : BindP "parted_answer" (top 64) ["game"] := fun _ _ _ _ _ _ us hl => match us, hl with | [_], _ => rfl
def dd48 : He.DefD := ⟨("parted_answer", none), "parted_answer", "parted_answer", defArgs (top 64), defBody (top 64), defScope (top 64), [], []⟩
theorem bk48 : KwX L0 48 "parted_answer" (top 64) ["game"] := fun z => Bool.noConfusion (show false = true from z)
def f48 : CS := (cSeq (cDrop (cCallN 10 1 (cCons (cVar 0) cNil))) (cRet (cBin gAdd (cTup (cCons (cLit (.str [112,97,114,116,115])) cNil)) (cCallN 47 1 (cCons (cVar 0) cNil)))))
theorem cd48 : cmS (al := sh) fns (cm fns 41) ⟨N48, defScope (top 64), defScope (top 64), gl, false, false⟩ 40 (defBody (top 64)) = some f48 := by kernel_rfl
/-! is_parted_answer -/
def N49 : List Str := ["game", "value"]
theorem sc49 : FnScope N49 ["game", "value"] (defScope (top 65)) := ⟨rfl, rfl, rfl, by decide +kernel, rfl, by decide +kernel, by decide +kernel⟩
theorem bd49 : BindP "is_parted_answer" (top 65) ["game", "value"] := fun _ _ _ _ _ _ us hl => match us, hl with | [_, _], _ => rfl
def dd49 : He.DefD := ⟨("is_parted_answer", none), "is_parted_answer", "is_parted_answer", defArgs (top 65), defBody (top 65), defScope (top 65), [], []⟩
theorem bk49 : KwX L0 49 "is_parted_answer" (top 65) ["game", "value"] := fun z => Bool.noConfusion (show false = true from z)
def f49 : CS := (cSeq (cDrop (cCallN 10 1 (cCons (cVar 0) cNil))) (cRet (cCallN 2 2 (cCons (cVar 1) (cCons (cBin gAdd (cTup (cCons (cLit (.str [112,97,114,116,115])) cNil)) (cCallN 47 1 (cCons (cVar 0) cNil))) cNil)))))
theorem cd49 : cmS (al := sh) fns (cm fns 41) ⟨N49, defScope (top 65), defScope (top 65), gl, false, false⟩ 40 (defBody (top 65)) = some f49 := by kernel_rfl
/-! potential_of -/
def N50 : List Str := ["game"]
theorem sc50 : FnScope N50 ["game"] (defScope (top 66)) := ⟨rfl, rfl, rfl, by decide +kernel, rfl, by decide +kernel, by decide +kernel⟩
theorem bd50 : BindP "potential_of" (top 66) ["game"] := fun _ _ _ _ _ _ us hl => match us, hl with | [_], _ => rfl
def dd50 : He.DefD := ⟨("potential_of", none), "potential_of", "potential_of", defArgs (top 66), defBody (top 66), defScope (top 66), [], []⟩
theorem bk50 : KwX L0 50 "potential_of" (top 66) ["game"] := fun z => Bool.noConfusion (show false = true from z)
def f50 : CS := (cSeq (cDrop (cCallN 10 1 (cCons (cVar 0) cNil))) (cRet (cBin gIx (cCallN 47 1 (cCons (cVar 0) cNil)) (cInt (0)))))
theorem cd50 : cmS (al := sh) fns (cm fns 41) ⟨N50, defScope (top 66), defScope (top 66), gl, false, false⟩ 40 (defBody (top 66)) = some f50 := by kernel_rfl
/-! swirl_of -/
def N51 : List Str := ["game"]
theorem sc51 : FnScope N51 ["game"] (defScope (top 67)) := ⟨rfl, rfl, rfl, by decide +kernel, rfl, by decide +kernel, by decide +kernel⟩
theorem bd51 : BindP "swirl_of" (top 67) ["game"] := fun _ _ _ _ _ _ us hl => match us, hl with | [_], _ => rfl
def dd51 : He.DefD := ⟨("swirl_of", none), "swirl_of", "swirl_of", defArgs (top 67), defBody (top 67), defScope (top 67), [], []⟩
theorem bk51 : KwX L0 51 "swirl_of" (top 67) ["game"] := fun z => Bool.noConfusion (show false = true from z)
def f51 : CS := (cSeq (cDrop (cCallN 10 1 (cCons (cVar 0) cNil))) (cRet (cBin gIx (cCallN 47 1 (cCons (cVar 0) cNil)) (cInt (1)))))
theorem cd51 : cmS (al := sh) fns (cm fns 41) ⟨N51, defScope (top 67), defScope (top 67), gl, false, false⟩ 40 (defBody (top 67)) = some f51 := by kernel_rfl
/-! has_swirl -/
def N52 : List Str := ["game", ".0", "table", "top", "bottom"]
theorem sc52 : FnScope N52 ["game"] (defScope (top 68)) := ⟨rfl, rfl, rfl, by decide +kernel, rfl, by decide +kernel, by decide +kernel⟩
theorem bd52 : BindP "has_swirl" (top 68) ["game"] := fun _ _ _ _ _ _ us hl => match us, hl with | [_], _ => rfl
def dd52 : He.DefD := ⟨("has_swirl", none), "has_swirl", "has_swirl", defArgs (top 68), defBody (top 68), defScope (top 68), [], []⟩
theorem bk52 : KwX L0 52 "has_swirl" (top 68) ["game"] := fun _ _ _ _ _ _ _ us hl => match us, hl with | [_], _ => rfl
def f52 : CS := (cSeq (cDrop (cCallN 10 1 (cCons (cVar 0) cNil))) (cRet (cBlt gAny (cCons (cLc (cIter (cBin gIx (cCallN 47 1 (cCons (cVar 0) cNil)) (cInt (1)))) [1,2,3,4] [2,3,4] (cGName 2) cYes (cLvl (cIter (cVar 2)) [3,4] (cGTup 2 (cGCons (cGName 3) (cGCons (cGName 4) cGNil))) cYes (cEmit (cVar 3)))) cNil))))
theorem cd52 : cmS (al := sh) fns (cm fns 41) ⟨N52, defScope (top 68), defScope (top 68), gl, false, false⟩ 40 (defBody (top 68)) = some f52 := by kernel_rfl
/-! plain_steps -/
def N53 : List Str := ["game", "swirl", "found", "k", "play", "i", "size", "told", ".0", "a"]
theorem sc53 : FnScope N53 ["game"] (defScope (top 69)) := ⟨rfl, rfl, rfl, by decide +kernel, rfl, by decide +kernel, by decide +kernel⟩
theorem bd53 : BindP "plain_steps" (top 69) ["game"] := fun _ _ _ _ _ _ us hl => match us, hl with | [_], _ => rfl
def dd53 : He.DefD := ⟨("plain_steps", none), "plain_steps", "plain_steps", defArgs (top 69), defBody (top 69), defScope (top 69), [], []⟩
theorem bk53 : KwX L0 53 "plain_steps" (top 69) ["game"] := fun z => Bool.noConfusion (show false = true from z)
def f53 : CS := (cSeq (cDrop (cCallN 10 1 (cCons (cVar 0) cNil))) (cSeq (cAsg (cTup (cCons (cBin gIx (cCallN 47 1 (cCons (cVar 0) cNil)) (cInt (1))) (cCons (cLst cNil) cNil))) (cGTup 2 (cGCons (cGName 1) (cGCons (cGName 2) cGNil)))) (cSeq (cFor (cRng1 (cCons (cCallN 3 1 (cCons (cBin gIx (cVar 0) (cInt (0))) cNil)) cNil)) (cGName 3) (cSeq (cAsg (cCallN 5 2 (cCons (cBin gIx (cVar 0) (cInt (0))) (cCons (cVar 3) cNil))) (cGName 4)) (cFor (cEnm (cCons (cBin gIx (cVar 0) (cInt (0))) cNil)) (cGTup 2 (cGCons (cGName 5) (cGCons (cGName 6) cGNil))) (cSeq (cAsg (cLc (cRng1 (cCons (cVar 6) cNil)) [8,9] [9] (cGName 9) (cTst (cBin gNe (cVar 9) (cBin gIx (cVar 4) (cVar 5)))) (cEmit (cVar 9))) (cGName 7)) (cAug 2 (cLc (cIter (cVar 7)) [8,9] [9] (cGName 9) (cTst (cBin gEq (cBin gIx (cBin gIx (cVar 1) (cVar 5)) (cCallN 8 4 (cCons (cBin gIx (cVar 0) (cInt (0))) (cCons (cVar 3) (cCons (cVar 5) (cCons (cVar 9) cNil)))))) (cBin gIx (cBin gIx (cVar 1) (cVar 5)) (cVar 3)))) (cEmit (cTup (cCons (cVar 3) (cCons (cVar 5) (cCons (cVar 9) cNil)))))) gIAdd))))) (cRet (cBlt gTupD (cCons (cVar 2) cNil))))))
theorem cd53 : cmS (al := sh) fns (cm fns 41) ⟨N53, defScope (top 69), defScope (top 69), gl, false, false⟩ 40 (defBody (top 69)) = some f53 := by kernel_rfl
/-! _law_pen -/
def N54 : List Str := ["script", "fold", "cell"]
theorem sc54 : FnScope N54 ["script"] (defScope (top 71)) := ⟨rfl, rfl, rfl, by decide +kernel, rfl, by decide +kernel, by decide +kernel⟩
theorem bd54 : BindP "_law_pen" (top 71) ["script"] := fun _ _ _ _ _ _ us hl => match us, hl with | [_], _ => rfl
def dd54 : He.DefD := ⟨("_law_pen", none), "_law_pen", "_law_pen", defArgs (top 71), defBody (top 71), defScope (top 71), [], []⟩
theorem bk54 : KwX L0 54 "_law_pen" (top 71) ["script"] := fun z => Bool.noConfusion (show false = true from z)
theorem cd54 : cmPen fns ⟨N54, defScope (top 71), defScope (top 71), gl, false, false⟩ (defBody (top 71)) = some cPenCode := by kernel_rfl
/-! _law_draw -/
def N55 : List Str := ["pen", "many", "cell", "digit"]
theorem sc55 : FnScope N55 ["pen", "many"] (defScope (top 72)) := ⟨rfl, rfl, rfl, by decide +kernel, rfl, by decide +kernel, by decide +kernel⟩
theorem bd55 : BindP "_law_draw" (top 72) ["pen", "many"] := fun _ _ _ _ _ _ us hl => match us, hl with | [_, _], _ => rfl
def dd55 : He.DefD := ⟨("_law_draw", none), "_law_draw", "_law_draw", defArgs (top 72), defBody (top 72), defScope (top 72), [], []⟩
theorem bk55 : KwX L0 55 "_law_draw" (top 72) ["pen", "many"] := fun z => Bool.noConfusion (show false = true from z)
theorem cd55 : cmS (al := sh) fns (cm fns 41) ⟨N55, defScope (top 72), defScope (top 72), gl, false, false⟩ 40 (defBody (top 72)) = some cDraw := by kernel_rfl
/-! _law_pick -/
def N56 : List Str := ["pen", "some"]
theorem sc56 : FnScope N56 ["pen", "some"] (defScope (top 73)) := ⟨rfl, rfl, rfl, by decide +kernel, rfl, by decide +kernel, by decide +kernel⟩
theorem bd56 : BindP "_law_pick" (top 73) ["pen", "some"] := fun _ _ _ _ _ _ us hl => match us, hl with | [_, _], _ => rfl
def dd56 : He.DefD := ⟨("_law_pick", none), "_law_pick", "_law_pick", defArgs (top 73), defBody (top 73), defScope (top 73), [], []⟩
theorem bk56 : KwX L0 56 "_law_pick" (top 73) ["pen", "some"] := fun z => Bool.noConfusion (show false = true from z)
def f56 : CS := (cRet (cBin gIx (cVar 1) (cCallN 55 2 (cCons (cVar 0) (cCons (cBlt gLen (cCons (cVar 1) cNil)) cNil)))))
theorem cd56 : cmS (al := sh) fns (cm fns 41) ⟨N56, defScope (top 73), defScope (top 73), gl, false, false⟩ 40 (defBody (top 73)) = some f56 := by kernel_rfl
/-! _law_games -/
def N57 : List Str := ["game", "found", "call"]
theorem sc57 : FnScope N57 ["game"] (defScope (top 75)) := ⟨rfl, rfl, rfl, by decide +kernel, rfl, by decide +kernel, by decide +kernel⟩
theorem bd57 : BindP "_law_games" (top 75) ["game"] := fun _ _ _ _ _ _ us hl => match us, hl with | [_], _ => rfl
def dd57 : He.DefD := ⟨("_law_games", none), "_law_games", "_law_games", defArgs (top 75), defBody (top 75), defScope (top 75), [], []⟩
theorem bk57 : KwX L0 57 "_law_games" (top 75) ["game"] := fun z => Bool.noConfusion (show false = true from z)
def f57 : CS := (cSeq (cAsg (cLst cNil) (cGName 1)) (cSeq (cFor (cIter (cLst (cCons (cLit (.fn 52)) (cCons (cLit (.fn 48)) (cCons (cLit (.fn 53)) (cCons (cLit (.fn 50)) (cCons (cLit (.fn 51)) (cCons (cLit (.fn 36)) (cCons (cLit (.fn 32)) cNil))))))))) (cGName 2) (cDrop (cMeth isLstT gAppend (cVar 1) (cCons (cTold 3 [⟨1, [66,97,100,71,97,109,101], [2]⟩, ⟨0, [66,97,100,78,117,109,98,101,114], [0,1]⟩, ⟨2, [66,97,100,83,104,97,114,101,100], [3]⟩] (cCallV 2 [1,1,2,1,1,2,2,3,4,1,1,4,2,2,1,1,2,2,2,1,2,1,2,1,3,1,2,2,1,2,2,2,1,3,3,2,1,2,2,2,4,3,3,1,1,1,1,1,1,2,1,1,1,1,1,2,2,1,1] (cCons (cVar 0) cNil))) cNil)))) (cSeq (cDrop (cMeth isLstT gAppend (cVar 1) (cCons (cTold 3 [⟨1, [66,97,100,71,97,109,101], [2]⟩, ⟨0, [66,97,100,78,117,109,98,101,114], [0,1]⟩, ⟨2, [66,97,100,83,104,97,114,101,100], [3]⟩] (cCallN 49 2 (cCons (cVar 0) (cCons (cLit .non) cNil)))) cNil))) (cRet (cBin gAdd (cVar 1) (cLst (cCons (cTold 3 [⟨1, [66,97,100,71,97,109,101], [2]⟩, ⟨0, [66,97,100,78,117,109,98,101,114], [0,1]⟩, ⟨2, [66,97,100,83,104,97,114,101,100], [3]⟩] (cCallN 35 2 (cCons (cVar 0) (cCons (cLit .non) cNil)))) cNil)))))))
theorem cd57 : cmS (al := sh) fns (cm fns 41) ⟨N57, defScope (top 75), defScope (top 75), gl, true, false⟩ 40 (defBody (top 75)) = some f57 := by kernel_rfl
/-! law -/
def N58 : List Str := ["script", "pen", "row", "good", "wrong", "worths", "lots", "met", "told", "fine", "odd"]
theorem sc58 : FnScope N58 ["script"] (defScope (top 76)) := ⟨rfl, rfl, rfl, by decide +kernel, rfl, by decide +kernel, by decide +kernel⟩
theorem bd58 : BindP "law" (top 76) ["script"] := fun _ _ _ _ _ _ us hl => match us, hl with | [_], _ => rfl
def dd58 : He.DefD := ⟨("law", none), "law", "law", defArgs (top 76), defBody (top 76), defScope (top 76), [], []⟩
theorem bk58 : KwX L0 58 "law" (top 76) ["script"] := fun z => Bool.noConfusion (show false = true from z)
def f58 : CS := (cSeq (cPar 1 2 (cCons (cCallN 54 1 (cCons (cVar 0) cNil)) (cCons (cTup (cCons (cInt (0)) (cCons (cInt (1)) (cCons (cInt (2)) (cCons (cInt (3)) cNil))))) cNil))) (cSeq (cAsg (cTup (cCons (cTup (cCons (cInt (2)) (cCons (cInt (2)) cNil))) (cCons (cTup (cCons (cVar 2) (cCons (cVar 2) cNil))) cNil))) (cGName 3)) (cSeq (cAsg (cLst (cCons (cLit .non) (cCons (cInt (3)) (cCons (cBlt gLstOf (cCons (cVar 3) cNil)) (cCons (cSl (cVar 3) cNo (cPart (cInt (1)))) (cCons (cTup (cCons (cTup (cCons (cInt (2)) cNil)) (cCons (cTup (cCons (cSl (cVar 2) cNo (cPart (cInt (2)))) cNil)) cNil))) (cCons (cTup (cCons (cTup (cCons (cInt (2)) (cCons (cInt (1)) cNil))) (cCons (cBin gMul (cTup (cCons (cSl (cVar 2) cNo (cPart (cInt (2)))) cNil)) (cInt (2))) cNil))) (cCons (cTup (cCons (cTup (cCons (cInt (2)) (cCons (cInt (2)) cNil))) (cCons (cTup (cCons (cVar 2) cNil)) cNil))) cNil)))))))) (cGName 4)) (cSeq (cAsg (cBin gAdd (cVar 4) (cLst (cCons (cTup (cCons (cTup (cCons (cInt (2)) (cCons (cInt (2)) cNil))) (cCons (cTup (cCons (cVar 2) (cCons (cSl (cVar 2) cNo (cPart (cInt (3)))) cNil))) cNil))) (cCons (cTup (cCons (cTup (cCons (cInt (2)) (cCons (cInt (2)) cNil))) (cCons (cTup (cCons (cVar 2) (cCons (cBin gAdd (cVar 2) (cTup (cCons (cInt (4)) cNil))) cNil))) cNil))) (cCons (cTup (cCons (cTup (cCons (cInt (2)) (cCons (cInt (2)) cNil))) (cCons (cLst (cCons (cVar 2) (cCons (cVar 2) cNil))) cNil))) cNil))))) (cGName 4)) (cSeq (cAsg (cBin gAdd (cVar 4) (cLst (cCons (cTup (cCons (cTup (cCons (cInt (2)) (cCons (cInt (2)) cNil))) (cCons (cTup (cCons (cVar 2) (cCons (cBlt gLstOf (cCons (cVar 2) cNil)) cNil))) cNil))) (cCons (cTup (cCons (cTup (cCons (cInt (2)) (cCons (cInt (2)) cNil))) (cCons (cTup (cCons (cVar 2) (cCons (cTup (cCons (cInt (0)) (cCons (cInt (1)) (cCons (cInt (2)) (cCons (cLit (.bl true)) cNil))))) cNil))) cNil))) (cCons (cTup (cCons (cTup (cCons (cInt (2)) (cCons (cInt (5)) cNil))) (cCons (cTup (cCons (cVar 2) (cCons (cVar 2) cNil))) cNil))) cNil))))) (cGName 4)) (cSeq (cAsg (cBin gAdd (cVar 4) (cLst (cCons (cTup (cCons (cLst (cCons (cInt (2)) (cCons (cInt (2)) cNil))) (cCons (cTup (cCons (cVar 2) (cCons (cVar 2) cNil))) cNil))) (cCons (cTup (cCons (cTup (cCons (cInt (2)) (cCons (cInt (2)) (cCons (cInt (2)) (cCons (cInt (2)) (cCons (cInt (2)) cNil)))))) (cCons (cTup cNil) cNil))) cNil)))) (cGName 4)) (cSeq (cFor (cIter (cBin gAdd (cVar 4) (cLst (cCons (cTup (cCons (cTup (cCons (cInt (4)) (cCons (cInt (4)) (cCons (cInt (4)) (cCons (cInt (4)) cNil))))) (cCons (cTup cNil) cNil))) (cCons (cTup (cCons (cTup (cCons (cInt (2)) (cCons (cInt (2)) cNil))) (cCons (cTup (cCons (cVar 2) (cCons (cTup (cCons (cInt (0)) (cCons (cInt (1)) (cCons (cInt (2)) (cCons (cLit (.str [51])) cNil))))) cNil))) cNil))) (cCons (cBin gAdd (cVar 3) (cTup (cCons (cInt (1)) cNil))) (cCons (cTup (cCons (cTup (cCons (cInt (2)) (cCons (cInt (2)) cNil))) (cCons (cTup (cCons (cVar 2) (cCons (cVar 2) (cCons (cVar 2) cNil)))) cNil))) cNil))))))) (cGName 10) (cIfS (cTst (cBin gNe (cBlt gRepr (cCons (cCallN 57 1 (cCons (cVar 10) cNil)) cNil)) (cBlt gRepr (cCons (cBin gMul (cLst (cCons (cTup (cCons (cLit (.str [66,97,100,71,97,109,101])) (cCons (cVar 10) cNil))) cNil)) (cInt (9))) cNil)))) (cRet (cLit (.bl false))) cNext)) (cSeq (cAsg (cTup (cCons (cTup (cCons (cTup (cCons (cInt (1)) (cCons (cInt (2)) cNil))) cNil)) (cCons (cTup (cCons (cTup (cCons (cTup (cCons (cInt (0)) cNil)) (cCons (cTup cNil) cNil))) (cCons (cTup (cCons (cTup cNil) (cCons (cTup (cCons (cInt (0)) cNil)) cNil))) cNil))) cNil))) (cGTup 2 (cGCons (cGName 5) (cGCons (cGName 6) cGNil)))) (cSeq (cAsg (cTup (cCons (cVar 5) (cCons (cVar 6) cNil))) (cGName 9)) (cSeq (cAsg (cLst (cCons (cLit .non) (cCons (cInt (3)) (cCons (cBlt gLstOf (cCons (cVar 9) cNil)) (cCons (cSl (cVar 9) cNo (cPart (cInt (1)))) (cCons (cTup (cCons (cTup cNil) (cCons (cVar 6) cNil))) (cCons (cTup (cCons (cTup (cCons (cTup (cCons (cInt (1)) cNil)) cNil)) (cCons (cVar 6) cNil))) (cCons (cTup (cCons (cTup (cCons (cTup (cCons (cInt (1)) (cCons (cInt (2)) (cCons (cInt (3)) cNil)))) cNil)) (cCons (cVar 6) cNil))) (cCons (cTup (cCons (cTup (cCons (cTup (cCons (cInt (1)) (cCons (cInt (100)) cNil))) cNil)) (cCons (cVar 6) cNil))) cNil))))))))) (cGName 4)) (cSeq (cAsg (cBin gAdd (cVar 4) (cLst (cCons (cTup (cCons (cTup (cCons (cTup (cCons (cInt (1)) (cCons (cLit (.bl true)) cNil))) cNil)) (cCons (cVar 6) cNil))) (cCons (cTup (cCons (cBin gMul (cVar 5) (cInt (13))) (cCons (cVar 6) cNil))) (cCons (cTup (cCons (cVar 5) (cCons (cSl (cVar 6) cNo (cPart (cInt (1)))) cNil))) (cCons (cTup (cCons (cVar 5) (cCons (cTup (cCons (cTup (cCons (cTup (cCons (cInt (1)) cNil)) (cCons (cTup cNil) cNil))) (cCons (cTup (cCons (cTup cNil) (cCons (cTup (cCons (cInt (0)) cNil)) cNil))) cNil))) cNil))) cNil)))))) (cGName 4)) (cSeq (cAsg (cBin gAdd (cVar 4) (cLst (cCons (cTup (cCons (cVar 5) (cCons (cTup (cCons (cTup (cCons (cTup (cCons (cInt (0)) (cCons (cInt (0)) cNil))) (cCons (cTup cNil) cNil))) (cCons (cTup (cCons (cTup cNil) (cCons (cTup (cCons (cInt (0)) cNil)) cNil))) cNil))) cNil))) (cCons (cTup (cCons (cVar 5) (cCons (cTup (cCons (cTup (cCons (cTup (cCons (cInt (0)) cNil)) cNil)) (cCons (cTup (cCons (cTup cNil) (cCons (cTup (cCons (cInt (0)) cNil)) cNil))) cNil))) cNil))) cNil)))) (cGName 4)) (cSeq (cDrop (cMeth isLstT gAppend (cVar 4) (cCons (cTup (cCons (cVar 5) (cCons (cTup (cCons (cLst (cCons (cTup (cCons (cInt (0)) cNil)) (cCons (cTup cNil) cNil))) (cCons (cBin gIx (cVar 6) (cInt (1))) cNil))) cNil))) cNil))) (cSeq (cFor (cIter (cBin gAdd (cVar 4) (cLst (cCons (cTup (cCons (cLst (cCons (cTup (cCons (cInt (1)) (cCons (cInt (2)) cNil))) cNil)) (cCons (cVar 6) cNil))) (cCons (cTup (cCons (cVar 5) (cCons (cVar 6) (cCons (cTup cNil) cNil)))) (cCons (cTup (cCons (cVar 5) (cCons (cLit .non) cNil))) cNil)))))) (cGName 10) (cSeq (cAsg (cLst (cCons (cTold 3 [⟨1, [66,97,100,71,97,109,101], [2]⟩, ⟨0, [66,97,100,78,117,109,98,101,114], [0,1]⟩, ⟨2, [66,97,100,83,104,97,114,101,100], [3]⟩] (cCallN 28 1 (cCons (cVar 10) cNil))) (cCons (cLit .non) cNil))) (cGName 7)) (cSeq (cAsg (cTold 3 [⟨1, [66,97,100,71,97,109,101], [2]⟩, ⟨0, [66,97,100,78,117,109,98,101,114], [0,1]⟩, ⟨2, [66,97,100,83,104,97,114,101,100], [3]⟩] (cCallN 37 2 (cCons (cVar 10) (cCons (cLit .non) cNil)))) (cGSub (cVar 7) (cInt (1)))) (cIfS (cTst (cBin gNe (cBlt gRepr (cCons (cVar 7) cNil)) (cBlt gRepr (cCons (cBin gMul (cLst (cCons (cTup (cCons (cLit (.str [66,97,100,83,104,97,114,101,100])) (cCons (cVar 10) cNil))) cNil)) (cInt (2))) cNil)))) (cRet (cLit (.bl false))) cNext)))) (cSeq (cFor (cIter (cLst (cCons (cLit .non) (cCons (cNeg (cInt (1))) (cCons (cInt (4)) (cCons (cLit (.bl true)) (cCons (cLit (.str [48])) cNil))))))) (cGName 10) (cIfS (cTst (cBin gNe (cBlt gRepr (cCons (cTold 3 [⟨1, [66,97,100,71,97,109,101], [2]⟩, ⟨0, [66,97,100,78,117,109,98,101,114], [0,1]⟩, ⟨2, [66,97,100,83,104,97,114,101,100], [3]⟩] (cCallN 37 2 (cCons (cVar 9) (cCons (cVar 10) cNil)))) cNil)) (cBlt gRepr (cCons (cTup (cCons (cLit (.str [66,97,100,78,117,109,98,101,114])) (cCons (cLit (.str [107])) (cCons (cVar 10) cNil)))) cNil)))) (cRet (cLit (.bl false))) cNext)) (cSeq (cAsg (cLst (cCons (cCallN 37 2 (cCons (cVar 9) (cCons (cInt (1)) cNil))) (cCons (cCallN 28 1 (cCons (cVar 9) cNil)) (cCons (cCallN 52 1 (cCons (cVar 3) cNil)) cNil)))) (cGName 8)) (cRet (cAndV (cBin gEq (cSl (cVar 8) cNo (cPart (cInt (2)))) (cLst (cCons (cTup (cCons (cInt (2)) cNil)) (cCons (cTup (cCons (cInt (1)) (cCons (cInt (3)) (cCons (cInt (0)) (cCons (cInt (1)) cNil))))) cNil)))) (cAndV (cBin gIs (cBin gIx (cVar 8) (cInt (2))) (cLit (.bl false))) (cBin gEq (cCallN 55 2 (cCons (cVar 1) (cCons (cInt (1)) cNil))) (cInt (0))))))))))))))))))))))
theorem cd58 : cmS (al := sh) fns (cm fns 41) ⟨N58, defScope (top 76), defScope (top 76), gl, true, true⟩ 40 (defBody (top 76)) = some f58 := by kernel_rfl
def fs : List Fun := [.code 0 f0, .code 0 f1, .code 4 f2, .code 2 f3, .code 2 f4, .code 2 f5, .code 3 f6, .code 0 f7, .code 1 f8, .code 5 f9, .code 0 f10, .code 0 f11, .code 4 f12, .code 3 f13, .code 5 f14, .code 0 f15, .code 4 f16, .code 11 f17, .code 8 f18, .code 8 f19, .code 11 f20, .orc fun _ _ _ _ => false, .code 7 f22, .code 0 f23, .code 0 f24, .code 1 f25, .code 0 f26, .code 0 f27, .code 10 f28, .code 3 f29, .code 6 f30, .code 14 f31, .code 1 f32, .code 5 f33, .code 0 f34, .code 0 f35, .code 0 f36, .code 7 f37, .code 1 f38, .code 3 f39, .code 6 f40, .code 4 f41, .code 0 f42, .code 5 f43, .code 10 f44, .code 10 f45, .code 2 f46, .code 8 f47, .code 0 f48, .code 0 f49, .code 0 f50, .code 0 f51, .code 4 f52, .code 9 f53, .orc orcPen, .orc orcDraw, .code 0 f56, .code 2 f57, .orc fun _ _ _ _ => false]
def fsL : List Fun := [.code 0 f0, .code 0 f1, .code 4 f2, .code 2 f3, .code 2 f4, .code 2 f5, .code 3 f6, .code 0 f7, .code 1 f8, .code 5 f9, .code 0 f10, .code 0 f11, .code 4 f12, .code 3 f13, .code 5 f14, .code 0 f15, .code 4 f16, .code 11 f17, .code 8 f18, .code 8 f19, .code 11 f20, .orc fun _ _ _ _ => false, .code 7 f22, .code 0 f23, .code 0 f24, .code 1 f25, .code 0 f26, .code 0 f27, .code 10 f28, .code 3 f29, .code 6 f30, .code 14 f31, .code 1 f32, .code 5 f33, .code 0 f34, .code 0 f35, .code 0 f36, .code 7 f37, .code 1 f38, .code 3 f39, .code 6 f40, .code 4 f41, .code 0 f42, .code 5 f43, .code 10 f44, .code 10 f45, .code 2 f46, .code 8 f47, .code 0 f48, .code 0 f49, .code 0 f50, .code 0 f51, .code 4 f52, .code 9 f53, .orc orcPen, .orc orcDraw, .code 0 f56, .code 2 f57, .orc fun _ _ _ _ => false]
/-- the calls below the law's own -/
def evD : Ev := evN fs 12
/-! the known defs, at each argument -/
/-! the law's run -/
def R2 : CA := (cCons (cTup (cCons (cInt (0)) (cCons (cInt (1)) (cCons (cInt (2)) (cCons (cInt (3)) cNil))))) cNil)
def restL : CS := (cSeq (cAsg (cTup (cCons (cTup (cCons (cInt (2)) (cCons (cInt (2)) cNil))) (cCons (cTup (cCons (cVar 2) (cCons (cVar 2) cNil))) cNil))) (cGName 3)) (cSeq (cAsg (cLst (cCons (cLit .non) (cCons (cInt (3)) (cCons (cBlt gLstOf (cCons (cVar 3) cNil)) (cCons (cSl (cVar 3) cNo (cPart (cInt (1)))) (cCons (cTup (cCons (cTup (cCons (cInt (2)) cNil)) (cCons (cTup (cCons (cSl (cVar 2) cNo (cPart (cInt (2)))) cNil)) cNil))) (cCons (cTup (cCons (cTup (cCons (cInt (2)) (cCons (cInt (1)) cNil))) (cCons (cBin gMul (cTup (cCons (cSl (cVar 2) cNo (cPart (cInt (2)))) cNil)) (cInt (2))) cNil))) (cCons (cTup (cCons (cTup (cCons (cInt (2)) (cCons (cInt (2)) cNil))) (cCons (cTup (cCons (cVar 2) cNil)) cNil))) cNil)))))))) (cGName 4)) (cSeq (cAsg (cBin gAdd (cVar 4) (cLst (cCons (cTup (cCons (cTup (cCons (cInt (2)) (cCons (cInt (2)) cNil))) (cCons (cTup (cCons (cVar 2) (cCons (cSl (cVar 2) cNo (cPart (cInt (3)))) cNil))) cNil))) (cCons (cTup (cCons (cTup (cCons (cInt (2)) (cCons (cInt (2)) cNil))) (cCons (cTup (cCons (cVar 2) (cCons (cBin gAdd (cVar 2) (cTup (cCons (cInt (4)) cNil))) cNil))) cNil))) (cCons (cTup (cCons (cTup (cCons (cInt (2)) (cCons (cInt (2)) cNil))) (cCons (cLst (cCons (cVar 2) (cCons (cVar 2) cNil))) cNil))) cNil))))) (cGName 4)) (cSeq (cAsg (cBin gAdd (cVar 4) (cLst (cCons (cTup (cCons (cTup (cCons (cInt (2)) (cCons (cInt (2)) cNil))) (cCons (cTup (cCons (cVar 2) (cCons (cBlt gLstOf (cCons (cVar 2) cNil)) cNil))) cNil))) (cCons (cTup (cCons (cTup (cCons (cInt (2)) (cCons (cInt (2)) cNil))) (cCons (cTup (cCons (cVar 2) (cCons (cTup (cCons (cInt (0)) (cCons (cInt (1)) (cCons (cInt (2)) (cCons (cLit (.bl true)) cNil))))) cNil))) cNil))) (cCons (cTup (cCons (cTup (cCons (cInt (2)) (cCons (cInt (5)) cNil))) (cCons (cTup (cCons (cVar 2) (cCons (cVar 2) cNil))) cNil))) cNil))))) (cGName 4)) (cSeq (cAsg (cBin gAdd (cVar 4) (cLst (cCons (cTup (cCons (cLst (cCons (cInt (2)) (cCons (cInt (2)) cNil))) (cCons (cTup (cCons (cVar 2) (cCons (cVar 2) cNil))) cNil))) (cCons (cTup (cCons (cTup (cCons (cInt (2)) (cCons (cInt (2)) (cCons (cInt (2)) (cCons (cInt (2)) (cCons (cInt (2)) cNil)))))) (cCons (cTup cNil) cNil))) cNil)))) (cGName 4)) (cSeq (cFor (cIter (cBin gAdd (cVar 4) (cLst (cCons (cTup (cCons (cTup (cCons (cInt (4)) (cCons (cInt (4)) (cCons (cInt (4)) (cCons (cInt (4)) cNil))))) (cCons (cTup cNil) cNil))) (cCons (cTup (cCons (cTup (cCons (cInt (2)) (cCons (cInt (2)) cNil))) (cCons (cTup (cCons (cVar 2) (cCons (cTup (cCons (cInt (0)) (cCons (cInt (1)) (cCons (cInt (2)) (cCons (cLit (.str [51])) cNil))))) cNil))) cNil))) (cCons (cBin gAdd (cVar 3) (cTup (cCons (cInt (1)) cNil))) (cCons (cTup (cCons (cTup (cCons (cInt (2)) (cCons (cInt (2)) cNil))) (cCons (cTup (cCons (cVar 2) (cCons (cVar 2) (cCons (cVar 2) cNil)))) cNil))) cNil))))))) (cGName 10) (cIfS (cTst (cBin gNe (cBlt gRepr (cCons (cCallN 57 1 (cCons (cVar 10) cNil)) cNil)) (cBlt gRepr (cCons (cBin gMul (cLst (cCons (cTup (cCons (cLit (.str [66,97,100,71,97,109,101])) (cCons (cVar 10) cNil))) cNil)) (cInt (9))) cNil)))) (cRet (cLit (.bl false))) cNext)) (cSeq (cAsg (cTup (cCons (cTup (cCons (cTup (cCons (cInt (1)) (cCons (cInt (2)) cNil))) cNil)) (cCons (cTup (cCons (cTup (cCons (cTup (cCons (cInt (0)) cNil)) (cCons (cTup cNil) cNil))) (cCons (cTup (cCons (cTup cNil) (cCons (cTup (cCons (cInt (0)) cNil)) cNil))) cNil))) cNil))) (cGTup 2 (cGCons (cGName 5) (cGCons (cGName 6) cGNil)))) (cSeq (cAsg (cTup (cCons (cVar 5) (cCons (cVar 6) cNil))) (cGName 9)) (cSeq (cAsg (cLst (cCons (cLit .non) (cCons (cInt (3)) (cCons (cBlt gLstOf (cCons (cVar 9) cNil)) (cCons (cSl (cVar 9) cNo (cPart (cInt (1)))) (cCons (cTup (cCons (cTup cNil) (cCons (cVar 6) cNil))) (cCons (cTup (cCons (cTup (cCons (cTup (cCons (cInt (1)) cNil)) cNil)) (cCons (cVar 6) cNil))) (cCons (cTup (cCons (cTup (cCons (cTup (cCons (cInt (1)) (cCons (cInt (2)) (cCons (cInt (3)) cNil)))) cNil)) (cCons (cVar 6) cNil))) (cCons (cTup (cCons (cTup (cCons (cTup (cCons (cInt (1)) (cCons (cInt (100)) cNil))) cNil)) (cCons (cVar 6) cNil))) cNil))))))))) (cGName 4)) (cSeq (cAsg (cBin gAdd (cVar 4) (cLst (cCons (cTup (cCons (cTup (cCons (cTup (cCons (cInt (1)) (cCons (cLit (.bl true)) cNil))) cNil)) (cCons (cVar 6) cNil))) (cCons (cTup (cCons (cBin gMul (cVar 5) (cInt (13))) (cCons (cVar 6) cNil))) (cCons (cTup (cCons (cVar 5) (cCons (cSl (cVar 6) cNo (cPart (cInt (1)))) cNil))) (cCons (cTup (cCons (cVar 5) (cCons (cTup (cCons (cTup (cCons (cTup (cCons (cInt (1)) cNil)) (cCons (cTup cNil) cNil))) (cCons (cTup (cCons (cTup cNil) (cCons (cTup (cCons (cInt (0)) cNil)) cNil))) cNil))) cNil))) cNil)))))) (cGName 4)) (cSeq (cAsg (cBin gAdd (cVar 4) (cLst (cCons (cTup (cCons (cVar 5) (cCons (cTup (cCons (cTup (cCons (cTup (cCons (cInt (0)) (cCons (cInt (0)) cNil))) (cCons (cTup cNil) cNil))) (cCons (cTup (cCons (cTup cNil) (cCons (cTup (cCons (cInt (0)) cNil)) cNil))) cNil))) cNil))) (cCons (cTup (cCons (cVar 5) (cCons (cTup (cCons (cTup (cCons (cTup (cCons (cInt (0)) cNil)) cNil)) (cCons (cTup (cCons (cTup cNil) (cCons (cTup (cCons (cInt (0)) cNil)) cNil))) cNil))) cNil))) cNil)))) (cGName 4)) (cSeq (cDrop (cMeth isLstT gAppend (cVar 4) (cCons (cTup (cCons (cVar 5) (cCons (cTup (cCons (cLst (cCons (cTup (cCons (cInt (0)) cNil)) (cCons (cTup cNil) cNil))) (cCons (cBin gIx (cVar 6) (cInt (1))) cNil))) cNil))) cNil))) (cSeq (cFor (cIter (cBin gAdd (cVar 4) (cLst (cCons (cTup (cCons (cLst (cCons (cTup (cCons (cInt (1)) (cCons (cInt (2)) cNil))) cNil)) (cCons (cVar 6) cNil))) (cCons (cTup (cCons (cVar 5) (cCons (cVar 6) (cCons (cTup cNil) cNil)))) (cCons (cTup (cCons (cVar 5) (cCons (cLit .non) cNil))) cNil)))))) (cGName 10) (cSeq (cAsg (cLst (cCons (cTold 3 [⟨1, [66,97,100,71,97,109,101], [2]⟩, ⟨0, [66,97,100,78,117,109,98,101,114], [0,1]⟩, ⟨2, [66,97,100,83,104,97,114,101,100], [3]⟩] (cCallN 28 1 (cCons (cVar 10) cNil))) (cCons (cLit .non) cNil))) (cGName 7)) (cSeq (cAsg (cTold 3 [⟨1, [66,97,100,71,97,109,101], [2]⟩, ⟨0, [66,97,100,78,117,109,98,101,114], [0,1]⟩, ⟨2, [66,97,100,83,104,97,114,101,100], [3]⟩] (cCallN 37 2 (cCons (cVar 10) (cCons (cLit .non) cNil)))) (cGSub (cVar 7) (cInt (1)))) (cIfS (cTst (cBin gNe (cBlt gRepr (cCons (cVar 7) cNil)) (cBlt gRepr (cCons (cBin gMul (cLst (cCons (cTup (cCons (cLit (.str [66,97,100,83,104,97,114,101,100])) (cCons (cVar 10) cNil))) cNil)) (cInt (2))) cNil)))) (cRet (cLit (.bl false))) cNext)))) (cSeq (cFor (cIter (cLst (cCons (cLit .non) (cCons (cNeg (cInt (1))) (cCons (cInt (4)) (cCons (cLit (.bl true)) (cCons (cLit (.str [48])) cNil))))))) (cGName 10) (cIfS (cTst (cBin gNe (cBlt gRepr (cCons (cTold 3 [⟨1, [66,97,100,71,97,109,101], [2]⟩, ⟨0, [66,97,100,78,117,109,98,101,114], [0,1]⟩, ⟨2, [66,97,100,83,104,97,114,101,100], [3]⟩] (cCallN 37 2 (cCons (cVar 9) (cCons (cVar 10) cNil)))) cNil)) (cBlt gRepr (cCons (cTup (cCons (cLit (.str [66,97,100,78,117,109,98,101,114])) (cCons (cLit (.str [107])) (cCons (cVar 10) cNil)))) cNil)))) (cRet (cLit (.bl false))) cNext)) (cSeq (cAsg (cLst (cCons (cCallN 37 2 (cCons (cVar 9) (cCons (cInt (1)) cNil))) (cCons (cCallN 28 1 (cCons (cVar 9) cNil)) (cCons (cCallN 52 1 (cCons (cVar 3) cNil)) cNil)))) (cGName 8)) (cRet (cAndV (cBin gEq (cSl (cVar 8) cNo (cPart (cInt (2)))) (cLst (cCons (cTup (cCons (cInt (2)) cNil)) (cCons (cTup (cCons (cInt (1)) (cCons (cInt (3)) (cCons (cInt (0)) (cCons (cInt (1)) cNil))))) cNil)))) (cAndV (cBin gIs (cBin gIx (cVar 8) (cInt (2))) (cLit (.bl false))) (cBin gEq (cCallN 55 2 (cCons (cVar 1) (cCons (cInt (1)) cNil))) (cInt (0)))))))))))))))))))))
theorem seq2 : f58 = lawSeq2 54 1 2 R2 restL := rfl
theorem run2 (ns : List Int) : unds 10 (fun us => R2 (stp fsL evD) (.lv (ns.map D.int) :: us) M1 (fun xs M => arg2 (.loc 0 :: xs) fun x y => setK (.lv (ns.map D.int) :: us) 1 x fun σ => setK σ 2 y fun σ => restL (stp fsL evD) σ M ksB kx0) kx0) = true := by kernel_rfl
theorem runL (ns : List Int) (hz : ns.length ≤ 63) : (Fun.code 10 f58).run (stp fsL evD) [.lv (ns.map D.int)] M0 kB kx0 = true := law_run2 (ip := 54) (nl := 10) (r := R2) (rest := restL) rfl hz (run2 ns)
/-! own errors -/
abbrev ini0 : Stmt := initAt 0 (top 3)
theorem scE0 : FnScope ["self", "what", "number"] ["self", "what", "number"] (defScope ini0) := ⟨rfl, rfl, rfl, by decide +kernel, rfl, by decide +kernel, by decide +kernel⟩
theorem bdE0 : BindPI "BadNumber.__init__" ini0 ["self", "what", "number"] := fun _ _ _ _ _ _ us hl => match us, hl with | [_, _, _], _ => rfl
def ddE0 : He.DefD := ⟨("BadNumber", some "__init__"), "__init__", "BadNumber.__init__", defArgs ini0, defBody ini0, defScope ini0, [], []⟩
abbrev ini1 : Stmt := initAt 0 (top 4)
theorem scE1 : FnScope ["self", "game"] ["self", "game"] (defScope ini1) := ⟨rfl, rfl, rfl, by decide +kernel, rfl, by decide +kernel, by decide +kernel⟩
theorem bdE1 : BindPI "BadGame.__init__" ini1 ["self", "game"] := fun _ _ _ _ _ _ us hl => match us, hl with | [_, _], _ => rfl
def ddE1 : He.DefD := ⟨("BadGame", some "__init__"), "__init__", "BadGame.__init__", defArgs ini1, defBody ini1, defScope ini1, [], []⟩
abbrev ini2 : Stmt := initAt 0 (top 5)
theorem scE2 : FnScope ["self", "shared"] ["self", "shared"] (defScope ini2) := ⟨rfl, rfl, rfl, by decide +kernel, rfl, by decide +kernel, by decide +kernel⟩
theorem bdE2 : BindPI "BadShared.__init__" ini2 ["self", "shared"] := fun _ _ _ _ _ _ us hl => match us, hl with | [_, _], _ => rfl
def ddE2 : He.DefD := ⟨("BadShared", some "__init__"), "__init__", "BadShared.__init__", defArgs ini2, defBody ini2, defScope ini2, [], []⟩
def ddT0 : He.DefD := ⟨("_law_told_error", none), "_law_told_error", "_law_told_error", defArgs (top 74), defBody (top 74), defScope (top 74), [], []⟩
theorem scT0 : FnScope ["call", "e"] ["call"] (defScope (top 74)) := ⟨rfl, rfl, rfl, by decide +kernel, rfl, by decide +kernel, by decide +kernel⟩
theorem bdT0 : BindP "_law_told_error" (top 74) ["call"] := fun _ _ _ _ _ _ us hl => match us, hl with | [_], _ => rfl
/-! the head's facts -/
def fn : List He.DefD := [dd0, dd1, dd2, dd3, dd4, dd5, dd6, dd7, dd8, dd9, dd10, dd11, dd12, dd13, dd14, dd15, dd16, dd17, dd18, dd19, dd20, dd21, dd22, dd23, dd24, dd25, dd26, dd27, dd28, dd29, dd30, dd31, dd32, dd33, dd34, dd35, dd36, dd37, dd38, dd39, dd40, dd41, dd42, dd43, dd44, dd45, dd46, dd47, dd48, dd49, dd50, dd51, dd52, dd53, dd54, dd55, dd56, dd57, dd58, ddE0, ddE1, ddE2, ddT0]
def fa : List He.Fa := lawFa L0 frs
def tfD : List He.Defn := L0.tf.map fun x => (x, none)
abbrev exL : PySem.W.Frag → Bool := fun K => lawEx vals true K && (clsB K excs && tabU K L0)
theorem F0 {K : PySem.W.Frag} (c : He.SaysD fa fn K) : FnX K L0 0 "is_whole" (top 6) := c.def_ 0 (d := dd0) rfl
theorem F1 {K : PySem.W.Frag} (c : He.SaysD fa fn K) : FnX K L0 1 "is_count" (top 7) := c.def_ 1 (d := dd1) rfl
theorem F2 {K : PySem.W.Frag} (c : He.SaysD fa fn K) : FnX K L0 2 "just_as" (top 8) := c.def_ 2 (d := dd2) rfl
theorem F3 {K : PySem.W.Frag} (c : He.SaysD fa fn K) : FnX K L0 3 "many_in" (top 13) := c.def_ 3 (d := dd3) rfl
theorem F4 {K : PySem.W.Frag} (c : He.SaysD fa fn K) : FnX K L0 4 "is_sizes_in" (top 14) := c.def_ 4 (d := dd4) rfl
theorem F5 {K : PySem.W.Frag} (c : He.SaysD fa fn K) : FnX K L0 5 "play_in" (top 15) := c.def_ 5 (d := dd5) rfl
theorem F6 {K : PySem.W.Frag} (c : He.SaysD fa fn K) : FnX K L0 6 "number_in" (top 16) := c.def_ 6 (d := dd6) rfl
theorem F7 {K : PySem.W.Frag} (c : He.SaysD fa fn K) : FnX K L0 7 "need_number" (top 17) := c.def_ 7 (d := dd7) rfl
theorem F8 {K : PySem.W.Frag} (c : He.SaysD fa fn K) : FnX K L0 8 "changed_in" (top 18) := c.def_ 8 (d := dd8) rfl
theorem F9 {K : PySem.W.Frag} (c : He.SaysD fa fn K) : FnX K L0 9 "is_game_in" (top 19) := c.def_ 9 (d := dd9) rfl
theorem F10 {K : PySem.W.Frag} (c : He.SaysD fa fn K) : FnX K L0 10 "need_game" (top 20) := c.def_ 10 (d := dd10) rfl
theorem F11 {K : PySem.W.Frag} (c : He.SaysD fa fn K) : FnX K L0 11 "gain_in" (top 21) := c.def_ 11 (d := dd11) rfl
theorem F12 {K : PySem.W.Frag} (c : He.SaysD fa fn K) : FnX K L0 12 "is_lot" (top 22) := c.def_ 12 (d := dd12) rfl
theorem F13 {K : PySem.W.Frag} (c : He.SaysD fa fn K) : FnX K L0 13 "are_worths" (top 23) := c.def_ 13 (d := dd13) rfl
theorem F14 {K : PySem.W.Frag} (c : He.SaysD fa fn K) : FnX K L0 14 "is_shared_in" (top 24) := c.def_ 14 (d := dd14) rfl
theorem F15 {K : PySem.W.Frag} (c : He.SaysD fa fn K) : FnX K L0 15 "need_shared" (top 25) := c.def_ 15 (d := dd15) rfl
theorem F16 {K : PySem.W.Frag} (c : He.SaysD fa fn K) : FnX K L0 16 "users_in" (top 26) := c.def_ 16 (d := dd16) rfl
theorem F17 {K : PySem.W.Frag} (c : He.SaysD fa fn K) : FnX K L0 17 "game_in" (top 27) := c.def_ 17 (d := dd17) rfl
theorem F18 {K : PySem.W.Frag} (c : He.SaysD fa fn K) : FnX K L0 18 "is_round_in" (top 29) := c.def_ 18 (d := dd18) rfl
theorem F19 {K : PySem.W.Frag} (c : He.SaysD fa fn K) : FnX K L0 19 "rounds_in" (top 30) := c.def_ 19 (d := dd19) rfl
theorem F20 {K : PySem.W.Frag} (c : He.SaysD fa fn K) : FnX K L0 20 "sums_in" (top 31) := c.def_ 20 (d := dd20) rfl
theorem F21 {K : PySem.W.Frag} (c : He.SaysD fa fn K) : FnX K L0 21 "open_round_in" (top 32) := c.def_ 21 (d := dd21) rfl
theorem F22 {K : PySem.W.Frag} (c : He.SaysD fa fn K) : FnX K L0 22 "table_in" (top 33) := c.def_ 22 (d := dd22) rfl
theorem F23 {K : PySem.W.Frag} (c : He.SaysD fa fn K) : FnX K L0 23 "potential_in" (top 34) := c.def_ 23 (d := dd23) rfl
theorem F24 {K : PySem.W.Frag} (c : He.SaysD fa fn K) : FnX K L0 24 "is_word" (top 36) := c.def_ 24 (d := dd24) rfl
theorem F25 {K : PySem.W.Frag} (c : He.SaysD fa fn K) : FnX K L0 25 "sum_in" (top 37) := c.def_ 25 (d := dd25) rfl
theorem F26 {K : PySem.W.Frag} (c : He.SaysD fa fn K) : FnX K L0 26 "is_open_in" (top 38) := c.def_ 26 (d := dd26) rfl
theorem F27 {K : PySem.W.Frag} (c : He.SaysD fa fn K) : FnX K L0 27 "is_bar_in" (top 39) := c.def_ 27 (d := dd27) rfl
theorem F28 {K : PySem.W.Frag} (c : He.SaysD fa fn K) : FnX K L0 28 "shared_table" (top 42) := c.def_ 28 (d := dd28) rfl
theorem F29 {K : PySem.W.Frag} (c : He.SaysD fa fn K) : FnX K L0 29 "together_in" (top 43) := c.def_ 29 (d := dd29) rfl
theorem F30 {K : PySem.W.Frag} (c : He.SaysD fa fn K) : FnX K L0 30 "alone_in" (top 44) := c.def_ 30 (d := dd30) rfl
theorem F31 {K : PySem.W.Frag} (c : He.SaysD fa fn K) : FnX K L0 31 "things_in" (top 45) := c.def_ 31 (d := dd31) rfl
theorem F32 {K : PySem.W.Frag} (c : He.SaysD fa fn K) : FnX K L0 32 "share_answer" (top 46) := c.def_ 32 (d := dd32) rfl
theorem F33 {K : PySem.W.Frag} (c : He.SaysD fa fn K) : FnX K L0 33 "are_things" (top 47) := c.def_ 33 (d := dd33) rfl
theorem F34 {K : PySem.W.Frag} (c : He.SaysD fa fn K) : FnX K L0 34 "tells" (top 48) := c.def_ 34 (d := dd34) rfl
theorem F35 {K : PySem.W.Frag} (c : He.SaysD fa fn K) : FnX K L0 35 "is_share_answer" (top 49) := c.def_ 35 (d := dd35) rfl
theorem F36 {K : PySem.W.Frag} (c : He.SaysD fa fn K) : FnX K L0 36 "is_sharing" (top 50) := c.def_ 36 (d := dd36) rfl
theorem F37 {K : PySem.W.Frag} (c : He.SaysD fa fn K) : FnX K L0 37 "play_users" (top 51) := c.def_ 37 (d := dd37) rfl
theorem F38 {K : PySem.W.Frag} (c : He.SaysD fa fn K) : FnX K L0 38 "lowest_in" (top 53) := c.def_ 38 (d := dd38) rfl
theorem F39 {K : PySem.W.Frag} (c : He.SaysD fa fn K) : FnX K L0 39 "lessened_in" (top 55) := c.def_ 39 (d := dd39) rfl
theorem F40 {K : PySem.W.Frag} (c : He.SaysD fa fn K) : FnX K L0 40 "added_in" (top 56) := c.def_ 40 (d := dd40) rfl
theorem F41 {K : PySem.W.Frag} (c : He.SaysD fa fn K) : FnX K L0 41 "mean_in" (top 57) := c.def_ 41 (d := dd41) rfl
theorem F42 {K : PySem.W.Frag} (c : He.SaysD fa fn K) : FnX K L0 42 "rest_in" (top 58) := c.def_ 42 (d := dd42) rfl
theorem F43 {K : PySem.W.Frag} (c : He.SaysD fa fn K) : FnX K L0 43 "lots_in" (top 59) := c.def_ 43 (d := dd43) rfl
theorem F44 {K : PySem.W.Frag} (c : He.SaysD fa fn K) : FnX K L0 44 "potential_in" (top 60) := c.def_ 44 (d := dd44) rfl
theorem F45 {K : PySem.W.Frag} (c : He.SaysD fa fn K) : FnX K L0 45 "potential_in" (top 60) := c.def_ 45 (d := dd45) rfl
theorem F46 {K : PySem.W.Frag} (c : He.SaysD fa fn K) : FnX K L0 46 "told_in" (top 62) := c.def_ 46 (d := dd46) rfl
theorem F47 {K : PySem.W.Frag} (c : He.SaysD fa fn K) : FnX K L0 47 "parts_in" (top 63) := c.def_ 47 (d := dd47) rfl
theorem F48 {K : PySem.W.Frag} (c : He.SaysD fa fn K) : FnX K L0 48 "parted_answer" (top 64) := c.def_ 48 (d := dd48) rfl
theorem F49 {K : PySem.W.Frag} (c : He.SaysD fa fn K) : FnX K L0 49 "is_parted_answer" (top 65) := c.def_ 49 (d := dd49) rfl
theorem F50 {K : PySem.W.Frag} (c : He.SaysD fa fn K) : FnX K L0 50 "potential_of" (top 66) := c.def_ 50 (d := dd50) rfl
theorem F51 {K : PySem.W.Frag} (c : He.SaysD fa fn K) : FnX K L0 51 "swirl_of" (top 67) := c.def_ 51 (d := dd51) rfl
theorem F52 {K : PySem.W.Frag} (c : He.SaysD fa fn K) : FnX K L0 52 "has_swirl" (top 68) := c.def_ 52 (d := dd52) rfl
theorem F53 {K : PySem.W.Frag} (c : He.SaysD fa fn K) : FnX K L0 53 "plain_steps" (top 69) := c.def_ 53 (d := dd53) rfl
theorem F54 {K : PySem.W.Frag} (c : He.SaysD fa fn K) : FnX K L0 54 "_law_pen" (top 71) := c.def_ 54 (d := dd54) rfl
theorem F55 {K : PySem.W.Frag} (c : He.SaysD fa fn K) : FnX K L0 55 "_law_draw" (top 72) := c.def_ 55 (d := dd55) rfl
theorem F56 {K : PySem.W.Frag} (c : He.SaysD fa fn K) : FnX K L0 56 "_law_pick" (top 73) := c.def_ 56 (d := dd56) rfl
theorem F57 {K : PySem.W.Frag} (c : He.SaysD fa fn K) : FnX K L0 57 "_law_games" (top 75) := c.def_ 57 (d := dd57) rfl
theorem F58 {K : PySem.W.Frag} (c : He.SaysD fa fn K) : FnX K L0 58 "law" (top 76) := c.def_ 58 (d := dd58) rfl
theorem FE0 {K : PySem.W.Frag} (c : He.SaysD fa fn K) : ∃ fd, FunD K "__init__" "BadNumber.__init__" (defArgs ini0) (defBody ini0) (defScope ini0) [] [] (He.fAd K ("BadNumber", some "__init__")) fd := c.def_ 59 (d := ddE0) rfl
theorem FE1 {K : PySem.W.Frag} (c : He.SaysD fa fn K) : ∃ fd, FunD K "__init__" "BadGame.__init__" (defArgs ini1) (defBody ini1) (defScope ini1) [] [] (He.fAd K ("BadGame", some "__init__")) fd := c.def_ 60 (d := ddE1) rfl
theorem FE2 {K : PySem.W.Frag} (c : He.SaysD fa fn K) : ∃ fd, FunD K "__init__" "BadShared.__init__" (defArgs ini2) (defBody ini2) (defScope ini2) [] [] (He.fAd K ("BadShared", some "__init__")) fd := c.def_ 61 (d := ddE2) rfl
theorem FT0 {K : PySem.W.Frag} (c : He.SaysD fa fn K) : ∃ fd, FunD K "_law_told_error" "_law_told_error" (defArgs (top 74)) (defBody (top 74)) (defScope (top 74)) [] [] (He.ga K "_law_told_error") fd := c.def_ 62 (d := ddT0) rfl
section
variable {P : Program} {w : World} {K : PySem.W.Frag} {mg : Str → Option Value} {base h : Heap}
theorem gloC (X : K.In h) (G : h.Ns mainGlobals mg) (c : He.SaysD fa fn K) : ∀ x ∈ L0.cls, mg x = some (.ref (He.ga K x)) := fun x hx => He.glo_ok X G (c.facts (f := .glo x) (List.mem_append_right _ (List.mem_append_left _ (List.mem_map_of_mem hx))))
theorem gloT (X : K.In h) (G : h.Ns mainGlobals mg) (c : He.SaysD fa fn K) : ∀ x ∈ L0.tld, mg x = some (.ref (He.ga K x)) := fun x hx => He.glo_ok X G (c.facts (f := .glo x) (List.mem_append_right _ (List.mem_append_right _ (List.mem_append_left _ (List.mem_map_of_mem hx)))))
theorem ib0 : isInit2 (defBody ini0) "what" "what" "number" "number" = true := by kernel_rfl
theorem ex0 (X : K.In h) (G : h.Ns mainGlobals mg) (c : He.SaysD fa fn K) (ce : clsB K excs = true) : GdOk (lawT P w K mg base L0) "BadNumber" (.exc 0 [0,1]) := by
  obtain ⟨fd, F⟩ := FE0 c
  unfold clsB at ce
  rw [Bool.and_eq_true] at ce
  exact exc2_ok (L := L0) (i := 0) rfl (gloC X G c _ (by simp [L0])) (List.all_eq_true.mp ce.1 ("BadNumber", ["what", "number"]) (by simp [excs])) F ib0 scE0 rfl rfl rfl rfl (F.bindsN bdE0) rfl rfl
theorem ib1 : isInit1 (defBody ini1) "game" "game" = true := by kernel_rfl
theorem ex1 (X : K.In h) (G : h.Ns mainGlobals mg) (c : He.SaysD fa fn K) (ce : clsB K excs = true) : GdOk (lawT P w K mg base L0) "BadGame" (.exc 1 [2]) := by
  obtain ⟨fd, F⟩ := FE1 c
  unfold clsB at ce
  rw [Bool.and_eq_true] at ce
  exact exc1_ok (L := L0) (i := 1) rfl (gloC X G c _ (by simp [L0])) (List.all_eq_true.mp ce.1 ("BadGame", ["game"]) (by simp [excs])) F ib1 scE1 rfl rfl (F.bindsN bdE1) rfl
theorem ib2 : isInit1 (defBody ini2) "shared" "shared" = true := by kernel_rfl
theorem ex2 (X : K.In h) (G : h.Ns mainGlobals mg) (c : He.SaysD fa fn K) (ce : clsB K excs = true) : GdOk (lawT P w K mg base L0) "BadShared" (.exc 2 [3]) := by
  obtain ⟨fd, F⟩ := FE2 c
  unfold clsB at ce
  rw [Bool.and_eq_true] at ce
  exact exc1_ok (L := L0) (i := 2) rfl (gloC X G c _ (by simp [L0])) (List.all_eq_true.mp ce.1 ("BadShared", ["shared"]) (by simp [excs])) F ib2 scE2 rfl rfl (F.bindsN bdE2) rfl
theorem hb0 : hdB L0 (defScope (top 74)) ["call", "e"] (tryHds (defBody (top 74)) "call") [⟨1, [66,97,100,71,97,109,101], [2]⟩, ⟨0, [66,97,100,78,117,109,98,101,114], [0,1]⟩, ⟨2, [66,97,100,83,104,97,114,101,100], [3]⟩] [(1, ["game"]), (1, ["what", "number"]), (1, ["shared"])] = true := by kernel_rfl
theorem to0 (X : K.In h) (G : h.Ns mainGlobals mg) (c : He.SaysD fa fn K) (ce : clsB K excs = true) : GdOk (lawT P w K mg base L0) "_law_told_error" (.told 3 [⟨1, [66,97,100,71,97,109,101], [2]⟩, ⟨0, [66,97,100,78,117,109,98,101,114], [0,1]⟩, ⟨2, [66,97,100,83,104,97,114,101,100], [3]⟩]) := by
  obtain ⟨fd, F⟩ := FT0 c
  exact told_ok (L := L0) (excs := excs) rfl (gloC X G c) ce (gloT X G c _ (by simp [L0])) F scT0 (F.bindsN bdT0) rfl rfl rfl hb0 (by decide +kernel) (by decide) (by decide +kernel)
theorem extraOk (X : K.In h) (G : h.Ns mainGlobals mg) (c : He.SaysD fa fn K) (ce : clsB K excs = true) : ∀ p ∈ extra, GdOk (lawT P w K mg base L0) p.1 p.2 := List.forall_mem_cons.mpr ⟨ex0 X G c ce, List.forall_mem_cons.mpr ⟨ex1 X G c ce, List.forall_mem_cons.mpr ⟨ex2 X G c ce, List.forall_mem_cons.mpr ⟨to0 X G c ce, fun _ z => nomatch z⟩⟩⟩⟩
theorem glOk (X : K.In h) (G : h.Ns mainGlobals mg) (c : He.SaysD fa fn K) (e : exL K = true) : GlOk (lawT P w K mg base L0) gl := by
  obtain ⟨e1, e2⟩ := Bool.and_eq_true_iff.mp e
  obtain ⟨e3, e4⟩ := Bool.and_eq_true_iff.mp e2
  exact lawGl_ok X G (fun f hf => c.facts hf) e1 (extraOk X G c e3)
theorem all0 (c : He.SaysD fa fn K) : AllF (fun i ps => FnIs (lawT P w K mg base L0) (evN fs 0) 0 i ps) 0 fns := ⟨mk_zero (F0 c) bd0 bk0, mk_zero (F1 c) bd1 bk1, mk_zero (F2 c) bd2 bk2, mk_zero (F3 c) bd3 bk3, mk_zero (F4 c) bd4 bk4, mk_zero (F5 c) bd5 bk5, mk_zero (F6 c) bd6 bk6, mk_zero (F7 c) bd7 bk7, mk_zero (F8 c) bd8 bk8, mk_zero (F9 c) bd9 bk9, mk_zero (F10 c) bd10 bk10, mk_zero (F11 c) bd11 bk11, mk_zero (F12 c) bd12 bk12, mk_zero (F13 c) bd13 bk13, mk_zero (F14 c) bd14 bk14, mk_zero (F15 c) bd15 bk15, mk_zero (F16 c) bd16 bk16, mk_zero (F17 c) bd17 bk17, mk_zero (F18 c) bd18 bk18, mk_zero (F19 c) bd19 bk19, mk_zero (F20 c) bd20 bk20, mk_zero (F21 c) bd21 bk21, mk_zero (F22 c) bd22 bk22, mk_zero (F23 c) bd23 bk23, mk_zero (F24 c) bd24 bk24, mk_zero (F25 c) bd25 bk25, mk_zero (F26 c) bd26 bk26, mk_zero (F27 c) bd27 bk27, mk_zero (F28 c) bd28 bk28, mk_zero (F29 c) bd29 bk29, mk_zero (F30 c) bd30 bk30, mk_zero (F31 c) bd31 bk31, mk_zero (F32 c) bd32 bk32, mk_zero (F33 c) bd33 bk33, mk_zero (F34 c) bd34 bk34, mk_zero (F35 c) bd35 bk35, mk_zero (F36 c) bd36 bk36, mk_zero (F37 c) bd37 bk37, mk_zero (F38 c) bd38 bk38, mk_zero (F39 c) bd39 bk39, mk_zero (F40 c) bd40 bk40, mk_zero (F41 c) bd41 bk41, mk_zero (F42 c) bd42 bk42, mk_zero (F43 c) bd43 bk43, mk_zero (F44 c) bd44 bk44, mk_zero (F45 c) bd45 bk45, mk_zero (F46 c) bd46 bk46, mk_zero (F47 c) bd47 bk47, mk_zero (F48 c) bd48 bk48, mk_zero (F49 c) bd49 bk49, mk_zero (F50 c) bd50 bk50, mk_zero (F51 c) bd51 bk51, mk_zero (F52 c) bd52 bk52, mk_zero (F53 c) bd53 bk53, mk_zero (F54 c) bd54 bk54, mk_zero (F55 c) bd55 bk55, mk_zero (F56 c) bd56 bk56, mk_zero (F57 c) bd57 bk57, mk_zero (F58 c) bd58 bk58, trivial⟩
theorem all1 (c : He.SaysD fa fn K) (hT : LTab L0 K mg base) (hg : GlOk (lawT P w K mg base L0) gl) (n : Nat) (ev : Ev) (hS : St8.Ok ⟨lawT P w K mg base L0, ev, n + 2, fns, n⟩) : AllF (fun i ps => FnIs (lawT P w K mg base L0) (stp fs ev) (n + 3) i ps) 0 fns := ⟨mk_code (tab := false) (F0 c) bd0 bk0 noTab hT sc0 rfl cd0 rfl hg hS, mk_code (tab := false) (F1 c) bd1 bk1 noTab hT sc1 rfl cd1 rfl hg hS, mk_code (tab := false) (F2 c) bd2 bk2 noTab hT sc2 rfl cd2 rfl hg hS, mk_code (tab := false) (F3 c) bd3 bk3 noTab hT sc3 rfl cd3 rfl hg hS, mk_code (tab := false) (F4 c) bd4 bk4 noTab hT sc4 rfl cd4 rfl hg hS, mk_code (tab := false) (F5 c) bd5 bk5 noTab hT sc5 rfl cd5 rfl hg hS, mk_code (tab := false) (F6 c) bd6 bk6 noTab hT sc6 rfl cd6 rfl hg hS, mk_code (tab := false) (F7 c) bd7 bk7 noTab hT sc7 rfl cd7 rfl hg hS, mk_code (tab := false) (F8 c) bd8 bk8 noTab hT sc8 rfl cd8 rfl hg hS, mk_code (tab := false) (F9 c) bd9 bk9 noTab hT sc9 rfl cd9 rfl hg hS, mk_code (tab := false) (F10 c) bd10 bk10 noTab hT sc10 rfl cd10 rfl hg hS, mk_code (tab := false) (F11 c) bd11 bk11 noTab hT sc11 rfl cd11 rfl hg hS, mk_code (tab := false) (F12 c) bd12 bk12 noTab hT sc12 rfl cd12 rfl hg hS, mk_code (tab := false) (F13 c) bd13 bk13 noTab hT sc13 rfl cd13 rfl hg hS, mk_code (tab := false) (F14 c) bd14 bk14 noTab hT sc14 rfl cd14 rfl hg hS, mk_code (tab := false) (F15 c) bd15 bk15 noTab hT sc15 rfl cd15 rfl hg hS, mk_code (tab := false) (F16 c) bd16 bk16 noTab hT sc16 rfl cd16 rfl hg hS, mk_code (tab := false) (F17 c) bd17 bk17 noTab hT sc17 rfl cd17 rfl hg hS, mk_code (tab := false) (F18 c) bd18 bk18 noTab hT sc18 rfl cd18 rfl hg hS, mk_code (tab := false) (F19 c) bd19 bk19 noTab hT sc19 rfl cd19 rfl hg hS, mk_code (tab := false) (F20 c) bd20 bk20 noTab hT sc20 rfl cd20 rfl hg hS, mk_none (F21 c) bd21 bk21 rfl, mk_code (tab := false) (F22 c) bd22 bk22 noTab hT sc22 rfl cd22 rfl hg hS, mk_code (tab := false) (F23 c) bd23 bk23 noTab hT sc23 rfl cd23 rfl hg hS, mk_code (tab := false) (F24 c) bd24 bk24 noTab hT sc24 rfl cd24 rfl hg hS, mk_code (tab := false) (F25 c) bd25 bk25 noTab hT sc25 rfl cd25 rfl hg hS, mk_code (tab := false) (F26 c) bd26 bk26 noTab hT sc26 rfl cd26 rfl hg hS, mk_code (tab := false) (F27 c) bd27 bk27 noTab hT sc27 rfl cd27 rfl hg hS, mk_code (tab := false) (F28 c) bd28 bk28 noTab hT sc28 rfl cd28 rfl hg hS, mk_code (tab := false) (F29 c) bd29 bk29 noTab hT sc29 rfl cd29 rfl hg hS, mk_code (tab := false) (F30 c) bd30 bk30 noTab hT sc30 rfl cd30 rfl hg hS, mk_code (tab := false) (F31 c) bd31 bk31 noTab hT sc31 rfl cd31 rfl hg hS, mk_code (tab := false) (F32 c) bd32 bk32 noTab hT sc32 rfl cd32 rfl hg hS, mk_code (tab := false) (F33 c) bd33 bk33 noTab hT sc33 rfl cd33 rfl hg hS, mk_code (tab := false) (F34 c) bd34 bk34 noTab hT sc34 rfl cd34 rfl hg hS, mk_code (tab := false) (F35 c) bd35 bk35 noTab hT sc35 rfl cd35 rfl hg hS, mk_code (tab := false) (F36 c) bd36 bk36 noTab hT sc36 rfl cd36 rfl hg hS, mk_code (tab := false) (F37 c) bd37 bk37 noTab hT sc37 rfl cd37 rfl hg hS, mk_code (tab := false) (F38 c) bd38 bk38 noTab hT sc38 rfl cd38 rfl hg hS, mk_code (tab := false) (F39 c) bd39 bk39 noTab hT sc39 rfl cd39 rfl hg hS, mk_code (tab := false) (F40 c) bd40 bk40 noTab hT sc40 rfl cd40 rfl hg hS, mk_code (tab := false) (F41 c) bd41 bk41 noTab hT sc41 rfl cd41 rfl hg hS, mk_code (tab := false) (F42 c) bd42 bk42 noTab hT sc42 rfl cd42 rfl hg hS, mk_code (tab := false) (F43 c) bd43 bk43 noTab hT sc43 rfl cd43 rfl hg hS, mk_code (tab := false) (F44 c) bd44 bk44 noTab hT sc44 rfl cd44 rfl hg hS, mk_code (tab := false) (F45 c) bd45 bk45 noTab hT sc45 rfl cd45 rfl hg hS, mk_code (tab := false) (F46 c) bd46 bk46 noTab hT sc46 rfl cd46 rfl hg hS, mk_code (tab := false) (F47 c) bd47 bk47 noTab hT sc47 rfl cd47 rfl hg hS, mk_code (tab := false) (F48 c) bd48 bk48 noTab hT sc48 rfl cd48 rfl hg hS, mk_code (tab := false) (F49 c) bd49 bk49 noTab hT sc49 rfl cd49 rfl hg hS, mk_code (tab := false) (F50 c) bd50 bk50 noTab hT sc50 rfl cd50 rfl hg hS, mk_code (tab := false) (F51 c) bd51 bk51 noTab hT sc51 rfl cd51 rfl hg hS, mk_code (tab := false) (F52 c) bd52 bk52 noTab hT sc52 rfl cd52 rfl hg hS, mk_code (tab := false) (F53 c) bd53 bk53 noTab hT sc53 rfl cd53 rfl hg hS, mk_pen (F54 c) bd54 bk54 sc54 rfl rfl cd54 rfl hg hS, mk_draw (F55 c) bd55 bk55 sc55 rfl rfl cd55 rfl hg hS, mk_code (tab := false) (F56 c) bd56 bk56 noTab hT sc56 rfl cd56 rfl hg hS, mk_code (tab := true) (F57 c) bd57 bk57 (fun _ => ⟨rfl, by simp [L0]⟩) hT sc57 rfl cd57 rfl hg hS, mk_none (F58 c) bd58 bk58 rfl, trivial⟩
theorem all2 (c : He.SaysD fa fn K) (hT : LTab L0 K mg base) (hg : GlOk (lawT P w K mg base L0) gl) (hS : St8.Ok ⟨lawT P w K mg base L0, evD, 36 + 2, fns, 36⟩) : AllF (fun i ps => FnIs (lawT P w K mg base L0) (stp fsL evD) (36 + 3) i ps) 0 fns := ⟨mk_code (tab := false) (F0 c) bd0 bk0 noTab hT sc0 rfl cd0 rfl hg hS, mk_code (tab := false) (F1 c) bd1 bk1 noTab hT sc1 rfl cd1 rfl hg hS, mk_code (tab := false) (F2 c) bd2 bk2 noTab hT sc2 rfl cd2 rfl hg hS, mk_code (tab := false) (F3 c) bd3 bk3 noTab hT sc3 rfl cd3 rfl hg hS, mk_code (tab := false) (F4 c) bd4 bk4 noTab hT sc4 rfl cd4 rfl hg hS, mk_code (tab := false) (F5 c) bd5 bk5 noTab hT sc5 rfl cd5 rfl hg hS, mk_code (tab := false) (F6 c) bd6 bk6 noTab hT sc6 rfl cd6 rfl hg hS, mk_code (tab := false) (F7 c) bd7 bk7 noTab hT sc7 rfl cd7 rfl hg hS, mk_code (tab := false) (F8 c) bd8 bk8 noTab hT sc8 rfl cd8 rfl hg hS, mk_code (tab := false) (F9 c) bd9 bk9 noTab hT sc9 rfl cd9 rfl hg hS, mk_code (tab := false) (F10 c) bd10 bk10 noTab hT sc10 rfl cd10 rfl hg hS, mk_code (tab := false) (F11 c) bd11 bk11 noTab hT sc11 rfl cd11 rfl hg hS, mk_code (tab := false) (F12 c) bd12 bk12 noTab hT sc12 rfl cd12 rfl hg hS, mk_code (tab := false) (F13 c) bd13 bk13 noTab hT sc13 rfl cd13 rfl hg hS, mk_code (tab := false) (F14 c) bd14 bk14 noTab hT sc14 rfl cd14 rfl hg hS, mk_code (tab := false) (F15 c) bd15 bk15 noTab hT sc15 rfl cd15 rfl hg hS, mk_code (tab := false) (F16 c) bd16 bk16 noTab hT sc16 rfl cd16 rfl hg hS, mk_code (tab := false) (F17 c) bd17 bk17 noTab hT sc17 rfl cd17 rfl hg hS, mk_code (tab := false) (F18 c) bd18 bk18 noTab hT sc18 rfl cd18 rfl hg hS, mk_code (tab := false) (F19 c) bd19 bk19 noTab hT sc19 rfl cd19 rfl hg hS, mk_code (tab := false) (F20 c) bd20 bk20 noTab hT sc20 rfl cd20 rfl hg hS, mk_none (F21 c) bd21 bk21 rfl, mk_code (tab := false) (F22 c) bd22 bk22 noTab hT sc22 rfl cd22 rfl hg hS, mk_code (tab := false) (F23 c) bd23 bk23 noTab hT sc23 rfl cd23 rfl hg hS, mk_code (tab := false) (F24 c) bd24 bk24 noTab hT sc24 rfl cd24 rfl hg hS, mk_code (tab := false) (F25 c) bd25 bk25 noTab hT sc25 rfl cd25 rfl hg hS, mk_code (tab := false) (F26 c) bd26 bk26 noTab hT sc26 rfl cd26 rfl hg hS, mk_code (tab := false) (F27 c) bd27 bk27 noTab hT sc27 rfl cd27 rfl hg hS, mk_code (tab := false) (F28 c) bd28 bk28 noTab hT sc28 rfl cd28 rfl hg hS, mk_code (tab := false) (F29 c) bd29 bk29 noTab hT sc29 rfl cd29 rfl hg hS, mk_code (tab := false) (F30 c) bd30 bk30 noTab hT sc30 rfl cd30 rfl hg hS, mk_code (tab := false) (F31 c) bd31 bk31 noTab hT sc31 rfl cd31 rfl hg hS, mk_code (tab := false) (F32 c) bd32 bk32 noTab hT sc32 rfl cd32 rfl hg hS, mk_code (tab := false) (F33 c) bd33 bk33 noTab hT sc33 rfl cd33 rfl hg hS, mk_code (tab := false) (F34 c) bd34 bk34 noTab hT sc34 rfl cd34 rfl hg hS, mk_code (tab := false) (F35 c) bd35 bk35 noTab hT sc35 rfl cd35 rfl hg hS, mk_code (tab := false) (F36 c) bd36 bk36 noTab hT sc36 rfl cd36 rfl hg hS, mk_code (tab := false) (F37 c) bd37 bk37 noTab hT sc37 rfl cd37 rfl hg hS, mk_code (tab := false) (F38 c) bd38 bk38 noTab hT sc38 rfl cd38 rfl hg hS, mk_code (tab := false) (F39 c) bd39 bk39 noTab hT sc39 rfl cd39 rfl hg hS, mk_code (tab := false) (F40 c) bd40 bk40 noTab hT sc40 rfl cd40 rfl hg hS, mk_code (tab := false) (F41 c) bd41 bk41 noTab hT sc41 rfl cd41 rfl hg hS, mk_code (tab := false) (F42 c) bd42 bk42 noTab hT sc42 rfl cd42 rfl hg hS, mk_code (tab := false) (F43 c) bd43 bk43 noTab hT sc43 rfl cd43 rfl hg hS, mk_code (tab := false) (F44 c) bd44 bk44 noTab hT sc44 rfl cd44 rfl hg hS, mk_code (tab := false) (F45 c) bd45 bk45 noTab hT sc45 rfl cd45 rfl hg hS, mk_code (tab := false) (F46 c) bd46 bk46 noTab hT sc46 rfl cd46 rfl hg hS, mk_code (tab := false) (F47 c) bd47 bk47 noTab hT sc47 rfl cd47 rfl hg hS, mk_code (tab := false) (F48 c) bd48 bk48 noTab hT sc48 rfl cd48 rfl hg hS, mk_code (tab := false) (F49 c) bd49 bk49 noTab hT sc49 rfl cd49 rfl hg hS, mk_code (tab := false) (F50 c) bd50 bk50 noTab hT sc50 rfl cd50 rfl hg hS, mk_code (tab := false) (F51 c) bd51 bk51 noTab hT sc51 rfl cd51 rfl hg hS, mk_code (tab := false) (F52 c) bd52 bk52 noTab hT sc52 rfl cd52 rfl hg hS, mk_code (tab := false) (F53 c) bd53 bk53 noTab hT sc53 rfl cd53 rfl hg hS, mk_pen (F54 c) bd54 bk54 sc54 rfl rfl cd54 rfl hg hS, mk_draw (F55 c) bd55 bk55 sc55 rfl rfl cd55 rfl hg hS, mk_code (tab := false) (F56 c) bd56 bk56 noTab hT sc56 rfl cd56 rfl hg hS, mk_code (tab := true) (F57 c) bd57 bk57 (fun _ => ⟨rfl, by simp [L0]⟩) hT sc57 rfl cd57 rfl hg hS, mk_none (F58 c) bd58 bk58 rfl, trivial⟩
theorem okD (c : He.SaysD fa fn K) (hT : LTab L0 K mg base) (hg : GlOk (lawT P w K mg base L0) gl) : St8.Ok ⟨lawT P w K mg base L0, evD, 36 + 2, fns, 36⟩ := table_ok (fun i ps e => allF_ok (all0 c) i ps e) (fun n ev hS i ps e => allF_ok (all1 c hT hg n ev hS) i ps e) 12
theorem okL (c : He.SaysD fa fn K) (hT : LTab L0 K mg base) (hg : GlOk (lawT P w K mg base L0) gl) : St8.Ok ⟨lawT P w K mg base L0, stp fsL evD, 39 + 2, fns, 39⟩ := ⟨fun i ps e => allF_ok (all2 c hT hg (okD c hT hg)) i ps e, Nat.le_add_right _ _⟩
end
/-! the head -/
abbrev R : PySem.W.OpenRow := PySem.W.OpenLaw.row PySem.Challenge.rw_gainsteps_k37_errors_of_sharing_and_part
abbrev hk : PySem.W.Hook := He.hookX 5 fa fn [] tfD exL
def ob (s : PySem.W.SharedT) : He.AlX := He.obsX 5 fa fn [] tfD exL (HandSHeadRun.getT s)
theorem ob_eq (s : PySem.W.SharedT) : ob s = hk.obs s.abs := He.obsX_eq (HandSHeadRun.getT_eq s)
def loose : List Str := (["GainError", "BadNumber", "BadGame", "BadShared", "is_whole", "is_count", "just_as", "MOST_PLAYS", "MOST_WORTH", "MOST_THINGS", "many_in", "is_sizes_in", "play_in", "number_in", "need_number", "changed_in", "is_game_in", "need_game", "gain_in", "is_lot", "are_worths", "is_shared_in", "need_shared", "users_in", "game_in", "is_round_in", "rounds_in", "sums_in", "open_round_in", "table_in"] : List Str) ++ (["potential_in", "potential_in_rounds", "is_word", "sum_in", "is_open_in", "is_bar_in", "MOST_TOLD", "shared_table", "together_in", "alone_in", "things_in", "share_answer", "are_things", "tells", "is_share_answer", "is_sharing", "play_users", "lowest_in", "lessened_in", "added_in", "mean_in", "rest_in", "lots_in", "potential_in_parting", "told_in", "parts_in", "parted_answer", "is_parted_answer", "potential_of", "swirl_of"] : List Str) ++ (["has_swirl", "plain_steps", "_law_pen", "_law_draw", "_law_pick", "_law_told_error", "_law_games"] : List Str)
theorem run (w : World) : HandSHeadRun.RunEqI R (PySem.W.view R.prog [0, 76]) hk ob 4000 loose w := by
  unfold HandSHeadRun.RunEqI
  kernel_rfl
theorem law_at {P : Program} {w : World} {K : PySem.W.Frag} {h : Heap} {mg : Str → Option Value} {f : Addr} (X : K.In h) (G : h.Ns mainGlobals mg) (hfa : mg ("law" : Str) = some (.ref f)) (c : He.SaysX fa fn [] tfD exL w h K) {mb : Str → Option Value} {a : Addr} {vs : List Value} {ns : List Int} {S : Shared} (E : Entry K mg mb (tfD.map (He.cT K)) a vs ns S) (hz : ns.length ≤ 63) :
    codeAny (model P w) callerA (.call (.ref f) ⟨[.ref a], []⟩) (L2.CR (L2.CX P w) [] P w E.H S (fun v _ => v = .bl true) (fun _ _ _ => False)) S := by
  obtain ⟨fd, F⟩ := F58 c.t.d
  have e := hfa.symm.trans (He.glo_ok X G (c.t.d.facts (f := .glo "law") (List.mem_append_left _ (List.mem_map_of_mem (List.mem_of_getElem? (i := 58) rfl)))))
  cases e
  have hU : tabU K L0 = true := (Bool.and_eq_true_iff.mp (Bool.and_eq_true_iff.mp c.more).2).2
  have hT : LTab L0 K mg (hidT S.heap E.H) := ⟨fun x hx => E.tabs _ (List.mem_map_of_mem (List.mem_map_of_mem hx)), of_decide_eq_true hU⟩
  have hg : GlOk (lawT P w K mg (hidT S.heap E.H) L0) gl := glOk X G c.t.d c.more
  refine law_body (L := L0) (fns := fns) (gl := gl) (nl := 10) (x := "law") (st := top 76) (N := N58) (c := f58) (ev := stp fsL evD) (n := 39) (tab := true) E F (FunD.bindsA (ps := ["script"]) F bd58 S [.ref a] rfl) sc58 rfl
    (fun _ => ⟨hT.f (by simp [L0]) (by kernel_rfl), rfl⟩) (by kernel_rfl) cd58 hg (okL c.t.d hT hg) ⟨rfl, by decide, by decide⟩ (fun p hp => ?_) (runL ns hz)
  obtain ⟨y, hy, rfl⟩ := List.mem_map.mp hp
  exact LamX.TabS.nil (hp0_t (List.mem_map.mpr ⟨He.cT K (y, none), List.mem_map_of_mem (List.mem_map_of_mem hy), rfl⟩))
end Lw
end
open PySem PySem.W PySem.Calls PyProof.Rows
theorem PySem.Challenge.cw_gainsteps_k37_errors_of_sharing_and_part_holds : PySem.Challenge.rw_gainsteps_k37_errors_of_sharing_and_part.Holds := by
  w_on; o_law
  refine HandSHeadRun.head_imp (r := OpenLaw.row PySem.Challenge.rw_gainsteps_k37_errors_of_sharing_and_part) (q := view (OpenLaw.row PySem.Challenge.rw_gainsteps_k37_errors_of_sharing_and_part).prog [0, 76]) (H := Lw.hk) (ob := Lw.ob) (M := 4000) (loose := Lw.loose) (d := HandSHeadRun.topDef (OpenLaw.row PySem.Challenge.rw_gainsteps_k37_errors_of_sharing_and_part).prog 76) (kwd := []) Lw.ob_eq
    Lw.run (by kernel_rfl) (by kernel_rfl) (by kernel_rfl) (by rfl) (by first | assumption | decide +kernel) (by decide +kernel) ⟨rfl, rfl, rfl, rfl, rfl, by decide +kernel⟩ ?hw ?hc
  case hw => w_witness2
  case hc =>
    refine Z.walk_law (l := PySem.Challenge.rw_gainsteps_k37_errors_of_sharing_and_part) (nz := 63) rfl (by decide) (by kernel_rfl) ?F
    intro w mg fa h Y G hmg0
    obtain ⟨K, KX, c⟩ := Y
    have hmg : mg ("law" : PySem.Str) = some (.ref fa) := by
      have e : (HandSHeadRun.topDef (OpenLaw.row PySem.Challenge.rw_gainsteps_k37_errors_of_sharing_and_part).prog 76).name = ("law" : PySem.Str) := by kernel_rfl
      rw [← e]
      exact hmg0
    refine ⟨K, Lw.tfD.map (He.cT K), KX, fun p hp => ?_, fun p hp => ?_, fun p hp => ?_, fun mb a vs ns S E hz => Lw.law_at KX G hmg c E hz⟩
    · obtain ⟨y, hy, rfl⟩ := List.mem_map.mp hp
      exact c.empty y hy
    · obtain ⟨y, hy, rfl⟩ := List.mem_map.mp hp
      exact c.out y hy
    · obtain ⟨y, hy, rfl⟩ := List.mem_map.mp hp
      exact PySem.W.codeHd_of_K KX (c.hd y hy)

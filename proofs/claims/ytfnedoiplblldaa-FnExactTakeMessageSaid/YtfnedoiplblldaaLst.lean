/- Lists that are counted, measured and marked: what the marking functions leave, element by element. No conditions. -/
import Derived.Test.YtfnedoiplblldaaSep2
namespace Go.Proofs.YtfnedoiplblldaaSep
theorem ret_int {a b : Int} (h : a = b) : Ending.returned (.int .i64 a) = .returned (.int .i64 b) := by rw [h]
theorem ret_bool {a b : Bool} (h : a = b) : Ending.returned (.bool a) = .returned (.bool b) := by rw [h]
/-- What is left of n when s is taken off, -1 if it does not suffice. -/
def szR (s : Nat) (n : Int) : Int := if (s : Int) ≤ n then n - s else -1
theorem szR_of {s : Nat} {n r : Int} (h : ((s : Int) ≤ n → r = n - s) ∧ (n < s → r = -1)) : r = szR s n := by unfold szR; split <;> omega
def mkS {α : Type} (m : Int → α → α) (c : α → Int) : Int → List α → List α
  | _, [] => []
  | k, x :: l => m k x :: mkS m c (k + c x) l
def cntS {α : Type} (c : α → Int) : List α → Int
  | [] => 0
  | x :: l => c x + cntS c l
def sumS {α : Type} (s : α → Nat) : List α → Nat
  | [] => 0
  | x :: l => s x + sumS s l
def sznS {α : Type} (s : α → Nat) (l : List α) : Nat := l.length + sumS s l
section
variable {α : Type} (m : Int → α → α) (c : α → Int) (s : α → Nat)
theorem mkS_len : ∀ (l : List α) (k : Int), (mkS m c k l).length = l.length
  | [], _ => rfl
  | _ :: l, k => by simp [mkS, mkS_len l]
theorem mkS_at : ∀ (l : List α) (k : Int) (i : Nat) (h : i < l.length), (mkS m c k l)[i]'(by rw [mkS_len]; exact h) = m (k + cntS c (l.take i)) l[i]
  | [], _, i, h => by simp at h
  | x :: l, k, 0, h => by simp [mkS, cntS]
  | x :: l, k, i + 1, h => by
    simp only [mkS, List.getElem_cons_succ, List.take_succ_cons, cntS]
    rw [mkS_at l (k + c x) i (by simpa using h)]
    congr 1
    omega
theorem cntS_take : ∀ (l : List α) (i : Nat) (h : i < l.length), cntS c (l.take (i + 1)) = cntS c (l.take i) + c l[i]
  | [], i, h => by simp at h
  | x :: l, 0, h => by simp [cntS]
  | x :: l, i + 1, h => by
    simp only [List.take_succ_cons, cntS, List.getElem_cons_succ]
    rw [cntS_take l i (by simpa using h)]
    omega
theorem cntS_le (hc : ∀ x, 0 ≤ c x) : ∀ (l : List α) (i : Nat), 0 ≤ cntS c (l.take i) ∧ cntS c (l.take i) ≤ cntS c l
  | [], i => by simp [cntS]
  | x :: l, 0 => by
    have := cntS_le hc l l.length
    rw [List.take_length] at this
    have := hc x
    simp [cntS]
    omega
  | x :: l, i + 1 => by
    have := cntS_le hc l i
    have := hc x
    simp only [List.take_succ_cons, cntS]
    omega
theorem cntS_nn (hc : ∀ x, 0 ≤ c x) (l : List α) : 0 ≤ cntS c l := by
  have := cntS_le c hc l l.length
  rw [List.take_length] at this
  exact this.1
theorem cntS_bound (h : ∀ x, c x ≤ 20 + 20 * (s x : Int)) : ∀ l : List α, cntS c l ≤ 20 * (sznS s l : Int)
  | [] => by simp [cntS, sznS, sumS]
  | x :: l => by
    have h1 := h x
    have h2 := cntS_bound h l
    simp only [cntS, sznS, sumS, List.length_cons] at *
    omega
theorem sumS_take : ∀ (l : List α) (i : Nat) (h : i < l.length), sumS s (l.take (i + 1)) = sumS s (l.take i) + s l[i]
  | [], i, h => by simp at h
  | x :: l, 0, h => by simp [sumS]
  | x :: l, i + 1, h => by
    simp only [List.take_succ_cons, sumS, List.getElem_cons_succ]
    rw [sumS_take l i (by simpa using h)]
    omega
theorem sumS_le : ∀ (l : List α) (i : Nat), sumS s (l.take i) ≤ sumS s l
  | [], i => by simp [sumS]
  | x :: l, 0 => by simp [sumS]
  | x :: l, i + 1 => by
    have := sumS_le l i
    simp only [List.take_succ_cons, sumS]
    omega
theorem sumS_at (l : List α) (i : Nat) (h : i < l.length) : s l[i] ≤ sumS s l := by
  have h1 := sumS_take s l i h
  have h2 := sumS_le s l (i + 1)
  omega
theorem sumS_step (l : List α) (i : Nat) (h : i < l.length) : sumS s (l.take i) + s l[i] ≤ sumS s l := by
  have h1 := sumS_take s l i h
  have h2 := sumS_le s l (i + 1)
  omega
end
/-- The first place from k on of which p is so, -1 if there is none. -/
def fidx {α : Type} (p : α → Bool) : Int → List α → Int
  | _, [] => -1
  | k, x :: l => if p x then k else fidx p (k + 1) l
theorem fidx_any {α : Type} (p : α → Bool) : ∀ (l : List α) (k : Int), 0 ≤ k → decide (0 ≤ fidx p k l) = l.any p
  | [], k, _ => by simp [fidx]
  | x :: l, k, h => by
    by_cases c : p x = true
    · simp [fidx, c, h]
    · simp [fidx, c, fidx_any p l (k + 1) (by omega)]
theorem fidx_yes {α : Type} (p : α → Bool) (l : List α) (i : Nat) (h : i < l.length) (hp : p l[i] = true) : fidx p i (l.drop i) = i := by
  rw [List.drop_eq_getElem_cons h]; simp [fidx, hp]
theorem fidx_no {α : Type} (p : α → Bool) (l : List α) (i : Nat) (h : i < l.length) (hp : p l[i] = false) : fidx p i (l.drop i) = fidx p ((i + 1 : Nat) : Int) (l.drop (i + 1)) := by
  rw [List.drop_eq_getElem_cons h]; simp [fidx, hp]
theorem fidx_end {α : Type} (p : α → Bool) (l : List α) (i : Nat) (h : l.length ≤ i) (k : Int) : fidx p k (l.drop i) = -1 := by
  rw [List.drop_eq_nil_of_le h]; rfl
theorem fidx_range {α : Type} (p : α → Bool) : ∀ (l : List α) (k : Int), fidx p k l = -1 ∨ (k ≤ fidx p k l ∧ fidx p k l < k + l.length)
  | [], k => .inl rfl
  | x :: l, k => by
    by_cases c : p x = true
    · right; simp [fidx, c]; omega
    · rcases fidx_range p l (k + 1) with h | h
      · left; simp [fidx, c, h]
      · right; simp [fidx, c]; omega
end Go.Proofs.YtfnedoiplblldaaSep

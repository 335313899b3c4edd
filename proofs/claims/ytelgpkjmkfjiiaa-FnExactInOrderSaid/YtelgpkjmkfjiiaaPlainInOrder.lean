/- The plain law of FnExactInOrder: what the printed function computes is true for every input. Conditions: the length is a slice's. -/
import Derived.Test.YtelgpkjmkfjiiaaPFnExactInOrderx
namespace Go.Proofs.Ytelgpkjmkfjiiaa.FnExactInOrderPlain
open Go.RowKit Go.Proofs.YtelgpkjmkfjiiaaW.PrintWords Go.Proofs.Ytelgpkjmkfjiiaa.PFnExactInOrder

theorem wrap64_in' {x : Int} (h0 : -9223372036854775808 ≤ x) (h1 : x ≤ 9223372036854775807) : wrap64 x = x := by unfold wrap64; omega
theorem wrap64_nat {i n : Nat} (h : i < n) (hn : n ≤ 1048576) : wrap64 ((i : Int) + 1) = ((i + 1 : Nat) : Int) := by unfold wrap64; omega

/-! tags -/
def cv (a : S32) : S37 := ⟨a.f0, a.f1, a.f2⟩
theorem rd32 (l : List S32) (i : Nat) (h : i < l.length) : rd_T32 l (i : Int) = l[i] := by simp [rd_T32, List.getD, h]
theorem set_step {α β : Type} (f : α → β) (l : List α) (acc : List β) (i : Nat) (h : i < l.length) (ha : acc.length = l.length) :
    (acc.set i (f l[i])).take (i + 1) ++ (l.drop (i + 1)).map f = acc.take i ++ (l.drop i).map f := by
  rw [List.drop_eq_getElem_cons h, List.map_cons, List.take_succ_eq_append_getElem (by simpa [ha] using h), List.take_set_of_le (Nat.le_refl _)]
  simp
theorem toTagS_l (l : List S32) (hn : l.length ≤ 1048576) (d : Nat) : ∀ (k i : Nat) (acc : List S37), i ≤ l.length → l.length - i = d → d < k → acc.length = l.length →
    laws_toTagS.l0 k l acc (i : Int) = some (acc.take i ++ (l.drop i).map cv) := by
  induction d with
  | zero =>
    intro k i acc h1 hd hk ha
    obtain ⟨k, rfl⟩ : ∃ m, k = m + 1 := ⟨k - 1, by omega⟩
    obtain rfl : i = l.length := by omega
    simp only [laws_toTagS.l0]
    rw [if_neg (by omega)]
    simp [List.take_of_length_le (Nat.le_of_eq ha)]
  | succ d ih =>
    intro k i acc h1 hd hk ha
    obtain ⟨k, rfl⟩ : ∃ m, k = m + 1 := ⟨k - 1, by omega⟩
    have hi : i < l.length := by omega
    simp only [laws_toTagS.l0]
    rw [if_pos (by omega), if_pos (by omega), rd32 l i hi]
    simp only [laws_toTag.f, Option.bind_some]
    rw [if_pos (by omega), wrap64_nat hi hn, Int.toNat_natCast]
    have h2 := ih k (i + 1) (acc.set i (cv l[i])) (by omega) (by omega) (by omega) (by simpa using ha)
    rw [set_step cv l acc i hi ha] at h2
    exact h2
theorem toTagS_f (l : List S32) (hn : l.length ≤ 1048576) (k : Nat) (hk : l.length < k) : laws_toTagS.f k l = some (l.map cv) := by
  unfold laws_toTagS.f
  rw [if_pos (by omega), if_pos (by rw [Int.toNat_natCast]; omega), Int.toNat_natCast]
  have h := toTagS_l l hn l.length k 0 (List.replicate l.length z37) (by omega) (by omega) hk (by simp)
  simpa using h
theorem eqTagS_l (l : List S37) (hn : l.length ≤ 1048576) (d : Nat) : ∀ (k i : Nat), i ≤ l.length → l.length - i = d → d < k → laws_eqTagS.l0 k l l (i : Int) = some true := by
  induction d with
  | zero =>
    intro k i h1 hd hk
    obtain ⟨k, rfl⟩ : ∃ m, k = m + 1 := ⟨k - 1, by omega⟩
    simp only [laws_eqTagS.l0]
    rw [if_neg (by omega)]
  | succ d ih =>
    intro k i h1 hd hk
    obtain ⟨k, rfl⟩ : ∃ m, k = m + 1 := ⟨k - 1, by omega⟩
    have hi : i < l.length := by omega
    simp only [laws_eqTagS.l0]
    rw [if_pos (by omega), if_pos (by omega), if_pos (by omega)]
    simp only [laws_eqTag.f, if_true, Option.bind_some]
    rw [wrap64_nat hi hn]
    exact ih k (i + 1) (by omega) (by omega) (by omega)
theorem eqTagS_f (l : List S37) (hn : l.length ≤ 1048576) (k : Nat) (hk : l.length < k) : laws_eqTagS.f k l l = some true := by
  unfold laws_eqTagS.f
  rw [if_pos rfl]
  exact eqTagS_l l hn l.length k 0 (by omega) (by omega) hk
theorem szTagS_f (l : List S32) (h : l.length ≤ 9223372036854775807) : ∃ r, laws_szTagS.f l 1048576 = some r ∧ (r < 0 ∨ l.length ≤ 1048576) := by
  have e : wrap64 (1048576 - (l.length : Int)) = 1048576 - (l.length : Int) := wrap64_in' (by omega) (by omega)
  unfold laws_szTagS.f
  rw [e]
  by_cases h1 : (1048576 - (l.length : Int)) < 0
  · exact ⟨-1, by rw [if_pos h1], .inl (by omega)⟩
  · exact ⟨_, by rw [if_neg h1], .inr (by omega)⟩

/-! the first tag that is late -/
theorem rd_take (l : List S37) (i j : Int) (h : j < i) (h0 : 0 ≤ j) : rd_T37 (l.take i.toNat) j = rd_T37 l j := by
  have : j.toNat < i.toNat := by omega
  simp [rd_T37, List.getD, this]
theorem len_take (l : List S37) (i : Int) (h : i < (l.length : Int)) (h0 : 0 ≤ i) : ((l.take i.toNat).length : Int) = i := by
  rw [List.length_take]; omega
theorem same (l : List S37) (hn : l.length ≤ 1048576) : ∀ k : Nat, (∀ i : Int, 0 ≤ i → impl_firstLate.l0 k l l (l.length : Int) i = spec_FirstLate.l0 k l i) ∧
    (∀ i j : Int, 0 ≤ i → i < (l.length : Int) → 0 ≤ j → impl_firstLate.l1 k l i l (l.length : Int) i (l.take i.toNat) ((l.take i.toNat).length : Int) j (rd_T37 l i).f0 (rd_T37 l i).f1 (rd_T37 l i).f2 = spec_FirstLate.l1 k l i j) := by
  intro k
  induction k with
  | zero => exact ⟨fun _ _ => by simp only [impl_firstLate.l0, spec_FirstLate.l0], fun _ _ _ _ _ => by simp only [impl_firstLate.l1, spec_FirstLate.l1]⟩
  | succ k ih =>
    obtain ⟨ih0, ih1⟩ := ih
    constructor
    · intro i hi
      simp only [impl_firstLate.l0, spec_FirstLate.l0]
      by_cases h : i < (l.length : Int)
      · rw [if_pos h, if_pos hi, if_pos h, if_pos (by omega), if_pos h]
        exact ih1 i 0 hi h (by omega)
      · rw [if_neg h, if_neg h]
    · intro i j hi h hj
      simp only [impl_firstLate.l1, spec_FirstLate.l1]
      have e := len_take l i h hi
      by_cases hji : j < i
      · have ew : wrap64 (j + 1) = j + 1 := wrap64_in' (by omega) (by omega)
        have hr := ih1 i (j + 1) hi h (by omega)
        rw [e] at hr ⊢
        have hjl : j < (l.length : Int) := by omega
        simp only [if_pos hji, if_pos hj, if_pos hjl, if_pos hi, if_pos h, rd_take l i j hji hj, ew, hr]
      · have ew : wrap64 (i + 1) = i + 1 := wrap64_in' (by omega) (by omega)
        rw [e, if_neg hji, if_neg hji, ew]
        exact ih0 (i + 1) (by omega)
theorem ends (l : List S37) (hn : l.length ≤ 1048576) : ∀ k : Nat, (∀ i : Nat, i ≤ l.length → (l.length - i) * (l.length + 3) + 1 ≤ k → ∃ r, spec_FirstLate.l0 k l (i : Int) = some r) ∧
    (∀ i j : Nat, i < l.length → j ≤ i → (l.length - i) * (l.length + 3) ≤ k + j → ∃ r, spec_FirstLate.l1 k l (i : Int) (j : Int) = some r) := by
  intro k
  induction k with
  | zero =>
    refine ⟨fun i _ h => absurd h (by omega), fun i j hi hj h => absurd h ?_⟩
    obtain ⟨e, he⟩ : ∃ e, l.length - i = e + 1 := ⟨l.length - i - 1, by omega⟩
    rw [he, Nat.succ_mul]
    omega
  | succ k ih =>
    obtain ⟨ih0, ih1⟩ := ih
    constructor
    · intro i hi hk
      simp only [spec_FirstLate.l0]
      by_cases h : i < l.length
      · rw [if_pos (by omega)]
        exact ih1 i 0 h (by omega) (by omega)
      · exact ⟨-1, by rw [if_neg (by omega)]⟩
    · intro i j hi hj hk
      simp only [spec_FirstLate.l1]
      obtain ⟨e, he⟩ : ∃ e, l.length - i = e + 1 := ⟨l.length - i - 1, by omega⟩
      rw [he, Nat.succ_mul] at hk
      by_cases h : j < i
      · rw [if_pos (by omega), if_pos (by omega), if_pos (by omega), if_pos (by omega), if_pos (by omega), wrap64_nat (n := l.length) (by omega) hn]
        obtain ⟨r, hr⟩ := ih1 i (j + 1) hi (by omega) (by rw [he, Nat.succ_mul]; omega)
        rw [hr]
        split
        · split
          · split
            · exact ⟨_, rfl⟩
            · exact ⟨_, rfl⟩
          · exact ⟨_, rfl⟩
        · exact ⟨_, rfl⟩
      · rw [if_neg (by omega), wrap64_nat hi hn]
        exact ih0 (i + 1) (by omega) (by rw [show l.length - (i + 1) = e by omega]; omega)
/-- With enough rounds the program and the reference return one number. -/
theorem late (l : List S37) (hn : l.length ≤ 1048576) : ∃ r, ∀ k, l.length * (l.length + 3) + 1 ≤ k → spec_FirstLate.f k l = some r ∧ impl_firstLate.f k l = some r := by
  obtain ⟨r, hr⟩ := (ends l hn (l.length * (l.length + 3) + 1)).1 0 (by omega) (by simp)
  refine ⟨r, fun k hk => ?_⟩
  have h : spec_FirstLate.f k l = some r := at_rounds (g := fun k => spec_FirstLate.f k l) (fun k => spec_FirstLate.mono l k) hk hr
  exact ⟨h, by rw [← h]; exact (same l hn k).1 0 (by omega)⟩
theorem plain (l : List S32) {Q : Prop} (h : l.length ≤ 9223372036854775807 ∧ Q) : ∃ k, laws_FnExactInOrder.f k l = some true := by
  obtain ⟨s, hs, hs'⟩ := szTagS_f l h.1
  by_cases h0 : s < 0
  · exact ⟨0, by unfold laws_FnExactInOrder.f; rw [hs]; simp only [Option.bind_some]; rw [if_pos h0]⟩
  have hn : l.length ≤ 1048576 := by rcases hs' with h1 | h1; exact absurd h1 h0; exact h1
  have hm : (l.map cv).length ≤ 1048576 := by simpa using hn
  obtain ⟨r, hr⟩ := late (l.map cv) hm
  obtain ⟨h1, h2⟩ := hr ((l.map cv).length * ((l.map cv).length + 3) + 1 + l.length) (by omega)
  have hml : (l.map cv).length = l.length := by simp
  refine ⟨(l.map cv).length * ((l.map cv).length + 3) + 1 + l.length, ?_⟩
  unfold laws_FnExactInOrder.f impl_InOrder.f spec_InOrder.f
  rw [hs]; simp only [Option.bind_some]
  rw [if_neg h0, toTagS_f l hn _ (by omega)]; simp only [Option.bind_some]
  rw [h1]; simp only [Option.bind_some]
  rw [h2]; simp only [Option.bind_some]
  rw [if_neg (by simp), eqTagS_f (l.map cv) hm _ (by rw [hml]; omega)]
  rfl
end Go.Proofs.Ytelgpkjmkfjiiaa.FnExactInOrderPlain

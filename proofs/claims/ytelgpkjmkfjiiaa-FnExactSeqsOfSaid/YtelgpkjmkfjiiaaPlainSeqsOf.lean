/- The plain law of FnExactSeqsOf: what the printed function computes is true for every input. Conditions: the length is a slice's. -/
import Derived.Test.YtelgpkjmkfjiiaaPFnExactSeqsOfx
namespace Go.Proofs.Ytelgpkjmkfjiiaa.FnExactSeqsOfPlain
open Go.RowKit Go.Proofs.YtelgpkjmkfjiiaaW.PrintWords Go.Proofs.Ytelgpkjmkfjiiaa.PFnExactSeqsOf

theorem wrap64_in' {x : Int} (h0 : -9223372036854775808 ≤ x) (h1 : x ≤ 9223372036854775807) : wrap64 x = x := by unfold wrap64; omega
theorem wrap64_nat {i n : Nat} (h : i < n) (hn : n ≤ 1048576) : wrap64 ((i : Int) + 1) = ((i + 1 : Nat) : Int) := by unfold wrap64; omega

/-! tags -/
def cv (a : S32) : S37 := ⟨a.f0, a.f1, a.f2⟩
theorem rd32 (l : List S32) (i : Nat) (h : i < l.length) : rd_T32 l (i : Int) = l[i] := by simp [rd_T32, List.getD, h]
theorem set_step {α β : Type} (f : α → β) (l : List α) (acc : List β) (i : Nat) (h : i < l.length) (ha : acc.length = l.length) :
    (acc.set i (f l[i])).take (i + 1) ++ (l.drop (i + 1)).map f = acc.take i ++ (l.drop i).map f := by
  rw [List.drop_eq_getElem_cons h, List.map_cons, List.take_succ_eq_append_getElem (by simpa [ha] using h), List.take_set_of_le (Nat.le_refl _)]
  simp
theorem toTagS_l (l : List S32) (hn : l.length ≤ 1048576) (d : Nat) : ∀ (k i : Nat) (acc : List S37), i ≤ l.length → l.length - i = d → d < k → acc.length = l.length →
    laws_toTagS.l0 k l acc (i : Int) = some (acc.take i ++ (l.drop i).map cv) := by
  induction d with
  | zero =>
    intro k i acc h1 hd hk ha
    obtain ⟨k, rfl⟩ : ∃ m, k = m + 1 := ⟨k - 1, by omega⟩
    obtain rfl : i = l.length := by omega
    simp only [laws_toTagS.l0]
    rw [if_neg (by omega)]
    simp [List.take_of_length_le (Nat.le_of_eq ha)]
  | succ d ih =>
    intro k i acc h1 hd hk ha
    obtain ⟨k, rfl⟩ : ∃ m, k = m + 1 := ⟨k - 1, by omega⟩
    have hi : i < l.length := by omega
    simp only [laws_toTagS.l0]
    rw [if_pos (by omega), if_pos (by omega), rd32 l i hi]
    simp only [laws_toTag.f, Option.bind_some]
    rw [if_pos (by omega), wrap64_nat hi hn, Int.toNat_natCast]
    have h2 := ih k (i + 1) (acc.set i (cv l[i])) (by omega) (by omega) (by omega) (by simpa using ha)
    rw [set_step cv l acc i hi ha] at h2
    exact h2
theorem toTagS_f (l : List S32) (hn : l.length ≤ 1048576) (k : Nat) (hk : l.length < k) : laws_toTagS.f k l = some (l.map cv) := by
  unfold laws_toTagS.f
  rw [if_pos (by omega), if_pos (by rw [Int.toNat_natCast]; omega), Int.toNat_natCast]
  have h := toTagS_l l hn l.length k 0 (List.replicate l.length z37) (by omega) (by omega) hk (by simp)
  simpa using h
theorem eqTagS_l (l : List S37) (hn : l.length ≤ 1048576) (d : Nat) : ∀ (k i : Nat), i ≤ l.length → l.length - i = d → d < k → laws_eqTagS.l0 k l l (i : Int) = some true := by
  induction d with
  | zero =>
    intro k i h1 hd hk
    obtain ⟨k, rfl⟩ : ∃ m, k = m + 1 := ⟨k - 1, by omega⟩
    simp only [laws_eqTagS.l0]
    rw [if_neg (by omega)]
  | succ d ih =>
    intro k i h1 hd hk
    obtain ⟨k, rfl⟩ : ∃ m, k = m + 1 := ⟨k - 1, by omega⟩
    have hi : i < l.length := by omega
    simp only [laws_eqTagS.l0]
    rw [if_pos (by omega), if_pos (by omega), if_pos (by omega)]
    simp only [laws_eqTag.f, if_true, Option.bind_some]
    rw [wrap64_nat hi hn]
    exact ih k (i + 1) (by omega) (by omega) (by omega)
theorem eqTagS_f (l : List S37) (hn : l.length ≤ 1048576) (k : Nat) (hk : l.length < k) : laws_eqTagS.f k l l = some true := by
  unfold laws_eqTagS.f
  rw [if_pos rfl]
  exact eqTagS_l l hn l.length k 0 (by omega) (by omega) hk
theorem szTagS_f (l : List S32) (h : l.length ≤ 9223372036854775807) : ∃ r, laws_szTagS.f l 1048576 = some r ∧ (r < 0 ∨ l.length ≤ 1048576) := by
  have e : wrap64 (1048576 - (l.length : Int)) = 1048576 - (l.length : Int) := wrap64_in' (by omega) (by omega)
  unfold laws_szTagS.f
  rw [e]
  by_cases h1 : (1048576 - (l.length : Int)) < 0
  · exact ⟨-1, by rw [if_pos h1], .inl (by omega)⟩
  · exact ⟨_, by rw [if_neg h1], .inr (by omega)⟩

/-! the numbers of a reference -/
theorem rd37 (l : List S37) (i : Nat) (h : i < l.length) : rd_T37 l (i : Int) = l[i] := by simp [rd_T37, List.getD, h]
def seqs (l : List S37) (a b : Int) : List Int := (l.filter fun t => decide (t.f0 = a ∧ t.f1 = b)).map (·.f2)
theorem seqs_cons (t : S37) (l : List S37) (a b : Int) : seqs (t :: l) a b = (if t.f0 = a ∧ t.f1 = b then [t.f2] else []) ++ seqs l a b := by
  unfold seqs
  by_cases h : t.f0 = a ∧ t.f1 = b
  · simp [h]
  · simp [h]
theorem seqs_len (l : List S37) (a b : Int) : (seqs l a b).length ≤ l.length := by
  unfold seqs; rw [List.length_map]; exact List.length_filter_le _ _
theorem spec_l (l : List S37) (a b : Int) (hn : l.length ≤ 1048576) (d : Nat) : ∀ (k i : Nat) (acc : List Int), i ≤ l.length → l.length - i = d → d < k → acc.length ≤ i →
    spec_SeqsOf.l0 k l a b acc (i : Int) = some (acc ++ seqs (l.drop i) a b) := by
  induction d with
  | zero =>
    intro k i acc h1 hd hk ha
    obtain ⟨k, rfl⟩ : ∃ m, k = m + 1 := ⟨k - 1, by omega⟩
    obtain rfl : i = l.length := by omega
    simp only [spec_SeqsOf.l0]
    rw [if_neg (by omega)]
    simp [seqs]
  | succ d ih =>
    intro k i acc h1 hd hk ha
    obtain ⟨k, rfl⟩ : ∃ m, k = m + 1 := ⟨k - 1, by omega⟩
    have hi : i < l.length := by omega
    simp only [spec_SeqsOf.l0]
    rw [if_pos (by omega), if_pos (by omega), rd37 l i hi, wrap64_nat hi hn, List.drop_eq_getElem_cons hi, seqs_cons]
    by_cases e1 : l[i].f0 = a
    · by_cases e2 : l[i].f1 = b
      · rw [if_pos e1, if_pos e2, if_pos (by omega), ih k (i + 1) _ (by omega) (by omega) (by omega) (by simp; omega), if_pos ⟨e1, e2⟩, List.append_assoc]
      · rw [if_pos e1, if_neg e2, ih k (i + 1) _ (by omega) (by omega) (by omega) (by omega), if_neg (fun h => e2 h.2), List.nil_append]
    · rw [if_neg e1, ih k (i + 1) _ (by omega) (by omega) (by omega) (by omega), if_neg (fun h => e1 h.1), List.nil_append]
theorem impl_l (l : List S37) (a b : Int) (hn : l.length ≤ 1048576) (d : Nat) : ∀ (k i : Nat) (acc : List Int), i ≤ l.length → l.length - i = d → d < k → acc.length ≤ i →
    impl_SeqsOf.l0 k a b acc l (l.length : Int) (i : Int) = some (acc ++ seqs (l.drop i) a b) := by
  induction d with
  | zero =>
    intro k i acc h1 hd hk ha
    obtain ⟨k, rfl⟩ : ∃ m, k = m + 1 := ⟨k - 1, by omega⟩
    obtain rfl : i = l.length := by omega
    simp only [impl_SeqsOf.l0]
    rw [if_neg (by omega)]
    simp [seqs]
  | succ d ih =>
    intro k i acc h1 hd hk ha
    obtain ⟨k, rfl⟩ : ∃ m, k = m + 1 := ⟨k - 1, by omega⟩
    have hi : i < l.length := by omega
    simp only [impl_SeqsOf.l0]
    rw [if_pos (by omega), if_pos (by omega), if_pos (by omega), rd37 l i hi, wrap64_nat hi hn, List.drop_eq_getElem_cons hi, seqs_cons]
    by_cases e1 : l[i].f0 = a
    · by_cases e2 : l[i].f1 = b
      · rw [if_pos e1, if_pos e2, if_pos (by omega), ih k (i + 1) _ (by omega) (by omega) (by omega) (by simp; omega), if_pos ⟨e1, e2⟩, List.append_assoc]
      · rw [if_pos e1, if_neg e2, ih k (i + 1) _ (by omega) (by omega) (by omega) (by omega), if_neg (fun h => e2 h.2), List.nil_append]
    · rw [if_neg e1, ih k (i + 1) _ (by omega) (by omega) (by omega) (by omega), if_neg (fun h => e1 h.1), List.nil_append]
theorem spec_f (l : List S37) (a b : Int) (hn : l.length ≤ 1048576) (k : Nat) (hk : l.length < k) : spec_SeqsOf.f k l a b = some (seqs l a b) := by
  unfold spec_SeqsOf.f
  have h := spec_l l a b hn l.length k 0 [] (by omega) (by omega) hk (by simp)
  simpa using h
theorem impl_f (l : List S37) (a b : Int) (hn : l.length ≤ 1048576) (k : Nat) (hk : l.length < k) : impl_SeqsOf.f k l a b = some (seqs l a b) := by
  unfold impl_SeqsOf.f
  have h := impl_l l a b hn l.length k 0 [] (by omega) (by omega) hk (by simp)
  simpa using h

/-! ints: compared, marked, held -/
theorem rdi (l : List Int) (i : Nat) (h : i < l.length) : rd l (i : Int) = l[i] := by simp [rd, List.getD, h]
theorem eqIntS_l (l : List Int) (hn : l.length ≤ 1048576) (d : Nat) : ∀ (k i : Nat), i ≤ l.length → l.length - i = d → d < k → laws_eqIntS.l0 k l l (i : Int) = some true := by
  induction d with
  | zero =>
    intro k i h1 hd hk
    obtain ⟨k, rfl⟩ : ∃ m, k = m + 1 := ⟨k - 1, by omega⟩
    simp only [laws_eqIntS.l0]
    rw [if_neg (by omega)]
  | succ d ih =>
    intro k i h1 hd hk
    obtain ⟨k, rfl⟩ : ∃ m, k = m + 1 := ⟨k - 1, by omega⟩
    have hi : i < l.length := by omega
    simp only [laws_eqIntS.l0]
    simp only [if_true]
    rw [if_pos (by omega), if_pos (by omega), if_pos (by omega), wrap64_nat hi hn]
    exact ih k (i + 1) (by omega) (by omega) (by omega)
theorem eqIntS_f (l : List Int) (hn : l.length ≤ 1048576) (k : Nat) (hk : l.length < k) : laws_eqIntS.f k l l = some true := by
  unfold laws_eqIntS.f
  rw [if_pos rfl]
  exact eqIntS_l l hn l.length k 0 (by omega) (by omega) hk
theorem wrap_int {x : Int} (h0 : 0 ≤ x) (h : x ≤ 9000000000000000000) : wrap64 (x + 1) = x + 1 := by unfold wrap64; omega
/-- Marking: the places from i on hold q, q + 1, .. afterwards. -/
theorem markIntS_l (n : Nat) (hn : n ≤ 1048576) (d : Nat) : ∀ (k i : Nat) (q : Int) (l : List Int), l.length = n → i ≤ n → n - i = d → d < k → 0 ≤ q → q ≤ 4000000 + i →
    ∃ l', laws_markIntS.l0 k l q (i : Int) = some (q + (n - i), l') ∧ l'.length = n ∧ (∀ j (h : j < l'.length), (j < i → l'[j]? = l[j]?) ∧ (i ≤ j → l'[j] = q + (j - i))) := by
  induction d with
  | zero =>
    intro k i q l hl h1 hd hk hq hq2
    obtain ⟨k, rfl⟩ : ∃ m, k = m + 1 := ⟨k - 1, by omega⟩
    refine ⟨l, ?_, hl, fun j h => ⟨fun _ => rfl, fun hj => by omega⟩⟩
    simp only [laws_markIntS.l0]
    rw [if_neg (by omega), show q + ((n : Int) - i) = q by omega]
  | succ d ih =>
    intro k i q l hl h1 hd hk hq hq2
    obtain ⟨k, rfl⟩ : ∃ m, k = m + 1 := ⟨k - 1, by omega⟩
    have hi : i < l.length := by omega
    obtain ⟨l', h2, h3, h4⟩ := ih k (i + 1) (q + 1) (l.set i q) (by simpa using hl) (by omega) (by omega) (by omega) (by omega) (by omega)
    refine ⟨l', ?_, h3, fun j h => ⟨fun hj => ?_, fun hj => ?_⟩⟩
    · simp only [laws_markIntS.l0]
      rw [if_pos (by omega), if_pos (by omega), wrap64_nat hi (by omega), wrap_int hq (by omega), Int.toNat_natCast, h2, show q + 1 + ((n : Int) - (i + 1 : Nat)) = q + (n - i) by omega]
    · rw [(h4 j h).1 (by omega), List.getElem?_set_ne (by omega)]
    · by_cases e : j = i
      · subst e
        have h5 := (h4 j h).1 (by omega)
        rw [List.getElem?_set_self hi, List.getElem?_eq_getElem h] at h5
        rw [Option.some.inj h5]; omega
      · rw [(h4 j h).2 (by omega)]; omega
theorem heldIntS_l (l : List Int) (hn : l.length ≤ 1048576) (c : Int) (hc : 0 ≤ c) (hc2 : c ≤ 4000000) (hl : ∀ j (h : j < l.length), l[j] = c + j) (d : Nat) : ∀ (k i : Nat), i ≤ l.length → l.length - i = d → d < k →
    laws_heldIntS.l0 k l (c + i) (i : Int) = some (c + l.length) := by
  induction d with
  | zero =>
    intro k i h1 hd hk
    obtain ⟨k, rfl⟩ : ∃ m, k = m + 1 := ⟨k - 1, by omega⟩
    simp only [laws_heldIntS.l0]
    rw [if_neg (by omega), show i = l.length by omega]
  | succ d ih =>
    intro k i h1 hd hk
    obtain ⟨k, rfl⟩ : ∃ m, k = m + 1 := ⟨k - 1, by omega⟩
    have hi : i < l.length := by omega
    simp only [laws_heldIntS.l0]
    rw [if_pos (by omega), if_pos (by omega), rdi l i hi, if_pos (hl i hi), wrap64_nat hi hn, wrap_int (by omega) (by omega)]
    have h2 := ih k (i + 1) (by omega) (by omega) (by omega)
    rw [show c + (i : Int) + 1 = c + ((i + 1 : Nat) : Int) by omega]
    exact h2
theorem held_marked (l : List Int) (hn : l.length ≤ 1048576) (k : Nat) (hk : l.length < k) : ∃ l' : List Int, laws_markIntS.f k l 1 = some (1 + (l.length : Int), l') ∧ laws_heldIntS.f k l' 1 = some (1 + (l.length : Int)) := by
  obtain ⟨l', h1, h2, h3⟩ := markIntS_l l.length hn l.length k 0 1 l rfl (by omega) (by omega) hk (by omega) (by omega)
  refine ⟨l', ?_, ?_⟩
  · unfold laws_markIntS.f
    have := h1
    simpa using this
  · unfold laws_heldIntS.f
    have := heldIntS_l l' (by omega) 1 (by omega) (by omega) (fun j h => by rw [(h3 j h).2 (by omega)]; omega) l'.length k 0 (by omega) (by omega) (by omega)
    rw [h2] at this
    simpa using this
/-- Marking the tags: it ends. -/
theorem markTagS_l (n : Nat) (hn : n ≤ 1048576) (d : Nat) : ∀ (k i : Nat) (q : Int) (l : List S37), l.length = n → i ≤ n → n - i = d → d < k → 0 ≤ q → q ≤ 4000000 + 3 * i →
    ∃ r, laws_markTagS.l0 k l q (i : Int) = some r ∧ 0 ≤ r.1 := by
  induction d with
  | zero =>
    intro k i q l hl h1 hd hk hq hq2
    obtain ⟨k, rfl⟩ : ∃ m, k = m + 1 := ⟨k - 1, by omega⟩
    refine ⟨(q, l), ?_, hq⟩
    simp only [laws_markTagS.l0]
    rw [if_neg (by omega)]
  | succ d ih =>
    intro k i q l hl h1 hd hk hq hq2
    obtain ⟨k, rfl⟩ : ∃ m, k = m + 1 := ⟨k - 1, by omega⟩
    have hi : i < l.length := by omega
    simp only [laws_markTagS.l0]
    simp only [wrap64_nat hi (show l.length ≤ 1048576 by omega), wrap_int hq (show q ≤ 9000000000000000000 by omega), wrap_int (x := q + 1) (by omega) (by omega), wrap_int (x := q + 1 + 1) (by omega) (by omega)]
    rw [if_pos (by omega), if_pos (by omega)]
    repeat rw [if_pos (by simp; omega)]
    exact ih k (i + 1) _ _ (by simpa using hl) (by omega) (by omega) (by omega) (by omega) (by omega)
theorem markTagS_f (l : List S37) (hn : l.length ≤ 1048576) (k : Nat) (hk : l.length < k) : ∃ r, laws_markTagS.f k l 1 = some r ∧ 0 ≤ r.1 := by
  unfold laws_markTagS.f
  exact markTagS_l l.length hn l.length k 0 1 l rfl (by omega) (by omega) hk (by omega) (by omega)
theorem plain (l : List S32) {Q : Prop} (h : l.length ≤ 9223372036854775807 ∧ Q) (a : Int) {Qa : Prop} (_ : Qa) (b : Int) {Qb : Prop} (_ : Qb) : ∃ k, laws_FnExactSeqsOf.f k l a b = some true := by
  obtain ⟨s, hs, hs'⟩ := szTagS_f l h.1
  by_cases h0 : s < 0
  · exact ⟨0, by unfold laws_FnExactSeqsOf.f; rw [hs]; simp only [Option.bind_some]; rw [if_pos h0]⟩
  have hn : l.length ≤ 1048576 := by rcases hs' with h1 | h1; exact absurd h1 h0; exact h1
  have hm : (l.map cv).length ≤ 1048576 := by simpa using hn
  have hml : (l.map cv).length = l.length := by simp
  have hq : (seqs (l.map cv) a b).length ≤ l.length := hml ▸ seqs_len (l.map cv) a b
  obtain ⟨r, hr, hr0⟩ := markTagS_f (l.map cv) hm (l.length + 2) (by omega)
  obtain ⟨l', hm1, hm2⟩ := held_marked (seqs (l.map cv) a b) (by omega) (l.length + 1) (by omega)
  refine ⟨l.length + 2, ?_⟩
  unfold laws_FnExactSeqsOf.f
  rw [hs]; simp only [Option.bind_some]
  rw [if_neg h0, toTagS_f l hn _ (by omega)]; simp only [Option.bind_some]
  rw [spec_f _ a b hm _ (by omega)]; simp only [Option.bind_some]
  rw [impl_f _ a b hm _ (by omega)]; simp only [Option.bind_some]
  rw [eqIntS_f _ (by omega) _ (by omega)]; simp only [Option.bind_some, if_true]
  rw [eqTagS_f (l.map cv) hm _ (by rw [hml]; omega)]; simp only [Option.bind_some, if_true]
  rw [hr]; simp only [Option.bind_some]
  rw [if_neg (by omega)]
  simp only [laws_FnExactSeqsOf.j0, Bool.not_true]
  rw [if_neg (by simp), hm1]; simp only [Option.bind_some]
  rw [hm2]; simp only [Option.bind_some]
  rw [if_neg (by omega), if_pos trivial, toTagS_f l hn _ (by omega)]; simp only [Option.bind_some]
  rw [impl_f _ a b hm _ (by omega)]; simp only [Option.bind_some]
  rw [eqIntS_f _ (by omega) _ (by omega)]; simp only [Option.bind_some, if_true]
  rw [if_neg (by omega)]
end Go.Proofs.Ytelgpkjmkfjiiaa.FnExactSeqsOfPlain

/- Rows appended whole: elements that are read (of a flat kind) or moved (with their blocks). No conditions. -/
import Derived.Test.YtfnedoiplblldaaSep2
import Derived.WalkSpells
namespace Go.Proofs.YtfnedoiplblldaaSep
open Go.ChangeShapes Go.WideShapes Go.RowKit
section
variable {α : Type} {d : Kn α} {e : Nat} {w w' : World} {F : Nat → Prop} {v : Value} {xs ys : List α}
/-- Nothing of this kind lies outside its own cells. -/
def Flat (d : Kn α) : Prop := ∀ w w' F x cs, d.K w x cs → d.M w' F x cs
/-- A row of elements that lie in blocks of their own: Fs i those of element i. -/
def CM (d : Kn α) (w : World) (A : Option Addr) (xs : List α) (Fs : Nat → Nat → Prop) : Prop :=
  xs.length ≤ 9223372036854775807 ∧ (0 < xs.length → ∃ ad, A = some ad ∧ ∀ j p, xs[j]? = some p → ∃ c, d.M w (Fs j) p c ∧ ∀ i u, c[i]? = some u → w.cell? (ad.add (j * d.sz + i)) = some u)
theorem CM_of_flat (hf : Flat d) {A : Option Addr} (h : C d w A xs) : CM d w A xs (fun _ => No) := by
  refine ⟨h.1, fun hp => ?_⟩
  obtain ⟨ad, rfl, k⟩ := h.2 hp
  refine ⟨ad, rfl, fun j p hj => ?_⟩
  obtain ⟨c, k1, k2⟩ := k j p hj
  exact ⟨c, hf _ _ _ _ _ k1, k2⟩
theorem CM_news {ad : Addr} {Fs : Nat → Nat → Prop} (k : ∀ j p, xs[j]? = some p → ∃ c, d.M w (Fs j) p c ∧ ∀ i u, c[i]? = some u → w.cell? (ad.add (j * d.sz + i)) = some u) (n : Nat) (hn : n ≤ xs.length) :
    ∃ news : List Value, news.length = n * d.sz ∧ (∀ j u, news[j]? = some u → w.cell? (ad.add j) = some u ∧ u.oneCell' = true) ∧ ∀ i x, i < n → xs[i]? = some x → d.M w (Fs i) x (piece d.sz news i) := by
  induction n with
  | zero => exact ⟨[], by simp, fun j u h => by simp at h, fun i x h => by omega⟩
  | succ n ih =>
    obtain ⟨news, h1, h2, h3⟩ := ih (by omega)
    obtain ⟨c, k1, k2⟩ := k n xs[n] (List.getElem?_eq_getElem (by omega))
    have hc := d.K_of_M k1
    have hl := d.K_len hc
    refine ⟨news ++ c, by rw [List.length_append, h1, hl, Nat.succ_mul], fun j u hj => ?_, fun i x hi hx => ?_⟩
    · rcases Nat.lt_or_ge j news.length with hjl | hjl
      · rw [List.getElem?_append_left hjl] at hj
        exact h2 j u hj
      · rw [List.getElem?_append_right hjl] at hj
        have := k2 _ u hj
        rw [show n * d.sz + (j - news.length) = j by rw [← h1]; omega] at this
        exact ⟨this, d.K_one hc u (List.mem_of_getElem? hj)⟩
    · rcases Nat.lt_or_ge i n with hin | hin
      · have hp : piece d.sz (news ++ c) i = piece d.sz news i := by
          have h4 : i * d.sz + d.sz ≤ news.length := by rw [h1, ← Nat.succ_mul]; exact Nat.mul_le_mul_right _ hin
          unfold piece
          rw [List.drop_append_of_le_length (by omega), List.take_append_of_le_length (by rw [List.length_drop]; omega)]
        rw [hp]
        exact h3 i x hin hx
      · obtain rfl : i = n := by omega
        have hx2 : xs[i] = x := by rw [List.getElem?_eq_getElem (by omega)] at hx; exact Option.some.inj hx
        have hp : piece d.sz (news ++ c) i = c := by
          unfold piece
          rw [← h1, List.drop_left, List.take_of_length_le (by omega)]
        rw [hp, ← hx2]
        exact k1
end
section
variable {α : Type} {d : Kn α} {e : Nat} {F : Nat → Prop} {v : Value} {xs ys : List α} {P : Program} {ops : Array Oper} {rest : List Oper} {o : Oper} {a : Act} {Q : Exit → Act → World → Prop}
/-- append(s, t...) of a row whose elements come along with their blocks. -/
theorem R_appRow {W : World} (hgd : o.guard = none) (s x : Operand) (t : TypeId) (z : Value) (bytes : Nat)
    (ho : o.op = .call { callee := .builtin .append, args := #[s, x], argTypes := #[t, t] })
    (ht : P.underlying t = some (.slice e)) (hinfo : (P.info? e).map (fun i => (i.zero, i.size, i.bytes)) = some (some z, d.sz, bytes)) (hz : z.cells.size = d.sz) (hs0 : 0 < d.sz) (hb0 : 0 < bytes)
    (ad : Addr) (c : Nat) (Gs : Nat → Nat → Prop) (hs : a.eval s = v) (hx : a.eval x = .slice (some ad) ys.length c) (HR : R d e W F v xs)
    (HC : ∀ j p, ys[j]? = some p → ∃ c, d.M W (Gs j) p c ∧ ∀ i u, c[i]? = some u → W.cell? (ad.add (j * d.sz + i)) = some u) (hd : ∀ j b, Gs j b → ¬ F b) (hd2 : ∀ i j b, Gs i b → Gs j b → i = j) (hl : (xs.length + ys.length) * bytes ≤ 140737488355328)
    (h : ∀ v1 w1, R d e w1 (fun b => F b ∨ (∃ j, j < ys.length ∧ Gs j b) ∨ W.heap.size ≤ b) v1 (xs ++ ys) → Upd F W w1 → wpList P ops Q rest (a.put o.dst v1) w1) :
    wpList P ops Q (o :: rest) a W := by
  obtain ⟨i0, hi, hzz⟩ := Option.map_eq_some_iff.1 hinfo
  simp only [Prod.mk.injEq] at hzz
  obtain ⟨hz0, hz1, hz2⟩ := hzz
  have hlen : xs.length + ys.length ≤ 140737488355328 := Nat.le_trans (Nat.le_mul_of_pos_right _ hb0) hl
  obtain ⟨inner, Fs, k1, k2, k3, k4, k5⟩ := owns_of_R (R_lt HR)
  obtain ⟨news, n1, n2, n3⟩ := CM_news (d := d) HC ys.length (Nat.le_refl _)
  refine wpList_append_own_at W hgd s x t ho 0 e i0 z d.sz bytes ht hi hz0 hz1 hz2 hz hs0 v xs.length inner hs k1 ad ys.length c news hx n1 (fun j u hu => (n2 j u hu).1)
    (fun u hu => by obtain ⟨j, hj⟩ := List.mem_iff_getElem?.1 hu; exact (n2 j u hj).2) (by simp only [maxLen]; omega) hl (Nat.zero_le _) ?_
  intro v1 w1 hown hg _ hat
  have hU : Upd F W w1 := (Upd.of_grown hg).mono (fun b hb q => by
    have hb' : v.ownBlock = some b := q.symm
    exact (k2 b hb').1)
  have hne : ∀ b, b < W.heap.size → v.ownBlock ≠ some b → v1.ownBlock ≠ some b := by
    intro b hb hv
    rcases hat with hat | hat
    · rw [hat]; exact hv
    · rw [hat]
      intro q
      injection q with q
      omega
  have hfr : ∀ b, b < W.heap.size → v.ownBlock ≠ some b → w1.heap[b]? = W.heap[b]? := fun b hb hv => hg.block b hb (fun q => hv q.symm)
  refine h v1 w1 (R_of_owns (xs := xs ++ ys) (base := 0) (inner := inner ++ news) (by rw [List.length_append]; exact hown) (fun g hg' => ?_) (fun i b => if i < xs.length then Fs i b else i - xs.length < ys.length ∧ Gs (i - xs.length) b ∧ b < W.heap.size) (fun i b hb => ?_) (fun i j b hi' hj' => ?_) (fun i x' hx' => ?_)) hU
  · rcases hat with hat | hat
    · exact .inl (k2 g (hat ▸ hg')).1
    · rw [hat] at hg'
      injection hg' with q
      exact .inr (.inr (by rw [← q]; exact Nat.le_refl _))
  · by_cases c : i < xs.length
    · simp only [c, if_true] at hb
      have := k3 i b hb
      exact ⟨.inl this.1.1, hne b this.1.2 this.2⟩
    · simp only [c, if_false] at hb
      exact ⟨.inr (.inl ⟨_, hb.1, hb.2.1⟩), hne b hb.2.2 (fun q => hd _ b hb.2.1 (k2 b q).1)⟩
  · by_cases c : i < xs.length <;> by_cases c' : j < xs.length
    · simp only [c, c', if_true] at hi' hj'
      exact k4 i j b hi' hj'
    · simp only [c, c', if_true, if_false] at hi' hj'
      exact absurd (k3 i b hi').1.1 (hd _ b hj'.2.1)
    · simp only [c, c', if_true, if_false] at hi' hj'
      exact absurd (k3 j b hj').1.1 (hd _ b hi'.2.1)
    · simp only [c, c', if_false] at hi' hj'
      have := hd2 _ _ b hi'.2.1 hj'.2.1
      omega
  · by_cases c : i < xs.length
    · simp only [c, if_true]
      rw [List.getElem?_append_left c] at hx'
      have hpc : piece d.sz (inner ++ news) i = piece d.sz inner i := by
        have h1 : i * d.sz + d.sz ≤ inner.length := by rw [k1.1, ← Nat.succ_mul]; exact Nat.mul_le_mul_right _ c
        unfold piece
        rw [List.drop_append_of_le_length (by omega), List.take_append_of_le_length (by rw [List.length_drop]; omega)]
      rw [hpc]
      exact d.M_mono (fun _ q => q.1) (d.M_same (fun b hb => hfr b hb.2 (k3 i b hb.1).2) (d.M_lt (k5 i x' hx')))
    · simp only [c, if_false]
      have hil := (List.getElem?_eq_some_iff.1 hx').1
      rw [List.getElem?_append_right (by omega)] at hx'
      have hjl : i - xs.length < ys.length := (List.getElem?_eq_some_iff.1 hx').1
      have hpc : piece d.sz (inner ++ news) i = piece d.sz news (i - xs.length) := by
        have h1 : inner.length = xs.length * d.sz := k1.1
        have h2 : i * d.sz = inner.length + (i - xs.length) * d.sz := by rw [h1, ← Nat.add_mul]; congr 1; omega
        unfold piece
        rw [h2, List.drop_append, List.drop_eq_nil_of_le (Nat.le_add_right _ _), List.nil_append, Nat.add_sub_cancel_left]
      rw [hpc]
      exact d.M_mono (fun _ q => ⟨hjl, q.1, q.2⟩) (d.M_same (fun b hb => hfr b hb.2 (fun q => hd _ b hb.1 (k2 b q).1)) (d.M_lt (n3 _ x' hjl hx')))
/-- append(s, x), the box's block number said in other words -/
theorem R_appOne {W : World} (hgd : o.guard = none) (s x : Operand) (t : TypeId) (z : Value) (bytes : Nat)
    (ho : o.op = .call { callee := .builtin .append, args := #[s, x], argTypes := #[t, t] })
    (ht : P.underlying t = some (.slice e)) (hinfo : (P.info? e).map (fun i => (i.zero, i.size, i.bytes)) = some (some z, d.sz, bytes)) (hz : z.cells.size = d.sz) (hs0 : 0 < d.sz) (hb0 : 0 < bytes)
    (p : α) (cs : List Value) (Fp : Nat → Prop) (g : Nat) (hg : W.heap.size = g) (hs : a.eval s = v) (hx : a.eval x = .slice (some ⟨g, 0, none⟩) 1 1) (HR : R d e W F v xs) (hp : d.M W Fp p cs) (hd : ∀ b, Fp b → ¬ F b) (hl : (xs.length + 1) * bytes ≤ 140737488355328)
    (h : ∀ v1 w1, R d e w1 (fun b => F b ∨ Fp b ∨ W.heap.size ≤ b) v1 (xs ++ [p]) → Upd F W w1 → wpList P ops Q rest (a.put o.dst v1) w1) :
    wpList P ops Q (o :: rest) a (W.alloc (.cells cs.toArray e)) :=
  R_app hgd s x t z bytes ho ht hinfo hz hs0 hb0 p cs Fp hs (hg ▸ hx) HR hp hd hl h
theorem run_app (W : World) (t ty : TypeId) (z : Value) (bytes : Nat)
    (ht : P.underlying t = some (.slice e)) (hinfo : (P.info? e).map (fun i => (i.zero, i.size, i.bytes)) = some (some z, d.sz, bytes)) (hz : z.cells.size = d.sz) (hs0 : 0 < d.sz) (hb0 : 0 < bytes)
    (p : α) (cs : List Value) (Fp : Nat → Prop) (HR : R d e W F v xs) (hp : d.M W Fp p cs) (hd : ∀ b, Fp b → ¬ F b) (hl : (xs.length + 1) * bytes ≤ 140737488355328) :
    ∃ v1 w1, (Builtin.append_ #[t, t] ty #[v, .slice (some ⟨W.heap.size, 0, none⟩) 1 1]).run P (W.alloc (.cells cs.toArray e)) = .ok v1 w1 ∧ R d e w1 (fun b => F b ∨ Fp b ∨ W.heap.size ≤ b) v1 (xs ++ [p]) ∧ Upd F W w1 := by
  obtain ⟨i0, hi, hzz⟩ := Option.map_eq_some_iff.1 hinfo
  simp only [Prod.mk.injEq] at hzz
  obtain ⟨hz0, hz1, hz2⟩ := hzz
  have hlen : xs.length + 1 ≤ 140737488355328 := Nat.le_trans (Nat.le_mul_of_pos_right _ hb0) hl
  obtain ⟨inner, Fs, k1, k2, k3, k4, k5⟩ := owns_of_R (R_lt HR)
  have hcs := d.K_of_M hp
  obtain ⟨v1, w1, hr, hown, hg, _, hat⟩ := run_append_own_at (P := P) (W.alloc (.cells cs.toArray e)) 0 t ty e i0 z d.sz bytes ht hi hz0 hz1 hz2 hz hs0 v xs.length inner (k1.alloc _) ⟨W.heap.size, 0, none⟩ 1 1 cs (by rw [d.K_len hcs]; simp)
    (by simpa using World.news_of_block (cs := cs.toArray) (t := e) (fr := (0, 0)) (heap_alloc_new W (.cells cs.toArray e))) (d.K_one hcs) (by simp only [maxLen]; omega) hl (Nat.zero_le _)
  have hU : Upd F W w1 := ((Upd.refl F W).alloc _).trans (Upd.of_grown hg) (fun _ _ q => q) (fun b hb q => by
    have hb' : v.ownBlock = some b := q.symm
    exact (k2 b hb').1)
  have hne : ∀ b, b < W.heap.size → v.ownBlock ≠ some b → v1.ownBlock ≠ some b := by
    intro b hb hv
    rcases hat with hat | hat
    · rw [hat]; exact hv
    · rw [hat]
      intro q
      injection q with q
      have : (W.alloc (.cells cs.toArray e)).heap.size = W.heap.size + 1 := by simp
      omega
  have hfr : ∀ b, b < W.heap.size → v.ownBlock ≠ some b → w1.heap[b]? = W.heap[b]? := by
    intro b hb hv
    rw [hg.block b (by simp; omega) (fun q => hv q.symm)]
    exact heap_alloc_old W _ hb
  refine ⟨v1, w1, hr, R_of_owns (xs := xs ++ [p]) (base := 0) (inner := inner ++ cs) (by simpa using hown) (fun g hg' => ?_) (fun i b => if i < xs.length then Fs i b else i = xs.length ∧ Fp b ∧ b < W.heap.size) (fun i b hb => ?_) (fun i j b hi' hj' => ?_) (fun i x' hx' => ?_), hU⟩
  · rcases hat with hat | hat
    · exact .inl (k2 g (hat ▸ hg')).1
    · rw [hat] at hg'
      injection hg' with q
      exact .inr (.inr (by rw [← q]; simp))
  · by_cases c : i < xs.length
    · simp only [c, if_true] at hb
      have := k3 i b hb
      exact ⟨.inl this.1.1, hne b this.1.2 this.2⟩
    · simp only [c, if_false] at hb
      exact ⟨.inr (.inl hb.2.1), hne b hb.2.2 (fun q => hd b hb.2.1 (k2 b q).1)⟩
  · by_cases c : i < xs.length <;> by_cases c' : j < xs.length
    · simp only [c, c', if_true] at hi' hj'
      exact k4 i j b hi' hj'
    · simp only [c, c', if_true, if_false] at hi' hj'
      exact absurd (k3 i b hi').1.1 (hd b hj'.2.1)
    · simp only [c, c', if_true, if_false] at hi' hj'
      exact absurd (k3 j b hj').1.1 (hd b hi'.2.1)
    · simp only [c, c', if_false] at hi' hj'
      omega
  · by_cases c : i < xs.length
    · simp only [c, if_true]
      rw [List.getElem?_append_left c] at hx'
      have hpc : piece d.sz (inner ++ cs) i = piece d.sz inner i := by
        have h1 : i * d.sz + d.sz ≤ inner.length := by rw [k1.1, ← Nat.succ_mul]; exact Nat.mul_le_mul_right _ c
        unfold piece
        rw [List.drop_append_of_le_length (by omega), List.take_append_of_le_length (by rw [List.length_drop]; omega)]
      rw [hpc]
      exact d.M_mono (fun _ q => q.1) (d.M_same (fun b hb => hfr b hb.2 (k3 i b hb.1).2) (d.M_lt (k5 i x' hx')))
    · simp only [c, if_false]
      have hil := (List.getElem?_eq_some_iff.1 hx').1
      have hi' : i = xs.length := by simp at hil; omega
      subst hi'
      have hx2 : p = x' := by simpa using hx'
      subst hx2
      have hpc : piece d.sz (inner ++ cs) xs.length = cs := by
        unfold piece
        rw [← k1.1, List.drop_left, List.take_of_length_le (by rw [d.K_len hcs]; exact Nat.le_refl _)]
      rw [hpc]
      exact d.M_mono (fun _ q => ⟨rfl, q.1, q.2⟩) (d.M_same (fun b hb => hfr b hb.2 (fun q => hd b hb.1 (k2 b q).1)) (d.M_lt hp))
/-- append(s, x) at a step of a region that draws its order. -/
theorem R_appStep {K : Act → World → Prop} {E : Prop} {W : World} (hgd : o.guard = none) (s x : Operand) (t : TypeId) (z : Value) (bytes : Nat)
    (ho : o.op = .call { callee := .builtin .append, args := #[s, x], argTypes := #[t, t] })
    (ht : P.underlying t = some (.slice e)) (hinfo : (P.info? e).map (fun i => (i.zero, i.size, i.bytes)) = some (some z, d.sz, bytes)) (hz : z.cells.size = d.sz) (hs0 : 0 < d.sz) (hb0 : 0 < bytes)
    (p : α) (cs : List Value) (Fp : Nat → Prop) (g : Nat) (hg : W.heap.size = g) (hs : a.eval s = v) (hx : a.eval x = .slice (some ⟨g, 0, none⟩) 1 1) (HR : R d e W F v xs) (hp : d.M W Fp p cs) (hd : ∀ b, Fp b → ¬ F b) (hl : (xs.length + 1) * bytes ≤ 140737488355328)
    (hK : ∀ v1 w1, R d e w1 (fun b => F b ∨ Fp b ∨ W.heap.size ≤ b) v1 (xs ++ [p]) → Upd F W w1 → K (a.put o.dst v1) w1) :
    if Region.wanted o (yielded ops a.tmps) = true then Oper.wp P o a (W.alloc (.cells cs.toArray e)) K Q else E := by
  have hw : Region.wanted o (yielded ops a.tmps) = true := by simp [Region.wanted, hgd]
  rw [if_pos hw]
  obtain ⟨v1, w1, hrun, h1, h2⟩ := run_app (P := P) W t o.type z bytes ht hinfo hz hs0 hb0 p cs Fp HR hp hd hl
  subst hg
  unfold Oper.wp
  simp [execOp, ho, resolve, invoke, builtin, hs, hx, hrun, Result.andThen]
  exact hK v1 w1 h1 h2
/-- append(s, nil...) -/
theorem R_appNone {W : World} (hgd : o.guard = none) (s x : Operand) (t : TypeId) (z : Value) (bytes : Nat)
    (ho : o.op = .call { callee := .builtin .append, args := #[s, x], argTypes := #[t, t] })
    (ht : P.underlying t = some (.slice e)) (hinfo : (P.info? e).map (fun i => (i.zero, i.size, i.bytes)) = some (some z, d.sz, bytes))
    (c : Nat) (hs : a.eval s = v) (hx : a.eval x = .slice none 0 c) (HR : R d e W F v xs) (h : wpList P ops Q rest (a.put o.dst v) W) :
    wpList P ops Q (o :: rest) a W := by
  obtain ⟨i0, hi, hzz⟩ := Option.map_eq_some_iff.1 hinfo
  refine wpList_plain hgd fun K hK => ?_
  have hrun : (Builtin.append_ #[t, t] o.type #[v, .slice none 0 c]).run P W = .ok v W := by
    rcases HR with ⟨rfl, rfl⟩ | ⟨g, cap, cur, Fs, rfl, _, _, hnc, _⟩
    · simp [Builtin.append_, run_underlying ht, sizeOf, typeInfo, hi, Builtin.lenOf, Builtin.firstCells]
    · simp [Builtin.append_, run_underlying ht, sizeOf, typeInfo, hi, Builtin.lenOf, Builtin.firstCells, hnc, storeCells]
  unfold Oper.wp
  simp [execOp, ho, resolve, invoke, builtin, hs, hx, hrun, Result.andThen]
  exact hK _ _ h
/-- append(s, t...), t whatever it is. -/
theorem R_appAny {W : World} (hgd : o.guard = none) (s x : Operand) (t : TypeId) (z : Value) (bytes : Nat)
    (ho : o.op = .call { callee := .builtin .append, args := #[s, x], argTypes := #[t, t] })
    (ht : P.underlying t = some (.slice e)) (hinfo : (P.info? e).map (fun i => (i.zero, i.size, i.bytes)) = some (some z, d.sz, bytes)) (hz : z.cells.size = d.sz) (hs0 : 0 < d.sz) (hb0 : 0 < bytes)
    (A : Option Addr) (c : Nat) (Gs : Nat → Nat → Prop) (hs : a.eval s = v) (hx : a.eval x = .slice A ys.length c) (HR : R d e W F v xs)
    (HC : CM d W A ys Gs) (hd : ∀ j b, Gs j b → ¬ F b) (hd2 : ∀ i j b, Gs i b → Gs j b → i = j) (hl : (xs.length + ys.length) * bytes ≤ 140737488355328)
    (h : ∀ v1 w1, R d e w1 (fun b => F b ∨ (∃ j, j < ys.length ∧ Gs j b) ∨ W.heap.size ≤ b) v1 (xs ++ ys) → Upd F W w1 → wpList P ops Q rest (a.put o.dst v1) w1) :
    wpList P ops Q (o :: rest) a W := by
  rcases A with _ | ad
  · have h0 : ys = [] := by
      cases ys with
      | nil => rfl
      | cons x l => obtain ⟨ad, q, _⟩ := HC.2 (by simp); cases q
    subst h0
    exact R_appNone hgd s x t z bytes ho ht hinfo c hs hx HR (h _ _ (by rw [List.append_nil]; exact R_mono (fun _ q => .inl q) HR) (Upd.refl _ _))
  · refine R_appRow hgd s x t z bytes ho ht hinfo hz hs0 hb0 ad c Gs hs hx HR (fun j p hj => ?_) hd hd2 hl h
    obtain ⟨ad', q, k⟩ := HC.2 (Nat.lt_of_le_of_lt (Nat.zero_le _) (List.getElem?_eq_some_iff.1 hj).1)
    cases q
    exact k j p hj
end
section
variable {α β : Type} {d : Kn α} {e : Nat}
theorem R_empty (W : World) : R d e (W.alloc (.cells #[] e)) (New W) (.slice (some ⟨W.heap.size, 0, none⟩) 0 0) [] :=
  .inr ⟨W.heap.size, 0, #[], fun _ _ => False, rfl, heap_alloc_new W _, Nat.le_refl _, Nat.le_refl _, by omega, by simp, fun _ _ h => h.elim, fun _ _ _ h => h.elim, fun i x hx => by simp at hx⟩
/-- The blocks from a up to b. -/
def Iv (a b : Nat) : Nat → Prop := fun x => a ≤ x ∧ x < b
theorem R_iv {w w1 : World} {v : Value} {xs : List α} (h : R d e w1 (New w) v xs) : R d e w1 (Iv w.heap.size w1.heap.size) v xs := R_lt h
theorem Iv_apart {a b c d : Nat} (h : b ≤ c ∨ d ≤ a) : ∀ x, Iv a b x → ¬ Iv c d x := by
  intro x h1 h2
  simp only [Iv] at h1 h2
  omega
theorem Upd.iv {w w1 w2 : World} {a b : Nat} (h : Upd No w w1) (k : Upd (Iv a b) w1 w2) (ha : w.heap.size ≤ a) : Upd No w w2 :=
  h.trans k (fun _ _ q => q) (fun x hx q => by simp only [Iv] at q; omega)
theorem R_emptyAt (W : World) (g : Nat) (hg : W.heap.size = g) : R d e (W.alloc (.cells #[] e)) (New W) (.slice (some ⟨g, 0, none⟩) 0 0) [] := hg ▸ R_empty W
theorem flat_scalar (enc : α → Value) (h1 : ∀ x, (enc x).oneCell' = true) : Flat (Kn.scalar enc h1) := fun _ _ _ _ _ h => h
theorem flat_pair {a : Kn α} {b : Kn β} (ha : Flat a) (hb : Flat b) : Flat (Kn.pair a b) := by
  rintro w w' F x cs ⟨c0, c1, rfl, h0, h1⟩
  exact ⟨c0, c1, No, No, rfl, ha _ _ _ _ _ h0, hb _ _ _ _ _ h1, fun _ h => h.elim, fun _ h => h.elim, fun _ h => h.elim⟩
theorem flat_iso {d : Kn α} (f : β → α) (h : Flat d) : Flat (Kn.iso d f) := fun w w' F x cs k => h w w' F (f x) cs k
theorem CM_upd {A : Option Addr} {xs : List α} {Fs : Nat → Nat → Prop} {w w' : World} (h : Upd No w w') (k : CM d w A xs Fs) : CM d w' A xs Fs := by
  refine ⟨k.1, fun hp => ?_⟩
  obtain ⟨ad, rfl, q⟩ := k.2 hp
  refine ⟨ad, rfl, fun j p hj => ?_⟩
  obtain ⟨c, k1, k2⟩ := q j p hj
  exact ⟨c, M_upd h (fun _ _ q => q) k1, fun i u hu => h.read (k2 i u hu)⟩
end
end Go.Proofs.YtfnedoiplblldaaSep

/- Boxes: a block known whole, carried over allocations, stores and calls. No conditions. -/
import Derived.Test.YtfnedoiplblldaaSep3
import Derived.Test.YtfnedoiplblldaaLst
import Derived.Deep.RegionHeld3
namespace Go.Proofs.YtfnedoiplblldaaSep
open Go.ChangeShapes Go.WideShapes Go.RowKit
/-- Block g is known whole: its cells are cs. -/
def Blk (w : World) (g t : Nat) (cs : Array Value) : Prop := w.heap[g]? = some (.cells cs t (0, 0))
section
variable {w w' : World} {g g' t : Nat} {cs : Array Value} {F : Nat → Prop}
theorem Blk.cell (h : Blk w g t cs) (o : Nat) : w.cell? ⟨g, o, none⟩ = cs[o]? := by rw [cell_of_row w g _ cs t (0, 0) h]
theorem Blk.at (h : Blk w g t cs) (o : Nat) {v : Value} (hv : cs[o]? = some v) : w.cell? ⟨g, o, none⟩ = some v := (h.cell o).trans hv
theorem Blk.free (h : Blk w g t cs) (o : Nat) : w.frozen? ⟨g, o, none⟩ = false := by unfold Blk at h; simp [World.frozen?, h]
theorem Blk.lt (h : Blk w g t cs) : g < w.heap.size := heap_lt h
theorem Blk.new (w : World) (t : Nat) (cs : Array Value) : Blk (w.alloc (.cells cs t)) w.heap.size t cs := heap_alloc_new w (.cells cs t)
theorem Blk.newAt (hg : w.heap.size = g) : Blk (w.alloc (.cells cs t)) g t cs := hg ▸ Blk.new w t cs
theorem Blk.alloc (h : Blk w g t cs) (o : Obj) : Blk (w.alloc o) g t cs := (heap_alloc_old w o (Blk.lt h)).trans h
theorem Blk.drew (h : Blk w g t cs) : Blk w.drew g t cs := h
theorem Blk.drewN (h : Blk w g t cs) (n : Nat) : Blk (w.drewN n) g t cs := h
theorem Blk.same (h : Blk w g t cs) (i : Nat) (u : Value) : Blk (w.setCell ⟨g, i, none⟩ u) g t (cs.setIfInBounds i u) := blk_set h i u
theorem Blk.other (h : Blk w g t cs) (hne : g ≠ g') (i : Nat) (u : Value) : Blk (w.setCell ⟨g', i, none⟩ u) g t cs := (Below.heap_setCell w ⟨g', i, none⟩ u g hne).trans h
theorem Blk.upd (h : Blk w g t cs) (hu : Upd F w w') (hF : ¬ F g) : Blk w' g t cs := (hu.block g (Blk.lt h) hF).trans h
theorem Blk.no (h : Blk w g t cs) (hu : Upd No w w') : Blk w' g t cs := h.upd hu (fun q => q)
end
theorem R_C' {α : Type} {d : Kn α} {e : Nat} {w : World} {F : Nat → Prop} {v : Value} {xs : List α} (h : R d e w F v xs) : ∃ A c, v = .slice A xs.length c ∧ xs.length ≤ c ∧ C d w A xs := R_reads h
section
variable {α : Type} {d : Kn α} {e : Nat} {F : Nat → Prop} {v : Value} {xs ys : List α} {P : Program} {ops : Array Oper} {rest : List Oper} {o : Oper} {a : Act} {Q : Exit → Act → World → Prop}
theorem run_appRow (W : World) (t ty : TypeId) (z : Value) (bytes : Nat)
    (ht : P.underlying t = some (.slice e)) (hinfo : (P.info? e).map (fun i => (i.zero, i.size, i.bytes)) = some (some z, d.sz, bytes)) (hz : z.cells.size = d.sz) (hs0 : 0 < d.sz) (hb0 : 0 < bytes)
    (ad : Addr) (c : Nat) (Gs : Nat → Nat → Prop) (HR : R d e W F v xs)
    (HC : ∀ j p, ys[j]? = some p → ∃ c, d.M W (Gs j) p c ∧ ∀ i u, c[i]? = some u → W.cell? (ad.add (j * d.sz + i)) = some u) (hd : ∀ j b, Gs j b → ¬ F b) (hd2 : ∀ i j b, Gs i b → Gs j b → i = j) (hl : (xs.length + ys.length) * bytes ≤ 140737488355328) :
    ∃ v1 w1, (Builtin.append_ #[t, t] ty #[v, .slice (some ad) ys.length c]).run P W = .ok v1 w1 ∧ R d e w1 (fun b => F b ∨ (∃ j, j < ys.length ∧ Gs j b) ∨ W.heap.size ≤ b) v1 (xs ++ ys) ∧ Upd F W w1 := by
  obtain ⟨i0, hi, hzz⟩ := Option.map_eq_some_iff.1 hinfo
  simp only [Prod.mk.injEq] at hzz
  obtain ⟨hz0, hz1, hz2⟩ := hzz
  have hlen : xs.length + ys.length ≤ 140737488355328 := Nat.le_trans (Nat.le_mul_of_pos_right _ hb0) hl
  obtain ⟨inner, Fs, k1, k2, k3, k4, k5⟩ := owns_of_R (R_lt HR)
  obtain ⟨news, n1, n2, n3⟩ := CM_news (d := d) HC ys.length (Nat.le_refl _)
  obtain ⟨v1, w1, hr, hown, hg, _, hat⟩ := run_append_own_at (P := P) (w := W) 0 t ty e i0 z d.sz bytes ht hi hz0 hz1 hz2 hz hs0 v xs.length inner k1 ad ys.length c news n1 (fun j u hu => (n2 j u hu).1)
    (fun u hu => by obtain ⟨j, hj⟩ := List.mem_iff_getElem?.1 hu; exact (n2 j u hj).2) (by simp only [maxLen]; omega) hl (Nat.zero_le _)
  have hU : Upd F W w1 := (Upd.of_grown hg).mono (fun b hb q => by
    have hb' : v.ownBlock = some b := q.symm
    exact (k2 b hb').1)
  have hne : ∀ b, b < W.heap.size → v.ownBlock ≠ some b → v1.ownBlock ≠ some b := by
    intro b hb hv
    rcases hat with hat | hat
    · rw [hat]; exact hv
    · rw [hat]
      intro q
      injection q with q
      omega
  have hfr : ∀ b, b < W.heap.size → v.ownBlock ≠ some b → w1.heap[b]? = W.heap[b]? := fun b hb hv => hg.block b hb (fun q => hv q.symm)
  refine ⟨v1, w1, hr, R_of_owns (xs := xs ++ ys) (base := 0) (inner := inner ++ news) (by rw [List.length_append]; exact hown) (fun g hg' => ?_) (fun i b => if i < xs.length then Fs i b else i - xs.length < ys.length ∧ Gs (i - xs.length) b ∧ b < W.heap.size) (fun i b hb => ?_) (fun i j b hi' hj' => ?_) (fun i x' hx' => ?_), hU⟩
  · rcases hat with hat | hat
    · exact .inl (k2 g (hat ▸ hg')).1
    · rw [hat] at hg'
      injection hg' with q
      exact .inr (.inr (by rw [← q]; exact Nat.le_refl _))
  · by_cases c : i < xs.length
    · simp only [c, if_true] at hb
      have := k3 i b hb
      exact ⟨.inl this.1.1, hne b this.1.2 this.2⟩
    · simp only [c, if_false] at hb
      exact ⟨.inr (.inl ⟨_, hb.1, hb.2.1⟩), hne b hb.2.2 (fun q => hd _ b hb.2.1 (k2 b q).1)⟩
  · by_cases c : i < xs.length <;> by_cases c' : j < xs.length
    · simp only [c, c', if_true] at hi' hj'
      exact k4 i j b hi' hj'
    · simp only [c, c', if_true, if_false] at hi' hj'
      exact absurd (k3 i b hi').1.1 (hd _ b hj'.2.1)
    · simp only [c, c', if_true, if_false] at hi' hj'
      exact absurd (k3 j b hj').1.1 (hd _ b hi'.2.1)
    · simp only [c, c', if_false] at hi' hj'
      have := hd2 _ _ b hi'.2.1 hj'.2.1
      omega
  · by_cases c : i < xs.length
    · simp only [c, if_true]
      rw [List.getElem?_append_left c] at hx'
      have hpc : piece d.sz (inner ++ news) i = piece d.sz inner i := by
        have h1 : i * d.sz + d.sz ≤ inner.length := by rw [k1.1, ← Nat.succ_mul]; exact Nat.mul_le_mul_right _ c
        unfold piece
        rw [List.drop_append_of_le_length (by omega), List.take_append_of_le_length (by rw [List.length_drop]; omega)]
      rw [hpc]
      exact d.M_mono (fun _ q => q.1) (d.M_same (fun b hb => hfr b hb.2 (k3 i b hb.1).2) (d.M_lt (k5 i x' hx')))
    · simp only [c, if_false]
      have hil := (List.getElem?_eq_some_iff.1 hx').1
      rw [List.getElem?_append_right (by omega)] at hx'
      have hjl : i - xs.length < ys.length := (List.getElem?_eq_some_iff.1 hx').1
      have hpc : piece d.sz (inner ++ news) i = piece d.sz news (i - xs.length) := by
        have h1 : inner.length = xs.length * d.sz := k1.1
        have h2 : i * d.sz = inner.length + (i - xs.length) * d.sz := by rw [h1, ← Nat.add_mul]; congr 1; omega
        unfold piece
        rw [h2, List.drop_append, List.drop_eq_nil_of_le (Nat.le_add_right _ _), List.nil_append, Nat.add_sub_cancel_left]
      rw [hpc]
      exact d.M_mono (fun _ q => ⟨hjl, q.1, q.2⟩) (d.M_same (fun b hb => hfr b hb.2 (fun q => hd _ b hb.1 (k2 b q).1)) (d.M_lt (n3 _ x' hjl hx')))
/-- append(s, t...) at a step of a region that draws its order. -/
theorem R_appRowStep {K : Act → World → Prop} {E : Prop} {W : World} (hgd : o.guard = none) (s x : Operand) (t : TypeId) (z : Value) (bytes : Nat)
    (ho : o.op = .call { callee := .builtin .append, args := #[s, x], argTypes := #[t, t] })
    (ht : P.underlying t = some (.slice e)) (hinfo : (P.info? e).map (fun i => (i.zero, i.size, i.bytes)) = some (some z, d.sz, bytes)) (hz : z.cells.size = d.sz) (hs0 : 0 < d.sz) (hb0 : 0 < bytes)
    (ad : Addr) (c : Nat) (Gs : Nat → Nat → Prop) (hs : a.eval s = v) (hx : a.eval x = .slice (some ad) ys.length c) (HR : R d e W F v xs)
    (HC : ∀ j p, ys[j]? = some p → ∃ c, d.M W (Gs j) p c ∧ ∀ i u, c[i]? = some u → W.cell? (ad.add (j * d.sz + i)) = some u) (hd : ∀ j b, Gs j b → ¬ F b) (hd2 : ∀ i j b, Gs i b → Gs j b → i = j) (hl : (xs.length + ys.length) * bytes ≤ 140737488355328)
    (hK : ∀ v1 w1, R d e w1 (fun b => F b ∨ (∃ j, j < ys.length ∧ Gs j b) ∨ W.heap.size ≤ b) v1 (xs ++ ys) → Upd F W w1 → K (a.put o.dst v1) w1) :
    if Region.wanted o (yielded ops a.tmps) = true then Oper.wp P o a W K Q else E := by
  have hw : Region.wanted o (yielded ops a.tmps) = true := by simp [Region.wanted, hgd]
  rw [if_pos hw]
  obtain ⟨v1, w1, hrun, h1, h2⟩ := run_appRow (P := P) W t o.type z bytes ht hinfo hz hs0 hb0 ad c Gs HR HC hd hd2 hl
  unfold Oper.wp
  simp [execOp, ho, resolve, invoke, builtin, hs, hx, hrun, Result.andThen]
  exact hK v1 w1 h1 h2
/-- append(s, x), x's box standing somewhere. -/
theorem R_appAtStep {K : Act → World → Prop} {E : Prop} {W : World} (hgd : o.guard = none) (s x : Operand) (t : TypeId) (z : Value) (bytes : Nat)
    (ho : o.op = .call { callee := .builtin .append, args := #[s, x], argTypes := #[t, t] })
    (ht : P.underlying t = some (.slice e)) (hinfo : (P.info? e).map (fun i => (i.zero, i.size, i.bytes)) = some (some z, d.sz, bytes)) (hz : z.cells.size = d.sz) (hs0 : 0 < d.sz) (hb0 : 0 < bytes)
    (p : α) (cs : List Value) (Fp : Nat → Prop) (g : Nat) (hs : a.eval s = v) (hx : a.eval x = .slice (some ⟨g, 0, none⟩) 1 1) (hB : Blk W g e cs.toArray) (HR : R d e W F v xs) (hp : d.M W Fp p cs) (hd : ∀ b, Fp b → ¬ F b) (hl : (xs.length + 1) * bytes ≤ 140737488355328)
    (hK : ∀ v1 w1, R d e w1 (fun b => F b ∨ Fp b ∨ W.heap.size ≤ b) v1 (xs ++ [p]) → Upd F W w1 → K (a.put o.dst v1) w1) :
    if Region.wanted o (yielded ops a.tmps) = true then Oper.wp P o a W K Q else E := by
  refine R_appRowStep (ys := [p]) hgd s x t z bytes ho ht hinfo hz hs0 hb0 ⟨g, 0, none⟩ 1 (fun j b => j = 0 ∧ Fp b) hs hx HR ?_ (fun j b hb => hd b hb.2) (fun i j b hi hj => hi.1.trans hj.1.symm) hl ?_
  · intro j q hj
    rcases j with _ | j
    · simp only [List.getElem?_cons_zero, Option.some.injEq] at hj
      subst hj
      refine ⟨cs, d.M_mono (fun _ q => ⟨rfl, q⟩) hp, fun i u hu => ?_⟩
      rw [Nat.zero_mul, Nat.zero_add, add_plain, hB.cell]
      simpa using hu
    · simp at hj
  · intro v1 w1 h1 h2
    exact hK v1 w1 (R_mono (fun b q => by rcases q with q | ⟨j, hj, q⟩ | q; exact .inl q; exact .inr (.inl q.2); exact .inr (.inr q)) h1) h2
end
section
variable {α : Type} {d : Kn α} {e : Nat} {w w' : World} {F : Nat → Prop} {v : Value} {xs : List α} {x : α} {cs : List Value}
theorem M_no (h : Upd No w w') (k : d.M w F x cs) : d.M w' F x cs := M_upd h (fun _ _ q => q) k
theorem R_no (h : Upd No w w') (k : R d e w F v xs) : R d e w' F v xs := R_upd h (fun _ _ q => q) k
end
theorem add_add (ad : Addr) (m k : Nat) (hm : 0 < m) : (ad.add m).add k = ad.add (m + k) := by
  unfold Addr.add
  by_cases hk : k = 0
  · subst hk; simp
  · have h1 : m ≠ 0 := by omega
    have h2 : m + k ≠ 0 := by omega
    simp [hk, h1, Nat.add_assoc]
/-- An own row that is not empty: its first element, and the row behind it. -/
theorem R_CM1 {α : Type} {d : Kn α} {e : Nat} {w : World} {F : Nat → Prop} {v : Value} {x : α} {xs : List α} (h : R d e w F v (x :: xs)) (sz : Nat) (hs : d.sz = sz) (h0 : 0 < sz) : ∃ (g c : Nat) (Fs : Nat → Nat → Prop) (cs : List Value), v = .slice (some ⟨g, 0, none⟩) (xs.length + 1) c ∧ xs.length + 1 ≤ c ∧ c ≤ 9223372036854775807 ∧ d.M w (Fs 0) x cs ∧ (∀ j u, cs[j]? = some u → w.cell? ⟨g, j, none⟩ = some u) ∧ CM d w (some ⟨g, sz, none⟩) xs (fun j => Fs (j + 1)) ∧ (∀ i b, Fs i b → F b) ∧ (∀ i j b, Fs i b → Fs j b → i = j) ∧ g < w.heap.size := by
  subst hs
  rcases h with ⟨_, hx⟩ | ⟨g, cap, cur, Fs, h1, h2, h3, h4, h5, h6, h7, h8, h9⟩
  · cases hx
  · have hp := h9 0 x rfl
    refine ⟨g, cap, Fs, _, by simpa using h1, by simpa using h4, h5, hp, fun j u hu => ?_, ⟨by simp at h4; omega, fun _ => ⟨_, rfl, fun j p hj => ⟨_, h9 (j + 1) p (by simpa using hj), fun i u hu => ?_⟩⟩⟩, fun i b hb => (h7 i b hb).1, h8, heap_lt h2⟩
    · rw [cell_of_row w g _ cur e (0, 0) h2]
      have hj : j < d.sz := by have := (List.getElem?_eq_some_iff.1 hu).1; simp [piece] at this; omega
      simp [piece, hj] at hu
      exact hu
    · have hi : i < d.sz := by have := (List.getElem?_eq_some_iff.1 hu).1; simp [piece] at this; omega
      have e1 : (⟨g, d.sz, none⟩ : Addr).add (j * d.sz + i) = ⟨g, (j + 1) * d.sz + i, none⟩ := by
        rw [Nat.succ_mul]
        unfold Addr.add
        split
        · have : j * d.sz = 0 ∧ i = 0 := by omega
          exact congrArg (fun z => (⟨g, z, none⟩ : Addr)) (by omega)
        · simp; omega
      rw [e1, cell_of_row w g _ cur e (0, 0) h2]
      simp [piece, hi] at hu
      exact hu
theorem C_tail {α : Type} {d : Kn α} {w : World} {ad : Addr} {x : α} {xs : List α} (h : C d w (some ad) (x :: xs)) (h0 : 0 < d.sz) : C d w (some (ad.add d.sz)) xs := by
  refine ⟨by have := h.1; simp at this; omega, fun _ => ⟨_, rfl, fun j p hj => ?_⟩⟩
  obtain ⟨ad', q, k⟩ := h.2 (by simp)
  cases q
  obtain ⟨c, k1, k2⟩ := k (j + 1) p (by simpa using hj)
  refine ⟨c, k1, fun i u hu => ?_⟩
  rw [add_add _ _ _ h0, ← k2 i u hu]
  congr 2
  rw [Nat.succ_mul]
  omega
theorem sumS_append {α : Type} (s : α → Nat) : ∀ l k : List α, sumS s (l ++ k) = sumS s l + sumS s k
  | [], k => by simp [sumS]
  | x :: l, k => by
    have := sumS_append s l k
    simp only [List.cons_append, sumS]
    omega
theorem sumS_set {α : Type} (s : α → Nat) : ∀ (l : List α) (i : Nat) (h : i < l.length) (y : α), sumS s (l.set i y) + s l[i] = sumS s l + s y
  | [], i, h, y => by simp at h
  | x :: l, 0, h, y => by simp only [List.set_cons_zero, sumS, List.getElem_cons_zero]; omega
  | x :: l, i + 1, h, y => by
    have := sumS_set s l i (by simpa using h) y
    simp only [List.set_cons_succ, sumS, List.getElem_cons_succ]
    omega
/-! ### a world named anew -/
section
variable {P : Program} {c : Code} {Q : Exit → Act → World → Prop} {a : Act} {w : World} {t : Nat} {cs : Array Value}
theorem gen_box (k : ∀ w', Blk w' w.heap.size t cs → Upd No w w' → Code.wp P c Q a w') : Code.wp P c Q a (w.alloc (.cells cs t)) := k _ (Blk.new _ _ _) ((Upd.refl _ _).alloc _)
theorem gen_boxC {f : FuncId} {as : Array Value} {K : Ending → World → Prop} (k : ∀ w', Blk w' w.heap.size t cs → Upd No w w' → Calls P f as w' K) : Calls P f as (w.alloc (.cells cs t)) K := k _ (Blk.new _ _ _) ((Upd.refl _ _).alloc _)
end
end Go.Proofs.YtfnedoiplblldaaSep

/- Rows that the call makes: by make, by append; and the forms in which contracts state what a function returns. No conditions. -/
import Derived.Test.YtfnedoiplblldaaSep
import Derived.Laws.MakeOwn
import Derived.Maps.AppendAt
import Derived.Deep.AppendLies
namespace Go.Proofs.YtfnedoiplblldaaSep
open Go.ChangeShapes Go.WideShapes Go.RowKit

/-! ### what a function returns -/
def RetInt (n : Int) (w : World) (e : Ending) (w' : World) : Prop := e = .returned (.int .i64 n) ∧ Upd No w w'
def RetBool (b : Bool) (w : World) (e : Ending) (w' : World) : Prop := e = .returned (.bool b) ∧ Upd No w w'
def RetString (s : ByteArray) (w : World) (e : Ending) (w' : World) : Prop := e = .returned (.string s) ∧ Upd No w w'
/-- New blocks: at w's size or behind it. -/
def New (w : World) : Nat → Prop := fun b => w.heap.size ≤ b
def RetRow {α : Type} (d : Kn α) (ty : Nat) (xs : List α) (w : World) (e : Ending) (w' : World) : Prop := ∃ v, e = .returned v ∧ R d ty w' (New w) v xs ∧ Upd No w w'
def RetAgg {α : Type} (d : Kn α) (x : α) (w : World) (e : Ending) (w' : World) : Prop := ∃ cs, e = .returned (.agg cs.toArray) ∧ d.M w' (New w) x cs ∧ Upd No w w'
/-- What is left of n when s is taken off, -1 if it does not suffice. -/
def RetSz (s : Nat) (n : Int) (w : World) (e : Ending) (w' : World) : Prop := ∃ r : Int, e = .returned (.int .i64 r) ∧ (((s : Int) ≤ n ∧ r = n - s) ∨ (n < s ∧ r = -1)) ∧ Upd No w w'
/-- A row of the caller's is written: it returns a number, and the row reads xs. -/
def Marks {α : Type} (d : Kn α) (ty : Nat) (F : Nat → Prop) (v : Value) (n : Int) (xs : List α) (w : World) (e : Ending) (w' : World) : Prop := e = .returned (.int .i64 n) ∧ R d ty w' F v xs ∧ Upd F w w'

/-- A struct's own rows are written: it returns a number, and the struct reads y. -/
def MarksV {α : Type} (d : Kn α) (F : Nat → Prop) (cs : List Value) (n : Int) (y : α) (w : World) (e : Ending) (w' : World) : Prop := e = .returned (.int .i64 n) ∧ d.M w' F y cs ∧ Upd F w w'
/-! ### stores into the function's own boxes -/
theorem Upd.put0 {w w1 : World} (h : Upd No w w1) (o : Nat) (u : Value) : Upd No w (w1.setCell ⟨w.heap.size, o, none⟩ u) := h.set _ _ (.inl (Nat.le_refl _))
theorem Upd.put1 {w w1 : World} (h : Upd No w w1) (o : Nat) (u : Value) : Upd No w (w1.setCell ⟨w.heap.size + 1, o, none⟩ u) := h.set _ _ (.inl (Nat.le_succ _))
theorem Upd.put2 {w w1 : World} (h : Upd No w w1) (o : Nat) (u : Value) : Upd No w (w1.setCell ⟨w.heap.size + 1 + 1, o, none⟩ u) := h.set _ _ (.inl (by dsimp only; omega))
theorem Upd.putP {P : Nat → Prop} {w w1 : World} {g : Nat} (hn : ¬ P g) (h : Upd (fun b => ¬ P b) w w1) (o : Nat) (u : Value) : Upd (fun b => ¬ P b) w (w1.setCell ⟨g, o, none⟩ u) := h.set _ _ (.inr hn)

theorem Upd.setg {w w1 : World} {g : Nat} (h : Upd (fun b => b = g) w w1) (o : Nat) (u : Value) : Upd (fun b => b = g) w (w1.setCell ⟨g, o, none⟩ u) := h.set _ _ (.inr rfl)
theorem Upd.read {w w1 : World} (h : Upd No w w1) {a : Addr} {v : Value} (hc : w.cell? a = some v) : w1.cell? a = some v := (h.below.cell (World.block_lt_of_cell? w a hc)).trans hc

/-! ### own rows made -/
section
variable {α : Type} {d : Kn α} {e : Nat} {w w' : World} {F : Nat → Prop} {v : Value} {xs : List α}
theorem add_plain (g j : Nat) : (⟨g, 0, none⟩ : Addr).add j = ⟨g, j, none⟩ := by unfold Addr.add; split <;> simp_all
theorem piece_take {sz : Nat} {l : List Value} {n i : Nat} (h : i < n) : piece sz (l.take (n * sz)) i = piece sz l i := by
  have h1 : i * sz + sz ≤ n * sz := by rw [← Nat.succ_mul]; exact Nat.mul_le_mul_right _ h
  apply List.ext_getElem?
  intro q
  simp only [piece, List.getElem?_take, List.getElem?_drop]
  by_cases hq : q < sz
  · simp only [if_pos hq]
    rw [if_pos (by omega)]
  · simp only [if_neg hq]
/-- An owned row, as the kit's laws leave it, with what its elements are. -/
theorem R_of_owns {base : Nat} {inner : List Value} (h : w.ownsRow base e d.sz v xs.length inner) (hF : ∀ g, v.ownBlock = some g → F g) (Fs : Nat → Nat → Prop)
    (h1 : ∀ i b, Fs i b → F b ∧ v.ownBlock ≠ some b) (h2 : ∀ i j b, Fs i b → Fs j b → i = j) (h3 : ∀ i x, xs[i]? = some x → d.M w (Fs i) x (piece d.sz inner i)) : R d e w F v xs := by
  rcases h.2 with ⟨rfl, hn⟩ | ⟨g, cap, cur, rfl, _, k2, k3, k4, k5, k6⟩
  · exact .inl ⟨rfl, List.eq_nil_of_length_eq_zero hn⟩
  · refine .inr ⟨g, cap, cur, Fs, rfl, k2, hF g rfl, k3, by simpa [maxLen] using k4, k5, fun i b hb => ⟨(h1 i b hb).1, fun q => (h1 i b hb).2 (by rw [q]; rfl)⟩, h2, fun i x hx => ?_⟩
    have := h3 i x hx
    rw [← k6, piece_take (List.getElem?_eq_some_iff.1 hx).1] at this
    exact this
/-- .. and back: what the kit's laws on append take. -/
theorem owns_of_R (h : R d e w F v xs) : ∃ (inner : List Value) (Fs : Nat → Nat → Prop), w.ownsRow 0 e d.sz v xs.length inner ∧ (∀ g, v.ownBlock = some g → F g) ∧ (∀ i b, Fs i b → F b ∧ v.ownBlock ≠ some b) ∧ (∀ i j b, Fs i b → Fs j b → i = j) ∧ ∀ i x, xs[i]? = some x → d.M w (Fs i) x (piece d.sz inner i) := by
  rcases h with ⟨rfl, rfl⟩ | ⟨g, cap, cur, Fs, rfl, h2, h3, h4, h5, h6, h7, h8, h9⟩
  · exact ⟨[], fun _ _ => False, ⟨by simp, .inl ⟨rfl, rfl⟩⟩, fun g hg => by simp [Value.ownBlock] at hg, fun _ _ h => h.elim, fun _ _ _ h => h.elim, fun i x h => by simp at h⟩
  · refine ⟨cur.toList.take (xs.length * d.sz), Fs, ⟨?_, .inr ⟨g, cap, cur, rfl, Nat.zero_le _, h2, h4, by simpa [maxLen] using h5, h6, rfl⟩⟩, fun b hb => (show g = b by simpa [Value.ownBlock] using hb) ▸ h3, fun i b hb => ⟨(h7 i b hb).1, fun q => (h7 i b hb).2 (by simpa [Value.ownBlock] using q.symm)⟩, h8, fun i x hx => ?_⟩
    · have q1 := Nat.mul_le_mul_right d.sz h4
      have q2 : cur.toList.length = cap * d.sz := by simpa using h6
      rw [List.length_take, q2, Nat.min_eq_left q1]
    · rw [piece_take (List.getElem?_eq_some_iff.1 hx).1]
      exact h9 i x hx
theorem R_keep (h : R d e w F v xs) (hU : Upd (fun b => ¬ F b) w w') : R d e w' F v xs := R_upd hU (fun _ hb q => q hb) h
theorem R_C {A : Option Addr} {n c : Nat} (h : R d e w F (.slice A n c) xs) : C d w A xs := by
  obtain ⟨A', c', he, _, hC⟩ := R_reads h
  cases he
  exact hC
/-- The row that a call has made, with its blocks named. -/
theorem fresh_row {W w1 : World} (h : R d e w1 (New W) v xs) (n : Nat) (hn : n ≤ W.heap.size) : ∃ P : Nat → Prop, R d e w1 P v xs ∧ (∀ b, P b → n ≤ b) ∧ ∀ b, P b → b < w1.heap.size :=
  ⟨fun b => New W b ∧ b < w1.heap.size, R_lt h, fun _ hb => Nat.le_trans hn hb.1, fun _ hb => hb.2⟩
/-- The new block that make leaves. -/
def madeObj (z : Value) (n : Nat) (e : Nat) : Obj := .cells (madeCells z.cells n) e
/-- make([]T, n), as the walk takes it: an equation on the operation's run. -/
theorem run_made {P : Program} {t : TypeId} (z : Value) (sz bytes : Nat) (ht : P.underlying t = some (.slice e)) (hinfo : (P.info? e).map (fun i => (i.zero, i.size, i.bytes)) = some (some z, sz, bytes)) (n : Nat) (hn : n ≤ 1048576) (hb : bytes ≤ 4096) :
    ∀ W : World, (Instr.makeSlice t (.int .i64 (n : Int)) (.int .i64 (n : Int))).run P W = .ok (.slice (some ⟨W.heap.size, 0, none⟩) n n) (W.alloc (madeObj z (n * sz) e)) := by
  intro W
  obtain ⟨i0, hi, hzz⟩ := Option.map_eq_some_iff.1 hinfo
  simp only [Prod.mk.injEq] at hzz
  obtain ⟨hz0, hz1, hz2⟩ := hzz
  have hr := run_make (P := P) W t e i0 z ht hi hz0 .i64 .i64 (n : Int) (n : Int) (by omega) (by omega)
    (by
      have h3 : i0.bytes * n ≤ 4096 * 1048576 := Nat.mul_le_mul (by omega) hn
      have h4 : ((i0.bytes * n : Nat) : Int) ≤ 281474976710656 := by omega
      rwa [Int.natCast_mul] at h4) (by omega)
  simp only [Int.toNat_natCast] at hr
  rw [hz1] at hr
  exact hr
theorem R_made (W : World) (z : Value) (zx : α) (hz : z.cells.size = d.sz) (hs : 0 < d.sz) (h0 : ∀ W, d.M W No zx z.cells.toList) (n : Nat) (hn : n ≤ 1048576) :
    R d e (W.alloc (madeObj z (n * d.sz) e)) (New W) (.slice (some ⟨W.heap.size, 0, none⟩) n n) (List.replicate n zx) := by
  refine .inr ⟨W.heap.size, n, madeCells z.cells (n * d.sz), fun _ _ => False, by simp, heap_alloc_new W _, Nat.le_refl _, by simp, by omega, size_madeCells _ _, fun _ _ h => h.elim, fun _ _ _ h => h.elim, fun i x hx => ?_⟩
  obtain ⟨hil, hx'⟩ := List.getElem?_eq_some_iff.1 hx
  have him : i < n := by simpa using hil
  have : zx = x := by simpa using hx'
  subst this
  have hle : i * d.sz + d.sz ≤ n * d.sz := by rw [← Nat.succ_mul]; exact Nat.mul_le_mul_right _ him
  have : piece d.sz (madeCells z.cells (n * d.sz)).toList i = z.cells.toList := by
    apply List.ext_getElem
    · simp [piece, size_madeCells, hz]
      omega
    · intro j h1 h2
      have hj : j < d.sz := by rw [Array.length_toList, hz] at h2; exact h2
      have hmod : (i * d.sz + j) % d.sz = j := by
        rw [Nat.mul_comm, Nat.mul_add_mod]
        exact Nat.mod_eq_of_lt hj
      simp [piece, madeCells, hz, hmod]
      rw [getElem!_pos z.cells j (by omega)]
  rw [this]
  exact d.M_mono (fun _ h => h) (h0 _)
end
section
variable {α : Type} {d : Kn α} {e : Nat} {F : Nat → Prop} {v : Value} {xs : List α} {P : Program} {ops : Array Oper} {rest : List Oper} {o : Oper} {a : Act} {Q : Exit → Act → World → Prop}
/-- append(s, x) of one element, whose cells have just been boxed. -/
theorem R_app {W : World} (hgd : o.guard = none) (s x : Operand) (t : TypeId) (z : Value) (bytes : Nat)
    (ho : o.op = .call { callee := .builtin .append, args := #[s, x], argTypes := #[t, t] })
    (ht : P.underlying t = some (.slice e)) (hinfo : (P.info? e).map (fun i => (i.zero, i.size, i.bytes)) = some (some z, d.sz, bytes)) (hz : z.cells.size = d.sz) (hs0 : 0 < d.sz) (hb0 : 0 < bytes)
    (p : α) (cs : List Value) (Fp : Nat → Prop) (hs : a.eval s = v) (hx : a.eval x = .slice (some ⟨W.heap.size, 0, none⟩) 1 1) (HR : R d e W F v xs) (hp : d.M W Fp p cs) (hd : ∀ b, Fp b → ¬ F b) (hl : (xs.length + 1) * bytes ≤ 140737488355328)
    (h : ∀ v1 w1, R d e w1 (fun b => F b ∨ Fp b ∨ W.heap.size ≤ b) v1 (xs ++ [p]) → Upd F W w1 → wpList P ops Q rest (a.put o.dst v1) w1) :
    wpList P ops Q (o :: rest) a (W.alloc (.cells cs.toArray e)) := by
  obtain ⟨i0, hi, hzz⟩ := Option.map_eq_some_iff.1 hinfo
  simp only [Prod.mk.injEq] at hzz
  obtain ⟨hz0, hz1, hz2⟩ := hzz
  have hlen : xs.length + 1 ≤ 140737488355328 := Nat.le_trans (Nat.le_mul_of_pos_right _ hb0) hl
  obtain ⟨inner, Fs, k1, k2, k3, k4, k5⟩ := owns_of_R (R_lt HR)
  have hcs := d.K_of_M hp
  refine wpList_append_own_at (W.alloc (.cells cs.toArray e)) hgd s x t ho 0 e i0 z d.sz bytes ht hi hz0 hz1 hz2 hz hs0 v xs.length inner hs (k1.alloc _) ⟨W.heap.size, 0, none⟩ 1 1 cs hx (by rw [d.K_len hcs]; simp)
    (by simpa using World.news_of_block (cs := cs.toArray) (t := e) (fr := (0, 0)) (heap_alloc_new W (.cells cs.toArray e))) (d.K_one hcs) (by simp only [maxLen]; omega) hl (Nat.zero_le _) ?_
  intro v1 w1 hown hg _ hat
  have hU : Upd F W w1 := ((Upd.refl F W).alloc _).trans (Upd.of_grown hg) (fun _ _ q => q) (fun b hb q => by
    have hb' : v.ownBlock = some b := q.symm
    exact (k2 b hb').1)
  have hne : ∀ b, b < W.heap.size → v.ownBlock ≠ some b → v1.ownBlock ≠ some b := by
    intro b hb hv
    rcases hat with hat | hat
    · rw [hat]; exact hv
    · rw [hat]
      intro q
      injection q with q
      have : (W.alloc (.cells cs.toArray e)).heap.size = W.heap.size + 1 := by simp
      omega
  have hfr : ∀ b, b < W.heap.size → v.ownBlock ≠ some b → w1.heap[b]? = W.heap[b]? := by
    intro b hb hv
    rw [hg.block b (by simp; omega) (fun q => hv q.symm)]
    exact heap_alloc_old W _ hb
  refine h v1 w1 (R_of_owns (xs := xs ++ [p]) (base := 0) (inner := inner ++ cs) (by simpa using hown) (fun g hg' => ?_) (fun i b => if i < xs.length then Fs i b else i = xs.length ∧ Fp b ∧ b < W.heap.size) (fun i b hb => ?_) (fun i j b hi' hj' => ?_) (fun i x' hx' => ?_)) hU
  · rcases hat with hat | hat
    · exact .inl (k2 g (hat ▸ hg')).1
    · rw [hat] at hg'
      injection hg' with q
      exact .inr (.inr (by rw [← q]; simp))
  · by_cases c : i < xs.length
    · simp only [c, if_true] at hb
      have := k3 i b hb
      exact ⟨.inl this.1.1, hne b this.1.2 this.2⟩
    · simp only [c, if_false] at hb
      exact ⟨.inr (.inl hb.2.1), hne b hb.2.2 (fun q => hd b hb.2.1 (k2 b q).1)⟩
  · by_cases c : i < xs.length <;> by_cases c' : j < xs.length
    · simp only [c, c', if_true] at hi' hj'
      exact k4 i j b hi' hj'
    · simp only [c, c', if_true, if_false] at hi' hj'
      exact absurd (k3 i b hi').1.1 (hd b hj'.2.1)
    · simp only [c, c', if_true, if_false] at hi' hj'
      exact absurd (k3 j b hj').1.1 (hd b hi'.2.1)
    · simp only [c, c', if_false] at hi' hj'
      omega
  · by_cases c : i < xs.length
    · simp only [c, if_true]
      rw [List.getElem?_append_left c] at hx'
      have hpc : piece d.sz (inner ++ cs) i = piece d.sz inner i := by
        have h1 : i * d.sz + d.sz ≤ inner.length := by rw [k1.1, ← Nat.succ_mul]; exact Nat.mul_le_mul_right _ c
        unfold piece
        rw [List.drop_append_of_le_length (by omega), List.take_append_of_le_length (by rw [List.length_drop]; omega)]
      rw [hpc]
      exact d.M_mono (fun _ q => q.1) (d.M_same (fun b hb => hfr b hb.2 (k3 i b hb.1).2) (d.M_lt (k5 i x' hx')))
    · simp only [c, if_false]
      have hil := (List.getElem?_eq_some_iff.1 hx').1
      have hi' : i = xs.length := by simp at hil; omega
      subst hi'
      have hx2 : p = x' := by simpa using hx'
      subst hx2
      have hpc : piece d.sz (inner ++ cs) xs.length = cs := by
        unfold piece
        rw [← k1.1, List.drop_left, List.take_of_length_le (by rw [d.K_len hcs]; exact Nat.le_refl _)]
      rw [hpc]
      exact d.M_mono (fun _ q => ⟨rfl, q.1, q.2⟩) (d.M_same (fun b hb => hfr b hb.2 (fun q => hd b hb.1 (k2 b q).1)) (d.M_lt hp))
end
end Go.Proofs.YtfnedoiplblldaaSep

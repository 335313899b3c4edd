/- Kinds of values: how a value of a plain type reads in memory (K), and how it lies in memory that the call made itself (M, with the blocks it lies in). General laws on both. No conditions. -/
import Derived.WalkKit
import Derived.Below
import Derived.OwnWalk
import Derived.Laws.AppendOwn
import Derived.Deep.Slices
import Derived.Deep.Draws
import Derived.Laws.Rows
import Derived.ChangeArms
import Derived.WideShapes
namespace Go.Proofs.YtfnedoiplblldaaSep
open Go.ChangeShapes Go.WideShapes Go.RowKit

/-- A fact laid aside, so that the walk does not rewrite by it. -/
structure Sd (p : Prop) : Prop where mk :: (out : p)

/-! ### worlds -/
/-- w' is w but for the blocks of F and new ones. -/
structure Upd (F : Nat → Prop) (w w' : World) : Prop where
  os : w'.os = w.os
  tape : w'.tape = w.tape
  output : w'.output = w.output
  size : w.heap.size ≤ w'.heap.size
  block : ∀ b, b < w.heap.size → ¬ F b → w'.heap[b]? = w.heap[b]?
def No : Nat → Prop := fun _ => False
theorem Upd.refl (F : Nat → Prop) (w : World) : Upd F w w := ⟨rfl, rfl, rfl, Nat.le_refl _, fun _ _ _ => rfl⟩
theorem Upd.trans {F G H : Nat → Prop} {w w1 w2 : World} (h : Upd F w w1) (k : Upd G w1 w2) (hF : ∀ b, b < w.heap.size → F b → H b) (hG : ∀ b, b < w.heap.size → G b → H b) : Upd H w w2 :=
  ⟨k.os.trans h.os, k.tape.trans h.tape, k.output.trans h.output, Nat.le_trans h.size k.size, fun b hb hH => (k.block b (Nat.lt_of_lt_of_le hb h.size) (fun q => hH (hG b hb q))).trans (h.block b hb (fun q => hH (hF b hb q)))⟩
theorem Upd.mono {F G : Nat → Prop} {w w' : World} (h : Upd F w w') (hF : ∀ b, b < w.heap.size → F b → G b) : Upd G w w' := ⟨h.os, h.tape, h.output, h.size, fun b hb hG => h.block b hb (fun q => hG (hF b hb q))⟩
theorem Upd.then {w w1 w2 : World} (h : Upd No w w1) (k : Upd No w1 w2) : Upd No w w2 := h.trans k (fun _ _ q => q) (fun _ _ q => q)
theorem Upd.alloc {F : Nat → Prop} {w w1 : World} (h : Upd F w w1) (o : Obj) : Upd F w (w1.alloc o) :=
  ⟨h.os, h.tape, h.output, Nat.le_trans h.size (by simp), fun b hb hF => by rw [← h.block b hb hF]; exact heap_alloc_old w1 o (Nat.lt_of_lt_of_le hb h.size)⟩
theorem Upd.drewN {F : Nat → Prop} {w w1 : World} (h : Upd F w w1) (n : Nat) : Upd F w (w1.drewN n) := ⟨h.os, h.tape, h.output, h.size, h.block⟩
theorem Upd.drew {F : Nat → Prop} {w w1 : World} (h : Upd F w w1) : Upd F w w1.drew := ⟨h.os, h.tape, h.output, h.size, h.block⟩
theorem Upd.set {F : Nat → Prop} {w w1 : World} (h : Upd F w w1) (p : Addr) (u : Value) (hp : w.heap.size ≤ p.block ∨ F p.block) : Upd F w (w1.setCell p u) := by
  have hb : ∀ b, b ≠ p.block → (w1.setCell p u).heap[b]? = w1.heap[b]? := fun b hb => Below.heap_setCell w1 p u b hb
  have hs : (w1.setCell p u).heap.size = w1.heap.size := by simp [World.setCell]
  exact ⟨h.os, h.tape, h.output, by rw [hs]; exact h.size, fun b hb' hF => (hb b (by rintro rfl; rcases hp with hp | hp; omega; exact hF hp)).trans (h.block b hb' hF)⟩
theorem Upd.below {w w' : World} (h : Upd No w w') : Below w.heap.size w w' := ⟨h.os, h.tape, h.output, h.size, fun b hb => h.block b hb (fun q => q)⟩
theorem Upd.of_below {w w' : World} (h : Below w.heap.size w w') : Upd No w w' := ⟨h.os, h.tape, h.output, h.size, fun b hb _ => h.block b hb⟩
theorem Upd.of_grown {w w' : World} {row : Option Nat} (h : w.grownBy w' row) : Upd (fun b => some b = row) w w' := ⟨h.os, h.tape, h.output, h.size, fun b hb hF => h.block b hb hF⟩
theorem Upd.cells {w w' : World} (h : Upd No w w') : (∀ b o, b < w.heap.size → w'.cell? ⟨b, o, none⟩ = w.cell? ⟨b, o, none⟩) ∧ (∀ b o, b < w.heap.size → w'.frozen? ⟨b, o, none⟩ = w.frozen? ⟨b, o, none⟩) :=
  ⟨fun b o hb => h.below.cell (p := ⟨b, o, none⟩) hb, fun b o hb => h.below.frozen (p := ⟨b, o, none⟩) hb⟩
theorem Upd.cellsF {F : Nat → Prop} {w w' : World} (h : Upd F w w') {b : Nat} (hb : b < w.heap.size) (hF : ¬ F b) (o : Nat) : w'.cell? ⟨b, o, none⟩ = w.cell? ⟨b, o, none⟩ := by
  simp [World.cell?, h.block b hb hF]
theorem Upd.frozenF {F : Nat → Prop} {w w' : World} (h : Upd F w w') {b : Nat} (hb : b < w.heap.size) (hF : ¬ F b) (o : Nat) : w'.frozen? ⟨b, o, none⟩ = w.frozen? ⟨b, o, none⟩ := by
  simp [World.frozen?, h.block b hb hF]

theorem blk_set {w : World} {g : Nat} {t : TypeId} {cs : Array Value} (h : w.heap[g]? = some (.cells cs t (0, 0))) (i : Nat) (u : Value) : (w.setCell ⟨g, i, none⟩ u).heap[g]? = some (.cells (cs.setIfInBounds i u) t (0, 0)) := by
  simp [World.setCell, Array.getElem?_modify, h]

/-! ### kinds -/
structure Kn (α : Type) where
  sz : Nat
  K : World → α → List Value → Prop
  M : World → (Nat → Prop) → α → List Value → Prop
  K_len : ∀ {w x cs}, K w x cs → cs.length = sz
  K_one : ∀ {w x cs}, K w x cs → ∀ u ∈ cs, u.oneCell' = true
  K_stay : ∀ {w w' : World} {x cs}, (∀ b, b < w.heap.size → w'.heap[b]? = w.heap[b]?) → K w x cs → K w' x cs
  K_of_M : ∀ {w F x cs}, M w F x cs → K w x cs
  M_mono : ∀ {w F F' x cs}, (∀ b, F b → F' b) → M w F x cs → M w F' x cs
  M_lt : ∀ {w : World} {F x cs}, M w F x cs → M w (fun b => F b ∧ b < w.heap.size) x cs
  M_same : ∀ {w w' : World} {F x cs}, (∀ b, F b → w'.heap[b]? = w.heap[b]?) → M w F x cs → M w' F x cs
section
variable {α : Type} (d : Kn α)
/-- The piece of the row that element i takes. -/
def piece (sz : Nat) (l : List Value) (i : Nat) : List Value := (l.drop (i * sz)).take sz
/-- A row of elements that is read. -/
def C (w : World) (A : Option Addr) (xs : List α) : Prop :=
  xs.length ≤ 9223372036854775807 ∧ (0 < xs.length → ∃ ad, A = some ad ∧ ∀ j p, xs[j]? = some p → ∃ c, d.K w p c ∧ ∀ i u, c[i]? = some u → w.cell? (ad.add (j * d.sz + i)) = some u)
/-- A row of elements (of type e) that the call made: its blocks satisfy F; no two elements share a block. -/
def R (e : Nat) (w : World) (F : Nat → Prop) (v : Value) (xs : List α) : Prop :=
  (v = .slice none 0 0 ∧ xs = []) ∨
  ∃ (g cap : Nat) (cur : Array Value) (Fs : Nat → Nat → Prop), v = .slice (some ⟨g, 0, none⟩) xs.length cap ∧ w.heap[g]? = some (.cells cur e (0, 0)) ∧ F g ∧ xs.length ≤ cap ∧ cap ≤ 9223372036854775807 ∧ cur.size = cap * d.sz ∧
    (∀ i b, Fs i b → F b ∧ b ≠ g) ∧ (∀ i j b, Fs i b → Fs j b → i = j) ∧ ∀ i x, xs[i]? = some x → d.M w (Fs i) x (piece d.sz cur.toList i)
variable {d} {e : Nat} {w w' : World} {F F' : Nat → Prop} {v : Value} {xs : List α}
theorem R_nil : R d e w F (.slice none 0 0) [] := .inl ⟨rfl, rfl⟩
theorem R_mono (hF : ∀ b, F b → F' b) (h : R d e w F v xs) : R d e w F' v xs := by
  rcases h with h | ⟨g, cap, cur, Fs, h1, h2, h3, h4, h5, h6, h7, h8, h9⟩
  · exact .inl h
  · exact .inr ⟨g, cap, cur, Fs, h1, h2, hF _ h3, h4, h5, h6, fun i b hb => ⟨hF _ (h7 i b hb).1, (h7 i b hb).2⟩, h8, h9⟩
theorem heap_lt {w : World} {g : Nat} {o : Obj} (h : w.heap[g]? = some o) : g < w.heap.size := (Array.getElem?_eq_some_iff.1 h).1
theorem R_lt (h : R d e w F v xs) : R d e w (fun b => F b ∧ b < w.heap.size) v xs := by
  rcases h with h | ⟨g, cap, cur, Fs, h1, h2, h3, h4, h5, h6, h7, h8, h9⟩
  · exact .inl h
  · refine .inr ⟨g, cap, cur, fun i b => Fs i b ∧ b < w.heap.size, h1, h2, ⟨h3, heap_lt h2⟩, h4, h5, h6, fun i b hb => ⟨⟨(h7 i b hb.1).1, hb.2⟩, (h7 i b hb.1).2⟩, fun i j b hi hj => h8 i j b hi.1 hj.1, fun i x hx => d.M_lt (h9 i x hx)⟩
theorem R_same (hF : ∀ b, F b → w'.heap[b]? = w.heap[b]?) (h : R d e w F v xs) : R d e w' F v xs := by
  rcases h with h | ⟨g, cap, cur, Fs, h1, h2, h3, h4, h5, h6, h7, h8, h9⟩
  · exact .inl h
  · exact .inr ⟨g, cap, cur, Fs, h1, (hF _ h3).trans h2, h3, h4, h5, h6, h7, h8, fun i x hx => d.M_same (fun b hb => hF b (h7 i b hb).1) (h9 i x hx)⟩
theorem R_reads (h : R d e w F v xs) : ∃ A c, v = .slice A xs.length c ∧ xs.length ≤ c ∧ C d w A xs := by
  rcases h with ⟨rfl, rfl⟩ | ⟨g, cap, cur, Fs, h1, h2, h3, h4, h5, h6, h7, h8, h9⟩
  · exact ⟨none, 0, rfl, Nat.le_refl _, by simp, fun h => absurd h (Nat.lt_irrefl 0)⟩
  · refine ⟨_, cap, h1, h4, by omega, fun _ => ⟨_, rfl, fun j p hp => ⟨_, d.K_of_M (h9 j p hp), fun i u hu => ?_⟩⟩⟩
    have hi : i < d.sz := by have := (List.getElem?_eq_some_iff.1 hu).1; simp [piece] at this; omega
    have : cur[j * d.sz + i]? = some u := by
      simp [piece, hi] at hu
      exact hu
    rw [show (⟨g, 0, none⟩ : Addr).add (j * d.sz + i) = ⟨g, j * d.sz + i, none⟩ by unfold Addr.add; split <;> simp_all]
    rw [cell_of_row w g _ cur e (0, 0) h2]
    exact this
theorem C_stay {A : Option Addr} (h : ∀ b, b < w.heap.size → w'.heap[b]? = w.heap[b]?) (hc : C d w A xs) : C d w' A xs := by
  refine ⟨hc.1, fun hp => ?_⟩
  obtain ⟨ad, rfl, k⟩ := hc.2 hp
  refine ⟨ad, rfl, fun j p hj => ?_⟩
  obtain ⟨c, k1, k2⟩ := k j p hj
  refine ⟨c, d.K_stay h k1, fun i u hu => ?_⟩
  have := k2 i u hu
  have hb := World.block_lt_of_cell? w _ this
  rw [← this]
  simp only [World.cell?, h _ hb]
end
namespace Kn
def scalar {α : Type} (enc : α → Value) (h1 : ∀ x, (enc x).oneCell' = true) : Kn α where
  sz := 1
  K := fun _ x cs => cs = [enc x]
  M := fun _ _ x cs => cs = [enc x]
  K_len := fun h => by rw [h]; rfl
  K_one := fun h u hu => by rw [h] at hu; rw [List.mem_singleton.1 hu]; exact h1 _
  K_stay := fun _ h => h
  K_of_M := fun h => h
  M_mono := fun _ h => h
  M_lt := fun h => h
  M_same := fun _ h => h
def int : Kn Int := scalar (Value.int .i64) (fun _ => rfl)
def bool : Kn Bool := scalar Value.bool (fun _ => rfl)
def string : Kn ByteArray := scalar Value.string (fun _ => rfl)
def slice {α : Type} (e : Nat) (d : Kn α) : Kn (List α) where
  sz := 1
  K := fun w xs cs => ∃ A c, cs = [.slice A xs.length c] ∧ xs.length ≤ c ∧ C d w A xs
  M := fun w F xs cs => ∃ v, cs = [v] ∧ R d e w F v xs
  K_len := by rintro w x cs ⟨A, c, rfl, _⟩; rfl
  K_one := by rintro w x cs ⟨A, c, rfl, _⟩ u hu; rw [List.mem_singleton.1 hu]; rfl
  K_stay := by rintro w w' x cs h ⟨A, c, rfl, hl, hr⟩; exact ⟨A, c, rfl, hl, C_stay h hr⟩
  K_of_M := by rintro w F x cs ⟨v, rfl, h⟩; obtain ⟨A, c, rfl, hl, hr⟩ := R_reads h; exact ⟨A, c, rfl, hl, hr⟩
  M_mono := by rintro w F F' x cs hF ⟨v, rfl, h⟩; exact ⟨v, rfl, R_mono hF h⟩
  M_lt := by rintro w F x cs ⟨v, rfl, h⟩; exact ⟨v, rfl, R_lt h⟩
  M_same := by rintro w w' F x cs hF ⟨v, rfl, h⟩; exact ⟨v, rfl, R_same hF h⟩
/-- Two in line: they share no block. -/
def pair {α β : Type} (a : Kn α) (b : Kn β) : Kn (α × β) where
  sz := a.sz + b.sz
  K := fun w x cs => ∃ c0 c1, cs = c0 ++ c1 ∧ a.K w x.1 c0 ∧ b.K w x.2 c1
  M := fun w F x cs => ∃ c0 c1 F0 F1, cs = c0 ++ c1 ∧ a.M w F0 x.1 c0 ∧ b.M w F1 x.2 c1 ∧ (∀ k, F0 k → F k) ∧ (∀ k, F1 k → F k) ∧ ∀ k, F0 k → ¬ F1 k
  K_len := by rintro w x cs ⟨c0, c1, rfl, h0, h1⟩; rw [List.length_append, a.K_len h0, b.K_len h1]
  K_one := by
    rintro w x cs ⟨c0, c1, rfl, h0, h1⟩ u hu
    rcases List.mem_append.1 hu with hu | hu
    · exact a.K_one h0 u hu
    · exact b.K_one h1 u hu
  K_stay := by rintro w w' x cs h ⟨c0, c1, rfl, h0, h1⟩; exact ⟨c0, c1, rfl, a.K_stay h h0, b.K_stay h h1⟩
  K_of_M := by rintro w F x cs ⟨c0, c1, F0, F1, rfl, h0, h1, _⟩; exact ⟨c0, c1, rfl, a.K_of_M h0, b.K_of_M h1⟩
  M_mono := by rintro w F F' x cs hF ⟨c0, c1, F0, F1, rfl, h0, h1, k0, k1, k2⟩; exact ⟨c0, c1, F0, F1, rfl, h0, h1, fun k hk => hF k (k0 k hk), fun k hk => hF k (k1 k hk), k2⟩
  M_lt := by
    rintro w F x cs ⟨c0, c1, F0, F1, rfl, h0, h1, k0, k1, k2⟩
    exact ⟨c0, c1, _, _, rfl, a.M_lt h0, b.M_lt h1, fun k hk => ⟨k0 k hk.1, hk.2⟩, fun k hk => ⟨k1 k hk.1, hk.2⟩, fun k hk hk' => k2 k hk.1 hk'.1⟩
  M_same := by
    rintro w w' F x cs hF ⟨c0, c1, F0, F1, rfl, h0, h1, k0, k1, k2⟩
    exact ⟨c0, c1, F0, F1, rfl, a.M_same (fun b hb => hF b (k0 b hb)) h0, b.M_same (fun b hb => hF b (k1 b hb)) h1, k0, k1, k2⟩
/-- A Lean structure by its fields. -/
def iso {α β : Type} (d : Kn α) (f : β → α) : Kn β where
  sz := d.sz
  K := fun w x cs => d.K w (f x) cs
  M := fun w F x cs => d.M w F (f x) cs
  K_len := d.K_len
  K_one := d.K_one
  K_stay := d.K_stay
  K_of_M := d.K_of_M
  M_mono := d.M_mono
  M_lt := d.M_lt
  M_same := d.M_same
end Kn
section
variable {α : Type} {d : Kn α} {e : Nat} {w w' : World} {F F' : Nat → Prop} {v : Value} {xs : List α} {x : α} {cs : List Value}
theorem K_upd (h : Upd No w w') (k : d.K w x cs) : d.K w' x cs := d.K_stay (fun b hb => h.block b hb (fun q => q)) k
theorem C_upd {A : Option Addr} (h : Upd No w w') (k : C d w A xs) : C d w' A xs := C_stay (fun b hb => h.block b hb (fun q => q)) k
theorem M_upd {G : Nat → Prop} (h : Upd G w w') (hG : ∀ b, F b → ¬ G b) (k : d.M w F x cs) : d.M w' F x cs := d.M_mono (fun _ q => q.1) (d.M_same (fun b hb => h.block b hb.2 (hG b hb.1)) (d.M_lt k))
theorem R_upd {G : Nat → Prop} (h : Upd G w w') (hG : ∀ b, F b → ¬ G b) (k : R d e w F v xs) : R d e w' F v xs := R_mono (fun _ q => q.1) (R_same (fun b hb => h.block b hb.2 (hG b hb.1)) (R_lt k))
theorem R_slice (h : R d e w F v xs) : ∃ A c, v = .slice A xs.length c := by
  obtain ⟨A, c, h, _⟩ := R_reads h
  exact ⟨A, c, h⟩
theorem R_len (h : R d e w F v xs) : xs.length ≤ 9223372036854775807 := by
  obtain ⟨A, c, _, _, h⟩ := R_reads h
  exact h.1
/-- An element of a row that is read. -/
theorem C_get {A : Option Addr} (h : C d w A xs) (i : Nat) (hi : i < xs.length) : ∃ ad c, A = some ad ∧ c.length = d.sz ∧ d.K w xs[i] c ∧ ∀ j u, c[j]? = some u → w.cell? (ad.add (i * d.sz + j)) = some u := by
  obtain ⟨ad, rfl, k⟩ := h.2 (by omega)
  obtain ⟨c, h1, h2⟩ := k i xs[i] (List.getElem?_eq_getElem hi)
  exact ⟨ad, c, rfl, d.K_len h1, h1, h2⟩
theorem add_field (ad : Addr) (m j : Nat) (hj : 0 < j) : ad.add (m + j) = ⟨(ad.add m).block, (ad.add m).off + j, none⟩ := by
  unfold Addr.add
  by_cases hm : m = 0
  · subst hm
    simp [Nat.ne_of_gt hj]
  · have : m + j ≠ 0 := by omega
    simp [hm, Nat.add_assoc]
/-- The same in the walk's spelling. -/
theorem C_at {A : Option Addr} (h : C d w A xs) (i : Nat) (hi : i < xs.length) : ∃ ad c, A = some ad ∧ d.K w xs[i] c ∧ (∀ u, c[0]? = some u → w.cell? (ad.add (i * d.sz)) = some u) ∧
    ∀ j u, c[j + 1]? = some u → w.cell? ⟨(ad.add (i * d.sz)).block, (ad.add (i * d.sz)).off + (j + 1), none⟩ = some u := by
  obtain ⟨ad, c, h1, _, h3, h4⟩ := C_get h i hi
  exact ⟨ad, c, h1, h3, fun u hu => h4 0 u hu, fun j u hu => by rw [← add_field _ _ (j + 1) (by omega)]; exact h4 (j + 1) u hu⟩
end
/-! ### a list that is being replaced from the front -/
def upTo {α : Type} (a b : List α) (i : Nat) : List α := a.take i ++ b.drop i
section
variable {α : Type} {a b : List α} {i : Nat}
theorem upTo_zero : upTo a b 0 = b := by simp [upTo]
theorem upTo_end (h : a.length = b.length) (hi : b.length ≤ i) : upTo a b i = a := by simp [upTo, List.take_of_length_le (h ▸ hi), hi]
theorem upTo_len (h : a.length = b.length) (hi : i ≤ b.length) : (upTo a b i).length = b.length := by simp [upTo]; omega
theorem upTo_at (h : a.length = b.length) (hi : i < b.length) : (upTo a b i)[i]? = some b[i] := by
  unfold upTo
  rw [List.getElem?_append_right (by simp; omega)]
  simp [show i - min i a.length = 0 by omega, hi]
theorem upTo_set (h : a.length = b.length) (hi : i < b.length) : (upTo a b i).set i (a[i]'(h ▸ hi)) = upTo a b (i + 1) := by
  have hi' : i < a.length := h ▸ hi
  unfold upTo
  rw [List.set_append_right _ _ (by simp; omega)]
  have e : i - (a.take i).length = 0 := by simp; omega
  rw [e, List.drop_eq_getElem_cons hi, List.set_cons_zero, List.take_succ_eq_append_getElem hi', List.append_assoc]
  rfl
end
/-! ### while an element of an own row is written -/
/-- Behind w0: the piece of n cells at o of block g reads ce; nothing else has turned but for the blocks of Fi and new ones. -/
structure At (w0 w : World) (g o n e : Nat) (cur0 : Array Value) (ce : List Value) (Fi : Nat → Prop) : Prop where
  row : ∃ cur, w.heap[g]? = some (.cells cur e (0, 0)) ∧ cur.size = cur0.size ∧ (∀ p, p < o ∨ o + n ≤ p → cur[p]? = cur0[p]?) ∧ (cur.toList.drop o).take n = ce
  upd : Upd (fun b => b = g ∨ Fi b) w0 w
  len : ce.length = n
section
variable {w0 w w' : World} {g o n e : Nat} {cur0 : Array Value} {ce : List Value} {Fi : Nat → Prop}
theorem At.room (h : At w0 w g o n e cur0 ce Fi) : ∀ j, j < n → o + j < cur0.size := by
  obtain ⟨cur, _, h2, _, h4⟩ := h.row
  intro j hj
  have := h.len
  rw [← h4, List.length_take, List.length_drop, Array.length_toList] at this
  omega
theorem At.cell (h : At w0 w g o n e cur0 ce Fi) (j : Nat) (u : Value) (hu : ce[j]? = some u) : w.cell? ⟨g, o + j, none⟩ = some u := by
  obtain ⟨cur, h1, h2, _, h4⟩ := h.row
  rw [cell_of_row w g _ cur e (0, 0) h1]
  have hj : j < n := by rw [← h.len]; exact (List.getElem?_eq_some_iff.1 hu).1
  rw [← h4, List.getElem?_take, if_pos hj, List.getElem?_drop] at hu
  simpa using hu
theorem At.cell0 (h : At w0 w g o n e cur0 ce Fi) (u : Value) (hu : ce[0]? = some u) : w.cell? ⟨g, o, none⟩ = some u := h.cell 0 u hu
theorem At.free (h : At w0 w g o n e cur0 ce Fi) (j : Nat) : w.frozen? ⟨g, j, none⟩ = false := by
  obtain ⟨cur, h1, _⟩ := h.row
  simp [World.frozen?, h1]
theorem At.set (h : At w0 w g o n e cur0 ce Fi) (j : Nat) (hj : j < n) (u : Value) : At w0 (w.setCell ⟨g, o + j, none⟩ u) g o n e cur0 (ce.set j u) Fi := by
  obtain ⟨cur, h1, h2, h3, h4⟩ := h.row
  refine ⟨⟨cur.setIfInBounds (o + j) u, blk_set h1 (o + j) u, by simpa using h2, fun p hp => ?_, ?_⟩, h.upd.set _ _ (.inr (.inl rfl)), by simpa using h.len⟩
  · rw [Array.getElem?_setIfInBounds_ne (by omega)]
    exact h3 p hp
  · rw [← h4]
    apply List.ext_getElem?
    intro i
    simp only [List.getElem?_take, List.getElem?_drop, List.getElem?_set, Array.toList_setIfInBounds]
    by_cases hi : i < n
    · have : o + j < cur.toList.length := by rw [Array.length_toList, h2]; exact h.room j hj
      by_cases e : j = i
      · subst e
        have t2 : o + j < cur.size := by simpa using this
        simp [hj, t2]
        omega
      · simp [hi, e]
    · simp [hi]
      omega
theorem At.set0 (h : At w0 w g o n e cur0 ce Fi) (hj : 0 < n) (u : Value) : At w0 (w.setCell ⟨g, o, none⟩ u) g o n e cur0 (ce.set 0 u) Fi := h.set 0 hj u
theorem At.call (h : At w0 w g o n e cur0 ce Fi) {G : Nat → Prop} (k : Upd G w w') (hG : ∀ b, G b → Fi b) (hg : ¬ Fi g) : At w0 w' g o n e cur0 ce Fi := by
  obtain ⟨cur, h1, h2, h3, h4⟩ := h.row
  exact ⟨⟨cur, (k.block g (heap_lt h1) (fun q => hg (hG g q))).trans h1, h2, h3, h4⟩, h.upd.trans k (fun _ _ q => q) (fun b _ q => .inr (hG b q)), h.len⟩
variable {α : Type} {d : Kn α} {F : Nat → Prop} {v : Value} {xs : List α}
/-- An own row opened at element i; how it is closed again. -/
theorem R_elem (h : R d e w F v xs) (sz m : Nat) (hs : d.sz = sz) (hm : xs.length = m) (i : Nat) (x : α) (hx : xs[i]? = some x) : ∃ (g cap : Nat) (cur : Array Value) (ce : List Value) (Fi : Nat → Prop), v = .slice (some ⟨g, 0, none⟩) m cap ∧ m ≤ cap ∧ At w w g (i * sz) sz e cur ce Fi ∧ d.M w Fi x ce ∧ F g ∧ (∀ b, Fi b → F b) ∧ ¬ Fi g ∧
    ∀ (w' : World) (ce' : List Value) (x' : α) (Fi' F' : Nat → Prop), At w w' g (i * sz) sz e cur ce' Fi → d.M w' Fi' x' ce' → (∀ b, Fi' b → Fi b ∨ ¬ F b) → (∀ b, F b → F' b) → (∀ b, Fi' b → F' b) → R d e w' F' v (xs.set i x') := by
  subst hs
  subst hm
  obtain ⟨hi, rfl⟩ := List.getElem?_eq_some_iff.1 hx
  clear hx
  rcases h with ⟨_, rfl⟩ | ⟨g, cap, cur, Fs, h1, h2, h3, h4, h5, h6, h7, h8, h9⟩
  · simp at hi
  have hx := h9 i xs[i] (List.getElem?_eq_getElem hi)
  have hsz : ∀ k, k < xs.length → k * d.sz + d.sz ≤ cur.size := fun k hk => by rw [h6, ← Nat.succ_mul]; exact Nat.mul_le_mul_right _ (by omega)
  refine ⟨g, cap, cur, _, Fs i, h1, h4, ⟨⟨cur, h2, rfl, fun _ _ => rfl, rfl⟩, Upd.refl _ _, ?_⟩, hx, h3, fun b hb => (h7 i b hb).1, fun hb => (h7 i g hb).2 rfl, ?_⟩
  · rw [List.length_take, List.length_drop, Array.length_toList]
    have := hsz i hi
    omega
  · intro w' ce' x' Fi' F' hat hm hF1 hF2 hF3
    obtain ⟨cur', k1, k2, k3, k4⟩ := hat.row
    have hng : ∀ b, Fi' b → b ≠ g := fun b hb e => by
      subst e
      rcases hF1 b hb with hb | hb
      · exact (h7 i b hb).2 rfl
      · exact hb h3
    refine .inr ⟨g, cap, cur', fun j b => if j = i then Fi' b else Fs j b, by rw [List.length_set]; exact h1, k1, hF2 _ h3, by rw [List.length_set]; exact h4, h5, by rw [k2]; exact h6, fun j b hb => ?_, fun j j' b hb hb' => ?_, fun j x hx' => ?_⟩
    · by_cases e : j = i
      · simp only [e, if_true] at hb
        exact ⟨hF3 b hb, hng b hb⟩
      · simp only [e, if_false] at hb
        exact ⟨hF2 b (h7 j b hb).1, (h7 j b hb).2⟩
    · by_cases e : j = i <;> by_cases e' : j' = i
      · omega
      · simp only [e, e', if_true, if_false] at hb hb'
        rcases hF1 b hb with q | q
        · exact absurd (h8 i j' b q hb') (by omega)
        · exact absurd (h7 j' b hb').1 q
      · simp only [e, e', if_true, if_false] at hb hb'
        rcases hF1 b hb' with q | q
        · exact absurd (h8 i j b q hb) (by omega)
        · exact absurd (h7 j b hb).1 q
      · simp only [e, e', if_false] at hb hb'
        exact h8 j j' b hb hb'
    · rw [List.getElem?_set] at hx'
      by_cases e : j = i
      · subst e
        simp only [if_true, hi] at hx'
        obtain rfl := Option.some.inj hx'
        simp only [if_true]
        rw [show piece d.sz cur'.toList j = ce' from k4]
        exact hm
      · rw [if_neg (fun q => e q.symm)] at hx'
        simp only [e, if_false]
        have hj : j < xs.length := (List.getElem?_eq_some_iff.1 hx').1
        have hp : piece d.sz cur'.toList j = piece d.sz cur.toList j := by
          apply List.ext_getElem?
          intro q
          simp only [piece, List.getElem?_take, List.getElem?_drop]
          by_cases hq : q < d.sz
          · simp only [if_pos hq]
            have := k3 (j * d.sz + q) (by
              rcases Nat.lt_or_gt_of_ne e with e | e
              · left
                have : j * d.sz + d.sz ≤ i * d.sz := by rw [← Nat.succ_mul]; exact Nat.mul_le_mul_right _ e
                omega
              · right
                have : i * d.sz + d.sz ≤ j * d.sz := by rw [← Nat.succ_mul]; exact Nat.mul_le_mul_right _ e
                omega)
            simpa using this
          · simp only [if_neg hq]
        rw [hp]
        refine d.M_mono (fun _ q => q.1) (d.M_same (fun b hb => hat.upd.block b hb.2 ?_) (d.M_lt (h9 j x hx')))
        rintro (q | q)
        · exact (h7 j b hb.1).2 q
        · exact e (h8 j i b hb.1 q)
end
end Go.Proofs.YtfnedoiplblldaaSep

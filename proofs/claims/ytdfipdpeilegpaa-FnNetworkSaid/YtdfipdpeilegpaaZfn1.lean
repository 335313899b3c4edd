/- What the row needs, packed. No conditions beyond those that each law names. -/
import Derived.WalkKit
import Derived.Below
import Derived.OwnWalk
import Derived.Laws.AppendOwn
import Derived.Deep.Slices
import Derived.Deep.Draws
import Derived.Laws.Rows
import Derived.ChangeArms
import Derived.WideShapes
import Derived.Laws.MakeOwn
import Derived.Maps.AppendAt
import Derived.Deep.AppendLies
import Derived.WalkSpells
import Derived.Deep.RegionHeld3
import Derived.OrdersHeld
import Derived.Deep.LoopGhost
import Derived.Laws.CopyRow
import Derived.KernelRfl
import Derived.IntWalk
import Derived.Test.YtdfipdpeilegpaaProg
import Derived.Laws.StructEq
import Derived.RowKit3
import Derived.Deep.QuietTactic
import Derived.BigQuiet
import Derived.StillTailTactics
import Derived.Deep.RegionLaw
import Derived.Deep.DeepCutAuto
namespace Go.Proofs.YtdfipdpeilegpaaSep
theorem kA {p : Prop} (h : p := by repeat (with_reducible first | exact Upd.refl _ _ | apply Upd.put2 | apply Upd.put1 | apply Upd.put0 | apply Upd.alloc | apply Upd.drewN | apply Upd.drew)) : p := h
theorem kB {p : Prop} (h : p := by first | omega | (simp; done) | (simp; omega)) : p := h
theorem kC {p : Prop} (h : p := by repeat (with_reducible first | exact Upd.refl _ _ | apply Upd.setg)) : p := h
theorem kR {p : Prop} (h : p := by kernel_rfl) : p := h
theorem kD {p : Prop} (h : p := by decide) : p := h
theorem kO {p : Prop} (h : p := by omega) : p := h
theorem kS {p : Prop} (h : p := by simp [Value.oneCell']) : p := h
end Go.Proofs.YtdfipdpeilegpaaSep
namespace Go.Proofs.YtdfipdpeilegpaaSep
open Go.ChangeShapes Go.WideShapes Go.RowKit
structure Sd (p : Prop) : Prop where mk :: (out : p)
structure Upd (F : Nat → Prop) (w w' : World) : Prop where
 os : w'.os = w.os
 tape : w'.tape = w.tape
 output : w'.output = w.output
 size : w.heap.size ≤ w'.heap.size
 block : ∀ b, b < w.heap.size → ¬ F b → w'.heap[b]? = w.heap[b]?
def No : Nat → Prop := fun _ => False
theorem Upd.refl (F : Nat → Prop) (w : World) : Upd F w w := ⟨rfl, rfl, rfl, Nat.le_refl _, fun _ _ _ => rfl⟩
theorem Upd.trans {F G H : Nat → Prop} {w w1 w2 : World} (h : Upd F w w1) (k : Upd G w1 w2) (hF : ∀ b, b < w.heap.size → F b → H b) (hG : ∀ b, b < w.heap.size → G b → H b) : Upd H w w2 :=
 ⟨k.os.trans h.os, k.tape.trans h.tape, k.output.trans h.output, Nat.le_trans h.size k.size, fun b hb hH => (k.block b (Nat.lt_of_lt_of_le hb h.size) (fun q => hH (hG b hb q))).trans (h.block b hb (fun q => hH (hF b hb q)))⟩
theorem Upd.mono {F G : Nat → Prop} {w w' : World} (h : Upd F w w') (hF : ∀ b, b < w.heap.size → F b → G b) : Upd G w w' := ⟨h.os, h.tape, h.output, h.size, fun b hb hG => h.block b hb (fun q => hG (hF b hb q))⟩
theorem Upd.then {w w1 w2 : World} (h : Upd No w w1) (k : Upd No w1 w2) : Upd No w w2 := h.trans k (fun _ _ q => q) (fun _ _ q => q)
theorem Upd.alloc {F : Nat → Prop} {w w1 : World} (h : Upd F w w1) (o : Obj) : Upd F w (w1.alloc o) :=
 ⟨h.os, h.tape, h.output, Nat.le_trans h.size (by simp), fun b hb hF => by rw [← h.block b hb hF]; exact heap_alloc_old w1 o (Nat.lt_of_lt_of_le hb h.size)⟩
theorem Upd.drewN {F : Nat → Prop} {w w1 : World} (h : Upd F w w1) (n : Nat) : Upd F w (w1.drewN n) := ⟨h.os, h.tape, h.output, h.size, h.block⟩
theorem Upd.drew {F : Nat → Prop} {w w1 : World} (h : Upd F w w1) : Upd F w w1.drew := ⟨h.os, h.tape, h.output, h.size, h.block⟩
theorem Upd.set {F : Nat → Prop} {w w1 : World} (h : Upd F w w1) (p : Addr) (u : Value) (hp : w.heap.size ≤ p.block ∨ F p.block) : Upd F w (w1.setCell p u) := by
 have hb : ∀ b, b ≠ p.block → (w1.setCell p u).heap[b]? = w1.heap[b]? := fun b hb => Below.heap_setCell w1 p u b hb
 have hs : (w1.setCell p u).heap.size = w1.heap.size := by simp [World.setCell]
 exact ⟨h.os, h.tape, h.output, by rw [hs]; exact h.size, fun b hb' hF => (hb b (by rintro rfl; rcases hp with hp | hp; omega; exact hF hp)).trans (h.block b hb' hF)⟩
theorem Upd.below {w w' : World} (h : Upd No w w') : Below w.heap.size w w' := ⟨h.os, h.tape, h.output, h.size, fun b hb => h.block b hb (fun q => q)⟩
theorem Upd.of_grown {w w' : World} {row : Option Nat} (h : w.grownBy w' row) : Upd (fun b => some b = row) w w' := ⟨h.os, h.tape, h.output, h.size, fun b hb hF => h.block b hb hF⟩
theorem Upd.cells {w w' : World} (h : Upd No w w') : (∀ b o, b < w.heap.size → w'.cell? ⟨b, o, none⟩ = w.cell? ⟨b, o, none⟩) ∧ (∀ b o, b < w.heap.size → w'.frozen? ⟨b, o, none⟩ = w.frozen? ⟨b, o, none⟩) :=
 ⟨fun b o hb => h.below.cell (p := ⟨b, o, none⟩) hb, fun b o hb => h.below.frozen (p := ⟨b, o, none⟩) hb⟩
theorem Upd.cellsF {F : Nat → Prop} {w w' : World} (h : Upd F w w') {b : Nat} (hb : b < w.heap.size) (hF : ¬ F b) (o : Nat) : w'.cell? ⟨b, o, none⟩ = w.cell? ⟨b, o, none⟩ := by
 simp [World.cell?, h.block b hb hF]
theorem Upd.fE {F : Nat → Prop} {w w' : World} (h : Upd F w w') {b : Nat} (hb : b < w.heap.size) (hF : ¬ F b) (o : Nat) : w'.frozen? ⟨b, o, none⟩ = w.frozen? ⟨b, o, none⟩ := by
 simp [World.frozen?, h.block b hb hF]
theorem blk_set {w : World} {g : Nat} {t : TypeId} {cs : Array Value} (h : w.heap[g]? = some (.cells cs t (0, 0))) (i : Nat) (u : Value) : (w.setCell ⟨g, i, none⟩ u).heap[g]? = some (.cells (cs.setIfInBounds i u) t (0, 0)) := by
 simp [World.setCell, Array.getElem?_modify, h]
structure Kn (α : Type) where
 sz : Nat
 K : World → α → List Value → Prop
 M : World → (Nat → Prop) → α → List Value → Prop
 K_len : ∀ {w x cs}, K w x cs → cs.length = sz
 K_one : ∀ {w x cs}, K w x cs → ∀ u ∈ cs, u.oneCell' = true
 K_stay : ∀ {w w' : World} {x cs}, (∀ b, b < w.heap.size → w'.heap[b]? = w.heap[b]?) → K w x cs → K w' x cs
 eU : ∀ {w F x cs}, M w F x cs → K w x cs
 dN : ∀ {w F F' x cs}, (∀ b, F b → F' b) → M w F x cs → M w F' x cs
 M_lt : ∀ {w : World} {F x cs}, M w F x cs → M w (fun b => F b ∧ b < w.heap.size) x cs
 dL : ∀ {w w' : World} {F x cs}, (∀ b, F b → w'.heap[b]? = w.heap[b]?) → M w F x cs → M w' F x cs
section
variable {α : Type} (d : Kn α)
def piece (sz : Nat) (l : List Value) (i : Nat) : List Value := (l.drop (i * sz)).take sz
def C (w : World) (A : Option Addr) (xs : List α) : Prop :=
 xs.length ≤ 9223372036854775807 ∧ (0 < xs.length → ∃ ad, A = some ad ∧ ∀ j p, xs[j]? = some p → ∃ c, d.K w p c ∧ ∀ i u, c[i]? = some u → w.cell? (ad.add (j * d.sz + i)) = some u)
def R (e : Nat) (w : World) (F : Nat → Prop) (v : Value) (xs : List α) : Prop :=
 (v = .slice none 0 0 ∧ xs = []) ∨
 ∃ (g cap : Nat) (cur : Array Value) (Fs : Nat → Nat → Prop), v = .slice (some ⟨g, 0, none⟩) xs.length cap ∧ w.heap[g]? = some (.cells cur e (0, 0)) ∧ F g ∧ xs.length ≤ cap ∧ cap ≤ 9223372036854775807 ∧ cur.size = cap * d.sz ∧
  (∀ i b, Fs i b → F b ∧ b ≠ g) ∧ (∀ i j b, Fs i b → Fs j b → i = j) ∧ ∀ i x, xs[i]? = some x → d.M w (Fs i) x (piece d.sz cur.toList i)
variable {d} {e : Nat} {w w' : World} {F F' : Nat → Prop} {v : Value} {xs : List α}
theorem R_nil : R d e w F (.slice none 0 0) [] := .inl ⟨rfl, rfl⟩
theorem dZ (hF : ∀ b, F b → F' b) (h : R d e w F v xs) : R d e w F' v xs := by
 rcases h with h | ⟨g, cap, cur, Fs, h1, h2, h3, h4, h5, h6, h7, h8, h9⟩
 ·exact .inl h
 ·exact .inr ⟨g, cap, cur, Fs, h1, h2, hF _ h3, h4, h5, h6, fun i b hb => ⟨hF _ (h7 i b hb).1, (h7 i b hb).2⟩, h8, h9⟩
theorem heap_lt {w : World} {g : Nat} {o : Obj} (h : w.heap[g]? = some o) : g < w.heap.size := (Array.getElem?_eq_some_iff.1 h).1
theorem R_lt (h : R d e w F v xs) : R d e w (fun b => F b ∧ b < w.heap.size) v xs := by
 rcases h with h | ⟨g, cap, cur, Fs, h1, h2, h3, h4, h5, h6, h7, h8, h9⟩
 ·exact .inl h
 ·refine .inr ⟨g, cap, cur, fun i b => Fs i b ∧ b < w.heap.size, h1, h2, ⟨h3, heap_lt h2⟩, h4, h5, h6, fun i b hb => ⟨⟨(h7 i b hb.1).1, hb.2⟩, (h7 i b hb.1).2⟩, fun i j b hi hj => h8 i j b hi.1 hj.1, fun i x hx => d.M_lt (h9 i x hx)⟩
theorem R_same (hF : ∀ b, F b → w'.heap[b]? = w.heap[b]?) (h : R d e w F v xs) : R d e w' F v xs := by
 rcases h with h | ⟨g, cap, cur, Fs, h1, h2, h3, h4, h5, h6, h7, h8, h9⟩
 ·exact .inl h
 ·exact .inr ⟨g, cap, cur, Fs, h1, (hF _ h3).trans h2, h3, h4, h5, h6, h7, h8, fun i x hx => d.dL (fun b hb => hF b (h7 i b hb).1) (h9 i x hx)⟩
theorem R_reads (h : R d e w F v xs) : ∃ A c, v = .slice A xs.length c ∧ xs.length ≤ c ∧ C d w A xs := by
 rcases h with ⟨rfl, rfl⟩ | ⟨g, cap, cur, Fs, h1, h2, h3, h4, h5, h6, h7, h8, h9⟩
 ·exact ⟨none, 0, rfl, Nat.le_refl _, by simp, fun h => absurd h (Nat.lt_irrefl 0)⟩
 ·refine ⟨_, cap, h1, h4, by omega, fun _ => ⟨_, rfl, fun j p hp => ⟨_, d.eU (h9 j p hp), fun i u hu => ?_⟩⟩⟩
  have hi : i < d.sz := by have := (List.getElem?_eq_some_iff.1 hu).1; simp [piece] at this; omega
  have : cur[j * d.sz + i]? = some u := by
   simp [piece, hi] at hu
   exact hu
  rw [show (⟨g, 0, none⟩ : Addr).add (j * d.sz + i) = ⟨g, j * d.sz + i, none⟩ by unfold Addr.add; split <;> simp_all]
  rw [cell_of_row w g _ cur e (0, 0) h2]
  exact this
theorem C_stay {A : Option Addr} (h : ∀ b, b < w.heap.size → w'.heap[b]? = w.heap[b]?) (hc : C d w A xs) : C d w' A xs := by
 refine ⟨hc.1, fun hp => ?_⟩
 obtain ⟨ad, rfl, k⟩ := hc.2 hp
 refine ⟨ad, rfl, fun j p hj => ?_⟩
 obtain ⟨c, k1, k2⟩ := k j p hj
 refine ⟨c, d.K_stay h k1, fun i u hu => ?_⟩
 have := k2 i u hu
 have hb := World.block_lt_of_cell? w _ this
 rw [← this]
 simp only [World.cell?, h _ hb]
end
namespace Kn
def scalar {α : Type} (enc : α → Value) (h1 : ∀ x, (enc x).oneCell' = true) : Kn α where
 sz := 1
 K := fun _ x cs => cs = [enc x]
 M := fun _ _ x cs => cs = [enc x]
 K_len := fun h => by rw [h]; rfl
 K_one := fun h u hu => by rw [h] at hu; rw [List.mem_singleton.1 hu]; exact h1 _
 K_stay := fun _ h => h
 eU := fun h => h
 dN := fun _ h => h
 M_lt := fun h => h
 dL := fun _ h => h
def int : Kn Int := scalar (Value.int .i64) (fun _ => rfl)
def bool : Kn Bool := scalar Value.bool (fun _ => rfl)
def string : Kn ByteArray := scalar Value.string (fun _ => rfl)
def slice {α : Type} (e : Nat) (d : Kn α) : Kn (List α) where
 sz := 1
 K := fun w xs cs => ∃ A c, cs = [.slice A xs.length c] ∧ xs.length ≤ c ∧ C d w A xs
 M := fun w F xs cs => ∃ v, cs = [v] ∧ R d e w F v xs
 K_len := by rintro w x cs ⟨A, c, rfl, _⟩; rfl
 K_one := by rintro w x cs ⟨A, c, rfl, _⟩ u hu; rw [List.mem_singleton.1 hu]; rfl
 K_stay := by rintro w w' x cs h ⟨A, c, rfl, hl, hr⟩; exact ⟨A, c, rfl, hl, C_stay h hr⟩
 eU := by rintro w F x cs ⟨v, rfl, h⟩; obtain ⟨A, c, rfl, hl, hr⟩ := R_reads h; exact ⟨A, c, rfl, hl, hr⟩
 dN := by rintro w F F' x cs hF ⟨v, rfl, h⟩; exact ⟨v, rfl, dZ hF h⟩
 M_lt := by rintro w F x cs ⟨v, rfl, h⟩; exact ⟨v, rfl, R_lt h⟩
 dL := by rintro w w' F x cs hF ⟨v, rfl, h⟩; exact ⟨v, rfl, R_same hF h⟩
def pair {α β : Type} (a : Kn α) (b : Kn β) : Kn (α × β) where
 sz := a.sz + b.sz
 K := fun w x cs => ∃ c0 c1, cs = c0 ++ c1 ∧ a.K w x.1 c0 ∧ b.K w x.2 c1
 M := fun w F x cs => ∃ c0 c1 F0 F1, cs = c0 ++ c1 ∧ a.M w F0 x.1 c0 ∧ b.M w F1 x.2 c1 ∧ (∀ k, F0 k → F k) ∧ (∀ k, F1 k → F k) ∧ ∀ k, F0 k → ¬ F1 k
 K_len := by rintro w x cs ⟨c0, c1, rfl, h0, h1⟩; rw [List.length_append, a.K_len h0, b.K_len h1]
 K_one := by
  rintro w x cs ⟨c0, c1, rfl, h0, h1⟩ u hu
  rcases List.mem_append.1 hu with hu | hu
  ·exact a.K_one h0 u hu
  ·exact b.K_one h1 u hu
 K_stay := by rintro w w' x cs h ⟨c0, c1, rfl, h0, h1⟩; exact ⟨c0, c1, rfl, a.K_stay h h0, b.K_stay h h1⟩
 eU := by rintro w F x cs ⟨c0, c1, F0, F1, rfl, h0, h1, _⟩; exact ⟨c0, c1, rfl, a.eU h0, b.eU h1⟩
 dN := by rintro w F F' x cs hF ⟨c0, c1, F0, F1, rfl, h0, h1, k0, k1, k2⟩; exact ⟨c0, c1, F0, F1, rfl, h0, h1, fun k hk => hF k (k0 k hk), fun k hk => hF k (k1 k hk), k2⟩
 M_lt := by
  rintro w F x cs ⟨c0, c1, F0, F1, rfl, h0, h1, k0, k1, k2⟩
  exact ⟨c0, c1, _, _, rfl, a.M_lt h0, b.M_lt h1, fun k hk => ⟨k0 k hk.1, hk.2⟩, fun k hk => ⟨k1 k hk.1, hk.2⟩, fun k hk hk' => k2 k hk.1 hk'.1⟩
 dL := by
  rintro w w' F x cs hF ⟨c0, c1, F0, F1, rfl, h0, h1, k0, k1, k2⟩
  exact ⟨c0, c1, F0, F1, rfl, a.dL (fun b hb => hF b (k0 b hb)) h0, b.dL (fun b hb => hF b (k1 b hb)) h1, k0, k1, k2⟩
def iso {α β : Type} (d : Kn α) (f : β → α) : Kn β where
 sz := d.sz
 K := fun w x cs => d.K w (f x) cs
 M := fun w F x cs => d.M w F (f x) cs
 K_len := d.K_len
 K_one := d.K_one
 K_stay := d.K_stay
 eU := d.eU
 dN := d.dN
 M_lt := d.M_lt
 dL := d.dL
end Kn
section
variable {α : Type} {d : Kn α} {e : Nat} {w w' : World} {F F' : Nat → Prop} {v : Value} {xs : List α} {x : α} {cs : List Value}
theorem K_upd (h : Upd No w w') (k : d.K w x cs) : d.K w' x cs := d.K_stay (fun b hb => h.block b hb (fun q => q)) k
theorem bQ {A : Option Addr} (h : Upd No w w') (k : C d w A xs) : C d w' A xs := C_stay (fun b hb => h.block b hb (fun q => q)) k
theorem M_upd {G : Nat → Prop} (h : Upd G w w') (hG : ∀ b, F b → ¬ G b) (k : d.M w F x cs) : d.M w' F x cs := d.dN (fun _ q => q.1) (d.dL (fun b hb => h.block b hb.2 (hG b hb.1)) (d.M_lt k))
theorem R_upd {G : Nat → Prop} (h : Upd G w w') (hG : ∀ b, F b → ¬ G b) (k : R d e w F v xs) : R d e w' F v xs := dZ (fun _ q => q.1) (R_same (fun b hb => h.block b hb.2 (hG b hb.1)) (R_lt k))
theorem bK (h : R d e w F v xs) : ∃ A c, v = .slice A xs.length c := by
 obtain ⟨A, c, h, _⟩ := R_reads h
 exact ⟨A, c, h⟩
theorem C_get {A : Option Addr} (h : C d w A xs) (i : Nat) (hi : i < xs.length) : ∃ ad c, A = some ad ∧ c.length = d.sz ∧ d.K w xs[i] c ∧ ∀ j u, c[j]? = some u → w.cell? (ad.add (i * d.sz + j)) = some u := by
 obtain ⟨ad, rfl, k⟩ := h.2 kO
 obtain ⟨c, h1, h2⟩ := k i xs[i] (List.getElem?_eq_getElem hi)
 exact ⟨ad, c, rfl, d.K_len h1, h1, h2⟩
theorem add_field (ad : Addr) (m j : Nat) (hj : 0 < j) : ad.add (m + j) = ⟨(ad.add m).block, (ad.add m).off + j, none⟩ := by
 unfold Addr.add
 by_cases hm : m = 0
 ·subst hm
  simp [Nat.ne_of_gt hj]
 ·have : m + j ≠ 0 := by omega
  simp [hm, Nat.add_assoc]
theorem C_at {A : Option Addr} (h : C d w A xs) (i : Nat) (hi : i < xs.length) : ∃ ad c, A = some ad ∧ d.K w xs[i] c ∧ (∀ u, c[0]? = some u → w.cell? (ad.add (i * d.sz)) = some u) ∧
 ∀ j u, c[j + 1]? = some u → w.cell? ⟨(ad.add (i * d.sz)).block, (ad.add (i * d.sz)).off + (j + 1), none⟩ = some u := by
 obtain ⟨ad, c, h1, _, h3, h4⟩ := C_get h i hi
 exact ⟨ad, c, h1, h3, fun u hu => h4 0 u hu, fun j u hu => by rw [← add_field _ _ (j + 1) kO]; exact h4 (j + 1) u hu⟩
end
section
variable {α : Type} {a b : List α} {i : Nat}
end
structure At (w0 w : World) (g o n e : Nat) (cur0 : Array Value) (ce : List Value) (Fi : Nat → Prop) : Prop where
 row : ∃ cur, w.heap[g]? = some (.cells cur e (0, 0)) ∧ cur.size = cur0.size ∧ (∀ p, p < o ∨ o + n ≤ p → cur[p]? = cur0[p]?) ∧ (cur.toList.drop o).take n = ce
 upd : Upd (fun b => b = g ∨ Fi b) w0 w
 len : ce.length = n
section
variable {w0 w w' : World} {g o n e : Nat} {cur0 : Array Value} {ce : List Value} {Fi : Nat → Prop}
theorem At.room (h : At w0 w g o n e cur0 ce Fi) : ∀ j, j < n → o + j < cur0.size := by
 obtain ⟨cur, _, h2, _, h4⟩ := h.row
 intro j hj
 have := h.len
 rw [← h4, List.length_take, List.length_drop, Array.length_toList] at this
 omega
theorem At.cell (h : At w0 w g o n e cur0 ce Fi) (j : Nat) (u : Value) (hu : ce[j]? = some u) : w.cell? ⟨g, o + j, none⟩ = some u := by
 obtain ⟨cur, h1, h2, _, h4⟩ := h.row
 rw [cell_of_row w g _ cur e (0, 0) h1]
 have hj : j < n := by rw [← h.len]; exact (List.getElem?_eq_some_iff.1 hu).1
 rw [← h4, List.getElem?_take, if_pos hj, List.getElem?_drop] at hu
 simpa using hu
theorem At.cell0 (h : At w0 w g o n e cur0 ce Fi) (u : Value) (hu : ce[0]? = some u) : w.cell? ⟨g, o, none⟩ = some u := h.cell 0 u hu
theorem At.free (h : At w0 w g o n e cur0 ce Fi) (j : Nat) : w.frozen? ⟨g, j, none⟩ = false := by
 obtain ⟨cur, h1, _⟩ := h.row
 simp [World.frozen?, h1]
theorem At.set (h : At w0 w g o n e cur0 ce Fi) (j : Nat) (hj : j < n) (u : Value) : At w0 (w.setCell ⟨g, o + j, none⟩ u) g o n e cur0 (ce.set j u) Fi := by
 obtain ⟨cur, h1, h2, h3, h4⟩ := h.row
 refine ⟨⟨cur.setIfInBounds (o + j) u, blk_set h1 (o + j) u, by simpa using h2, fun p hp => ?_, ?_⟩, h.upd.set _ _ (.inr (.inl rfl)), by simpa using h.len⟩
 ·rw [Array.getElem?_setIfInBounds_ne kO]
  exact h3 p hp
 ·rw [← h4]
  apply List.ext_getElem?
  intro i
  simp only [List.getElem?_take, List.getElem?_drop, List.getElem?_set, Array.toList_setIfInBounds]
  by_cases hi : i < n
  ·have : o + j < cur.toList.length := by rw [Array.length_toList, h2]; exact h.room j hj
   by_cases e : j = i
   ·subst e
    have t2 : o + j < cur.size := by simpa using this
    simp [hj, t2]
    omega
   ·simp [hi, e]
  ·simp [hi]
   omega
theorem At.call (h : At w0 w g o n e cur0 ce Fi) {G : Nat → Prop} (k : Upd G w w') (hG : ∀ b, G b → Fi b) (hg : ¬ Fi g) : At w0 w' g o n e cur0 ce Fi := by
 obtain ⟨cur, h1, h2, h3, h4⟩ := h.row
 exact ⟨⟨cur, (k.block g (heap_lt h1) (fun q => hg (hG g q))).trans h1, h2, h3, h4⟩, h.upd.trans k (fun _ _ q => q) (fun b _ q => .inr (hG b q)), h.len⟩
variable {α : Type} {d : Kn α} {F : Nat → Prop} {v : Value} {xs : List α}
end
def RetInt (n : Int) (w : World) (e : Ending) (w' : World) : Prop := e = .returned (.int .i64 n) ∧ Upd No w w'
def dU (b : Bool) (w : World) (e : Ending) (w' : World) : Prop := e = .returned (.bool b) ∧ Upd No w w'
def New (w : World) : Nat → Prop := fun b => w.heap.size ≤ b
def eH {α : Type} (d : Kn α) (ty : Nat) (xs : List α) (w : World) (e : Ending) (w' : World) : Prop := ∃ v, e = .returned v ∧ R d ty w' (New w) v xs ∧ Upd No w w'
def RetAgg {α : Type} (d : Kn α) (x : α) (w : World) (e : Ending) (w' : World) : Prop := ∃ cs, e = .returned (.agg cs.toArray) ∧ d.M w' (New w) x cs ∧ Upd No w w'
theorem Upd.put0 {w w1 : World} (h : Upd No w w1) (o : Nat) (u : Value) : Upd No w (w1.setCell ⟨w.heap.size, o, none⟩ u) := h.set _ _ (.inl (Nat.le_refl _))
theorem Upd.put1 {w w1 : World} (h : Upd No w w1) (o : Nat) (u : Value) : Upd No w (w1.setCell ⟨w.heap.size + 1, o, none⟩ u) := h.set _ _ (.inl (Nat.le_succ _))
theorem Upd.put2 {w w1 : World} (h : Upd No w w1) (o : Nat) (u : Value) : Upd No w (w1.setCell ⟨w.heap.size + 1 + 1, o, none⟩ u) := h.set _ _ (.inl (by dsimp only; omega))
theorem Upd.putP {P : Nat → Prop} {w w1 : World} {g : Nat} (hn : ¬ P g) (h : Upd (fun b => ¬ P b) w w1) (o : Nat) (u : Value) : Upd (fun b => ¬ P b) w (w1.setCell ⟨g, o, none⟩ u) := h.set _ _ (.inr hn)
theorem Upd.read {w w1 : World} (h : Upd No w w1) {a : Addr} {v : Value} (hc : w.cell? a = some v) : w1.cell? a = some v := (h.below.cell (World.block_lt_of_cell? w a hc)).trans hc
section
variable {α : Type} {d : Kn α} {e : Nat} {w w' : World} {F : Nat → Prop} {v : Value} {xs : List α}
theorem add_plain (g j : Nat) : (⟨g, 0, none⟩ : Addr).add j = ⟨g, j, none⟩ := by unfold Addr.add; split <;> simp_all
theorem piece_take {sz : Nat} {l : List Value} {n i : Nat} (h : i < n) : piece sz (l.take (n * sz)) i = piece sz l i := by
 have h1 : i * sz + sz ≤ n * sz := by rw [← Nat.succ_mul]; exact Nat.mul_le_mul_right _ h
 apply List.ext_getElem?
 intro q
 simp only [piece, List.getElem?_take, List.getElem?_drop]
 by_cases hq : q < sz
 ·simp only [if_pos hq]
  rw [if_pos kO]
 ·simp only [if_neg hq]
theorem R_of_owns {base : Nat} {inner : List Value} (h : w.ownsRow base e d.sz v xs.length inner) (hF : ∀ g, v.ownBlock = some g → F g) (Fs : Nat → Nat → Prop)
 (h1 : ∀ i b, Fs i b → F b ∧ v.ownBlock ≠ some b) (h2 : ∀ i j b, Fs i b → Fs j b → i = j) (h3 : ∀ i x, xs[i]? = some x → d.M w (Fs i) x (piece d.sz inner i)) : R d e w F v xs := by
 rcases h.2 with ⟨rfl, hn⟩ | ⟨g, cap, cur, rfl, _, k2, k3, k4, k5, k6⟩
 ·exact .inl ⟨rfl, List.eq_nil_of_length_eq_zero hn⟩
 ·refine .inr ⟨g, cap, cur, Fs, rfl, k2, hF g rfl, k3, by simpa [maxLen] using k4, k5, fun i b hb => ⟨(h1 i b hb).1, fun q => (h1 i b hb).2 (by rw [q]; rfl)⟩, h2, fun i x hx => ?_⟩
  have := h3 i x hx
  rw [← k6, piece_take (List.getElem?_eq_some_iff.1 hx).1] at this
  exact this
theorem owns_of_R (h : R d e w F v xs) : ∃ (inner : List Value) (Fs : Nat → Nat → Prop), w.ownsRow 0 e d.sz v xs.length inner ∧ (∀ g, v.ownBlock = some g → F g) ∧ (∀ i b, Fs i b → F b ∧ v.ownBlock ≠ some b) ∧ (∀ i j b, Fs i b → Fs j b → i = j) ∧ ∀ i x, xs[i]? = some x → d.M w (Fs i) x (piece d.sz inner i) := by
 rcases h with ⟨rfl, rfl⟩ | ⟨g, cap, cur, Fs, rfl, h2, h3, h4, h5, h6, h7, h8, h9⟩
 ·exact ⟨[], fun _ _ => False, ⟨by simp, .inl ⟨rfl, rfl⟩⟩, fun g hg => by simp [Value.ownBlock] at hg, fun _ _ h => h.elim, fun _ _ _ h => h.elim, fun i x h => by simp at h⟩
 ·refine ⟨cur.toList.take (xs.length * d.sz), Fs, ⟨?_, .inr ⟨g, cap, cur, rfl, Nat.zero_le _, h2, h4, by simpa [maxLen] using h5, h6, rfl⟩⟩, fun b hb => (show g = b by simpa [Value.ownBlock] using hb) ▸ h3, fun i b hb => ⟨(h7 i b hb).1, fun q => (h7 i b hb).2 (by simpa [Value.ownBlock] using q.symm)⟩, h8, fun i x hx => ?_⟩
  ·have q1 := Nat.mul_le_mul_right d.sz h4
   have q2 : cur.toList.length = cap * d.sz := by simpa using h6
   rw [List.length_take, q2, Nat.min_eq_left q1]
  ·rw [piece_take (List.getElem?_eq_some_iff.1 hx).1]
   exact h9 i x hx
theorem R_keep (h : R d e w F v xs) (hU : Upd (fun b => ¬ F b) w w') : R d e w' F v xs := R_upd hU (fun _ hb q => q hb) h
theorem R_C {A : Option Addr} {n c : Nat} (h : R d e w F (.slice A n c) xs) : C d w A xs := by
 obtain ⟨A', c', he, _, hC⟩ := R_reads h
 cases he
 exact hC
end
section
variable {α : Type} {d : Kn α} {e : Nat} {F : Nat → Prop} {v : Value} {xs : List α} {P : Program} {ops : Array Oper} {rest : List Oper} {o : Oper} {a : Act} {Q : Exit → Act → World → Prop}
theorem R_app {W : World} (hgd : o.guard = none) (s x : Operand) (t : TypeId) (z : Value) (bytes : Nat)
 (ho : o.op = .call { callee := .builtin .append, args := #[s, x], argTypes := #[t, t] })
 (ht : P.underlying t = some (.slice e)) (hinfo : (P.info? e).map (fun i => (i.zero, i.size, i.bytes)) = some (some z, d.sz, bytes)) (hz : z.cells.size = d.sz) (hs0 : 0 < d.sz) (hb0 : 0 < bytes)
 (p : α) (cs : List Value) (Fp : Nat → Prop) (hs : a.eval s = v) (hx : a.eval x = .slice (some ⟨W.heap.size, 0, none⟩) 1 1) (HR : R d e W F v xs) (hp : d.M W Fp p cs) (hd : ∀ b, Fp b → ¬ F b) (hl : (xs.length + 1) * bytes ≤ 140737488355328)
 (h : ∀ v1 w1, R d e w1 (fun b => F b ∨ Fp b ∨ W.heap.size ≤ b) v1 (xs ++ [p]) → Upd F W w1 → wpList P ops Q rest (a.put o.dst v1) w1) :
 wpList P ops Q (o :: rest) a (W.alloc (.cells cs.toArray e)) := by
 obtain ⟨i0, hi, hzz⟩ := Option.map_eq_some_iff.1 hinfo
 simp only [Prod.mk.injEq] at hzz
 obtain ⟨hz0, hz1, hz2⟩ := hzz
 have hlen : xs.length + 1 ≤ 140737488355328 := Nat.le_trans (Nat.le_mul_of_pos_right _ hb0) hl
 obtain ⟨inner, Fs, k1, k2, k3, k4, k5⟩ := owns_of_R (R_lt HR)
 have hcs := d.eU hp
 refine wpList_append_own_at (W.alloc (.cells cs.toArray e)) hgd s x t ho 0 e i0 z d.sz bytes ht hi hz0 hz1 hz2 hz hs0 v xs.length inner hs (k1.alloc _) ⟨W.heap.size, 0, none⟩ 1 1 cs hx (by rw [d.K_len hcs]; simp)
  (by simpa using World.news_of_block (cs := cs.toArray) (t := e) (fr := (0, 0)) (heap_alloc_new W (.cells cs.toArray e))) (d.K_one hcs) (by simp only [maxLen]; omega) hl (Nat.zero_le _) ?_
 intro v1 w1 hown hg _ hat
 have hU : Upd F W w1 := ((Upd.refl F W).alloc _).trans (Upd.of_grown hg) (fun _ _ q => q) (fun b hb q => by
  have hb' : v.ownBlock = some b := q.symm
  exact (k2 b hb').1)
 have hne : ∀ b, b < W.heap.size → v.ownBlock ≠ some b → v1.ownBlock ≠ some b := by
  intro b hb hv
  rcases hat with hat | hat
  ·rw [hat]; exact hv
  ·rw [hat]
   intro q
   injection q with q
   have : (W.alloc (.cells cs.toArray e)).heap.size = W.heap.size + 1 := by simp
   omega
 have hfr : ∀ b, b < W.heap.size → v.ownBlock ≠ some b → w1.heap[b]? = W.heap[b]? := by
  intro b hb hv
  rw [hg.block b (by simp; omega) (fun q => hv q.symm)]
  exact heap_alloc_old W _ hb
 refine h v1 w1 (R_of_owns (xs := xs ++ [p]) (base := 0) (inner := inner ++ cs) (by simpa using hown) (fun g hg' => ?_) (fun i b => if i < xs.length then Fs i b else i = xs.length ∧ Fp b ∧ b < W.heap.size) (fun i b hb => ?_) (fun i j b hi' hj' => ?_) (fun i x' hx' => ?_)) hU
 ·rcases hat with hat | hat
  ·exact .inl (k2 g (hat ▸ hg')).1
  ·rw [hat] at hg'
   injection hg' with q
   exact .inr (.inr (by rw [← q]; simp))
 ·by_cases c : i < xs.length
  ·simp only [c, if_true] at hb
   have := k3 i b hb
   exact ⟨.inl this.1.1, hne b this.1.2 this.2⟩
  ·simp only [c, if_false] at hb
   exact ⟨.inr (.inl hb.2.1), hne b hb.2.2 (fun q => hd b hb.2.1 (k2 b q).1)⟩
 ·by_cases c : i < xs.length <;> by_cases c' : j < xs.length
  ·simp only [c, c', if_true] at hi' hj'
   exact k4 i j b hi' hj'
  ·simp only [c, c', if_true, if_false] at hi' hj'
   exact absurd (k3 i b hi').1.1 (hd b hj'.2.1)
  ·simp only [c, c', if_true, if_false] at hi' hj'
   exact absurd (k3 j b hj').1.1 (hd b hi'.2.1)
  ·simp only [c, c', if_false] at hi' hj'
   omega
 ·by_cases c : i < xs.length
  ·simp only [c, if_true]
   rw [List.getElem?_append_left c] at hx'
   have hpc : piece d.sz (inner ++ cs) i = piece d.sz inner i := by
    have h1 : i * d.sz + d.sz ≤ inner.length := by rw [k1.1, ← Nat.succ_mul]; exact Nat.mul_le_mul_right _ c
    unfold piece
    rw [List.drop_append_of_le_length kO, List.take_append_of_le_length (by rw [List.length_drop]; omega)]
   rw [hpc]
   exact d.dN (fun _ q => q.1) (d.dL (fun b hb => hfr b hb.2 (k3 i b hb.1).2) (d.M_lt (k5 i x' hx')))
  ·simp only [c, if_false]
   have hil := (List.getElem?_eq_some_iff.1 hx').1
   have hi' : i = xs.length := by simp at hil; omega
   subst hi'
   have hx2 : p = x' := by simpa using hx'
   subst hx2
   have hpc : piece d.sz (inner ++ cs) xs.length = cs := by
    unfold piece
    rw [← k1.1, List.drop_left, List.take_of_length_le (by rw [d.K_len hcs]; exact Nat.le_refl _)]
   rw [hpc]
   exact d.dN (fun _ q => ⟨rfl, q.1, q.2⟩) (d.dL (fun b hb => hfr b hb.2 (fun q => hd b hb.1 (k2 b q).1)) (d.M_lt hp))
end
section
variable {α : Type} {d : Kn α} {e : Nat} {w w' : World} {F : Nat → Prop} {v : Value} {xs ys : List α}
def Flat (d : Kn α) : Prop := ∀ w w' F x cs, d.K w x cs → d.M w' F x cs
def CM (d : Kn α) (w : World) (A : Option Addr) (xs : List α) (Fs : Nat → Nat → Prop) : Prop :=
 xs.length ≤ 9223372036854775807 ∧ (0 < xs.length → ∃ ad, A = some ad ∧ ∀ j p, xs[j]? = some p → ∃ c, d.M w (Fs j) p c ∧ ∀ i u, c[i]? = some u → w.cell? (ad.add (j * d.sz + i)) = some u)
theorem CM_of_flat (hf : Flat d) {A : Option Addr} (h : C d w A xs) : CM d w A xs (fun _ => No) := by
 refine ⟨h.1, fun hp => ?_⟩
 obtain ⟨ad, rfl, k⟩ := h.2 hp
 refine ⟨ad, rfl, fun j p hj => ?_⟩
 obtain ⟨c, k1, k2⟩ := k j p hj
 exact ⟨c, hf _ _ _ _ _ k1, k2⟩
theorem CM_news {ad : Addr} {Fs : Nat → Nat → Prop} (k : ∀ j p, xs[j]? = some p → ∃ c, d.M w (Fs j) p c ∧ ∀ i u, c[i]? = some u → w.cell? (ad.add (j * d.sz + i)) = some u) (n : Nat) (hn : n ≤ xs.length) :
 ∃ news : List Value, news.length = n * d.sz ∧ (∀ j u, news[j]? = some u → w.cell? (ad.add j) = some u ∧ u.oneCell' = true) ∧ ∀ i x, i < n → xs[i]? = some x → d.M w (Fs i) x (piece d.sz news i) := by
 induction n with
 | zero => exact ⟨[], by simp, fun j u h => by simp at h, fun i x h => by omega⟩
 | succ n ih =>
  obtain ⟨news, h1, h2, h3⟩ := ih kO
  obtain ⟨c, k1, k2⟩ := k n xs[n] (List.getElem?_eq_getElem kO)
  have hc := d.eU k1
  have hl := d.K_len hc
  refine ⟨news ++ c, by rw [List.length_append, h1, hl, Nat.succ_mul], fun j u hj => ?_, fun i x hi hx => ?_⟩
  ·rcases Nat.lt_or_ge j news.length with hjl | hjl
   ·rw [List.getElem?_append_left hjl] at hj
    exact h2 j u hj
   ·rw [List.getElem?_append_right hjl] at hj
    have := k2 _ u hj
    rw [show n * d.sz + (j - news.length) = j by rw [← h1]; omega] at this
    exact ⟨this, d.K_one hc u (List.mem_of_getElem? hj)⟩
  ·rcases Nat.lt_or_ge i n with hin | hin
   ·have hp : piece d.sz (news ++ c) i = piece d.sz news i := by
     have h4 : i * d.sz + d.sz ≤ news.length := by rw [h1, ← Nat.succ_mul]; exact Nat.mul_le_mul_right _ hin
     unfold piece
     rw [List.drop_append_of_le_length kO, List.take_append_of_le_length (by rw [List.length_drop]; omega)]
    rw [hp]
    exact h3 i x hin hx
   ·obtain rfl : i = n := by omega
    have hx2 : xs[i] = x := by rw [List.getElem?_eq_getElem kO] at hx; exact Option.some.inj hx
    have hp : piece d.sz (news ++ c) i = c := by
     unfold piece
     rw [← h1, List.drop_left, List.take_of_length_le kO]
    rw [hp, ← hx2]
    exact k1
end
section
variable {α : Type} {d : Kn α} {e : Nat} {F : Nat → Prop} {v : Value} {xs ys : List α} {P : Program} {ops : Array Oper} {rest : List Oper} {o : Oper} {a : Act} {Q : Exit → Act → World → Prop}
theorem R_appRow {W : World} (hgd : o.guard = none) (s x : Operand) (t : TypeId) (z : Value) (bytes : Nat)
 (ho : o.op = .call { callee := .builtin .append, args := #[s, x], argTypes := #[t, t] })
 (ht : P.underlying t = some (.slice e)) (hinfo : (P.info? e).map (fun i => (i.zero, i.size, i.bytes)) = some (some z, d.sz, bytes)) (hz : z.cells.size = d.sz) (hs0 : 0 < d.sz) (hb0 : 0 < bytes)
 (ad : Addr) (c : Nat) (Gs : Nat → Nat → Prop) (hs : a.eval s = v) (hx : a.eval x = .slice (some ad) ys.length c) (HR : R d e W F v xs)
 (HC : ∀ j p, ys[j]? = some p → ∃ c, d.M W (Gs j) p c ∧ ∀ i u, c[i]? = some u → W.cell? (ad.add (j * d.sz + i)) = some u) (hd : ∀ j b, Gs j b → ¬ F b) (hd2 : ∀ i j b, Gs i b → Gs j b → i = j) (hl : (xs.length + ys.length) * bytes ≤ 140737488355328)
 (h : ∀ v1 w1, R d e w1 (fun b => F b ∨ (∃ j, j < ys.length ∧ Gs j b) ∨ W.heap.size ≤ b) v1 (xs ++ ys) → Upd F W w1 → wpList P ops Q rest (a.put o.dst v1) w1) :
 wpList P ops Q (o :: rest) a W := by
 obtain ⟨i0, hi, hzz⟩ := Option.map_eq_some_iff.1 hinfo
 simp only [Prod.mk.injEq] at hzz
 obtain ⟨hz0, hz1, hz2⟩ := hzz
 have hlen : xs.length + ys.length ≤ 140737488355328 := Nat.le_trans (Nat.le_mul_of_pos_right _ hb0) hl
 obtain ⟨inner, Fs, k1, k2, k3, k4, k5⟩ := owns_of_R (R_lt HR)
 obtain ⟨news, n1, n2, n3⟩ := CM_news (d := d) HC ys.length (Nat.le_refl _)
 refine wpList_append_own_at W hgd s x t ho 0 e i0 z d.sz bytes ht hi hz0 hz1 hz2 hz hs0 v xs.length inner hs k1 ad ys.length c news hx n1 (fun j u hu => (n2 j u hu).1)
  (fun u hu => by obtain ⟨j, hj⟩ := List.mem_iff_getElem?.1 hu; exact (n2 j u hj).2) (by simp only [maxLen]; omega) hl (Nat.zero_le _) ?_
 intro v1 w1 hown hg _ hat
 have hU : Upd F W w1 := (Upd.of_grown hg).mono (fun b hb q => by
  have hb' : v.ownBlock = some b := q.symm
  exact (k2 b hb').1)
 have hne : ∀ b, b < W.heap.size → v.ownBlock ≠ some b → v1.ownBlock ≠ some b := by
  intro b hb hv
  rcases hat with hat | hat
  ·rw [hat]; exact hv
  ·rw [hat]
   intro q
   injection q with q
   omega
 have hfr : ∀ b, b < W.heap.size → v.ownBlock ≠ some b → w1.heap[b]? = W.heap[b]? := fun b hb hv => hg.block b hb (fun q => hv q.symm)
 refine h v1 w1 (R_of_owns (xs := xs ++ ys) (base := 0) (inner := inner ++ news) (by rw [List.length_append]; exact hown) (fun g hg' => ?_) (fun i b => if i < xs.length then Fs i b else i - xs.length < ys.length ∧ Gs (i - xs.length) b ∧ b < W.heap.size) (fun i b hb => ?_) (fun i j b hi' hj' => ?_) (fun i x' hx' => ?_)) hU
 ·rcases hat with hat | hat
  ·exact .inl (k2 g (hat ▸ hg')).1
  ·rw [hat] at hg'
   injection hg' with q
   exact .inr (.inr (by rw [← q]; exact Nat.le_refl _))
 ·by_cases c : i < xs.length
  ·simp only [c, if_true] at hb
   have := k3 i b hb
   exact ⟨.inl this.1.1, hne b this.1.2 this.2⟩
  ·simp only [c, if_false] at hb
   exact ⟨.inr (.inl ⟨_, hb.1, hb.2.1⟩), hne b hb.2.2 (fun q => hd _ b hb.2.1 (k2 b q).1)⟩
 ·by_cases c : i < xs.length <;> by_cases c' : j < xs.length
  ·simp only [c, c', if_true] at hi' hj'
   exact k4 i j b hi' hj'
  ·simp only [c, c', if_true, if_false] at hi' hj'
   exact absurd (k3 i b hi').1.1 (hd _ b hj'.2.1)
  ·simp only [c, c', if_true, if_false] at hi' hj'
   exact absurd (k3 j b hj').1.1 (hd _ b hi'.2.1)
  ·simp only [c, c', if_false] at hi' hj'
   have := hd2 _ _ b hi'.2.1 hj'.2.1
   omega
 ·by_cases c : i < xs.length
  ·simp only [c, if_true]
   rw [List.getElem?_append_left c] at hx'
   have hpc : piece d.sz (inner ++ news) i = piece d.sz inner i := by
    have h1 : i * d.sz + d.sz ≤ inner.length := by rw [k1.1, ← Nat.succ_mul]; exact Nat.mul_le_mul_right _ c
    unfold piece
    rw [List.drop_append_of_le_length kO, List.take_append_of_le_length (by rw [List.length_drop]; omega)]
   rw [hpc]
   exact d.dN (fun _ q => q.1) (d.dL (fun b hb => hfr b hb.2 (k3 i b hb.1).2) (d.M_lt (k5 i x' hx')))
  ·simp only [c, if_false]
   have hil := (List.getElem?_eq_some_iff.1 hx').1
   rw [List.getElem?_append_right kO] at hx'
   have hjl : i - xs.length < ys.length := (List.getElem?_eq_some_iff.1 hx').1
   have hpc : piece d.sz (inner ++ news) i = piece d.sz news (i - xs.length) := by
    have h1 : inner.length = xs.length * d.sz := k1.1
    have h2 : i * d.sz = inner.length + (i - xs.length) * d.sz := by rw [h1, ← Nat.add_mul]; congr 1; omega
    unfold piece
    rw [h2, List.drop_append, List.drop_eq_nil_of_le (Nat.le_add_right _ _), List.nil_append, Nat.add_sub_cancel_left]
   rw [hpc]
   exact d.dN (fun _ q => ⟨hjl, q.1, q.2⟩) (d.dL (fun b hb => hfr b hb.2 (fun q => hd _ b hb.1 (k2 b q).1)) (d.M_lt (n3 _ x' hjl hx')))
theorem R_appOne {W : World} (hgd : o.guard = none) (s x : Operand) (t : TypeId) (z : Value) (bytes : Nat)
 (ho : o.op = .call { callee := .builtin .append, args := #[s, x], argTypes := #[t, t] })
 (ht : P.underlying t = some (.slice e)) (hinfo : (P.info? e).map (fun i => (i.zero, i.size, i.bytes)) = some (some z, d.sz, bytes)) (hz : z.cells.size = d.sz) (hs0 : 0 < d.sz) (hb0 : 0 < bytes)
 (p : α) (cs : List Value) (Fp : Nat → Prop) (g : Nat) (hg : W.heap.size = g) (hs : a.eval s = v) (hx : a.eval x = .slice (some ⟨g, 0, none⟩) 1 1) (HR : R d e W F v xs) (hp : d.M W Fp p cs) (hd : ∀ b, Fp b → ¬ F b) (hl : (xs.length + 1) * bytes ≤ 140737488355328)
 (h : ∀ v1 w1, R d e w1 (fun b => F b ∨ Fp b ∨ W.heap.size ≤ b) v1 (xs ++ [p]) → Upd F W w1 → wpList P ops Q rest (a.put o.dst v1) w1) :
 wpList P ops Q (o :: rest) a (W.alloc (.cells cs.toArray e)) :=
 R_app hgd s x t z bytes ho ht hinfo hz hs0 hb0 p cs Fp hs (hg ▸ hx) HR hp hd hl h
theorem run_app (W : World) (t ty : TypeId) (z : Value) (bytes : Nat)
 (ht : P.underlying t = some (.slice e)) (hinfo : (P.info? e).map (fun i => (i.zero, i.size, i.bytes)) = some (some z, d.sz, bytes)) (hz : z.cells.size = d.sz) (hs0 : 0 < d.sz) (hb0 : 0 < bytes)
 (p : α) (cs : List Value) (Fp : Nat → Prop) (HR : R d e W F v xs) (hp : d.M W Fp p cs) (hd : ∀ b, Fp b → ¬ F b) (hl : (xs.length + 1) * bytes ≤ 140737488355328) :
 ∃ v1 w1, (Builtin.append_ #[t, t] ty #[v, .slice (some ⟨W.heap.size, 0, none⟩) 1 1]).run P (W.alloc (.cells cs.toArray e)) = .ok v1 w1 ∧ R d e w1 (fun b => F b ∨ Fp b ∨ W.heap.size ≤ b) v1 (xs ++ [p]) ∧ Upd F W w1 := by
 obtain ⟨i0, hi, hzz⟩ := Option.map_eq_some_iff.1 hinfo
 simp only [Prod.mk.injEq] at hzz
 obtain ⟨hz0, hz1, hz2⟩ := hzz
 have hlen : xs.length + 1 ≤ 140737488355328 := Nat.le_trans (Nat.le_mul_of_pos_right _ hb0) hl
 obtain ⟨inner, Fs, k1, k2, k3, k4, k5⟩ := owns_of_R (R_lt HR)
 have hcs := d.eU hp
 obtain ⟨v1, w1, hr, hown, hg, _, hat⟩ := run_append_own_at (P := P) (W.alloc (.cells cs.toArray e)) 0 t ty e i0 z d.sz bytes ht hi hz0 hz1 hz2 hz hs0 v xs.length inner (k1.alloc _) ⟨W.heap.size, 0, none⟩ 1 1 cs (by rw [d.K_len hcs]; simp)
  (by simpa using World.news_of_block (cs := cs.toArray) (t := e) (fr := (0, 0)) (heap_alloc_new W (.cells cs.toArray e))) (d.K_one hcs) (by simp only [maxLen]; omega) hl (Nat.zero_le _)
 have hU : Upd F W w1 := ((Upd.refl F W).alloc _).trans (Upd.of_grown hg) (fun _ _ q => q) (fun b hb q => by
  have hb' : v.ownBlock = some b := q.symm
  exact (k2 b hb').1)
 have hne : ∀ b, b < W.heap.size → v.ownBlock ≠ some b → v1.ownBlock ≠ some b := by
  intro b hb hv
  rcases hat with hat | hat
  ·rw [hat]; exact hv
  ·rw [hat]
   intro q
   injection q with q
   have : (W.alloc (.cells cs.toArray e)).heap.size = W.heap.size + 1 := by simp
   omega
 have hfr : ∀ b, b < W.heap.size → v.ownBlock ≠ some b → w1.heap[b]? = W.heap[b]? := by
  intro b hb hv
  rw [hg.block b (by simp; omega) (fun q => hv q.symm)]
  exact heap_alloc_old W _ hb
 refine ⟨v1, w1, hr, R_of_owns (xs := xs ++ [p]) (base := 0) (inner := inner ++ cs) (by simpa using hown) (fun g hg' => ?_) (fun i b => if i < xs.length then Fs i b else i = xs.length ∧ Fp b ∧ b < W.heap.size) (fun i b hb => ?_) (fun i j b hi' hj' => ?_) (fun i x' hx' => ?_), hU⟩
 ·rcases hat with hat | hat
  ·exact .inl (k2 g (hat ▸ hg')).1
  ·rw [hat] at hg'
   injection hg' with q
   exact .inr (.inr (by rw [← q]; simp))
 ·by_cases c : i < xs.length
  ·simp only [c, if_true] at hb
   have := k3 i b hb
   exact ⟨.inl this.1.1, hne b this.1.2 this.2⟩
  ·simp only [c, if_false] at hb
   exact ⟨.inr (.inl hb.2.1), hne b hb.2.2 (fun q => hd b hb.2.1 (k2 b q).1)⟩
 ·by_cases c : i < xs.length <;> by_cases c' : j < xs.length
  ·simp only [c, c', if_true] at hi' hj'
   exact k4 i j b hi' hj'
  ·simp only [c, c', if_true, if_false] at hi' hj'
   exact absurd (k3 i b hi').1.1 (hd b hj'.2.1)
  ·simp only [c, c', if_true, if_false] at hi' hj'
   exact absurd (k3 j b hj').1.1 (hd b hi'.2.1)
  ·simp only [c, c', if_false] at hi' hj'
   omega
 ·by_cases c : i < xs.length
  ·simp only [c, if_true]
   rw [List.getElem?_append_left c] at hx'
   have hpc : piece d.sz (inner ++ cs) i = piece d.sz inner i := by
    have h1 : i * d.sz + d.sz ≤ inner.length := by rw [k1.1, ← Nat.succ_mul]; exact Nat.mul_le_mul_right _ c
    unfold piece
    rw [List.drop_append_of_le_length kO, List.take_append_of_le_length (by rw [List.length_drop]; omega)]
   rw [hpc]
   exact d.dN (fun _ q => q.1) (d.dL (fun b hb => hfr b hb.2 (k3 i b hb.1).2) (d.M_lt (k5 i x' hx')))
  ·simp only [c, if_false]
   have hil := (List.getElem?_eq_some_iff.1 hx').1
   have hi' : i = xs.length := by simp at hil; omega
   subst hi'
   have hx2 : p = x' := by simpa using hx'
   subst hx2
   have hpc : piece d.sz (inner ++ cs) xs.length = cs := by
    unfold piece
    rw [← k1.1, List.drop_left, List.take_of_length_le (by rw [d.K_len hcs]; exact Nat.le_refl _)]
   rw [hpc]
   exact d.dN (fun _ q => ⟨rfl, q.1, q.2⟩) (d.dL (fun b hb => hfr b hb.2 (fun q => hd b hb.1 (k2 b q).1)) (d.M_lt hp))
theorem R_appStep {K : Act → World → Prop} {E : Prop} {W : World} (hgd : o.guard = none) (s x : Operand) (t : TypeId) (z : Value) (bytes : Nat)
 (ho : o.op = .call { callee := .builtin .append, args := #[s, x], argTypes := #[t, t] })
 (ht : P.underlying t = some (.slice e)) (hinfo : (P.info? e).map (fun i => (i.zero, i.size, i.bytes)) = some (some z, d.sz, bytes)) (hz : z.cells.size = d.sz) (hs0 : 0 < d.sz) (hb0 : 0 < bytes)
 (p : α) (cs : List Value) (Fp : Nat → Prop) (g : Nat) (hg : W.heap.size = g) (hs : a.eval s = v) (hx : a.eval x = .slice (some ⟨g, 0, none⟩) 1 1) (HR : R d e W F v xs) (hp : d.M W Fp p cs) (hd : ∀ b, Fp b → ¬ F b) (hl : (xs.length + 1) * bytes ≤ 140737488355328)
 (hK : ∀ v1 w1, R d e w1 (fun b => F b ∨ Fp b ∨ W.heap.size ≤ b) v1 (xs ++ [p]) → Upd F W w1 → K (a.put o.dst v1) w1) :
 if Region.wanted o (yielded ops a.tmps) = true then Oper.wp P o a (W.alloc (.cells cs.toArray e)) K Q else E := by
 have hw : Region.wanted o (yielded ops a.tmps) = true := by simp [Region.wanted, hgd]
 rw [if_pos hw]
 obtain ⟨v1, w1, hrun, h1, h2⟩ := run_app (P := P) W t o.type z bytes ht hinfo hz hs0 hb0 p cs Fp HR hp hd hl
 subst hg
 unfold Oper.wp
 simp [execOp, ho, resolve, invoke, builtin, hs, hx, hrun, Result.andThen]
 exact hK v1 w1 h1 h2
theorem R_appNone {W : World} (hgd : o.guard = none) (s x : Operand) (t : TypeId) (z : Value) (bytes : Nat)
 (ho : o.op = .call { callee := .builtin .append, args := #[s, x], argTypes := #[t, t] })
 (ht : P.underlying t = some (.slice e)) (hinfo : (P.info? e).map (fun i => (i.zero, i.size, i.bytes)) = some (some z, d.sz, bytes))
 (c : Nat) (hs : a.eval s = v) (hx : a.eval x = .slice none 0 c) (HR : R d e W F v xs) (h : wpList P ops Q rest (a.put o.dst v) W) :
 wpList P ops Q (o :: rest) a W := by
 obtain ⟨i0, hi, hzz⟩ := Option.map_eq_some_iff.1 hinfo
 refine wpList_plain hgd fun K hK => ?_
 have hrun : (Builtin.append_ #[t, t] o.type #[v, .slice none 0 c]).run P W = .ok v W := by
  rcases HR with ⟨rfl, rfl⟩ | ⟨g, cap, cur, Fs, rfl, _, _, hnc, _⟩
  ·simp [Builtin.append_, run_underlying ht, sizeOf, typeInfo, hi, Builtin.lenOf, Builtin.firstCells]
  ·simp [Builtin.append_, run_underlying ht, sizeOf, typeInfo, hi, Builtin.lenOf, Builtin.firstCells, hnc, storeCells]
 unfold Oper.wp
 simp [execOp, ho, resolve, invoke, builtin, hs, hx, hrun, Result.andThen]
 exact hK _ _ h
theorem R_appAny {W : World} (hgd : o.guard = none) (s x : Operand) (t : TypeId) (z : Value) (bytes : Nat)
 (ho : o.op = .call { callee := .builtin .append, args := #[s, x], argTypes := #[t, t] })
 (ht : P.underlying t = some (.slice e)) (hinfo : (P.info? e).map (fun i => (i.zero, i.size, i.bytes)) = some (some z, d.sz, bytes)) (hz : z.cells.size = d.sz) (hs0 : 0 < d.sz) (hb0 : 0 < bytes)
 (A : Option Addr) (c : Nat) (Gs : Nat → Nat → Prop) (hs : a.eval s = v) (hx : a.eval x = .slice A ys.length c) (HR : R d e W F v xs)
 (HC : CM d W A ys Gs) (hd : ∀ j b, Gs j b → ¬ F b) (hd2 : ∀ i j b, Gs i b → Gs j b → i = j) (hl : (xs.length + ys.length) * bytes ≤ 140737488355328)
 (h : ∀ v1 w1, R d e w1 (fun b => F b ∨ (∃ j, j < ys.length ∧ Gs j b) ∨ W.heap.size ≤ b) v1 (xs ++ ys) → Upd F W w1 → wpList P ops Q rest (a.put o.dst v1) w1) :
 wpList P ops Q (o :: rest) a W := by
 rcases A with _ | ad
 ·have h0 : ys = [] := by
   cases ys with
   | nil => rfl
   | cons x l => obtain ⟨ad, q, _⟩ := HC.2 (by simp); cases q
  subst h0
  exact R_appNone hgd s x t z bytes ho ht hinfo c hs hx HR (h _ _ (by rw [List.append_nil]; exact dZ (fun _ q => .inl q) HR) (Upd.refl _ _))
 ·refine R_appRow hgd s x t z bytes ho ht hinfo hz hs0 hb0 ad c Gs hs hx HR (fun j p hj => ?_) hd hd2 hl h
  obtain ⟨ad', q, k⟩ := HC.2 (Nat.lt_of_le_of_lt (Nat.zero_le _) (List.getElem?_eq_some_iff.1 hj).1)
  cases q
  exact k j p hj
end
section
variable {α β : Type} {d : Kn α} {e : Nat}
theorem R_empty (W : World) : R d e (W.alloc (.cells #[] e)) (New W) (.slice (some ⟨W.heap.size, 0, none⟩) 0 0) [] :=
 .inr ⟨W.heap.size, 0, #[], fun _ _ => False, rfl, heap_alloc_new W _, Nat.le_refl _, Nat.le_refl _, by omega, by simp, fun _ _ h => h.elim, fun _ _ _ h => h.elim, fun i x hx => by simp at hx⟩
def Iv (a b : Nat) : Nat → Prop := fun x => a ≤ x ∧ x < b
theorem R_emptyAt (W : World) (g : Nat) (hg : W.heap.size = g) : R d e (W.alloc (.cells #[] e)) (New W) (.slice (some ⟨g, 0, none⟩) 0 0) [] := hg ▸ R_empty W
theorem flat_scalar (enc : α → Value) (h1 : ∀ x, (enc x).oneCell' = true) : Flat (Kn.scalar enc h1) := fun _ _ _ _ _ h => h
theorem flat_pair {a : Kn α} {b : Kn β} (ha : Flat a) (hb : Flat b) : Flat (Kn.pair a b) := by
 rintro w w' F x cs ⟨c0, c1, rfl, h0, h1⟩
 exact ⟨c0, c1, No, No, rfl, ha _ _ _ _ _ h0, hb _ _ _ _ _ h1, fun _ h => h.elim, fun _ h => h.elim, fun _ h => h.elim⟩
theorem flat_iso {d : Kn α} (f : β → α) (h : Flat d) : Flat (Kn.iso d f) := fun w w' F x cs k => h w w' F (f x) cs k
theorem CM_upd {A : Option Addr} {xs : List α} {Fs : Nat → Nat → Prop} {w w' : World} (h : Upd No w w') (k : CM d w A xs Fs) : CM d w' A xs Fs := by
 refine ⟨k.1, fun hp => ?_⟩
 obtain ⟨ad, rfl, q⟩ := k.2 hp
 refine ⟨ad, rfl, fun j p hj => ?_⟩
 obtain ⟨c, k1, k2⟩ := q j p hj
 exact ⟨c, M_upd h (fun _ _ q => q) k1, fun i u hu => h.read (k2 i u hu)⟩
end
end Go.Proofs.YtdfipdpeilegpaaSep
namespace Go.Proofs.YtdfipdpeilegpaaSep
theorem ret_int {a b : Int} (h : a = b) : Ending.returned (.int .i64 a) = .returned (.int .i64 b) := by rw [h]
theorem ret_bool {a b : Bool} (h : a = b) : Ending.returned (.bool a) = .returned (.bool b) := by rw [h]
def dI {α : Type} (s : α → Nat) : List α → Nat
 | [] => 0
 | x :: l => s x + dI s l
def bJ {α : Type} (s : α → Nat) (l : List α) : Nat := l.length + dI s l
section
variable {α : Type} (m : Int → α → α) (c : α → Int) (s : α → Nat)
theorem sumS_take : ∀ (l : List α) (i : Nat) (h : i < l.length), dI s (l.take (i + 1)) = dI s (l.take i) + s l[i]
 | [], i, h => by simp at h
 | x :: l, 0, h => by simp [dI]
 | x :: l, i + 1, h => by
  simp only [List.take_succ_cons, dI, List.getElem_cons_succ]
  rw [sumS_take l i (by simpa using h)]
  omega
theorem sumS_le : ∀ (l : List α) (i : Nat), dI s (l.take i) ≤ dI s l
 | [], i => by simp [dI]
 | x :: l, 0 => by simp [dI]
 | x :: l, i + 1 => by
  have := sumS_le l i
  simp only [List.take_succ_cons, dI]
  omega
theorem fJ (l : List α) (i : Nat) (h : i < l.length) : s l[i] ≤ dI s l := by
 have h1 := sumS_take s l i h
 have h2 := sumS_le s l (i + 1)
 omega
end
def fidx {α : Type} (p : α → Bool) : Int → List α → Int
 | _, [] => -1
 | k, x :: l => if p x then k else fidx p (k + 1) l
theorem fidx_yes {α : Type} (p : α → Bool) (l : List α) (i : Nat) (h : i < l.length) (hp : p l[i] = true) : fidx p i (l.drop i) = i := by
 rw [List.drop_eq_getElem_cons h]; simp [fidx, hp]
theorem fidx_no {α : Type} (p : α → Bool) (l : List α) (i : Nat) (h : i < l.length) (hp : p l[i] = false) : fidx p i (l.drop i) = fidx p ((i + 1 : Nat) : Int) (l.drop (i + 1)) := by
 rw [List.drop_eq_getElem_cons h]; simp [fidx, hp]
theorem fidx_end {α : Type} (p : α → Bool) (l : List α) (i : Nat) (h : l.length ≤ i) (k : Int) : fidx p k (l.drop i) = -1 := by
 rw [List.drop_eq_nil_of_le h]; rfl
theorem fidx_range {α : Type} (p : α → Bool) : ∀ (l : List α) (k : Int), fidx p k l = -1 ∨ (k ≤ fidx p k l ∧ fidx p k l < k + l.length)
 | [], k => .inl rfl
 | x :: l, k => by
  by_cases c : p x = true
  ·right; simp [fidx, c]; omega
  ·rcases fidx_range p l (k + 1) with h | h
   ·left; simp [fidx, c, h]
   ·right; simp [fidx, c]; omega
end Go.Proofs.YtdfipdpeilegpaaSep
namespace Go.Proofs.YtdfipdpeilegpaaSep
open Go.ChangeShapes Go.WideShapes Go.RowKit
def Blk (w : World) (g t : Nat) (cs : Array Value) : Prop := w.heap[g]? = some (.cells cs t (0, 0))
section
variable {w w' : World} {g g' t : Nat} {cs : Array Value} {F : Nat → Prop}
theorem Blk.cell (h : Blk w g t cs) (o : Nat) : w.cell? ⟨g, o, none⟩ = cs[o]? := by rw [cell_of_row w g _ cs t (0, 0) h]
theorem Blk.at (h : Blk w g t cs) (o : Nat) {v : Value} (hv : cs[o]? = some v) : w.cell? ⟨g, o, none⟩ = some v := (h.cell o).trans hv
theorem Blk.free (h : Blk w g t cs) (o : Nat) : w.frozen? ⟨g, o, none⟩ = false := by unfold Blk at h; simp [World.frozen?, h]
theorem Blk.lt (h : Blk w g t cs) : g < w.heap.size := heap_lt h
theorem Blk.new (w : World) (t : Nat) (cs : Array Value) : Blk (w.alloc (.cells cs t)) w.heap.size t cs := heap_alloc_new w (.cells cs t)
theorem Blk.newAt (hg : w.heap.size = g) : Blk (w.alloc (.cells cs t)) g t cs := hg ▸ Blk.new w t cs
theorem Blk.alloc (h : Blk w g t cs) (o : Obj) : Blk (w.alloc o) g t cs := (heap_alloc_old w o (Blk.lt h)).trans h
theorem Blk.drew (h : Blk w g t cs) : Blk w.drew g t cs := h
theorem Blk.drewN (h : Blk w g t cs) (n : Nat) : Blk (w.drewN n) g t cs := h
theorem Blk.same (h : Blk w g t cs) (i : Nat) (u : Value) : Blk (w.setCell ⟨g, i, none⟩ u) g t (cs.setIfInBounds i u) := blk_set h i u
theorem Blk.upd (h : Blk w g t cs) (hu : Upd F w w') (hF : ¬ F g) : Blk w' g t cs := (hu.block g (Blk.lt h) hF).trans h
theorem Blk.no (h : Blk w g t cs) (hu : Upd No w w') : Blk w' g t cs := h.upd hu (fun q => q)
end
section
variable {α : Type} {d : Kn α} {e : Nat} {F : Nat → Prop} {v : Value} {xs ys : List α} {P : Program} {ops : Array Oper} {rest : List Oper} {o : Oper} {a : Act} {Q : Exit → Act → World → Prop}
theorem run_appRow (W : World) (t ty : TypeId) (z : Value) (bytes : Nat)
 (ht : P.underlying t = some (.slice e)) (hinfo : (P.info? e).map (fun i => (i.zero, i.size, i.bytes)) = some (some z, d.sz, bytes)) (hz : z.cells.size = d.sz) (hs0 : 0 < d.sz) (hb0 : 0 < bytes)
 (ad : Addr) (c : Nat) (Gs : Nat → Nat → Prop) (HR : R d e W F v xs)
 (HC : ∀ j p, ys[j]? = some p → ∃ c, d.M W (Gs j) p c ∧ ∀ i u, c[i]? = some u → W.cell? (ad.add (j * d.sz + i)) = some u) (hd : ∀ j b, Gs j b → ¬ F b) (hd2 : ∀ i j b, Gs i b → Gs j b → i = j) (hl : (xs.length + ys.length) * bytes ≤ 140737488355328) :
 ∃ v1 w1, (Builtin.append_ #[t, t] ty #[v, .slice (some ad) ys.length c]).run P W = .ok v1 w1 ∧ R d e w1 (fun b => F b ∨ (∃ j, j < ys.length ∧ Gs j b) ∨ W.heap.size ≤ b) v1 (xs ++ ys) ∧ Upd F W w1 := by
 obtain ⟨i0, hi, hzz⟩ := Option.map_eq_some_iff.1 hinfo
 simp only [Prod.mk.injEq] at hzz
 obtain ⟨hz0, hz1, hz2⟩ := hzz
 have hlen : xs.length + ys.length ≤ 140737488355328 := Nat.le_trans (Nat.le_mul_of_pos_right _ hb0) hl
 obtain ⟨inner, Fs, k1, k2, k3, k4, k5⟩ := owns_of_R (R_lt HR)
 obtain ⟨news, n1, n2, n3⟩ := CM_news (d := d) HC ys.length (Nat.le_refl _)
 obtain ⟨v1, w1, hr, hown, hg, _, hat⟩ := run_append_own_at (P := P) (w := W) 0 t ty e i0 z d.sz bytes ht hi hz0 hz1 hz2 hz hs0 v xs.length inner k1 ad ys.length c news n1 (fun j u hu => (n2 j u hu).1)
  (fun u hu => by obtain ⟨j, hj⟩ := List.mem_iff_getElem?.1 hu; exact (n2 j u hj).2) (by simp only [maxLen]; omega) hl (Nat.zero_le _)
 have hU : Upd F W w1 := (Upd.of_grown hg).mono (fun b hb q => by
  have hb' : v.ownBlock = some b := q.symm
  exact (k2 b hb').1)
 have hne : ∀ b, b < W.heap.size → v.ownBlock ≠ some b → v1.ownBlock ≠ some b := by
  intro b hb hv
  rcases hat with hat | hat
  ·rw [hat]; exact hv
  ·rw [hat]
   intro q
   injection q with q
   omega
 have hfr : ∀ b, b < W.heap.size → v.ownBlock ≠ some b → w1.heap[b]? = W.heap[b]? := fun b hb hv => hg.block b hb (fun q => hv q.symm)
 refine ⟨v1, w1, hr, R_of_owns (xs := xs ++ ys) (base := 0) (inner := inner ++ news) (by rw [List.length_append]; exact hown) (fun g hg' => ?_) (fun i b => if i < xs.length then Fs i b else i - xs.length < ys.length ∧ Gs (i - xs.length) b ∧ b < W.heap.size) (fun i b hb => ?_) (fun i j b hi' hj' => ?_) (fun i x' hx' => ?_), hU⟩
 ·rcases hat with hat | hat
  ·exact .inl (k2 g (hat ▸ hg')).1
  ·rw [hat] at hg'
   injection hg' with q
   exact .inr (.inr (by rw [← q]; exact Nat.le_refl _))
 ·by_cases c : i < xs.length
  ·simp only [c, if_true] at hb
   have := k3 i b hb
   exact ⟨.inl this.1.1, hne b this.1.2 this.2⟩
  ·simp only [c, if_false] at hb
   exact ⟨.inr (.inl ⟨_, hb.1, hb.2.1⟩), hne b hb.2.2 (fun q => hd _ b hb.2.1 (k2 b q).1)⟩
 ·by_cases c : i < xs.length <;> by_cases c' : j < xs.length
  ·simp only [c, c', if_true] at hi' hj'
   exact k4 i j b hi' hj'
  ·simp only [c, c', if_true, if_false] at hi' hj'
   exact absurd (k3 i b hi').1.1 (hd _ b hj'.2.1)
  ·simp only [c, c', if_true, if_false] at hi' hj'
   exact absurd (k3 j b hj').1.1 (hd _ b hi'.2.1)
  ·simp only [c, c', if_false] at hi' hj'
   have := hd2 _ _ b hi'.2.1 hj'.2.1
   omega
 ·by_cases c : i < xs.length
  ·simp only [c, if_true]
   rw [List.getElem?_append_left c] at hx'
   have hpc : piece d.sz (inner ++ news) i = piece d.sz inner i := by
    have h1 : i * d.sz + d.sz ≤ inner.length := by rw [k1.1, ← Nat.succ_mul]; exact Nat.mul_le_mul_right _ c
    unfold piece
    rw [List.drop_append_of_le_length kO, List.take_append_of_le_length (by rw [List.length_drop]; omega)]
   rw [hpc]
   exact d.dN (fun _ q => q.1) (d.dL (fun b hb => hfr b hb.2 (k3 i b hb.1).2) (d.M_lt (k5 i x' hx')))
  ·simp only [c, if_false]
   have hil := (List.getElem?_eq_some_iff.1 hx').1
   rw [List.getElem?_append_right kO] at hx'
   have hjl : i - xs.length < ys.length := (List.getElem?_eq_some_iff.1 hx').1
   have hpc : piece d.sz (inner ++ news) i = piece d.sz news (i - xs.length) := by
    have h1 : inner.length = xs.length * d.sz := k1.1
    have h2 : i * d.sz = inner.length + (i - xs.length) * d.sz := by rw [h1, ← Nat.add_mul]; congr 1; omega
    unfold piece
    rw [h2, List.drop_append, List.drop_eq_nil_of_le (Nat.le_add_right _ _), List.nil_append, Nat.add_sub_cancel_left]
   rw [hpc]
   exact d.dN (fun _ q => ⟨hjl, q.1, q.2⟩) (d.dL (fun b hb => hfr b hb.2 (fun q => hd _ b hb.1 (k2 b q).1)) (d.M_lt (n3 _ x' hjl hx')))
end
section
variable {α : Type} {d : Kn α} {e : Nat} {w w' : World} {F : Nat → Prop} {v : Value} {xs : List α} {x : α} {cs : List Value}
theorem R_no (h : Upd No w w') (k : R d e w F v xs) : R d e w' F v xs := R_upd h (fun _ _ q => q) k
end
theorem add_add (ad : Addr) (m k : Nat) (hm : 0 < m) : (ad.add m).add k = ad.add (m + k) := by
 unfold Addr.add
 by_cases hk : k = 0
 ·subst hk; simp
 ·have h1 : m ≠ 0 := by omega
  have h2 : m + k ≠ 0 := by omega
  simp [hk, h1, Nat.add_assoc]
theorem fO {α : Type} (s : α → Nat) : ∀ l k : List α, dI s (l ++ k) = dI s l + dI s k
 | [], k => by simp [dI]
 | x :: l, k => by
  have := fO s l k
  simp only [List.cons_append, dI]
  omega
theorem sumS_set {α : Type} (s : α → Nat) : ∀ (l : List α) (i : Nat) (h : i < l.length) (y : α), dI s (l.set i y) + s l[i] = dI s l + s y
 | [], i, h, y => by simp at h
 | x :: l, 0, h, y => by simp only [List.set_cons_zero, dI, List.getElem_cons_zero]; omega
 | x :: l, i + 1, h, y => by
  have := sumS_set s l i (by simpa using h) y
  simp only [List.set_cons_succ, dI, List.getElem_cons_succ]
  omega
section
variable {P : Program} {c : Code} {Q : Exit → Act → World → Prop} {a : Act} {w : World} {t : Nat} {cs : Array Value}
theorem gen_box (k : ∀ w', Blk w' w.heap.size t cs → Upd No w w' → Code.wp P c Q a w') : Code.wp P c Q a (w.alloc (.cells cs t)) := k _ (Blk.new _ _ _) ((Upd.refl _ _).alloc _)
end
section
variable {α : Type} {d : Kn α} {e : Nat} {F : Nat → Prop} {v : Value} {xs ys : List α} {P : Program} {ops : Array Oper} {rest : List Oper} {o : Oper} {a : Act} {Q : Exit → Act → World → Prop}
theorem run_appAny (W : World) (t ty : TypeId) (z : Value) (bytes : Nat)
 (ht : P.underlying t = some (.slice e)) (hinfo : (P.info? e).map (fun i => (i.zero, i.size, i.bytes)) = some (some z, d.sz, bytes)) (hz : z.cells.size = d.sz) (hs0 : 0 < d.sz) (hb0 : 0 < bytes)
 (A : Option Addr) (c : Nat) (Gs : Nat → Nat → Prop) (HR : R d e W F v xs) (HC : CM d W A ys Gs) (hd : ∀ j b, Gs j b → ¬ F b) (hd2 : ∀ i j b, Gs i b → Gs j b → i = j) (hl : (xs.length + ys.length) * bytes ≤ 140737488355328) :
 ∃ v1 w1, (Builtin.append_ #[t, t] ty #[v, .slice A ys.length c]).run P W = .ok v1 w1 ∧ R d e w1 (fun b => F b ∨ (∃ j, j < ys.length ∧ Gs j b) ∨ W.heap.size ≤ b) v1 (xs ++ ys) ∧ Upd F W w1 := by
 rcases A with _ | ad
 ·have h0 : ys = [] := by
   cases ys with
   | nil => rfl
   | cons x l => obtain ⟨ad, q, _⟩ := HC.2 (by simp); cases q
  subst h0
  obtain ⟨i0, hi, hzz⟩ := Option.map_eq_some_iff.1 hinfo
  refine ⟨v, W, ?_, by rw [List.append_nil]; exact dZ (fun _ q => .inl q) HR, Upd.refl _ _⟩
  rcases HR with ⟨rfl, rfl⟩ | ⟨g, cap, cur, Fs, rfl, _, _, hnc, _⟩
  ·simp [Builtin.append_, run_underlying ht, sizeOf, typeInfo, hi, Builtin.lenOf, Builtin.firstCells]
  ·simp [Builtin.append_, run_underlying ht, sizeOf, typeInfo, hi, Builtin.lenOf, Builtin.firstCells, hnc, storeCells]
 ·refine run_appRow W t ty z bytes ht hinfo hz hs0 hb0 ad c Gs HR (fun j p hj => ?_) hd hd2 hl
  obtain ⟨ad', q, k⟩ := HC.2 (Nat.lt_of_le_of_lt (Nat.zero_le _) (List.getElem?_eq_some_iff.1 hj).1)
  cases q
  exact k j p hj
end
theorem Blk.put {w : World} {g t : Nat} {cs cs' : Array Value} (h : Blk w g t cs) (i : Nat) (u : Value) (hc : cs.setIfInBounds i u = cs') : Blk (w.setCell ⟨g, i, none⟩ u) g t cs' := hc ▸ h.same i u
theorem R_emptyB {α : Type} {d : Kn α} {e : Nat} {w : World} {g : Nat} (h : Blk w g e #[]) : R d e w (fun b => b = g) (.slice (some ⟨g, 0, none⟩) 0 0) [] :=
 .inr ⟨g, 0, #[], fun _ _ => False, rfl, h, rfl, Nat.le_refl _, by omega, by simp, fun _ _ h => h.elim, fun _ _ _ h => h.elim, fun i x hx => by simp at hx⟩
structure HP where
 p : World → (Nat → Prop) → Prop
 same : ∀ {W W' : World} {F : Nat → Prop}, (∀ b, F b → W'.heap[b]? = W.heap[b]?) → p W F → p W' F
 lt : ∀ {W : World} {F : Nat → Prop}, p W F → p W (fun b => F b ∧ b < W.heap.size)
 mono : ∀ {W : World} {F F' : Nat → Prop}, (∀ b, F b → F' b) → p W F → p W F'
def hR {α : Type} (d : Kn α) (e : Nat) (v : Value) (xs : List α) : HP := ⟨fun W F => R d e W F v xs, fun h => R_same h, fun h => R_lt h, fun h => dZ h⟩
def hM {α : Type} (d : Kn α) (x : α) (cs : List Value) : HP := ⟨fun W F => d.M W F x cs, fun h => d.dL h, fun h => d.M_lt h, fun h => d.dN h⟩
def hB (g t : Nat) (cs : Array Value) : HP := ⟨fun W F => F g ∧ Blk W g t cs, fun h k => ⟨k.1, (h g k.1).trans k.2⟩, fun k => ⟨⟨k.1, Blk.lt k.2⟩, k.2⟩, fun h k => ⟨h g k.1, k.2⟩⟩
def Star (l : List HP) (W : World) (F : Nat → Prop) : Prop :=
 ∃ Fs : Nat → Nat → Prop, (∀ i b, Fs i b → F b) ∧ (∀ i j b, Fs i b → Fs j b → i = j) ∧ ∀ (i : Nat) (q : HP), l[i]? = some q → q.p W (Fs i)
section
variable {l l' l0 : List HP} {W W' w : World} {F F' F0 : Nat → Prop} {q : HP}
theorem Star.nil : Star [] W F := ⟨fun _ _ => False, fun _ _ h => h.elim, fun _ _ _ h => h.elim, fun i q h => by simp at h⟩
theorem Star.mono (h : Star l W F) (k : ∀ b, F b → F' b) : Star l W F' := by
 obtain ⟨Fs, h1, h2, h3⟩ := h
 exact ⟨Fs, fun i b hb => k b (h1 i b hb), h2, h3⟩
theorem Star.lt (h : Star l W F) : Star l W (fun b => F b ∧ b < W.heap.size) := by
 obtain ⟨Fs, h1, h2, h3⟩ := h
 exact ⟨fun i b => Fs i b ∧ b < W.heap.size, fun i b hb => ⟨h1 i b hb.1, hb.2⟩, fun i j b hi hj => h2 i j b hi.1 hj.1, fun i q hq => q.lt (h3 i q hq)⟩
theorem Star.same (h : Star l W F) (k : ∀ b, F b → W'.heap[b]? = W.heap[b]?) : Star l W' F := by
 obtain ⟨Fs, h1, h2, h3⟩ := h
 exact ⟨Fs, h1, h2, fun i q hq => q.same (fun b hb => k b (h1 i b hb)) (h3 i q hq)⟩
theorem Star.one (h : q.p W F) : Star [q] W F := by
 refine ⟨fun i b => i = 0 ∧ F b, fun i b hb => hb.2, fun i j b hi hj => hi.1.trans hj.1.symm, fun i q' hq => ?_⟩
 rcases i with _ | i
 ·simp only [List.getElem?_cons_zero, Option.some.injEq] at hq
  subst hq
  exact q.mono (fun b hb => ⟨rfl, hb⟩) h
 ·simp at hq
theorem Star.cons (F1 F2 : Nat → Prop) (h : q.p W F1) (k : Star l W F2) (h1 : ∀ b, F1 b → F b) (h2 : ∀ b, F2 b → F b) (hd : ∀ b, F1 b → ¬ F2 b) : Star (q :: l) W F := by
 obtain ⟨Fs, k1, k2, k3⟩ := k
 refine ⟨fun i b => match i with | 0 => F1 b | i + 1 => Fs i b, fun i b hb => ?_, fun i j b hi hj => ?_, fun i q' hq => ?_⟩
 ·rcases i with _ | i
  ·exact h1 b hb
  ·exact h2 b (k1 i b hb)
 ·rcases i with _ | i <;> rcases j with _ | j
  ·rfl
  ·exact absurd (k1 j b hj) (hd b hi)
  ·exact absurd (k1 i b hi) (hd b hj)
  ·exact congrArg (· + 1) (k2 i j b hi hj)
 ·rcases i with _ | i
  ·simp only [List.getElem?_cons_zero, Option.some.injEq] at hq
   subst hq
   exact h
  ·exact k3 i q' (by simpa using hq)
theorem Star.uncons (h : Star (q :: l) W F) : ∃ F1 F2, q.p W F1 ∧ Star l W F2 ∧ (∀ b, F1 b → F b) ∧ (∀ b, F2 b → F b) ∧ ∀ b, F1 b → ¬ F2 b := by
 obtain ⟨Fs, h1, h2, h3⟩ := h
 refine ⟨Fs 0, fun b => ∃ i, Fs (i + 1) b, h3 0 q rfl, ⟨fun i b => Fs (i + 1) b, fun i b hb => ⟨i, hb⟩, fun i j b hi hj => by have := h2 _ _ b hi hj; omega, fun i q' hq => h3 (i + 1) q' (by simpa using hq)⟩, h1 0, fun b ⟨i, hb⟩ => h1 _ b hb, fun b hb ⟨i, hi⟩ => by have := h2 _ _ b hb hi; omega⟩
theorem Star.pick (h : Star l W F) (ix : List Nat) (hn : ix.Nodup) (hl : ix.map (fun k => l[k]?) = l'.map some) : Star l' W F := by
 obtain ⟨Fs, h1, h2, h3⟩ := h
 refine ⟨fun i b => ∃ k, ix[i]? = some k ∧ Fs k b, fun i b ⟨k, _, hb⟩ => h1 k b hb, fun i j b ⟨k, hk, hb⟩ ⟨k', hk', hb'⟩ => ?_, fun i q hq => ?_⟩
 ·have e := h2 _ _ b hb hb'
  subst e
  exact (List.getElem?_inj (List.getElem?_eq_some_iff.1 hk).1 hn).1 (hk.trans hk'.symm)
 ·have e : (ix.map (fun k => l[k]?))[i]? = some (some q) := by rw [hl, List.getElem?_map, hq]; rfl
  rw [List.getElem?_map] at e
  obtain ⟨k, hk, hk2⟩ := Option.map_eq_some_iff.1 e
  exact q.mono (fun b hb => ⟨k, hk, hb⟩) (h3 k q hk2)
theorem Star.append (F1 F2 : Nat → Prop) (h : Star l0 W F1) (k : Star l W F2) (h1 : ∀ b, F1 b → F b) (h2 : ∀ b, F2 b → F b) (hd : ∀ b, F1 b → ¬ F2 b) : Star (l0 ++ l) W F := by
 induction l0 generalizing F F1 with
 | nil => exact k.mono h2
 | cons q l0 ih =>
  obtain ⟨G1, G2, a1, a2, a3, a4, a5⟩ := h.uncons
  refine Star.cons (l := l0 ++ l) G1 (fun b => G2 b ∨ F2 b) a1 (ih (F := fun b => G2 b ∨ F2 b) G2 a2 (fun b hb => .inl hb) (fun b hb => .inr hb) (fun b hb => hd b (a4 b hb))) (fun b hb => h1 b (a3 b hb)) (fun b hb => hb.elim (fun q => h1 b (a4 b q)) (h2 b)) (fun b hb q => ?_)
  rcases q with q | q
  ·exact a5 b hb q
  ·exact hd b (a3 b hb) q
theorem Star.split (h : Star (l0 ++ l) W F) : ∃ F1 F2, Star l0 W F1 ∧ Star l W F2 ∧ (∀ b, F1 b → F b) ∧ (∀ b, F2 b → F b) ∧ ∀ b, F1 b → ¬ F2 b := by
 obtain ⟨Fs, h1, h2, h3⟩ := h
 refine ⟨fun b => ∃ i, i < l0.length ∧ Fs i b, fun b => ∃ i, Fs (l0.length + i) b, ⟨fun i b => i < l0.length ∧ Fs i b, fun i b hb => ⟨i, hb⟩, fun i j b hi hj => h2 i j b hi.2 hj.2, fun i q hq => ?_⟩, ⟨fun i b => Fs (l0.length + i) b, fun i b hb => ⟨i, hb⟩, fun i j b hi hj => by have := h2 _ _ b hi hj; omega, fun i q hq => ?_⟩, fun b ⟨i, _, hb⟩ => h1 i b hb, fun b ⟨i, hb⟩ => h1 _ b hb, fun b ⟨i, hi, hb⟩ ⟨j, hj⟩ => by have := h2 _ _ b hb hj; omega⟩
 ·have hi := (List.getElem?_eq_some_iff.1 hq).1
  exact q.mono (fun b hb => ⟨hi, hb⟩) (h3 i q (by rw [List.getElem?_append_left hi]; exact hq))
 ·exact h3 _ q (by rw [List.getElem?_append_right (Nat.le_add_right _ _), Nat.add_sub_cancel_left]; exact hq)
def St (w : World) (F0 : Nat → Prop) (l : List HP) (W : World) : Prop := Upd F0 w W ∧ Star l W (fun b => F0 b ∨ w.heap.size ≤ b)
theorem St.enter : St w No [] w := ⟨Upd.refl _ _, Star.nil⟩
theorem St.eO (h : Star l w F0) : St w F0 l w := ⟨Upd.refl _ _, h.mono fun _ hb => .inl hb⟩
theorem St.pick (h : St w F0 l W) (ix : List Nat) (hn : ix.Nodup) (hl : ix.map (fun k => l[k]?) = l'.map some) : St w F0 l' W := ⟨h.1, h.2.pick ix hn hl⟩
theorem St.get (h : St w F0 l W) (i : Nat) (hq : l[i]? = some q) : ∃ F, q.p W F := by
 obtain ⟨_, Fs, _, _, h3⟩ := h
 exact ⟨_, h3 i q hq⟩
theorem St.blk (h : St w F0 l W) (i : Nat) {g t : Nat} {cs : Array Value} (hq : l[i]? = some (hB g t cs)) : Blk W g t cs := by
 obtain ⟨F, hF⟩ := h.get i hq
 exact hF.2
theorem St.size (h : St w F0 l W) : w.heap.size ≤ W.heap.size := h.1.size
theorem St.frame (h : St w F0 (l0 ++ l) W) : ∃ F1 : Nat → Prop, Star l0 W F1 ∧ (∀ b, F1 b → (F0 b ∨ w.heap.size ≤ b) ∧ b < W.heap.size) ∧ ∀ l' W', St W F1 l' W' → St w F0 (l' ++ l) W' := by
 obtain ⟨F1, F2, a1, a2, a3, a4, a5⟩ := h.2.split
 refine ⟨fun b => F1 b ∧ b < W.heap.size, a1.lt, fun b hb => ⟨a3 b hb.1, hb.2⟩, fun l' W' h' => ⟨Upd.trans h.1 h'.1 (fun _ _ q => q) (fun b hb q => (a3 b q.1).resolve_right kO), ?_⟩⟩
 have hs := h.1.size
 refine Star.append _ (fun b => F2 b ∧ b < W.heap.size) h'.2 (a2.lt.same (fun b hb => h'.1.block b hb.2 (fun q => a5 b q.1 hb.1))) (fun b hb => ?_) (fun b hb => a4 b hb.1) (fun b hb q => ?_)
 ·rcases hb with hb | hb
  ·exact a3 b hb.1
  ·right; omega
 ·rcases hb with hb | hb
  ·exact a5 b hb.1 q.1
  ·have := q.2; omega
theorem St.call (h : St w F0 l W) (k : St W No l' W') : St w F0 (l' ++ l) W' := by
 have h2 : St w F0 ([] ++ l) W := h
 obtain ⟨F1, _, _, h3⟩ := h2.frame
 exact h3 l' W' ⟨k.1.mono (fun _ _ q => q.elim), k.2.mono (fun b hb => hb.elim (fun q => q.elim) .inr)⟩
theorem St.no (h : St w F0 l W) (hu : Upd No W W') : St w F0 l W' := h.call (l' := []) ⟨hu, Star.nil⟩
theorem St.new (h : St w F0 l W) (hu : Upd No W W') (hq : q.p W' (New W)) : St w F0 (q :: l) W' := h.call (l' := [q]) ⟨hu, (Star.one hq).mono fun _ hb => .inr hb⟩
theorem St.news (h : St w F0 l W) (hu : Upd No W W') (hq : Star l' W' (New W)) : St w F0 (l' ++ l) W' := h.call ⟨hu, hq.mono fun _ hb => .inr hb⟩
theorem St.drew (h : St w F0 l W) : St w F0 l W.drew := h.no (Upd.refl _ _).drew
theorem St.alloc (h : St w F0 l W) (t : Nat) (cs : Array Value) : St w F0 (hB W.heap.size t cs :: l) (W.alloc (.cells cs t)) := h.new ((Upd.refl _ _).alloc _) ⟨Nat.le_refl _, Blk.new _ _ _⟩
theorem St.turn (h : St w F0 (q :: l) W) : ∃ F1 : Nat → Prop, q.p W F1 ∧ (∀ b, F1 b → (F0 b ∨ w.heap.size ≤ b) ∧ b < W.heap.size) ∧ ∀ q' W', Upd F1 W W' → q'.p W' (fun b => F1 b ∨ W.heap.size ≤ b) → St w F0 (q' :: l) W' := by
 obtain ⟨F1, a1, a2, a3⟩ := St.frame (l0 := [q]) (l := l) h
 refine ⟨F1, ?_, a2, fun q' W' hu hq => a3 [q'] W' ⟨hu, Star.one hq⟩⟩
 obtain ⟨Fs, b1, _, b3⟩ := a1
 exact q.mono (b1 0) (b3 0 q rfl)
theorem St.fin1 (h : St w No [q] W) : q.p W (New w) ∧ Upd No w W := by
 obtain ⟨h1, Fs, b1, _, b3⟩ := h
 exact ⟨q.mono (fun b hb => (b1 0 b hb).resolve_left (fun z => z)) (b3 0 q rfl), h1⟩
theorem St.star (h : St w No l W) : Star l W (New w) := h.2.mono fun _ hb => hb.resolve_left (fun z => z)
theorem St.swap (h : St w F0 (l0 ++ l) W) (k : ∀ F, Star l0 W F → Star l' W F) : St w F0 (l' ++ l) W := by
 refine ⟨h.1, ?_⟩
 obtain ⟨F1, F2, a1, a2, a3, a4, a5⟩ := h.2.split
 exact Star.append F1 F2 (k F1 a1) a2 a3 a4 a5
end
def Cat (W : World) (a : Addr) (cs : List Value) : Prop := ∀ j u, cs[j]? = some u → W.cell? (a.add j) = some u
theorem add_add' (a : Addr) (m k : Nat) : (a.add m).add k = a.add (m + k) := by
 unfold Addr.add
 by_cases hm : m = 0 <;> by_cases hk : k = 0 <;> simp [hm, hk, Nat.add_assoc]
theorem Blk.at' {W : World} {g t : Nat} {cs : Array Value} (h : Blk W g t cs) : Cat W ⟨g, 0, none⟩ cs.toList := fun j u hu => by
 rw [add_plain, h.cell]
 simpa using hu
theorem Cat.cell {W : World} {a : Addr} {cs : List Value} (h : Cat W a cs) (k : Nat) {v : Value} (hv : cs[k]? = some v) : W.cell? (a.add k) = some v := h k v hv
theorem Cat.sub {W : World} {a : Addr} {cs sub : List Value} (h : Cat W a cs) (k m : Nat) (hs : (cs.drop k).take m = sub) : Cat W (a.add k) sub := fun j u hu => by
 subst hs
 rw [add_add']
 refine h (k + j) u ?_
 rw [List.getElem?_take] at hu
 split at hu
 ·rwa [List.getElem?_drop] at hu
 ·simp at hu
theorem Cat.upd {W W' : World} {a : Addr} {cs : List Value} (h : Cat W a cs) (hu : Upd No W W') : Cat W' a cs := fun j u hj => hu.read (h j u hj)
theorem eZ {α : Type} {d : Kn α} {W : World} {A : Option Addr} {xs : List α} (h : C d W A xs) (i : Nat) (hi : i < xs.length) : ∃ ad cs, A = some ad ∧ d.K W xs[i] cs ∧ Cat W (ad.add (i * d.sz)) cs := by
 obtain ⟨ad, c, h1, _, h3, h4⟩ := C_get h i hi
 exact ⟨ad, c, h1, h3, fun j u hu => by rw [add_add']; exact h4 j u hu⟩
def aO (n : Nat) (x : Nat → Value) (live : List (Nat × Value)) : Act := ⟨((List.range n).map fun i => (live.lookup i).getD (x i)).toArray, []⟩
def evl (n : Nat) (live : List (Nat × Value)) : Operand → Option Value
 | .tmp t => if t < n then live.lookup t else none
 | .const v => some v
 | .func f => some (.func (.func f) #[] #[])
 | .global g => some (.pointer (some ⟨g, 0, none⟩))
section
variable {n : Nat} {x : Nat → Value} {live live' : List (Nat × Value)}
theorem aZ {y : Operand} {v : Value} (h : evl n live y = some v) : (aO n x live).eval y = v := by
 cases y with
 | tmp t =>
  simp only [evl] at h
  split at h
  ·rename_i ht
   simp [Act.eval, aO, ht, h]
  ·cases h
 | const u => exact Option.some.inj h
 | func f => exact Option.some.inj h
 | global g => exact Option.some.inj h
theorem evls_list : ∀ (a : List Operand) (b : List Value), a.map (evl n live) = b.map some → a.map (aO n x live).eval = b
 | [], [], _ => rfl
 | [], _ :: _, q => by cases q
 | _ :: _, [], q => by cases q
 | y :: a, u :: b, q => by
  simp only [List.map_cons, List.cons.injEq] at q
  rw [List.map_cons, evls_list a b q.2, aZ q.1]
theorem evls_ok {ys : Array Operand} {vs : Array Value} (h : ys.toList.map (evl n live) = vs.toList.map some) : ys.map (aO n x live).eval = vs := by
 rw [← Array.toList_inj, Array.toList_map]
 exact evls_list _ _ h
theorem dG {d : Nat} (_hd : d < n) (v : Value) : (aO n x live).put (some d) v = aO n x ((d, v) :: live) := by
 unfold Act.put aO
 simp only [Act.mk.injEq, and_true]
 apply Array.ext
 ·simp
 ·intro i h1 h2
  simp only [Array.size_setIfInBounds, List.size_toArray, List.length_map, List.length_range] at h1
  simp only [List.getElem_toArray, List.getElem_map, List.getElem_range, List.lookup_cons]
  by_cases e : d = i
  ·subst e
   simp
  ·simp [e, show (i == d) = false from by simp; omega]
theorem actOf_drop (h : ∀ k v, (k, v) ∈ live' → live.lookup k = some v) : ∃ x', aO n x live = aO n x' live' := by
 refine ⟨fun i => (live.lookup i).getD (x i), ?_⟩
 unfold aO
 congr 3
 funext i
 cases e : live'.lookup i with
 | none => rfl
 | some v =>
  have : (i, v) ∈ live' := by
   clear h
   induction live' with
   | nil => cases e
   | cons p l ih =>
    obtain ⟨k, u⟩ := p
    rw [List.lookup_cons] at e
    by_cases hk : i = k
    ·subst hk
     simp at e
     subst e
     exact List.mem_cons_self
    ·have hk' : (i == k) = false := by simp [hk]
     rw [hk'] at e
     exact List.mem_cons_of_mem _ (ih e)
  rw [h i v this]
  rfl
end
section
variable {P : Program} {ops : Array Oper} {Q : Exit → Act → World → Prop} {K : Act → World → Prop} {n i d ty : Nat} {x : Nat → Value} {live : List (Nat × Value)} {W w : World} {F0 : Nat → Prop} {l l' : List HP} {pos : String} {aft : Array Edge} {v : Value} {y z : Operand}
theorem op_ok {o : Oper} {a : Act} (ho : ops[i]? = some o) (hg : o.guard = none) (h : o.wp P a W K Q) : wpOp P ops Q i K a W := by
 unfold wpOp
 simp only [ho]
 rw [if_pos (by simp [Region.wanted, hg])]
 exact .inl h
def Rn (P : Program) (o : Oper) (a : Act) (W : World) (v : Value) : Prop := (execOp a.eval o).run P W = .ok (.value v) W
theorem aB {dst : Option Nat} {op : Op} (ho : ops[i]? = some ⟨dst, op, ty, pos, aft, none⟩) (hr : Rn P ⟨dst, op, ty, pos, aft, none⟩ (aO n x live) W v) (hd : dst = some d) (hdn : decide (d < n) = true) (h : K (aO n x ((d, v) :: live)) W) : wpOp P ops Q i K (aO n x live) W := by
 subst hd
 refine op_ok ho rfl ?_
 unfold Oper.wp
 rw [hr]
 simp only [Oper.upon]
 rw [dG (of_decide_eq_true hdn)]
 exact h
theorem aD {dst : Option Nat} (hx : evl n live y = some v) : Rn P ⟨dst, .move y, ty, pos, aft, none⟩ (aO n x live) W v := by
 unfold Rn
 simp [execOp, aZ hx]
theorem aG {dst : Option Nat} (hx : evl n live y = some v) : Rn P ⟨dst, .assign y, ty, pos, aft, none⟩ (aO n x live) W v := by
 unfold Rn
 simp [execOp, aZ hx]
def dM (P : Program) (s f off : Nat) : Prop := ∀ (a : Addr) (W : World), (Instr.fieldAt s (.pointer (some a)) f).run P W = .ok (.pointer (some (a.add off))) W
theorem aS {dst : Option Nat} {s f off : Nat} {a : Addr} (hf : dM P s f off) (hx : evl n live y = some (.pointer (some a))) : Rn P ⟨dst, .fieldAddr s y f, ty, pos, aft, none⟩ (aO n x live) W (.pointer (some (a.add off))) := by
 unfold Rn
 simp [execOp, aZ hx, hf a W]
theorem rn_load {dst : Option Nat} {t : Nat} {a : Addr} (hA : ∀ w, (isAgg t).run P w = .ok false w) (hx : evl n live y = some (.pointer (some a))) (hc : W.cell? a = some v) : Rn P ⟨dst, .load t y, ty, pos, aft, none⟩ (aO n x live) W v := by
 unfold Rn
 simp [execOp, aZ hx, Instr.loadAt, Instr.sureAddr, loadVar, hA, run_load, hc]
theorem dJ {dst : Option Nat} {t m : Nat} {a : Addr} {cs : List Value} (hA : ∀ w, (isAgg t).run P w = .ok true w) (hS : ∀ w, (sizeOf t).run P w = .ok m w) (hx : evl n live y = some (.pointer (some a))) (hc : Cat W a cs) (hm : cs.length = m) : Rn P ⟨dst, .load t y, ty, pos, aft, none⟩ (aO n x live) W (.agg cs.toArray) := by
 subst hm
 unfold Rn
 simp [execOp, aZ hx, Instr.loadAt, Instr.sureAddr, loadVar, hA, hS, run_loadCells_list (P := P) W a cs hc]
theorem rn_index {dst : Option Nat} {t e sz k len cap : Nat} {ad : Addr} (hu : ∀ w, (underlying t).run P w = .ok (.slice e) w) (hS : ∀ w, (sizeOf e).run P w = .ok sz w) (hx : evl n live y = some (.slice (some ad) len cap)) (hz : evl n live z = some (.int .i64 k)) (hk : k < len) : Rn P ⟨dst, .indexAddr t y z, ty, pos, aft, none⟩ (aO n x live) W (.pointer (some (ad.add (k * sz)))) := by
 unfold Rn
 have h1 : (0 : Int) ≤ (k : Int) ∧ (k : Int) < (len : Int) := by omega
 simp [execOp, aZ hx, aZ hz, Instr.indexAt, asIntOf, hu, hS, h1]
 intro hle
 omega
theorem bT {dst : Option Nat} {t e len cap : Nat} {A : Option Addr} (hu : ∀ w, (underlying t).run P w = .ok (.slice e) w) (hx : evl n live y = some (.slice A len cap)) : Rn P ⟨dst, .call { callee := .builtin .len, args := #[y], argTypes := #[t] }, ty, pos, aft, none⟩ (aO n x live) W (.int .i64 len) := by
 unfold Rn
 simp [execOp, aZ hx, resolve, invoke, builtin, Builtin.len_, hu, goInt]
theorem rn_cmp {dst : Option Nat} {b : Bool} {op : BinOp} {xt yt : Nat} {p q : Int} (hx : evl n live y = some (.int .i64 p)) (hz : evl n live z = some (.int .i64 q)) (hb : binOp op xt (.int .i64 p) (.int .i64 q) = pure (.bool b)) : Rn P ⟨dst, .binOp op xt y z yt, ty, pos, aft, none⟩ (aO n x live) W (.bool b) := by
 unfold Rn
 simp [execOp, aZ hx, aZ hz, eqGuard_at_int, hb]
theorem rn_arith {dst : Option Nat} {op : BinOp} {xt yt : Nat} {p q r : Int} (hx : evl n live y = some (.int .i64 p)) (hz : evl n live z = some (.int .i64 q)) (hb : binOp op xt (.int .i64 p) (.int .i64 q) = pure (.int .i64 r)) : Rn P ⟨dst, .binOp op xt y z yt, ty, pos, aft, none⟩ (aO n x live) W (.int .i64 r) := by
 unfold Rn
 simp [execOp, aZ hx, aZ hz, eqGuard_at_int, hb]
theorem rn_not {dst : Option Nat} {b : Bool} {xt : Nat} (hx : evl n live y = some (.bool b)) : Rn P ⟨dst, .unOp .not xt y, ty, pos, aft, none⟩ (aO n x live) W (.bool (!b)) := by
 unfold Rn
 simp [execOp, aZ hx, Op.unary]
theorem cZ {dst : Option Nat} {a : Addr} (hx : evl n live y = some (.pointer (some a))) : Rn P ⟨dst, .nilCheck y, ty, pos, aft, none⟩ (aO n x live) W (.pointer (some a)) := by
 unfold Rn
 simp [execOp, aZ hx]
theorem bU {dst : Option Nat} {vs : Array Value} {k : Nat} (hx : evl n live y = some (.tuple vs)) (hv : vs[k]? = some v) : Rn P ⟨dst, .extract y k, ty, pos, aft, none⟩ (aO n x live) W v := by
 unfold Rn
 simp [execOp, aZ hx, Instr.extract, hv]
theorem aN {dst : Option Nat} {f : FuncId} {ys : Array Operand} {tys : Array Nat} {vs : Array Value} {R : Ending → World → Prop} (ho : ops[i]? = some ⟨dst, .call { callee := .value (.func f), args := ys, argTypes := tys }, ty, pos, aft, none⟩) (hf : ∀ us w, (callFunc f us).run P w = .ok (.enter f us) w) (hv : ys.toList.map (evl n live) = vs.toList.map some) (hd : dst = some d) (hdn : decide (d < n) = true) (hc : Calls P f vs W R) (h : ∀ e W', R e W' → ∃ v, e = .returned v ∧ K (aO n x ((d, v) :: live)) W') : wpOp P ops Q i K (aO n x live) W := by
 subst hd
 refine op_ok ho rfl ?_
 have e : ys.map (aO n x live).eval = vs := evls_ok hv
 have hrun : (execOp (aO n x live).eval ⟨some d, .call { callee := .value (.func f), args := ys, argTypes := tys }, ty, pos, aft, none⟩).run P W = .ok (.enter f vs) W := by
  simp [execOp, resolve, Act.eval, Deferred.ofValue, invoke, e, hf]
 unfold Oper.wp
 rw [hrun]
 simp only [Oper.upon]
 refine hc.mono fun e' W' hR => ?_
 obtain ⟨u, rfl, hk⟩ := h e' W' hR
 show K ((aO n x live).put (some d) u) W'
 rw [dG (of_decide_eq_true hdn)]
 exact hk
theorem bW {dst : Option Nat} {t : Nat} {z : Value} (ho : ops[i]? = some ⟨dst, .alloc t, ty, pos, aft, none⟩) (hz : ∀ w, (zeroValue t).run P w = .ok z w) (hd : dst = some d) (hdn : decide (d < n) = true) (H : St w F0 l W) (h : ∀ g W', Upd No W W' → St w F0 (hB g t z.cells :: l) W' → K (aO n x ((d, .pointer (some ⟨g, 0, none⟩)) :: live)) W') : wpOp P ops Q i K (aO n x live) W := by
 subst hd
 refine op_ok ho rfl ?_
 have hrun : (execOp (aO n x live).eval ⟨some d, .alloc t, ty, pos, aft, none⟩).run P W = .ok (.value (.pointer (some ⟨W.heap.size, 0, none⟩))) (W.alloc (.cells z.cells t)) := by
  simp [execOp, Instr.alloc, hz, newVar, newRow]
 unfold Oper.wp
 rw [hrun]
 simp only [Oper.upon]
 rw [dG (of_decide_eq_true hdn)]
 exact h _ _ ((Upd.refl _ _).alloc _) (H.alloc t z.cells)
theorem eP {dst : Option Nat} {t : Nat} (ho : ops[i]? = some ⟨dst, .box t y, ty, pos, aft, none⟩) (hx : evl n live y = some v) (hd : dst = some d) (hdn : decide (d < n) = true) (H : St w F0 l W) (h : ∀ g W', Upd No W W' → St w F0 (hB g t v.cells :: l) W' → K (aO n x ((d, .pointer (some ⟨g, 0, none⟩)) :: live)) W') : wpOp P ops Q i K (aO n x live) W := by
 subst hd
 refine op_ok ho rfl ?_
 have hrun : (execOp (aO n x live).eval ⟨some d, .box t y, ty, pos, aft, none⟩).run P W = .ok (.value (.pointer (some ⟨W.heap.size, 0, none⟩))) (W.alloc (.cells v.cells t)) := by
  simp [execOp, aZ hx, Instr.box, newVar, newRow]
 unfold Oper.wp
 rw [hrun]
 simp only [Oper.upon]
 rw [dG (of_decide_eq_true hdn)]
 exact h _ _ ((Upd.refl _ _).alloc _) (H.alloc t v.cells)
def put (cs : Array Value) (k : Nat) (vs : List Value) : Array Value := (cs.toList.take k ++ vs ++ cs.toList.drop (k + vs.length)).toArray
theorem fM {t g tb k m : Nat} {cs : Array Value} (ho : ops[i]? = some ⟨none, .store t y z, ty, pos, aft, none⟩) (hS : ∀ w, (sizeOf t).run P w = .ok m w) (hx : evl n live y = some (.pointer (some (Addr.add ⟨g, 0, none⟩ k)))) (hz : evl n live z = some v) (hm : v.cells.size = m) (hk : k + m ≤ cs.size) (h1 : ∀ u ∈ v.cells.toList, u.oneCell' = true) (H : St w F0 (hB g tb cs :: l) W) (h : ∀ W', Upd (fun b => b = g) W W' → St w F0 (hB g tb (put cs k v.cells.toList) :: l) W' → K (aO n x live) W') : wpOp P ops Q i K (aO n x live) W := by
 have hb : Blk W g tb cs := H.blk 0 rfl
 refine op_ok ho rfl ?_
 subst hm
 have hst := run_storeCells_at P g k tb v.cells.toList 0 cs W hb (by simp; omega) h1
 rw [add_plain] at hx
 have hrun : (execOp (aO n x live).eval ⟨none, .store t y z, ty, pos, aft, none⟩).run P W = .ok .skip (W.setRow g (put cs k v.cells.toList)) := by
  simp only [execOp, aZ hx, aZ hz, Instr.storeAt, Instr.sureAddr, storeVar, Sem.run_bind, Sem.run_pure, Result.andThen_ok, hS, ne_eq, not_true, if_false]
  have := hst
  simp only [Nat.add_zero] at this
  rw [this]
  rfl
 unfold Oper.wp
 rw [hrun]
 simp only [Oper.upon]
 have hB' : Blk (W.setRow g (put cs k v.cells.toList)) g tb (put cs k v.cells.toList) := setRow_heap W g cs _ tb (0, 0) hb
 have hU : Upd (fun b => b = g) W (W.setRow g (put cs k v.cells.toList)) := by
  refine ⟨rfl, rfl, rfl, by simp [World.setRow], fun b hb' hF => ?_⟩
  simp only [World.setRow, Array.getElem?_modify]
  rw [if_neg (fun e => hF e.symm)]
 refine h _ hU ?_
 obtain ⟨F1, a1, a2, a3⟩ := H.turn
 exact a3 _ _ (hU.mono (fun b _ e => e ▸ a1.1)) ⟨.inl a1.1, hB'⟩
theorem op_store0 {t g tb m : Nat} {cs : Array Value} (ho : ops[i]? = some ⟨none, .store t y z, ty, pos, aft, none⟩) (hS : ∀ w, (sizeOf t).run P w = .ok m w) (hx : evl n live y = some (.pointer (some ⟨g, 0, none⟩))) (hz : evl n live z = some v) (hm : v.cells.size = m) (hk : m ≤ cs.size) (h1 : ∀ u ∈ v.cells.toList, u.oneCell' = true) (H : St w F0 (hB g tb cs :: l) W) (h : ∀ W', Upd (fun b => b = g) W W' → St w F0 (hB g tb (put cs 0 v.cells.toList) :: l) W' → K (aO n x live) W') : wpOp P ops Q i K (aO n x live) W :=
 fM (k := 0) ho hS hx hz hm kO h1 H h
theorem aK {id : Nat} {a : Act} (is : List Nat) (hl : List.range ops.size = is) (h : wpOps P ops Q is a W) : (Code.region id ops false).wp P Q a W := wp_region (hl ▸ h)
theorem aA {a : Act} {rest : List Nat} (h : wpOp P ops Q i (wpOps P ops Q rest) a W) : wpOps P ops Q (i :: rest) a W := by
 rw [wpOps_cons]
 exact h
theorem aH {a : Act} (h : Q .normal a W) : wpOps P ops Q [] a W := h
theorem aI {a : Act} (h : K a W) : Exit.then K Q .normal a W := h
theorem dW {a : Act} {id : Nat} (h : Q .normal a W) : Exit.inBlock id Q .normal a W := h
theorem inB_x {a : Act} {id : Nat} (h : Q .normal a W) : Exit.inBlock id Q (.exit id) a W := by
 show (if id = id then Q .normal a W else Q (.exit id) a W)
 rw [if_pos rfl]
 exact h
theorem bL {c1 c2 : Code} {p : Prop} [Decidable p] (hc : evl n live y = some (.bool (decide p))) (ht : p → c1.wp P Q (aO n x live) W) (hf : ¬ p → c2.wp P Q (aO n x live) W) : (Code.cond y c1 c2).wp P Q (aO n x live) W := by
 by_cases hp : p
 ·exact wp_cond_true (by rw [aZ hc, decide_eq_true hp]) (ht hp)
 ·exact wp_cond_false (by rw [aZ hc, decide_eq_false hp]) (hf hp)
theorem dO {c1 c2 : Code} (hc : evl n live y = some (.bool true)) (ht : c1.wp P Q (aO n x live) W) : (Code.cond y c1 c2).wp P Q (aO n x live) W := wp_cond_true (aZ hc) ht
theorem dA {c1 c2 : Code} (hc : evl n live y = some (.bool false)) (ht : c2.wp P Q (aO n x live) W) : (Code.cond y c1 c2).wp P Q (aO n x live) W := wp_cond_false (aZ hc) ht
theorem enter {f : FuncId} {fn : Func} {c : Code} {args : Array Value} {R : Ending → World → Prop} (n : Nat) (live : List (Nat × Value)) (hf : P.funcs[f]? = some fn) (hb : fn.body = some c) (ha : (⟨args ++ Array.replicate (fn.ntmps - args.size) undef, []⟩ : Act) = aO n (fun _ => undef) live) (h : ∀ x, c.wp P (bodyPost P fn R) (aO n x live) w) : Calls P f args w R :=
 calls_of_wp hf hb (ha ▸ h _)
theorem aV {fn : Func} {e : Exit} {t : Nat} {R : Ending → World → Prop} (he : e = .ret ∨ e = .normal) (hr : fn.results = #[.tmp t]) (hx : evl n live (.tmp t) = some v) (h : R (.returned v) W) : bodyPost P fn R e (aO n x live) W := by
 have e2 : (aO n x live).tmps.getD t undef = v := aZ (y := .tmp t) hx
 have hrun : (results fn (aO n x live).tmps).run P W = .ok v W := by
  simp only [results, hr]
  simp at e2
  simp [e2]
 rcases he with rfl | rfl <;> exact ⟨rfl, v, hrun, h⟩
theorem post_void {fn : Func} {e : Exit} {R : Ending → World → Prop} (he : e = .ret ∨ e = .normal) (hr : fn.results = #[]) (h : R (.returned (.tuple #[])) W) : bodyPost P fn R e (aO n x live) W := by
 have hrun : (results fn (aO n x live).tmps).run P W = .ok (.tuple #[]) W := by
  simp [results, hr]
 rcases he with rfl | rfl <;> exact ⟨rfl, _, hrun, h⟩
theorem run_cell {t g tb m : Nat} {cs : Array Value} (hA : ∀ w, (isAgg t).run P w = .ok true w) (hS : ∀ w, (sizeOf t).run P w = .ok m w) (hb : Blk W g tb cs) (hm : cs.size = m) : (loadVar t ⟨g, 0, none⟩).run P W = .ok (.agg cs) W := by
 subst hm
 have hl := run_loadCells_list (P := P) W ⟨g, 0, none⟩ cs.toList hb.at'
 simp only [Array.length_toList, Array.toArray_toList] at hl
 simp [loadVar, hA, hS, hl]
theorem d9 {fn : Func} {e : Exit} {p t g tb m : Nat} {cs : Array Value} {R : Ending → World → Prop} (he : e = .ret ∨ e = .normal) (hr : fn.results = #[.cell p t]) (hA : ∀ w, (isAgg t).run P w = .ok true w) (hS : ∀ w, (sizeOf t).run P w = .ok m w) (hx : evl n live (.tmp p) = some (.pointer (some ⟨g, 0, none⟩))) (hb : Blk W g tb cs) (hm : cs.size = m) (h : R (.returned (.agg cs)) W) : bodyPost P fn R e (aO n x live) W := by
 have e2 : (aO n x live).tmps.getD p undef = .pointer (some ⟨g, 0, none⟩) := aZ (y := .tmp p) hx
 have hl := run_cell hA hS hb hm
 have hrun : (results fn (aO n x live).tmps).run P W = .ok (.agg cs) W := by
  simp only [results, hr]
  simp at e2
  simp [e2, asAddr, hl]
 rcases he with rfl | rfl <;> exact ⟨rfl, _, hrun, h⟩
theorem fP {fn : Func} {e : Exit} {p t g tb m j : Nat} {cs : Array Value} {R : Ending → World → Prop} (he : e = .ret ∨ e = .normal) (hr : fn.results = #[.cell p t, .tmp j]) (hA : ∀ w, (isAgg t).run P w = .ok true w) (hS : ∀ w, (sizeOf t).run P w = .ok m w) (hx : evl n live (.tmp p) = some (.pointer (some ⟨g, 0, none⟩))) (hy : evl n live (.tmp j) = some v) (hb : Blk W g tb cs) (hm : cs.size = m) (h : R (.returned (.tuple #[.agg cs, v])) W) : bodyPost P fn R e (aO n x live) W := by
 have e2 : (aO n x live).tmps.getD p undef = .pointer (some ⟨g, 0, none⟩) := aZ (y := .tmp p) hx
 have e3 : (aO n x live).tmps.getD j undef = v := aZ (y := .tmp j) hy
 have hl := run_cell hA hS hb hm
 have hrun : (results fn (aO n x live).tmps).run P W = .ok (.tuple #[.agg cs, v]) W := by
  simp only [results, hr]
  simp at e2 e3
  simp [e2, e3, asAddr, hl]
 rcases he with rfl | rfl <;> exact ⟨rfl, _, hrun, h⟩
theorem post_tmp_cell_tmp {fn : Func} {e : Exit} {p t g tb m j j2 : Nat} {v0 : Value} {cs : Array Value} {R : Ending → World → Prop} (he : e = .ret ∨ e = .normal) (hr : fn.results = #[.tmp j, .cell p t, .tmp j2]) (hA : ∀ w, (isAgg t).run P w = .ok true w) (hS : ∀ w, (sizeOf t).run P w = .ok m w) (hy : evl n live (.tmp j) = some v0) (hx : evl n live (.tmp p) = some (.pointer (some ⟨g, 0, none⟩))) (hy2 : evl n live (.tmp j2) = some v) (hb : Blk W g tb cs) (hm : cs.size = m) (h : R (.returned (.tuple #[v0, .agg cs, v])) W) : bodyPost P fn R e (aO n x live) W := by
 have e2 : (aO n x live).tmps.getD p undef = .pointer (some ⟨g, 0, none⟩) := aZ (y := .tmp p) hx
 have e3 : (aO n x live).tmps.getD j undef = v0 := aZ (y := .tmp j) hy
 have e4 : (aO n x live).tmps.getD j2 undef = v := aZ (y := .tmp j2) hy2
 have hl := run_cell hA hS hb hm
 have hrun : (results fn (aO n x live).tmps).run P W = .ok (.tuple #[v0, .agg cs, v]) W := by
  simp only [results, hr]
  simp at e2 e3 e4
  simp [e2, e3, e4, asAddr, hl]
 rcases he with rfl | rfl <;> exact ⟨rfl, _, hrun, h⟩
end
section
variable {P : Program} {ops : Array Oper} {Q : Exit → Act → World → Prop} {md : Region.Mode} {S : World → Prop} {t : Nat}
def wpAnyS (P : Program) (md : Region.Mode) (ops : Array Oper) (Q : Exit → Act → World → Prop) (S : World → Prop) (t : Nat) : Nat → Array Bool → Act → World → Prop
 | 0, listed, a, w => Region.ready md ops listed = [] ∧ Q .normal a w
 | fuel + 1, listed, a, w =>
  (Region.ready md ops listed = [] → Q .normal a w) ∧
  ∀ i ∈ Region.ready md ops listed, wpOp P ops Q i (fun a' w' => ((listed.setIfInBounds i true).getD t false = false → S w') ∧ wpAnyS P md ops Q S t fuel (listed.setIfInBounds i true) a' w') a w
theorem wpAny_of_S : ∀ (fuel : Nat) (listed : Array Bool) (a : Act) (w : World), wpAnyS P md ops Q S t fuel listed a w → wpAny P md ops Q fuel listed a w
 | 0, _, _, _, h => h
 | fuel + 1, _, _, _, h => ⟨h.1, fun i hi => wpOp_mono (fun a' w' h' => wpAny_of_S fuel _ a' w' h'.2) (h.2 i hi)⟩
def waits (md : Region.Mode) (ops : Array Oper) (t i : Nat) : Bool := i != t && (match ops[t]? with | none => true | some o => o.after.any fun e => Region.binds md e && e.on == i)
theorem anyS_first {i : Nat} {oi : Oper} {v : Value} (hi : ops[i]? = some oi) (hsel : ∀ (j : Nat) (o : Oper) cs b, ops[j]? = some o → o.op ≠ .select cs b) (hw : waits md ops t i = true)
 (hQ : ∀ c a w, Q (.panic c) (a.put oi.dst v) w → Q (.panic c) a w) :
 ∀ (fuel : Nat) (listed : Array Bool) (a : Act) (w : World),
  (∀ j oj, ops[j]? = some oj → j ≠ i → listed.getD j true = false → (∀ e ∈ oj.after, Region.binds md e = true → e.on ≠ i) → oi.apart ops oj = true) →
  i ∈ Region.ready md ops listed → YieldsIf P ops S oi v a → S w → listed.getD t false = false →
  wpAnyS P md ops Q S t fuel (listed.setIfInBounds i true) (a.put oi.dst v) w → wpAnyS P md ops Q S t (fuel + 1) listed a w := by
 simp only [waits, Bool.and_eq_true, bne_iff_ne, ne_eq] at hw
 obtain ⟨hit, hw⟩ := hw
 intro fuel
 induction fuel with
 | zero =>
  intro listed a w _ hr hy hS ht H
  refine ⟨fun h => (by rw [h] at hr; cases hr), fun j hj => ?_⟩
  by_cases hji : j = i
  ·subst hji; exact hy.wpOp hi hS ⟨fun _ => hS, H⟩
  ·have := ready_mono hj hji
   rw [H.1] at this
   cases this
 | succ fuel ih =>
  intro listed a w hfree hr hy hS ht H
  refine ⟨fun h => (by rw [h] at hr; cases hr), fun j hj => ?_⟩
  by_cases hji : j = i
  ·subst hji; exact hy.wpOp hi hS ⟨fun _ => hS, H⟩
  ·have h1 := H.2 j (ready_mono hj hji)
   obtain ⟨hjun, oj, hoj, hall⟩ := mem_ready.1 hj
   have hnot : ∀ e ∈ oj.after, Region.binds md e = true → e.on ≠ i := fun e he hb heq => by
    have h1 := hall e he hb
    have h0 := (mem_ready.1 hr).1
    rw [heq] at h1
    rcases Nat.lt_or_ge i listed.size with h' | h'
    ·simp [h'] at h0 h1; rw [h0] at h1; cases h1
    ·simp [Array.getElem?_eq_none h'] at h1
   have hjt : j ≠ t := by
    rintro rfl
    rw [hoj] at hw
    obtain ⟨e, he, hb⟩ := Array.any_eq_true'.1 hw
    simp only [Bool.and_eq_true, beq_iff_eq] at hb
    exact hnot e he hb.1 hb.2
   have ht' : (listed.setIfInBounds j true).getD t false = false := by rw [getD_set_ne false hjt]; exact ht
   have h2 := wpOp_putIf hoj (hfree j oj hoj hji hjun hnot) (fun cs b => hsel i oi cs b hi) (fun cs b => hsel j oj cs b hoj) hQ hy h1
   have hfree' : ∀ k ok, ops[k]? = some ok → k ≠ i → (listed.setIfInBounds j true).getD k true = false →
    (∀ e ∈ ok.after, Region.binds md e = true → e.on ≠ i) → oi.apart ops ok = true := fun k ok hk hki hun hno => by
    refine hfree k ok hk hki ?_ hno
    by_cases hjk : j = k
    ·subst hjk; exact hjun
    ·rw [getD_set_ne true hjk] at hun; exact hun
   have ht2 : ((listed.setIfInBounds i true).setIfInBounds j true).getD t false = false := by rw [getD_set_ne false hjt, getD_set_ne false hit]; exact ht
   refine wpOp_mono (fun a' w' h3 => ⟨fun _ => h3.2.1 ht2, ih (listed.setIfInBounds j true) a' w' hfree' (ready_mono hr (Ne.symm hji)) h3.1 (h3.2.1 ht2) ht' ?_⟩) h2
   rw [Array.setIfInBounds_comm _ _ hji]
   exact h3.2.2
theorem aM {i d n : Nat} {x : Nat → Value} {live : List (Nat × Value)} {dst : Option Nat} {op : Op} {ty : Nat} {pos : String} {aft : Array Edge} {v : Value} {fuel : Nat} {listed : Array Bool} {w : World} (hi : ops[i]? = some ⟨dst, op, ty, pos, aft, none⟩)
 (hs : Region.noSelect ops = true) (hf : Region.free md ops listed i = true) (hr : (Region.ready md ops listed).contains i = true) (hw : waits md ops t i = true) (ht : listed.getD t false = false)
 (hQ : ∀ c a w, Q (.panic c) (a.put dst v) w → Q (.panic c) a w) (hd : dst = some d) (hdn : decide (d < n) = true) (hS : S w) (hy : ∀ W, S W → Rn P ⟨dst, op, ty, pos, aft, none⟩ (aO n x live) W v)
 (h : wpAnyS P md ops Q S t fuel (listed.setIfInBounds i true) (aO n x ((d, v) :: live)) w) : wpAnyS P md ops Q S t (fuel + 1) listed (aO n x live) w := by
 subst hd
 exact anyS_first hi (Region.noSelect_spec hs) hw hQ fuel listed _ w (Region.free_spec hi hf) (by simpa using hr) (.inl ⟨rfl, hy⟩) hS ht (by rw [dG (of_decide_eq_true hdn)]; exact h)
theorem bZ {i : Nat} {fuel : Nat} {listed : Array Bool} {a : Act} {w : World} (hr : Region.ready md ops listed = [i])
 (h : wpOp P ops Q i (fun a' w' => ((listed.setIfInBounds i true).getD t false = false → S w') ∧ wpAnyS P md ops Q S t fuel (listed.setIfInBounds i true) a' w') a w) : wpAnyS P md ops Q S t (fuel + 1) listed a w :=
 ⟨fun h0 => (by rw [hr] at h0; cases h0), fun j hj => (by rw [hr] at hj; rw [List.mem_singleton.1 hj]; exact h)⟩
theorem dY {listed : Array Bool} {a : Act} {w : World} (hr : Region.ready md ops listed = []) (h : Q .normal a w) : ∀ fuel, wpAnyS P md ops Q S t fuel listed a w
 | 0 => ⟨hr, h⟩
 | _ + 1 => ⟨fun _ => h, by rw [hr]; simp⟩
theorem eF {id : Nat} {a : Act} {w : World} (S : World → Prop) (t : Nat) (hm : P.follows .mixedOrders = true) (h : wpAnyS P .any ops Q S t ops.size (Array.replicate ops.size false) a w.drew) : (Code.region id ops true).wp P Q a w :=
 wp_region_any hm (wpAny_of_S _ _ _ _ h)
end
section
variable {P : Program} {ops : Array Oper} {Q : Exit → Act → World → Prop} {K : Act → World → Prop} {n i d ty : Nat} {x : Nat → Value} {live : List (Nat × Value)} {W w : World} {F0 : Nat → Prop} {l l' : List HP} {pos : String} {aft : Array Edge} {v : Value} {y z : Operand}
section
variable {dst : Option Nat} {xt yt : Nat} {p q : Int} (hx : evl n live y = some (.int .i64 p)) (hz : evl n live z = some (.int .i64 q))
include hx hz
theorem dD : Rn P ⟨dst, .binOp .lss xt y z yt, ty, pos, aft, none⟩ (aO n x live) W (.bool (decide (p < q))) := rn_cmp hx hz (by simp [binOp, Op.intCmp])
theorem eX : Rn P ⟨dst, .binOp .leq xt y z yt, ty, pos, aft, none⟩ (aO n x live) W (.bool (decide (p ≤ q))) := rn_cmp hx hz (by simp [binOp, Op.intCmp])
theorem rn_gtr : Rn P ⟨dst, .binOp .gtr xt y z yt, ty, pos, aft, none⟩ (aO n x live) W (.bool (decide (q < p))) := rn_cmp hx hz (by simp [binOp, Op.intCmp])
theorem rn_geq : Rn P ⟨dst, .binOp .geq xt y z yt, ty, pos, aft, none⟩ (aO n x live) W (.bool (decide (q ≤ p))) := rn_cmp hx hz (by simp [binOp, Op.intCmp])
theorem bM : Rn P ⟨dst, .binOp .eql xt y z yt, ty, pos, aft, none⟩ (aO n x live) W (.bool (decide (p = q))) := rn_cmp hx hz (by
 by_cases e : p = q
 ·simp [binOp, Op.intCmp, e]
 ·have e' : (p == q) = false := beq_eq_false_iff_ne.2 e
  simp [binOp, Op.intCmp, e', e])
theorem rn_neq : Rn P ⟨dst, .binOp .neq xt y z yt, ty, pos, aft, none⟩ (aO n x live) W (.bool (decide (¬ p = q))) := rn_cmp hx hz (by
 by_cases e : p = q
 ·simp [binOp, Op.intCmp, e]
 ·have e' : (p == q) = false := beq_eq_false_iff_ne.2 e
  simp [binOp, Op.intCmp, bne, e', e])
theorem rn_addW : Rn P ⟨dst, .binOp .add xt y z yt, ty, pos, aft, none⟩ (aO n x live) W (.int .i64 (IntKind.i64.wrap (p + q))) := rn_arith hx hz (by simp [binOp, Op.intArith])
theorem rn_subW : Rn P ⟨dst, .binOp .sub xt y z yt, ty, pos, aft, none⟩ (aO n x live) W (.int .i64 (IntKind.i64.wrap (p - q))) := rn_arith hx hz (by simp [binOp, Op.intArith])
end
theorem wrap_id {p : Int} (h : -9223372036854775808 ≤ p ∧ p ≤ 9223372036854775807) : IntKind.i64.wrap p = p := (IntWalk.i64_left p).trans (IntWalk.wrap64_in _ h)
theorem dF {dst : Option Nat} {xt yt : Nat} {p q : Int} (hx : evl n live y = some (.int .i64 p)) (hz : evl n live z = some (.int .i64 q)) (hb : -9223372036854775808 ≤ p + q ∧ p + q ≤ 9223372036854775807) : Rn P ⟨dst, .binOp .add xt y z yt, ty, pos, aft, none⟩ (aO n x live) W (.int .i64 (p + q)) := by
 have := rn_addW (P := P) (dst := dst) (ty := ty) (pos := pos) (aft := aft) (x := x) (W := W) (xt := xt) (yt := yt) hx hz
 rwa [wrap_id hb] at this
theorem rn_sub {dst : Option Nat} {xt yt : Nat} {p q : Int} (hx : evl n live y = some (.int .i64 p)) (hz : evl n live z = some (.int .i64 q)) (hb : -9223372036854775808 ≤ p - q ∧ p - q ≤ 9223372036854775807) : Rn P ⟨dst, .binOp .sub xt y z yt, ty, pos, aft, none⟩ (aO n x live) W (.int .i64 (p - q)) := by
 have := rn_subW (P := P) (dst := dst) (ty := ty) (pos := pos) (aft := aft) (x := x) (W := W) (xt := xt) (yt := yt) hx hz
 rwa [wrap_id hb] at this
theorem dP {dst : Option Nat} {xt yt k : Nat} (hx : evl n live y = some (.int .i64 (k : Int))) (hz : evl n live z = some (.int .i64 1)) (hb : k < 9223372036854775807) : Rn P ⟨dst, .binOp .add xt y z yt, ty, pos, aft, none⟩ (aO n x live) W (.int .i64 ((k + 1 : Nat) : Int)) := by
 have := dF (P := P) (dst := dst) (ty := ty) (pos := pos) (aft := aft) (x := x) (W := W) (xt := xt) (yt := yt) hx hz kO
 simpa using this
theorem rn_streql {dst : Option Nat} {xt yt : Nat} {s t : ByteArray} (hx : evl n live y = some (.string s)) (hz : evl n live z = some (.string t)) : Rn P ⟨dst, .binOp .eql xt y z yt, ty, pos, aft, none⟩ (aO n x live) W (.bool (s.toList == t.toList)) := by
 unfold Rn
 simp [execOp, aZ hx, aZ hz, eqGuard_at_string, binOp, Op.stringOp]
theorem aP {dst : Option Nat} {c : Operand} {b : Bool} {u1 u2 : Value} (hc : evl n live c = some (.bool b)) (hx : evl n live y = some u1) (hz : evl n live z = some u2) (hv : v = if b then u1 else u2) : Rn P ⟨dst, .pick c y z, ty, pos, aft, none⟩ (aO n x live) W v := by
 unfold Rn
 subst hv
 cases b <;> simp [execOp, aZ hc, aZ hx, aZ hz, asBool]
theorem cK {dst : Option Nat} {t : Nat} {ps : Array (Nat × Operand)} {vs : List (Nat × Value)} {cells : Array Value} (hv : ps.toList.map (fun p => (p.1, evl n live p.2)) = vs.map (fun p => (p.1, some p.2))) (hb : P.built t vs = some cells) : Rn P ⟨dst, .build t ps, ty, pos, aft, none⟩ (aO n x live) W (.agg cells) := by
 unfold Rn
 have e : (ps.map fun (i, x') => (i, (aO n x live).eval x')).toList = vs := by
  clear hb
  rw [Array.toList_map]
  generalize ps.toList = pl at hv
  induction pl generalizing vs with
  | nil => cases vs with
   | nil => rfl
   | cons a l => cases hv
  | cons a pl ih => cases vs with
   | nil => cases hv
   | cons b l =>
    simp only [List.map_cons, List.cons.injEq, Prod.mk.injEq] at hv
    obtain ⟨⟨h1, h2⟩, h3⟩ := hv
    obtain ⟨b1, b2⟩ := b
    simp only at h1 h2
    rw [List.map_cons, ih h3]
    subst h1
    show (a.1, (aO n x live).eval a.2) :: l = _
    rw [aZ h2]
 have := run_build (P := P) W t (ps.map fun (i, x') => (i, (aO n x live).eval x')) cells (by rw [e]; exact hb)
 simp [execOp, this]
theorem fill_all (vs cs : Array Value) (h : vs.size = cs.size) : vs.zipIdx.foldl (fun cs (c, j) => cs.setIfInBounds (0 + j) c) cs = vs := by
 have key : ∀ (l : List Value) (k : Nat) (cs : Array Value), k + l.length = cs.size → (l.zipIdx k).foldl (fun cs (p : Value × Nat) => cs.setIfInBounds (0 + p.2) p.1) cs = (cs.toList.take k ++ l).toArray := by
  intro l
  induction l with
  | nil =>
   intro k cs hk
   simp only [List.zipIdx_nil, List.foldl_nil, List.append_nil]
   rw [List.take_of_length_le (by simp at hk ⊢; omega)]
  | cons a l ih =>
   intro k cs hk
   rw [List.zipIdx_cons, List.foldl_cons, ih (k + 1) _ (by simp at hk ⊢; omega)]
   congr 1
   simp only [Nat.zero_add, Array.toList_setIfInBounds]
   apply List.ext_getElem?
   intro j
   simp only [List.length_cons] at hk
   have hkc : k < cs.toList.length := by simp; omega
   rcases Nat.lt_trichotomy j k with hj | hj | hj
   ·rw [List.getElem?_append_left (by simp; omega), List.getElem?_append_left (by simp; omega), List.getElem?_take, List.getElem?_take, if_pos kO, if_pos hj, List.getElem?_set, if_neg kO]
   ·subst hj
    rw [List.getElem?_append_left (by simp; omega), List.getElem?_append_right (by simp; omega), List.getElem?_take, if_pos kO, List.getElem?_set, if_pos rfl, if_pos hkc]
    simp [show j - min j cs.size = 0 by omega]
   ·rw [List.getElem?_append_right (by simp; omega), List.getElem?_append_right (by simp; omega)]
    simp only [List.length_take, List.length_set, Array.length_toList]
    rw [show j - min (k + 1) cs.size = j - (k + 1) by omega, show j - min k cs.size = (j - (k + 1)) + 1 by omega, List.getElem?_cons_succ]
 have := key vs.toList 0 cs (by simpa using h)
 simp only [List.take_zero, List.nil_append, Array.toArray_toList] at this
 rw [← Array.foldl_toList, Array.toList_zipIdx]
 exact this
theorem fA {dst : Option Nat} {t e m : Nat} {z0 : Value} (ho : ops[i]? = some ⟨dst, .buildSlice t 1 #[(0, y)], ty, pos, aft, none⟩) (hu : ∀ w, (underlying t).run P w = .ok (.slice e) w) (hS : ∀ w, (sizeOf e).run P w = .ok m w) (hm : 0 < m ∧ m ≤ 4096) (hz : ∀ w, (zeroValue e).run P w = .ok z0 w) (hx : evl n live y = some v) (hv : v.cells.size = m) (hd : dst = some d) (hdn : decide (d < n) = true) (H : St w F0 l W) (h : ∀ g W', Upd No W W' → St w F0 (hB g e v.cells :: l) W' → K (aO n x ((d, .slice (some ⟨g, 0, none⟩) 1 1) :: live)) W') : wpOp P ops Q i K (aO n x live) W := by
 subst hd
 refine op_ok ho rfl ?_
 have h0 : ¬ (1 * m > 2 ^ 24) := by omega
 have h1 : ¬ (1 * m = 0) := by omega
 have hf : Instr.fill (fun i => some (i * m, m)) ((Array.range (1 * m)).map (fun k => z0.cells[k % z0.cells.size]!)) [(0, v)] = some v.cells := by
  simp only [Instr.fill, Nat.zero_mul, Nat.zero_add, hv, ne_eq, not_true, Nat.one_mul, Array.size_map, Array.size_range, gt_iff_lt, Nat.lt_irrefl]
  have := fill_all v.cells ((Array.range m).map (fun k => z0.cells[k % z0.cells.size]!)) (by simp [hv])
  simp only [Nat.zero_add] at this
  rw [this]
  simp
 have hrun : (execOp (aO n x live).eval ⟨some d, .buildSlice t 1 #[(0, y)], ty, pos, aft, none⟩).run P W = .ok (.value (.slice (some ⟨W.heap.size, 0, none⟩) 1 1)) (W.alloc (.cells v.cells e)) := by
  simp only [execOp, List.map_toArray, List.map_cons, List.map_nil, aZ hx, Instr.buildSlice, Sem.run_bind, hu, hS, Result.andThen_ok, h0, if_false, h1, hz, Sem.run_pure, hf]
  simp [newRow]
 unfold Oper.wp
 rw [hrun]
 simp only [Oper.upon]
 rw [dG (of_decide_eq_true hdn)]
 exact h _ _ ((Upd.refl _ _).alloc _) (H.alloc e v.cells)
theorem op_slice0 {α : Type} {dk : Kn α} {dst : Option Nat} {t e m : Nat} (ho : ops[i]? = some ⟨dst, .buildSlice t 0 #[], ty, pos, aft, none⟩) (hu : ∀ w, (underlying t).run P w = .ok (.slice e) w) (hS : ∀ w, (sizeOf e).run P w = .ok m w) (hd : dst = some d) (hdn : decide (d < n) = true) (H : St w F0 l W) (h : ∀ A W', Upd No W W' → St w F0 (hR dk e (.slice A 0 0) [] :: l) W' → K (aO n x ((d, .slice A 0 0) :: live)) W') : wpOp P ops Q i K (aO n x live) W := by
 subst hd
 refine op_ok ho rfl ?_
 have hrun : (execOp (aO n x live).eval ⟨some d, .buildSlice t 0 #[], ty, pos, aft, none⟩).run P W = .ok (.value (.slice (some ⟨W.heap.size, 0, none⟩) 0 0)) (W.alloc (.cells #[] e)) := by
  simp [execOp, Instr.buildSlice, hu, hS, Instr.fill, newRow, Array.range_zero']
 unfold Oper.wp
 rw [hrun]
 simp only [Oper.upon]
 rw [dG (of_decide_eq_true hdn)]
 exact h _ _ ((Upd.refl _ _).alloc _) (H.new ((Upd.refl _ _).alloc _) (dZ (F' := New W) (fun b hb => by subst hb; exact Nat.le_refl _) (R_emptyB (Blk.new _ _ _))))
theorem St.add0 {q : HP} (H : St w F0 l W) (hq : q.p W No) : St w F0 (q :: l) W := ⟨H.1, Star.cons No _ hq H.2 (fun _ h => h.elim) (fun _ h => h) (fun _ h => h.elim)⟩
theorem Rn_append {t e bytes c : Nat} {α : Type} {dk : Kn α} {F : Nat → Prop} {z0 : Value} {xs ys : List α} {A : Option Addr} {Gs : Nat → Nat → Prop} {dst : Option Nat}
 (ht : P.underlying t = some (.slice e)) (hinfo : (P.info? e).map (fun i => (i.zero, i.size, i.bytes)) = some (some z0, dk.sz, bytes)) (hz : z0.cells.size = dk.sz) (hs0 : 0 < dk.sz) (hb0 : 0 < bytes)
 (hx : evl n live y = some v) (hy : evl n live z = some (.slice A ys.length c)) (HR : R dk e W F v xs) (HC : CM dk W A ys Gs) (hd : ∀ j b, Gs j b → ¬ F b) (hd2 : ∀ i j b, Gs i b → Gs j b → i = j) (hl : (xs.length + ys.length) * bytes ≤ 140737488355328) :
 ∃ B c' W', (execOp (aO n x live).eval ⟨dst, .call { callee := .builtin .append, args := #[y, z], argTypes := #[t, t] }, ty, pos, aft, none⟩).run P W = .ok (.value (.slice B (xs.length + ys.length) c')) W' ∧ R dk e W' (fun b => F b ∨ (∃ j, j < ys.length ∧ Gs j b) ∨ W.heap.size ≤ b) (.slice B (xs.length + ys.length) c') (xs ++ ys) ∧ Upd F W W' := by
 obtain ⟨v1, w1, hrun, h1, h2⟩ := run_appAny (P := P) W t ty z0 bytes ht hinfo hz hs0 hb0 A c Gs HR HC hd hd2 hl
 obtain ⟨B, c', e'⟩ := bK h1
 rw [List.length_append] at e'
 subst e'
 exact ⟨B, c', w1, by simp [execOp, resolve, invoke, builtin, aZ hx, aZ hy, hrun], h1, h2⟩
theorem op_appendA {t e bytes c : Nat} {α : Type} {dk : Kn α} {z0 : Value} {xs ys : List α} {A : Option Addr} {l0 : List HP} {dst : Option Nat}
 (ho : ops[i]? = some ⟨dst, .call { callee := .builtin .append, args := #[y, z], argTypes := #[t, t] }, ty, pos, aft, none⟩)
 (ht : P.underlying t = some (.slice e)) (hinfo : (P.info? e).map (fun i => (i.zero, i.size, i.bytes)) = some (some z0, dk.sz, bytes)) (hz : z0.cells.size = dk.sz) (hs0 : 0 < dk.sz) (hb0 : 0 < bytes)
 (hx : evl n live y = some v) (hy : evl n live z = some (.slice A ys.length c)) (hl : (xs.length + ys.length) * bytes ≤ 140737488355328) (hd : dst = some d) (hdn : decide (d < n) = true)
 (H : St w F0 ((hR dk e v xs :: l0) ++ l) W) (HC : ∀ F, Star l0 W F → ∃ Gs, CM dk W A ys Gs ∧ (∀ j b, Gs j b → F b) ∧ ∀ i j b, Gs i b → Gs j b → i = j)
 (h : ∀ B c W', St w F0 (hR dk e (.slice B (xs.length + ys.length) c) (xs ++ ys) :: l) W' → K (aO n x ((d, .slice B (xs.length + ys.length) c) :: live)) W') : wpOp P ops Q i K (aO n x live) W := by
 subst hd
 refine op_ok ho rfl ?_
 obtain ⟨F1, a1, _, a3⟩ := H.frame
 obtain ⟨FR, F2, b1, b2, b3, b4, b5⟩ := a1.uncons
 obtain ⟨Gs, g1, g2, g3⟩ := HC F2 b2
 obtain ⟨B, c', W', hrun, h1, h2⟩ := Rn_append (P := P) (ty := ty) (pos := pos) (aft := aft) (x := x) (dst := some d) ht hinfo hz hs0 hb0 hx hy b1 g1 (fun j b hb q => b5 b q (g2 j b hb)) g3 hl
 unfold Oper.wp
 rw [hrun]
 simp only [Oper.upon]
 rw [dG (of_decide_eq_true hdn)]
 refine h B c' W' (a3 [hR dk e (.slice B (xs.length + ys.length) c') (xs ++ ys)] W' ⟨h2.mono (fun b _ q => b3 b q), Star.one (dZ (fun b q => ?_) h1)⟩)
 rcases q with q | ⟨j, _, q⟩ | q
 ·exact .inl (b3 b q)
 ·exact .inl (b4 b (g2 j b q))
 ·exact .inr q
theorem CM_one {α : Type} {dk : Kn α} {g e : Nat} {p : α} {cs : Array Value} {Fp : Nat → Prop} (hB : Blk W g e cs) (hp : dk.M W Fp p cs.toList) : CM dk W (some ⟨g, 0, none⟩) [p] (fun j b => j = 0 ∧ Fp b) := by
 refine ⟨by simp, fun _ => ⟨_, rfl, fun j q hj => ?_⟩⟩
 rcases j with _ | j
 ·simp only [List.getElem?_cons_zero, Option.some.injEq] at hj
  subst hj
  exact ⟨cs.toList, dk.dN (fun _ q => ⟨rfl, q⟩) hp, fun k u hu => by rw [Nat.zero_mul, Nat.zero_add]; exact hB.at' k u hu⟩
 ·simp at hj
theorem op_append1 {t e bytes g : Nat} {α : Type} {dk : Kn α} {z0 : Value} {xs : List α} {p : α} {cs : Array Value} {dst : Option Nat}
 (ho : ops[i]? = some ⟨dst, .call { callee := .builtin .append, args := #[y, z], argTypes := #[t, t] }, ty, pos, aft, none⟩)
 (ht : P.underlying t = some (.slice e)) (hinfo : (P.info? e).map (fun i => (i.zero, i.size, i.bytes)) = some (some z0, dk.sz, bytes)) (hz : z0.cells.size = dk.sz) (hs0 : 0 < dk.sz) (hb0 : 0 < bytes)
 (hx : evl n live y = some v) (hy : evl n live z = some (.slice (some ⟨g, 0, none⟩) 1 1)) (hl : (xs.length + 1) * bytes ≤ 140737488355328) (hd : dst = some d) (hdn : decide (d < n) = true)
 (H : St w F0 (hR dk e v xs :: hB g e cs :: hM dk p cs.toList :: l) W)
 (h : ∀ B c W', St w F0 (hR dk e (.slice B (xs.length + 1) c) (xs ++ [p]) :: l) W' → K (aO n x ((d, .slice B (xs.length + 1) c) :: live)) W') : wpOp P ops Q i K (aO n x live) W :=
 op_appendA (ys := [p]) (l0 := [hB g e cs, hM dk p cs.toList]) ho ht hinfo hz hs0 hb0 hx hy hl hd hdn H (fun F hF => by
  obtain ⟨Fg, F3, c1, c2, c3, c4, c5⟩ := hF.uncons
  obtain ⟨Fp, F4, d1, _, d3, _, _⟩ := c2.uncons
  exact ⟨_, CM_one c1.2 d1, fun j b hb => c4 b (d3 b hb.2), fun i j b hi hj => hi.1.trans hj.1.symm⟩) h
theorem op_append1f {t e bytes g : Nat} {α : Type} {dk : Kn α} {z0 : Value} {xs : List α} {p : α} {cs : Array Value} {dst : Option Nat}
 (ho : ops[i]? = some ⟨dst, .call { callee := .builtin .append, args := #[y, z], argTypes := #[t, t] }, ty, pos, aft, none⟩)
 (ht : P.underlying t = some (.slice e)) (hinfo : (P.info? e).map (fun i => (i.zero, i.size, i.bytes)) = some (some z0, dk.sz, bytes)) (hz : z0.cells.size = dk.sz) (hs0 : 0 < dk.sz) (hb0 : 0 < bytes)
 (hx : evl n live y = some v) (hy : evl n live z = some (.slice (some ⟨g, 0, none⟩) 1 1)) (hp : dk.M W No p cs.toList) (hl : (xs.length + 1) * bytes ≤ 140737488355328) (hd : dst = some d) (hdn : decide (d < n) = true)
 (H : St w F0 (hR dk e v xs :: hB g e cs :: l) W)
 (h : ∀ B c W', St w F0 (hR dk e (.slice B (xs.length + 1) c) (xs ++ [p]) :: l) W' → K (aO n x ((d, .slice B (xs.length + 1) c) :: live)) W') : wpOp P ops Q i K (aO n x live) W :=
 op_appendA (ys := [p]) (l0 := [hB g e cs]) ho ht hinfo hz hs0 hb0 hx hy hl hd hdn H (fun F hF => by
  obtain ⟨Fg, F3, c1, _, c3, _, _⟩ := hF.uncons
  exact ⟨_, CM_one c1.2 hp, fun j b hb => hb.2.elim, fun i j b hi hj => hi.1.trans hj.1.symm⟩) h
theorem bE {t g tb m : Nat} {old cs : Array Value} (ho : ops[i]? = some ⟨none, .store t y z, ty, pos, aft, none⟩) (hS : ∀ w, (sizeOf t).run P w = .ok m w) (hx : evl n live y = some (.pointer (some ⟨g, 0, none⟩))) (hz : evl n live z = some (.agg cs)) (hm : cs.size = m) (hk : old.size = m) (h1 : ∀ u ∈ cs.toList, u.oneCell' = true) (H : St w F0 (hB g tb old :: l) W) (h : ∀ W', Upd (fun b => b = g) W W' → St w F0 (hB g tb cs :: l) W' → K (aO n x live) W') : wpOp P ops Q i K (aO n x live) W := by
 refine op_store0 ho hS hx hz hm kO h1 H (fun W' hu H' => h W' hu ?_)
 have e : put old 0 (Value.agg cs).cells.toList = cs := by
  simp only [put, Value.cells, List.take_zero, List.nil_append, Nat.zero_add]
  rw [List.drop_eq_nil_of_le (by simp; omega), List.append_nil, Array.toArray_toList]
 rw [← e]
 exact H'
theorem cB {dst : Option Nat} {t m g tb : Nat} {cs : Array Value} (hA : ∀ w, (isAgg t).run P w = .ok true w) (hS : ∀ w, (sizeOf t).run P w = .ok m w) (hx : evl n live y = some (.pointer (some ⟨g, 0, none⟩))) (hb : Blk W g tb cs) (hm : cs.size = m) : Rn P ⟨dst, .load t y, ty, pos, aft, none⟩ (aO n x live) W (.agg cs) := dJ hA hS hx hb.at' (by simpa using hm)
theorem bC {dst : Option Nat} {t k g tb : Nat} {cs : Array Value} (hA : ∀ w, (isAgg t).run P w = .ok false w) (hx : evl n live y = some (.pointer (some (Addr.add ⟨g, 0, none⟩ k)))) (hb : Blk W g tb cs) (hv : cs[k]? = some v) : Rn P ⟨dst, .load t y, ty, pos, aft, none⟩ (aO n x live) W v := rn_load hA hx (hb.at'.cell k (by simpa using hv))
theorem rn_loadS {dst : Option Nat} {t k m g tb : Nat} {cs sub : Array Value} (hA : ∀ w, (isAgg t).run P w = .ok true w) (hS : ∀ w, (sizeOf t).run P w = .ok m w) (hx : evl n live y = some (.pointer (some (Addr.add ⟨g, 0, none⟩ k)))) (hb : Blk W g tb cs) (hs : (cs.toList.drop k).take m = sub.toList) (hm : sub.size = m) : Rn P ⟨dst, .load t y, ty, pos, aft, none⟩ (aO n x live) W (.agg sub) := dJ hA hS hx (hb.at'.sub k m hs) (by simpa using hm)
theorem dX {dst : Option Nat} {t k : Nat} {a : Addr} {cs : List Value} (hA : ∀ w, (isAgg t).run P w = .ok false w) (hx : evl n live y = some (.pointer (some (a.add k)))) (hc : Cat W a cs) (hv : cs[k]? = some v) : Rn P ⟨dst, .load t y, ty, pos, aft, none⟩ (aO n x live) W v := rn_load hA hx (hc.cell k hv)
theorem bB {dst : Option Nat} {t e sz k len cap : Nat} {A : Option Addr} {ad : Addr} (hu : ∀ w, (underlying t).run P w = .ok (.slice e) w) (hS : ∀ w, (sizeOf e).run P w = .ok sz w) (hx : evl n live y = some (.slice A len cap)) (hz : evl n live z = some (.int .i64 (k : Int))) (hA : A = some ad) (hk : k < len) : Rn P ⟨dst, .indexAddr t y z, ty, pos, aft, none⟩ (aO n x live) W (.pointer (some (ad.add (k * sz)))) := by
 subst hA
 exact rn_index hu hS hx hz hk
theorem Cat.cell0 {W : World} {a : Addr} {cs : List Value} {v : Value} (h : Cat W a cs) (hv : cs[0]? = some v) : W.cell? a = some v := h 0 v hv
theorem St.rowC {α : Type} {dk : Kn α} {e m c : Nat} {A : Option Addr} {xs : List α} (h : St w F0 l W) (i : Nat) (hq : l[i]? = some (hR dk e (.slice A m c) xs)) : C dk W A xs := by
 obtain ⟨F, hF⟩ := h.get i hq
 exact R_C hF
theorem St.kn {α : Type} {dk : Kn α} {p : α} {cs : List Value} (h : St w F0 l W) (i : Nat) (hq : l[i]? = some (hM dk p cs)) : dk.K W p cs := by
 obtain ⟨F, hF⟩ := h.get i hq
 exact dk.eU hF
theorem bV {a : Act} (h : Q .ret a W) : Exit.then K Q .ret a W := h
theorem inB_r {a : Act} {id : Nat} (h : Q .ret a W) : Exit.inBlock id Q .ret a W := h
theorem bR {a : Act} {id : Nat} (h : Q (.exit id) a W) : Exit.then K Q (.exit id) a W := h
theorem cond_b {c1 c2 : Code} {b : Bool} (hc : evl n live y = some (.bool b)) (ht : b = true → c1.wp P Q (aO n x live) W) (hf : b = false → c2.wp P Q (aO n x live) W) : (Code.cond y c1 c2).wp P Q (aO n x live) W := by
 cases b
 ·exact wp_cond_false (aZ hc) (hf rfl)
 ·exact wp_cond_true (aZ hc) (ht rfl)
theorem wanted_G {o oj : Oper} {j dj : Nat} {want b : Bool} (hg : o.guard = some (j, want)) (hj : ops[j]? = some oj) (hdj : oj.dst = some dj) (hv : evl n live (.tmp dj) = some (.bool b)) : Region.wanted o (yielded ops (aO n x live).tmps) = (b == want) := by
 have e2 := aZ (x := x) hv
 simp only [Act.eval, Array.getD_eq_getD_getElem?] at e2
 unfold Region.wanted yielded
 simp only [hg, hj, Option.bind_some, hdj]
 cases e : (aO n x live).tmps[dj]? with
 | none => rw [e] at e2; cases e2
 | some u =>
  rw [e] at e2
  simp only [Option.getD_some] at e2
  subst e2
  simp
theorem aU {dst : Option Nat} {op : Op} {j dj : Nat} {want : Bool} {oj : Oper} (ho : ops[i]? = some ⟨dst, op, ty, pos, aft, some (j, want)⟩) (hj : ops[j]? = some oj) (hdj : oj.dst = some dj) (hv : evl n live (.tmp dj) = some (.bool want)) (h : ∀ ops' : Array Oper, ops'[i]? = some ⟨dst, op, ty, pos, aft, none⟩ → wpOp P ops' Q i K (aO n x live) W) : wpOp P ops Q i K (aO n x live) W := by
 have hi : i < ops.size := (Array.getElem?_eq_some_iff.1 ho).1
 have h1 := h (ops.setIfInBounds i ⟨dst, op, ty, pos, aft, none⟩) (by simp [hi])
 unfold wpOp at h1 ⊢
 rw [show (ops.setIfInBounds i ⟨dst, op, ty, pos, aft, none⟩)[i]? = some ⟨dst, op, ty, pos, aft, none⟩ by simp [hi]] at h1
 simp only [ho] at h1 ⊢
 have hw : Region.wanted ⟨dst, op, ty, pos, aft, some (j, want)⟩ (yielded ops (aO n x live).tmps) = true := by
  rw [wanted_G rfl hj hdj hv]
  simp
 rw [if_pos hw]
 rw [if_pos (show Region.wanted _ _ = true from rfl)] at h1
 exact h1
theorem aJ {dst : Option Nat} {op : Op} {j dj : Nat} {want b : Bool} {oj : Oper} (ho : ops[i]? = some ⟨dst, op, ty, pos, aft, some (j, want)⟩) (hj : ops[j]? = some oj) (hdj : oj.dst = some dj) (hv : evl n live (.tmp dj) = some (.bool b)) (hb : (b == want) = false) (hd : dst = some d) (hdn : decide (d < n) = true) (h : K (aO n x ((d, undef) :: live)) W) : wpOp P ops Q i K (aO n x live) W := by
 subst hd
 unfold wpOp
 simp only [ho]
 have hw : Region.wanted ⟨some d, op, ty, pos, aft, some (j, want)⟩ (yielded ops (aO n x live).tmps) = false := by
  rw [wanted_G rfl hj hdj hv, hb]
 rw [hw]
 simp only [Bool.false_eq_true, if_false]
 rw [dG (of_decide_eq_true hdn)]
 exact h
theorem fH {t e bytes g n' : Nat} {α : Type} {dk : Kn α} {z0 : Value} {xs ys : List α} {p : α} {cs : Array Value} {dst : Option Nat}
 (ho : ops[i]? = some ⟨dst, .call { callee := .builtin .append, args := #[y, z], argTypes := #[t, t] }, ty, pos, aft, none⟩)
 (ht : P.underlying t = some (.slice e)) (hinfo : (P.info? e).map (fun i => (i.zero, i.size, i.bytes)) = some (some z0, dk.sz, bytes)) (hz : z0.cells.size = dk.sz) (hs0 : 0 < dk.sz) (hb0 : 0 < bytes)
 (hx : evl n live y = some v) (hy : evl n live z = some (.slice (some ⟨g, 0, none⟩) 1 1)) (hl : (xs.length + 1) * bytes ≤ 140737488355328) (hn : xs.length + 1 = n') (hys : xs ++ [p] = ys) (hd : dst = some d) (hdn : decide (d < n) = true)
 (H : St w F0 (hR dk e v xs :: hB g e cs :: hM dk p cs.toList :: l) W)
 (h : ∀ B c W', St w F0 (hR dk e (.slice B n' c) ys :: l) W' → K (aO n x ((d, .slice B n' c) :: live)) W') : wpOp P ops Q i K (aO n x live) W := by
 subst hn hys
 exact op_append1 ho ht hinfo hz hs0 hb0 hx hy hl hd hdn H h
theorem op_append1f' {t e bytes g n' : Nat} {α : Type} {dk : Kn α} {z0 : Value} {xs ys : List α} {p : α} {cs : Array Value} {dst : Option Nat}
 (ho : ops[i]? = some ⟨dst, .call { callee := .builtin .append, args := #[y, z], argTypes := #[t, t] }, ty, pos, aft, none⟩)
 (ht : P.underlying t = some (.slice e)) (hinfo : (P.info? e).map (fun i => (i.zero, i.size, i.bytes)) = some (some z0, dk.sz, bytes)) (hz : z0.cells.size = dk.sz) (hs0 : 0 < dk.sz) (hb0 : 0 < bytes)
 (hx : evl n live y = some v) (hy : evl n live z = some (.slice (some ⟨g, 0, none⟩) 1 1)) (hp : dk.M W No p cs.toList) (hl : (xs.length + 1) * bytes ≤ 140737488355328) (hn : xs.length + 1 = n') (hys : xs ++ [p] = ys) (hd : dst = some d) (hdn : decide (d < n) = true)
 (H : St w F0 (hR dk e v xs :: hB g e cs :: l) W)
 (h : ∀ B c W', St w F0 (hR dk e (.slice B n' c) ys :: l) W' → K (aO n x ((d, .slice B n' c) :: live)) W') : wpOp P ops Q i K (aO n x live) W := by
 subst hn hys
 exact op_append1f ho ht hinfo hz hs0 hb0 hx hy hp hl hd hdn H h
theorem bH {o : Oper} {a : Act} {p : Prop} [Decidable p] (hn : ¬ p) (h : Rn P o a W (.bool (decide p))) : Rn P o a W (.bool false) := by
 rw [decide_eq_false hn] at h
 exact h
theorem bG {o : Oper} {a : Act} {p : Prop} [Decidable p] (hn : p) (h : Rn P o a W (.bool (decide p))) : Rn P o a W (.bool true) := by
 rw [decide_eq_true hn] at h
 exact h
theorem rn_neqB {dst : Option Nat} {xt yt : Nat} {b : Bool} (hu : ∀ w, (underlying xt).run P w = .ok .bool w) (hx : evl n live y = some (.bool b)) (hz : evl n live z = some (.bool b)) : Rn P ⟨dst, .binOp .neq xt y z yt, ty, pos, aft, none⟩ (aO n x live) W (.bool false) := by
 unfold Rn
 have e : Op.equal xt (.bool b) (.bool b) = Op.equalIn (9999 + 1) xt (.bool b) (.bool b) := rfl
 have e2 : (Op.equal xt (.bool b) (.bool b)).run P W = .ok true W := by
  rw [e, Op.equalIn]
  simp [hu]
 simp [execOp, aZ hx, aZ hz, eqGuard_at_bool, binOp, e2]
theorem absS {b : Bool} {p : Prop} (e : b = true) (h : b = false) : p := by rw [e] at h; cases h
theorem aW {n : Nat} {x : Nat → Value} {live : List (Nat × Value)} (live' : List (Nat × Value)) (h2 : live'.map (fun p => some p.2) = live'.map (fun p => live.lookup p.1)) : ∃ x', aO n x live = aO n x' live' := actOf_drop (fun _ _ hm => (List.map_inj_left.1 h2 _ hm).symm)
end
end Go.Proofs.YtdfipdpeilegpaaSep
namespace Go.Proofs.YtdfipdpeilegpaaT
open Go.RowKit Go.Proofs.YtdfipdpeilegpaaSep
theorem fa_31_0 : dM Try.prog 31 0 0 := fun a W => by simp [Instr.fieldAt, Try.runUnderlying31, Instr.sureAddr, fieldPlace, Try.sizeOf3]
theorem fa_31_1 : dM Try.prog 31 1 1 := fun a W => by simp [Instr.fieldAt, Try.runUnderlying31, Instr.sureAddr, fieldPlace, Try.sizeOf3]
theorem fa_31_2 : dM Try.prog 31 2 2 := fun a W => by simp [Instr.fieldAt, Try.runUnderlying31, Instr.sureAddr, fieldPlace, Try.sizeOf3]
theorem fa_31_3 : dM Try.prog 31 3 3 := fun a W => by simp [Instr.fieldAt, Try.runUnderlying31, Instr.sureAddr, fieldPlace, Try.sizeOf3]
theorem fa_31_4 : dM Try.prog 31 4 4 := fun a W => by simp [Instr.fieldAt, Try.runUnderlying31, Instr.sureAddr, fieldPlace, Try.sizeOf9]
theorem fa_31_5 : dM Try.prog 31 5 5 := fun a W => by simp [Instr.fieldAt, Try.runUnderlying31, Instr.sureAddr, fieldPlace, Try.sizeOf25]
theorem fa_31_6 : dM Try.prog 31 6 6 := fun a W => by simp [Instr.fieldAt, Try.runUnderlying31, Instr.sureAddr, fieldPlace, Try.sizeOf27]
theorem fa_31_7 : dM Try.prog 31 7 8 := fun a W => by simp [Instr.fieldAt, Try.runUnderlying31, Instr.sureAddr, fieldPlace, Try.sizeOf3]
theorem fa_31_8 : dM Try.prog 31 8 9 := fun a W => by simp [Instr.fieldAt, Try.runUnderlying31, Instr.sureAddr, fieldPlace, Try.sizeOf29]
theorem fa_94_0 : dM Try.prog 94 0 0 := fun a W => by simp [Instr.fieldAt, Try.runUnderlying94, Instr.sureAddr, fieldPlace, Try.sizeOf3]
theorem fa_94_1 : dM Try.prog 94 1 1 := fun a W => by simp [Instr.fieldAt, Try.runUnderlying94, Instr.sureAddr, fieldPlace, Try.sizeOf3]
theorem bY : dM Try.prog 94 2 2 := fun a W => by simp [Instr.fieldAt, Try.runUnderlying94, Instr.sureAddr, fieldPlace, Try.sizeOf37]
end Go.Proofs.YtdfipdpeilegpaaT
namespace Go.Proofs.YtdfipdpeilegpaaT
open Go.Proofs.YtdfipdpeilegpaaSep
structure GValue where
 Kind : Int
 N : Int
structure GTag where
 Vat : Int
 Entity : Int
 Seq : Int
def zTag : GTag := ⟨0, 0, 0⟩
structure GSent where
 Target : Int
 Name : ByteArray
 bF : List GValue
 Result : Int
 Tag : GTag
structure GAsker where
 Peer : Int
 Question : Int
structure GEntity where
 Kind : Int
 Script : Int
 Slots : List GValue
 State : Int
 Value : GValue
 Queue : List GSent
 Askers : List GAsker
 Peer : Int
 Pos : Int
 Count : Int
 Sent : Int
structure GExport where
 Pos : Int
 Entity : Int
 Count : Int
structure GQuestion where
 Id : Int
 Promise : Int
structure GLink where
 Peer : Int
 Up : Bool
 Exports : List GExport
 Next : Int
 Questions : List GQuestion
 Asked : Int
 Answers : List GQuestion
structure GWire where
 Kind : Int
 N : Int
def zWire : GWire := ⟨0, 0⟩
def szn_Wire (_ : GWire) : Nat := 0
structure GMessage where
 Kind : Int
 Pos : Int
 bI : Int
 Question : Int
 Name : ByteArray
 bF : List GWire
 Value : GWire
 Count : Int
 Tag : GTag
def cO : GMessage := ⟨0, 0, 0, 0, ⟨#[]⟩, [], zWire, 0, zTag⟩
def aQ (x : GMessage) : Nat := x.Name.size + bJ szn_Wire x.bF
structure GOutgoing where
 To : Int
 Message : GMessage
structure GVat where
 Id : Int
 Entities : List GEntity
 Loop : List GSent
 Links : List GLink
 Out : List GOutgoing
structure GChannel where
 From : Int
 To : Int
 List : List GMessage
def aL (x : GChannel) : Nat := bJ aQ x.List
structure GInstr where
 Op : Int
 A : Int
 B : Int
 C : Int
 D : Int
 Name : ByteArray
structure GMethod where
 Name : ByteArray
 Code : List GInstr
structure GScript where
 Name : ByteArray
 Methods : List GMethod
end Go.Proofs.YtdfipdpeilegpaaT
namespace Go.Proofs.YtdfipdpeilegpaaK
open Go.RowKit Go.Proofs.YtdfipdpeilegpaaSep Go.Proofs.YtdfipdpeilegpaaT
def ki_Tag : Kn GTag := Kn.iso (Kn.pair Kn.int (Kn.pair Kn.int Kn.int)) (fun x => (x.Vat, x.Entity, x.Seq))
theorem ki_Tag_K {w : World} {x : GTag} {cs : List Value} (h : ki_Tag.K w x cs) : cs = [.int .i64 x.Vat, .int .i64 x.Entity, .int .i64 x.Seq] := by
 obtain ⟨_, _, rfl, rfl, ⟨_, _, rfl, rfl, rfl⟩⟩ := h
 exact rfl
theorem ki_Tag_M {w : World} {F : Nat → Prop} {x : GTag} {cs : List Value} (h : ki_Tag.M w F x cs) : cs = [.int .i64 x.Vat, .int .i64 x.Entity, .int .i64 x.Seq] := by
 exact ki_Tag_K (ki_Tag.eU h)
theorem ki_Tag_mk (w : World) (F : Nat → Prop) (x : GTag) : ki_Tag.M w F x [.int .i64 x.Vat, .int .i64 x.Entity, .int .i64 x.Seq] :=
 ⟨[_], [_, _], No, No, rfl, rfl, ⟨[_], [_], No, No, rfl, rfl, rfl, fun _ h => h.elim, fun _ h => h.elim, fun _ h => h.elim⟩, fun _ h => h.elim, fun _ h => h.elim, fun _ h => h.elim⟩
def aR : Kn GWire := Kn.iso (Kn.pair Kn.int Kn.int) (fun x => (x.Kind, x.N))
theorem ki_Wire_K {w : World} {x : GWire} {cs : List Value} (h : aR.K w x cs) : cs = [.int .i64 x.Kind, .int .i64 x.N] := by
 obtain ⟨_, _, rfl, rfl, rfl⟩ := h
 exact rfl
theorem ki_Wire_M {w : World} {F : Nat → Prop} {x : GWire} {cs : List Value} (h : aR.M w F x cs) : cs = [.int .i64 x.Kind, .int .i64 x.N] := by
 exact ki_Wire_K (aR.eU h)
theorem ki_Wire_mk (w : World) (F : Nat → Prop) (x : GWire) : aR.M w F x [.int .i64 x.Kind, .int .i64 x.N] :=
 ⟨[_], [_], No, No, rfl, rfl, rfl, fun _ h => h.elim, fun _ h => h.elim, fun _ h => h.elim⟩
theorem fK : (Try.prog.info? 27).map (fun i => (i.zero, i.size, i.bytes)) = some (some (.agg #[.int .i64 0, .int .i64 0]), 2, 16) := by kernel_rfl
def aF : Kn GMessage := Kn.iso (Kn.pair Kn.int (Kn.pair Kn.int (Kn.pair Kn.int (Kn.pair Kn.int (Kn.pair Kn.string (Kn.pair (Kn.slice 27 aR) (Kn.pair aR (Kn.pair Kn.int ki_Tag)))))))) (fun x => (x.Kind, x.Pos, x.bI, x.Question, x.Name, x.bF, x.Value, x.Count, x.Tag))
theorem dV {w : World} {x : GMessage} {cs : List Value} (h : aF.K w x cs) : ∃ (A5 : Option Addr) (c5 : Nat), cs = [.int .i64 x.Kind, .int .i64 x.Pos, .int .i64 x.bI, .int .i64 x.Question, .string x.Name, .slice A5 x.bF.length c5, .int .i64 x.Value.Kind, .int .i64 x.Value.N, .int .i64 x.Count, .int .i64 x.Tag.Vat, .int .i64 x.Tag.Entity, .int .i64 x.Tag.Seq] ∧ x.bF.length ≤ c5 ∧ C aR w A5 x.bF := by
 obtain ⟨_, _, rfl, rfl, ⟨_, _, rfl, rfl, ⟨_, _, rfl, rfl, ⟨_, _, rfl, rfl, ⟨_, _, rfl, rfl, ⟨_, _, rfl, ⟨A5, c5, rfl, hl5, hC5⟩, ⟨_, _, rfl, s_Value, ⟨_, _, rfl, rfl, s_Tag⟩⟩⟩⟩⟩⟩⟩⟩ := h
 obtain rfl := ki_Wire_K s_Value
 obtain rfl := ki_Tag_K s_Tag
 exact ⟨A5, c5, rfl, hl5, hC5⟩
theorem ki_Message_at {w : World} {A : Option Addr} {l : List GMessage} (h : C aF w A l) (i : Nat) (hi : i < l.length) : ∃ (ad : Addr) (A5 : Option Addr) (c5 : Nat), A = some ad ∧ w.cell? (ad.add (i * 12)) = some (.int .i64 l[i].Kind) ∧ w.cell? ⟨(ad.add (i * 12)).block, (ad.add (i * 12)).off + 1, none⟩ = some (.int .i64 l[i].Pos) ∧ w.cell? ⟨(ad.add (i * 12)).block, (ad.add (i * 12)).off + 2, none⟩ = some (.int .i64 l[i].bI) ∧ w.cell? ⟨(ad.add (i * 12)).block, (ad.add (i * 12)).off + 3, none⟩ = some (.int .i64 l[i].Question) ∧ w.cell? ⟨(ad.add (i * 12)).block, (ad.add (i * 12)).off + 4, none⟩ = some (.string l[i].Name) ∧ w.cell? ⟨(ad.add (i * 12)).block, (ad.add (i * 12)).off + 5, none⟩ = some (.slice A5 l[i].bF.length c5) ∧ w.cell? ⟨(ad.add (i * 12)).block, (ad.add (i * 12)).off + 6, none⟩ = some (.int .i64 l[i].Value.Kind) ∧ w.cell? ⟨(ad.add (i * 12)).block, (ad.add (i * 12)).off + 7, none⟩ = some (.int .i64 l[i].Value.N) ∧ w.cell? ⟨(ad.add (i * 12)).block, (ad.add (i * 12)).off + 8, none⟩ = some (.int .i64 l[i].Count) ∧ w.cell? ⟨(ad.add (i * 12)).block, (ad.add (i * 12)).off + 9, none⟩ = some (.int .i64 l[i].Tag.Vat) ∧ w.cell? ⟨(ad.add (i * 12)).block, (ad.add (i * 12)).off + 10, none⟩ = some (.int .i64 l[i].Tag.Entity) ∧ w.cell? ⟨(ad.add (i * 12)).block, (ad.add (i * 12)).off + 11, none⟩ = some (.int .i64 l[i].Tag.Seq) ∧ l[i].bF.length ≤ c5 ∧ C aR w A5 l[i].bF := by
 obtain ⟨ad, c, h1, h2, h3, h4⟩ := C_at h i hi
 obtain ⟨A5, c5, rfl, hl5, hC5⟩ := dV h2
 exact ⟨ad, A5, c5, h1, h3 _ rfl, h4 0 _ rfl, h4 1 _ rfl, h4 2 _ rfl, h4 3 _ rfl, h4 4 _ rfl, h4 5 _ rfl, h4 6 _ rfl, h4 7 _ rfl, h4 8 _ rfl, h4 9 _ rfl, h4 10 _ rfl, hl5, hC5⟩
theorem ki_Message_M {w : World} {F : Nat → Prop} {x : GMessage} {cs : List Value} (h : aF.M w F x cs) : ∃ (v5 : Value) (P5 : Nat → Prop), cs = [.int .i64 x.Kind, .int .i64 x.Pos, .int .i64 x.bI, .int .i64 x.Question, .string x.Name, v5, .int .i64 x.Value.Kind, .int .i64 x.Value.N, .int .i64 x.Count, .int .i64 x.Tag.Vat, .int .i64 x.Tag.Entity, .int .i64 x.Tag.Seq] ∧ R aR 27 w P5 v5 x.bF ∧ (∀ k, P5 k → F k) := by
 obtain ⟨_, _, F0, G0, rfl, rfl, ⟨_, _, F1, G1, rfl, rfl, ⟨_, _, F2, G2, rfl, rfl, ⟨_, _, F3, G3, rfl, rfl, ⟨_, _, F4, G4, rfl, rfl, ⟨_, _, F5, G5, rfl, ⟨v5, rfl, hR5⟩, ⟨_, _, F6, G6, rfl, s6, ⟨_, _, F7, G7, rfl, rfl, s8, a7, b7, d7⟩, a6, b6, d6⟩, a5, b5, d5⟩, a4, b4, d4⟩, a3, b3, d3⟩, a2, b2, d2⟩, a1, b1, d1⟩, a0, b0, d0⟩ := h
 obtain rfl := ki_Wire_M s6
 obtain rfl := ki_Tag_M s8
 exact ⟨v5, F5, rfl, hR5, fun k hk => (b0 k (b1 k (b2 k (b3 k (b4 k (a5 k hk))))))⟩
theorem fQ (w : World) (F : Nat → Prop) (x : GMessage) {v5 : Value} {P5 : Nat → Prop} (h5 : R aR 27 w P5 v5 x.bF) (i5 : ∀ k, P5 k → F k) : aF.M w F x [.int .i64 x.Kind, .int .i64 x.Pos, .int .i64 x.bI, .int .i64 x.Question, .string x.Name, v5, .int .i64 x.Value.Kind, .int .i64 x.Value.N, .int .i64 x.Count, .int .i64 x.Tag.Vat, .int .i64 x.Tag.Entity, .int .i64 x.Tag.Seq] :=
 ⟨[_], [_, _, _, _, _, _, _, _, _, _, _], No, P5, rfl, rfl, ⟨[_], [_, _, _, _, _, _, _, _, _, _], No, P5, rfl, rfl, ⟨[_], [_, _, _, _, _, _, _, _, _], No, P5, rfl, rfl, ⟨[_], [_, _, _, _, _, _, _, _], No, P5, rfl, rfl, ⟨[_], [_, _, _, _, _, _, _], No, P5, rfl, rfl, ⟨[_], [_, _, _, _, _, _], P5, No, rfl, ⟨_, rfl, h5⟩, ⟨[_, _], [_, _, _, _], No, No, rfl, (ki_Wire_mk w No _), ⟨[_], [_, _, _], No, No, rfl, rfl, (ki_Tag_mk w No _), fun _ h => h.elim, fun _ h => h.elim, fun _ h => h.elim⟩, fun _ h => h.elim, fun _ h => h.elim, fun _ h => h.elim⟩, fun _ h => h, fun _ h => h.elim, fun _ _ h => h.elim⟩, fun _ h => h.elim, fun _ h => h, fun _ h => h.elim⟩, fun _ h => h.elim, fun _ h => h, fun _ h => h.elim⟩, fun _ h => h.elim, fun _ h => h, fun _ h => h.elim⟩, fun _ h => h.elim, fun _ h => h, fun _ h => h.elim⟩, fun _ h => h.elim, i5, fun _ h => h.elim⟩
theorem dH : (Try.prog.info? 31).map (fun i => (i.zero, i.size, i.bytes)) = some (some (.agg #[.int .i64 0, .int .i64 0, .int .i64 0, .int .i64 0, .string ⟨#[]⟩, .slice none 0 0, .int .i64 0, .int .i64 0, .int .i64 0, .int .i64 0, .int .i64 0, .int .i64 0]), 12, 120) := by kernel_rfl
def aC : Kn GChannel := Kn.iso (Kn.pair Kn.int (Kn.pair Kn.int (Kn.slice 31 aF))) (fun x => (x.From, x.To, x.List))
theorem dK {w : World} {x : GChannel} {cs : List Value} (h : aC.K w x cs) : ∃ (A2 : Option Addr) (c2 : Nat), cs = [.int .i64 x.From, .int .i64 x.To, .slice A2 x.List.length c2] ∧ x.List.length ≤ c2 ∧ C aF w A2 x.List := by
 obtain ⟨_, _, rfl, rfl, ⟨_, _, rfl, rfl, ⟨A2, c2, rfl, hl2, hC2⟩⟩⟩ := h
 exact ⟨A2, c2, rfl, hl2, hC2⟩
theorem fF {w : World} {A : Option Addr} {l : List GChannel} (h : C aC w A l) (i : Nat) (hi : i < l.length) : ∃ (ad : Addr) (A2 : Option Addr) (c2 : Nat), A = some ad ∧ w.cell? (ad.add (i * 3)) = some (.int .i64 l[i].From) ∧ w.cell? ⟨(ad.add (i * 3)).block, (ad.add (i * 3)).off + 1, none⟩ = some (.int .i64 l[i].To) ∧ w.cell? ⟨(ad.add (i * 3)).block, (ad.add (i * 3)).off + 2, none⟩ = some (.slice A2 l[i].List.length c2) ∧ l[i].List.length ≤ c2 ∧ C aF w A2 l[i].List := by
 obtain ⟨ad, c, h1, h2, h3, h4⟩ := C_at h i hi
 obtain ⟨A2, c2, rfl, hl2, hC2⟩ := dK h2
 exact ⟨ad, A2, c2, h1, h3 _ rfl, h4 0 _ rfl, h4 1 _ rfl, hl2, hC2⟩
theorem ki_Channel_M {w : World} {F : Nat → Prop} {x : GChannel} {cs : List Value} (h : aC.M w F x cs) : ∃ (v2 : Value) (P2 : Nat → Prop), cs = [.int .i64 x.From, .int .i64 x.To, v2] ∧ R aF 31 w P2 v2 x.List ∧ (∀ k, P2 k → F k) := by
 obtain ⟨_, _, F0, G0, rfl, rfl, ⟨_, _, F1, G1, rfl, rfl, ⟨v2, rfl, hR2⟩, a1, b1, d1⟩, a0, b0, d0⟩ := h
 exact ⟨v2, G1, rfl, hR2, fun k hk => (b0 k (b1 k hk))⟩
theorem fT (w : World) (F : Nat → Prop) (x : GChannel) {v2 : Value} {P2 : Nat → Prop} (h2 : R aF 31 w P2 v2 x.List) (i2 : ∀ k, P2 k → F k) : aC.M w F x [.int .i64 x.From, .int .i64 x.To, v2] :=
 ⟨[_], [_, _], No, P2, rfl, rfl, ⟨[_], [_], No, P2, rfl, rfl, ⟨_, rfl, h2⟩, fun _ h => h.elim, fun _ h => h, fun _ h => h.elim⟩, fun _ h => h.elim, i2, fun _ h => h.elim⟩
theorem eG : (Try.prog.info? 94).map (fun i => (i.zero, i.size, i.bytes)) = some (some (.agg #[.int .i64 0, .int .i64 0, .slice none 0 0]), 3, 40) := by kernel_rfl
end Go.Proofs.YtdfipdpeilegpaaK
namespace Go.Proofs.YtdfipdpeilegpaaT
open Go.RowKit Go.Proofs.YtdfipdpeilegpaaSep Go.Proofs.YtdfipdpeilegpaaK
theorem ki_Wire_len {W : World} {x : GWire} {cs : List Value} (h : aR.K W x cs) : cs.length = 2 := aR.K_len h
theorem ki_Wire_one {W : World} {x : GWire} {cs : List Value} (h : aR.K W x cs) : ∀ u ∈ (List.toArray cs).toList, u.oneCell' = true := aR.K_one h
theorem aX {W : World} {x : GMessage} {cs : List Value} (h : aF.K W x cs) : cs.length = 12 := aF.K_len h
theorem bS {W : World} {x : GMessage} {cs : List Value} (h : aF.K W x cs) : ∀ u ∈ (List.toArray cs).toList, u.oneCell' = true := aF.K_one h
theorem bN {W : World} {F : Nat → Prop} {x : GMessage} {v5 : Value} (h : Star [hR aR 27 v5 x.bF] W F) : aF.M W F x [.int .i64 x.Kind, .int .i64 x.Pos, .int .i64 x.bI, .int .i64 x.Question, .string x.Name, v5, .int .i64 x.Value.Kind, .int .i64 x.Value.N, .int .i64 x.Count, .int .i64 x.Tag.Vat, .int .i64 x.Tag.Entity, .int .i64 x.Tag.Seq] := by
 obtain ⟨Fs, h1, h2, h3⟩ := h
 exact fQ W F x (h3 0 _ rfl) (h1 0)
theorem ki_Message_open {W : World} {F : Nat → Prop} {x : GMessage} {cs : List Value} (h : aF.M W F x cs) : ∃ (A5 : Option Addr) (c5 : Nat), cs = [.int .i64 x.Kind, .int .i64 x.Pos, .int .i64 x.bI, .int .i64 x.Question, .string x.Name, .slice A5 x.bF.length c5, .int .i64 x.Value.Kind, .int .i64 x.Value.N, .int .i64 x.Count, .int .i64 x.Tag.Vat, .int .i64 x.Tag.Entity, .int .i64 x.Tag.Seq] ∧ Star [hR aR 27 (.slice A5 x.bF.length c5) x.bF] W F := by
 obtain ⟨v5, P5, rfl, r5, i5⟩ := ki_Message_M h
 obtain ⟨A5, c5, rfl⟩ := bK r5
 exact ⟨A5, c5, rfl, (Star.cons P5 (fun b => False) r5 Star.nil i5 (fun b h => h.elim) (fun b p h => h.elim))⟩
theorem dQ {W : World} {x : GChannel} {cs : List Value} (h : aC.K W x cs) : cs.length = 3 := aC.K_len h
theorem dR {W : World} {x : GChannel} {cs : List Value} (h : aC.K W x cs) : ∀ u ∈ (List.toArray cs).toList, u.oneCell' = true := aC.K_one h
theorem bD {W : World} {F : Nat → Prop} {x : GChannel} {v2 : Value} (h : Star [hR aF 31 v2 x.List] W F) : aC.M W F x [.int .i64 x.From, .int .i64 x.To, v2] := by
 obtain ⟨Fs, h1, h2, h3⟩ := h
 exact fT W F x (h3 0 _ rfl) (h1 0)
theorem bX {W : World} {F : Nat → Prop} {x : GChannel} {cs : List Value} (h : aC.M W F x cs) : ∃ (A2 : Option Addr) (c2 : Nat), cs = [.int .i64 x.From, .int .i64 x.To, .slice A2 x.List.length c2] ∧ Star [hR aF 31 (.slice A2 x.List.length c2) x.List] W F := by
 obtain ⟨v2, P2, rfl, r2, i2⟩ := ki_Channel_M h
 obtain ⟨A2, c2, rfl⟩ := bK r2
 exact ⟨A2, c2, rfl, (Star.cons P2 (fun b => False) r2 Star.nil i2 (fun b h => h.elim) (fun b p h => h.elim))⟩
end Go.Proofs.YtdfipdpeilegpaaT
namespace Go.Proofs.YtdfipdpeilegpaaSep
open Go.ChangeShapes Go.WideShapes Go.RowKit
section
variable {α : Type}
def EP (d : Kn α) (e g cap i : Nat) (ce : List Value) (xs : List α) (W : World) (F : Nat → Prop) : Prop :=
 ∃ (cur : Array Value) (Fs : Nat → Nat → Prop), F g ∧ Blk W g e cur ∧ (xs.length ≤ cap ∧ cap ≤ 9223372036854775807 ∧ cur.size = cap * d.sz) ∧ (∀ j b, Fs j b → F b ∧ b ≠ g) ∧ (∀ j k b, Fs j b → Fs k b → j = k) ∧ (∀ j x, j ≠ i → xs[j]? = some x → d.M W (Fs j) x (piece d.sz cur.toList j)) ∧ piece d.sz cur.toList i = ce ∧ i < xs.length
def hE (d : Kn α) (e g cap i : Nat) (ce : List Value) (xs : List α) : HP where
 p := EP d e g cap i ce xs
 same := by
  rintro W W' F h ⟨cur, Fs, h1, h2, h3, h4, h5, h6, h7, h8⟩
  exact ⟨cur, Fs, h1, (h g h1).trans h2, h3, h4, h5, fun j x hj hx => d.dL (fun b hb => h b (h4 j b hb).1) (h6 j x hj hx), h7, h8⟩
 lt := by
  rintro W F ⟨cur, Fs, h1, h2, h3, h4, h5, h6, h7, h8⟩
  exact ⟨cur, fun j b => Fs j b ∧ b < W.heap.size, ⟨h1, Blk.lt h2⟩, h2, h3, fun j b hb => ⟨⟨(h4 j b hb.1).1, hb.2⟩, (h4 j b hb.1).2⟩, fun j k b hj hk => h5 j k b hj.1 hk.1, fun j x hj hx => d.M_lt (h6 j x hj hx), h7, h8⟩
 mono := by
  rintro W F F' h ⟨cur, Fs, h1, h2, h3, h4, h5, h6, h7, h8⟩
  exact ⟨cur, Fs, h g h1, h2, h3, fun j b hb => ⟨h b (h4 j b hb).1, (h4 j b hb).2⟩, h5, h6, h7, h8⟩
variable {d : Kn α} {e g cap i : Nat} {ce : List Value} {xs : List α} {l : List HP} {W w : World} {F F0 : Nat → Prop} {v : Value}
theorem R_openE (h : R d e W F v xs) (hi : i < xs.length) : ∃ g cap ce, v = .slice (some ⟨g, 0, none⟩) xs.length cap ∧ Star [hE d e g cap i ce xs, hM d xs[i] ce] W F := by
 rcases h with ⟨_, rfl⟩ | ⟨g, cap, cur, Fs, h1, h2, h3, h4, h5, h6, h7, h8, h9⟩
 ·simp at hi
 refine ⟨g, cap, _, h1, Star.cons (fun b => F b ∧ ¬ Fs i b) (Fs i) ⟨cur, fun j b => j ≠ i ∧ Fs j b, ⟨h3, fun q => (h7 i g q).2 rfl⟩, h2, ⟨h4, h5, h6⟩, fun j b hb => ⟨⟨(h7 j b hb.2).1, fun q => hb.1 (h8 j i b hb.2 q)⟩, (h7 j b hb.2).2⟩, fun j k b hj hk => h8 j k b hj.2 hk.2, fun j x hj hx => d.dN (fun _ q => ⟨hj, q⟩) (h9 j x hx), rfl, hi⟩ (Star.one (h9 i xs[i] (List.getElem?_eq_getElem hi))) (fun _ q => q.1) (fun b q => (h7 i b q).1) (fun b q q' => q.2 q')⟩
theorem R_closeE {y : α} (h : Star [hE d e g cap i ce xs, hM d y ce] W F) : R d e W F (.slice (some ⟨g, 0, none⟩) xs.length cap) (xs.set i y) := by
 obtain ⟨F1, F2, ⟨cur, Fs, h1, h2, ⟨h3, h3b, h3c⟩, h4, h5, h6, h7, h8⟩, a2, a3, a4, a5⟩ := h.uncons
 obtain ⟨Fp, F4, d1, _, d3, _, _⟩ := a2.uncons
 refine .inr ⟨g, cap, cur, fun j b => if j = i then Fp b else Fs j b, by rw [List.length_set], h2, a3 g h1, by rw [List.length_set]; exact h3, h3b, h3c, fun j b hb => ?_, fun j k b hj hk => ?_, fun j x hx => ?_⟩
 ·by_cases c : j = i
  ·simp only [c, if_true] at hb
   exact ⟨a4 b (d3 b hb), fun q => a5 g h1 (q ▸ d3 b hb)⟩
  ·simp only [c, if_false] at hb
   exact ⟨a3 b (h4 j b hb).1, (h4 j b hb).2⟩
 ·by_cases c : j = i <;> by_cases c' : k = i
  ·omega
  ·simp only [c, c', if_true, if_false] at hj hk
   exact absurd (d3 b hj) (a5 b (h4 k b hk).1)
  ·simp only [c, c', if_true, if_false] at hj hk
   exact absurd (d3 b hk) (a5 b (h4 j b hj).1)
  ·simp only [c, c', if_false] at hj hk
   exact h5 j k b hj hk
 ·rw [List.getElem?_set] at hx
  by_cases c : i = j
  ·subst c
   rw [if_pos rfl, if_pos h8] at hx
   obtain rfl := Option.some.inj hx
   simp only [if_true]
   rw [h7]
   exact d1
  ·rw [if_neg c] at hx
   simp only [show ¬ j = i from fun q => c q.symm, if_false]
   exact h6 j x (fun q => c q.symm) hx
theorem St.unM {q : HP} (H : St w F0 (q :: l) W) : ∃ F1 : Nat → Prop, q.p W F1 ∧ ∀ l', Star l' W F1 → St w F0 (l' ++ l) W := by
 obtain ⟨F1, F2, a1, a2, a3, a4, a5⟩ := H.2.uncons
 exact ⟨F1, a1, fun l' h => ⟨H.1, Star.append F1 F2 h a2 a3 a4 a5⟩⟩
theorem St.openE (H : St w F0 (hR d e v xs :: l) W) (hi : i < xs.length) : ∃ g cap ce, v = .slice (some ⟨g, 0, none⟩) xs.length cap ∧ St w F0 (hE d e g cap i ce xs :: hM d xs[i] ce :: l) W := by
 obtain ⟨F1, h1, h2⟩ := H.unM
 obtain ⟨g, cap, ce, e', hs⟩ := R_openE h1 hi
 exact ⟨g, cap, ce, e', h2 _ hs⟩
theorem St.closeE {y : α} (H : St w F0 (hE d e g cap i ce xs :: hM d y ce :: l) W) : St w F0 (hR d e (.slice (some ⟨g, 0, none⟩) xs.length cap) (xs.set i y) :: l) W :=
 St.swap (l0 := [hE d e g cap i ce xs, hM d y ce]) (l' := [hR d e (.slice (some ⟨g, 0, none⟩) xs.length cap) (xs.set i y)]) H (fun _ h => Star.one (R_closeE h))
theorem EP.cat (h : EP d e g cap i ce xs W F) : Cat W (Addr.add ⟨g, 0, none⟩ (i * d.sz)) ce := by
 obtain ⟨cur, Fs, h1, h2, h3, h4, h5, h6, h7, h8⟩ := h
 intro j u hu
 rw [← h7] at hu
 rw [add_add', add_plain, h2.cell]
 simp only [piece, List.getElem?_take, List.getElem?_drop] at hu
 split at hu
 ·simpa using hu
 ·cases hu
theorem St.catE (H : St w F0 l W) (q : Nat) (hq : l[q]? = some (hE d e g cap i ce xs)) : Cat W (Addr.add ⟨g, 0, none⟩ (i * d.sz)) ce := by
 obtain ⟨F, hF⟩ := H.get q hq
 exact EP.cat hF
theorem EP.set (h : EP d e g cap i ce xs W F) (k : Nat) (vs : List Value) (hk : k + vs.length ≤ ce.length) (h1 : ∀ u ∈ vs, u.oneCell' = true) (P : Program) :
 ∃ W', (storeCells ⟨g, i * d.sz + k, none⟩ vs 0).run P W = .ok () W' ∧ Upd (fun b => b = g) W W' ∧ EP d e g cap i (ce.take k ++ vs ++ ce.drop (k + vs.length)) xs W' F := by
 obtain ⟨cur, Fs, a1, a2, ⟨a3, a3b, a3c⟩, a4, a5, a6, a7, a8⟩ := h
 have hcl : ce.length ≤ d.sz := by rw [← a7]; simp [piece]; omega
 have hsz : i * d.sz + d.sz ≤ cur.size := by rw [a3c, ← Nat.succ_mul]; exact Nat.mul_le_mul_right _ kO
 have hst := run_storeCells_at P g (i * d.sz + k) e vs 0 cur W a2 kO h1
 simp only [Nat.add_zero] at hst
 refine ⟨_, hst, ?_, ?_⟩
 ·refine ⟨rfl, rfl, rfl, by simp [World.setRow], fun b hb' hF => ?_⟩
  simp only [World.setRow, Array.getElem?_modify]
  rw [if_neg (fun e => hF e.symm)]
 ·have hget : ∀ p, (cur.toList.take (i * d.sz + k) ++ vs ++ cur.toList.drop (i * d.sz + k + vs.length))[p]? = if p < i * d.sz + k then cur.toList[p]? else if p < i * d.sz + k + vs.length then vs[p - (i * d.sz + k)]? else cur.toList[p]? := by
   intro p
   have hlen : (cur.toList.take (i * d.sz + k)).length = i * d.sz + k := by simp; omega
   by_cases c1 : p < i * d.sz + k
   ·rw [List.append_assoc, List.getElem?_append_left kO, List.getElem?_take, if_pos c1, if_pos c1]
   ·rw [if_neg c1]
    by_cases c2 : p < i * d.sz + k + vs.length
    ·rw [if_pos c2, List.append_assoc, List.getElem?_append_right kO, hlen, List.getElem?_append_left kO]
    ·rw [if_neg c2, List.getElem?_append_right (by simp; omega), List.getElem?_drop]
     congr 1
     simp
     omega
  have hp : ∀ j q, (piece d.sz (cur.toList.take (i * d.sz + k) ++ vs ++ cur.toList.drop (i * d.sz + k + vs.length)) j)[q]? = if q < d.sz then (if j * d.sz + q < i * d.sz + k then cur.toList[j * d.sz + q]? else if j * d.sz + q < i * d.sz + k + vs.length then vs[j * d.sz + q - (i * d.sz + k)]? else cur.toList[j * d.sz + q]?) else none := by
   intro j q
   unfold piece
   rw [List.getElem?_take]
   by_cases hq : q < d.sz
   ·rw [if_pos hq, if_pos hq, List.getElem?_drop, hget]
   ·rw [if_neg hq, if_neg hq]
  refine ⟨_, Fs, a1, setRow_heap W g cur _ e (0, 0) a2, ⟨a3, a3b, ?_⟩, a4, a5, fun j x hj hx => ?_, ?_, a8⟩
  ·rw [← a3c]
   simp
   omega
  ·have hpc : piece d.sz (cur.toList.take (i * d.sz + k) ++ vs ++ cur.toList.drop (i * d.sz + k + vs.length)) j = piece d.sz cur.toList j := by
    apply List.ext_getElem?
    intro q
    rw [hp j q]
    unfold piece
    rw [List.getElem?_take]
    by_cases hq : q < d.sz
    ·rw [if_pos hq, if_pos hq, List.getElem?_drop]
     rcases Nat.lt_or_gt_of_ne hj with c | c
     ·have : j * d.sz + d.sz ≤ i * d.sz := by rw [← Nat.succ_mul]; exact Nat.mul_le_mul_right _ c
      rw [if_pos kO]
     ·have : i * d.sz + d.sz ≤ j * d.sz := by rw [← Nat.succ_mul]; exact Nat.mul_le_mul_right _ c
      rw [if_neg kO, if_neg kO]
    ·rw [if_neg hq, if_neg hq]
   have e' : (cur.toList.take (i * d.sz + k) ++ vs ++ cur.toList.drop (i * d.sz + k + vs.length)).toArray.toList = cur.toList.take (i * d.sz + k) ++ vs ++ cur.toList.drop (i * d.sz + k + vs.length) := rfl
   rw [e', hpc]
   refine d.dL (fun b hb => setRow_other W g b _ (a4 j b hb).2) (a6 j x hj hx)
  ·have e' : (cur.toList.take (i * d.sz + k) ++ vs ++ cur.toList.drop (i * d.sz + k + vs.length)).toArray.toList = cur.toList.take (i * d.sz + k) ++ vs ++ cur.toList.drop (i * d.sz + k + vs.length) := rfl
   rw [e']
   apply List.ext_getElem?
   intro q
   rw [hp i q]
   have hce : ∀ q, ce[q]? = if q < d.sz then cur.toList[i * d.sz + q]? else none := by
    intro q
    rw [← a7]
    unfold piece
    rw [List.getElem?_take]
    by_cases hq : q < d.sz
    ·rw [if_pos hq, if_pos hq, List.getElem?_drop]
    ·rw [if_neg hq, if_neg hq]
   have hlen : (ce.take k).length = k := by simp; omega
   by_cases c1 : q < k
   ·rw [List.append_assoc, List.getElem?_append_left kO, List.getElem?_take, if_pos c1, hce, if_pos kO, if_pos kO]
    rw [if_pos kO]
   ·by_cases c2 : q < k + vs.length
    ·rw [List.append_assoc, List.getElem?_append_right kO, hlen, List.getElem?_append_left kO, if_pos kO, if_neg kO, if_pos kO]
     congr 1
     omega
    ·rw [List.getElem?_append_right (by simp; omega), List.getElem?_drop, hce]
     have e2 : k + vs.length + (q - (ce.take k ++ vs).length) = q := by simp; omega
     rw [e2]
     by_cases c3 : q < d.sz
     ·rw [if_pos c3, if_pos c3, if_neg kO, if_neg kO]
     ·rw [if_neg c3, if_neg c3]
end
section
variable {α : Type} {P : Program} {ops : Array Oper} {Q : Exit → Act → World → Prop} {K : Act → World → Prop} {n i d ty : Nat} {x : Nat → Value} {live : List (Nat × Value)} {W w : World} {F0 : Nat → Prop} {l : List HP} {pos : String} {aft : Array Edge} {v : Value} {y z : Operand}
theorem fG {o : Oper} {a : Act} {b c : Bool} (e : b = c) (h : Rn P o a W (.bool b)) : Rn P o a W (.bool c) := e ▸ h
theorem retb {f : FuncId} {vs : Array Value} {b c : Bool} {W0 : World} (h : Calls P f vs W (dU b W0)) (e : b = c) : Calls P f vs W (dU c W0) := e ▸ h
theorem fB {dk : Kn α} {t e g cap q k m : Nat} {ce ce' : List Value} {xs : List α} {a : Addr} (ho : ops[i]? = some ⟨none, .store t y z, ty, pos, aft, none⟩) (hS : ∀ w, (sizeOf t).run P w = .ok m w) (hx : evl n live y = some (.pointer (some a))) (ha : a = Addr.add (Addr.add ⟨g, 0, none⟩ (q * dk.sz)) k) (hz : evl n live z = some v) (hm : v.cells.size = m) (hk : k + m ≤ ce.length) (h1 : ∀ u ∈ v.cells.toList, u.oneCell' = true) (hce : ce.take k ++ v.cells.toList ++ ce.drop (k + m) = ce') (H : St w F0 (hE dk e g cap q ce xs :: l) W) (h : ∀ W', Upd (fun b => b = g) W W' → St w F0 (hE dk e g cap q ce' xs :: l) W' → K (aO n x live) W') : wpOp P ops Q i K (aO n x live) W := by
 subst hm
 refine op_ok ho rfl ?_
 obtain ⟨F1, a1, a2, a3⟩ := H.turn
 obtain ⟨W', hst, hu, hE'⟩ := EP.set a1 k v.cells.toList (by simpa using hk) h1 P
 rw [add_add', add_plain] at ha
 subst ha
 have hrun : (execOp (aO n x live).eval ⟨none, .store t y z, ty, pos, aft, none⟩).run P W = .ok .skip W' := by
  simp only [execOp, aZ hx, aZ hz, Instr.storeAt, Instr.sureAddr, storeVar, Sem.run_bind, Sem.run_pure, Result.andThen_ok, hS, ne_eq, not_true, if_false]
  rw [hst]
  rfl
 unfold Oper.wp
 rw [hrun]
 simp only [Oper.upon]
 refine h W' hu ?_
 rw [← hce]
 have hl : v.cells.toList.length = v.cells.size := by simp
 rw [← hl]
 have hg : F1 g := by
  obtain ⟨cur, Fs, b1, _⟩ := a1
  exact b1
 exact a3 (hE dk e g cap q (ce.take k ++ v.cells.toList ++ ce.drop (k + v.cells.toList.length)) xs) W' (hu.mono (fun b _ e' => e' ▸ hg)) ((hE dk e g cap q _ xs).mono (fun _ q => .inl q) hE')
end
section
variable {α : Type} {P : Program} {ops : Array Oper} {Q : Exit → Act → World → Prop} {K : Act → World → Prop} {n i d ty : Nat} {x : Nat → Value} {live : List (Nat × Value)} {W w : World} {F0 : Nat → Prop} {l : List HP} {pos : String} {aft : Array Edge} {v : Value} {y z : Operand} {dk : Kn α} {e : Nat} {xs ys : List α}
theorem rn_int {o : Oper} {a : Act} {p q : Int} (e : p = q) (h : Rn P o a W (.int .i64 p)) : Rn P o a W (.int .i64 q) := e ▸ h
theorem St.openS {A : Option Addr} {m c q : Nat} (H : St w F0 (hR dk e (.slice A m c) xs :: l) W) (hi : q < xs.length) : ∃ g, A = some ⟨g, 0, none⟩ := by
 obtain ⟨g, cap, ce, he, _⟩ := H.openE hi
 cases he
 exact ⟨g, rfl⟩
theorem St.openG {g m c q : Nat} (H : St w F0 (hR dk e (.slice (some ⟨g, 0, none⟩) m c) xs :: l) W) (hi : q < xs.length) : ∃ ce, m = xs.length ∧ St w F0 (hE dk e g c q ce xs :: hM dk xs[q] ce :: l) W := by
 obtain ⟨g', cap, ce, he, H'⟩ := H.openE hi
 cases he
 exact ⟨ce, rfl, H'⟩
theorem St.fC {g m c q : Nat} {ce : List Value} {u : α} (H : St w F0 (hE dk e g c q ce xs :: hM dk u ce :: l) W) (hy : xs.set q u = ys) (hm : m = ys.length) : St w F0 (hR dk e (.slice (some ⟨g, 0, none⟩) m c) ys :: l) W := by
 subst hm
 have h := H.closeE
 rw [← hy, List.length_set]
 exact h
end
def aY (g t : Nat) (A : Option Addr) (n cb : Nat) : HP where
 p := fun W F => F g ∧ ∃ (i : Nat) (h : Int), i ≤ n ∧ Blk W g t #[.slice A n cb, .int .i64 (i : Int), .int .i64 h]
 same := by
  rintro W W' F k ⟨h1, i, h, h2, h3⟩
  exact ⟨h1, i, h, h2, (k g h1).trans h3⟩
 lt := by
  rintro W F ⟨h1, i, h, h2, h3⟩
  exact ⟨⟨h1, Blk.lt h3⟩, i, h, h2, h3⟩
 mono := by
  rintro W F F' k ⟨h1, q⟩
  exact ⟨k g h1, q⟩
section
variable {W w : World} {F0 : Nat → Prop} {l : List HP} {g t n cb : Nat} {A : Option Addr}
theorem St.openCur (H : St w F0 (aY g t A n cb :: l) W) : ∃ (i : Nat) (h : Int), i ≤ n ∧ St w F0 (hB g t #[.slice A n cb, .int .i64 (i : Int), .int .i64 h] :: l) W := by
 obtain ⟨F1, hq, k⟩ := St.unM (q := aY g t A n cb) H
 obtain ⟨h1, i, h, h2, h3⟩ := hq
 exact ⟨i, h, h2, k [hB g t #[.slice A n cb, .int .i64 (i : Int), .int .i64 h]] (Star.one (q := hB g t #[.slice A n cb, .int .i64 (i : Int), .int .i64 h]) ⟨h1, h3⟩)⟩
theorem St.closeCur {i : Nat} {h : Int} (H : St w F0 (hB g t #[.slice A n cb, .int .i64 (i : Int), .int .i64 h] :: l) W) (hi : i ≤ n) : St w F0 (aY g t A n cb :: l) W :=
 St.swap (l0 := [hB g t #[.slice A n cb, .int .i64 (i : Int), .int .i64 h]]) (l' := [aY g t A n cb]) H (fun F q => by
  obtain ⟨F1, F2, ⟨a1, a2⟩, _, i1, _, _⟩ := q.uncons
  exact Star.one (q := aY g t A n cb) ⟨i1 g a1, i, h, hi, a2⟩)
def Kn.u8 : Kn Int := Kn.scalar (Value.int .u8) (fun _ => rfl)
def CV (A : Option Addr) (bs : List Int) (F0 : Nat → Prop) (w : World) : Prop := ∀ W', Upd F0 w W' → C Kn.u8 W' A bs
theorem CV.step {bs : List Int} {F1 : Nat → Prop} (h : CV A bs F0 w) (hu : Upd F0 w W) (hF : ∀ b, F1 b → (F0 b ∨ w.heap.size ≤ b) ∧ b < W.heap.size) : CV A bs F1 W := fun W' hu' =>
 h W' (Upd.trans hu hu' (fun _ _ q => q) (fun b hb q => (hF b q).1.resolve_right kO))
theorem CV.of {bs : List Int} (h : C Kn.u8 w A bs) : CV A bs No w := fun _ hu => bQ hu h
end
def andV (p q : Int) : Int := IntKind.i64.wrap ((BitVec.ofInt 64 p &&& BitVec.ofInt 64 q).toNat : Nat)
def xorV (p q : Int) : Int := IntKind.i64.wrap ((BitVec.ofInt 64 p ^^^ BitVec.ofInt 64 q).toNat : Nat)
def shrV (p q : Int) : Int := p.fdiv (2 ^ (min q.toNat 64))
theorem and255 (p : Int) : 0 ≤ andV p 255 ∧ andV p 255 ≤ 255 := by
 have h : (BitVec.ofInt 64 p &&& BitVec.ofInt 64 255).toNat ≤ 255 := by
  rw [BitVec.toNat_and]
  exact Nat.le_trans Nat.and_le_right kD
 unfold andV
 generalize (BitVec.ofInt 64 p &&& BitVec.ofInt 64 255).toNat = z at h
 have e : IntKind.i64.wrap (z : Int) = z := by
  simp [IntKind.wrap, IntKind.signed, IntKind.bits]
  omega
 rw [e]
 omega
section
variable {P : Program} {n ty : Nat} {x : Nat → Value} {live : List (Nat × Value)} {W : World} {pos : String} {aft : Array Edge} {y z : Operand} {dst : Option Nat} {xt yt : Nat} {p q : Int}
theorem rn_mulW (hx : evl n live y = some (.int .i64 p)) (hz : evl n live z = some (.int .i64 q)) : Rn P ⟨dst, .binOp .mul xt y z yt, ty, pos, aft, none⟩ (aO n x live) W (.int .i64 (IntKind.i64.wrap (p * q))) := rn_arith hx hz (by simp [binOp, Op.intArith])
theorem rn_andV (hx : evl n live y = some (.int .i64 p)) (hz : evl n live z = some (.int .i64 q)) : Rn P ⟨dst, .binOp .and xt y z yt, ty, pos, aft, none⟩ (aO n x live) W (.int .i64 (andV p q)) := rn_arith hx hz (by simp only [binOp, Op.intBits, andV]; rfl)
theorem rn_xorV (hx : evl n live y = some (.int .i64 p)) (hz : evl n live z = some (.int .i64 q)) : Rn P ⟨dst, .binOp .xor xt y z yt, ty, pos, aft, none⟩ (aO n x live) W (.int .i64 (xorV p q)) := rn_arith hx hz (by simp only [binOp, Op.intBits, xorV]; rfl)
theorem rn_shrV {k2 : IntKind} (hx : evl n live y = some (.int .i64 p)) (hz : evl n live z = some (.int k2 q)) (hq : 0 ≤ q) : Rn P ⟨dst, .binOp .shr xt y z yt, ty, pos, aft, none⟩ (aO n x live) W (.int .i64 (shrV p q)) := by
 unfold Rn
 simp [execOp, aZ hx, aZ hz, eqGuard_at_int, binOp, Op.shift, shrV, IntKind.bits, show ¬ q < 0 by omega]
theorem rn_rem (hx : evl n live y = some (.int .i64 p)) (hz : evl n live z = some (.int .i64 q)) (hq : ¬ q = 0) : Rn P ⟨dst, .binOp .rem xt y z yt, ty, pos, aft, none⟩ (aO n x live) W (.int .i64 (p.tmod q)) := rn_arith hx hz (by simp [binOp, Op.intDiv, hq])
theorem rn_conv8 {s d : Nat} {b : Int} (hs : (P.underlying s).isSome = true) (hd : P.underlying d = some (.int .i64)) (hx : evl n live y = some (.int .u8 b)) : Rn P ⟨dst, .convert s d y, ty, pos, aft, none⟩ (aO n x live) W (.int .i64 (IntKind.i64.wrap b)) := by
 unfold Rn
 have hk : P.intKind d = .i64 := by simp [Program.intKind, hd]
 have hr := run_convert_int (P := P) W s d .u8 b hs (by rw [hk]; exact hd)
 rw [hk] at hr
 simp [execOp, aZ hx, hr, Result.andThen]
theorem op_sliceN {ops : Array Oper} {Q : Exit → Act → World → Prop} {K : Act → World → Prop} {i d m t e len : Nat} {w : World} {F0 : Nat → Prop} {l : List HP} {ps : Array (Nat × Operand)} {vs : List (Nat × Value)} {cells : Array Value} {z0 : Value} (ho : ops[i]? = some ⟨dst, .buildSlice t len ps, ty, pos, aft, none⟩) (hu : ∀ w, (underlying t).run P w = .ok (.slice e) w) (hS : ∀ w, (sizeOf e).run P w = .ok m w) (hz : ∀ w, (zeroValue e).run P w = .ok z0 w)
 (hv : ps.toList.map (fun p => (p.1, evl n live p.2)) = vs.map (fun p => (p.1, some p.2))) (h1 : len * m ≤ 2 ^ 24) (h2 : ¬ len * m = 0) (hf : Instr.fill (fun i => some (i * m, m)) ((Array.range (len * m)).map (fun k => z0.cells[k % z0.cells.size]!)) vs = some cells) (hd : dst = some d) (hdn : decide (d < n) = true) (H : St w F0 l W) (h : ∀ g W', Upd No W W' → St w F0 (hB g e cells :: l) W' → K (aO n x ((d, .slice (some ⟨g, 0, none⟩) len len) :: live)) W') : wpOp P ops Q i K (aO n x live) W := by
 subst hd
 refine op_ok ho rfl ?_
 have hps : (ps.map (fun p => (p.1, (aO n x live).eval p.2))).toList = vs := by
  rw [Array.toList_map]
  generalize ps.toList = pl at hv
  clear hf
  induction pl generalizing vs with
  | nil =>
   cases vs with
   | nil => rfl
   | cons a b => simp at hv
  | cons a pl ih =>
   cases vs with
   | nil => simp at hv
   | cons b vs =>
    simp only [List.map_cons, List.cons.injEq, Prod.mk.injEq] at hv
    rw [List.map_cons, ih hv.2, aZ hv.1.2, hv.1.1]
 have h0 : ¬ (len * m > 2 ^ 24) := by omega
 have hrun : (execOp (aO n x live).eval ⟨some d, .buildSlice t len ps, ty, pos, aft, none⟩).run P W = .ok (.value (.slice (some ⟨W.heap.size, 0, none⟩) len len)) (W.alloc (.cells cells e)) := by
  simp only [execOp, Instr.buildSlice, Sem.run_bind, hu, hS, Result.andThen_ok, h0, if_false, h2, hz, Sem.run_pure, hps, hf]
  simp [newRow]
 unfold Oper.wp
 rw [hrun]
 simp only [Oper.upon]
 rw [dG (of_decide_eq_true hdn)]
 exact h _ _ ((Upd.refl _ _).alloc _) (H.alloc e cells)
theorem R_scal {α : Type} {enc : α → Value} {h1 : ∀ x, (enc x).oneCell' = true} {g e : Nat} {cs : Array Value} {xs : List α} {F : Nat → Prop} (h : (hB g e cs).p W F) (hc : cs.toList = xs.map enc) (hn : xs.length ≤ 1048576) : R (Kn.scalar enc h1) e W F (.slice (some ⟨g, 0, none⟩) xs.length xs.length) xs := by
 have hs : cs.size = xs.length := by rw [← Array.length_toList, hc, List.length_map]
 refine .inr ⟨g, xs.length, cs, fun _ _ => False, rfl, h.2, h.1, Nat.le_refl _, by omega, by rw [hs]; show xs.length = xs.length * 1; omega, fun _ _ q => q.elim, fun _ _ _ q => q.elim, fun i x hx => ?_⟩
 show piece 1 cs.toList i = [enc x]
 unfold piece
 rw [hc, Nat.mul_one]
 have hx' := List.getElem?_eq_some_iff.1 hx
 obtain ⟨hi, rfl⟩ := hx'
 rw [List.drop_eq_getElem_cons (by rw [List.length_map]; exact hi)]
 simp
theorem St.boxSc {α : Type} {enc : α → Value} {h1 : ∀ x, (enc x).oneCell' = true} {w : World} {F0 : Nat → Prop} {l : List HP} {g e m : Nat} {cs : Array Value} {xs : List α} (H : St w F0 (hB g e cs :: l) W) (hc : cs.toList = xs.map enc) (hn : xs.length ≤ 1048576) (hm : m = xs.length) : St w F0 (hR (Kn.scalar enc h1) e (.slice (some ⟨g, 0, none⟩) m m) xs :: l) W := by
 subst hm
 exact St.swap (l0 := [hB g e cs]) (l' := [hR (Kn.scalar enc h1) e (.slice (some ⟨g, 0, none⟩) xs.length xs.length) xs]) H (fun F q => by
  obtain ⟨F1, F2, a1, _, i1, _, _⟩ := q.uncons
  exact Star.one (dZ i1 (R_scal a1 hc hn)))
theorem tmod_bd (p q : Int) (h0 : 0 ≤ p) (hq : 0 < q) : 0 ≤ p.tmod q ∧ p.tmod q < q := by
 rw [Int.tmod_eq_emod_of_nonneg h0]
 exact ⟨Int.emod_nonneg _ kO, Int.emod_lt_of_pos _ hq⟩
end
section
variable {P : Program} {ops : Array Oper} {Q : Exit → Act → World → Prop} {K : Act → World → Prop} {n i d ty : Nat} {x : Nat → Value} {live : List (Nat × Value)} {W w : World} {pos : String} {aft : Array Edge} {v : Value} {y z : Operand}
theorem rn_eqlA {dst : Option Nat} {t t2 : Nat} {xs ys : Array Value} {b : Bool} (hg : P.eqGuardType P.depth t = false) (hx : evl n live y = some (.agg xs)) (hz : evl n live z = some (.agg ys)) (h : (Op.equalIn 10000 t (.agg xs) (.agg ys)).run P W = .ok b W) : Rn P ⟨dst, .binOp .eql t y z t2, ty, pos, aft, none⟩ (aO n x live) W (.bool b) := by
 unfold Rn
 simp [execOp, aZ hx, aZ hz, run_eqGuard_agg (P := P) W .eql t _ _ xs ys hg, run_eql_struct, h, Result.andThen]
theorem rn_neqA {dst : Option Nat} {t t2 : Nat} {xs ys : Array Value} {b : Bool} (hg : P.eqGuardType P.depth t = false) (hx : evl n live y = some (.agg xs)) (hz : evl n live z = some (.agg ys)) (h : (Op.equalIn 10000 t (.agg xs) (.agg ys)).run P W = .ok b W) : Rn P ⟨dst, .binOp .neq t y z t2, ty, pos, aft, none⟩ (aO n x live) W (.bool (!b)) := by
 unfold Rn
 simp [execOp, aZ hx, aZ hz, run_eqGuard_agg (P := P) W .neq t _ _ xs ys hg, run_neq_struct, h, Result.andThen]
theorem op_callF {dst : Option Nat} {f : FuncId} {ys : Array Operand} {tys : Array Nat} {vs : Array Value} {R : Ending → World → Prop} (ho : ops[i]? = some ⟨dst, .call { callee := .value y, args := ys, argTypes := tys }, ty, pos, aft, none⟩) (hy : evl n live y = some (.func (.func f) #[] #[])) (hf : ∀ us w, (callFunc f us).run P w = .ok (.enter f us) w) (hv : ys.toList.map (evl n live) = vs.toList.map some) (hd : dst = some d) (hdn : decide (d < n) = true) (hc : Calls P f vs W R) (h : ∀ e W', R e W' → ∃ v, e = .returned v ∧ K (aO n x ((d, v) :: live)) W') : wpOp P ops Q i K (aO n x live) W := by
 subst hd
 refine op_ok ho rfl ?_
 have e : ys.map (aO n x live).eval = vs := evls_ok hv
 have hrun : (execOp (aO n x live).eval ⟨some d, .call { callee := .value y, args := ys, argTypes := tys }, ty, pos, aft, none⟩).run P W = .ok (.enter f vs) W := by
  simp [execOp, resolve, aZ hy, Deferred.ofValue, invoke, e, hf]
 unfold Oper.wp
 rw [hrun]
 simp only [Oper.upon]
 refine hc.mono fun e' W' hR => ?_
 obtain ⟨u, rfl, hk⟩ := h e' W' hR
 show K ((aO n x live).put (some d) u) W'
 rw [dG (of_decide_eq_true hdn)]
 exact hk
end
section
variable {P : Program} {ops : Array Oper} {Q : Exit → Act → World → Prop} {md : Region.Mode} {S : World → Prop} {t : Nat} {K : Act → World → Prop}
theorem wanted_U {n : Nat} {x : Nat → Value} {live : List (Nat × Value)} {o oj : Oper} {j dj : Nat} {want : Bool} (hg : o.guard = some (j, want)) (hj : ops[j]? = some oj) (hdj : oj.dst = some dj) (hv : evl n live (.tmp dj) = some undef) : Region.wanted o (yielded ops (aO n x live).tmps) = false := by
 have e2 := aZ (x := x) hv
 simp only [Act.eval, Array.getD_eq_getD_getElem?] at e2
 unfold Region.wanted yielded
 simp only [hg, hj, Option.bind_some, hdj]
 cases e : (aO n x live).tmps[dj]? with
 | none => rfl
 | some u =>
  rw [e] at e2
  simp only [Option.getD_some] at e2
  subst e2
  rfl
theorem op_skipU {i d n ty : Nat} {x : Nat → Value} {live : List (Nat × Value)} {W : World} {pos : String} {aft : Array Edge} {dst : Option Nat} {op : Op} {j dj : Nat} {want : Bool} {oj : Oper} (ho : ops[i]? = some ⟨dst, op, ty, pos, aft, some (j, want)⟩) (hj : ops[j]? = some oj) (hdj : oj.dst = some dj) (hv : evl n live (.tmp dj) = some undef) (hd : dst = some d) (hdn : decide (d < n) = true) (h : K (aO n x ((d, undef) :: live)) W) : wpOp P ops Q i K (aO n x live) W := by
 subst hd
 unfold wpOp
 simp only [ho]
 have hw : Region.wanted ⟨some d, op, ty, pos, aft, some (j, want)⟩ (yielded ops (aO n x live).tmps) = false := wanted_U rfl hj hdj hv
 rw [hw]
 simp only [Bool.false_eq_true, if_false]
 rw [dG (of_decide_eq_true hdn)]
 exact h
end
end Go.Proofs.YtdfipdpeilegpaaSep
namespace Go.Proofs.YtdfipdpeilegpaaFam
open Go.ChangeShapes Go.WideShapes Go.RowKit Go.Proofs.YtdfipdpeilegpaaSep Go.Proofs.YtdfipdpeilegpaaT Go.Proofs.YtdfipdpeilegpaaK
set_option linter.unusedVariables false
set_option linter.unusedSimpArgs false
attribute [local irreducible] wpOps wpOp
set_option maxHeartbeats 4000000
set_option maxRecDepth 100000
theorem wrap_small {p : Int} (h1 : -9223372036854775808 ≤ p) (h2 : p ≤ 9223372036854775807) : IntKind.i64.wrap p = p := by
 simp [IntKind.wrap, IntKind.signed, IntKind.bits]
 omega
theorem str_le {s : ByteArray} {l : List ByteArray} {k : Nat} (h : s ∈ l) (hl : l.all (fun z => decide (z.size ≤ k)) = true) : s.size ≤ k := of_decide_eq_true (List.all_eq_true.1 hl s h)
theorem fa_157_0 : dM Try.prog 157 0 0 := fun a W => by simp [Instr.fieldAt, Try.runUnderlying157, Instr.sureAddr, fieldPlace, Try.sizeOf22]
theorem fa_157_1 : dM Try.prog 157 1 1 := fun a W => by simp [Instr.fieldAt, Try.runUnderlying157, Instr.sureAddr, fieldPlace, Try.sizeOf3]
theorem fa_157_2 : dM Try.prog 157 2 2 := fun a W => by simp [Instr.fieldAt, Try.runUnderlying157, Instr.sureAddr, fieldPlace, Try.sizeOf3]
theorem byte_s  (bs : List Int) (gc cb : Nat) (A : Option Addr) (F0 : Nat → Prop) (w : World) (hV : CV A bs F0 w) (hn : bs.length ≤ 1048576) (h : Star [aY gc 157 A bs.length cb] w F0) : Calls Try.prog 102 #[.pointer (some ⟨gc, 0, none⟩)] w (fun e' w' => ∃ r : Int, e' = .returned (.int .i64 r) ∧ (0 ≤ r ∧ r ≤ 255) ∧ St w F0 [aY gc 157 A bs.length cb] w') := by
 refine enter 58 [(0, .pointer (some ⟨gc, 0, none⟩))] Try.func102 rfl kR ?_
 intro xj
 obtain ⟨ci, ch, hci, H0⟩ := St.openCur (St.eO h)
 have H1 : St w F0 [hB gc 157 #[.slice A bs.length cb, .int .i64 (((ci : Nat) : Int)), .int .i64 (ch)]] w := H0
 refine wp_seq ?_
 refine aK [0] rfl ?_
 refine aA ?_
 refine aB rfl (aG rfl) rfl rfl ?_
 refine aH ?_
 refine aI ?_
 refine wp_seq ?_
 refine aK [0, 1, 2, 3, 4, 5, 6, 7, 8, 9] rfl ?_
 refine aA ?_
 refine aB rfl (aD rfl) rfl rfl ?_
 refine aA ?_
 refine aB rfl (aD rfl) rfl rfl ?_
 refine aA ?_
 refine aB rfl (cZ rfl) rfl rfl ?_
 refine aA ?_
 refine aB rfl (aS fa_157_2 rfl) rfl rfl ?_
 refine aA ?_
 refine aB rfl (bC (k := 2) (v := .int .i64 (ch)) Try.isAgg3 rfl (H1.blk 0 rfl) rfl) rfl rfl ?_
 refine aA ?_
 refine aB rfl (rn_mulW rfl rfl) rfl rfl ?_
 refine aA ?_
 refine aB rfl (rn_addW rfl rfl) rfl rfl ?_
 refine aA ?_
 refine aB rfl (cZ rfl) rfl rfl ?_
 refine aA ?_
 refine aB rfl (aS fa_157_2 rfl) rfl rfl ?_
 refine aA ?_
 refine fM rfl Try.sizeOf3 rfl rfl rfl (Nat.le_of_ble_eq_true rfl) (by simp [Value.cells, Value.oneCell']) H1 ?_
 intro W2 hu3 Ha4; clear H1; clear hu3
 refine aH ?_
 refine aI ?_
 refine wp_seq ?_
 refine eF (fun W' => Blk W' gc 157 #[.slice A bs.length cb, .int .i64 (((ci : Nat) : Int)), .int .i64 (IntKind.i64.wrap ((IntKind.i64.wrap (ch * 6364136223846793005)) + 1442695040888963407))]) 13 kR ?_
 have H6 := Ha4.drew; clear Ha4
 have hS7 : Blk W2.drew gc 157 #[.slice A bs.length cb, .int .i64 (((ci : Nat) : Int)), .int .i64 (IntKind.i64.wrap ((IntKind.i64.wrap (ch * 6364136223846793005)) + 1442695040888963407))] := H6.blk 0 rfl
 refine aM (i := 0) rfl kR kR kR kR kR (fun _ _ _ h => h) rfl rfl hS7 (fun W' hs' => aD rfl) ?_
 refine aM (i := 1) rfl kR kR kR kR kR (fun _ _ _ h => h) rfl rfl hS7 (fun W' hs' => cZ rfl) ?_
 refine aM (i := 2) rfl kR kR kR kR kR (fun _ _ _ h => h) rfl rfl hS7 (fun W' hs' => aS fa_157_2 rfl) ?_
 refine aM (i := 3) rfl kR kR kR kR kR (fun _ _ _ h => h) rfl rfl hS7 (fun W' hs' => bC (k := 2) (v := .int .i64 (IntKind.i64.wrap ((IntKind.i64.wrap (ch * 6364136223846793005)) + 1442695040888963407))) Try.isAgg3 rfl hs' rfl) ?_
 refine aM (i := 4) rfl kR kR kR kR kR (fun _ _ _ h => h) rfl rfl hS7 (fun W' hs' => rn_shrV rfl rfl kD) ?_
 refine aM (i := 5) rfl kR kR kR kR kR (fun _ _ _ h => h) rfl rfl hS7 (fun W' hs' => aD rfl) ?_
 refine aM (i := 6) rfl kR kR kR kR kR (fun _ _ _ h => h) rfl rfl hS7 (fun W' hs' => cZ rfl) ?_
 refine aM (i := 7) rfl kR kR kR kR kR (fun _ _ _ h => h) rfl rfl hS7 (fun W' hs' => aS fa_157_2 rfl) ?_
 refine aM (i := 8) rfl kR kR kR kR kR (fun _ _ _ h => h) rfl rfl hS7 (fun W' hs' => bC (k := 2) (v := .int .i64 (IntKind.i64.wrap ((IntKind.i64.wrap (ch * 6364136223846793005)) + 1442695040888963407))) Try.isAgg3 rfl hs' rfl) ?_
 refine aM (i := 9) rfl kR kR kR kR kR (fun _ _ _ h => h) rfl rfl hS7 (fun W' hs' => rn_shrV rfl rfl kD) ?_
 refine aM (i := 10) rfl kR kR kR kR kR (fun _ _ _ h => h) rfl rfl hS7 (fun W' hs' => rn_xorV rfl rfl) ?_
 refine aM (i := 11) rfl kR kR kR kR kR (fun _ _ _ h => h) rfl rfl hS7 (fun W' hs' => rn_andV rfl rfl) ?_
 refine aM (i := 12) rfl kR kR kR kR kR (fun _ _ _ h => h) rfl rfl hS7 (fun W' hs' => aG rfl) ?_
 refine dY kR ?_ _
 refine aI ?_
 refine wp_seq ?_
 refine wp_seq ?_
 refine eF (fun W' => Blk W' gc 157 #[.slice A bs.length cb, .int .i64 (((ci : Nat) : Int)), .int .i64 (IntKind.i64.wrap ((IntKind.i64.wrap (ch * 6364136223846793005)) + 1442695040888963407))]) 10 kR ?_
 have H8 := H6.drew; clear H6
 have hS9 : Blk W2.drew.drew gc 157 #[.slice A bs.length cb, .int .i64 (((ci : Nat) : Int)), .int .i64 (IntKind.i64.wrap ((IntKind.i64.wrap (ch * 6364136223846793005)) + 1442695040888963407))] := H8.blk 0 rfl
 refine aM (i := 0) rfl kR kR kR kR kR (fun _ _ _ h => h) rfl rfl hS9 (fun W' hs' => aD rfl) ?_
 refine aM (i := 1) rfl kR kR kR kR kR (fun _ _ _ h => h) rfl rfl hS9 (fun W' hs' => cZ rfl) ?_
 refine aM (i := 2) rfl kR kR kR kR kR (fun _ _ _ h => h) rfl rfl hS9 (fun W' hs' => aS fa_157_1 rfl) ?_
 refine aM (i := 3) rfl kR kR kR kR kR (fun _ _ _ h => h) rfl rfl hS9 (fun W' hs' => bC (k := 1) (v := .int .i64 (((ci : Nat) : Int))) Try.isAgg3 rfl hs' rfl) ?_
 refine aM (i := 4) rfl kR kR kR kR kR (fun _ _ _ h => h) rfl rfl hS9 (fun W' hs' => aD rfl) ?_
 refine aM (i := 5) rfl kR kR kR kR kR (fun _ _ _ h => h) rfl rfl hS9 (fun W' hs' => cZ rfl) ?_
 refine aM (i := 6) rfl kR kR kR kR kR (fun _ _ _ h => h) rfl rfl hS9 (fun W' hs' => aS fa_157_0 rfl) ?_
 refine aM (i := 7) rfl kR kR kR kR kR (fun _ _ _ h => h) rfl rfl hS9 (fun W' hs' => bC (k := 0) (v := .slice A bs.length cb) Try.isAgg22 rfl hs' rfl) ?_
 refine aM (i := 8) rfl kR kR kR kR kR (fun _ _ _ h => h) rfl rfl hS9 (fun W' hs' => bT Try.runUnderlying22 rfl) ?_
 refine aM (i := 9) rfl kR kR kR kR kR (fun _ _ _ h => h) rfl rfl hS9 (fun W' hs' => dD rfl rfl) ?_
 refine dY kR ?_ _
 refine aI ?_
 refine bL rfl (fun hc10 => ?_) (fun hc10 => ?_)
 ·refine wp_seq ?_
  have hlt : ci < bs.length := by omega
  obtain ⟨ade, cse, hAe, hKe, hce⟩ := eZ (hV _ H8.1) ci hlt
  obtain rfl : cse = [.int .u8 bs[ci]] := hKe
  refine eF (fun W' => Blk W' gc 157 #[.slice A bs.length cb, .int .i64 (((ci : Nat) : Int)), .int .i64 (IntKind.i64.wrap ((IntKind.i64.wrap (ch * 6364136223846793005)) + 1442695040888963407))] ∧ Cat W' (Addr.add ade (ci * 1)) [.int .u8 bs[ci]]) 15 kR ?_
  have H11 := H8.drew; clear H8
  have hS12 : Blk W2.drew.drew.drew gc 157 #[.slice A bs.length cb, .int .i64 (((ci : Nat) : Int)), .int .i64 (IntKind.i64.wrap ((IntKind.i64.wrap (ch * 6364136223846793005)) + 1442695040888963407))] ∧ Cat W2.drew.drew.drew (Addr.add ade (ci * 1)) [.int .u8 bs[ci]] := ⟨H11.blk 0 rfl, hce⟩
  refine aM (i := 0) rfl kR kR kR kR kR (fun _ _ _ h => h) rfl rfl hS12 (fun W' hs' => aD rfl) ?_
  refine aM (i := 1) rfl kR kR kR kR kR (fun _ _ _ h => h) rfl rfl hS12 (fun W' hs' => aD rfl) ?_
  refine aM (i := 2) rfl kR kR kR kR kR (fun _ _ _ h => h) rfl rfl hS12 (fun W' hs' => cZ rfl) ?_
  refine aM (i := 3) rfl kR kR kR kR kR (fun _ _ _ h => h) rfl rfl hS12 (fun W' hs' => aS fa_157_0 rfl) ?_
  refine aM (i := 4) rfl kR kR kR kR kR (fun _ _ _ h => h) rfl rfl hS12 (fun W' hs' => bC (k := 0) (v := .slice A bs.length cb) Try.isAgg22 rfl hs'.1 rfl) ?_
  refine aM (i := 5) rfl kR kR kR kR kR (fun _ _ _ h => h) rfl rfl hS12 (fun W' hs' => aD rfl) ?_
  refine aM (i := 6) rfl kR kR kR kR kR (fun _ _ _ h => h) rfl rfl hS12 (fun W' hs' => cZ rfl) ?_
  refine aM (i := 7) rfl kR kR kR kR kR (fun _ _ _ h => h) rfl rfl hS12 (fun W' hs' => aS fa_157_1 rfl) ?_
  refine aM (i := 8) rfl kR kR kR kR kR (fun _ _ _ h => h) rfl rfl hS12 (fun W' hs' => bC (k := 1) (v := .int .i64 (((ci : Nat) : Int))) Try.isAgg3 rfl hs'.1 rfl) ?_
  refine aM (i := 9) rfl kR kR kR kR kR (fun _ _ _ h => h) rfl rfl hS12 (fun W' hs' => bB (k := ci) Try.runUnderlying22 Try.sizeOf5 rfl rfl hAe hlt) ?_
  refine aM (i := 10) rfl kR kR kR kR kR (fun _ _ _ h => h) rfl rfl hS12 (fun W' hs' => rn_load (v := .int .u8 bs[ci]) Try.isAgg5 rfl (Cat.cell0 hs'.2 rfl)) ?_
  refine aM (i := 11) rfl kR kR kR kR kR (fun _ _ _ h => h) rfl rfl hS12 (fun W' hs' => rn_conv8 (by rw [Try.underlying5]; rfl) Try.underlying3 rfl) ?_
  refine aM (i := 12) rfl kR kR kR kR kR (fun _ _ _ h => h) rfl rfl hS12 (fun W' hs' => rn_addW rfl rfl) ?_
  refine aM (i := 13) rfl kR kR kR kR kR (fun _ _ _ h => h) rfl rfl hS12 (fun W' hs' => rn_andV rfl rfl) ?_
  refine aM (i := 14) rfl kR kR kR kR kR (fun _ _ _ h => h) rfl rfl hS12 (fun W' hs' => aG rfl) ?_
  refine dY kR ?_ _
  refine aI ?_
  refine aK [0, 1, 2, 3, 4, 5, 6, 7, 8] rfl ?_
  refine aA ?_
  refine aB rfl (aD rfl) rfl rfl ?_
  refine aA ?_
  refine aB rfl (aD rfl) rfl rfl ?_
  refine aA ?_
  refine aB rfl (cZ rfl) rfl rfl ?_
  refine aA ?_
  refine aB rfl (aS fa_157_1 rfl) rfl rfl ?_
  refine aA ?_
  refine aB rfl (bC (k := 1) (v := .int .i64 (((ci : Nat) : Int))) Try.isAgg3 rfl (H11.blk 0 rfl) rfl) rfl rfl ?_
  refine aA ?_
  refine aB rfl (dP (k := ci) rfl rfl kO) rfl rfl ?_
  refine aA ?_
  refine aB rfl (cZ rfl) rfl rfl ?_
  refine aA ?_
  refine aB rfl (aS fa_157_1 rfl) rfl rfl ?_
  refine aA ?_
  refine fM rfl Try.sizeOf3 rfl rfl rfl (Nat.le_of_ble_eq_true rfl) (by simp [Value.cells, Value.oneCell']) H11 ?_
  intro W13 hu14 Ha15; clear H11; clear hu14
  refine aH ?_
  refine aI ?_
  refine wp_seq ?_
  refine aK [0, 1] rfl ?_
  refine aA ?_
  refine aB rfl (aD rfl) rfl rfl ?_
  refine aA ?_
  refine aB rfl (aG rfl) rfl rfl ?_
  refine aH ?_
  refine aI ?_
  refine wp_ret ?_
  refine aV (.inl rfl) Try.results102 rfl ?_
  exact ⟨_, rfl, and255 _, St.closeCur (Ha15.pick [0] kD rfl) kO⟩
 ·refine wp_skip ?_
  refine aI ?_
  refine wp_seq ?_
  refine aK [0, 1] rfl ?_
  refine aA ?_
  refine aB rfl (aD rfl) rfl rfl ?_
  refine aA ?_
  refine aB rfl (aG rfl) rfl rfl ?_
  refine aH ?_
  refine aI ?_
  refine wp_ret ?_
  refine aV (.inl rfl) Try.results102 rfl ?_
  exact ⟨_, rfl, and255 _, St.closeCur (H8.pick [0] kD rfl) kO⟩
theorem bP (n : Int) (bs : List Int) (gc cb : Nat) (A : Option Addr) (F0 : Nat → Prop) (w : World) (hV : CV A bs F0 w) (hn : bs.length ≤ 1048576) (h : Star [aY gc 157 A bs.length cb] w F0) : Calls Try.prog 44 #[.pointer (some ⟨gc, 0, none⟩), .int .i64 n] w (fun e' w' => ∃ r : Int, e' = .returned (.int .i64 r) ∧ (0 ≤ r ∧ (0 < n → r < n)) ∧ St w F0 [aY gc 157 A bs.length cb] w') := by
 refine enter 31 [(0, .pointer (some ⟨gc, 0, none⟩)), (1, .int .i64 (n))] Try.func44 rfl kR ?_
 intro xj
 have H1 : St w F0 [aY gc 157 A bs.length cb] w := St.eO h
 refine wp_seq ?_
 refine aK [0] rfl ?_
 refine aA ?_
 refine aB rfl (aG rfl) rfl rfl ?_
 refine aH ?_
 refine aI ?_
 refine wp_seq ?_
 refine wp_seq ?_
 refine aK [0, 1] rfl ?_
 refine aA ?_
 refine aB rfl (aD rfl) rfl rfl ?_
 refine aA ?_
 refine aB rfl (eX rfl rfl) rfl rfl ?_
 refine aH ?_
 refine aI ?_
 refine bL rfl (fun hc2 => ?_) (fun hc2 => ?_)
 ·refine wp_seq ?_
  refine aK [0] rfl ?_
  refine aA ?_
  refine aB rfl (aG rfl) rfl rfl ?_
  refine aH ?_
  refine aI ?_
  refine wp_ret ?_
  refine bV ?_
  refine aV (.inl rfl) Try.results44 rfl ?_
  exact ⟨_, rfl, ⟨by omega, by omega⟩, H1.pick [0] kD rfl⟩
 ·refine wp_skip ?_
  refine aI ?_
  refine wp_seq ?_
  refine wp_seq ?_
  refine aK [0, 1] rfl ?_
  refine aA ?_
  refine aB rfl (aD rfl) rfl rfl ?_
  refine aA ?_
  refine aB rfl (eX rfl rfl) rfl rfl ?_
  refine aH ?_
  refine aI ?_
  refine bL rfl (fun hc3 => ?_) (fun hc3 => ?_)
  ·refine wp_seq ?_
   refine aK [0, 1, 2, 3, 4] rfl ?_
   refine aA ?_
   refine aB rfl (aD rfl) rfl rfl ?_
   refine aA ?_
   obtain ⟨F6, hs7, hF8, hfr9⟩ := St.frame (l0 := [aY gc 157 A bs.length cb]) (l := []) H1
   refine aN rfl Try.call102 (vs := #[.pointer (some ⟨gc, 0, none⟩)]) rfl rfl rfl (byte_s _ _ _ _ _ _ (CV.step hV H1.1 hF8) hn hs7) ?_
   rintro e12 W11 ⟨q4, rfl, hq5, Hn10⟩; refine ⟨_, rfl, ?_⟩
   have H13 := hfr9 _ _ Hn10; clear H1
   refine aA ?_
   refine aB rfl (aD rfl) rfl rfl ?_
   refine aA ?_
   refine aB rfl (rn_rem rfl rfl kO) rfl rfl ?_
   refine aA ?_
   refine aB rfl (aG rfl) rfl rfl ?_
   refine aH ?_
   refine aI ?_
   refine wp_ret ?_
   refine bV ?_
   refine aV (.inl rfl) Try.results44 rfl ?_
   have htm := tmod_bd q4 n kO kO
   exact ⟨_, rfl, ⟨htm.1, fun _ => htm.2⟩, H13.pick [0] kD rfl⟩
  ·refine wp_skip ?_
   refine aI ?_
   refine wp_seq ?_
   refine aK [0, 1, 2] rfl ?_
   refine aA ?_
   refine aB rfl (aD rfl) rfl rfl ?_
   refine aA ?_
   obtain ⟨F16, hs17, hF18, hfr19⟩ := St.frame (l0 := [aY gc 157 A bs.length cb]) (l := []) H1
   refine aN rfl Try.call102 (vs := #[.pointer (some ⟨gc, 0, none⟩)]) rfl rfl rfl (byte_s _ _ _ _ _ _ (CV.step hV H1.1 hF18) hn hs17) ?_
   rintro e22 W21 ⟨q14, rfl, hq15, Hn20⟩; refine ⟨_, rfl, ?_⟩
   have H23 := hfr19 _ _ Hn20; clear H1
   refine aA ?_
   refine aB rfl (aG rfl) rfl rfl ?_
   refine aH ?_
   refine aI ?_
   refine wp_seq ?_
   refine aK [0, 1, 2] rfl ?_
   refine aA ?_
   refine aB rfl (aD rfl) rfl rfl ?_
   refine aA ?_
   obtain ⟨F26, hs27, hF28, hfr29⟩ := St.frame (l0 := [aY gc 157 A bs.length cb]) (l := []) H23
   refine aN rfl Try.call102 (vs := #[.pointer (some ⟨gc, 0, none⟩)]) rfl rfl rfl (byte_s _ _ _ _ _ _ (CV.step hV H23.1 hF28) hn hs27) ?_
   rintro e32 W31 ⟨q24, rfl, hq25, Hn30⟩; refine ⟨_, rfl, ?_⟩
   have H33 := hfr29 _ _ Hn30; clear H23
   refine aA ?_
   refine aB rfl (aG rfl) rfl rfl ?_
   refine aH ?_
   refine aI ?_
   refine wp_seq ?_
   refine aK [0, 1, 2] rfl ?_
   refine aA ?_
   refine aB rfl (aD rfl) rfl rfl ?_
   refine aA ?_
   obtain ⟨F36, hs37, hF38, hfr39⟩ := St.frame (l0 := [aY gc 157 A bs.length cb]) (l := []) H33
   refine aN rfl Try.call102 (vs := #[.pointer (some ⟨gc, 0, none⟩)]) rfl rfl rfl (byte_s _ _ _ _ _ _ (CV.step hV H33.1 hF38) hn hs37) ?_
   rintro e42 W41 ⟨q34, rfl, hq35, Hn40⟩; refine ⟨_, rfl, ?_⟩
   have H43 := hfr39 _ _ Hn40; clear H33
   refine aA ?_
   refine aB rfl (aG rfl) rfl rfl ?_
   refine aH ?_
   refine aI ?_
   refine wp_seq ?_
   refine aK [0, 1, 2, 3, 4, 5, 6, 7, 8, 9] rfl ?_
   refine aA ?_
   refine aB rfl (aD rfl) rfl rfl ?_
   refine aA ?_
   refine aB rfl (rn_int (wrap_small kO kO) (rn_mulW rfl rfl)) rfl rfl ?_
   refine aA ?_
   refine aB rfl (aD rfl) rfl rfl ?_
   refine aA ?_
   refine aB rfl (rn_int (wrap_small kO kO) (rn_mulW rfl rfl)) rfl rfl ?_
   refine aA ?_
   refine aB rfl (dF rfl rfl kO) rfl rfl ?_
   refine aA ?_
   refine aB rfl (aD rfl) rfl rfl ?_
   refine aA ?_
   refine aB rfl (dF rfl rfl kO) rfl rfl ?_
   refine aA ?_
   refine aB rfl (aD rfl) rfl rfl ?_
   refine aA ?_
   refine aB rfl (rn_rem rfl rfl kO) rfl rfl ?_
   refine aA ?_
   refine aB rfl (aG rfl) rfl rfl ?_
   refine aH ?_
   refine aI ?_
   refine wp_ret ?_
   refine aV (.inl rfl) Try.results44 rfl ?_
   have htm := tmod_bd (((q14 * 65536) + (q24 * 256)) + q34) n kO kO
   exact ⟨_, rfl, ⟨htm.1, fun _ => htm.2⟩, H43.pick [0] kD rfl⟩
theorem once_s (n : Int) (bs : List Int) (gc cb : Nat) (A : Option Addr) (F0 : Nat → Prop) (w : World) (hV : CV A bs F0 w) (hn : bs.length ≤ 1048576) (h : Star [aY gc 157 A bs.length cb] w F0) : Calls Try.prog 43 #[.pointer (some ⟨gc, 0, none⟩), .int .i64 n] w (fun e' w' => ∃ b : Bool, e' = .returned (.bool b) ∧ St w F0 [aY gc 157 A bs.length cb] w') := by
 refine enter 9 [(0, .pointer (some ⟨gc, 0, none⟩)), (1, .int .i64 (n))] Try.func43 rfl kR ?_
 intro xj
 have H1 : St w F0 [aY gc 157 A bs.length cb] w := St.eO h
 refine wp_seq ?_
 refine aK [0] rfl ?_
 refine aA ?_
 refine aB rfl (aG rfl) rfl rfl ?_
 refine aH ?_
 refine aI ?_
 refine wp_seq ?_
 refine aK [0, 1, 2, 3, 4] rfl ?_
 refine aA ?_
 refine aB rfl (aD rfl) rfl rfl ?_
 refine aA ?_
 refine aB rfl (aD rfl) rfl rfl ?_
 refine aA ?_
 obtain ⟨F4, hs5, hF6, hfr7⟩ := St.frame (l0 := [aY gc 157 A bs.length cb]) (l := []) H1
 refine aN rfl Try.call44 (vs := #[.pointer (some ⟨gc, 0, none⟩), .int .i64 (n)]) rfl rfl rfl (bP n _ _ _ _ _ _ (CV.step hV H1.1 hF6) hn hs5) ?_
 rintro e10 W9 ⟨q2, rfl, hq3, Hn8⟩; refine ⟨_, rfl, ?_⟩
 have H11 := hfr7 _ _ Hn8; clear H1
 refine aA ?_
 refine aB rfl (bM rfl rfl) rfl rfl ?_
 refine aA ?_
 refine aB rfl (aG rfl) rfl rfl ?_
 refine aH ?_
 refine aI ?_
 refine wp_ret ?_
 refine aV (.inl rfl) Try.results43 rfl ?_
 exact ⟨_, rfl, H11.pick [0] kD rfl⟩
theorem str_s (l : List ByteArray) (c : Nat) (B : Option Addr) (hl : 0 < l.length) (bs : List Int) (gc cb : Nat) (A : Option Addr) (F0 : Nat → Prop) (w : World) (hV : CV A bs F0 w) (hn : bs.length ≤ 1048576) (h : Star [aY gc 157 A bs.length cb, hR Kn.string 9 (.slice B l.length c) l] w F0) : Calls Try.prog 110 #[.pointer (some ⟨gc, 0, none⟩), .slice B l.length c] w (fun e' w' => ∃ s : ByteArray, e' = .returned (.string s) ∧ s ∈ l ∧ St w F0 [aY gc 157 A bs.length cb, hR Kn.string 9 (.slice B l.length c) l] w') := by
 refine enter 12 [(0, .pointer (some ⟨gc, 0, none⟩)), (1, .slice B l.length c)] Try.func110 rfl kR ?_
 intro xj
 have H1 : St w F0 [aY gc 157 A bs.length cb, hR Kn.string 9 (.slice B l.length c) l] w := St.eO h
 refine wp_seq ?_
 refine aK [0] rfl ?_
 refine aA ?_
 refine aB rfl (aG rfl) rfl rfl ?_
 refine aH ?_
 refine aI ?_
 refine wp_seq ?_
 refine aK [0, 1, 2, 3, 4, 5, 6, 7] rfl ?_
 refine aA ?_
 refine aB rfl (aD rfl) rfl rfl ?_
 refine aA ?_
 refine aB rfl (aD rfl) rfl rfl ?_
 refine aA ?_
 refine aB rfl (aD rfl) rfl rfl ?_
 refine aA ?_
 refine aB rfl (bT Try.runUnderlying166 rfl) rfl rfl ?_
 refine aA ?_
 obtain ⟨F4, hs5, hF6, hfr7⟩ := St.frame (l0 := [aY gc 157 A bs.length cb]) (l := [hR Kn.string 9 (.slice B l.length c) l]) H1
 refine aN rfl Try.call44 (vs := #[.pointer (some ⟨gc, 0, none⟩), .int .i64 ((l.length : Nat))]) rfl rfl rfl (bP (l.length : Nat) _ _ _ _ _ _ (CV.step hV H1.1 hF6) hn hs5) ?_
 rintro e10 W9 ⟨q2, rfl, hq3, Hn8⟩; refine ⟨_, rfl, ?_⟩
 have H11 := hfr7 _ _ Hn8; clear H1
 obtain ⟨kq, rfl⟩ : ∃ kq : Nat, q2 = kq := ⟨q2.toNat, by omega⟩
 have hkq : kq < l.length := by omega
 obtain ⟨ade, cse, hAe, hKe, hce⟩ := eZ (H11.rowC 1 rfl) kq hkq
 obtain rfl : cse = [.string (l[kq])] := hKe
 refine aA ?_
 refine aB rfl (bB (k := kq) Try.runUnderlying166 Try.sizeOf9 rfl rfl hAe hkq) rfl rfl ?_
 refine aA ?_
 refine aB rfl (rn_load (v := .string (l[kq])) Try.isAgg9 rfl (Cat.cell0 hce rfl)) rfl rfl ?_
 refine aA ?_
 refine aB rfl (aG rfl) rfl rfl ?_
 refine aH ?_
 refine aI ?_
 refine wp_ret ?_
 refine aV (.inl rfl) Try.results110 rfl ?_
 exact ⟨_, rfl, List.getElem_mem hkq, H11.pick [0, 1] kD rfl⟩
theorem name_s  (bs : List Int) (gc cb : Nat) (A : Option Addr) (F0 : Nat → Prop) (w : World) (hV : CV A bs F0 w) (hn : bs.length ≤ 1048576) (h : Star [aY gc 157 A bs.length cb] w F0) : Calls Try.prog 63 #[.pointer (some ⟨gc, 0, none⟩)] w (fun e' w' => ∃ s : ByteArray, e' = .returned (.string s) ∧ s.size ≤ 6 ∧ St w F0 [aY gc 157 A bs.length cb] w') := by
 refine enter 6 [(0, .pointer (some ⟨gc, 0, none⟩))] Try.func63 rfl kR ?_
 intro xj
 have H1 : St w F0 [aY gc 157 A bs.length cb] w := St.eO h
 refine wp_seq ?_
 refine aK [0] rfl ?_
 refine aA ?_
 refine aB rfl (aG rfl) rfl rfl ?_
 refine aH ?_
 refine aI ?_
 refine wp_seq ?_
 refine aK [0, 1, 2, 3] rfl ?_
 refine aA ?_
 refine aB rfl (aD rfl) rfl rfl ?_
 refine aA ?_
 refine op_sliceN (vs := [(0, .string (⟨#[103, 101, 116]⟩)), (1, .string (⟨#[115, 101, 116]⟩)), (2, .string (⟨#[97, 100, 100]⟩)), (3, .string (⟨#[109, 97, 107, 101]⟩)), (4, .string (⟨#[103, 111]⟩))]) (cells := #[.string (⟨#[103, 101, 116]⟩), .string (⟨#[115, 101, 116]⟩), .string (⟨#[97, 100, 100]⟩), .string (⟨#[109, 97, 107, 101]⟩), .string (⟨#[103, 111]⟩)]) rfl Try.runUnderlying166 Try.sizeOf9 Try.zeroValue9 rfl kD kD kR rfl rfl H1 ?_
 intro g_1_1 W2 hu3 Ha4; clear H1
 have Hb5 := St.boxSc (xs := ([⟨#[103, 101, 116]⟩, ⟨#[115, 101, 116]⟩, ⟨#[97, 100, 100]⟩, ⟨#[109, 97, 107, 101]⟩, ⟨#[103, 111]⟩] : List ByteArray)) (h1 := fun _ => rfl) Ha4 rfl kD rfl; clear hu3
 refine aA ?_
 have H8 : St w F0 [aY gc 157 A bs.length cb, hR Kn.string 9 (.slice (some ⟨g_1_1, 0, none⟩) 5 5) ([⟨#[103, 101, 116]⟩, ⟨#[115, 101, 116]⟩, ⟨#[97, 100, 100]⟩, ⟨#[109, 97, 107, 101]⟩, ⟨#[103, 111]⟩] : List ByteArray)] W2 := Hb5.pick [1, 0] kD rfl; clear Hb5
 obtain ⟨F9, hs10, hF11, hfr12⟩ := St.frame (l0 := [aY gc 157 A bs.length cb, hR Kn.string 9 (.slice (some ⟨g_1_1, 0, none⟩) 5 5) ([⟨#[103, 101, 116]⟩, ⟨#[115, 101, 116]⟩, ⟨#[97, 100, 100]⟩, ⟨#[109, 97, 107, 101]⟩, ⟨#[103, 111]⟩] : List ByteArray)]) (l := []) H8
 refine aN rfl Try.call110 (vs := #[.pointer (some ⟨gc, 0, none⟩), .slice (some ⟨g_1_1, 0, none⟩) 5 5]) rfl rfl rfl (str_s ([⟨#[103, 101, 116]⟩, ⟨#[115, 101, 116]⟩, ⟨#[97, 100, 100]⟩, ⟨#[109, 97, 107, 101]⟩, ⟨#[103, 111]⟩] : List ByteArray) _ _ kD _ _ _ _ _ _ (CV.step hV H8.1 hF11) hn hs10) ?_
 rintro e15 W14 ⟨s6, rfl, hs7, Hn13⟩; refine ⟨_, rfl, ?_⟩
 have H16 := hfr12 _ _ Hn13; clear H8
 refine aA ?_
 refine aB rfl (aG rfl) rfl rfl ?_
 refine aH ?_
 refine aI ?_
 refine wp_ret ?_
 refine aV (.inl rfl) Try.results63 rfl ?_
 exact ⟨_, rfl, str_le hs7 kD, H16.pick [0] kD rfl⟩
theorem new_s (bs : List Int) (cb : Nat) (A : Option Addr) (w : World) (hC : C Kn.u8 w A bs) (hn : bs.length ≤ 1048576) : Calls Try.prog 41 #[.slice A bs.length cb] w (fun e' w' => ∃ gc : Nat, e' = .returned (.pointer (some ⟨gc, 0, none⟩)) ∧ St w No [aY gc 157 A bs.length cb] w') := by
 refine enter 32 [(0, .slice A bs.length cb)] Try.func41 rfl kR ?_
 intro xj
 have H1 : St w No [] w := St.enter
 refine wp_seq ?_
 refine aK [0] rfl ?_
 refine aA ?_
 refine aB rfl (aG rfl) rfl rfl ?_
 refine aH ?_
 refine aI ?_
 refine wp_seq ?_
 refine aK [0, 1, 2, 3] rfl ?_
 refine aA ?_
 refine aB rfl (aD rfl) rfl rfl ?_
 refine aA ?_
 refine aB rfl (bT Try.runUnderlying22 rfl) rfl rfl ?_
 refine aA ?_
 refine aB rfl (rn_addW rfl rfl) rfl rfl ?_
 refine aA ?_
 refine aB rfl (aG rfl) rfl rfl ?_
 refine aH ?_
 refine aI ?_
 refine wp_seq ?_
 refine wp_seq ?_
 refine aK [0] rfl ?_
 refine aA ?_
 refine aB rfl (aG rfl) rfl rfl ?_
 refine aH ?_
 refine aI ?_
 refine wp_block ?_
 refine wp_loop_ghost (fun r a' W' => ∃ (i1 : Nat) (h1 : Int) (x' : Nat → Value), a' = aO 32 x' [(0, .slice A bs.length cb), (3, .int .i64 (h1)), (4, .int .i64 (((i1 : Nat) : Int)))] ∧ (i1 + r = bs.length) ∧ St w No [] W') bs.length ?_ ?_
 ·exact (aW [(0, .slice A bs.length cb), (3, .int .i64 (IntKind.i64.wrap (193017 + (bs.length : Nat)))), (4, .int .i64 (((0 : Nat) : Int)))] rfl).elim fun x' hx => ⟨0, (IntKind.i64.wrap (193017 + (bs.length : Nat))), x', hx, kO, H1⟩
 ·rintro r2 _ W3 ⟨i1, h1, x4, rfl, hi1, H5⟩; clear H1
  refine wp_seq ?_
  refine wp_seq ?_
  refine aK [0, 1, 2, 3, 4, 5, 6, 7] rfl ?_
  refine aA ?_
  refine aB rfl (aD rfl) rfl rfl ?_
  refine aA ?_
  refine aB rfl (aD rfl) rfl rfl ?_
  refine aA ?_
  refine aB rfl (bT Try.runUnderlying22 rfl) rfl rfl ?_
  by_cases hg6 : (((i1 : Nat) : Int) : Int) < (bs.length : Nat)
  ·refine aA ?_
   refine aB rfl (bG hg6 (dD rfl rfl)) rfl rfl ?_
   refine aA ?_
   refine aB rfl (aD rfl) rfl rfl ?_
   refine aA ?_
   refine aU rfl rfl rfl rfl (fun _ ho7 => ?_)
   refine aB ho7 (aD rfl) rfl rfl ?_
   by_cases hg8 : (((i1 : Nat) : Int) : Int) < 4000
   ·refine aA ?_
    refine aU rfl rfl rfl rfl (fun _ ho9 => ?_)
    refine aB ho9 (bG hg8 (dD rfl rfl)) rfl rfl ?_
    refine aA ?_
    refine aB rfl (aP (v := .bool (true)) (b := true) rfl rfl rfl rfl) rfl rfl ?_
    refine aH ?_
    refine aI ?_
    refine dO rfl ?_
    refine wp_skip ?_
    refine aI ?_
    refine wp_seq ?_
    refine wp_block ?_
    have hlt : i1 < bs.length := by omega
    obtain ⟨ade, cse, hAe, hKe, hce⟩ := eZ (bQ H5.1 hC) i1 hlt
    obtain rfl : cse = [.int .u8 bs[i1]] := hKe
    refine aK [0, 1, 2, 3, 4, 5, 6, 7, 8, 9, 10] rfl ?_
    refine aA ?_
    refine aB rfl (aD rfl) rfl rfl ?_
    refine aA ?_
    refine aB rfl (rn_mulW rfl rfl) rfl rfl ?_
    refine aA ?_
    refine aB rfl (aD rfl) rfl rfl ?_
    refine aA ?_
    refine aB rfl (aD rfl) rfl rfl ?_
    refine aA ?_
    refine aB rfl (bB (k := i1) Try.runUnderlying22 Try.sizeOf5 rfl rfl hAe hlt) rfl rfl ?_
    refine aA ?_
    refine aB rfl (rn_load (v := .int .u8 bs[i1]) Try.isAgg5 rfl (Cat.cell0 hce rfl)) rfl rfl ?_
    refine aA ?_
    refine aB rfl (rn_conv8 (by rw [Try.underlying5]; rfl) Try.underlying3 rfl) rfl rfl ?_
    refine aA ?_
    refine aB rfl (rn_addW rfl rfl) rfl rfl ?_
    refine aA ?_
    refine aB rfl (rn_addW rfl rfl) rfl rfl ?_
    refine aA ?_
    refine aB rfl (rn_andV rfl rfl) rfl rfl ?_
    refine aA ?_
    refine aB rfl (aG rfl) rfl rfl ?_
    refine aH ?_
    refine dW ?_
    refine aI ?_
    refine aK [0, 1, 2] rfl ?_
    refine aA ?_
    refine aB rfl (aD rfl) rfl rfl ?_
    refine aA ?_
    refine aB rfl (dP (k := i1) rfl rfl kO) rfl rfl ?_
    refine aA ?_
    refine aB rfl (aG rfl) rfl rfl ?_
    refine aH ?_
    refine aI ?_
    exact (aW [(0, .slice A bs.length cb), (3, .int .i64 (andV (IntKind.i64.wrap ((IntKind.i64.wrap ((IntKind.i64.wrap (h1 * 137)) + (IntKind.i64.wrap (bs[i1])))) + 11)) 1073741823)), (4, .int .i64 (((i1 + 1 : Nat) : Int)))] rfl).elim fun x' hx => ⟨r2 - 1, kO, i1 + 1, (andV (IntKind.i64.wrap ((IntKind.i64.wrap ((IntKind.i64.wrap (h1 * 137)) + (IntKind.i64.wrap (bs[i1])))) + 11)) 1073741823), x', hx, kO, H5⟩
   ·refine aA ?_
    refine aU rfl rfl rfl rfl (fun _ ho10 => ?_)
    refine aB ho10 (bH hg8 (dD rfl rfl)) rfl rfl ?_
    refine aA ?_
    refine aB rfl (aP (v := .bool (false)) (b := true) rfl rfl rfl rfl) rfl rfl ?_
    refine aH ?_
    refine aI ?_
    refine dA rfl ?_
    refine wp_exit ?_
    refine bR ?_
    refine bR ?_
    refine inB_x ?_
    refine aI ?_
    refine wp_seq ?_
    refine aK [0, 1, 2, 3, 4] rfl ?_
    refine aA ?_
    refine aB rfl (aD rfl) rfl rfl ?_
    refine aA ?_
    refine aB rfl (aD rfl) rfl rfl ?_
    refine aA ?_
    refine aB rfl (cK (vs := [(0, .slice A bs.length cb), (2, .int .i64 (h1))]) (cells := #[.slice A bs.length cb, .int .i64 (0), .int .i64 (h1)]) rfl kR) rfl rfl ?_
    refine aA ?_
    refine eP rfl rfl rfl rfl H5 ?_
    intro g_6_3 W11 hu12 Ha13; clear H5; clear hu12
    refine aA ?_
    refine aB rfl (aG rfl) rfl rfl ?_
    refine aH ?_
    refine aI ?_
    refine wp_ret ?_
    refine aV (.inl rfl) Try.results41 rfl ?_
    exact ⟨_, rfl, St.closeCur (i := 0) (Ha13.pick [0] kD rfl) (Nat.zero_le _)⟩
  ·refine aA ?_
   refine aB rfl (bH hg6 (dD rfl rfl)) rfl rfl ?_
   refine aA ?_
   refine aB rfl (aD rfl) rfl rfl ?_
   refine aA ?_
   refine aJ rfl rfl rfl rfl rfl rfl rfl ?_
   refine aA ?_
   refine aJ rfl rfl rfl rfl rfl rfl rfl ?_
   refine aA ?_
   refine aB rfl (aP (v := .bool (false)) (b := false) rfl rfl rfl rfl) rfl rfl ?_
   refine aH ?_
   refine aI ?_
   refine dA rfl ?_
   refine wp_exit ?_
   refine bR ?_
   refine bR ?_
   refine inB_x ?_
   refine aI ?_
   refine wp_seq ?_
   refine aK [0, 1, 2, 3, 4] rfl ?_
   refine aA ?_
   refine aB rfl (aD rfl) rfl rfl ?_
   refine aA ?_
   refine aB rfl (aD rfl) rfl rfl ?_
   refine aA ?_
   refine aB rfl (cK (vs := [(0, .slice A bs.length cb), (2, .int .i64 (h1))]) (cells := #[.slice A bs.length cb, .int .i64 (0), .int .i64 (h1)]) rfl kR) rfl rfl ?_
   refine aA ?_
   refine eP rfl rfl rfl rfl H5 ?_
   intro g_6_3 W15 hu16 Ha17; clear H5; clear hu16
   refine aA ?_
   refine aB rfl (aG rfl) rfl rfl ?_
   refine aH ?_
   refine aI ?_
   refine wp_ret ?_
   refine aV (.inl rfl) Try.results41 rfl ?_
   exact ⟨_, rfl, St.closeCur (i := 0) (Ha17.pick [0] kD rfl) (Nat.zero_le _)⟩
end Go.Proofs.YtdfipdpeilegpaaFam
namespace Go.Proofs.YtdfipdpeilegpaaFam
open Go.RowKit Go.Proofs.YtdfipdpeilegpaaSep Go.Proofs.YtdfipdpeilegpaaT Go.Proofs.YtdfipdpeilegpaaK
set_option linter.unusedVariables false
set_option linter.unusedSimpArgs false
theorem ki_Wire_Kmk (w : World) (x : GWire) : aR.K w x [.int .i64 x.Kind, .int .i64 x.N] := ⟨[_], [_], rfl, rfl, rfl⟩
theorem ki_Tag_Kmk (w : World) (x : GTag) : ki_Tag.K w x [.int .i64 x.Vat, .int .i64 x.Entity, .int .i64 x.Seq] := ⟨[_], [_, _], rfl, rfl, ⟨[_], [_], rfl, rfl, rfl⟩⟩
theorem dS (w : World) (x : GMessage) {A5 : Option Addr} {c5 : Nat} (hl5 : x.bF.length ≤ c5) (hC5 : C aR w A5 x.bF) : aF.K w x [.int .i64 x.Kind, .int .i64 x.Pos, .int .i64 x.bI, .int .i64 x.Question, .string x.Name, .slice A5 x.bF.length c5, .int .i64 x.Value.Kind, .int .i64 x.Value.N, .int .i64 x.Count, .int .i64 x.Tag.Vat, .int .i64 x.Tag.Entity, .int .i64 x.Tag.Seq] := ⟨[_], [_, _, _, _, _, _, _, _, _, _, _], rfl, rfl, ⟨[_], [_, _, _, _, _, _, _, _, _, _], rfl, rfl, ⟨[_], [_, _, _, _, _, _, _, _, _], rfl, rfl, ⟨[_], [_, _, _, _, _, _, _, _], rfl, rfl, ⟨[_], [_, _, _, _, _, _, _], rfl, rfl, ⟨[_], [_, _, _, _, _, _], rfl, ⟨A5, c5, rfl, hl5, hC5⟩, ⟨[_, _], [_, _, _, _], rfl, (ki_Wire_Kmk w _), ⟨[_], [_, _, _], rfl, rfl, (ki_Tag_Kmk w _)⟩⟩⟩⟩⟩⟩⟩⟩
theorem ki_Channel_Kmk (w : World) (x : GChannel) {A2 : Option Addr} {c2 : Nat} (hl2 : x.List.length ≤ c2) (hC2 : C aF w A2 x.List) : aC.K w x [.int .i64 x.From, .int .i64 x.To, .slice A2 x.List.length c2] := ⟨[_], [_, _], rfl, rfl, ⟨[_], [_], rfl, rfl, ⟨A2, c2, rfl, hl2, hC2⟩⟩⟩
end Go.Proofs.YtdfipdpeilegpaaFam
namespace Go.Proofs.YtdfipdpeilegpaaFam
open Go.ChangeShapes Go.WideShapes Go.RowKit Go.Proofs.YtdfipdpeilegpaaSep Go.Proofs.YtdfipdpeilegpaaT Go.Proofs.YtdfipdpeilegpaaK
set_option linter.unusedVariables false
set_option linter.unusedSimpArgs false
attribute [local irreducible] wpOps wpOp
set_option maxHeartbeats 4000000
set_option maxRecDepth 100000
def chr (base : List GChannel) (i : Nat) : Nat → List GChannel
 | 0 => base
 | j + 1 => if ((j + 1 : Nat) : Int) = ((i + 1 : Nat) : Int) then chr base i j else chr base i j ++ [⟨((i + 1 : Nat) : Int), ((j + 1 : Nat) : Int), []⟩]
def chs (n : Nat) : Nat → List GChannel
 | 0 => []
 | i + 1 => chr (chs n i) i n
theorem chr_len (base : List GChannel) (i : Nat) : ∀ j, (chr base i j).length ≤ base.length + j
 | 0 => Nat.le_refl _
 | j + 1 => by
  have h := chr_len base i j
  unfold chr
  split
  ·omega
  ·rw [List.length_append]
   simp only [List.length_cons, List.length_nil]
   omega
theorem chs_len (n : Nat) : ∀ i, (chs n i).length ≤ i * n
 | 0 => by simp [chs]
 | i + 1 => by
  have h := chs_len n i
  have h2 := chr_len (chs n i) i n
  unfold chs
  rw [Nat.succ_mul]
  omega
theorem chr_le (n i j : Nat) (hn : n ≤ 4) (hi : i ≤ n) (hj : j ≤ n) : (chr (chs n i) i j).length ≤ 20 := by
 have h := chs_len n i
 have h2 := chr_len (chs n i) i j
 have h3 : i * n ≤ 4 * 4 := Nat.mul_le_mul kO hn
 omega
def alO (v : Int) : List GChannel := if 1 ≤ v ∧ v ≤ 4 then chs v.toNat v.toNat else []
theorem l1In_s (x lo hi : Int) (w : World) : Calls Try.prog 61 #[.int .i64 x, .int .i64 lo, .int .i64 hi] w (dU (decide (lo ≤ x ∧ x ≤ hi)) w) := by
 by_cases h1 : lo ≤ x
 ·by_cases h2 : x ≤ hi
  ·refine enter 15 [(0, .int .i64 (x)), (1, .int .i64 (lo)), (2, .int .i64 (hi))] Try.func61 rfl kR ?_
   intro xj
   have H1 : St w No [] w := St.enter
   refine wp_seq ?_
   refine aK [0] rfl ?_
   refine aA ?_
   refine aB rfl (aG rfl) rfl rfl ?_
   refine aH ?_
   refine aI ?_
   refine wp_seq ?_
   refine aK [0, 1, 2, 3, 4, 5, 6, 7, 8] rfl ?_
   refine aA ?_
   refine aB rfl (aD rfl) rfl rfl ?_
   refine aA ?_
   refine aB rfl (aD rfl) rfl rfl ?_
   refine aA ?_
   refine aB rfl (bG (p := (lo : Int) ≤ x) h1 (rn_geq (p := x) (q := lo) rfl rfl)) rfl rfl ?_
   refine aA ?_
   refine aB rfl (aD rfl) rfl rfl ?_
   refine aA ?_
   refine aU rfl rfl rfl rfl (fun _ ho2 => ?_)
   refine aB ho2 (aD rfl) rfl rfl ?_
   refine aA ?_
   refine aU rfl rfl rfl rfl (fun _ ho3 => ?_)
   refine aB ho3 (aD rfl) rfl rfl ?_
   refine aA ?_
   refine aU rfl rfl rfl rfl (fun _ ho4 => ?_)
   refine aB ho4 (bG (p := (x : Int) ≤ hi) h2 (eX (p := x) (q := hi) rfl rfl)) rfl rfl ?_
   refine aA ?_
   refine aB rfl (aP (v := .bool (true)) (b := true) rfl rfl rfl rfl) rfl rfl ?_
   refine aA ?_
   refine aB rfl (aG rfl) rfl rfl ?_
   refine aH ?_
   refine aI ?_
   refine wp_ret ?_
   refine aV (.inl rfl) Try.results61 rfl ?_
   exact ⟨by rw [decide_eq_true (⟨h1, h2⟩ : lo ≤ x ∧ x ≤ hi)], H1.1⟩
  ·refine enter 15 [(0, .int .i64 (x)), (1, .int .i64 (lo)), (2, .int .i64 (hi))] Try.func61 rfl kR ?_
   intro xj
   have H1 : St w No [] w := St.enter
   refine wp_seq ?_
   refine aK [0] rfl ?_
   refine aA ?_
   refine aB rfl (aG rfl) rfl rfl ?_
   refine aH ?_
   refine aI ?_
   refine wp_seq ?_
   refine aK [0, 1, 2, 3, 4, 5, 6, 7, 8] rfl ?_
   refine aA ?_
   refine aB rfl (aD rfl) rfl rfl ?_
   refine aA ?_
   refine aB rfl (aD rfl) rfl rfl ?_
   refine aA ?_
   refine aB rfl (bG (p := (lo : Int) ≤ x) h1 (rn_geq (p := x) (q := lo) rfl rfl)) rfl rfl ?_
   refine aA ?_
   refine aB rfl (aD rfl) rfl rfl ?_
   refine aA ?_
   refine aU rfl rfl rfl rfl (fun _ ho2 => ?_)
   refine aB ho2 (aD rfl) rfl rfl ?_
   refine aA ?_
   refine aU rfl rfl rfl rfl (fun _ ho3 => ?_)
   refine aB ho3 (aD rfl) rfl rfl ?_
   refine aA ?_
   refine aU rfl rfl rfl rfl (fun _ ho4 => ?_)
   refine aB ho4 (bH (p := (x : Int) ≤ hi) h2 (eX (p := x) (q := hi) rfl rfl)) rfl rfl ?_
   refine aA ?_
   refine aB rfl (aP (v := .bool (false)) (b := true) rfl rfl rfl rfl) rfl rfl ?_
   refine aA ?_
   refine aB rfl (aG rfl) rfl rfl ?_
   refine aH ?_
   refine aI ?_
   refine wp_ret ?_
   refine aV (.inl rfl) Try.results61 rfl ?_
   exact ⟨by rw [decide_eq_false (fun q : lo ≤ x ∧ x ≤ hi => h2 q.2)], H1.1⟩
 ·refine enter 15 [(0, .int .i64 (x)), (1, .int .i64 (lo)), (2, .int .i64 (hi))] Try.func61 rfl kR ?_
  intro xj
  have H1 : St w No [] w := St.enter
  refine wp_seq ?_
  refine aK [0] rfl ?_
  refine aA ?_
  refine aB rfl (aG rfl) rfl rfl ?_
  refine aH ?_
  refine aI ?_
  refine wp_seq ?_
  refine aK [0, 1, 2, 3, 4, 5, 6, 7, 8] rfl ?_
  refine aA ?_
  refine aB rfl (aD rfl) rfl rfl ?_
  refine aA ?_
  refine aB rfl (aD rfl) rfl rfl ?_
  refine aA ?_
  refine aB rfl (bH (p := (lo : Int) ≤ x) h1 (rn_geq (p := x) (q := lo) rfl rfl)) rfl rfl ?_
  refine aA ?_
  refine aB rfl (aD rfl) rfl rfl ?_
  refine aA ?_
  refine aJ rfl rfl rfl rfl rfl rfl rfl ?_
  refine aA ?_
  refine aJ rfl rfl rfl rfl rfl rfl rfl ?_
  refine aA ?_
  refine aJ rfl rfl rfl rfl rfl rfl rfl ?_
  refine aA ?_
  refine aB rfl (aP (v := .bool (false)) (b := false) rfl rfl rfl rfl) rfl rfl ?_
  refine aA ?_
  refine aB rfl (aG rfl) rfl rfl ?_
  refine aH ?_
  refine aI ?_
  refine wp_ret ?_
  refine aV (.inl rfl) Try.results61 rfl ?_
  exact ⟨by rw [decide_eq_false (fun q : lo ≤ x ∧ x ≤ hi => h1 q.1)], H1.1⟩
theorem in_i (x lo hi : Int) (w : World) : Calls Try.prog 60 #[.int .i64 x, .int .i64 lo, .int .i64 hi] w (dU (decide (lo ≤ x ∧ x ≤ hi)) w) := by
 by_cases h1 : lo ≤ x
 ·by_cases h2 : x ≤ hi
  ·refine enter 15 [(0, .int .i64 (x)), (1, .int .i64 (lo)), (2, .int .i64 (hi))] Try.func60 rfl kR ?_
   intro xj
   have H1 : St w No [] w := St.enter
   refine wp_seq ?_
   refine aK [0] rfl ?_
   refine aA ?_
   refine aB rfl (aG rfl) rfl rfl ?_
   refine aH ?_
   refine aI ?_
   refine wp_seq ?_
   refine aK [0, 1, 2, 3, 4, 5, 6, 7, 8] rfl ?_
   refine aA ?_
   refine aB rfl (aD rfl) rfl rfl ?_
   refine aA ?_
   refine aB rfl (aD rfl) rfl rfl ?_
   refine aA ?_
   refine aB rfl (bG (p := (lo : Int) ≤ x) h1 (eX (p := lo) (q := x) rfl rfl)) rfl rfl ?_
   refine aA ?_
   refine aB rfl (aD rfl) rfl rfl ?_
   refine aA ?_
   refine aU rfl rfl rfl rfl (fun _ ho2 => ?_)
   refine aB ho2 (aD rfl) rfl rfl ?_
   refine aA ?_
   refine aU rfl rfl rfl rfl (fun _ ho3 => ?_)
   refine aB ho3 (aD rfl) rfl rfl ?_
   refine aA ?_
   refine aU rfl rfl rfl rfl (fun _ ho4 => ?_)
   refine aB ho4 (bG (p := (x : Int) ≤ hi) h2 (eX (p := x) (q := hi) rfl rfl)) rfl rfl ?_
   refine aA ?_
   refine aB rfl (aP (v := .bool (true)) (b := true) rfl rfl rfl rfl) rfl rfl ?_
   refine aA ?_
   refine aB rfl (aG rfl) rfl rfl ?_
   refine aH ?_
   refine aI ?_
   refine wp_ret ?_
   refine aV (.inl rfl) Try.results60 rfl ?_
   exact ⟨by rw [decide_eq_true (⟨h1, h2⟩ : lo ≤ x ∧ x ≤ hi)], H1.1⟩
  ·refine enter 15 [(0, .int .i64 (x)), (1, .int .i64 (lo)), (2, .int .i64 (hi))] Try.func60 rfl kR ?_
   intro xj
   have H1 : St w No [] w := St.enter
   refine wp_seq ?_
   refine aK [0] rfl ?_
   refine aA ?_
   refine aB rfl (aG rfl) rfl rfl ?_
   refine aH ?_
   refine aI ?_
   refine wp_seq ?_
   refine aK [0, 1, 2, 3, 4, 5, 6, 7, 8] rfl ?_
   refine aA ?_
   refine aB rfl (aD rfl) rfl rfl ?_
   refine aA ?_
   refine aB rfl (aD rfl) rfl rfl ?_
   refine aA ?_
   refine aB rfl (bG (p := (lo : Int) ≤ x) h1 (eX (p := lo) (q := x) rfl rfl)) rfl rfl ?_
   refine aA ?_
   refine aB rfl (aD rfl) rfl rfl ?_
   refine aA ?_
   refine aU rfl rfl rfl rfl (fun _ ho2 => ?_)
   refine aB ho2 (aD rfl) rfl rfl ?_
   refine aA ?_
   refine aU rfl rfl rfl rfl (fun _ ho3 => ?_)
   refine aB ho3 (aD rfl) rfl rfl ?_
   refine aA ?_
   refine aU rfl rfl rfl rfl (fun _ ho4 => ?_)
   refine aB ho4 (bH (p := (x : Int) ≤ hi) h2 (eX (p := x) (q := hi) rfl rfl)) rfl rfl ?_
   refine aA ?_
   refine aB rfl (aP (v := .bool (false)) (b := true) rfl rfl rfl rfl) rfl rfl ?_
   refine aA ?_
   refine aB rfl (aG rfl) rfl rfl ?_
   refine aH ?_
   refine aI ?_
   refine wp_ret ?_
   refine aV (.inl rfl) Try.results60 rfl ?_
   exact ⟨by rw [decide_eq_false (fun q : lo ≤ x ∧ x ≤ hi => h2 q.2)], H1.1⟩
 ·refine enter 15 [(0, .int .i64 (x)), (1, .int .i64 (lo)), (2, .int .i64 (hi))] Try.func60 rfl kR ?_
  intro xj
  have H1 : St w No [] w := St.enter
  refine wp_seq ?_
  refine aK [0] rfl ?_
  refine aA ?_
  refine aB rfl (aG rfl) rfl rfl ?_
  refine aH ?_
  refine aI ?_
  refine wp_seq ?_
  refine aK [0, 1, 2, 3, 4, 5, 6, 7, 8] rfl ?_
  refine aA ?_
  refine aB rfl (aD rfl) rfl rfl ?_
  refine aA ?_
  refine aB rfl (aD rfl) rfl rfl ?_
  refine aA ?_
  refine aB rfl (bH (p := (lo : Int) ≤ x) h1 (eX (p := lo) (q := x) rfl rfl)) rfl rfl ?_
  refine aA ?_
  refine aB rfl (aD rfl) rfl rfl ?_
  refine aA ?_
  refine aJ rfl rfl rfl rfl rfl rfl rfl ?_
  refine aA ?_
  refine aJ rfl rfl rfl rfl rfl rfl rfl ?_
  refine aA ?_
  refine aJ rfl rfl rfl rfl rfl rfl rfl ?_
  refine aA ?_
  refine aB rfl (aP (v := .bool (false)) (b := false) rfl rfl rfl rfl) rfl rfl ?_
  refine aA ?_
  refine aB rfl (aG rfl) rfl rfl ?_
  refine aH ?_
  refine aI ?_
  refine wp_ret ?_
  refine aV (.inl rfl) Try.results60 rfl ?_
  exact ⟨by rw [decide_eq_false (fun q : lo ≤ x ∧ x ≤ hi => h1 q.1)], H1.1⟩
theorem allCh_s (n : Nat) (h1 : 1 ≤ n) (h4 : n ≤ 4) (w : World) : Calls Try.prog 18 #[.int .i64 (n : Int)] w (eH aC 94 (chs n n) w) := by
 refine enter 31 [(0, .int .i64 (((n : Nat) : Int)))] Try.func18 rfl kR ?_
 intro xj
 have H1 : St w No [] w := St.enter
 refine wp_seq ?_
 refine aK [0] rfl ?_
 refine aA ?_
 refine aB rfl (aG rfl) rfl rfl ?_
 refine aH ?_
 refine aI ?_
 refine wp_seq ?_
 refine aK [0, 1] rfl ?_
 refine aA ?_
 refine op_slice0 (dk := aC) rfl Try.runUnderlying24 Try.sizeOf94 rfl rfl H1 ?_
 intro A_1_0 W2 hu3 Ha4; clear H1; clear hu3
 refine aA ?_
 refine aB rfl (aG rfl) rfl rfl ?_
 refine aH ?_
 refine aI ?_
 refine wp_seq ?_
 refine wp_seq ?_
 refine aK [0, 1, 2] rfl ?_
 refine aA ?_
 refine aB rfl (aD rfl) rfl rfl ?_
 refine aA ?_
 refine aN rfl Try.call61 (vs := #[.int .i64 (((n : Nat) : Int)), .int .i64 (1), .int .i64 (4)]) rfl rfl rfl (retb (l1In_s ((n : Nat) : Int) 1 4 _) (decide_eq_true kO)) ?_
 rintro e8 W7 ⟨rfl, hu6⟩; refine ⟨_, rfl, ?_⟩
 have H9 := Ha4.no hu6; clear Ha4
 refine aA ?_
 refine aB rfl (rn_not rfl) rfl rfl ?_
 refine aH ?_
 refine aI ?_
 refine dA rfl ?_
 refine wp_skip ?_
 refine aI ?_
 refine wp_seq ?_
 refine wp_seq ?_
 refine aK [0] rfl ?_
 refine aA ?_
 refine aB rfl (aG rfl) rfl rfl ?_
 refine aH ?_
 refine aI ?_
 refine wp_block ?_
 refine wp_loop_ghost (fun r a' W' => ∃ (i : Nat) (Ai : Option Addr) (ci : Nat) (x' : Nat → Value), a' = aO 31 x' [(0, .int .i64 (((n : Nat) : Int))), (3, .slice Ai ((chs n i).length) ci), (4, .int .i64 (((i + 1 : Nat) : Int)))] ∧ (i + r = n) ∧ St w No [hR aC 94 (.slice Ai ((chs n i).length) ci) (chs n i)] W') n ?_ ?_
 ·exact (aW [(0, .int .i64 (((n : Nat) : Int))), (3, .slice A_1_0 0 0), (4, .int .i64 (1))] rfl).elim fun x' hx => ⟨0, A_1_0, 0, x', hx, kO, H9⟩
 ·rintro r10 _ W11 ⟨i, Ai, ci, x12, rfl, hi_i, H13⟩; clear H9
  refine wp_seq ?_
  refine wp_seq ?_
  refine aK [0, 1, 2] rfl ?_
  refine aA ?_
  refine aB rfl (aD rfl) rfl rfl ?_
  refine aA ?_
  refine aB rfl (aD rfl) rfl rfl ?_
  refine aA ?_
  refine aB rfl (eX rfl rfl) rfl rfl ?_
  refine aH ?_
  refine aI ?_
  refine bL rfl (fun hc14 => ?_) (fun hc14 => ?_)
  ·have hlt_i : i < n := by omega
   refine wp_skip ?_
   refine aI ?_
   refine wp_seq ?_
   refine wp_block ?_
   refine wp_seq ?_
   refine aK [0] rfl ?_
   refine aA ?_
   refine aB rfl (aG rfl) rfl rfl ?_
   refine aH ?_
   refine aI ?_
   refine wp_block ?_
   refine wp_loop_ghost (fun r a' W' => ∃ (j : Nat) (Aj : Option Addr) (cj : Nat) (x' : Nat → Value), a' = aO 31 x' [(0, .int .i64 (((n : Nat) : Int))), (3, .slice Aj ((chr (chs n i) i j).length) cj), (4, .int .i64 (((i + 1 : Nat) : Int))), (5, .int .i64 (((j + 1 : Nat) : Int)))] ∧ (j + r = n) ∧ St w No [hR aC 94 (.slice Aj ((chr (chs n i) i j).length) cj) (chr (chs n i) i j)] W') n ?_ ?_
   ·exact (aW [(0, .int .i64 (((n : Nat) : Int))), (3, .slice Ai ((chs n i).length) ci), (4, .int .i64 (((i + 1 : Nat) : Int))), (5, .int .i64 (1))] rfl).elim fun x' hx => ⟨0, Ai, ci, x', hx, kO, H13⟩
   ·rintro r15 _ W16 ⟨j, Aj, cj, x17, rfl, hi_j, H18⟩; clear H13
    refine wp_seq ?_
    refine wp_seq ?_
    refine aK [0, 1, 2] rfl ?_
    refine aA ?_
    refine aB rfl (aD rfl) rfl rfl ?_
    refine aA ?_
    refine aB rfl (aD rfl) rfl rfl ?_
    refine aA ?_
    refine aB rfl (eX rfl rfl) rfl rfl ?_
    refine aH ?_
    refine aI ?_
    refine bL rfl (fun hc19 => ?_) (fun hc19 => ?_)
    ·have hlt_j : j < n := by omega
     refine wp_skip ?_
     refine aI ?_
     refine wp_seq ?_
     refine wp_block ?_
     refine wp_seq ?_
     refine aK [0, 1, 2] rfl ?_
     refine aA ?_
     refine aB rfl (aD rfl) rfl rfl ?_
     refine aA ?_
     refine aB rfl (aD rfl) rfl rfl ?_
     refine aA ?_
     refine aB rfl (rn_neq rfl rfl) rfl rfl ?_
     refine aH ?_
     refine aI ?_
     refine bL rfl (fun hc20 => ?_) (fun hc20 => ?_)
     ·have hadd : (chr (chs n i) i (j + 1)) = (chr (chs n i) i j) ++ [⟨((i + 1 : Nat) : Int), ((j + 1 : Nat) : Int), []⟩] := if_neg kO
      refine aK [0, 1, 2, 3, 4, 5, 6] rfl ?_
      refine aA ?_
      refine aB rfl (aD rfl) rfl rfl ?_
      refine aA ?_
      refine aB rfl (aD rfl) rfl rfl ?_
      refine aA ?_
      refine aB rfl (aD rfl) rfl rfl ?_
      refine aA ?_
      refine aB rfl (cK (vs := [(0, .int .i64 (((i + 1 : Nat) : Int))), (1, .int .i64 (((j + 1 : Nat) : Int)))]) (cells := #[.int .i64 (((i + 1 : Nat) : Int)), .int .i64 (((j + 1 : Nat) : Int)), .slice none 0 0]) rfl kR) rfl rfl ?_
      refine aA ?_
      refine fA rfl Try.runUnderlying24 Try.sizeOf94 kD Try.zeroValue94 rfl rfl rfl rfl H18 ?_
      intro g_11_4 W21 hu22 Ha23; clear H18; clear hu22
      refine aA ?_
      have H27 : St w No [hR aF 31 (.slice none 0 0) ([]), hB g_11_4 94 #[.int .i64 (((i + 1 : Nat) : Int)), .int .i64 (((j + 1 : Nat) : Int)), .slice none 0 0], hR aC 94 (.slice Aj ((chr (chs n i) i j).length) cj) (chr (chs n i) i j)] W21 := Ha23.add0 (q := hR aF 31 (.slice none 0 0) []) R_nil; clear Ha23
      have H28 : St w No [hM aC ⟨((i + 1 : Nat) : Int), ((j + 1 : Nat) : Int), []⟩ [.int .i64 (((i + 1 : Nat) : Int)), .int .i64 (((j + 1 : Nat) : Int)), .slice none 0 0], hB g_11_4 94 #[.int .i64 (((i + 1 : Nat) : Int)), .int .i64 (((j + 1 : Nat) : Int)), .slice none 0 0], hR aC 94 (.slice Aj ((chr (chs n i) i j).length) cj) (chr (chs n i) i j)] W21 := H27.swap (l0 := [hR aF 31 (.slice none 0 0) ([])]) (l' := [hM aC ⟨((i + 1 : Nat) : Int), ((j + 1 : Nat) : Int), []⟩ [.int .i64 (((i + 1 : Nat) : Int)), .int .i64 (((j + 1 : Nat) : Int)), .slice none 0 0]]) (fun _ h => Star.one (bD (x := ⟨((i + 1 : Nat) : Int), ((j + 1 : Nat) : Int), []⟩) h)); clear H27
      have H29 : St w No [hR aC 94 (.slice Aj ((chr (chs n i) i j).length) cj) (chr (chs n i) i j), hB g_11_4 94 #[.int .i64 (((i + 1 : Nat) : Int)), .int .i64 (((j + 1 : Nat) : Int)), .slice none 0 0], hM aC ⟨((i + 1 : Nat) : Int), ((j + 1 : Nat) : Int), []⟩ [.int .i64 (((i + 1 : Nat) : Int)), .int .i64 (((j + 1 : Nat) : Int)), .slice none 0 0]] W21 := H28.pick [2, 1, 0] kD rfl; clear H28
      refine fH (xs := (chr (chs n i) i j)) (p := ⟨((i + 1 : Nat) : Int), ((j + 1 : Nat) : Int), []⟩) (n' := (chr (chs n i) i (j + 1)).length) (ys := (chr (chs n i) i (j + 1))) rfl Try.underlying24 eG rfl kD kD rfl rfl (by have := chr_le n i j h4 kO kO; omega) (by rw [hadd, List.length_append]; rfl) hadd.symm rfl rfl H29 ?_
      intro B_11_5 c_11_5 W25 Ha26; clear H29
      refine aA ?_
      refine aB rfl (aG rfl) rfl rfl ?_
      refine aH ?_
      refine dW ?_
      refine aI ?_
      refine aK [0, 1, 2] rfl ?_
      refine aA ?_
      refine aB rfl (aD rfl) rfl rfl ?_
      refine aA ?_
      refine aB rfl (dP (k := j + 1) rfl rfl kO) rfl rfl ?_
      refine aA ?_
      refine aB rfl (aG rfl) rfl rfl ?_
      refine aH ?_
      refine aI ?_
      exact (aW [(0, .int .i64 (((n : Nat) : Int))), (3, .slice B_11_5 ((chr (chs n i) i (j + 1)).length) c_11_5), (4, .int .i64 (((i + 1 : Nat) : Int))), (5, .int .i64 (((j + 1 + 1 : Nat) : Int)))] rfl).elim fun x' hx => ⟨r15 - 1, kO, j + 1, B_11_5, c_11_5, x', hx, kO, Ha26⟩
     ·have e31 : (chr (chs n i) i (j + 1)) = (chr (chs n i) i j) := if_pos kO
      rw [← e31] at H18 ⊢
      refine wp_skip ?_
      refine dW ?_
      refine aI ?_
      refine aK [0, 1, 2] rfl ?_
      refine aA ?_
      refine aB rfl (aD rfl) rfl rfl ?_
      refine aA ?_
      refine aB rfl (dP (k := j + 1) rfl rfl kO) rfl rfl ?_
      refine aA ?_
      refine aB rfl (aG rfl) rfl rfl ?_
      refine aH ?_
      refine aI ?_
      exact (aW [(0, .int .i64 (((n : Nat) : Int))), (3, .slice Aj ((chr (chs n i) i (j + 1)).length) cj), (4, .int .i64 (((i + 1 : Nat) : Int))), (5, .int .i64 (((j + 1 + 1 : Nat) : Int)))] rfl).elim fun x' hx => ⟨r15 - 1, kO, j + 1, Aj, cj, x', hx, kO, H18⟩
    ·obtain rfl : n = j := by omega
     refine wp_exit ?_
     refine bR ?_
     refine bR ?_
     refine inB_x ?_
     refine dW ?_
     refine aI ?_
     refine aK [0, 1, 2] rfl ?_
     refine aA ?_
     refine aB rfl (aD rfl) rfl rfl ?_
     refine aA ?_
     refine aB rfl (dP (k := i + 1) rfl rfl kO) rfl rfl ?_
     refine aA ?_
     refine aB rfl (aG rfl) rfl rfl ?_
     refine aH ?_
     refine aI ?_
     exact (aW [(0, .int .i64 (((n : Nat) : Int))), (3, .slice Aj ((chr (chs n i) i n).length) cj), (4, .int .i64 (((i + 1 + 1 : Nat) : Int)))] rfl).elim fun x' hx => ⟨r10 - 1, kO, i + 1, Aj, cj, x', hx, kO, H18⟩
  ·obtain rfl : n = i := by omega
   refine wp_exit ?_
   refine bR ?_
   refine bR ?_
   refine inB_x ?_
   refine aI ?_
   refine wp_seq ?_
   refine aK [0, 1] rfl ?_
   refine aA ?_
   refine aB rfl (aD rfl) rfl rfl ?_
   refine aA ?_
   refine aB rfl (aG rfl) rfl rfl ?_
   refine aH ?_
   refine aI ?_
   refine wp_ret ?_
   refine aV (.inl rfl) Try.results18 rfl ?_
   have hq := (H13.pick [0] kD rfl : St w No [hR aC 94 (.slice Ai ((chs n n).length) ci) (chs n n)] W11).fin1
   exact ⟨_, rfl, hq.1, hq.2⟩
theorem allCh_s_out (v : Int) (hv : ¬ (1 ≤ v ∧ v ≤ 4)) (w : World) : Calls Try.prog 18 #[.int .i64 v] w (eH aC 94 [] w) := by
 refine enter 31 [(0, .int .i64 (v))] Try.func18 rfl kR ?_
 intro xj
 have H1 : St w No [] w := St.enter
 refine wp_seq ?_
 refine aK [0] rfl ?_
 refine aA ?_
 refine aB rfl (aG rfl) rfl rfl ?_
 refine aH ?_
 refine aI ?_
 refine wp_seq ?_
 refine aK [0, 1] rfl ?_
 refine aA ?_
 refine op_slice0 (dk := aC) rfl Try.runUnderlying24 Try.sizeOf94 rfl rfl H1 ?_
 intro A_1_0 W2 hu3 Ha4; clear H1; clear hu3
 refine aA ?_
 refine aB rfl (aG rfl) rfl rfl ?_
 refine aH ?_
 refine aI ?_
 refine wp_seq ?_
 refine wp_seq ?_
 refine aK [0, 1, 2] rfl ?_
 refine aA ?_
 refine aB rfl (aD rfl) rfl rfl ?_
 refine aA ?_
 refine aN rfl Try.call61 (vs := #[.int .i64 (v), .int .i64 (1), .int .i64 (4)]) rfl rfl rfl (retb (l1In_s v 1 4 _) (decide_eq_false hv)) ?_
 rintro e8 W7 ⟨rfl, hu6⟩; refine ⟨_, rfl, ?_⟩
 have H9 := Ha4.no hu6; clear Ha4
 refine aA ?_
 refine aB rfl (rn_not rfl) rfl rfl ?_
 refine aH ?_
 refine aI ?_
 refine dO rfl ?_
 refine wp_seq ?_
 refine aK [0, 1] rfl ?_
 refine aA ?_
 refine aB rfl (aD rfl) rfl rfl ?_
 refine aA ?_
 refine aB rfl (aG rfl) rfl rfl ?_
 refine aH ?_
 refine aI ?_
 refine wp_ret ?_
 refine bV ?_
 refine aV (.inl rfl) Try.results18 rfl ?_
 have hq := (H9.pick [0] kD rfl : St w No [hR aC 94 (.slice A_1_0 0 0) ([])] W7).fin1
 exact ⟨_, rfl, hq.1, hq.2⟩
theorem allCh_sA (v : Int) (w : World) : Calls Try.prog 18 #[.int .i64 v] w (eH aC 94 (alO v) w) := by
 unfold alO
 by_cases hv : 1 ≤ v ∧ v ≤ 4
 ·rw [if_pos hv]
  have h := allCh_s v.toNat kO kO w
  rw [show ((v.toNat : Nat) : Int) = v by omega] at h
  exact h
 ·rw [if_neg hv]
  exact allCh_s_out v hv w
theorem allCh_i (n : Nat) (h1 : 1 ≤ n) (h4 : n ≤ 4) (w : World) : Calls Try.prog 17 #[.int .i64 (n : Int)] w (eH aC 94 (chs n n) w) := by
 refine enter 31 [(0, .int .i64 (((n : Nat) : Int)))] Try.func17 rfl kR ?_
 intro xj
 have H1 : St w No [] w := St.enter
 refine wp_seq ?_
 refine aK [0] rfl ?_
 refine aA ?_
 refine aB rfl (aG rfl) rfl rfl ?_
 refine aH ?_
 refine aI ?_
 refine wp_seq ?_
 refine aK [0, 1] rfl ?_
 refine aA ?_
 refine op_slice0 (dk := aC) rfl Try.runUnderlying24 Try.sizeOf94 rfl rfl H1 ?_
 intro A_1_0 W2 hu3 Ha4; clear H1; clear hu3
 refine aA ?_
 refine aB rfl (aG rfl) rfl rfl ?_
 refine aH ?_
 refine aI ?_
 refine wp_seq ?_
 refine wp_seq ?_
 refine aK [0, 1, 2] rfl ?_
 refine aA ?_
 refine aB rfl (aD rfl) rfl rfl ?_
 refine aA ?_
 refine aN rfl Try.call60 (vs := #[.int .i64 (((n : Nat) : Int)), .int .i64 (1), .int .i64 (4)]) rfl rfl rfl (retb (in_i ((n : Nat) : Int) 1 4 _) (decide_eq_true kO)) ?_
 rintro e8 W7 ⟨rfl, hu6⟩; refine ⟨_, rfl, ?_⟩
 have H9 := Ha4.no hu6; clear Ha4
 refine aA ?_
 refine aB rfl (rn_not rfl) rfl rfl ?_
 refine aH ?_
 refine aI ?_
 refine dA rfl ?_
 refine wp_skip ?_
 refine aI ?_
 refine wp_seq ?_
 refine wp_seq ?_
 refine aK [0] rfl ?_
 refine aA ?_
 refine aB rfl (aG rfl) rfl rfl ?_
 refine aH ?_
 refine aI ?_
 refine wp_block ?_
 refine wp_loop_ghost (fun r a' W' => ∃ (i : Nat) (Ai : Option Addr) (ci : Nat) (x' : Nat → Value), a' = aO 31 x' [(0, .int .i64 (((n : Nat) : Int))), (3, .slice Ai ((chs n i).length) ci), (4, .int .i64 (((i + 1 : Nat) : Int)))] ∧ (i + r = n) ∧ St w No [hR aC 94 (.slice Ai ((chs n i).length) ci) (chs n i)] W') n ?_ ?_
 ·exact (aW [(0, .int .i64 (((n : Nat) : Int))), (3, .slice A_1_0 0 0), (4, .int .i64 (1))] rfl).elim fun x' hx => ⟨0, A_1_0, 0, x', hx, kO, H9⟩
 ·rintro r10 _ W11 ⟨i, Ai, ci, x12, rfl, hi_i, H13⟩; clear H9
  refine wp_seq ?_
  refine wp_seq ?_
  refine aK [0, 1, 2] rfl ?_
  refine aA ?_
  refine aB rfl (aD rfl) rfl rfl ?_
  refine aA ?_
  refine aB rfl (aD rfl) rfl rfl ?_
  refine aA ?_
  refine aB rfl (eX rfl rfl) rfl rfl ?_
  refine aH ?_
  refine aI ?_
  refine bL rfl (fun hc14 => ?_) (fun hc14 => ?_)
  ·have hlt_i : i < n := by omega
   refine wp_skip ?_
   refine aI ?_
   refine wp_seq ?_
   refine wp_block ?_
   refine wp_seq ?_
   refine aK [0] rfl ?_
   refine aA ?_
   refine aB rfl (aG rfl) rfl rfl ?_
   refine aH ?_
   refine aI ?_
   refine wp_block ?_
   refine wp_loop_ghost (fun r a' W' => ∃ (j : Nat) (Aj : Option Addr) (cj : Nat) (x' : Nat → Value), a' = aO 31 x' [(0, .int .i64 (((n : Nat) : Int))), (3, .slice Aj ((chr (chs n i) i j).length) cj), (4, .int .i64 (((i + 1 : Nat) : Int))), (5, .int .i64 (((j + 1 : Nat) : Int)))] ∧ (j + r = n) ∧ St w No [hR aC 94 (.slice Aj ((chr (chs n i) i j).length) cj) (chr (chs n i) i j)] W') n ?_ ?_
   ·exact (aW [(0, .int .i64 (((n : Nat) : Int))), (3, .slice Ai ((chs n i).length) ci), (4, .int .i64 (((i + 1 : Nat) : Int))), (5, .int .i64 (1))] rfl).elim fun x' hx => ⟨0, Ai, ci, x', hx, kO, H13⟩
   ·rintro r15 _ W16 ⟨j, Aj, cj, x17, rfl, hi_j, H18⟩; clear H13
    refine wp_seq ?_
    refine wp_seq ?_
    refine aK [0, 1, 2] rfl ?_
    refine aA ?_
    refine aB rfl (aD rfl) rfl rfl ?_
    refine aA ?_
    refine aB rfl (aD rfl) rfl rfl ?_
    refine aA ?_
    refine aB rfl (eX rfl rfl) rfl rfl ?_
    refine aH ?_
    refine aI ?_
    refine bL rfl (fun hc19 => ?_) (fun hc19 => ?_)
    ·have hlt_j : j < n := by omega
     refine wp_skip ?_
     refine aI ?_
     refine wp_seq ?_
     refine wp_block ?_
     refine wp_seq ?_
     refine aK [0, 1, 2] rfl ?_
     refine aA ?_
     refine aB rfl (aD rfl) rfl rfl ?_
     refine aA ?_
     refine aB rfl (aD rfl) rfl rfl ?_
     refine aA ?_
     refine aB rfl (rn_neq rfl rfl) rfl rfl ?_
     refine aH ?_
     refine aI ?_
     refine bL rfl (fun hc20 => ?_) (fun hc20 => ?_)
     ·have hadd : (chr (chs n i) i (j + 1)) = (chr (chs n i) i j) ++ [⟨((i + 1 : Nat) : Int), ((j + 1 : Nat) : Int), []⟩] := if_neg kO
      refine aK [0, 1, 2, 3, 4, 5, 6] rfl ?_
      refine aA ?_
      refine aB rfl (aD rfl) rfl rfl ?_
      refine aA ?_
      refine aB rfl (aD rfl) rfl rfl ?_
      refine aA ?_
      refine aB rfl (aD rfl) rfl rfl ?_
      refine aA ?_
      refine aB rfl (cK (vs := [(0, .int .i64 (((i + 1 : Nat) : Int))), (1, .int .i64 (((j + 1 : Nat) : Int)))]) (cells := #[.int .i64 (((i + 1 : Nat) : Int)), .int .i64 (((j + 1 : Nat) : Int)), .slice none 0 0]) rfl kR) rfl rfl ?_
      refine aA ?_
      refine fA rfl Try.runUnderlying24 Try.sizeOf94 kD Try.zeroValue94 rfl rfl rfl rfl H18 ?_
      intro g_11_4 W21 hu22 Ha23; clear H18; clear hu22
      refine aA ?_
      have H27 : St w No [hR aF 31 (.slice none 0 0) ([]), hB g_11_4 94 #[.int .i64 (((i + 1 : Nat) : Int)), .int .i64 (((j + 1 : Nat) : Int)), .slice none 0 0], hR aC 94 (.slice Aj ((chr (chs n i) i j).length) cj) (chr (chs n i) i j)] W21 := Ha23.add0 (q := hR aF 31 (.slice none 0 0) []) R_nil; clear Ha23
      have H28 : St w No [hM aC ⟨((i + 1 : Nat) : Int), ((j + 1 : Nat) : Int), []⟩ [.int .i64 (((i + 1 : Nat) : Int)), .int .i64 (((j + 1 : Nat) : Int)), .slice none 0 0], hB g_11_4 94 #[.int .i64 (((i + 1 : Nat) : Int)), .int .i64 (((j + 1 : Nat) : Int)), .slice none 0 0], hR aC 94 (.slice Aj ((chr (chs n i) i j).length) cj) (chr (chs n i) i j)] W21 := H27.swap (l0 := [hR aF 31 (.slice none 0 0) ([])]) (l' := [hM aC ⟨((i + 1 : Nat) : Int), ((j + 1 : Nat) : Int), []⟩ [.int .i64 (((i + 1 : Nat) : Int)), .int .i64 (((j + 1 : Nat) : Int)), .slice none 0 0]]) (fun _ h => Star.one (bD (x := ⟨((i + 1 : Nat) : Int), ((j + 1 : Nat) : Int), []⟩) h)); clear H27
      have H29 : St w No [hR aC 94 (.slice Aj ((chr (chs n i) i j).length) cj) (chr (chs n i) i j), hB g_11_4 94 #[.int .i64 (((i + 1 : Nat) : Int)), .int .i64 (((j + 1 : Nat) : Int)), .slice none 0 0], hM aC ⟨((i + 1 : Nat) : Int), ((j + 1 : Nat) : Int), []⟩ [.int .i64 (((i + 1 : Nat) : Int)), .int .i64 (((j + 1 : Nat) : Int)), .slice none 0 0]] W21 := H28.pick [2, 1, 0] kD rfl; clear H28
      refine fH (xs := (chr (chs n i) i j)) (p := ⟨((i + 1 : Nat) : Int), ((j + 1 : Nat) : Int), []⟩) (n' := (chr (chs n i) i (j + 1)).length) (ys := (chr (chs n i) i (j + 1))) rfl Try.underlying24 eG rfl kD kD rfl rfl (by have := chr_le n i j h4 kO kO; omega) (by rw [hadd, List.length_append]; rfl) hadd.symm rfl rfl H29 ?_
      intro B_11_5 c_11_5 W25 Ha26; clear H29
      refine aA ?_
      refine aB rfl (aG rfl) rfl rfl ?_
      refine aH ?_
      refine dW ?_
      refine aI ?_
      refine aK [0, 1, 2] rfl ?_
      refine aA ?_
      refine aB rfl (aD rfl) rfl rfl ?_
      refine aA ?_
      refine aB rfl (dP (k := j + 1) rfl rfl kO) rfl rfl ?_
      refine aA ?_
      refine aB rfl (aG rfl) rfl rfl ?_
      refine aH ?_
      refine aI ?_
      exact (aW [(0, .int .i64 (((n : Nat) : Int))), (3, .slice B_11_5 ((chr (chs n i) i (j + 1)).length) c_11_5), (4, .int .i64 (((i + 1 : Nat) : Int))), (5, .int .i64 (((j + 1 + 1 : Nat) : Int)))] rfl).elim fun x' hx => ⟨r15 - 1, kO, j + 1, B_11_5, c_11_5, x', hx, kO, Ha26⟩
     ·have e31 : (chr (chs n i) i (j + 1)) = (chr (chs n i) i j) := if_pos kO
      rw [← e31] at H18 ⊢
      refine wp_skip ?_
      refine dW ?_
      refine aI ?_
      refine aK [0, 1, 2] rfl ?_
      refine aA ?_
      refine aB rfl (aD rfl) rfl rfl ?_
      refine aA ?_
      refine aB rfl (dP (k := j + 1) rfl rfl kO) rfl rfl ?_
      refine aA ?_
      refine aB rfl (aG rfl) rfl rfl ?_
      refine aH ?_
      refine aI ?_
      exact (aW [(0, .int .i64 (((n : Nat) : Int))), (3, .slice Aj ((chr (chs n i) i (j + 1)).length) cj), (4, .int .i64 (((i + 1 : Nat) : Int))), (5, .int .i64 (((j + 1 + 1 : Nat) : Int)))] rfl).elim fun x' hx => ⟨r15 - 1, kO, j + 1, Aj, cj, x', hx, kO, H18⟩
    ·obtain rfl : n = j := by omega
     refine wp_exit ?_
     refine bR ?_
     refine bR ?_
     refine inB_x ?_
     refine dW ?_
     refine aI ?_
     refine aK [0, 1, 2] rfl ?_
     refine aA ?_
     refine aB rfl (aD rfl) rfl rfl ?_
     refine aA ?_
     refine aB rfl (dP (k := i + 1) rfl rfl kO) rfl rfl ?_
     refine aA ?_
     refine aB rfl (aG rfl) rfl rfl ?_
     refine aH ?_
     refine aI ?_
     exact (aW [(0, .int .i64 (((n : Nat) : Int))), (3, .slice Aj ((chr (chs n i) i n).length) cj), (4, .int .i64 (((i + 1 + 1 : Nat) : Int)))] rfl).elim fun x' hx => ⟨r10 - 1, kO, i + 1, Aj, cj, x', hx, kO, H18⟩
  ·obtain rfl : n = i := by omega
   refine wp_exit ?_
   refine bR ?_
   refine bR ?_
   refine inB_x ?_
   refine aI ?_
   refine wp_seq ?_
   refine aK [0, 1] rfl ?_
   refine aA ?_
   refine aB rfl (aD rfl) rfl rfl ?_
   refine aA ?_
   refine aB rfl (aG rfl) rfl rfl ?_
   refine aH ?_
   refine aI ?_
   refine wp_ret ?_
   refine aV (.inl rfl) Try.results17 rfl ?_
   have hq := (H13.pick [0] kD rfl : St w No [hR aC 94 (.slice Ai ((chs n n).length) ci) (chs n n)] W11).fin1
   exact ⟨_, rfl, hq.1, hq.2⟩
theorem allCh_i_out (v : Int) (hv : ¬ (1 ≤ v ∧ v ≤ 4)) (w : World) : Calls Try.prog 17 #[.int .i64 v] w (eH aC 94 [] w) := by
 refine enter 31 [(0, .int .i64 (v))] Try.func17 rfl kR ?_
 intro xj
 have H1 : St w No [] w := St.enter
 refine wp_seq ?_
 refine aK [0] rfl ?_
 refine aA ?_
 refine aB rfl (aG rfl) rfl rfl ?_
 refine aH ?_
 refine aI ?_
 refine wp_seq ?_
 refine aK [0, 1] rfl ?_
 refine aA ?_
 refine op_slice0 (dk := aC) rfl Try.runUnderlying24 Try.sizeOf94 rfl rfl H1 ?_
 intro A_1_0 W2 hu3 Ha4; clear H1; clear hu3
 refine aA ?_
 refine aB rfl (aG rfl) rfl rfl ?_
 refine aH ?_
 refine aI ?_
 refine wp_seq ?_
 refine wp_seq ?_
 refine aK [0, 1, 2] rfl ?_
 refine aA ?_
 refine aB rfl (aD rfl) rfl rfl ?_
 refine aA ?_
 refine aN rfl Try.call60 (vs := #[.int .i64 (v), .int .i64 (1), .int .i64 (4)]) rfl rfl rfl (retb (in_i v 1 4 _) (decide_eq_false hv)) ?_
 rintro e8 W7 ⟨rfl, hu6⟩; refine ⟨_, rfl, ?_⟩
 have H9 := Ha4.no hu6; clear Ha4
 refine aA ?_
 refine aB rfl (rn_not rfl) rfl rfl ?_
 refine aH ?_
 refine aI ?_
 refine dO rfl ?_
 refine wp_seq ?_
 refine aK [0, 1] rfl ?_
 refine aA ?_
 refine aB rfl (aD rfl) rfl rfl ?_
 refine aA ?_
 refine aB rfl (aG rfl) rfl rfl ?_
 refine aH ?_
 refine aI ?_
 refine wp_ret ?_
 refine bV ?_
 refine aV (.inl rfl) Try.results17 rfl ?_
 have hq := (H9.pick [0] kD rfl : St w No [hR aC 94 (.slice A_1_0 0 0) ([])] W7).fin1
 exact ⟨_, rfl, hq.1, hq.2⟩
theorem allCh_iA (v : Int) (w : World) : Calls Try.prog 17 #[.int .i64 v] w (eH aC 94 (alO v) w) := by
 unfold alO
 by_cases hv : 1 ≤ v ∧ v ≤ 4
 ·rw [if_pos hv]
  have h := allCh_i v.toNat kO kO w
  rw [show ((v.toNat : Nat) : Int) = v by omega] at h
  exact h
 ·rw [if_neg hv]
  exact allCh_i_out v hv w
end Go.Proofs.YtdfipdpeilegpaaFam
namespace Go.Proofs.YtdfipdpeilegpaaFam
open Go.RowKit Go.Proofs.YtdfipdpeilegpaaSep Go.Proofs.YtdfipdpeilegpaaT Go.Proofs.YtdfipdpeilegpaaK
set_option linter.unusedVariables false
set_option linter.unusedSimpArgs false
set_option maxHeartbeats 1000000
set_option maxRecDepth 100000
theorem channel_idx (q0 : Value) (q1 : Value) (p : GChannel → Bool) (l : List GChannel) (A : Option Addr) (c : Nat) (w : World) (h : C aC w A l) (hf : ∀ (x : GChannel) (cs : List Value) (w' : World), Upd No w w' → aC.K w' x cs → Calls Try.prog 108 #[.agg cs.toArray, q0, q1] w' (dU (p x) w')) : Calls Try.prog 107 #[.slice A l.length c, .func (.func 108) #[] #[q0, q1]] w (RetInt (fidx p 0 l) w) := by
 have hn := h.1
 have H := Sd.mk h
 have HF := Sd.mk hf
 clear h hf
 go_enter Try.func107, Try.ntmps107
 go_wp2_with fail
 go_loopg [8] l.length (fun r v wr => ∃ i : Nat, i + r = l.length ∧ v = .int .i64 i ∧ Sd (fidx p 0 l = fidx p i (l.drop i)) ∧ Sd (Upd No w wr))
 case atStart => exact ⟨0, by omega, rfl, ⟨rfl⟩, ⟨Upd.refl _ _⟩⟩
 case round =>
  obtain ⟨i, hi, rfl, HE, HU⟩ := hrel
  by_cases hlt : i < l.length
  ·obtain ⟨ad, A2, c2, rfl, a0, a1, a2, hl2, hC2⟩ := fF (bQ HU.out H.out) i hlt
   have HC2 := Sd.mk hC2
   clear hC2
   go_wp2_with fail
   with_reducible refine (HF.out l[i] _ _ HU.out (ki_Channel_Kmk _ _ hl2 HC2.out)).mono ?_
   rintro e w1 ⟨rfl, hu⟩
   have HU1 := Sd.mk (HU.out.then hu)
   clear hu HU
   have hy := Sd.mk (fidx_yes p l i hlt)
   have hno := Sd.mk (fidx_no p l i hlt)
   cases hb : p l[i]
   ·have HBB := Sd.mk hb
    clear hb
    go_wp2_with fail
    go_roundg (gk - 1)
    case measure => omega
    case rel => exact ⟨i + 1, by omega, by go_num, ⟨HE.out.trans (hno.out HBB.out)⟩, HU1⟩
   ·have HBB := Sd.mk hb
    clear hb
    go_wp2_with fail
    go_ret
    exact ⟨ret_int (by rw [HE.out, hy.out HBB.out]), HU1.out⟩
  ·go_wp2_with fail
   go_ret
   exact ⟨ret_int (by rw [HE.out, fidx_end p l i kO]), HU.out⟩
def chP (a b : Int) (c : GChannel) : Bool := c.From == a && c.To == b
theorem channel_f (a b : Int) (g0 g1 : Nat) (x : GChannel) (cs : List Value) (w : World) (h : aC.K w x cs) (h0 : w.cell? ⟨g0, 0, none⟩ = some (.int .i64 a)) (h1 : w.cell? ⟨g1, 0, none⟩ = some (.int .i64 b)) (l0 : g0 < w.heap.size) (l1 : g1 < w.heap.size) :
 Calls Try.prog 108 #[.agg cs.toArray, .pointer (some ⟨g0, 0, none⟩), .pointer (some ⟨g1, 0, none⟩)] w (dU (chP a b x) w) := by
 obtain ⟨A5, c5, rfl, hl5, hC5⟩ := dK h
 clear h hC5
 by_cases hk : x.From = a
 ·have e1 : (x.From == a) = true := beq_iff_eq.2 hk
  have HK := Sd.mk hk
  clear hk
  go_enter Try.func108, Try.ntmps108
  go_wp2
  repeat (go_quiet (fail); try go_wp2)
  go_ret
  exact ⟨ret_bool (by simp [e1, chP]), by repeat (with_reducible first | exact Upd.refl _ _ | apply Upd.alloc | apply Upd.drewN | apply Upd.drew)⟩
 ·have e1 : (x.From == a) = false := beq_eq_false_iff_ne.2 hk
  have HK := Sd.mk hk
  clear hk
  go_enter Try.func108, Try.ntmps108
  go_wp2
  repeat (go_quiet (fail); try go_wp2)
  go_ret
  exact ⟨ret_bool (by simp [e1, chP]), by repeat (with_reducible first | exact Upd.refl _ _ | apply Upd.alloc | apply Upd.drewN | apply Upd.drew)⟩
theorem channel_i (l : List GChannel) (a b : Int) (A : Option Addr) (c : Nat) (w : World) (h : C aC w A l) : Calls Try.prog 56 #[.slice A l.length c, .int .i64 a, .int .i64 b] w (RetInt (fidx (chP a b) 0 l) w) := by
 have H := Sd.mk h
 clear h
 go_enter Try.func56, Try.ntmps56
 go_wp2_with fail
 with_reducible refine (channel_idx _ _ (chP a b) l _ _ _ ?hc ?hf).mono ?_
 case hc => exact bQ (by repeat (with_reducible first | exact Upd.refl _ _ | apply Upd.alloc)) H.out
 case hf =>
  intro x cs w' hu hK
  exact channel_f a b _ _ x cs w' hK (hu.read (by simp)) (hu.read (by simp)) (Nat.lt_of_lt_of_le (by simp; omega) hu.size) (Nat.lt_of_lt_of_le (by simp) hu.size)
 rintro e w1 ⟨rfl, hu⟩
 have HB : Sd (Upd No w w1) := Sd.mk (Upd.then (by repeat (with_reducible first | exact Upd.refl _ _ | apply Upd.alloc)) hu)
 clear hu
 go_wp2
 go_ret
 exact ⟨rfl, HB.out⟩
theorem l20Find_s (l : List GChannel) (a b : Int) (A : Option Addr) (c : Nat) (w : World) (h : C aC w A l) (hn : l.length ≤ 1048576) : Calls Try.prog 50 #[.slice A l.length c, .int .i64 a, .int .i64 b] w (RetInt (fidx (chP a b) 0 l) w) := by
 have H := Sd.mk h
 clear h
 go_enter Try.func50, Try.ntmps50
 go_wp2
 go_loopg [7] l.length (fun r v wr => ∃ i : Nat, i + r = l.length ∧ v = .int .i64 i ∧ Sd (fidx (chP a b) 0 l = fidx (chP a b) i (l.drop i)) ∧ Sd (Upd No w wr))
 case atStart => exact ⟨0, by omega, rfl, ⟨rfl⟩, ⟨Upd.refl _ _⟩⟩
 case round =>
  obtain ⟨i, hi, rfl, HE, HU⟩ := hrel
  by_cases hlt : i < l.length
  ·obtain ⟨ad, A5, c5, rfl, a0, a1, a2, hl5, hC5⟩ := fF (bQ HU.out H.out) i hlt
   clear hl5 hC5
   have hy := Sd.mk (fidx_yes (chP a b) l i hlt)
   have hno := Sd.mk (fidx_no (chP a b) l i hlt)
   by_cases hk : l[i].From = a
   ·have e1 : (l[i].From == a) = true := beq_iff_eq.2 hk
    have HK := Sd.mk hk
    clear hk
    by_cases hq : l[i].To = b
    ·have e2 : (l[i].To == b) = true := beq_iff_eq.2 hq
     have HQ := Sd.mk hq
     clear hq
     have hv : Sd (fidx (chP a b) 0 l = i) := ⟨HE.out.trans (hy.out (by simp [chP, HK.out, HQ.out]))⟩
     go_wp2
     repeat (go_quiet (fail); try go_wp2)
     go_ret
     exact ⟨ret_int hv.out.symm, by repeat (with_reducible first | exact HU.out | apply Upd.alloc | apply Upd.drewN | apply Upd.drew)⟩
    ·have e2 : (l[i].To == b) = false := beq_eq_false_iff_ne.2 hq
     have HQ := Sd.mk hq
     clear hq
     go_wp2
     repeat (go_quiet (fail); try go_wp2)
     go_roundg (gk - 1)
     case measure => omega
     case rel => exact ⟨i + 1, by omega, by go_num, ⟨HE.out.trans (hno.out (by simp [chP, HQ.out]))⟩, ⟨by repeat (with_reducible first | exact HU.out | apply Upd.alloc | apply Upd.drewN | apply Upd.drew)⟩⟩
   ·have e1 : (l[i].From == a) = false := beq_eq_false_iff_ne.2 hk
    have HK := Sd.mk hk
    clear hk
    go_wp2
    repeat (go_quiet (fail); try go_wp2)
    go_roundg (gk - 1)
    case measure => omega
    case rel => exact ⟨i + 1, by omega, by go_num, ⟨HE.out.trans (hno.out (by simp [chP, HK.out]))⟩, ⟨by repeat (with_reducible first | exact HU.out | apply Upd.alloc | apply Upd.drewN | apply Upd.drew)⟩⟩
  ·go_wp2
   go_ret
   exact ⟨ret_int (HE.out.trans (fidx_end _ _ _ kO _)).symm, HU.out⟩
end Go.Proofs.YtdfipdpeilegpaaFam
namespace Go.Proofs.YtdfipdpeilegpaaSep
open Go.ChangeShapes Go.WideShapes Go.RowKit
section
variable {α : Type}
theorem add_block (a : Addr) (k : Nat) : (a.add k).block = a.block := by
 unfold Addr.add
 split <;> rfl
def TP (d : Kn α) (A : Option Addr) (xs : List α) (W : World) (F : Nat → Prop) : Prop :=
 ∃ Fs : Nat → Nat → Prop, (0 < xs.length → ∃ a, A = some a ∧ F a.block ∧ a.block < W.heap.size) ∧ (∀ j b, Fs j b → F b) ∧ (∀ i j b, Fs i b → Fs j b → i = j) ∧ CM d W A xs Fs
def hT (d : Kn α) (A : Option Addr) (xs : List α) : HP where
 p := TP d A xs
 same := by
  rintro W W' F h ⟨Fs, h1, h2, h3, h4, h5⟩
  refine ⟨Fs, fun hp => ?_, h2, h3, h4, fun hp => ?_⟩
  ·obtain ⟨a, ha, hF, hlt⟩ := h1 hp
   refine ⟨a, ha, hF, ?_⟩
   have q := h a.block hF
   rw [Array.getElem?_eq_getElem hlt] at q
   exact (Array.getElem?_eq_some_iff.1 q).1
  ·obtain ⟨a, ha, hF, hlt⟩ := h1 hp
   obtain ⟨ad, hA, q⟩ := h5 hp
   obtain rfl : a = ad := Option.some.inj (ha.symm.trans hA)
   refine ⟨a, hA, fun j p hj => ?_⟩
   obtain ⟨c, k1, k2⟩ := q j p hj
   refine ⟨c, d.dL (fun b hb => h b (h2 j b hb)) k1, fun i u hu => ?_⟩
   rw [← k2 i u hu]
   exact World.cell?_of_block (w := W) (by rw [add_block]; exact h a.block hF)
 lt := by
  rintro W F ⟨Fs, h1, h2, h3, h4, h5⟩
  refine ⟨fun j b => Fs j b ∧ b < W.heap.size, fun hp => ?_, fun j b hb => ⟨h2 j b hb.1, hb.2⟩, fun i j b hi hj => h3 i j b hi.1 hj.1, h4, fun hp => ?_⟩
  ·obtain ⟨a, ha, hF, hlt⟩ := h1 hp
   exact ⟨a, ha, ⟨hF, hlt⟩, hlt⟩
  ·obtain ⟨ad, hA, q⟩ := h5 hp
   refine ⟨ad, hA, fun j p hj => ?_⟩
   obtain ⟨c, k1, k2⟩ := q j p hj
   exact ⟨c, d.M_lt k1, k2⟩
 mono := by
  rintro W F F' h ⟨Fs, h1, h2, h3, h4⟩
  refine ⟨Fs, fun hp => ?_, fun j b hb => h b (h2 j b hb), h3, h4⟩
  obtain ⟨a, ha, hF, hlt⟩ := h1 hp
  exact ⟨a, ha, h _ hF, hlt⟩
variable {d : Kn α} {e g cap : Nat} {A : Option Addr} {ce : List Value} {y : α} {xs : List α} {l : List HP} {W w : World} {F F0 : Nat → Prop} {v : Value}
theorem EP_tail (h : EP d e g cap 0 ce (y :: xs) W F) (hA : 0 < xs.length → A = some (Addr.add ⟨g, 0, none⟩ (1 * d.sz))) : TP d A xs W F := by
 obtain ⟨cur, Fs, h1, h2, ⟨h3, h3b, h3c⟩, h4, h5, h6, h7, h8⟩ := h
 refine ⟨fun j b => Fs (j + 1) b, fun hp => ⟨_, hA hp, by rw [add_block]; exact h1, by rw [add_block]; exact Blk.lt h2⟩, fun j b hb => (h4 _ b hb).1, fun i j b hi hj => by have := h5 _ _ b hi hj; omega, ?_, fun hp => ⟨_, hA hp, fun j p hj => ⟨_, h6 (j + 1) p kO (by simpa using hj), fun i u hu => ?_⟩⟩⟩
 ·simp only [List.length_cons] at h3
  omega
 ·have hi : i < d.sz := by have := (List.getElem?_eq_some_iff.1 hu).1; simp [piece] at this; omega
  rw [add_add', add_plain, h2.cell]
  simp only [piece, List.getElem?_take, if_pos hi, List.getElem?_drop] at hu
  rw [Nat.succ_mul] at hu
  rw [show 1 * d.sz + (j * d.sz + i) = j * d.sz + d.sz + i by omega]
  simpa using hu
theorem St.tail (H : St w F0 (hE d e g cap 0 ce (y :: xs) :: l) W) (hA : 0 < xs.length → A = some (Addr.add ⟨g, 0, none⟩ (1 * d.sz))) : St w F0 (hT d A xs :: l) W :=
 St.swap (l0 := [hE d e g cap 0 ce (y :: xs)]) (l' := [hT d A xs]) H (fun F h => by
  obtain ⟨F1, F2, h1, _, i1, _, _⟩ := h.uncons
  exact Star.one (EP_tail ((hE d e g cap 0 ce (y :: xs)).mono i1 h1) hA))
end
section
variable {P : Program} {n ty : Nat} {x : Nat → Value} {live : List (Nat × Value)} {W : World} {pos : String} {aft : Array Edge} {y z : Operand}
theorem rn_sliceL {dst : Option Nat} {t e sz k len cap m c : Nat} {A B : Option Addr} (ht : P.underlying t = some (.slice e)) (hS : ∀ w, (sizeOf e).run P w = .ok sz w) (hx : evl n live y = some (.slice A len cap)) (hz : evl n live z = some (.int .i64 (k : Int))) (hk : k ≤ len) (hA : (if cap = k then A else A.map (·.add (k * sz))) = B) (hm : len - k = m) (hc : cap - k = c) :
 Rn P ⟨dst, .slice t y (some z) none none, ty, pos, aft, none⟩ (aO n x live) W (.slice B m c) := by
 have he : P.elem t = e := by simp [Program.elem, ht]
 unfold Rn
 simp [execOp, aZ hx, aZ hz, run_sliceAt_slice (P := P) W t (.slice A len cap) (some (.int .i64 (k : Int))) none none (by rw [he]; exact ht), run_slice_l (P := P) W t A len cap (by rw [he]; exact ht) .i64 (k : Int) kO kO, he, hS, Result.andThen, sliced, hm, hc]
 rw [← hA]
end
end Go.Proofs.YtdfipdpeilegpaaSep
namespace Go.Proofs.YtdfipdpeilegpaaFam
open Go.RowKit Go.Proofs.YtdfipdpeilegpaaSep Go.Proofs.YtdfipdpeilegpaaT Go.Proofs.YtdfipdpeilegpaaK
set_option linter.unusedVariables false
set_option linter.unusedSimpArgs false
set_option maxHeartbeats 1000000
set_option maxRecDepth 100000
theorem flat_Wire : Flat aR := by
 unfold aR
 repeat' first | apply flat_iso | apply flat_pair | apply flat_scalar
theorem clone_Wire (l : List GWire) (A : Option Addr) (c : Nat) (w : World) (h : C aR w A l) (hn : l.length ≤ 4194304) : Calls Try.prog 104 #[.slice A l.length c] w (eH aR 27 l w) := by
 have HC := Sd.mk (CM_of_flat flat_Wire h)
 have eqn := fun (w : World) a n c n' c' => Lib.run_eql_slice_nil (P := Try.prog) w 25 27 a n c n' c' Try.underlying25
 clear h
 go_enter Try.func104, Try.ntmps104
 rcases A with _ | ad
 ·have h0 : l = [] := by
   cases l with
   | nil => rfl
   | cons x l => obtain ⟨ad, q, _⟩ := HC.out.2 (by simp); cases q
  subst h0
  go_wp2
  go_ret
  exact ⟨_, rfl, R_nil, Upd.refl _ _⟩
 ·go_wp2_with (first | (at_builtin; refine R_appAny (d := aR) (e := 27) (ys := l) (xs := []) (F := New w) rfl _ _ 25 _ _ rfl Try.underlying25 fK rfl kD kD (some ad) c (fun _ => No) rfl rfl (R_empty w) (CM_upd (Upd.alloc (Upd.refl _ _) _) HC.out) (fun _ _ q => q.elim) (fun _ _ _ q => q.elim) (by simp; omega) ?_) | fail)
  intro v1 w1 hR hU
  have hR' := Sd.mk hR
  have HU := Sd.mk (((Upd.refl No w).alloc (.cells #[] 27)).trans hU (fun _ _ q => q) (fun b hb q => absurd hb (by simp only [New] at q; omega)))
  clear hR hU
  go_wp2
  go_ret
  exact ⟨_, rfl, dZ (fun b q => by rcases q with q | ⟨j, _, q⟩ | q <;> simp [New, No] at q ⊢ <;> omega) hR'.out, HU.out⟩
theorem l11Copy_s (x : GMessage) (cs : List Value) (w : World) (h : aF.K w x cs) (hs : aQ x ≤ 4194304) : Calls Try.prog 51 #[.agg cs.toArray] w (RetAgg aF x w) := by
 obtain ⟨A5, c5, rfl, hl5, hC5⟩ := dV h
 have HC5 := Sd.mk hC5
 clear hC5
 clear h
 have s_Args : bJ szn_Wire x.bF ≤ 4194304 := by unfold aQ at hs; omega
 have HCM5 := Sd.mk (CM_of_flat flat_Wire HC5.out)
 have n_Args : x.bF.length ≤ 4194304 := by unfold bJ at s_Args; omega
 have S_Args := Sd.mk s_Args
 clear hs s_Args
 go_enter Try.func51, Try.ntmps51
 go_wp2_with (first | (at_builtin; refine R_appAny (d := aR) (e := 27) (ys := x.bF) (xs := []) (F := New _) rfl _ _ 25 _ _ rfl Try.underlying25 fK rfl kD kD A5 c5 (fun _ => No) rfl rfl (R_emptyAt _ _ (by simp)) (CM_upd (by repeat (with_reducible first | exact Upd.refl No _ | apply Upd.put2 | apply Upd.put1 | apply Upd.put0 | apply Upd.alloc | apply Upd.drewN | apply Upd.drew)) HCM5.out) (fun _ _ q => q.elim) (fun _ _ _ q => q.elim) (by simp; omega) ?_) | fail)
 intro v5 w_Args hR5 hu
 obtain ⟨B5, b5, rfl⟩ := bK hR5
 obtain ⟨P5, hR5', g5, l5⟩ : ∃ P : Nat → Prop, R aR 27 w_Args P (.slice B5 x.bF.length b5) x.bF ∧ (∀ b, P b → w.heap.size + 1 + 1 + 1 ≤ b) ∧ (∀ b, P b → b < w_Args.heap.size) := ⟨_, R_lt (dZ (F' := fun b => w.heap.size + 1 + 1 + 1 ≤ b) (fun b q => (by simp [New, No] at q; omega)) hR5), fun b q => q.1, fun b q => q.2⟩
 have n0_5 : ¬ P5 (w.heap.size) := fun q => (by have := g5 _ q; omega)
 have n1_5 : ¬ P5 (w.heap.size + 1) := fun q => (by have := g5 _ q; omega)
 have n2_5 : ¬ P5 (w.heap.size + 1 + 1) := fun q => (by have := g5 _ q; omega)
 have HR5 := Sd.mk hR5'
 have GP5 := Sd.mk g5
 have LT5 := Sd.mk l5
 clear hR5 hR5' g5 l5
 have HB_Args : Sd (Upd No w w_Args) := Sd.mk (Upd.trans (F := No) (by repeat (with_reducible first | exact Upd.refl No _ | apply Upd.put2 | apply Upd.put1 | apply Upd.put0 | apply Upd.alloc | apply Upd.drewN | apply Upd.drew)) hu (fun _ _ q => q) (fun b hb q => (by simp [New] at q; omega)))
 have cc0_Args := fun o => hu.cellsF (b := w.heap.size) kB (by first | (simp [New]; done) | (simp [New]; omega)) o
 have cf0_Args := fun o => hu.fE (b := w.heap.size) kB (by first | (simp [New]; done) | (simp [New]; omega)) o
 have cc1_Args := fun o => hu.cellsF (b := w.heap.size + 1) kB (by first | (simp [New]; done) | (simp [New]; omega)) o
 have cf1_Args := fun o => hu.fE (b := w.heap.size + 1) kB (by first | (simp [New]; done) | (simp [New]; omega)) o
 have cc2_Args := fun o => hu.cellsF (b := w.heap.size + 1 + 1) kB (by first | (simp [New]; done) | (simp [New]; omega)) o
 have cf2_Args := fun o => hu.fE (b := w.heap.size + 1 + 1) kB (by first | (simp [New]; done) | (simp [New]; omega)) o
 have ca0_Args : ∀ p u ob o, ((w_Args.setCell p u).alloc ob).cell? ⟨w.heap.size, o, none⟩ = (w_Args.setCell p u).cell? ⟨w.heap.size, o, none⟩ := fun p u ob o => ((Upd.refl No _).alloc ob).cellsF (b := w.heap.size) (by have := hu.size; simp at this ⊢; omega) (fun q => q) o
 have cb0_Args : ∀ p u ob o, ((w_Args.setCell p u).alloc ob).frozen? ⟨w.heap.size, o, none⟩ = (w_Args.setCell p u).frozen? ⟨w.heap.size, o, none⟩ := fun p u ob o => ((Upd.refl No _).alloc ob).fE (b := w.heap.size) (by have := hu.size; simp at this ⊢; omega) (fun q => q) o
 have ca1_Args : ∀ p u ob o, ((w_Args.setCell p u).alloc ob).cell? ⟨w.heap.size + 1, o, none⟩ = (w_Args.setCell p u).cell? ⟨w.heap.size + 1, o, none⟩ := fun p u ob o => ((Upd.refl No _).alloc ob).cellsF (b := w.heap.size + 1) (by have := hu.size; simp at this ⊢; omega) (fun q => q) o
 have cb1_Args : ∀ p u ob o, ((w_Args.setCell p u).alloc ob).frozen? ⟨w.heap.size + 1, o, none⟩ = (w_Args.setCell p u).frozen? ⟨w.heap.size + 1, o, none⟩ := fun p u ob o => ((Upd.refl No _).alloc ob).fE (b := w.heap.size + 1) (by have := hu.size; simp at this ⊢; omega) (fun q => q) o
 have ca2_Args : ∀ p u ob o, ((w_Args.setCell p u).alloc ob).cell? ⟨w.heap.size + 1 + 1, o, none⟩ = (w_Args.setCell p u).cell? ⟨w.heap.size + 1 + 1, o, none⟩ := fun p u ob o => ((Upd.refl No _).alloc ob).cellsF (b := w.heap.size + 1 + 1) (by have := hu.size; simp at this ⊢; omega) (fun q => q) o
 have cb2_Args : ∀ p u ob o, ((w_Args.setCell p u).alloc ob).frozen? ⟨w.heap.size + 1 + 1, o, none⟩ = (w_Args.setCell p u).frozen? ⟨w.heap.size + 1 + 1, o, none⟩ := fun p u ob o => ((Upd.refl No _).alloc ob).fE (b := w.heap.size + 1 + 1) (by have := hu.size; simp at this ⊢; omega) (fun q => q) o
 have hz_Args : w.heap.size + 1 + 1 + 1 ≤ w_Args.heap.size := (by have := hu.size; (try simp at this); omega)
 clear hu
 go_wp2
 refine bodyPost_ret (v := .agg #[.int .i64 x.Kind, .int .i64 x.Pos, .int .i64 x.bI, .int .i64 x.Question, .string x.Name, .slice B5 x.bF.length b5, .int .i64 x.Value.Kind, .int .i64 x.Value.N, .int .i64 x.Count, .int .i64 x.Tag.Vat, .int .i64 x.Tag.Entity, .int .i64 x.Tag.Seq]) (by simp [results, Try.results51, go_sem, cc1_Args, ca1_Args, cc2_Args, ca2_Args]) rfl ⟨_, rfl, ?_, (by repeat (with_reducible first | exact HB_Args.out | apply Upd.put2 | apply Upd.put1 | apply Upd.put0 | apply Upd.alloc | apply Upd.drewN | apply Upd.drew))⟩
 exact fQ _ _ x (R_keep HR5.out (by repeat (with_reducible first | exact Upd.refl _ _ | apply Upd.putP n0_5 | apply Upd.putP n1_5 | apply Upd.putP n2_5 | apply Upd.alloc | apply Upd.drewN | apply Upd.drew))) (fun k hk => by have := GP5.out k hk; simp only [New]; omega)
theorem copied_Message (x : GMessage) (cs : List Value) (w : World) (h : aF.K w x cs) (hs : aQ x ≤ 4194304) : Calls Try.prog 48 #[.agg cs.toArray] w (RetAgg aF x w) := by
 obtain ⟨A5, c5, rfl, hl5, hC5⟩ := dV h
 have HC5 := Sd.mk hC5
 clear hC5
 clear h
 have s_Args : bJ szn_Wire x.bF ≤ 4194304 := by unfold aQ at hs; omega
 have n_Args : x.bF.length ≤ 4194304 := by unfold bJ at s_Args; omega
 have S_Args := Sd.mk s_Args
 clear hs s_Args
 go_enter Try.func48, Try.ntmps48
 go_wp2_with fail
 with_reducible refine (clone_Wire x.bF _ _ _ ?hc_Args n_Args).mono ?_
 case hc_Args => exact bQ (by repeat (with_reducible first | exact Upd.refl No _ | apply Upd.put2 | apply Upd.put1 | apply Upd.put0 | apply Upd.alloc | apply Upd.drewN | apply Upd.drew)) HC5.out
 rintro e w_Args ⟨v5, rfl, hR5, hu⟩
 obtain ⟨B5, b5, rfl⟩ := bK hR5
 obtain ⟨P5, hR5', g5, l5⟩ : ∃ P : Nat → Prop, R aR 27 w_Args P (.slice B5 x.bF.length b5) x.bF ∧ (∀ b, P b → w.heap.size + 1 + 1 ≤ b) ∧ (∀ b, P b → b < w_Args.heap.size) := ⟨_, R_lt (dZ (F' := fun b => w.heap.size + 1 + 1 ≤ b) (fun b q => (by simp [New, No] at q; omega)) hR5), fun b q => q.1, fun b q => q.2⟩
 have n0_5 : ¬ P5 (w.heap.size) := fun q => (by have := g5 _ q; omega)
 have n1_5 : ¬ P5 (w.heap.size + 1) := fun q => (by have := g5 _ q; omega)
 have HR5 := Sd.mk hR5'
 have GP5 := Sd.mk g5
 have LT5 := Sd.mk l5
 clear hR5 hR5' g5 l5
 have HB_Args : Sd (Upd No w w_Args) := Sd.mk (Upd.then (by repeat (with_reducible first | exact Upd.refl No _ | apply Upd.put2 | apply Upd.put1 | apply Upd.put0 | apply Upd.alloc | apply Upd.drewN | apply Upd.drew)) hu)
 have cc0_Args := fun o => hu.cellsF (b := w.heap.size) kB (fun q => q) o
 have cf0_Args := fun o => hu.fE (b := w.heap.size) kB (fun q => q) o
 have cc1_Args := fun o => hu.cellsF (b := w.heap.size + 1) kB (fun q => q) o
 have cf1_Args := fun o => hu.fE (b := w.heap.size + 1) kB (fun q => q) o
 have ca0_Args : ∀ p u ob o, ((w_Args.setCell p u).alloc ob).cell? ⟨w.heap.size, o, none⟩ = (w_Args.setCell p u).cell? ⟨w.heap.size, o, none⟩ := fun p u ob o => ((Upd.refl No _).alloc ob).cellsF (b := w.heap.size) (by have := hu.size; simp at this ⊢; omega) (fun q => q) o
 have cb0_Args : ∀ p u ob o, ((w_Args.setCell p u).alloc ob).frozen? ⟨w.heap.size, o, none⟩ = (w_Args.setCell p u).frozen? ⟨w.heap.size, o, none⟩ := fun p u ob o => ((Upd.refl No _).alloc ob).fE (b := w.heap.size) (by have := hu.size; simp at this ⊢; omega) (fun q => q) o
 have ca1_Args : ∀ p u ob o, ((w_Args.setCell p u).alloc ob).cell? ⟨w.heap.size + 1, o, none⟩ = (w_Args.setCell p u).cell? ⟨w.heap.size + 1, o, none⟩ := fun p u ob o => ((Upd.refl No _).alloc ob).cellsF (b := w.heap.size + 1) (by have := hu.size; simp at this ⊢; omega) (fun q => q) o
 have cb1_Args : ∀ p u ob o, ((w_Args.setCell p u).alloc ob).frozen? ⟨w.heap.size + 1, o, none⟩ = (w_Args.setCell p u).frozen? ⟨w.heap.size + 1, o, none⟩ := fun p u ob o => ((Upd.refl No _).alloc ob).fE (b := w.heap.size + 1) (by have := hu.size; simp at this ⊢; omega) (fun q => q) o
 have hz_Args : w.heap.size + 1 + 1 ≤ w_Args.heap.size := (by have := hu.size; (try simp at this); omega)
 clear hu
 go_wp2
 refine bodyPost_ret (v := .agg #[.int .i64 x.Kind, .int .i64 x.Pos, .int .i64 x.bI, .int .i64 x.Question, .string x.Name, .slice B5 x.bF.length b5, .int .i64 x.Value.Kind, .int .i64 x.Value.N, .int .i64 x.Count, .int .i64 x.Tag.Vat, .int .i64 x.Tag.Entity, .int .i64 x.Tag.Seq]) (by simp [results, Try.results48, go_sem, cc1_Args, ca1_Args]) rfl ⟨_, rfl, ?_, (by repeat (with_reducible first | exact HB_Args.out | apply Upd.put2 | apply Upd.put1 | apply Upd.put0 | apply Upd.alloc | apply Upd.drewN | apply Upd.drew))⟩
 exact fQ _ _ x (R_keep HR5.out (by repeat (with_reducible first | exact Upd.refl _ _ | apply Upd.putP n0_5 | apply Upd.putP n1_5 | apply Upd.alloc | apply Upd.drewN | apply Upd.drew))) (fun k hk => by have := GP5.out k hk; simp only [New]; omega)
end Go.Proofs.YtdfipdpeilegpaaFam
namespace Go.Proofs.YtdfipdpeilegpaaFam
open Go.RowKit Go.Proofs.YtdfipdpeilegpaaSep Go.Proofs.YtdfipdpeilegpaaT Go.Proofs.YtdfipdpeilegpaaK
set_option linter.unusedVariables false
set_option linter.unusedSimpArgs false
set_option maxHeartbeats 8000000
set_option maxRecDepth 100000
theorem copied_Channel (x : GChannel) (cs : List Value) (w : World) (h : aC.K w x cs) (hs : aL x ≤ 4194304) : Calls Try.prog 57 #[.agg cs.toArray] w (RetAgg aC x w) := by
 obtain ⟨A2, c2, rfl, hl2, hC2⟩ := dK h
 have HC2 := Sd.mk hC2
 clear hC2
 clear h
 have s_List : bJ aQ x.List ≤ 4194304 := by unfold aL at hs; omega
 have n_List : x.List.length ≤ 4194304 := by unfold bJ at s_List; omega
 have S_List := Sd.mk s_List
 clear hs s_List
 go_enter Try.func57, Try.ntmps57
 go_wp2
 have hb0 : Sd (Blk (((w.alloc (.cells #[.int .i64 x.From, .int .i64 x.To, .slice A2 x.List.length c2] 94)).alloc (.cells #[.int .i64 0, .int .i64 0, .slice none 0 0] 94)).alloc (.cells #[.int .i64 x.From, .int .i64 x.To, .slice none 0 0] 94)) w.heap.size 94 #[.int .i64 x.From, .int .i64 x.To, .slice A2 x.List.length c2]) := ⟨((Blk.new _ _ _).alloc _).alloc _⟩
 have hb1 : Sd (Blk (((w.alloc (.cells #[.int .i64 x.From, .int .i64 x.To, .slice A2 x.List.length c2] 94)).alloc (.cells #[.int .i64 0, .int .i64 0, .slice none 0 0] 94)).alloc (.cells #[.int .i64 x.From, .int .i64 x.To, .slice none 0 0] 94)) (w.heap.size + 1) 94 #[.int .i64 0, .int .i64 0, .slice none 0 0]) := ⟨(Blk.newAt (by simp)).alloc _⟩
 have hb2 : Sd (Blk (((w.alloc (.cells #[.int .i64 x.From, .int .i64 x.To, .slice A2 x.List.length c2] 94)).alloc (.cells #[.int .i64 0, .int .i64 0, .slice none 0 0] 94)).alloc (.cells #[.int .i64 x.From, .int .i64 x.To, .slice none 0 0] 94)) (w.heap.size + 1 + 1) 94 #[.int .i64 x.From, .int .i64 x.To, .slice none 0 0]) := ⟨Blk.newAt (by simp)⟩
 have HBW : Sd (Upd No w (((w.alloc (.cells #[.int .i64 x.From, .int .i64 x.To, .slice A2 x.List.length c2] 94)).alloc (.cells #[.int .i64 0, .int .i64 0, .slice none 0 0] 94)).alloc (.cells #[.int .i64 x.From, .int .i64 x.To, .slice none 0 0] 94))) := ⟨(((Upd.refl _ _).alloc _).alloc _).alloc _⟩
 generalize (((w.alloc (.cells #[.int .i64 x.From, .int .i64 x.To, .slice A2 x.List.length c2] 94)).alloc (.cells #[.int .i64 0, .int .i64 0, .slice none 0 0] 94)).alloc (.cells #[.int .i64 x.From, .int .i64 x.To, .slice none 0 0] 94)) = ws0 at *
 have hz_0 : w.heap.size + 1 + 1 < ws0.heap.size := hb2.out.lt
 have t0_0 := hb0.out.at 0 (v := .int .i64 x.From) rfl
 have t0_1 := hb0.out.at 1 (v := .int .i64 x.To) rfl
 have t0_2 := hb0.out.at 2 (v := .slice A2 x.List.length c2) rfl
 go_wp2
 clear t0_0 t0_1 t0_2
 go_loopg [14] x.List.length (fun r v wr0 => ∃ (i : Nat) (u0 : Value), i + r = x.List.length ∧ v = .int .i64 i ∧ Sd (Blk wr0 (w.heap.size + 1 + 1) 94 #[.int .i64 x.From, .int .i64 x.To, u0]) ∧ Sd (R aF 31 wr0 (New ws0) u0 (x.List.take i)) ∧ Sd (Upd (fun b => b = (w.heap.size + 1 + 1)) ws0 wr0))
 case atStart => exact ⟨0, .slice none 0 0, by omega, rfl, hb2, ⟨R_nil⟩, ⟨Upd.refl _ _⟩⟩
 case round =>
  obtain ⟨i0, u0, hi0, rfl, HB2, HR, HU⟩ := hrel
  obtain ⟨wr0, rfl⟩ : ∃ z, z = wr := ⟨_, rfl⟩
  have HW : Sd (Upd No w wr0) := ⟨Upd.trans HBW.out HU.out (fun _ _ q => q) (fun b hb q => absurd hb kO)⟩
  have hzr0 := HU.out.size
  by_cases hlt : i0 < x.List.length
  ·obtain ⟨ad, D5, d5, rfl, a0, a1, a2, a3, a4, a5, a6, a7, a8, a9, a10, a11, hm5, hD5⟩ := ki_Message_at (bQ HW.out HC2.out) i0 hlt
   have HD5 := Sd.mk hD5
   clear hD5
   have hsi : aQ x.List[i0] ≤ 4194304 := by have := fJ aQ x.List i0 hlt; have := S_List.out; unfold bJ at *; omega
   obtain ⟨Bu, bu, hv⟩ := bK HR.out
   rw [List.length_take, Nat.min_eq_left kO] at hv
   subst hv
   go_wp2_with fail
   refine gen_box ?_
   intro wm hB hUm
   clear a0 a1 a2 a3 a4 a5 a6 a7 a8 a9 a10 a11
   have a0 := hB.at 0 (v := .int .i64 x.List[i0].Kind) rfl
   have a1 := hB.at 1 (v := .int .i64 x.List[i0].Pos) rfl
   have a2 := hB.at 2 (v := .int .i64 x.List[i0].bI) rfl
   have a3 := hB.at 3 (v := .int .i64 x.List[i0].Question) rfl
   have a4 := hB.at 4 (v := .string x.List[i0].Name) rfl
   have a5 := hB.at 5 (v := .slice D5 x.List[i0].bF.length d5) rfl
   have a6 := hB.at 6 (v := .int .i64 x.List[i0].Value.Kind) rfl
   have a7 := hB.at 7 (v := .int .i64 x.List[i0].Value.N) rfl
   have a8 := hB.at 8 (v := .int .i64 x.List[i0].Count) rfl
   have a9 := hB.at 9 (v := .int .i64 x.List[i0].Tag.Vat) rfl
   have a10 := hB.at 10 (v := .int .i64 x.List[i0].Tag.Entity) rfl
   have a11 := hB.at 11 (v := .int .i64 x.List[i0].Tag.Seq) rfl
   have HUm := Sd.mk hUm
   have hzm := hUm.size
   have hbl := hB.lt
   have HBe := Sd.mk hB
   clear hB hUm
   replace HD5 := Sd.mk (bQ HUm.out HD5.out)
   have HBo := Sd.mk (HB2.out.no HUm.out)
   have HR1 := Sd.mk (R_no HUm.out (R_lt HR.out))
   have so := HBo.out.at 2 (v := .slice Bu i0 bu) rfl
   have fo := HBo.out.free 2
   clear HR HB2
   go_region_law (first | (go_simp; go_at_call 48; (with_reducible refine (copied_Message x.List[i0] _ _ (dS _ _ hm5 (bQ (by repeat (with_reducible first | exact Upd.refl _ _ | apply Upd.alloc | apply Upd.drewN | apply Upd.drew)) HD5.out)) hsi).mono ?_); rintro e w1 ⟨cs, rfl, hM, hu⟩; have HM := Sd.mk (aF.dN (F' := fun b => wm.heap.size ≤ b) (fun b q => Nat.le_trans (Upd.size ((by repeat (with_reducible first | exact Upd.refl _ _ | apply Upd.alloc | apply Upd.drewN | apply Upd.drew)) : Upd No wm _)) q) hM); obtain ⟨v5, P5, rfl, r5, -⟩ := ki_Message_M hM; obtain ⟨Bz5, bz5, rfl⟩ := bK r5; clear r5; have HY : Sd (Upd No wm w1) := Sd.mk (Upd.then (by repeat (with_reducible first | exact Upd.refl _ _ | apply Upd.alloc | apply Upd.drewN | apply Upd.drew)) hu); skip; have HRA := Sd.mk (R_no HY.out HR1.out); have hz1 := HY.out.size; have HBp := Sd.mk (HBo.out.no HY.out); have so1 := HBp.out.at 2 (v := .slice Bu i0 bu) rfl; have fo1 := HBp.out.free 2; have sa1 := (fun ob => (HBp.out.alloc ob).at 2 (v := .slice Bu i0 bu) rfl); clear hu hM) | ((refine R_appStep (d := aF) (e := 31) rfl _ _ 37 _ _ rfl Try.underlying37 dH rfl kD kD x.List[i0] _ _ _ rfl rfl rfl HRA.out HM.out (fun b hb q => absurd q.2 kO) (by rw [List.length_take, Nat.min_eq_left kO]; omega) ?_); intro v2 w2 hR hu2; rw [← List.take_succ_eq_append_getElem hlt] at hR; obtain ⟨B2, b2, hv2⟩ := bK hR; rw [List.length_take, Nat.min_eq_left kO] at hv2; subst hv2; have HBq := Sd.mk (HBp.out.upd hu2 (fun q => absurd q.1 (by simp only [New]; omega))); have so2 := HBq.out.at 2 (v := .slice Bu i0 bu) rfl; have fo2 := HBq.out.free 2; have hz2 := hu2.size; have hR3 := Sd.mk (dZ (F' := New ws0) (fun b q => (by simp only [New] at q ⊢; omega)) hR); have HX2 : Sd (Upd (fun b => b = (w.heap.size + 1 + 1)) ws0 w2) := Sd.mk (HU.out.trans (Upd.trans (H := fun b => ws0.heap.size ≤ b) (HUm.out.then HY.out) hu2 (fun _ _ q => q.elim) (fun b hb q => (by have := q.1; simp only [New] at this; omega))) (fun _ _ q => q) (fun b hb q => absurd hb kO)); clear hR hu2))
   all_goals
    go_wp2
    go_roundg (gk - 1)
    case measure => omega
    case rel =>
     refine ⟨i0 + 1, .slice B2 (i0 + 1) b2, by omega, by go_num, ⟨?_⟩, ⟨?_⟩, ⟨?_⟩⟩
     ·exact Blk.put HBq.out 2 _ rfl
     ·exact R_upd (Upd.set (F := fun b => b = (w.heap.size + 1 + 1)) (Upd.refl _ _) _ _ (.inr rfl)) (fun b q z => by simp only [New] at q; omega) hR3.out
     ·exact Upd.set HX2.out _ _ (.inr rfl)
  ·have hie : i0 = x.List.length := by omega
   rw [hie, List.take_length] at HR
   obtain ⟨B2, b2, hv⟩ := bK HR.out
   subst hv
   clear hie
   replace HBW := HW
   replace hb0 := Sd.mk (hb0.out.upd HU.out kO)
   replace hb1 := Sd.mk (hb1.out.upd HU.out kO)
   replace hb2 := HB2
   have HR2 : Sd (R aF 31 wr0 (Iv ws0.heap.size wr0.heap.size) (.slice B2 x.List.length b2) x.List) := Sd.mk (R_lt HR.out)
   clear HR HU HB2 HW
   have t2_0 := hb2.out.at 0 (v := .int .i64 x.From) rfl
   have t2_1 := hb2.out.at 1 (v := .int .i64 x.To) rfl
   have t2_2 := hb2.out.at 2 (v := .slice B2 x.List.length b2) rfl
   have t1_0 := hb1.out.at 0 (v := .int .i64 0) rfl
   have t1_1 := hb1.out.at 1 (v := .int .i64 0) rfl
   have t1_2 := hb1.out.at 2 (v := .slice none 0 0) rfl
   have f1 := hb1.out.free
   go_wp2
   refine bodyPost_ret (v := .agg #[.int .i64 x.From, .int .i64 x.To, .slice B2 x.List.length b2]) (by simp [results, Try.results57, go_sem, t1_0, t1_1, t1_2]) rfl ⟨_, rfl, ?_, ?_⟩
   ·exact fT _ _ x (R_upd ((by repeat (first | (with_reducible exact Upd.refl _ _) | (refine Upd.set ?_ _ _ (.inr rfl)))) : Upd (fun b => b = (w.heap.size + 1)) wr0 _) (fun b q z => by (try simp only [Iv] at q); (try dsimp only at q); omega) HR2.out) (fun k hk => by (try simp only [Iv] at hk); (try dsimp only at hk); simp only [New]; omega)
   ·exact Upd.trans HBW.out ((by repeat (first | (with_reducible exact Upd.refl _ _) | (refine Upd.set ?_ _ _ (.inr rfl)))) : Upd (fun b => b = (w.heap.size + 1)) wr0 _) (fun _ _ q => q) (fun b hb q => by omega)
theorem fD (l : List GChannel) (A : Option Addr) (c : Nat) (w : World) (h : C aC w A l) (hs : bJ aL l ≤ 4194304) : Calls Try.prog 46 #[.slice A l.length c] w (eH aC 94 l w) := by
 have hn : l.length ≤ 4194304 := by unfold bJ at hs; omega
 have H := Sd.mk h
 have HS := Sd.mk hs
 clear h hs
 go_enter Try.func46, Try.ntmps46
 go_wp2
 have hR0 : Sd (R aC 94 (w.alloc (.cells #[] 94)) (New w) (.slice (some ⟨w.heap.size, 0, none⟩) 0 0) []) := ⟨R_empty w⟩
 have hU0 : Sd (Upd No w (w.alloc (.cells #[] 94))) := ⟨(Upd.refl _ _).alloc _⟩
 go_loopg [3, 9] l.length (fun r u v wr => ∃ i : Nat, i + r = l.length ∧ v = .int .i64 i ∧ Sd (R aC 94 wr (New w) u (l.take i)) ∧ Sd (Upd No w wr))
 case atStart => exact ⟨0, by omega, rfl, hR0, hU0⟩
 case round =>
  clear hR0 hU0
  obtain ⟨i, hi, rfl, HR, HU⟩ := hrel
  by_cases hlt : i < l.length
  ·obtain ⟨ad, A2, c2, rfl, a0, a1, a2, hl2, hC2⟩ := fF (bQ HU.out H.out) i hlt
   have HC2 := Sd.mk hC2
   clear hC2
   have hsi : aL l[i] ≤ 4194304 := by have := fJ aL l i hlt; have := HS.out; unfold bJ at *; omega
   go_wp2_with fail
   with_reducible refine (copied_Channel l[i] _ _ (ki_Channel_Kmk _ _ hl2 ?hc2) hsi).mono ?_
   case hc2 => exact bQ (by repeat (with_reducible first | exact Upd.refl _ _ | apply Upd.alloc | apply Upd.drewN | apply Upd.drew)) HC2.out
   rintro e w1 ⟨cs, rfl, hM, hu⟩
   obtain ⟨v2, P2, rfl, r2, -⟩ := ki_Channel_M hM
   obtain ⟨B2, b2, rfl⟩ := bK r2
   clear r2
   have hu' : Upd No wr w1 := Upd.then (by repeat (with_reducible first | exact Upd.refl _ _ | apply Upd.alloc | apply Upd.drewN | apply Upd.drew)) hu
   have hz := HU.out.size
   have hz1 := hu'.size
   have HRA := Sd.mk (R_upd hu' (fun _ _ q => q) (R_lt HR.out))
   have HM := Sd.mk (aC.dN (F' := fun b => wr.heap.size ≤ b) (fun b hb => by simp [New] at hb; omega) hM)
   have HU1 := Sd.mk (HU.out.then hu')
   clear HR hM hu hu' HU a0 a1 a2
   go_wp2_with (first | (at_builtin; refine R_appOne (d := aC) (e := 94) rfl _ _ 24 _ _ rfl Try.underlying24 eG rfl kD kD l[i] _ _ _ rfl rfl rfl HRA.out HM.out (fun b hb q => absurd q.2 kO) (by rw [List.length_take, Nat.min_eq_left kO]; omega) ?_) | fail)
   intro v1 w2 hR hu
   have hR' := Sd.mk (dZ (F' := New w) (fun b q => by simp only [New] at q ⊢; omega) hR)
   have HU2 : Sd (Upd No w w2) := Sd.mk (HU1.out.trans hu (fun _ _ q => q) (fun b hb q => absurd hb (by have := q.1; simp only [New] at this; omega)))
   clear hR hu
   go_wp2
   go_roundg (gk - 1)
   case measure => omega
   case rel => exact ⟨i + 1, by omega, by go_num, hR', HU2⟩
  ·go_wp2
   go_ret
   have hRR := HR.out
   rw [List.take_of_length_le kO] at hRR
   exact ⟨_, rfl, hRR, HU.out⟩
theorem l20CopyList_s (l : List GMessage) (A : Option Addr) (c : Nat) (w : World) (h : C aF w A l) (hs : bJ aQ l ≤ 4194304) : Calls Try.prog 105 #[.slice A l.length c] w (eH aF 31 l w) := by
 have hn : l.length ≤ 4194304 := by unfold bJ at hs; omega
 have H := Sd.mk h
 have HS := Sd.mk hs
 clear h hs
 go_enter Try.func105, Try.ntmps105
 go_wp2
 have hR0 : Sd (R aF 31 (w.alloc (.cells #[] 31)) (New w) (.slice (some ⟨w.heap.size, 0, none⟩) 0 0) []) := ⟨R_empty w⟩
 have hU0 : Sd (Upd No w (w.alloc (.cells #[] 31))) := ⟨(Upd.refl _ _).alloc _⟩
 go_loopg [3, 4] l.length (fun r u v wr => ∃ i : Nat, i + r = l.length ∧ v = .int .i64 i ∧ Sd (R aF 31 wr (New w) u (l.take i)) ∧ Sd (Upd No w wr))
 case atStart => exact ⟨0, by omega, rfl, hR0, hU0⟩
 case round =>
  clear hR0 hU0
  obtain ⟨i, hi, rfl, HR, HU⟩ := hrel
  by_cases hlt : i < l.length
  ·obtain ⟨ad, A5, c5, rfl, a0, a1, a2, a3, a4, a5, a6, a7, a8, a9, a10, a11, hl5, hC5⟩ := ki_Message_at (bQ HU.out H.out) i hlt
   have HC5 := Sd.mk hC5
   clear hC5
   have hsi : aQ l[i] ≤ 4194304 := by have := fJ aQ l i hlt; have := HS.out; unfold bJ at *; omega
   go_wp2_with fail
   with_reducible refine (l11Copy_s l[i] _ _ (dS _ _ hl5 ?hc5) hsi).mono ?_
   case hc5 => exact bQ (by repeat (with_reducible first | exact Upd.refl _ _ | apply Upd.alloc | apply Upd.drewN | apply Upd.drew)) HC5.out
   rintro e w1 ⟨cs, rfl, hM, hu⟩
   obtain ⟨v5, P5, rfl, r5, -⟩ := ki_Message_M hM
   obtain ⟨B5, b5, rfl⟩ := bK r5
   clear r5
   have hu' : Upd No wr w1 := Upd.then (by repeat (with_reducible first | exact Upd.refl _ _ | apply Upd.alloc | apply Upd.drewN | apply Upd.drew)) hu
   have hz := HU.out.size
   have hz1 := hu'.size
   have HRA := Sd.mk (R_upd hu' (fun _ _ q => q) (R_lt HR.out))
   have HM := Sd.mk (aF.dN (F' := fun b => wr.heap.size ≤ b) (fun b hb => by simp [New] at hb; omega) hM)
   have HU1 := Sd.mk (HU.out.then hu')
   clear HR hM hu hu' HU a0 a1 a2 a3 a4 a5 a6 a7 a8 a9 a10 a11
   go_wp2_with (first | (at_builtin; refine R_appOne (d := aF) (e := 31) rfl _ _ 37 _ _ rfl Try.underlying37 dH rfl kD kD l[i] _ _ _ rfl rfl rfl HRA.out HM.out (fun b hb q => absurd q.2 kO) (by rw [List.length_take, Nat.min_eq_left kO]; omega) ?_) | fail)
   intro v1 w2 hR hu
   have hR' := Sd.mk (dZ (F' := New w) (fun b q => by simp only [New] at q ⊢; omega) hR)
   have HU2 : Sd (Upd No w w2) := Sd.mk (HU1.out.trans hu (fun _ _ q => q) (fun b hb q => absurd hb (by have := q.1; simp only [New] at this; omega)))
   clear hR hu
   go_wp2
   go_roundg (gk - 1)
   case measure => omega
   case rel => exact ⟨i + 1, by omega, by go_num, hR', HU2⟩
  ·go_wp2
   go_ret
   have hRR := HR.out
   rw [List.take_of_length_le kO] at hRR
   exact ⟨_, rfl, hRR, HU.out⟩
theorem l20Copy_s (l : List GChannel) (A : Option Addr) (c : Nat) (w : World) (h : C aC w A l) (hs : bJ aL l ≤ 4194304) : Calls Try.prog 49 #[.slice A l.length c] w (eH aC 94 l w) := by
 have hn : l.length ≤ 4194304 := by unfold bJ at hs; omega
 have H := Sd.mk h
 have HS := Sd.mk hs
 clear h hs
 go_enter Try.func49, Try.ntmps49
 go_wp2
 have hR0 : Sd (R aC 94 (w.alloc (.cells #[] 94)) (New w) (.slice (some ⟨w.heap.size, 0, none⟩) 0 0) []) := ⟨R_empty w⟩
 have hU0 : Sd (Upd No w (w.alloc (.cells #[] 94))) := ⟨(Upd.refl _ _).alloc _⟩
 go_loopg [3, 4] l.length (fun r u v wr => ∃ i : Nat, i + r = l.length ∧ v = .int .i64 i ∧ Sd (R aC 94 wr (New w) u (l.take i)) ∧ Sd (Upd No w wr))
 case atStart => exact ⟨0, by omega, rfl, hR0, hU0⟩
 case round =>
  clear hR0 hU0
  obtain ⟨i, hi, rfl, HR, HU⟩ := hrel
  by_cases hlt : i < l.length
  ·obtain ⟨ad, A2, c2, rfl, a0, a1, a2, hl2, hC2⟩ := fF H.out i hlt
   have HC2 := Sd.mk (bQ HU.out hC2)
   have hsi : aL l[i] ≤ 4194304 := by have := fJ aL l i hlt; have := HS.out; unfold bJ at *; omega
   have hsl : bJ aQ l[i].List ≤ 4194304 := by unfold aL at hsi; omega
   have HSL := Sd.mk hsl
   clear hC2 hsi hsl
   have b0 := HU.out.read a0
   have b1 := HU.out.read a1
   have b2 := HU.out.read a2
   have hz := HU.out.size
   go_wp2_with fail
   go_region_held3 (fun w' => w'.cell? (ad.add (i * 3)) = some (.int .i64 l[i].From) ∧ w'.cell? ⟨(ad.add (i * 3)).block, (ad.add (i * 3)).off + 1, none⟩ = some (.int .i64 l[i].To) ∧ w'.cell? ⟨(ad.add (i * 3)).block, (ad.add (i * 3)).off + 2, none⟩ = some (.slice A2 l[i].List.length c2))
    (first | exact ⟨b0, b1, b2⟩ | exact ⟨(HU1.out).read a0, (HU1.out).read a1, (HU1.out).read a2⟩ | exact ⟨(HU1.out.alloc _).read a0, (HU1.out.alloc _).read a1, (HU1.out.alloc _).read a2⟩ | exact ⟨(HU2.out).read a0, (HU2.out).read a1, (HU2.out).read a2⟩)
    (first
     | (go_at_call 105; (with_reducible refine (l20CopyList_s l[i].List _ _ _ (bQ (by repeat (with_reducible first | exact Upd.refl _ _ | apply Upd.alloc | apply Upd.drewN | apply Upd.drew)) HC2.out) HSL.out).mono ?_); rintro e w1 ⟨v2, rfl, hR2, hu⟩; obtain ⟨B2, b2, rfl⟩ := bK hR2; have hu' : Upd No wr w1 := Upd.then (by repeat (with_reducible first | exact Upd.refl _ _ | apply Upd.alloc | apply Upd.drewN | apply Upd.drew)) hu; have hz1 := hu'.size; have HRA := Sd.mk (R_upd hu' (fun _ _ q => q) (R_lt HR.out)); have HM := Sd.mk (fT w1 (fun b => wr.heap.size ≤ b) l[i] hR2 (fun k hk => hk)); have HU1 := Sd.mk (HU.out.then hu'); clear hu hR2 hu')
     | (refine R_appStep (d := aC) (e := 94) rfl _ _ 24 _ _ rfl Try.underlying24 eG rfl kD kD l[i] _ _ _ rfl rfl rfl HRA.out HM.out (fun b hb q => absurd q.2 kO) (by rw [List.length_take, Nat.min_eq_left kO]; omega) ?_; intro v1 w2 hR hu2; rw [← List.take_succ_eq_append_getElem hlt] at hR; have hR' := Sd.mk (dZ (F' := New w) (fun b q => by simp only [New] at q ⊢; omega) hR); have HU2 : Sd (Upd No w w2) := Sd.mk (HU1.out.trans hu2 (fun _ _ q => q) (fun b hb q => absurd hb (by have := q.1; simp only [New] at this; omega)))))
   all_goals
    go_wp2
    go_roundg (gk - 1)
    case measure => omega
    case rel => exact ⟨i + 1, by omega, by go_num, hR', HU2⟩
  ·go_wp2
   go_ret
   have hRR := HR.out
   rw [List.take_of_length_le kO] at hRR
   exact ⟨_, rfl, hRR, HU.out⟩
end Go.Proofs.YtdfipdpeilegpaaFam

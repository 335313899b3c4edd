/- What the row needs, packed. No conditions beyond those that each law names. -/
import Derived.WalkKit
import Derived.Below
import Derived.OwnWalk
import Derived.Laws.AppendOwn
import Derived.Deep.Slices
import Derived.Deep.Draws
import Derived.Laws.Rows
import Derived.ChangeArms
import Derived.WideShapes
import Derived.Laws.MakeOwn
import Derived.Maps.AppendAt
import Derived.Deep.AppendLies
import Derived.WalkSpells
import Derived.Deep.RegionHeld3
import Derived.OrdersHeld
import Derived.Deep.LoopGhost
import Derived.Laws.CopyRow
import Derived.KernelRfl
import Derived.IntWalk
import Derived.Test.YtdfipdpeilegpaaProg
import Derived.RowKit3
import Derived.Deep.QuietTactic
import Derived.BigQuiet
import Derived.StillTailTactics
import Derived.Deep.RegionLaw
import Derived.Deep.DeepCutAuto
namespace Go.Proofs.YtdfipdpeilegpaaSep
theorem kA {p : Prop} (h : p := by repeat (with_reducible first | exact Upd.refl _ _ | apply Upd.put2 | apply Upd.put1 | apply Upd.put0 | apply Upd.alloc | apply Upd.drewN | apply Upd.drew)) : p := h
theorem kB {p : Prop} (h : p := by first | omega | (simp; done) | (simp; omega)) : p := h
theorem kC {p : Prop} (h : p := by repeat (with_reducible first | exact Upd.refl _ _ | apply Upd.setg)) : p := h
theorem kR {p : Prop} (h : p := by kernel_rfl) : p := h
theorem kD {p : Prop} (h : p := by decide) : p := h
theorem kO {p : Prop} (h : p := by omega) : p := h
theorem kS {p : Prop} (h : p := by simp [Value.oneCell']) : p := h
end Go.Proofs.YtdfipdpeilegpaaSep
namespace Go.Proofs.YtdfipdpeilegpaaSep
open Go.ChangeShapes Go.WideShapes Go.RowKit
structure Sd (p : Prop) : Prop where mk :: (out : p)
structure Upd (F : Nat → Prop) (w w' : World) : Prop where
 os : w'.os = w.os
 tape : w'.tape = w.tape
 output : w'.output = w.output
 size : w.heap.size ≤ w'.heap.size
 block : ∀ b, b < w.heap.size → ¬ F b → w'.heap[b]? = w.heap[b]?
def No : Nat → Prop := fun _ => False
theorem Upd.refl (F : Nat → Prop) (w : World) : Upd F w w := ⟨rfl, rfl, rfl, Nat.le_refl _, fun _ _ _ => rfl⟩
theorem Upd.trans {F G H : Nat → Prop} {w w1 w2 : World} (h : Upd F w w1) (k : Upd G w1 w2) (hF : ∀ b, b < w.heap.size → F b → H b) (hG : ∀ b, b < w.heap.size → G b → H b) : Upd H w w2 :=
 ⟨k.os.trans h.os, k.tape.trans h.tape, k.output.trans h.output, Nat.le_trans h.size k.size, fun b hb hH => (k.block b (Nat.lt_of_lt_of_le hb h.size) (fun q => hH (hG b hb q))).trans (h.block b hb (fun q => hH (hF b hb q)))⟩
theorem Upd.mono {F G : Nat → Prop} {w w' : World} (h : Upd F w w') (hF : ∀ b, b < w.heap.size → F b → G b) : Upd G w w' := ⟨h.os, h.tape, h.output, h.size, fun b hb hG => h.block b hb (fun q => hG (hF b hb q))⟩
theorem Upd.then {w w1 w2 : World} (h : Upd No w w1) (k : Upd No w1 w2) : Upd No w w2 := h.trans k (fun _ _ q => q) (fun _ _ q => q)
theorem Upd.alloc {F : Nat → Prop} {w w1 : World} (h : Upd F w w1) (o : Obj) : Upd F w (w1.alloc o) :=
 ⟨h.os, h.tape, h.output, Nat.le_trans h.size (by simp), fun b hb hF => by rw [← h.block b hb hF]; exact heap_alloc_old w1 o (Nat.lt_of_lt_of_le hb h.size)⟩
theorem Upd.drewN {F : Nat → Prop} {w w1 : World} (h : Upd F w w1) (n : Nat) : Upd F w (w1.drewN n) := ⟨h.os, h.tape, h.output, h.size, h.block⟩
theorem Upd.drew {F : Nat → Prop} {w w1 : World} (h : Upd F w w1) : Upd F w w1.drew := ⟨h.os, h.tape, h.output, h.size, h.block⟩
theorem Upd.set {F : Nat → Prop} {w w1 : World} (h : Upd F w w1) (p : Addr) (u : Value) (hp : w.heap.size ≤ p.block ∨ F p.block) : Upd F w (w1.setCell p u) := by
 have hb : ∀ b, b ≠ p.block → (w1.setCell p u).heap[b]? = w1.heap[b]? := fun b hb => Below.heap_setCell w1 p u b hb
 have hs : (w1.setCell p u).heap.size = w1.heap.size := by simp [World.setCell]
 exact ⟨h.os, h.tape, h.output, by rw [hs]; exact h.size, fun b hb' hF => (hb b (by rintro rfl; rcases hp with hp | hp; omega; exact hF hp)).trans (h.block b hb' hF)⟩
theorem Upd.below {w w' : World} (h : Upd No w w') : Below w.heap.size w w' := ⟨h.os, h.tape, h.output, h.size, fun b hb => h.block b hb (fun q => q)⟩
theorem Upd.of_grown {w w' : World} {row : Option Nat} (h : w.grownBy w' row) : Upd (fun b => some b = row) w w' := ⟨h.os, h.tape, h.output, h.size, fun b hb hF => h.block b hb hF⟩
theorem Upd.cells {w w' : World} (h : Upd No w w') : (∀ b o, b < w.heap.size → w'.cell? ⟨b, o, none⟩ = w.cell? ⟨b, o, none⟩) ∧ (∀ b o, b < w.heap.size → w'.frozen? ⟨b, o, none⟩ = w.frozen? ⟨b, o, none⟩) :=
 ⟨fun b o hb => h.below.cell (p := ⟨b, o, none⟩) hb, fun b o hb => h.below.frozen (p := ⟨b, o, none⟩) hb⟩
theorem Upd.eF {F : Nat → Prop} {w w' : World} (h : Upd F w w') {b : Nat} (hb : b < w.heap.size) (hF : ¬ F b) (o : Nat) : w'.cell? ⟨b, o, none⟩ = w.cell? ⟨b, o, none⟩ := by
 simp [World.cell?, h.block b hb hF]
theorem Upd.dL {F : Nat → Prop} {w w' : World} (h : Upd F w w') {b : Nat} (hb : b < w.heap.size) (hF : ¬ F b) (o : Nat) : w'.frozen? ⟨b, o, none⟩ = w.frozen? ⟨b, o, none⟩ := by
 simp [World.frozen?, h.block b hb hF]
theorem blk_set {w : World} {g : Nat} {t : TypeId} {cs : Array Value} (h : w.heap[g]? = some (.cells cs t (0, 0))) (i : Nat) (u : Value) : (w.setCell ⟨g, i, none⟩ u).heap[g]? = some (.cells (cs.setIfInBounds i u) t (0, 0)) := by
 simp [World.setCell, Array.getElem?_modify, h]
structure Kn (α : Type) where
 sz : Nat
 K : World → α → List Value → Prop
 M : World → (Nat → Prop) → α → List Value → Prop
 jE : ∀ {w x cs}, K w x cs → cs.length = sz
 jV : ∀ {w x cs}, K w x cs → ∀ u ∈ cs, u.oneCell' = true
 K_stay : ∀ {w w' : World} {x cs}, (∀ b, b < w.heap.size → w'.heap[b]? = w.heap[b]?) → K w x cs → K w' x cs
 gN : ∀ {w F x cs}, M w F x cs → K w x cs
 iR : ∀ {w F F' x cs}, (∀ b, F b → F' b) → M w F x cs → M w F' x cs
 M_lt : ∀ {w : World} {F x cs}, M w F x cs → M w (fun b => F b ∧ b < w.heap.size) x cs
 iO : ∀ {w w' : World} {F x cs}, (∀ b, F b → w'.heap[b]? = w.heap[b]?) → M w F x cs → M w' F x cs
section
variable {α : Type} (d : Kn α)
def piece (sz : Nat) (l : List Value) (i : Nat) : List Value := (l.drop (i * sz)).take sz
def C (w : World) (A : Option Addr) (xs : List α) : Prop :=
 xs.length ≤ 9223372036854775807 ∧ (0 < xs.length → ∃ ad, A = some ad ∧ ∀ j p, xs[j]? = some p → ∃ c, d.K w p c ∧ ∀ i u, c[i]? = some u → w.cell? (ad.add (j * d.sz + i)) = some u)
def R (e : Nat) (w : World) (F : Nat → Prop) (v : Value) (xs : List α) : Prop :=
 (v = .slice none 0 0 ∧ xs = []) ∨
 ∃ (g cap : Nat) (cur : Array Value) (Fs : Nat → Nat → Prop), v = .slice (some ⟨g, 0, none⟩) xs.length cap ∧ w.heap[g]? = some (.cells cur e (0, 0)) ∧ F g ∧ xs.length ≤ cap ∧ cap ≤ 9223372036854775807 ∧ cur.size = cap * d.sz ∧
  (∀ i b, Fs i b → F b ∧ b ≠ g) ∧ (∀ i j b, Fs i b → Fs j b → i = j) ∧ ∀ i x, xs[i]? = some x → d.M w (Fs i) x (piece d.sz cur.toList i)
variable {d} {e : Nat} {w w' : World} {F F' : Nat → Prop} {v : Value} {xs : List α}
theorem gI : R d e w F (.slice none 0 0) [] := .inl ⟨rfl, rfl⟩
theorem gF (hF : ∀ b, F b → F' b) (h : R d e w F v xs) : R d e w F' v xs := by
 rcases h with h | ⟨g, cap, cur, Fs, h1, h2, h3, h4, h5, h6, h7, h8, h9⟩
 ·exact .inl h
 ·exact .inr ⟨g, cap, cur, Fs, h1, h2, hF _ h3, h4, h5, h6, fun i b hb => ⟨hF _ (h7 i b hb).1, (h7 i b hb).2⟩, h8, h9⟩
theorem heap_lt {w : World} {g : Nat} {o : Obj} (h : w.heap[g]? = some o) : g < w.heap.size := (Array.getElem?_eq_some_iff.1 h).1
theorem R_lt (h : R d e w F v xs) : R d e w (fun b => F b ∧ b < w.heap.size) v xs := by
 rcases h with h | ⟨g, cap, cur, Fs, h1, h2, h3, h4, h5, h6, h7, h8, h9⟩
 ·exact .inl h
 ·refine .inr ⟨g, cap, cur, fun i b => Fs i b ∧ b < w.heap.size, h1, h2, ⟨h3, heap_lt h2⟩, h4, h5, h6, fun i b hb => ⟨⟨(h7 i b hb.1).1, hb.2⟩, (h7 i b hb.1).2⟩, fun i j b hi hj => h8 i j b hi.1 hj.1, fun i x hx => d.M_lt (h9 i x hx)⟩
theorem R_same (hF : ∀ b, F b → w'.heap[b]? = w.heap[b]?) (h : R d e w F v xs) : R d e w' F v xs := by
 rcases h with h | ⟨g, cap, cur, Fs, h1, h2, h3, h4, h5, h6, h7, h8, h9⟩
 ·exact .inl h
 ·exact .inr ⟨g, cap, cur, Fs, h1, (hF _ h3).trans h2, h3, h4, h5, h6, h7, h8, fun i x hx => d.iO (fun b hb => hF b (h7 i b hb).1) (h9 i x hx)⟩
theorem R_reads (h : R d e w F v xs) : ∃ A c, v = .slice A xs.length c ∧ xs.length ≤ c ∧ C d w A xs := by
 rcases h with ⟨rfl, rfl⟩ | ⟨g, cap, cur, Fs, h1, h2, h3, h4, h5, h6, h7, h8, h9⟩
 ·exact ⟨none, 0, rfl, Nat.le_refl _, by simp, fun h => absurd h (Nat.lt_irrefl 0)⟩
 ·refine ⟨_, cap, h1, h4, by omega, fun _ => ⟨_, rfl, fun j p hp => ⟨_, d.gN (h9 j p hp), fun i u hu => ?_⟩⟩⟩
  have hi : i < d.sz := by have := (List.getElem?_eq_some_iff.1 hu).1; simp [piece] at this; omega
  have : cur[j * d.sz + i]? = some u := by
   simp [piece, hi] at hu
   exact hu
  rw [show (⟨g, 0, none⟩ : Addr).add (j * d.sz + i) = ⟨g, j * d.sz + i, none⟩ by unfold Addr.add; split <;> simp_all]
  rw [cell_of_row w g _ cur e (0, 0) h2]
  exact this
theorem C_stay {A : Option Addr} (h : ∀ b, b < w.heap.size → w'.heap[b]? = w.heap[b]?) (hc : C d w A xs) : C d w' A xs := by
 refine ⟨hc.1, fun hp => ?_⟩
 obtain ⟨ad, rfl, k⟩ := hc.2 hp
 refine ⟨ad, rfl, fun j p hj => ?_⟩
 obtain ⟨c, k1, k2⟩ := k j p hj
 refine ⟨c, d.K_stay h k1, fun i u hu => ?_⟩
 have := k2 i u hu
 have hb := World.block_lt_of_cell? w _ this
 rw [← this]
 simp only [World.cell?, h _ hb]
end
namespace Kn
def scalar {α : Type} (enc : α → Value) (h1 : ∀ x, (enc x).oneCell' = true) : Kn α where
 sz := 1
 K := fun _ x cs => cs = [enc x]
 M := fun _ _ x cs => cs = [enc x]
 jE := fun h => by rw [h]; rfl
 jV := fun h u hu => by rw [h] at hu; rw [List.mem_singleton.1 hu]; exact h1 _
 K_stay := fun _ h => h
 gN := fun h => h
 iR := fun _ h => h
 M_lt := fun h => h
 iO := fun _ h => h
def int : Kn Int := scalar (Value.int .i64) (fun _ => rfl)
def bool : Kn Bool := scalar Value.bool (fun _ => rfl)
def string : Kn ByteArray := scalar Value.string (fun _ => rfl)
def slice {α : Type} (e : Nat) (d : Kn α) : Kn (List α) where
 sz := 1
 K := fun w xs cs => ∃ A c, cs = [.slice A xs.length c] ∧ xs.length ≤ c ∧ C d w A xs
 M := fun w F xs cs => ∃ v, cs = [v] ∧ R d e w F v xs
 jE := by rintro w x cs ⟨A, c, rfl, _⟩; rfl
 jV := by rintro w x cs ⟨A, c, rfl, _⟩ u hu; rw [List.mem_singleton.1 hu]; rfl
 K_stay := by rintro w w' x cs h ⟨A, c, rfl, hl, hr⟩; exact ⟨A, c, rfl, hl, C_stay h hr⟩
 gN := by rintro w F x cs ⟨v, rfl, h⟩; obtain ⟨A, c, rfl, hl, hr⟩ := R_reads h; exact ⟨A, c, rfl, hl, hr⟩
 iR := by rintro w F F' x cs hF ⟨v, rfl, h⟩; exact ⟨v, rfl, gF hF h⟩
 M_lt := by rintro w F x cs ⟨v, rfl, h⟩; exact ⟨v, rfl, R_lt h⟩
 iO := by rintro w w' F x cs hF ⟨v, rfl, h⟩; exact ⟨v, rfl, R_same hF h⟩
def pair {α β : Type} (a : Kn α) (b : Kn β) : Kn (α × β) where
 sz := a.sz + b.sz
 K := fun w x cs => ∃ c0 c1, cs = c0 ++ c1 ∧ a.K w x.1 c0 ∧ b.K w x.2 c1
 M := fun w F x cs => ∃ c0 c1 F0 F1, cs = c0 ++ c1 ∧ a.M w F0 x.1 c0 ∧ b.M w F1 x.2 c1 ∧ (∀ k, F0 k → F k) ∧ (∀ k, F1 k → F k) ∧ ∀ k, F0 k → ¬ F1 k
 jE := by rintro w x cs ⟨c0, c1, rfl, h0, h1⟩; rw [List.length_append, a.jE h0, b.jE h1]
 jV := by
  rintro w x cs ⟨c0, c1, rfl, h0, h1⟩ u hu
  rcases List.mem_append.1 hu with hu | hu
  ·exact a.jV h0 u hu
  ·exact b.jV h1 u hu
 K_stay := by rintro w w' x cs h ⟨c0, c1, rfl, h0, h1⟩; exact ⟨c0, c1, rfl, a.K_stay h h0, b.K_stay h h1⟩
 gN := by rintro w F x cs ⟨c0, c1, F0, F1, rfl, h0, h1, _⟩; exact ⟨c0, c1, rfl, a.gN h0, b.gN h1⟩
 iR := by rintro w F F' x cs hF ⟨c0, c1, F0, F1, rfl, h0, h1, k0, k1, k2⟩; exact ⟨c0, c1, F0, F1, rfl, h0, h1, fun k hk => hF k (k0 k hk), fun k hk => hF k (k1 k hk), k2⟩
 M_lt := by
  rintro w F x cs ⟨c0, c1, F0, F1, rfl, h0, h1, k0, k1, k2⟩
  exact ⟨c0, c1, _, _, rfl, a.M_lt h0, b.M_lt h1, fun k hk => ⟨k0 k hk.1, hk.2⟩, fun k hk => ⟨k1 k hk.1, hk.2⟩, fun k hk hk' => k2 k hk.1 hk'.1⟩
 iO := by
  rintro w w' F x cs hF ⟨c0, c1, F0, F1, rfl, h0, h1, k0, k1, k2⟩
  exact ⟨c0, c1, F0, F1, rfl, a.iO (fun b hb => hF b (k0 b hb)) h0, b.iO (fun b hb => hF b (k1 b hb)) h1, k0, k1, k2⟩
def iso {α β : Type} (d : Kn α) (f : β → α) : Kn β where
 sz := d.sz
 K := fun w x cs => d.K w (f x) cs
 M := fun w F x cs => d.M w F (f x) cs
 jE := d.jE
 jV := d.jV
 K_stay := d.K_stay
 gN := d.gN
 iR := d.iR
 M_lt := d.M_lt
 iO := d.iO
end Kn
section
variable {α : Type} {d : Kn α} {e : Nat} {w w' : World} {F F' : Nat → Prop} {v : Value} {xs : List α} {x : α} {cs : List Value}
theorem jD (h : Upd No w w') (k : d.K w x cs) : d.K w' x cs := d.K_stay (fun b hb => h.block b hb (fun q => q)) k
theorem cZ {A : Option Addr} (h : Upd No w w') (k : C d w A xs) : C d w' A xs := C_stay (fun b hb => h.block b hb (fun q => q)) k
theorem M_upd {G : Nat → Prop} (h : Upd G w w') (hG : ∀ b, F b → ¬ G b) (k : d.M w F x cs) : d.M w' F x cs := d.iR (fun _ q => q.1) (d.iO (fun b hb => h.block b hb.2 (hG b hb.1)) (d.M_lt k))
theorem R_upd {G : Nat → Prop} (h : Upd G w w') (hG : ∀ b, F b → ¬ G b) (k : R d e w F v xs) : R d e w' F v xs := gF (fun _ q => q.1) (R_same (fun b hb => h.block b hb.2 (hG b hb.1)) (R_lt k))
theorem eZ (h : R d e w F v xs) : ∃ A c, v = .slice A xs.length c := by
 obtain ⟨A, c, h, _⟩ := R_reads h
 exact ⟨A, c, h⟩
theorem C_get {A : Option Addr} (h : C d w A xs) (i : Nat) (hi : i < xs.length) : ∃ ad c, A = some ad ∧ c.length = d.sz ∧ d.K w xs[i] c ∧ ∀ j u, c[j]? = some u → w.cell? (ad.add (i * d.sz + j)) = some u := by
 obtain ⟨ad, rfl, k⟩ := h.2 kO
 obtain ⟨c, h1, h2⟩ := k i xs[i] (List.getElem?_eq_getElem hi)
 exact ⟨ad, c, rfl, d.jE h1, h1, h2⟩
theorem add_field (ad : Addr) (m j : Nat) (hj : 0 < j) : ad.add (m + j) = ⟨(ad.add m).block, (ad.add m).off + j, none⟩ := by
 unfold Addr.add
 by_cases hm : m = 0
 ·subst hm
  simp [Nat.ne_of_gt hj]
 ·have : m + j ≠ 0 := by omega
  simp [hm, Nat.add_assoc]
theorem C_at {A : Option Addr} (h : C d w A xs) (i : Nat) (hi : i < xs.length) : ∃ ad c, A = some ad ∧ d.K w xs[i] c ∧ (∀ u, c[0]? = some u → w.cell? (ad.add (i * d.sz)) = some u) ∧
 ∀ j u, c[j + 1]? = some u → w.cell? ⟨(ad.add (i * d.sz)).block, (ad.add (i * d.sz)).off + (j + 1), none⟩ = some u := by
 obtain ⟨ad, c, h1, _, h3, h4⟩ := C_get h i hi
 exact ⟨ad, c, h1, h3, fun u hu => h4 0 u hu, fun j u hu => by rw [← add_field _ _ (j + 1) kO]; exact h4 (j + 1) u hu⟩
end
section
variable {α : Type} {a b : List α} {i : Nat}
end
structure At (w0 w : World) (g o n e : Nat) (cur0 : Array Value) (ce : List Value) (Fi : Nat → Prop) : Prop where
 row : ∃ cur, w.heap[g]? = some (.cells cur e (0, 0)) ∧ cur.size = cur0.size ∧ (∀ p, p < o ∨ o + n ≤ p → cur[p]? = cur0[p]?) ∧ (cur.toList.drop o).take n = ce
 upd : Upd (fun b => b = g ∨ Fi b) w0 w
 len : ce.length = n
section
variable {w0 w w' : World} {g o n e : Nat} {cur0 : Array Value} {ce : List Value} {Fi : Nat → Prop}
theorem At.room (h : At w0 w g o n e cur0 ce Fi) : ∀ j, j < n → o + j < cur0.size := by
 obtain ⟨cur, _, h2, _, h4⟩ := h.row
 intro j hj
 have := h.len
 rw [← h4, List.length_take, List.length_drop, Array.length_toList] at this
 omega
theorem At.cell (h : At w0 w g o n e cur0 ce Fi) (j : Nat) (u : Value) (hu : ce[j]? = some u) : w.cell? ⟨g, o + j, none⟩ = some u := by
 obtain ⟨cur, h1, h2, _, h4⟩ := h.row
 rw [cell_of_row w g _ cur e (0, 0) h1]
 have hj : j < n := by rw [← h.len]; exact (List.getElem?_eq_some_iff.1 hu).1
 rw [← h4, List.getElem?_take, if_pos hj, List.getElem?_drop] at hu
 simpa using hu
theorem At.cell0 (h : At w0 w g o n e cur0 ce Fi) (u : Value) (hu : ce[0]? = some u) : w.cell? ⟨g, o, none⟩ = some u := h.cell 0 u hu
theorem At.free (h : At w0 w g o n e cur0 ce Fi) (j : Nat) : w.frozen? ⟨g, j, none⟩ = false := by
 obtain ⟨cur, h1, _⟩ := h.row
 simp [World.frozen?, h1]
theorem At.set (h : At w0 w g o n e cur0 ce Fi) (j : Nat) (hj : j < n) (u : Value) : At w0 (w.setCell ⟨g, o + j, none⟩ u) g o n e cur0 (ce.set j u) Fi := by
 obtain ⟨cur, h1, h2, h3, h4⟩ := h.row
 refine ⟨⟨cur.setIfInBounds (o + j) u, blk_set h1 (o + j) u, by simpa using h2, fun p hp => ?_, ?_⟩, h.upd.set _ _ (.inr (.inl rfl)), by simpa using h.len⟩
 ·rw [Array.getElem?_setIfInBounds_ne kO]
  exact h3 p hp
 ·rw [← h4]
  apply List.ext_getElem?
  intro i
  simp only [List.getElem?_take, List.getElem?_drop, List.getElem?_set, Array.toList_setIfInBounds]
  by_cases hi : i < n
  ·have : o + j < cur.toList.length := by rw [Array.length_toList, h2]; exact h.room j hj
   by_cases e : j = i
   ·subst e
    have t2 : o + j < cur.size := by simpa using this
    simp [hj, t2]
    omega
   ·simp [hi, e]
  ·simp [hi]
   omega
theorem At.call (h : At w0 w g o n e cur0 ce Fi) {G : Nat → Prop} (k : Upd G w w') (hG : ∀ b, G b → Fi b) (hg : ¬ Fi g) : At w0 w' g o n e cur0 ce Fi := by
 obtain ⟨cur, h1, h2, h3, h4⟩ := h.row
 exact ⟨⟨cur, (k.block g (heap_lt h1) (fun q => hg (hG g q))).trans h1, h2, h3, h4⟩, h.upd.trans k (fun _ _ q => q) (fun b _ q => .inr (hG b q)), h.len⟩
variable {α : Type} {d : Kn α} {F : Nat → Prop} {v : Value} {xs : List α}
end
def RetInt (n : Int) (w : World) (e : Ending) (w' : World) : Prop := e = .returned (.int .i64 n) ∧ Upd No w w'
def fD (b : Bool) (w : World) (e : Ending) (w' : World) : Prop := e = .returned (.bool b) ∧ Upd No w w'
def New (w : World) : Nat → Prop := fun b => w.heap.size ≤ b
def RetRow {α : Type} (d : Kn α) (ty : Nat) (xs : List α) (w : World) (e : Ending) (w' : World) : Prop := ∃ v, e = .returned v ∧ R d ty w' (New w) v xs ∧ Upd No w w'
def iP {α : Type} (d : Kn α) (x : α) (w : World) (e : Ending) (w' : World) : Prop := ∃ cs, e = .returned (.agg cs.toArray) ∧ d.M w' (New w) x cs ∧ Upd No w w'
theorem Upd.put0 {w w1 : World} (h : Upd No w w1) (o : Nat) (u : Value) : Upd No w (w1.setCell ⟨w.heap.size, o, none⟩ u) := h.set _ _ (.inl (Nat.le_refl _))
theorem Upd.put1 {w w1 : World} (h : Upd No w w1) (o : Nat) (u : Value) : Upd No w (w1.setCell ⟨w.heap.size + 1, o, none⟩ u) := h.set _ _ (.inl (Nat.le_succ _))
theorem Upd.put2 {w w1 : World} (h : Upd No w w1) (o : Nat) (u : Value) : Upd No w (w1.setCell ⟨w.heap.size + 1 + 1, o, none⟩ u) := h.set _ _ (.inl (by dsimp only; omega))
theorem Upd.iD {P : Nat → Prop} {w w1 : World} {g : Nat} (hn : ¬ P g) (h : Upd (fun b => ¬ P b) w w1) (o : Nat) (u : Value) : Upd (fun b => ¬ P b) w (w1.setCell ⟨g, o, none⟩ u) := h.set _ _ (.inr hn)
theorem Upd.read {w w1 : World} (h : Upd No w w1) {a : Addr} {v : Value} (hc : w.cell? a = some v) : w1.cell? a = some v := (h.below.cell (World.block_lt_of_cell? w a hc)).trans hc
section
variable {α : Type} {d : Kn α} {e : Nat} {w w' : World} {F : Nat → Prop} {v : Value} {xs : List α}
theorem add_plain (g j : Nat) : (⟨g, 0, none⟩ : Addr).add j = ⟨g, j, none⟩ := by unfold Addr.add; split <;> simp_all
theorem piece_take {sz : Nat} {l : List Value} {n i : Nat} (h : i < n) : piece sz (l.take (n * sz)) i = piece sz l i := by
 have h1 : i * sz + sz ≤ n * sz := by rw [← Nat.succ_mul]; exact Nat.mul_le_mul_right _ h
 apply List.ext_getElem?
 intro q
 simp only [piece, List.getElem?_take, List.getElem?_drop]
 by_cases hq : q < sz
 ·simp only [if_pos hq]
  rw [if_pos kO]
 ·simp only [if_neg hq]
theorem R_of_owns {base : Nat} {inner : List Value} (h : w.ownsRow base e d.sz v xs.length inner) (hF : ∀ g, v.ownBlock = some g → F g) (Fs : Nat → Nat → Prop)
 (h1 : ∀ i b, Fs i b → F b ∧ v.ownBlock ≠ some b) (h2 : ∀ i j b, Fs i b → Fs j b → i = j) (h3 : ∀ i x, xs[i]? = some x → d.M w (Fs i) x (piece d.sz inner i)) : R d e w F v xs := by
 rcases h.2 with ⟨rfl, hn⟩ | ⟨g, cap, cur, rfl, _, k2, k3, k4, k5, k6⟩
 ·exact .inl ⟨rfl, List.eq_nil_of_length_eq_zero hn⟩
 ·refine .inr ⟨g, cap, cur, Fs, rfl, k2, hF g rfl, k3, by simpa [maxLen] using k4, k5, fun i b hb => ⟨(h1 i b hb).1, fun q => (h1 i b hb).2 (by rw [q]; rfl)⟩, h2, fun i x hx => ?_⟩
  have := h3 i x hx
  rw [← k6, piece_take (List.getElem?_eq_some_iff.1 hx).1] at this
  exact this
theorem owns_of_R (h : R d e w F v xs) : ∃ (inner : List Value) (Fs : Nat → Nat → Prop), w.ownsRow 0 e d.sz v xs.length inner ∧ (∀ g, v.ownBlock = some g → F g) ∧ (∀ i b, Fs i b → F b ∧ v.ownBlock ≠ some b) ∧ (∀ i j b, Fs i b → Fs j b → i = j) ∧ ∀ i x, xs[i]? = some x → d.M w (Fs i) x (piece d.sz inner i) := by
 rcases h with ⟨rfl, rfl⟩ | ⟨g, cap, cur, Fs, rfl, h2, h3, h4, h5, h6, h7, h8, h9⟩
 ·exact ⟨[], fun _ _ => False, ⟨by simp, .inl ⟨rfl, rfl⟩⟩, fun g hg => by simp [Value.ownBlock] at hg, fun _ _ h => h.elim, fun _ _ _ h => h.elim, fun i x h => by simp at h⟩
 ·refine ⟨cur.toList.take (xs.length * d.sz), Fs, ⟨?_, .inr ⟨g, cap, cur, rfl, Nat.zero_le _, h2, h4, by simpa [maxLen] using h5, h6, rfl⟩⟩, fun b hb => (show g = b by simpa [Value.ownBlock] using hb) ▸ h3, fun i b hb => ⟨(h7 i b hb).1, fun q => (h7 i b hb).2 (by simpa [Value.ownBlock] using q.symm)⟩, h8, fun i x hx => ?_⟩
  ·have q1 := Nat.mul_le_mul_right d.sz h4
   have q2 : cur.toList.length = cap * d.sz := by simpa using h6
   rw [List.length_take, q2, Nat.min_eq_left q1]
  ·rw [piece_take (List.getElem?_eq_some_iff.1 hx).1]
   exact h9 i x hx
theorem jN (h : R d e w F v xs) (hU : Upd (fun b => ¬ F b) w w') : R d e w' F v xs := R_upd hU (fun _ hb q => q hb) h
theorem R_C {A : Option Addr} {n c : Nat} (h : R d e w F (.slice A n c) xs) : C d w A xs := by
 obtain ⟨A', c', he, _, hC⟩ := R_reads h
 cases he
 exact hC
end
section
variable {α : Type} {d : Kn α} {e : Nat} {F : Nat → Prop} {v : Value} {xs : List α} {P : Program} {ops : Array Oper} {rest : List Oper} {o : Oper} {a : Act} {Q : Exit → Act → World → Prop}
theorem R_app {W : World} (hgd : o.guard = none) (s x : Operand) (t : TypeId) (z : Value) (bytes : Nat)
 (ho : o.op = .call { callee := .builtin .append, args := #[s, x], argTypes := #[t, t] })
 (ht : P.underlying t = some (.slice e)) (hinfo : (P.info? e).map (fun i => (i.zero, i.size, i.bytes)) = some (some z, d.sz, bytes)) (hz : z.cells.size = d.sz) (hs0 : 0 < d.sz) (hb0 : 0 < bytes)
 (p : α) (cs : List Value) (Fp : Nat → Prop) (hs : a.eval s = v) (hx : a.eval x = .slice (some ⟨W.heap.size, 0, none⟩) 1 1) (HR : R d e W F v xs) (hp : d.M W Fp p cs) (hd : ∀ b, Fp b → ¬ F b) (hl : (xs.length + 1) * bytes ≤ 140737488355328)
 (h : ∀ v1 w1, R d e w1 (fun b => F b ∨ Fp b ∨ W.heap.size ≤ b) v1 (xs ++ [p]) → Upd F W w1 → wpList P ops Q rest (a.put o.dst v1) w1) :
 wpList P ops Q (o :: rest) a (W.alloc (.cells cs.toArray e)) := by
 obtain ⟨i0, hi, hzz⟩ := Option.map_eq_some_iff.1 hinfo
 simp only [Prod.mk.injEq] at hzz
 obtain ⟨hz0, hz1, hz2⟩ := hzz
 have hlen : xs.length + 1 ≤ 140737488355328 := Nat.le_trans (Nat.le_mul_of_pos_right _ hb0) hl
 obtain ⟨inner, Fs, k1, k2, k3, k4, k5⟩ := owns_of_R (R_lt HR)
 have hcs := d.gN hp
 refine wpList_append_own_at (W.alloc (.cells cs.toArray e)) hgd s x t ho 0 e i0 z d.sz bytes ht hi hz0 hz1 hz2 hz hs0 v xs.length inner hs (k1.alloc _) ⟨W.heap.size, 0, none⟩ 1 1 cs hx (by rw [d.jE hcs]; simp)
  (by simpa using World.news_of_block (cs := cs.toArray) (t := e) (fr := (0, 0)) (heap_alloc_new W (.cells cs.toArray e))) (d.jV hcs) (by simp only [maxLen]; omega) hl (Nat.zero_le _) ?_
 intro v1 w1 hown hg _ hat
 have hU : Upd F W w1 := ((Upd.refl F W).alloc _).trans (Upd.of_grown hg) (fun _ _ q => q) (fun b hb q => by
  have hb' : v.ownBlock = some b := q.symm
  exact (k2 b hb').1)
 have hne : ∀ b, b < W.heap.size → v.ownBlock ≠ some b → v1.ownBlock ≠ some b := by
  intro b hb hv
  rcases hat with hat | hat
  ·rw [hat]; exact hv
  ·rw [hat]
   intro q
   injection q with q
   have : (W.alloc (.cells cs.toArray e)).heap.size = W.heap.size + 1 := by simp
   omega
 have hfr : ∀ b, b < W.heap.size → v.ownBlock ≠ some b → w1.heap[b]? = W.heap[b]? := by
  intro b hb hv
  rw [hg.block b (by simp; omega) (fun q => hv q.symm)]
  exact heap_alloc_old W _ hb
 refine h v1 w1 (R_of_owns (xs := xs ++ [p]) (base := 0) (inner := inner ++ cs) (by simpa using hown) (fun g hg' => ?_) (fun i b => if i < xs.length then Fs i b else i = xs.length ∧ Fp b ∧ b < W.heap.size) (fun i b hb => ?_) (fun i j b hi' hj' => ?_) (fun i x' hx' => ?_)) hU
 ·rcases hat with hat | hat
  ·exact .inl (k2 g (hat ▸ hg')).1
  ·rw [hat] at hg'
   injection hg' with q
   exact .inr (.inr (by rw [← q]; simp))
 ·by_cases c : i < xs.length
  ·simp only [c, if_true] at hb
   have := k3 i b hb
   exact ⟨.inl this.1.1, hne b this.1.2 this.2⟩
  ·simp only [c, if_false] at hb
   exact ⟨.inr (.inl hb.2.1), hne b hb.2.2 (fun q => hd b hb.2.1 (k2 b q).1)⟩
 ·by_cases c : i < xs.length <;> by_cases c' : j < xs.length
  ·simp only [c, c', if_true] at hi' hj'
   exact k4 i j b hi' hj'
  ·simp only [c, c', if_true, if_false] at hi' hj'
   exact absurd (k3 i b hi').1.1 (hd b hj'.2.1)
  ·simp only [c, c', if_true, if_false] at hi' hj'
   exact absurd (k3 j b hj').1.1 (hd b hi'.2.1)
  ·simp only [c, c', if_false] at hi' hj'
   omega
 ·by_cases c : i < xs.length
  ·simp only [c, if_true]
   rw [List.getElem?_append_left c] at hx'
   have hpc : piece d.sz (inner ++ cs) i = piece d.sz inner i := by
    have h1 : i * d.sz + d.sz ≤ inner.length := by rw [k1.1, ← Nat.succ_mul]; exact Nat.mul_le_mul_right _ c
    unfold piece
    rw [List.drop_append_of_le_length kO, List.take_append_of_le_length (by rw [List.length_drop]; omega)]
   rw [hpc]
   exact d.iR (fun _ q => q.1) (d.iO (fun b hb => hfr b hb.2 (k3 i b hb.1).2) (d.M_lt (k5 i x' hx')))
  ·simp only [c, if_false]
   have hil := (List.getElem?_eq_some_iff.1 hx').1
   have hi' : i = xs.length := by simp at hil; omega
   subst hi'
   have hx2 : p = x' := by simpa using hx'
   subst hx2
   have hpc : piece d.sz (inner ++ cs) xs.length = cs := by
    unfold piece
    rw [← k1.1, List.drop_left, List.take_of_length_le (by rw [d.jE hcs]; exact Nat.le_refl _)]
   rw [hpc]
   exact d.iR (fun _ q => ⟨rfl, q.1, q.2⟩) (d.iO (fun b hb => hfr b hb.2 (fun q => hd b hb.1 (k2 b q).1)) (d.M_lt hp))
end
section
variable {α : Type} {d : Kn α} {e : Nat} {w w' : World} {F : Nat → Prop} {v : Value} {xs ys : List α}
def Flat (d : Kn α) : Prop := ∀ w w' F x cs, d.K w x cs → d.M w' F x cs
def CM (d : Kn α) (w : World) (A : Option Addr) (xs : List α) (Fs : Nat → Nat → Prop) : Prop :=
 xs.length ≤ 9223372036854775807 ∧ (0 < xs.length → ∃ ad, A = some ad ∧ ∀ j p, xs[j]? = some p → ∃ c, d.M w (Fs j) p c ∧ ∀ i u, c[i]? = some u → w.cell? (ad.add (j * d.sz + i)) = some u)
theorem gL (hf : Flat d) {A : Option Addr} (h : C d w A xs) : CM d w A xs (fun _ => No) := by
 refine ⟨h.1, fun hp => ?_⟩
 obtain ⟨ad, rfl, k⟩ := h.2 hp
 refine ⟨ad, rfl, fun j p hj => ?_⟩
 obtain ⟨c, k1, k2⟩ := k j p hj
 exact ⟨c, hf _ _ _ _ _ k1, k2⟩
theorem CM_news {ad : Addr} {Fs : Nat → Nat → Prop} (k : ∀ j p, xs[j]? = some p → ∃ c, d.M w (Fs j) p c ∧ ∀ i u, c[i]? = some u → w.cell? (ad.add (j * d.sz + i)) = some u) (n : Nat) (hn : n ≤ xs.length) :
 ∃ news : List Value, news.length = n * d.sz ∧ (∀ j u, news[j]? = some u → w.cell? (ad.add j) = some u ∧ u.oneCell' = true) ∧ ∀ i x, i < n → xs[i]? = some x → d.M w (Fs i) x (piece d.sz news i) := by
 induction n with
 | zero => exact ⟨[], by simp, fun j u h => by simp at h, fun i x h => by omega⟩
 | succ n ih =>
  obtain ⟨news, h1, h2, h3⟩ := ih kO
  obtain ⟨c, k1, k2⟩ := k n xs[n] (List.getElem?_eq_getElem kO)
  have hc := d.gN k1
  have hl := d.jE hc
  refine ⟨news ++ c, by rw [List.length_append, h1, hl, Nat.succ_mul], fun j u hj => ?_, fun i x hi hx => ?_⟩
  ·rcases Nat.lt_or_ge j news.length with hjl | hjl
   ·rw [List.getElem?_append_left hjl] at hj
    exact h2 j u hj
   ·rw [List.getElem?_append_right hjl] at hj
    have := k2 _ u hj
    rw [show n * d.sz + (j - news.length) = j by rw [← h1]; omega] at this
    exact ⟨this, d.jV hc u (List.mem_of_getElem? hj)⟩
  ·rcases Nat.lt_or_ge i n with hin | hin
   ·have hp : piece d.sz (news ++ c) i = piece d.sz news i := by
     have h4 : i * d.sz + d.sz ≤ news.length := by rw [h1, ← Nat.succ_mul]; exact Nat.mul_le_mul_right _ hin
     unfold piece
     rw [List.drop_append_of_le_length kO, List.take_append_of_le_length (by rw [List.length_drop]; omega)]
    rw [hp]
    exact h3 i x hin hx
   ·obtain rfl : i = n := by omega
    have hx2 : xs[i] = x := by rw [List.getElem?_eq_getElem kO] at hx; exact Option.some.inj hx
    have hp : piece d.sz (news ++ c) i = c := by
     unfold piece
     rw [← h1, List.drop_left, List.take_of_length_le kO]
    rw [hp, ← hx2]
    exact k1
end
section
variable {α : Type} {d : Kn α} {e : Nat} {F : Nat → Prop} {v : Value} {xs ys : List α} {P : Program} {ops : Array Oper} {rest : List Oper} {o : Oper} {a : Act} {Q : Exit → Act → World → Prop}
theorem R_appRow {W : World} (hgd : o.guard = none) (s x : Operand) (t : TypeId) (z : Value) (bytes : Nat)
 (ho : o.op = .call { callee := .builtin .append, args := #[s, x], argTypes := #[t, t] })
 (ht : P.underlying t = some (.slice e)) (hinfo : (P.info? e).map (fun i => (i.zero, i.size, i.bytes)) = some (some z, d.sz, bytes)) (hz : z.cells.size = d.sz) (hs0 : 0 < d.sz) (hb0 : 0 < bytes)
 (ad : Addr) (c : Nat) (Gs : Nat → Nat → Prop) (hs : a.eval s = v) (hx : a.eval x = .slice (some ad) ys.length c) (HR : R d e W F v xs)
 (HC : ∀ j p, ys[j]? = some p → ∃ c, d.M W (Gs j) p c ∧ ∀ i u, c[i]? = some u → W.cell? (ad.add (j * d.sz + i)) = some u) (hd : ∀ j b, Gs j b → ¬ F b) (hd2 : ∀ i j b, Gs i b → Gs j b → i = j) (hl : (xs.length + ys.length) * bytes ≤ 140737488355328)
 (h : ∀ v1 w1, R d e w1 (fun b => F b ∨ (∃ j, j < ys.length ∧ Gs j b) ∨ W.heap.size ≤ b) v1 (xs ++ ys) → Upd F W w1 → wpList P ops Q rest (a.put o.dst v1) w1) :
 wpList P ops Q (o :: rest) a W := by
 obtain ⟨i0, hi, hzz⟩ := Option.map_eq_some_iff.1 hinfo
 simp only [Prod.mk.injEq] at hzz
 obtain ⟨hz0, hz1, hz2⟩ := hzz
 have hlen : xs.length + ys.length ≤ 140737488355328 := Nat.le_trans (Nat.le_mul_of_pos_right _ hb0) hl
 obtain ⟨inner, Fs, k1, k2, k3, k4, k5⟩ := owns_of_R (R_lt HR)
 obtain ⟨news, n1, n2, n3⟩ := CM_news (d := d) HC ys.length (Nat.le_refl _)
 refine wpList_append_own_at W hgd s x t ho 0 e i0 z d.sz bytes ht hi hz0 hz1 hz2 hz hs0 v xs.length inner hs k1 ad ys.length c news hx n1 (fun j u hu => (n2 j u hu).1)
  (fun u hu => by obtain ⟨j, hj⟩ := List.mem_iff_getElem?.1 hu; exact (n2 j u hj).2) (by simp only [maxLen]; omega) hl (Nat.zero_le _) ?_
 intro v1 w1 hown hg _ hat
 have hU : Upd F W w1 := (Upd.of_grown hg).mono (fun b hb q => by
  have hb' : v.ownBlock = some b := q.symm
  exact (k2 b hb').1)
 have hne : ∀ b, b < W.heap.size → v.ownBlock ≠ some b → v1.ownBlock ≠ some b := by
  intro b hb hv
  rcases hat with hat | hat
  ·rw [hat]; exact hv
  ·rw [hat]
   intro q
   injection q with q
   omega
 have hfr : ∀ b, b < W.heap.size → v.ownBlock ≠ some b → w1.heap[b]? = W.heap[b]? := fun b hb hv => hg.block b hb (fun q => hv q.symm)
 refine h v1 w1 (R_of_owns (xs := xs ++ ys) (base := 0) (inner := inner ++ news) (by rw [List.length_append]; exact hown) (fun g hg' => ?_) (fun i b => if i < xs.length then Fs i b else i - xs.length < ys.length ∧ Gs (i - xs.length) b ∧ b < W.heap.size) (fun i b hb => ?_) (fun i j b hi' hj' => ?_) (fun i x' hx' => ?_)) hU
 ·rcases hat with hat | hat
  ·exact .inl (k2 g (hat ▸ hg')).1
  ·rw [hat] at hg'
   injection hg' with q
   exact .inr (.inr (by rw [← q]; exact Nat.le_refl _))
 ·by_cases c : i < xs.length
  ·simp only [c, if_true] at hb
   have := k3 i b hb
   exact ⟨.inl this.1.1, hne b this.1.2 this.2⟩
  ·simp only [c, if_false] at hb
   exact ⟨.inr (.inl ⟨_, hb.1, hb.2.1⟩), hne b hb.2.2 (fun q => hd _ b hb.2.1 (k2 b q).1)⟩
 ·by_cases c : i < xs.length <;> by_cases c' : j < xs.length
  ·simp only [c, c', if_true] at hi' hj'
   exact k4 i j b hi' hj'
  ·simp only [c, c', if_true, if_false] at hi' hj'
   exact absurd (k3 i b hi').1.1 (hd _ b hj'.2.1)
  ·simp only [c, c', if_true, if_false] at hi' hj'
   exact absurd (k3 j b hj').1.1 (hd _ b hi'.2.1)
  ·simp only [c, c', if_false] at hi' hj'
   have := hd2 _ _ b hi'.2.1 hj'.2.1
   omega
 ·by_cases c : i < xs.length
  ·simp only [c, if_true]
   rw [List.getElem?_append_left c] at hx'
   have hpc : piece d.sz (inner ++ news) i = piece d.sz inner i := by
    have h1 : i * d.sz + d.sz ≤ inner.length := by rw [k1.1, ← Nat.succ_mul]; exact Nat.mul_le_mul_right _ c
    unfold piece
    rw [List.drop_append_of_le_length kO, List.take_append_of_le_length (by rw [List.length_drop]; omega)]
   rw [hpc]
   exact d.iR (fun _ q => q.1) (d.iO (fun b hb => hfr b hb.2 (k3 i b hb.1).2) (d.M_lt (k5 i x' hx')))
  ·simp only [c, if_false]
   have hil := (List.getElem?_eq_some_iff.1 hx').1
   rw [List.getElem?_append_right kO] at hx'
   have hjl : i - xs.length < ys.length := (List.getElem?_eq_some_iff.1 hx').1
   have hpc : piece d.sz (inner ++ news) i = piece d.sz news (i - xs.length) := by
    have h1 : inner.length = xs.length * d.sz := k1.1
    have h2 : i * d.sz = inner.length + (i - xs.length) * d.sz := by rw [h1, ← Nat.add_mul]; congr 1; omega
    unfold piece
    rw [h2, List.drop_append, List.drop_eq_nil_of_le (Nat.le_add_right _ _), List.nil_append, Nat.add_sub_cancel_left]
   rw [hpc]
   exact d.iR (fun _ q => ⟨hjl, q.1, q.2⟩) (d.iO (fun b hb => hfr b hb.2 (fun q => hd _ b hb.1 (k2 b q).1)) (d.M_lt (n3 _ x' hjl hx')))
theorem R_appOne {W : World} (hgd : o.guard = none) (s x : Operand) (t : TypeId) (z : Value) (bytes : Nat)
 (ho : o.op = .call { callee := .builtin .append, args := #[s, x], argTypes := #[t, t] })
 (ht : P.underlying t = some (.slice e)) (hinfo : (P.info? e).map (fun i => (i.zero, i.size, i.bytes)) = some (some z, d.sz, bytes)) (hz : z.cells.size = d.sz) (hs0 : 0 < d.sz) (hb0 : 0 < bytes)
 (p : α) (cs : List Value) (Fp : Nat → Prop) (g : Nat) (hg : W.heap.size = g) (hs : a.eval s = v) (hx : a.eval x = .slice (some ⟨g, 0, none⟩) 1 1) (HR : R d e W F v xs) (hp : d.M W Fp p cs) (hd : ∀ b, Fp b → ¬ F b) (hl : (xs.length + 1) * bytes ≤ 140737488355328)
 (h : ∀ v1 w1, R d e w1 (fun b => F b ∨ Fp b ∨ W.heap.size ≤ b) v1 (xs ++ [p]) → Upd F W w1 → wpList P ops Q rest (a.put o.dst v1) w1) :
 wpList P ops Q (o :: rest) a (W.alloc (.cells cs.toArray e)) :=
 R_app hgd s x t z bytes ho ht hinfo hz hs0 hb0 p cs Fp hs (hg ▸ hx) HR hp hd hl h
theorem R_appNone {W : World} (hgd : o.guard = none) (s x : Operand) (t : TypeId) (z : Value) (bytes : Nat)
 (ho : o.op = .call { callee := .builtin .append, args := #[s, x], argTypes := #[t, t] })
 (ht : P.underlying t = some (.slice e)) (hinfo : (P.info? e).map (fun i => (i.zero, i.size, i.bytes)) = some (some z, d.sz, bytes))
 (c : Nat) (hs : a.eval s = v) (hx : a.eval x = .slice none 0 c) (HR : R d e W F v xs) (h : wpList P ops Q rest (a.put o.dst v) W) :
 wpList P ops Q (o :: rest) a W := by
 obtain ⟨i0, hi, hzz⟩ := Option.map_eq_some_iff.1 hinfo
 refine wpList_plain hgd fun K hK => ?_
 have hrun : (Builtin.append_ #[t, t] o.type #[v, .slice none 0 c]).run P W = .ok v W := by
  rcases HR with ⟨rfl, rfl⟩ | ⟨g, cap, cur, Fs, rfl, _, _, hnc, _⟩
  ·simp [Builtin.append_, run_underlying ht, sizeOf, typeInfo, hi, Builtin.lenOf, Builtin.firstCells]
  ·simp [Builtin.append_, run_underlying ht, sizeOf, typeInfo, hi, Builtin.lenOf, Builtin.firstCells, hnc, storeCells]
 unfold Oper.wp
 simp [execOp, ho, resolve, invoke, builtin, hs, hx, hrun, Result.andThen]
 exact hK _ _ h
theorem iK {W : World} (hgd : o.guard = none) (s x : Operand) (t : TypeId) (z : Value) (bytes : Nat)
 (ho : o.op = .call { callee := .builtin .append, args := #[s, x], argTypes := #[t, t] })
 (ht : P.underlying t = some (.slice e)) (hinfo : (P.info? e).map (fun i => (i.zero, i.size, i.bytes)) = some (some z, d.sz, bytes)) (hz : z.cells.size = d.sz) (hs0 : 0 < d.sz) (hb0 : 0 < bytes)
 (A : Option Addr) (c : Nat) (Gs : Nat → Nat → Prop) (hs : a.eval s = v) (hx : a.eval x = .slice A ys.length c) (HR : R d e W F v xs)
 (HC : CM d W A ys Gs) (hd : ∀ j b, Gs j b → ¬ F b) (hd2 : ∀ i j b, Gs i b → Gs j b → i = j) (hl : (xs.length + ys.length) * bytes ≤ 140737488355328)
 (h : ∀ v1 w1, R d e w1 (fun b => F b ∨ (∃ j, j < ys.length ∧ Gs j b) ∨ W.heap.size ≤ b) v1 (xs ++ ys) → Upd F W w1 → wpList P ops Q rest (a.put o.dst v1) w1) :
 wpList P ops Q (o :: rest) a W := by
 rcases A with _ | ad
 ·have h0 : ys = [] := by
   cases ys with
   | nil => rfl
   | cons x l => obtain ⟨ad, q, _⟩ := HC.2 (by simp); cases q
  subst h0
  exact R_appNone hgd s x t z bytes ho ht hinfo c hs hx HR (h _ _ (by rw [List.append_nil]; exact gF (fun _ q => .inl q) HR) (Upd.refl _ _))
 ·refine R_appRow hgd s x t z bytes ho ht hinfo hz hs0 hb0 ad c Gs hs hx HR (fun j p hj => ?_) hd hd2 hl h
  obtain ⟨ad', q, k⟩ := HC.2 (Nat.lt_of_le_of_lt (Nat.zero_le _) (List.getElem?_eq_some_iff.1 hj).1)
  cases q
  exact k j p hj
end
section
variable {α β : Type} {d : Kn α} {e : Nat}
theorem R_empty (W : World) : R d e (W.alloc (.cells #[] e)) (New W) (.slice (some ⟨W.heap.size, 0, none⟩) 0 0) [] :=
 .inr ⟨W.heap.size, 0, #[], fun _ _ => False, rfl, heap_alloc_new W _, Nat.le_refl _, Nat.le_refl _, by omega, by simp, fun _ _ h => h.elim, fun _ _ _ h => h.elim, fun i x hx => by simp at hx⟩
def Iv (a b : Nat) : Nat → Prop := fun x => a ≤ x ∧ x < b
theorem kE (W : World) (g : Nat) (hg : W.heap.size = g) : R d e (W.alloc (.cells #[] e)) (New W) (.slice (some ⟨g, 0, none⟩) 0 0) [] := hg ▸ R_empty W
theorem kL (enc : α → Value) (h1 : ∀ x, (enc x).oneCell' = true) : Flat (Kn.scalar enc h1) := fun _ _ _ _ _ h => h
theorem flat_pair {a : Kn α} {b : Kn β} (ha : Flat a) (hb : Flat b) : Flat (Kn.pair a b) := by
 rintro w w' F x cs ⟨c0, c1, rfl, h0, h1⟩
 exact ⟨c0, c1, No, No, rfl, ha _ _ _ _ _ h0, hb _ _ _ _ _ h1, fun _ h => h.elim, fun _ h => h.elim, fun _ h => h.elim⟩
theorem flat_iso {d : Kn α} (f : β → α) (h : Flat d) : Flat (Kn.iso d f) := fun w w' F x cs k => h w w' F (f x) cs k
theorem CM_upd {A : Option Addr} {xs : List α} {Fs : Nat → Nat → Prop} {w w' : World} (h : Upd No w w') (k : CM d w A xs Fs) : CM d w' A xs Fs := by
 refine ⟨k.1, fun hp => ?_⟩
 obtain ⟨ad, rfl, q⟩ := k.2 hp
 refine ⟨ad, rfl, fun j p hj => ?_⟩
 obtain ⟨c, k1, k2⟩ := q j p hj
 exact ⟨c, M_upd h (fun _ _ q => q) k1, fun i u hu => h.read (k2 i u hu)⟩
end
end Go.Proofs.YtdfipdpeilegpaaSep
namespace Go.Proofs.YtdfipdpeilegpaaSep
theorem ret_int {a b : Int} (h : a = b) : Ending.returned (.int .i64 a) = .returned (.int .i64 b) := by rw [h]
theorem ret_bool {a b : Bool} (h : a = b) : Ending.returned (.bool a) = .returned (.bool b) := by rw [h]
def sumS {α : Type} (s : α → Nat) : List α → Nat
 | [] => 0
 | x :: l => s x + sumS s l
def bV {α : Type} (s : α → Nat) (l : List α) : Nat := l.length + sumS s l
section
variable {α : Type} (m : Int → α → α) (c : α → Int) (s : α → Nat)
theorem sumS_take : ∀ (l : List α) (i : Nat) (h : i < l.length), sumS s (l.take (i + 1)) = sumS s (l.take i) + s l[i]
 | [], i, h => by simp at h
 | x :: l, 0, h => by simp [sumS]
 | x :: l, i + 1, h => by
  simp only [List.take_succ_cons, sumS, List.getElem_cons_succ]
  rw [sumS_take l i (by simpa using h)]
  omega
theorem sumS_le : ∀ (l : List α) (i : Nat), sumS s (l.take i) ≤ sumS s l
 | [], i => by simp [sumS]
 | x :: l, 0 => by simp [sumS]
 | x :: l, i + 1 => by
  have := sumS_le l i
  simp only [List.take_succ_cons, sumS]
  omega
theorem kQ (l : List α) (i : Nat) (h : i < l.length) : s l[i] ≤ sumS s l := by
 have h1 := sumS_take s l i h
 have h2 := sumS_le s l (i + 1)
 omega
end
def fidx {α : Type} (p : α → Bool) : Int → List α → Int
 | _, [] => -1
 | k, x :: l => if p x then k else fidx p (k + 1) l
theorem fidx_any {α : Type} (p : α → Bool) : ∀ (l : List α) (k : Int), 0 ≤ k → decide (0 ≤ fidx p k l) = l.any p
 | [], k, _ => by simp [fidx]
 | x :: l, k, h => by
  by_cases c : p x = true
  ·simp [fidx, c, h]
  ·simp [fidx, c, fidx_any p l (k + 1) kO]
theorem fidx_yes {α : Type} (p : α → Bool) (l : List α) (i : Nat) (h : i < l.length) (hp : p l[i] = true) : fidx p i (l.drop i) = i := by
 rw [List.drop_eq_getElem_cons h]; simp [fidx, hp]
theorem fidx_no {α : Type} (p : α → Bool) (l : List α) (i : Nat) (h : i < l.length) (hp : p l[i] = false) : fidx p i (l.drop i) = fidx p ((i + 1 : Nat) : Int) (l.drop (i + 1)) := by
 rw [List.drop_eq_getElem_cons h]; simp [fidx, hp]
theorem fidx_end {α : Type} (p : α → Bool) (l : List α) (i : Nat) (h : l.length ≤ i) (k : Int) : fidx p k (l.drop i) = -1 := by
 rw [List.drop_eq_nil_of_le h]; rfl
theorem fidx_range {α : Type} (p : α → Bool) : ∀ (l : List α) (k : Int), fidx p k l = -1 ∨ (k ≤ fidx p k l ∧ fidx p k l < k + l.length)
 | [], k => .inl rfl
 | x :: l, k => by
  by_cases c : p x = true
  ·right; simp [fidx, c]; omega
  ·rcases fidx_range p l (k + 1) with h | h
   ·left; simp [fidx, c, h]
   ·right; simp [fidx, c]; omega
end Go.Proofs.YtdfipdpeilegpaaSep
namespace Go.Proofs.YtdfipdpeilegpaaSep
open Go.ChangeShapes Go.WideShapes Go.RowKit
def Blk (w : World) (g t : Nat) (cs : Array Value) : Prop := w.heap[g]? = some (.cells cs t (0, 0))
section
variable {w w' : World} {g g' t : Nat} {cs : Array Value} {F : Nat → Prop}
theorem Blk.cell (h : Blk w g t cs) (o : Nat) : w.cell? ⟨g, o, none⟩ = cs[o]? := by rw [cell_of_row w g _ cs t (0, 0) h]
theorem Blk.at (h : Blk w g t cs) (o : Nat) {v : Value} (hv : cs[o]? = some v) : w.cell? ⟨g, o, none⟩ = some v := (h.cell o).trans hv
theorem Blk.free (h : Blk w g t cs) (o : Nat) : w.frozen? ⟨g, o, none⟩ = false := by unfold Blk at h; simp [World.frozen?, h]
theorem Blk.lt (h : Blk w g t cs) : g < w.heap.size := heap_lt h
theorem Blk.new (w : World) (t : Nat) (cs : Array Value) : Blk (w.alloc (.cells cs t)) w.heap.size t cs := heap_alloc_new w (.cells cs t)
theorem Blk.newAt (hg : w.heap.size = g) : Blk (w.alloc (.cells cs t)) g t cs := hg ▸ Blk.new w t cs
theorem Blk.alloc (h : Blk w g t cs) (o : Obj) : Blk (w.alloc o) g t cs := (heap_alloc_old w o (Blk.lt h)).trans h
theorem Blk.drew (h : Blk w g t cs) : Blk w.drew g t cs := h
theorem Blk.drewN (h : Blk w g t cs) (n : Nat) : Blk (w.drewN n) g t cs := h
theorem Blk.same (h : Blk w g t cs) (i : Nat) (u : Value) : Blk (w.setCell ⟨g, i, none⟩ u) g t (cs.setIfInBounds i u) := blk_set h i u
theorem Blk.upd (h : Blk w g t cs) (hu : Upd F w w') (hF : ¬ F g) : Blk w' g t cs := (hu.block g (Blk.lt h) hF).trans h
theorem Blk.no (h : Blk w g t cs) (hu : Upd No w w') : Blk w' g t cs := h.upd hu (fun q => q)
end
section
variable {α : Type} {d : Kn α} {e : Nat} {F : Nat → Prop} {v : Value} {xs ys : List α} {P : Program} {ops : Array Oper} {rest : List Oper} {o : Oper} {a : Act} {Q : Exit → Act → World → Prop}
theorem run_appRow (W : World) (t ty : TypeId) (z : Value) (bytes : Nat)
 (ht : P.underlying t = some (.slice e)) (hinfo : (P.info? e).map (fun i => (i.zero, i.size, i.bytes)) = some (some z, d.sz, bytes)) (hz : z.cells.size = d.sz) (hs0 : 0 < d.sz) (hb0 : 0 < bytes)
 (ad : Addr) (c : Nat) (Gs : Nat → Nat → Prop) (HR : R d e W F v xs)
 (HC : ∀ j p, ys[j]? = some p → ∃ c, d.M W (Gs j) p c ∧ ∀ i u, c[i]? = some u → W.cell? (ad.add (j * d.sz + i)) = some u) (hd : ∀ j b, Gs j b → ¬ F b) (hd2 : ∀ i j b, Gs i b → Gs j b → i = j) (hl : (xs.length + ys.length) * bytes ≤ 140737488355328) :
 ∃ v1 w1, (Builtin.append_ #[t, t] ty #[v, .slice (some ad) ys.length c]).run P W = .ok v1 w1 ∧ R d e w1 (fun b => F b ∨ (∃ j, j < ys.length ∧ Gs j b) ∨ W.heap.size ≤ b) v1 (xs ++ ys) ∧ Upd F W w1 := by
 obtain ⟨i0, hi, hzz⟩ := Option.map_eq_some_iff.1 hinfo
 simp only [Prod.mk.injEq] at hzz
 obtain ⟨hz0, hz1, hz2⟩ := hzz
 have hlen : xs.length + ys.length ≤ 140737488355328 := Nat.le_trans (Nat.le_mul_of_pos_right _ hb0) hl
 obtain ⟨inner, Fs, k1, k2, k3, k4, k5⟩ := owns_of_R (R_lt HR)
 obtain ⟨news, n1, n2, n3⟩ := CM_news (d := d) HC ys.length (Nat.le_refl _)
 obtain ⟨v1, w1, hr, hown, hg, _, hat⟩ := run_append_own_at (P := P) (w := W) 0 t ty e i0 z d.sz bytes ht hi hz0 hz1 hz2 hz hs0 v xs.length inner k1 ad ys.length c news n1 (fun j u hu => (n2 j u hu).1)
  (fun u hu => by obtain ⟨j, hj⟩ := List.mem_iff_getElem?.1 hu; exact (n2 j u hj).2) (by simp only [maxLen]; omega) hl (Nat.zero_le _)
 have hU : Upd F W w1 := (Upd.of_grown hg).mono (fun b hb q => by
  have hb' : v.ownBlock = some b := q.symm
  exact (k2 b hb').1)
 have hne : ∀ b, b < W.heap.size → v.ownBlock ≠ some b → v1.ownBlock ≠ some b := by
  intro b hb hv
  rcases hat with hat | hat
  ·rw [hat]; exact hv
  ·rw [hat]
   intro q
   injection q with q
   omega
 have hfr : ∀ b, b < W.heap.size → v.ownBlock ≠ some b → w1.heap[b]? = W.heap[b]? := fun b hb hv => hg.block b hb (fun q => hv q.symm)
 refine ⟨v1, w1, hr, R_of_owns (xs := xs ++ ys) (base := 0) (inner := inner ++ news) (by rw [List.length_append]; exact hown) (fun g hg' => ?_) (fun i b => if i < xs.length then Fs i b else i - xs.length < ys.length ∧ Gs (i - xs.length) b ∧ b < W.heap.size) (fun i b hb => ?_) (fun i j b hi' hj' => ?_) (fun i x' hx' => ?_), hU⟩
 ·rcases hat with hat | hat
  ·exact .inl (k2 g (hat ▸ hg')).1
  ·rw [hat] at hg'
   injection hg' with q
   exact .inr (.inr (by rw [← q]; exact Nat.le_refl _))
 ·by_cases c : i < xs.length
  ·simp only [c, if_true] at hb
   have := k3 i b hb
   exact ⟨.inl this.1.1, hne b this.1.2 this.2⟩
  ·simp only [c, if_false] at hb
   exact ⟨.inr (.inl ⟨_, hb.1, hb.2.1⟩), hne b hb.2.2 (fun q => hd _ b hb.2.1 (k2 b q).1)⟩
 ·by_cases c : i < xs.length <;> by_cases c' : j < xs.length
  ·simp only [c, c', if_true] at hi' hj'
   exact k4 i j b hi' hj'
  ·simp only [c, c', if_true, if_false] at hi' hj'
   exact absurd (k3 i b hi').1.1 (hd _ b hj'.2.1)
  ·simp only [c, c', if_true, if_false] at hi' hj'
   exact absurd (k3 j b hj').1.1 (hd _ b hi'.2.1)
  ·simp only [c, c', if_false] at hi' hj'
   have := hd2 _ _ b hi'.2.1 hj'.2.1
   omega
 ·by_cases c : i < xs.length
  ·simp only [c, if_true]
   rw [List.getElem?_append_left c] at hx'
   have hpc : piece d.sz (inner ++ news) i = piece d.sz inner i := by
    have h1 : i * d.sz + d.sz ≤ inner.length := by rw [k1.1, ← Nat.succ_mul]; exact Nat.mul_le_mul_right _ c
    unfold piece
    rw [List.drop_append_of_le_length kO, List.take_append_of_le_length (by rw [List.length_drop]; omega)]
   rw [hpc]
   exact d.iR (fun _ q => q.1) (d.iO (fun b hb => hfr b hb.2 (k3 i b hb.1).2) (d.M_lt (k5 i x' hx')))
  ·simp only [c, if_false]
   have hil := (List.getElem?_eq_some_iff.1 hx').1
   rw [List.getElem?_append_right kO] at hx'
   have hjl : i - xs.length < ys.length := (List.getElem?_eq_some_iff.1 hx').1
   have hpc : piece d.sz (inner ++ news) i = piece d.sz news (i - xs.length) := by
    have h1 : inner.length = xs.length * d.sz := k1.1
    have h2 : i * d.sz = inner.length + (i - xs.length) * d.sz := by rw [h1, ← Nat.add_mul]; congr 1; omega
    unfold piece
    rw [h2, List.drop_append, List.drop_eq_nil_of_le (Nat.le_add_right _ _), List.nil_append, Nat.add_sub_cancel_left]
   rw [hpc]
   exact d.iR (fun _ q => ⟨hjl, q.1, q.2⟩) (d.iO (fun b hb => hfr b hb.2 (fun q => hd _ b hb.1 (k2 b q).1)) (d.M_lt (n3 _ x' hjl hx')))
end
section
variable {α : Type} {d : Kn α} {e : Nat} {w w' : World} {F : Nat → Prop} {v : Value} {xs : List α} {x : α} {cs : List Value}
theorem R_no (h : Upd No w w') (k : R d e w F v xs) : R d e w' F v xs := R_upd h (fun _ _ q => q) k
end
theorem add_add (ad : Addr) (m k : Nat) (hm : 0 < m) : (ad.add m).add k = ad.add (m + k) := by
 unfold Addr.add
 by_cases hk : k = 0
 ·subst hk; simp
 ·have h1 : m ≠ 0 := by omega
  have h2 : m + k ≠ 0 := by omega
  simp [hk, h1, Nat.add_assoc]
theorem sumS_append {α : Type} (s : α → Nat) : ∀ l k : List α, sumS s (l ++ k) = sumS s l + sumS s k
 | [], k => by simp [sumS]
 | x :: l, k => by
  have := sumS_append s l k
  simp only [List.cons_append, sumS]
  omega
section
variable {P : Program} {c : Code} {Q : Exit → Act → World → Prop} {a : Act} {w : World} {t : Nat} {cs : Array Value}
end
section
variable {α : Type} {d : Kn α} {e : Nat} {F : Nat → Prop} {v : Value} {xs ys : List α} {P : Program} {ops : Array Oper} {rest : List Oper} {o : Oper} {a : Act} {Q : Exit → Act → World → Prop}
theorem run_appAny (W : World) (t ty : TypeId) (z : Value) (bytes : Nat)
 (ht : P.underlying t = some (.slice e)) (hinfo : (P.info? e).map (fun i => (i.zero, i.size, i.bytes)) = some (some z, d.sz, bytes)) (hz : z.cells.size = d.sz) (hs0 : 0 < d.sz) (hb0 : 0 < bytes)
 (A : Option Addr) (c : Nat) (Gs : Nat → Nat → Prop) (HR : R d e W F v xs) (HC : CM d W A ys Gs) (hd : ∀ j b, Gs j b → ¬ F b) (hd2 : ∀ i j b, Gs i b → Gs j b → i = j) (hl : (xs.length + ys.length) * bytes ≤ 140737488355328) :
 ∃ v1 w1, (Builtin.append_ #[t, t] ty #[v, .slice A ys.length c]).run P W = .ok v1 w1 ∧ R d e w1 (fun b => F b ∨ (∃ j, j < ys.length ∧ Gs j b) ∨ W.heap.size ≤ b) v1 (xs ++ ys) ∧ Upd F W w1 := by
 rcases A with _ | ad
 ·have h0 : ys = [] := by
   cases ys with
   | nil => rfl
   | cons x l => obtain ⟨ad, q, _⟩ := HC.2 (by simp); cases q
  subst h0
  obtain ⟨i0, hi, hzz⟩ := Option.map_eq_some_iff.1 hinfo
  refine ⟨v, W, ?_, by rw [List.append_nil]; exact gF (fun _ q => .inl q) HR, Upd.refl _ _⟩
  rcases HR with ⟨rfl, rfl⟩ | ⟨g, cap, cur, Fs, rfl, _, _, hnc, _⟩
  ·simp [Builtin.append_, run_underlying ht, sizeOf, typeInfo, hi, Builtin.lenOf, Builtin.firstCells]
  ·simp [Builtin.append_, run_underlying ht, sizeOf, typeInfo, hi, Builtin.lenOf, Builtin.firstCells, hnc, storeCells]
 ·refine run_appRow W t ty z bytes ht hinfo hz hs0 hb0 ad c Gs HR (fun j p hj => ?_) hd hd2 hl
  obtain ⟨ad', q, k⟩ := HC.2 (Nat.lt_of_le_of_lt (Nat.zero_le _) (List.getElem?_eq_some_iff.1 hj).1)
  cases q
  exact k j p hj
end
theorem Blk.put {w : World} {g t : Nat} {cs cs' : Array Value} (h : Blk w g t cs) (i : Nat) (u : Value) (hc : cs.setIfInBounds i u = cs') : Blk (w.setCell ⟨g, i, none⟩ u) g t cs' := hc ▸ h.same i u
theorem R_emptyB {α : Type} {d : Kn α} {e : Nat} {w : World} {g : Nat} (h : Blk w g e #[]) : R d e w (fun b => b = g) (.slice (some ⟨g, 0, none⟩) 0 0) [] :=
 .inr ⟨g, 0, #[], fun _ _ => False, rfl, h, rfl, Nat.le_refl _, by omega, by simp, fun _ _ h => h.elim, fun _ _ _ h => h.elim, fun i x hx => by simp at hx⟩
structure HP where
 p : World → (Nat → Prop) → Prop
 same : ∀ {W W' : World} {F : Nat → Prop}, (∀ b, F b → W'.heap[b]? = W.heap[b]?) → p W F → p W' F
 lt : ∀ {W : World} {F : Nat → Prop}, p W F → p W (fun b => F b ∧ b < W.heap.size)
 mono : ∀ {W : World} {F F' : Nat → Prop}, (∀ b, F b → F' b) → p W F → p W F'
def hR {α : Type} (d : Kn α) (e : Nat) (v : Value) (xs : List α) : HP := ⟨fun W F => R d e W F v xs, fun h => R_same h, fun h => R_lt h, fun h => gF h⟩
def hM {α : Type} (d : Kn α) (x : α) (cs : List Value) : HP := ⟨fun W F => d.M W F x cs, fun h => d.iO h, fun h => d.M_lt h, fun h => d.iR h⟩
def hB (g t : Nat) (cs : Array Value) : HP := ⟨fun W F => F g ∧ Blk W g t cs, fun h k => ⟨k.1, (h g k.1).trans k.2⟩, fun k => ⟨⟨k.1, Blk.lt k.2⟩, k.2⟩, fun h k => ⟨h g k.1, k.2⟩⟩
def Star (l : List HP) (W : World) (F : Nat → Prop) : Prop :=
 ∃ Fs : Nat → Nat → Prop, (∀ i b, Fs i b → F b) ∧ (∀ i j b, Fs i b → Fs j b → i = j) ∧ ∀ (i : Nat) (q : HP), l[i]? = some q → q.p W (Fs i)
section
variable {l l' l0 : List HP} {W W' w : World} {F F' F0 : Nat → Prop} {q : HP}
theorem Star.nil : Star [] W F := ⟨fun _ _ => False, fun _ _ h => h.elim, fun _ _ _ h => h.elim, fun i q h => by simp at h⟩
theorem Star.mono (h : Star l W F) (k : ∀ b, F b → F' b) : Star l W F' := by
 obtain ⟨Fs, h1, h2, h3⟩ := h
 exact ⟨Fs, fun i b hb => k b (h1 i b hb), h2, h3⟩
theorem Star.lt (h : Star l W F) : Star l W (fun b => F b ∧ b < W.heap.size) := by
 obtain ⟨Fs, h1, h2, h3⟩ := h
 exact ⟨fun i b => Fs i b ∧ b < W.heap.size, fun i b hb => ⟨h1 i b hb.1, hb.2⟩, fun i j b hi hj => h2 i j b hi.1 hj.1, fun i q hq => q.lt (h3 i q hq)⟩
theorem Star.same (h : Star l W F) (k : ∀ b, F b → W'.heap[b]? = W.heap[b]?) : Star l W' F := by
 obtain ⟨Fs, h1, h2, h3⟩ := h
 exact ⟨Fs, h1, h2, fun i q hq => q.same (fun b hb => k b (h1 i b hb)) (h3 i q hq)⟩
theorem Star.one (h : q.p W F) : Star [q] W F := by
 refine ⟨fun i b => i = 0 ∧ F b, fun i b hb => hb.2, fun i j b hi hj => hi.1.trans hj.1.symm, fun i q' hq => ?_⟩
 rcases i with _ | i
 ·simp only [List.getElem?_cons_zero, Option.some.injEq] at hq
  subst hq
  exact q.mono (fun b hb => ⟨rfl, hb⟩) h
 ·simp at hq
theorem Star.cons (F1 F2 : Nat → Prop) (h : q.p W F1) (k : Star l W F2) (h1 : ∀ b, F1 b → F b) (h2 : ∀ b, F2 b → F b) (hd : ∀ b, F1 b → ¬ F2 b) : Star (q :: l) W F := by
 obtain ⟨Fs, k1, k2, k3⟩ := k
 refine ⟨fun i b => match i with | 0 => F1 b | i + 1 => Fs i b, fun i b hb => ?_, fun i j b hi hj => ?_, fun i q' hq => ?_⟩
 ·rcases i with _ | i
  ·exact h1 b hb
  ·exact h2 b (k1 i b hb)
 ·rcases i with _ | i <;> rcases j with _ | j
  ·rfl
  ·exact absurd (k1 j b hj) (hd b hi)
  ·exact absurd (k1 i b hi) (hd b hj)
  ·exact congrArg (· + 1) (k2 i j b hi hj)
 ·rcases i with _ | i
  ·simp only [List.getElem?_cons_zero, Option.some.injEq] at hq
   subst hq
   exact h
  ·exact k3 i q' (by simpa using hq)
theorem Star.uncons (h : Star (q :: l) W F) : ∃ F1 F2, q.p W F1 ∧ Star l W F2 ∧ (∀ b, F1 b → F b) ∧ (∀ b, F2 b → F b) ∧ ∀ b, F1 b → ¬ F2 b := by
 obtain ⟨Fs, h1, h2, h3⟩ := h
 refine ⟨Fs 0, fun b => ∃ i, Fs (i + 1) b, h3 0 q rfl, ⟨fun i b => Fs (i + 1) b, fun i b hb => ⟨i, hb⟩, fun i j b hi hj => by have := h2 _ _ b hi hj; omega, fun i q' hq => h3 (i + 1) q' (by simpa using hq)⟩, h1 0, fun b ⟨i, hb⟩ => h1 _ b hb, fun b hb ⟨i, hi⟩ => by have := h2 _ _ b hb hi; omega⟩
theorem Star.pick (h : Star l W F) (ix : List Nat) (hn : ix.Nodup) (hl : ix.map (fun k => l[k]?) = l'.map some) : Star l' W F := by
 obtain ⟨Fs, h1, h2, h3⟩ := h
 refine ⟨fun i b => ∃ k, ix[i]? = some k ∧ Fs k b, fun i b ⟨k, _, hb⟩ => h1 k b hb, fun i j b ⟨k, hk, hb⟩ ⟨k', hk', hb'⟩ => ?_, fun i q hq => ?_⟩
 ·have e := h2 _ _ b hb hb'
  subst e
  exact (List.getElem?_inj (List.getElem?_eq_some_iff.1 hk).1 hn).1 (hk.trans hk'.symm)
 ·have e : (ix.map (fun k => l[k]?))[i]? = some (some q) := by rw [hl, List.getElem?_map, hq]; rfl
  rw [List.getElem?_map] at e
  obtain ⟨k, hk, hk2⟩ := Option.map_eq_some_iff.1 e
  exact q.mono (fun b hb => ⟨k, hk, hb⟩) (h3 k q hk2)
theorem Star.append (F1 F2 : Nat → Prop) (h : Star l0 W F1) (k : Star l W F2) (h1 : ∀ b, F1 b → F b) (h2 : ∀ b, F2 b → F b) (hd : ∀ b, F1 b → ¬ F2 b) : Star (l0 ++ l) W F := by
 induction l0 generalizing F F1 with
 | nil => exact k.mono h2
 | cons q l0 ih =>
  obtain ⟨G1, G2, a1, a2, a3, a4, a5⟩ := h.uncons
  refine Star.cons (l := l0 ++ l) G1 (fun b => G2 b ∨ F2 b) a1 (ih (F := fun b => G2 b ∨ F2 b) G2 a2 (fun b hb => .inl hb) (fun b hb => .inr hb) (fun b hb => hd b (a4 b hb))) (fun b hb => h1 b (a3 b hb)) (fun b hb => hb.elim (fun q => h1 b (a4 b q)) (h2 b)) (fun b hb q => ?_)
  rcases q with q | q
  ·exact a5 b hb q
  ·exact hd b (a3 b hb) q
theorem Star.split (h : Star (l0 ++ l) W F) : ∃ F1 F2, Star l0 W F1 ∧ Star l W F2 ∧ (∀ b, F1 b → F b) ∧ (∀ b, F2 b → F b) ∧ ∀ b, F1 b → ¬ F2 b := by
 obtain ⟨Fs, h1, h2, h3⟩ := h
 refine ⟨fun b => ∃ i, i < l0.length ∧ Fs i b, fun b => ∃ i, Fs (l0.length + i) b, ⟨fun i b => i < l0.length ∧ Fs i b, fun i b hb => ⟨i, hb⟩, fun i j b hi hj => h2 i j b hi.2 hj.2, fun i q hq => ?_⟩, ⟨fun i b => Fs (l0.length + i) b, fun i b hb => ⟨i, hb⟩, fun i j b hi hj => by have := h2 _ _ b hi hj; omega, fun i q hq => ?_⟩, fun b ⟨i, _, hb⟩ => h1 i b hb, fun b ⟨i, hb⟩ => h1 _ b hb, fun b ⟨i, hi, hb⟩ ⟨j, hj⟩ => by have := h2 _ _ b hb hj; omega⟩
 ·have hi := (List.getElem?_eq_some_iff.1 hq).1
  exact q.mono (fun b hb => ⟨hi, hb⟩) (h3 i q (by rw [List.getElem?_append_left hi]; exact hq))
 ·exact h3 _ q (by rw [List.getElem?_append_right (Nat.le_add_right _ _), Nat.add_sub_cancel_left]; exact hq)
def St (w : World) (F0 : Nat → Prop) (l : List HP) (W : World) : Prop := Upd F0 w W ∧ Star l W (fun b => F0 b ∨ w.heap.size ≤ b)
theorem St.enter : St w No [] w := ⟨Upd.refl _ _, Star.nil⟩
theorem St.iA (h : Star l w F0) : St w F0 l w := ⟨Upd.refl _ _, h.mono fun _ hb => .inl hb⟩
theorem St.pick (h : St w F0 l W) (ix : List Nat) (hn : ix.Nodup) (hl : ix.map (fun k => l[k]?) = l'.map some) : St w F0 l' W := ⟨h.1, h.2.pick ix hn hl⟩
theorem St.get (h : St w F0 l W) (i : Nat) (hq : l[i]? = some q) : ∃ F, q.p W F := by
 obtain ⟨_, Fs, _, _, h3⟩ := h
 exact ⟨_, h3 i q hq⟩
theorem St.blk (h : St w F0 l W) (i : Nat) {g t : Nat} {cs : Array Value} (hq : l[i]? = some (hB g t cs)) : Blk W g t cs := by
 obtain ⟨F, hF⟩ := h.get i hq
 exact hF.2
theorem St.size (h : St w F0 l W) : w.heap.size ≤ W.heap.size := h.1.size
theorem St.frame (h : St w F0 (l0 ++ l) W) : ∃ F1 : Nat → Prop, Star l0 W F1 ∧ (∀ b, F1 b → (F0 b ∨ w.heap.size ≤ b) ∧ b < W.heap.size) ∧ ∀ l' W', St W F1 l' W' → St w F0 (l' ++ l) W' := by
 obtain ⟨F1, F2, a1, a2, a3, a4, a5⟩ := h.2.split
 refine ⟨fun b => F1 b ∧ b < W.heap.size, a1.lt, fun b hb => ⟨a3 b hb.1, hb.2⟩, fun l' W' h' => ⟨Upd.trans h.1 h'.1 (fun _ _ q => q) (fun b hb q => (a3 b q.1).resolve_right kO), ?_⟩⟩
 have hs := h.1.size
 refine Star.append _ (fun b => F2 b ∧ b < W.heap.size) h'.2 (a2.lt.same (fun b hb => h'.1.block b hb.2 (fun q => a5 b q.1 hb.1))) (fun b hb => ?_) (fun b hb => a4 b hb.1) (fun b hb q => ?_)
 ·rcases hb with hb | hb
  ·exact a3 b hb.1
  ·right; omega
 ·rcases hb with hb | hb
  ·exact a5 b hb.1 q.1
  ·have := q.2; omega
theorem St.call (h : St w F0 l W) (k : St W No l' W') : St w F0 (l' ++ l) W' := by
 have h2 : St w F0 ([] ++ l) W := h
 obtain ⟨F1, _, _, h3⟩ := h2.frame
 exact h3 l' W' ⟨k.1.mono (fun _ _ q => q.elim), k.2.mono (fun b hb => hb.elim (fun q => q.elim) .inr)⟩
theorem St.no (h : St w F0 l W) (hu : Upd No W W') : St w F0 l W' := h.call (l' := []) ⟨hu, Star.nil⟩
theorem St.new (h : St w F0 l W) (hu : Upd No W W') (hq : q.p W' (New W)) : St w F0 (q :: l) W' := h.call (l' := [q]) ⟨hu, (Star.one hq).mono fun _ hb => .inr hb⟩
theorem St.news (h : St w F0 l W) (hu : Upd No W W') (hq : Star l' W' (New W)) : St w F0 (l' ++ l) W' := h.call ⟨hu, hq.mono fun _ hb => .inr hb⟩
theorem St.drew (h : St w F0 l W) : St w F0 l W.drew := h.no (Upd.refl _ _).drew
theorem St.alloc (h : St w F0 l W) (t : Nat) (cs : Array Value) : St w F0 (hB W.heap.size t cs :: l) (W.alloc (.cells cs t)) := h.new ((Upd.refl _ _).alloc _) ⟨Nat.le_refl _, Blk.new _ _ _⟩
theorem St.turn (h : St w F0 (q :: l) W) : ∃ F1 : Nat → Prop, q.p W F1 ∧ (∀ b, F1 b → (F0 b ∨ w.heap.size ≤ b) ∧ b < W.heap.size) ∧ ∀ q' W', Upd F1 W W' → q'.p W' (fun b => F1 b ∨ W.heap.size ≤ b) → St w F0 (q' :: l) W' := by
 obtain ⟨F1, a1, a2, a3⟩ := St.frame (l0 := [q]) (l := l) h
 refine ⟨F1, ?_, a2, fun q' W' hu hq => a3 [q'] W' ⟨hu, Star.one hq⟩⟩
 obtain ⟨Fs, b1, _, b3⟩ := a1
 exact q.mono (b1 0) (b3 0 q rfl)
theorem St.fin1 (h : St w No [q] W) : q.p W (New w) ∧ Upd No w W := by
 obtain ⟨h1, Fs, b1, _, b3⟩ := h
 exact ⟨q.mono (fun b hb => (b1 0 b hb).resolve_left (fun z => z)) (b3 0 q rfl), h1⟩
theorem St.star (h : St w No l W) : Star l W (New w) := h.2.mono fun _ hb => hb.resolve_left (fun z => z)
theorem St.swap (h : St w F0 (l0 ++ l) W) (k : ∀ F, Star l0 W F → Star l' W F) : St w F0 (l' ++ l) W := by
 refine ⟨h.1, ?_⟩
 obtain ⟨F1, F2, a1, a2, a3, a4, a5⟩ := h.2.split
 exact Star.append F1 F2 (k F1 a1) a2 a3 a4 a5
end
def Cat (W : World) (a : Addr) (cs : List Value) : Prop := ∀ j u, cs[j]? = some u → W.cell? (a.add j) = some u
theorem add_add' (a : Addr) (m k : Nat) : (a.add m).add k = a.add (m + k) := by
 unfold Addr.add
 by_cases hm : m = 0 <;> by_cases hk : k = 0 <;> simp [hm, hk, Nat.add_assoc]
theorem Blk.at' {W : World} {g t : Nat} {cs : Array Value} (h : Blk W g t cs) : Cat W ⟨g, 0, none⟩ cs.toList := fun j u hu => by
 rw [add_plain, h.cell]
 simpa using hu
theorem Cat.cell {W : World} {a : Addr} {cs : List Value} (h : Cat W a cs) (k : Nat) {v : Value} (hv : cs[k]? = some v) : W.cell? (a.add k) = some v := h k v hv
theorem Cat.sub {W : World} {a : Addr} {cs sub : List Value} (h : Cat W a cs) (k m : Nat) (hs : (cs.drop k).take m = sub) : Cat W (a.add k) sub := fun j u hu => by
 subst hs
 rw [add_add']
 refine h (k + j) u ?_
 rw [List.getElem?_take] at hu
 split at hu
 ·rwa [List.getElem?_drop] at hu
 ·simp at hu
theorem Cat.upd {W W' : World} {a : Addr} {cs : List Value} (h : Cat W a cs) (hu : Upd No W W') : Cat W' a cs := fun j u hj => hu.read (h j u hj)
theorem fT {α : Type} {d : Kn α} {W : World} {A : Option Addr} {xs : List α} (h : C d W A xs) (i : Nat) (hi : i < xs.length) : ∃ ad cs, A = some ad ∧ d.K W xs[i] cs ∧ Cat W (ad.add (i * d.sz)) cs := by
 obtain ⟨ad, c, h1, _, h3, h4⟩ := C_get h i hi
 exact ⟨ad, c, h1, h3, fun j u hu => by rw [add_add']; exact h4 j u hu⟩
def bH (n : Nat) (x : Nat → Value) (live : List (Nat × Value)) : Act := ⟨((List.range n).map fun i => (live.lookup i).getD (x i)).toArray, []⟩
def evl (n : Nat) (live : List (Nat × Value)) : Operand → Option Value
 | .tmp t => if t < n then live.lookup t else none
 | .const v => some v
 | .func f => some (.func (.func f) #[] #[])
 | .global g => some (.pointer (some ⟨g, 0, none⟩))
section
variable {n : Nat} {x : Nat → Value} {live live' : List (Nat × Value)}
theorem dM {y : Operand} {v : Value} (h : evl n live y = some v) : (bH n x live).eval y = v := by
 cases y with
 | tmp t =>
  simp only [evl] at h
  split at h
  ·rename_i ht
   simp [Act.eval, bH, ht, h]
  ·cases h
 | const u => exact Option.some.inj h
 | func f => exact Option.some.inj h
 | global g => exact Option.some.inj h
theorem evls_list : ∀ (a : List Operand) (b : List Value), a.map (evl n live) = b.map some → a.map (bH n x live).eval = b
 | [], [], _ => rfl
 | [], _ :: _, q => by cases q
 | _ :: _, [], q => by cases q
 | y :: a, u :: b, q => by
  simp only [List.map_cons, List.cons.injEq] at q
  rw [List.map_cons, evls_list a b q.2, dM q.1]
theorem evls_ok {ys : Array Operand} {vs : Array Value} (h : ys.toList.map (evl n live) = vs.toList.map some) : ys.map (bH n x live).eval = vs := by
 rw [← Array.toList_inj, Array.toList_map]
 exact evls_list _ _ h
theorem gQ {d : Nat} (_hd : d < n) (v : Value) : (bH n x live).put (some d) v = bH n x ((d, v) :: live) := by
 unfold Act.put bH
 simp only [Act.mk.injEq, and_true]
 apply Array.ext
 ·simp
 ·intro i h1 h2
  simp only [Array.size_setIfInBounds, List.size_toArray, List.length_map, List.length_range] at h1
  simp only [List.getElem_toArray, List.getElem_map, List.getElem_range, List.lookup_cons]
  by_cases e : d = i
  ·subst e
   simp
  ·simp [e, show (i == d) = false from by simp; omega]
theorem actOf_drop (h : ∀ k v, (k, v) ∈ live' → live.lookup k = some v) : ∃ x', bH n x live = bH n x' live' := by
 refine ⟨fun i => (live.lookup i).getD (x i), ?_⟩
 unfold bH
 congr 3
 funext i
 cases e : live'.lookup i with
 | none => rfl
 | some v =>
  have : (i, v) ∈ live' := by
   clear h
   induction live' with
   | nil => cases e
   | cons p l ih =>
    obtain ⟨k, u⟩ := p
    rw [List.lookup_cons] at e
    by_cases hk : i = k
    ·subst hk
     simp at e
     subst e
     exact List.mem_cons_self
    ·have hk' : (i == k) = false := by simp [hk]
     rw [hk'] at e
     exact List.mem_cons_of_mem _ (ih e)
  rw [h i v this]
  rfl
end
section
variable {P : Program} {ops : Array Oper} {Q : Exit → Act → World → Prop} {K : Act → World → Prop} {n i d ty : Nat} {x : Nat → Value} {live : List (Nat × Value)} {W w : World} {F0 : Nat → Prop} {l l' : List HP} {pos : String} {aft : Array Edge} {v : Value} {y z : Operand}
theorem op_ok {o : Oper} {a : Act} (ho : ops[i]? = some o) (hg : o.guard = none) (h : o.wp P a W K Q) : wpOp P ops Q i K a W := by
 unfold wpOp
 simp only [ho]
 rw [if_pos (by simp [Region.wanted, hg])]
 exact .inl h
def Rn (P : Program) (o : Oper) (a : Act) (W : World) (v : Value) : Prop := (execOp a.eval o).run P W = .ok (.value v) W
theorem aB {dst : Option Nat} {op : Op} (ho : ops[i]? = some ⟨dst, op, ty, pos, aft, none⟩) (hr : Rn P ⟨dst, op, ty, pos, aft, none⟩ (bH n x live) W v) (hd : dst = some d) (hdn : decide (d < n) = true) (h : K (bH n x ((d, v) :: live)) W) : wpOp P ops Q i K (bH n x live) W := by
 subst hd
 refine op_ok ho rfl ?_
 unfold Oper.wp
 rw [hr]
 simp only [Oper.upon]
 rw [gQ (of_decide_eq_true hdn)]
 exact h
theorem aF {dst : Option Nat} (hx : evl n live y = some v) : Rn P ⟨dst, .move y, ty, pos, aft, none⟩ (bH n x live) W v := by
 unfold Rn
 simp [execOp, dM hx]
theorem aR {dst : Option Nat} (hx : evl n live y = some v) : Rn P ⟨dst, .assign y, ty, pos, aft, none⟩ (bH n x live) W v := by
 unfold Rn
 simp [execOp, dM hx]
def dO (P : Program) (s f off : Nat) : Prop := ∀ (a : Addr) (W : World), (Instr.fieldAt s (.pointer (some a)) f).run P W = .ok (.pointer (some (a.add off))) W
theorem aU {dst : Option Nat} {s f off : Nat} {a : Addr} (hf : dO P s f off) (hx : evl n live y = some (.pointer (some a))) : Rn P ⟨dst, .fieldAddr s y f, ty, pos, aft, none⟩ (bH n x live) W (.pointer (some (a.add off))) := by
 unfold Rn
 simp [execOp, dM hx, hf a W]
theorem iQ {dst : Option Nat} {t : Nat} {a : Addr} (hA : ∀ w, (isAgg t).run P w = .ok false w) (hx : evl n live y = some (.pointer (some a))) (hc : W.cell? a = some v) : Rn P ⟨dst, .load t y, ty, pos, aft, none⟩ (bH n x live) W v := by
 unfold Rn
 simp [execOp, dM hx, Instr.loadAt, Instr.sureAddr, loadVar, hA, run_load, hc]
theorem dR {dst : Option Nat} {t m : Nat} {a : Addr} {cs : List Value} (hA : ∀ w, (isAgg t).run P w = .ok true w) (hS : ∀ w, (sizeOf t).run P w = .ok m w) (hx : evl n live y = some (.pointer (some a))) (hc : Cat W a cs) (hm : cs.length = m) : Rn P ⟨dst, .load t y, ty, pos, aft, none⟩ (bH n x live) W (.agg cs.toArray) := by
 subst hm
 unfold Rn
 simp [execOp, dM hx, Instr.loadAt, Instr.sureAddr, loadVar, hA, hS, run_loadCells_list (P := P) W a cs hc]
theorem rn_index {dst : Option Nat} {t e sz k len cap : Nat} {ad : Addr} (hu : ∀ w, (underlying t).run P w = .ok (.slice e) w) (hS : ∀ w, (sizeOf e).run P w = .ok sz w) (hx : evl n live y = some (.slice (some ad) len cap)) (hz : evl n live z = some (.int .i64 k)) (hk : k < len) : Rn P ⟨dst, .indexAddr t y z, ty, pos, aft, none⟩ (bH n x live) W (.pointer (some (ad.add (k * sz)))) := by
 unfold Rn
 have h1 : (0 : Int) ≤ (k : Int) ∧ (k : Int) < (len : Int) := by omega
 simp [execOp, dM hx, dM hz, Instr.indexAt, asIntOf, hu, hS, h1]
 intro hle
 omega
theorem dP {dst : Option Nat} {t e len cap : Nat} {A : Option Addr} (hu : ∀ w, (underlying t).run P w = .ok (.slice e) w) (hx : evl n live y = some (.slice A len cap)) : Rn P ⟨dst, .call { callee := .builtin .len, args := #[y], argTypes := #[t] }, ty, pos, aft, none⟩ (bH n x live) W (.int .i64 len) := by
 unfold Rn
 simp [execOp, dM hx, resolve, invoke, builtin, Builtin.len_, hu, goInt]
theorem rn_cmp {dst : Option Nat} {b : Bool} {op : BinOp} {xt yt : Nat} {p q : Int} (hx : evl n live y = some (.int .i64 p)) (hz : evl n live z = some (.int .i64 q)) (hb : binOp op xt (.int .i64 p) (.int .i64 q) = pure (.bool b)) : Rn P ⟨dst, .binOp op xt y z yt, ty, pos, aft, none⟩ (bH n x live) W (.bool b) := by
 unfold Rn
 simp [execOp, dM hx, dM hz, eqGuard_at_int, hb]
theorem rn_arith {dst : Option Nat} {op : BinOp} {xt yt : Nat} {p q r : Int} (hx : evl n live y = some (.int .i64 p)) (hz : evl n live z = some (.int .i64 q)) (hb : binOp op xt (.int .i64 p) (.int .i64 q) = pure (.int .i64 r)) : Rn P ⟨dst, .binOp op xt y z yt, ty, pos, aft, none⟩ (bH n x live) W (.int .i64 r) := by
 unfold Rn
 simp [execOp, dM hx, dM hz, eqGuard_at_int, hb]
theorem jW {dst : Option Nat} {b : Bool} {xt : Nat} (hx : evl n live y = some (.bool b)) : Rn P ⟨dst, .unOp .not xt y, ty, pos, aft, none⟩ (bH n x live) W (.bool (!b)) := by
 unfold Rn
 simp [execOp, dM hx, Op.unary]
theorem dA {dst : Option Nat} {a : Addr} (hx : evl n live y = some (.pointer (some a))) : Rn P ⟨dst, .nilCheck y, ty, pos, aft, none⟩ (bH n x live) W (.pointer (some a)) := by
 unfold Rn
 simp [execOp, dM hx]
theorem dY {dst : Option Nat} {vs : Array Value} {k : Nat} (hx : evl n live y = some (.tuple vs)) (hv : vs[k]? = some v) : Rn P ⟨dst, .extract y k, ty, pos, aft, none⟩ (bH n x live) W v := by
 unfold Rn
 simp [execOp, dM hx, Instr.extract, hv]
theorem bC {dst : Option Nat} {f : FuncId} {ys : Array Operand} {tys : Array Nat} {vs : Array Value} {R : Ending → World → Prop} (ho : ops[i]? = some ⟨dst, .call { callee := .value (.func f), args := ys, argTypes := tys }, ty, pos, aft, none⟩) (hf : ∀ us w, (callFunc f us).run P w = .ok (.enter f us) w) (hv : ys.toList.map (evl n live) = vs.toList.map some) (hd : dst = some d) (hdn : decide (d < n) = true) (hc : Calls P f vs W R) (h : ∀ e W', R e W' → ∃ v, e = .returned v ∧ K (bH n x ((d, v) :: live)) W') : wpOp P ops Q i K (bH n x live) W := by
 subst hd
 refine op_ok ho rfl ?_
 have e : ys.map (bH n x live).eval = vs := evls_ok hv
 have hrun : (execOp (bH n x live).eval ⟨some d, .call { callee := .value (.func f), args := ys, argTypes := tys }, ty, pos, aft, none⟩).run P W = .ok (.enter f vs) W := by
  simp [execOp, resolve, Act.eval, Deferred.ofValue, invoke, e, hf]
 unfold Oper.wp
 rw [hrun]
 simp only [Oper.upon]
 refine hc.mono fun e' W' hR => ?_
 obtain ⟨u, rfl, hk⟩ := h e' W' hR
 show K ((bH n x live).put (some d) u) W'
 rw [gQ (of_decide_eq_true hdn)]
 exact hk
theorem bP {dst : Option Nat} {t : Nat} {z : Value} (ho : ops[i]? = some ⟨dst, .alloc t, ty, pos, aft, none⟩) (hz : ∀ w, (zeroValue t).run P w = .ok z w) (hd : dst = some d) (hdn : decide (d < n) = true) (H : St w F0 l W) (h : ∀ g W', Upd No W W' → St w F0 (hB g t z.cells :: l) W' → K (bH n x ((d, .pointer (some ⟨g, 0, none⟩)) :: live)) W') : wpOp P ops Q i K (bH n x live) W := by
 subst hd
 refine op_ok ho rfl ?_
 have hrun : (execOp (bH n x live).eval ⟨some d, .alloc t, ty, pos, aft, none⟩).run P W = .ok (.value (.pointer (some ⟨W.heap.size, 0, none⟩))) (W.alloc (.cells z.cells t)) := by
  simp [execOp, Instr.alloc, hz, newVar, newRow]
 unfold Oper.wp
 rw [hrun]
 simp only [Oper.upon]
 rw [gQ (of_decide_eq_true hdn)]
 exact h _ _ ((Upd.refl _ _).alloc _) (H.alloc t z.cells)
theorem fJ {dst : Option Nat} {t : Nat} (ho : ops[i]? = some ⟨dst, .box t y, ty, pos, aft, none⟩) (hx : evl n live y = some v) (hd : dst = some d) (hdn : decide (d < n) = true) (H : St w F0 l W) (h : ∀ g W', Upd No W W' → St w F0 (hB g t v.cells :: l) W' → K (bH n x ((d, .pointer (some ⟨g, 0, none⟩)) :: live)) W') : wpOp P ops Q i K (bH n x live) W := by
 subst hd
 refine op_ok ho rfl ?_
 have hrun : (execOp (bH n x live).eval ⟨some d, .box t y, ty, pos, aft, none⟩).run P W = .ok (.value (.pointer (some ⟨W.heap.size, 0, none⟩))) (W.alloc (.cells v.cells t)) := by
  simp [execOp, dM hx, Instr.box, newVar, newRow]
 unfold Oper.wp
 rw [hrun]
 simp only [Oper.upon]
 rw [gQ (of_decide_eq_true hdn)]
 exact h _ _ ((Upd.refl _ _).alloc _) (H.alloc t v.cells)
def put (cs : Array Value) (k : Nat) (vs : List Value) : Array Value := (cs.toList.take k ++ vs ++ cs.toList.drop (k + vs.length)).toArray
theorem bR {t g tb k m : Nat} {cs : Array Value} (ho : ops[i]? = some ⟨none, .store t y z, ty, pos, aft, none⟩) (hS : ∀ w, (sizeOf t).run P w = .ok m w) (hx : evl n live y = some (.pointer (some (Addr.add ⟨g, 0, none⟩ k)))) (hz : evl n live z = some v) (hm : v.cells.size = m) (hk : k + m ≤ cs.size) (h1 : ∀ u ∈ v.cells.toList, u.oneCell' = true) (H : St w F0 (hB g tb cs :: l) W) (h : ∀ W', Upd (fun b => b = g) W W' → St w F0 (hB g tb (put cs k v.cells.toList) :: l) W' → K (bH n x live) W') : wpOp P ops Q i K (bH n x live) W := by
 have hb : Blk W g tb cs := H.blk 0 rfl
 refine op_ok ho rfl ?_
 subst hm
 have hst := run_storeCells_at P g k tb v.cells.toList 0 cs W hb (by simp; omega) h1
 rw [add_plain] at hx
 have hrun : (execOp (bH n x live).eval ⟨none, .store t y z, ty, pos, aft, none⟩).run P W = .ok .skip (W.setRow g (put cs k v.cells.toList)) := by
  simp only [execOp, dM hx, dM hz, Instr.storeAt, Instr.sureAddr, storeVar, Sem.run_bind, Sem.run_pure, Result.andThen_ok, hS, ne_eq, not_true, if_false]
  have := hst
  simp only [Nat.add_zero] at this
  rw [this]
  rfl
 unfold Oper.wp
 rw [hrun]
 simp only [Oper.upon]
 have hB' : Blk (W.setRow g (put cs k v.cells.toList)) g tb (put cs k v.cells.toList) := setRow_heap W g cs _ tb (0, 0) hb
 have hU : Upd (fun b => b = g) W (W.setRow g (put cs k v.cells.toList)) := by
  refine ⟨rfl, rfl, rfl, by simp [World.setRow], fun b hb' hF => ?_⟩
  simp only [World.setRow, Array.getElem?_modify]
  rw [if_neg (fun e => hF e.symm)]
 refine h _ hU ?_
 obtain ⟨F1, a1, a2, a3⟩ := H.turn
 exact a3 _ _ (hU.mono (fun b _ e => e ▸ a1.1)) ⟨.inl a1.1, hB'⟩
theorem op_store0 {t g tb m : Nat} {cs : Array Value} (ho : ops[i]? = some ⟨none, .store t y z, ty, pos, aft, none⟩) (hS : ∀ w, (sizeOf t).run P w = .ok m w) (hx : evl n live y = some (.pointer (some ⟨g, 0, none⟩))) (hz : evl n live z = some v) (hm : v.cells.size = m) (hk : m ≤ cs.size) (h1 : ∀ u ∈ v.cells.toList, u.oneCell' = true) (H : St w F0 (hB g tb cs :: l) W) (h : ∀ W', Upd (fun b => b = g) W W' → St w F0 (hB g tb (put cs 0 v.cells.toList) :: l) W' → K (bH n x live) W') : wpOp P ops Q i K (bH n x live) W :=
 bR (k := 0) ho hS hx hz hm kO h1 H h
theorem aN {id : Nat} {a : Act} (is : List Nat) (hl : List.range ops.size = is) (h : wpOps P ops Q is a W) : (Code.region id ops false).wp P Q a W := wp_region (hl ▸ h)
theorem aA {a : Act} {rest : List Nat} (h : wpOp P ops Q i (wpOps P ops Q rest) a W) : wpOps P ops Q (i :: rest) a W := by
 rw [wpOps_cons]
 exact h
theorem aI {a : Act} (h : Q .normal a W) : wpOps P ops Q [] a W := h
theorem aK {a : Act} (h : K a W) : Exit.then K Q .normal a W := h
theorem eP {a : Act} {id : Nat} (h : Q .normal a W) : Exit.inBlock id Q .normal a W := h
theorem iH {a : Act} {id : Nat} (h : Q .normal a W) : Exit.inBlock id Q (.exit id) a W := by
 show (if id = id then Q .normal a W else Q (.exit id) a W)
 rw [if_pos rfl]
 exact h
theorem dB {c1 c2 : Code} {p : Prop} [Decidable p] (hc : evl n live y = some (.bool (decide p))) (ht : p → c1.wp P Q (bH n x live) W) (hf : ¬ p → c2.wp P Q (bH n x live) W) : (Code.cond y c1 c2).wp P Q (bH n x live) W := by
 by_cases hp : p
 ·exact wp_cond_true (by rw [dM hc, decide_eq_true hp]) (ht hp)
 ·exact wp_cond_false (by rw [dM hc, decide_eq_false hp]) (hf hp)
theorem fK {c1 c2 : Code} (hc : evl n live y = some (.bool true)) (ht : c1.wp P Q (bH n x live) W) : (Code.cond y c1 c2).wp P Q (bH n x live) W := wp_cond_true (dM hc) ht
theorem fA {c1 c2 : Code} (hc : evl n live y = some (.bool false)) (ht : c2.wp P Q (bH n x live) W) : (Code.cond y c1 c2).wp P Q (bH n x live) W := wp_cond_false (dM hc) ht
theorem eU {c : Code} {a : Act} (Rel : Act → World → Prop) (h : c.wp P (fun e a' W' => match e with | .normal => Rel a' W' | .panic _ => False | e => Q e a' W') a W) (k : ∀ a' W', Rel a' W' → Q .normal a' W') : c.wp P Q a W :=
 wp_mono h fun e a' W' hq => by
  cases e with
  | normal => exact k a' W' hq
  | panic ch => exact hq.elim
  | _ => exact hq
theorem enter {f : FuncId} {fn : Func} {c : Code} {args : Array Value} {R : Ending → World → Prop} (n : Nat) (live : List (Nat × Value)) (hf : P.funcs[f]? = some fn) (hb : fn.body = some c) (ha : (⟨args ++ Array.replicate (fn.ntmps - args.size) undef, []⟩ : Act) = bH n (fun _ => undef) live) (h : ∀ x, c.wp P (bodyPost P fn R) (bH n x live) w) : Calls P f args w R :=
 calls_of_wp hf hb (ha ▸ h _)
theorem bI {fn : Func} {e : Exit} {t : Nat} {R : Ending → World → Prop} (he : e = .ret ∨ e = .normal) (hr : fn.results = #[.tmp t]) (hx : evl n live (.tmp t) = some v) (h : R (.returned v) W) : bodyPost P fn R e (bH n x live) W := by
 have e2 : (bH n x live).tmps.getD t undef = v := dM (y := .tmp t) hx
 have hrun : (results fn (bH n x live).tmps).run P W = .ok v W := by
  simp only [results, hr]
  simp at e2
  simp [e2]
 rcases he with rfl | rfl <;> exact ⟨rfl, v, hrun, h⟩
theorem run_cell {t g tb m : Nat} {cs : Array Value} (hA : ∀ w, (isAgg t).run P w = .ok true w) (hS : ∀ w, (sizeOf t).run P w = .ok m w) (hb : Blk W g tb cs) (hm : cs.size = m) : (loadVar t ⟨g, 0, none⟩).run P W = .ok (.agg cs) W := by
 subst hm
 have hl := run_loadCells_list (P := P) W ⟨g, 0, none⟩ cs.toList hb.at'
 simp only [Array.length_toList, Array.toArray_toList] at hl
 simp [loadVar, hA, hS, hl]
theorem dI {fn : Func} {e : Exit} {p t g tb m : Nat} {cs : Array Value} {R : Ending → World → Prop} (he : e = .ret ∨ e = .normal) (hr : fn.results = #[.cell p t]) (hA : ∀ w, (isAgg t).run P w = .ok true w) (hS : ∀ w, (sizeOf t).run P w = .ok m w) (hx : evl n live (.tmp p) = some (.pointer (some ⟨g, 0, none⟩))) (hb : Blk W g tb cs) (hm : cs.size = m) (h : R (.returned (.agg cs)) W) : bodyPost P fn R e (bH n x live) W := by
 have e2 : (bH n x live).tmps.getD p undef = .pointer (some ⟨g, 0, none⟩) := dM (y := .tmp p) hx
 have hl := run_cell hA hS hb hm
 have hrun : (results fn (bH n x live).tmps).run P W = .ok (.agg cs) W := by
  simp only [results, hr]
  simp at e2
  simp [e2, asAddr, hl]
 rcases he with rfl | rfl <;> exact ⟨rfl, _, hrun, h⟩
theorem iM {fn : Func} {e : Exit} {p t g tb m j : Nat} {cs : Array Value} {R : Ending → World → Prop} (he : e = .ret ∨ e = .normal) (hr : fn.results = #[.cell p t, .tmp j]) (hA : ∀ w, (isAgg t).run P w = .ok true w) (hS : ∀ w, (sizeOf t).run P w = .ok m w) (hx : evl n live (.tmp p) = some (.pointer (some ⟨g, 0, none⟩))) (hy : evl n live (.tmp j) = some v) (hb : Blk W g tb cs) (hm : cs.size = m) (h : R (.returned (.tuple #[.agg cs, v])) W) : bodyPost P fn R e (bH n x live) W := by
 have e2 : (bH n x live).tmps.getD p undef = .pointer (some ⟨g, 0, none⟩) := dM (y := .tmp p) hx
 have e3 : (bH n x live).tmps.getD j undef = v := dM (y := .tmp j) hy
 have hl := run_cell hA hS hb hm
 have hrun : (results fn (bH n x live).tmps).run P W = .ok (.tuple #[.agg cs, v]) W := by
  simp only [results, hr]
  simp at e2 e3
  simp [e2, e3, asAddr, hl]
 rcases he with rfl | rfl <;> exact ⟨rfl, _, hrun, h⟩
end
section
variable {P : Program} {ops : Array Oper} {Q : Exit → Act → World → Prop} {md : Region.Mode} {S : World → Prop} {t : Nat}
def wpAnyS (P : Program) (md : Region.Mode) (ops : Array Oper) (Q : Exit → Act → World → Prop) (S : World → Prop) (t : Nat) : Nat → Array Bool → Act → World → Prop
 | 0, listed, a, w => Region.ready md ops listed = [] ∧ Q .normal a w
 | fuel + 1, listed, a, w =>
  (Region.ready md ops listed = [] → Q .normal a w) ∧
  ∀ i ∈ Region.ready md ops listed, wpOp P ops Q i (fun a' w' => ((listed.setIfInBounds i true).getD t false = false → S w') ∧ wpAnyS P md ops Q S t fuel (listed.setIfInBounds i true) a' w') a w
theorem wpAny_of_S : ∀ (fuel : Nat) (listed : Array Bool) (a : Act) (w : World), wpAnyS P md ops Q S t fuel listed a w → wpAny P md ops Q fuel listed a w
 | 0, _, _, _, h => h
 | fuel + 1, _, _, _, h => ⟨h.1, fun i hi => wpOp_mono (fun a' w' h' => wpAny_of_S fuel _ a' w' h'.2) (h.2 i hi)⟩
def waits (md : Region.Mode) (ops : Array Oper) (t i : Nat) : Bool := i != t && (match ops[t]? with | none => true | some o => o.after.any fun e => Region.binds md e && e.on == i)
theorem anyS_first {i : Nat} {oi : Oper} {v : Value} (hi : ops[i]? = some oi) (hsel : ∀ (j : Nat) (o : Oper) cs b, ops[j]? = some o → o.op ≠ .select cs b) (hw : waits md ops t i = true)
 (hQ : ∀ c a w, Q (.panic c) (a.put oi.dst v) w → Q (.panic c) a w) :
 ∀ (fuel : Nat) (listed : Array Bool) (a : Act) (w : World),
  (∀ j oj, ops[j]? = some oj → j ≠ i → listed.getD j true = false → (∀ e ∈ oj.after, Region.binds md e = true → e.on ≠ i) → oi.apart ops oj = true) →
  i ∈ Region.ready md ops listed → YieldsIf P ops S oi v a → S w → listed.getD t false = false →
  wpAnyS P md ops Q S t fuel (listed.setIfInBounds i true) (a.put oi.dst v) w → wpAnyS P md ops Q S t (fuel + 1) listed a w := by
 simp only [waits, Bool.and_eq_true, bne_iff_ne, ne_eq] at hw
 obtain ⟨hit, hw⟩ := hw
 intro fuel
 induction fuel with
 | zero =>
  intro listed a w _ hr hy hS ht H
  refine ⟨fun h => (by rw [h] at hr; cases hr), fun j hj => ?_⟩
  by_cases hji : j = i
  ·subst hji; exact hy.wpOp hi hS ⟨fun _ => hS, H⟩
  ·have := ready_mono hj hji
   rw [H.1] at this
   cases this
 | succ fuel ih =>
  intro listed a w hfree hr hy hS ht H
  refine ⟨fun h => (by rw [h] at hr; cases hr), fun j hj => ?_⟩
  by_cases hji : j = i
  ·subst hji; exact hy.wpOp hi hS ⟨fun _ => hS, H⟩
  ·have h1 := H.2 j (ready_mono hj hji)
   obtain ⟨hjun, oj, hoj, hall⟩ := mem_ready.1 hj
   have hnot : ∀ e ∈ oj.after, Region.binds md e = true → e.on ≠ i := fun e he hb heq => by
    have h1 := hall e he hb
    have h0 := (mem_ready.1 hr).1
    rw [heq] at h1
    rcases Nat.lt_or_ge i listed.size with h' | h'
    ·simp [h'] at h0 h1; rw [h0] at h1; cases h1
    ·simp [Array.getElem?_eq_none h'] at h1
   have hjt : j ≠ t := by
    rintro rfl
    rw [hoj] at hw
    obtain ⟨e, he, hb⟩ := Array.any_eq_true'.1 hw
    simp only [Bool.and_eq_true, beq_iff_eq] at hb
    exact hnot e he hb.1 hb.2
   have ht' : (listed.setIfInBounds j true).getD t false = false := by rw [getD_set_ne false hjt]; exact ht
   have h2 := wpOp_putIf hoj (hfree j oj hoj hji hjun hnot) (fun cs b => hsel i oi cs b hi) (fun cs b => hsel j oj cs b hoj) hQ hy h1
   have hfree' : ∀ k ok, ops[k]? = some ok → k ≠ i → (listed.setIfInBounds j true).getD k true = false →
    (∀ e ∈ ok.after, Region.binds md e = true → e.on ≠ i) → oi.apart ops ok = true := fun k ok hk hki hun hno => by
    refine hfree k ok hk hki ?_ hno
    by_cases hjk : j = k
    ·subst hjk; exact hjun
    ·rw [getD_set_ne true hjk] at hun; exact hun
   have ht2 : ((listed.setIfInBounds i true).setIfInBounds j true).getD t false = false := by rw [getD_set_ne false hjt, getD_set_ne false hit]; exact ht
   refine wpOp_mono (fun a' w' h3 => ⟨fun _ => h3.2.1 ht2, ih (listed.setIfInBounds j true) a' w' hfree' (ready_mono hr (Ne.symm hji)) h3.1 (h3.2.1 ht2) ht' ?_⟩) h2
   rw [Array.setIfInBounds_comm _ _ hji]
   exact h3.2.2
theorem aO {i d n : Nat} {x : Nat → Value} {live : List (Nat × Value)} {dst : Option Nat} {op : Op} {ty : Nat} {pos : String} {aft : Array Edge} {v : Value} {fuel : Nat} {listed : Array Bool} {w : World} (hi : ops[i]? = some ⟨dst, op, ty, pos, aft, none⟩)
 (hs : Region.noSelect ops = true) (hf : Region.free md ops listed i = true) (hr : (Region.ready md ops listed).contains i = true) (hw : waits md ops t i = true) (ht : listed.getD t false = false)
 (hQ : ∀ c a w, Q (.panic c) (a.put dst v) w → Q (.panic c) a w) (hd : dst = some d) (hdn : decide (d < n) = true) (hS : S w) (hy : ∀ W, S W → Rn P ⟨dst, op, ty, pos, aft, none⟩ (bH n x live) W v)
 (h : wpAnyS P md ops Q S t fuel (listed.setIfInBounds i true) (bH n x ((d, v) :: live)) w) : wpAnyS P md ops Q S t (fuel + 1) listed (bH n x live) w := by
 subst hd
 exact anyS_first hi (Region.noSelect_spec hs) hw hQ fuel listed _ w (Region.free_spec hi hf) (by simpa using hr) (.inl ⟨rfl, hy⟩) hS ht (by rw [gQ (of_decide_eq_true hdn)]; exact h)
theorem bM {i : Nat} {fuel : Nat} {listed : Array Bool} {a : Act} {w : World} (hr : Region.ready md ops listed = [i])
 (h : wpOp P ops Q i (fun a' w' => ((listed.setIfInBounds i true).getD t false = false → S w') ∧ wpAnyS P md ops Q S t fuel (listed.setIfInBounds i true) a' w') a w) : wpAnyS P md ops Q S t (fuel + 1) listed a w :=
 ⟨fun h0 => (by rw [hr] at h0; cases h0), fun j hj => (by rw [hr] at hj; rw [List.mem_singleton.1 hj]; exact h)⟩
theorem anyS_two {i i2 : Nat} {fuel : Nat} {listed : Array Bool} {a : Act} {w : World} (hr : Region.ready md ops listed = [i, i2])
 (h : wpOp P ops Q i (fun a' w' => ((listed.setIfInBounds i true).getD t false = false → S w') ∧ wpAnyS P md ops Q S t fuel (listed.setIfInBounds i true) a' w') a w)
 (h2 : wpOp P ops Q i2 (fun a' w' => ((listed.setIfInBounds i2 true).getD t false = false → S w') ∧ wpAnyS P md ops Q S t fuel (listed.setIfInBounds i2 true) a' w') a w) : wpAnyS P md ops Q S t (fuel + 1) listed a w :=
 ⟨fun h0 => (by rw [hr] at h0; cases h0), fun j hj => (by
  rw [hr] at hj
  rcases List.mem_cons.1 hj with rfl | hj
  ·exact h
  ·rw [List.mem_singleton.1 hj]; exact h2)⟩
theorem cB {listed : Array Bool} {a : Act} {w : World} (hr : Region.ready md ops listed = []) (h : Q .normal a w) : ∀ fuel, wpAnyS P md ops Q S t fuel listed a w
 | 0 => ⟨hr, h⟩
 | _ + 1 => ⟨fun _ => h, by rw [hr]; simp⟩
theorem dG {id : Nat} {a : Act} {w : World} (S : World → Prop) (t : Nat) (hm : P.follows .mixedOrders = true) (h : wpAnyS P .any ops Q S t ops.size (Array.replicate ops.size false) a w.drew) : (Code.region id ops true).wp P Q a w :=
 wp_region_any hm (wpAny_of_S _ _ _ _ h)
end
section
variable {P : Program} {ops : Array Oper} {Q : Exit → Act → World → Prop} {K : Act → World → Prop} {n i d ty : Nat} {x : Nat → Value} {live : List (Nat × Value)} {W w : World} {F0 : Nat → Prop} {l l' : List HP} {pos : String} {aft : Array Edge} {v : Value} {y z : Operand}
section
variable {dst : Option Nat} {xt yt : Nat} {p q : Int} (hx : evl n live y = some (.int .i64 p)) (hz : evl n live z = some (.int .i64 q))
include hx hz
theorem gB : Rn P ⟨dst, .binOp .lss xt y z yt, ty, pos, aft, none⟩ (bH n x live) W (.bool (decide (p < q))) := rn_cmp hx hz (by simp [binOp, Op.intCmp])
theorem rn_leq : Rn P ⟨dst, .binOp .leq xt y z yt, ty, pos, aft, none⟩ (bH n x live) W (.bool (decide (p ≤ q))) := rn_cmp hx hz (by simp [binOp, Op.intCmp])
theorem rn_gtr : Rn P ⟨dst, .binOp .gtr xt y z yt, ty, pos, aft, none⟩ (bH n x live) W (.bool (decide (q < p))) := rn_cmp hx hz (by simp [binOp, Op.intCmp])
theorem rn_geq : Rn P ⟨dst, .binOp .geq xt y z yt, ty, pos, aft, none⟩ (bH n x live) W (.bool (decide (q ≤ p))) := rn_cmp hx hz (by simp [binOp, Op.intCmp])
theorem bS : Rn P ⟨dst, .binOp .eql xt y z yt, ty, pos, aft, none⟩ (bH n x live) W (.bool (decide (p = q))) := rn_cmp hx hz (by
 by_cases e : p = q
 ·simp [binOp, Op.intCmp, e]
 ·have e' : (p == q) = false := beq_eq_false_iff_ne.2 e
  simp [binOp, Op.intCmp, e', e])
theorem gH : Rn P ⟨dst, .binOp .neq xt y z yt, ty, pos, aft, none⟩ (bH n x live) W (.bool (decide (¬ p = q))) := rn_cmp hx hz (by
 by_cases e : p = q
 ·simp [binOp, Op.intCmp, e]
 ·have e' : (p == q) = false := beq_eq_false_iff_ne.2 e
  simp [binOp, Op.intCmp, bne, e', e])
theorem jI : Rn P ⟨dst, .binOp .add xt y z yt, ty, pos, aft, none⟩ (bH n x live) W (.int .i64 (IntKind.i64.wrap (p + q))) := rn_arith hx hz (by simp [binOp, Op.intArith])
theorem rn_subW : Rn P ⟨dst, .binOp .sub xt y z yt, ty, pos, aft, none⟩ (bH n x live) W (.int .i64 (IntKind.i64.wrap (p - q))) := rn_arith hx hz (by simp [binOp, Op.intArith])
end
theorem wrap_id {p : Int} (h : -9223372036854775808 ≤ p ∧ p ≤ 9223372036854775807) : IntKind.i64.wrap p = p := (IntWalk.i64_left p).trans (IntWalk.wrap64_in _ h)
theorem gV {dst : Option Nat} {xt yt : Nat} {p q : Int} (hx : evl n live y = some (.int .i64 p)) (hz : evl n live z = some (.int .i64 q)) (hb : -9223372036854775808 ≤ p + q ∧ p + q ≤ 9223372036854775807) : Rn P ⟨dst, .binOp .add xt y z yt, ty, pos, aft, none⟩ (bH n x live) W (.int .i64 (p + q)) := by
 have := jI (P := P) (dst := dst) (ty := ty) (pos := pos) (aft := aft) (x := x) (W := W) (xt := xt) (yt := yt) hx hz
 rwa [wrap_id hb] at this
theorem kF {dst : Option Nat} {xt yt : Nat} {p q : Int} (hx : evl n live y = some (.int .i64 p)) (hz : evl n live z = some (.int .i64 q)) (hb : -9223372036854775808 ≤ p - q ∧ p - q ≤ 9223372036854775807) : Rn P ⟨dst, .binOp .sub xt y z yt, ty, pos, aft, none⟩ (bH n x live) W (.int .i64 (p - q)) := by
 have := rn_subW (P := P) (dst := dst) (ty := ty) (pos := pos) (aft := aft) (x := x) (W := W) (xt := xt) (yt := yt) hx hz
 rwa [wrap_id hb] at this
theorem gT {dst : Option Nat} {xt yt k : Nat} (hx : evl n live y = some (.int .i64 (k : Int))) (hz : evl n live z = some (.int .i64 1)) (hb : k < 9223372036854775807) : Rn P ⟨dst, .binOp .add xt y z yt, ty, pos, aft, none⟩ (bH n x live) W (.int .i64 ((k + 1 : Nat) : Int)) := by
 have := gV (P := P) (dst := dst) (ty := ty) (pos := pos) (aft := aft) (x := x) (W := W) (xt := xt) (yt := yt) hx hz kO
 simpa using this
theorem rn_streql {dst : Option Nat} {xt yt : Nat} {s t : ByteArray} (hx : evl n live y = some (.string s)) (hz : evl n live z = some (.string t)) : Rn P ⟨dst, .binOp .eql xt y z yt, ty, pos, aft, none⟩ (bH n x live) W (.bool (s.toList == t.toList)) := by
 unfold Rn
 simp [execOp, dM hx, dM hz, eqGuard_at_string, binOp, Op.stringOp]
theorem aX {dst : Option Nat} {c : Operand} {b : Bool} {u1 u2 : Value} (hc : evl n live c = some (.bool b)) (hx : evl n live y = some u1) (hz : evl n live z = some u2) (hv : v = if b then u1 else u2) : Rn P ⟨dst, .pick c y z, ty, pos, aft, none⟩ (bH n x live) W v := by
 unfold Rn
 subst hv
 cases b <;> simp [execOp, dM hc, dM hx, dM hz, asBool]
theorem dS {dst : Option Nat} {t : Nat} {ps : Array (Nat × Operand)} {vs : List (Nat × Value)} {cells : Array Value} (hv : ps.toList.map (fun p => (p.1, evl n live p.2)) = vs.map (fun p => (p.1, some p.2))) (hb : P.built t vs = some cells) : Rn P ⟨dst, .build t ps, ty, pos, aft, none⟩ (bH n x live) W (.agg cells) := by
 unfold Rn
 have e : (ps.map fun (i, x') => (i, (bH n x live).eval x')).toList = vs := by
  clear hb
  rw [Array.toList_map]
  generalize ps.toList = pl at hv
  induction pl generalizing vs with
  | nil => cases vs with
   | nil => rfl
   | cons a l => cases hv
  | cons a pl ih => cases vs with
   | nil => cases hv
   | cons b l =>
    simp only [List.map_cons, List.cons.injEq, Prod.mk.injEq] at hv
    obtain ⟨⟨h1, h2⟩, h3⟩ := hv
    obtain ⟨b1, b2⟩ := b
    simp only at h1 h2
    rw [List.map_cons, ih h3]
    subst h1
    show (a.1, (bH n x live).eval a.2) :: l = _
    rw [dM h2]
 have := run_build (P := P) W t (ps.map fun (i, x') => (i, (bH n x live).eval x')) cells (by rw [e]; exact hb)
 simp [execOp, this]
theorem fill_all (vs cs : Array Value) (h : vs.size = cs.size) : vs.zipIdx.foldl (fun cs (c, j) => cs.setIfInBounds (0 + j) c) cs = vs := by
 have key : ∀ (l : List Value) (k : Nat) (cs : Array Value), k + l.length = cs.size → (l.zipIdx k).foldl (fun cs (p : Value × Nat) => cs.setIfInBounds (0 + p.2) p.1) cs = (cs.toList.take k ++ l).toArray := by
  intro l
  induction l with
  | nil =>
   intro k cs hk
   simp only [List.zipIdx_nil, List.foldl_nil, List.append_nil]
   rw [List.take_of_length_le (by simp at hk ⊢; omega)]
  | cons a l ih =>
   intro k cs hk
   rw [List.zipIdx_cons, List.foldl_cons, ih (k + 1) _ (by simp at hk ⊢; omega)]
   congr 1
   simp only [Nat.zero_add, Array.toList_setIfInBounds]
   apply List.ext_getElem?
   intro j
   simp only [List.length_cons] at hk
   have hkc : k < cs.toList.length := by simp; omega
   rcases Nat.lt_trichotomy j k with hj | hj | hj
   ·rw [List.getElem?_append_left (by simp; omega), List.getElem?_append_left (by simp; omega), List.getElem?_take, List.getElem?_take, if_pos kO, if_pos hj, List.getElem?_set, if_neg kO]
   ·subst hj
    rw [List.getElem?_append_left (by simp; omega), List.getElem?_append_right (by simp; omega), List.getElem?_take, if_pos kO, List.getElem?_set, if_pos rfl, if_pos hkc]
    simp [show j - min j cs.size = 0 by omega]
   ·rw [List.getElem?_append_right (by simp; omega), List.getElem?_append_right (by simp; omega)]
    simp only [List.length_take, List.length_set, Array.length_toList]
    rw [show j - min (k + 1) cs.size = j - (k + 1) by omega, show j - min k cs.size = (j - (k + 1)) + 1 by omega, List.getElem?_cons_succ]
 have := key vs.toList 0 cs (by simpa using h)
 simp only [List.take_zero, List.nil_append, Array.toArray_toList] at this
 rw [← Array.foldl_toList, Array.toList_zipIdx]
 exact this
theorem dD {dst : Option Nat} {t e m : Nat} {z0 : Value} (ho : ops[i]? = some ⟨dst, .buildSlice t 1 #[(0, y)], ty, pos, aft, none⟩) (hu : ∀ w, (underlying t).run P w = .ok (.slice e) w) (hS : ∀ w, (sizeOf e).run P w = .ok m w) (hm : 0 < m ∧ m ≤ 4096) (hz : ∀ w, (zeroValue e).run P w = .ok z0 w) (hx : evl n live y = some v) (hv : v.cells.size = m) (hd : dst = some d) (hdn : decide (d < n) = true) (H : St w F0 l W) (h : ∀ g W', Upd No W W' → St w F0 (hB g e v.cells :: l) W' → K (bH n x ((d, .slice (some ⟨g, 0, none⟩) 1 1) :: live)) W') : wpOp P ops Q i K (bH n x live) W := by
 subst hd
 refine op_ok ho rfl ?_
 have h0 : ¬ (1 * m > 2 ^ 24) := by omega
 have h1 : ¬ (1 * m = 0) := by omega
 have hf : Instr.fill (fun i => some (i * m, m)) ((Array.range (1 * m)).map (fun k => z0.cells[k % z0.cells.size]!)) [(0, v)] = some v.cells := by
  simp only [Instr.fill, Nat.zero_mul, Nat.zero_add, hv, ne_eq, not_true, Nat.one_mul, Array.size_map, Array.size_range, gt_iff_lt, Nat.lt_irrefl]
  have := fill_all v.cells ((Array.range m).map (fun k => z0.cells[k % z0.cells.size]!)) (by simp [hv])
  simp only [Nat.zero_add] at this
  rw [this]
  simp
 have hrun : (execOp (bH n x live).eval ⟨some d, .buildSlice t 1 #[(0, y)], ty, pos, aft, none⟩).run P W = .ok (.value (.slice (some ⟨W.heap.size, 0, none⟩) 1 1)) (W.alloc (.cells v.cells e)) := by
  simp only [execOp, List.map_toArray, List.map_cons, List.map_nil, dM hx, Instr.buildSlice, Sem.run_bind, hu, hS, Result.andThen_ok, h0, if_false, h1, hz, Sem.run_pure, hf]
  simp [newRow]
 unfold Oper.wp
 rw [hrun]
 simp only [Oper.upon]
 rw [gQ (of_decide_eq_true hdn)]
 exact h _ _ ((Upd.refl _ _).alloc _) (H.alloc e v.cells)
theorem op_slice0 {α : Type} {dk : Kn α} {dst : Option Nat} {t e m : Nat} (ho : ops[i]? = some ⟨dst, .buildSlice t 0 #[], ty, pos, aft, none⟩) (hu : ∀ w, (underlying t).run P w = .ok (.slice e) w) (hS : ∀ w, (sizeOf e).run P w = .ok m w) (hd : dst = some d) (hdn : decide (d < n) = true) (H : St w F0 l W) (h : ∀ A W', Upd No W W' → St w F0 (hR dk e (.slice A 0 0) [] :: l) W' → K (bH n x ((d, .slice A 0 0) :: live)) W') : wpOp P ops Q i K (bH n x live) W := by
 subst hd
 refine op_ok ho rfl ?_
 have hrun : (execOp (bH n x live).eval ⟨some d, .buildSlice t 0 #[], ty, pos, aft, none⟩).run P W = .ok (.value (.slice (some ⟨W.heap.size, 0, none⟩) 0 0)) (W.alloc (.cells #[] e)) := by
  simp [execOp, Instr.buildSlice, hu, hS, Instr.fill, newRow, Array.range_zero']
 unfold Oper.wp
 rw [hrun]
 simp only [Oper.upon]
 rw [gQ (of_decide_eq_true hdn)]
 exact h _ _ ((Upd.refl _ _).alloc _) (H.new ((Upd.refl _ _).alloc _) (gF (F' := New W) (fun b hb => by subst hb; exact Nat.le_refl _) (R_emptyB (Blk.new _ _ _))))
theorem St.add0 {q : HP} (H : St w F0 l W) (hq : q.p W No) : St w F0 (q :: l) W := ⟨H.1, Star.cons No _ hq H.2 (fun _ h => h.elim) (fun _ h => h) (fun _ h => h.elim)⟩
theorem Rn_append {t e bytes c : Nat} {α : Type} {dk : Kn α} {F : Nat → Prop} {z0 : Value} {xs ys : List α} {A : Option Addr} {Gs : Nat → Nat → Prop} {dst : Option Nat}
 (ht : P.underlying t = some (.slice e)) (hinfo : (P.info? e).map (fun i => (i.zero, i.size, i.bytes)) = some (some z0, dk.sz, bytes)) (hz : z0.cells.size = dk.sz) (hs0 : 0 < dk.sz) (hb0 : 0 < bytes)
 (hx : evl n live y = some v) (hy : evl n live z = some (.slice A ys.length c)) (HR : R dk e W F v xs) (HC : CM dk W A ys Gs) (hd : ∀ j b, Gs j b → ¬ F b) (hd2 : ∀ i j b, Gs i b → Gs j b → i = j) (hl : (xs.length + ys.length) * bytes ≤ 140737488355328) :
 ∃ B c' W', (execOp (bH n x live).eval ⟨dst, .call { callee := .builtin .append, args := #[y, z], argTypes := #[t, t] }, ty, pos, aft, none⟩).run P W = .ok (.value (.slice B (xs.length + ys.length) c')) W' ∧ R dk e W' (fun b => F b ∨ (∃ j, j < ys.length ∧ Gs j b) ∨ W.heap.size ≤ b) (.slice B (xs.length + ys.length) c') (xs ++ ys) ∧ Upd F W W' := by
 obtain ⟨v1, w1, hrun, h1, h2⟩ := run_appAny (P := P) W t ty z0 bytes ht hinfo hz hs0 hb0 A c Gs HR HC hd hd2 hl
 obtain ⟨B, c', e'⟩ := eZ h1
 rw [List.length_append] at e'
 subst e'
 exact ⟨B, c', w1, by simp [execOp, resolve, invoke, builtin, dM hx, dM hy, hrun], h1, h2⟩
theorem op_appendA {t e bytes c : Nat} {α : Type} {dk : Kn α} {z0 : Value} {xs ys : List α} {A : Option Addr} {l0 : List HP} {dst : Option Nat}
 (ho : ops[i]? = some ⟨dst, .call { callee := .builtin .append, args := #[y, z], argTypes := #[t, t] }, ty, pos, aft, none⟩)
 (ht : P.underlying t = some (.slice e)) (hinfo : (P.info? e).map (fun i => (i.zero, i.size, i.bytes)) = some (some z0, dk.sz, bytes)) (hz : z0.cells.size = dk.sz) (hs0 : 0 < dk.sz) (hb0 : 0 < bytes)
 (hx : evl n live y = some v) (hy : evl n live z = some (.slice A ys.length c)) (hl : (xs.length + ys.length) * bytes ≤ 140737488355328) (hd : dst = some d) (hdn : decide (d < n) = true)
 (H : St w F0 ((hR dk e v xs :: l0) ++ l) W) (HC : ∀ F, Star l0 W F → ∃ Gs, CM dk W A ys Gs ∧ (∀ j b, Gs j b → F b) ∧ ∀ i j b, Gs i b → Gs j b → i = j)
 (h : ∀ B c W', St w F0 (hR dk e (.slice B (xs.length + ys.length) c) (xs ++ ys) :: l) W' → K (bH n x ((d, .slice B (xs.length + ys.length) c) :: live)) W') : wpOp P ops Q i K (bH n x live) W := by
 subst hd
 refine op_ok ho rfl ?_
 obtain ⟨F1, a1, _, a3⟩ := H.frame
 obtain ⟨FR, F2, b1, b2, b3, b4, b5⟩ := a1.uncons
 obtain ⟨Gs, g1, g2, g3⟩ := HC F2 b2
 obtain ⟨B, c', W', hrun, h1, h2⟩ := Rn_append (P := P) (ty := ty) (pos := pos) (aft := aft) (x := x) (dst := some d) ht hinfo hz hs0 hb0 hx hy b1 g1 (fun j b hb q => b5 b q (g2 j b hb)) g3 hl
 unfold Oper.wp
 rw [hrun]
 simp only [Oper.upon]
 rw [gQ (of_decide_eq_true hdn)]
 refine h B c' W' (a3 [hR dk e (.slice B (xs.length + ys.length) c') (xs ++ ys)] W' ⟨h2.mono (fun b _ q => b3 b q), Star.one (gF (fun b q => ?_) h1)⟩)
 rcases q with q | ⟨j, _, q⟩ | q
 ·exact .inl (b3 b q)
 ·exact .inl (b4 b (g2 j b q))
 ·exact .inr q
theorem CM_one {α : Type} {dk : Kn α} {g e : Nat} {p : α} {cs : Array Value} {Fp : Nat → Prop} (hB : Blk W g e cs) (hp : dk.M W Fp p cs.toList) : CM dk W (some ⟨g, 0, none⟩) [p] (fun j b => j = 0 ∧ Fp b) := by
 refine ⟨by simp, fun _ => ⟨_, rfl, fun j q hj => ?_⟩⟩
 rcases j with _ | j
 ·simp only [List.getElem?_cons_zero, Option.some.injEq] at hj
  subst hj
  exact ⟨cs.toList, dk.iR (fun _ q => ⟨rfl, q⟩) hp, fun k u hu => by rw [Nat.zero_mul, Nat.zero_add]; exact hB.at' k u hu⟩
 ·simp at hj
theorem op_append1 {t e bytes g : Nat} {α : Type} {dk : Kn α} {z0 : Value} {xs : List α} {p : α} {cs : Array Value} {dst : Option Nat}
 (ho : ops[i]? = some ⟨dst, .call { callee := .builtin .append, args := #[y, z], argTypes := #[t, t] }, ty, pos, aft, none⟩)
 (ht : P.underlying t = some (.slice e)) (hinfo : (P.info? e).map (fun i => (i.zero, i.size, i.bytes)) = some (some z0, dk.sz, bytes)) (hz : z0.cells.size = dk.sz) (hs0 : 0 < dk.sz) (hb0 : 0 < bytes)
 (hx : evl n live y = some v) (hy : evl n live z = some (.slice (some ⟨g, 0, none⟩) 1 1)) (hl : (xs.length + 1) * bytes ≤ 140737488355328) (hd : dst = some d) (hdn : decide (d < n) = true)
 (H : St w F0 (hR dk e v xs :: hB g e cs :: hM dk p cs.toList :: l) W)
 (h : ∀ B c W', St w F0 (hR dk e (.slice B (xs.length + 1) c) (xs ++ [p]) :: l) W' → K (bH n x ((d, .slice B (xs.length + 1) c) :: live)) W') : wpOp P ops Q i K (bH n x live) W :=
 op_appendA (ys := [p]) (l0 := [hB g e cs, hM dk p cs.toList]) ho ht hinfo hz hs0 hb0 hx hy hl hd hdn H (fun F hF => by
  obtain ⟨Fg, F3, c1, c2, c3, c4, c5⟩ := hF.uncons
  obtain ⟨Fp, F4, d1, _, d3, _, _⟩ := c2.uncons
  exact ⟨_, CM_one c1.2 d1, fun j b hb => c4 b (d3 b hb.2), fun i j b hi hj => hi.1.trans hj.1.symm⟩) h
theorem op_append1f {t e bytes g : Nat} {α : Type} {dk : Kn α} {z0 : Value} {xs : List α} {p : α} {cs : Array Value} {dst : Option Nat}
 (ho : ops[i]? = some ⟨dst, .call { callee := .builtin .append, args := #[y, z], argTypes := #[t, t] }, ty, pos, aft, none⟩)
 (ht : P.underlying t = some (.slice e)) (hinfo : (P.info? e).map (fun i => (i.zero, i.size, i.bytes)) = some (some z0, dk.sz, bytes)) (hz : z0.cells.size = dk.sz) (hs0 : 0 < dk.sz) (hb0 : 0 < bytes)
 (hx : evl n live y = some v) (hy : evl n live z = some (.slice (some ⟨g, 0, none⟩) 1 1)) (hp : dk.M W No p cs.toList) (hl : (xs.length + 1) * bytes ≤ 140737488355328) (hd : dst = some d) (hdn : decide (d < n) = true)
 (H : St w F0 (hR dk e v xs :: hB g e cs :: l) W)
 (h : ∀ B c W', St w F0 (hR dk e (.slice B (xs.length + 1) c) (xs ++ [p]) :: l) W' → K (bH n x ((d, .slice B (xs.length + 1) c) :: live)) W') : wpOp P ops Q i K (bH n x live) W :=
 op_appendA (ys := [p]) (l0 := [hB g e cs]) ho ht hinfo hz hs0 hb0 hx hy hl hd hdn H (fun F hF => by
  obtain ⟨Fg, F3, c1, _, c3, _, _⟩ := hF.uncons
  exact ⟨_, CM_one c1.2 hp, fun j b hb => hb.2.elim, fun i j b hi hj => hi.1.trans hj.1.symm⟩) h
theorem op_appendN {t e bytes c : Nat} {α : Type} {dk : Kn α} {z0 : Value} {xs ys : List α} {A : Option Addr} {dst : Option Nat}
 (ho : ops[i]? = some ⟨dst, .call { callee := .builtin .append, args := #[y, z], argTypes := #[t, t] }, ty, pos, aft, none⟩)
 (ht : P.underlying t = some (.slice e)) (hinfo : (P.info? e).map (fun i => (i.zero, i.size, i.bytes)) = some (some z0, dk.sz, bytes)) (hz : z0.cells.size = dk.sz) (hs0 : 0 < dk.sz) (hb0 : 0 < bytes)
 (hf : Flat dk) (hx : evl n live y = some v) (hy : evl n live z = some (.slice A ys.length c)) (hC : C dk W A ys) (hl : (xs.length + ys.length) * bytes ≤ 140737488355328) (hd : dst = some d) (hdn : decide (d < n) = true)
 (H : St w F0 (hR dk e v xs :: l) W)
 (h : ∀ B c W', St w F0 (hR dk e (.slice B (xs.length + ys.length) c) (xs ++ ys) :: l) W' → K (bH n x ((d, .slice B (xs.length + ys.length) c) :: live)) W') : wpOp P ops Q i K (bH n x live) W :=
 op_appendA (l0 := []) ho ht hinfo hz hs0 hb0 hx hy hl hd hdn H (fun _ _ => ⟨_, gL hf hC, fun _ _ q => q.elim, fun _ _ _ q => q.elim⟩) h
theorem bG {t g tb m : Nat} {old cs : Array Value} (ho : ops[i]? = some ⟨none, .store t y z, ty, pos, aft, none⟩) (hS : ∀ w, (sizeOf t).run P w = .ok m w) (hx : evl n live y = some (.pointer (some ⟨g, 0, none⟩))) (hz : evl n live z = some (.agg cs)) (hm : cs.size = m) (hk : old.size = m) (h1 : ∀ u ∈ cs.toList, u.oneCell' = true) (H : St w F0 (hB g tb old :: l) W) (h : ∀ W', Upd (fun b => b = g) W W' → St w F0 (hB g tb cs :: l) W' → K (bH n x live) W') : wpOp P ops Q i K (bH n x live) W := by
 refine op_store0 ho hS hx hz hm kO h1 H (fun W' hu H' => h W' hu ?_)
 have e : put old 0 (Value.agg cs).cells.toList = cs := by
  simp only [put, Value.cells, List.take_zero, List.nil_append, Nat.zero_add]
  rw [List.drop_eq_nil_of_le (by simp; omega), List.append_nil, Array.toArray_toList]
 rw [← e]
 exact H'
theorem bN {dst : Option Nat} {t m g tb : Nat} {cs : Array Value} (hA : ∀ w, (isAgg t).run P w = .ok true w) (hS : ∀ w, (sizeOf t).run P w = .ok m w) (hx : evl n live y = some (.pointer (some ⟨g, 0, none⟩))) (hb : Blk W g tb cs) (hm : cs.size = m) : Rn P ⟨dst, .load t y, ty, pos, aft, none⟩ (bH n x live) W (.agg cs) := dR hA hS hx hb.at' (by simpa using hm)
theorem bB {dst : Option Nat} {t k g tb : Nat} {cs : Array Value} (hA : ∀ w, (isAgg t).run P w = .ok false w) (hx : evl n live y = some (.pointer (some (Addr.add ⟨g, 0, none⟩ k)))) (hb : Blk W g tb cs) (hv : cs[k]? = some v) : Rn P ⟨dst, .load t y, ty, pos, aft, none⟩ (bH n x live) W v := iQ hA hx (hb.at'.cell k (by simpa using hv))
theorem iL {dst : Option Nat} {t k m g tb : Nat} {cs sub : Array Value} (hA : ∀ w, (isAgg t).run P w = .ok true w) (hS : ∀ w, (sizeOf t).run P w = .ok m w) (hx : evl n live y = some (.pointer (some (Addr.add ⟨g, 0, none⟩ k)))) (hb : Blk W g tb cs) (hs : (cs.toList.drop k).take m = sub.toList) (hm : sub.size = m) : Rn P ⟨dst, .load t y, ty, pos, aft, none⟩ (bH n x live) W (.agg sub) := dR hA hS hx (hb.at'.sub k m hs) (by simpa using hm)
theorem iT {dst : Option Nat} {t k : Nat} {a : Addr} {cs : List Value} (hA : ∀ w, (isAgg t).run P w = .ok false w) (hx : evl n live y = some (.pointer (some (a.add k)))) (hc : Cat W a cs) (hv : cs[k]? = some v) : Rn P ⟨dst, .load t y, ty, pos, aft, none⟩ (bH n x live) W v := iQ hA hx (hc.cell k hv)
theorem rn_loadES {dst : Option Nat} {t k m : Nat} {a : Addr} {cs sub : List Value} (hA : ∀ w, (isAgg t).run P w = .ok true w) (hS : ∀ w, (sizeOf t).run P w = .ok m w) (hx : evl n live y = some (.pointer (some (a.add k)))) (hc : Cat W a cs) (hs : (cs.drop k).take m = sub) (hm : sub.length = m) : Rn P ⟨dst, .load t y, ty, pos, aft, none⟩ (bH n x live) W (.agg sub.toArray) := dR hA hS hx (hc.sub k m hs) hm
theorem bQ {dst : Option Nat} {t e sz k len cap : Nat} {A : Option Addr} {ad : Addr} (hu : ∀ w, (underlying t).run P w = .ok (.slice e) w) (hS : ∀ w, (sizeOf e).run P w = .ok sz w) (hx : evl n live y = some (.slice A len cap)) (hz : evl n live z = some (.int .i64 (k : Int))) (hA : A = some ad) (hk : k < len) : Rn P ⟨dst, .indexAddr t y z, ty, pos, aft, none⟩ (bH n x live) W (.pointer (some (ad.add (k * sz)))) := by
 subst hA
 exact rn_index hu hS hx hz hk
theorem Cat.cell0 {W : World} {a : Addr} {cs : List Value} {v : Value} (h : Cat W a cs) (hv : cs[0]? = some v) : W.cell? a = some v := h 0 v hv
theorem St.fU {α : Type} {dk : Kn α} {e m c : Nat} {A : Option Addr} {xs : List α} (h : St w F0 l W) (i : Nat) (hq : l[i]? = some (hR dk e (.slice A m c) xs)) : C dk W A xs := by
 obtain ⟨F, hF⟩ := h.get i hq
 exact R_C hF
theorem St.fE {α : Type} {dk : Kn α} {e m c : Nat} {A : Option Addr} {xs : List α} (h : St w F0 l W) (i : Nat) (hq : l[i]? = some (hR dk e (.slice A m c) xs)) : xs.length ≤ c ∧ m = xs.length := by
 obtain ⟨F, hF⟩ := h.get i hq
 obtain ⟨A', c', he, hl, _⟩ := R_reads hF
 cases he
 exact ⟨hl, rfl⟩
theorem St.kn {α : Type} {dk : Kn α} {p : α} {cs : List Value} (h : St w F0 l W) (i : Nat) (hq : l[i]? = some (hM dk p cs)) : dk.K W p cs := by
 obtain ⟨F, hF⟩ := h.get i hq
 exact dk.gN hF
theorem bY {a : Act} (h : Q .ret a W) : Exit.then K Q .ret a W := h
theorem gJ {a : Act} {id : Nat} (h : Q .ret a W) : Exit.inBlock id Q .ret a W := h
theorem dX {a : Act} {id : Nat} (h : Q (.exit id) a W) : Exit.then K Q (.exit id) a W := h
theorem jO {c1 c2 : Code} {b : Bool} (hc : evl n live y = some (.bool b)) (ht : b = true → c1.wp P Q (bH n x live) W) (hf : b = false → c2.wp P Q (bH n x live) W) : (Code.cond y c1 c2).wp P Q (bH n x live) W := by
 cases b
 ·exact wp_cond_false (dM hc) (hf rfl)
 ·exact wp_cond_true (dM hc) (ht rfl)
theorem wanted_G {o oj : Oper} {j dj : Nat} {want b : Bool} (hg : o.guard = some (j, want)) (hj : ops[j]? = some oj) (hdj : oj.dst = some dj) (hv : evl n live (.tmp dj) = some (.bool b)) : Region.wanted o (yielded ops (bH n x live).tmps) = (b == want) := by
 have e2 := dM (x := x) hv
 simp only [Act.eval, Array.getD_eq_getD_getElem?] at e2
 unfold Region.wanted yielded
 simp only [hg, hj, Option.bind_some, hdj]
 cases e : (bH n x live).tmps[dj]? with
 | none => rw [e] at e2; cases e2
 | some u =>
  rw [e] at e2
  simp only [Option.getD_some] at e2
  subst e2
  simp
theorem bL {dst : Option Nat} {op : Op} {j dj : Nat} {want : Bool} {oj : Oper} (ho : ops[i]? = some ⟨dst, op, ty, pos, aft, some (j, want)⟩) (hj : ops[j]? = some oj) (hdj : oj.dst = some dj) (hv : evl n live (.tmp dj) = some (.bool want)) (h : ∀ ops' : Array Oper, ops'[i]? = some ⟨dst, op, ty, pos, aft, none⟩ → wpOp P ops' Q i K (bH n x live) W) : wpOp P ops Q i K (bH n x live) W := by
 have hi : i < ops.size := (Array.getElem?_eq_some_iff.1 ho).1
 have h1 := h (ops.setIfInBounds i ⟨dst, op, ty, pos, aft, none⟩) (by simp [hi])
 unfold wpOp at h1 ⊢
 rw [show (ops.setIfInBounds i ⟨dst, op, ty, pos, aft, none⟩)[i]? = some ⟨dst, op, ty, pos, aft, none⟩ by simp [hi]] at h1
 simp only [ho] at h1 ⊢
 have hw : Region.wanted ⟨dst, op, ty, pos, aft, some (j, want)⟩ (yielded ops (bH n x live).tmps) = true := by
  rw [wanted_G rfl hj hdj hv]
  simp
 rw [if_pos hw]
 rw [if_pos (show Region.wanted _ _ = true from rfl)] at h1
 exact h1
theorem aD {dst : Option Nat} {op : Op} {j dj : Nat} {want b : Bool} {oj : Oper} (ho : ops[i]? = some ⟨dst, op, ty, pos, aft, some (j, want)⟩) (hj : ops[j]? = some oj) (hdj : oj.dst = some dj) (hv : evl n live (.tmp dj) = some (.bool b)) (hb : (b == want) = false) (hd : dst = some d) (hdn : decide (d < n) = true) (h : K (bH n x ((d, undef) :: live)) W) : wpOp P ops Q i K (bH n x live) W := by
 subst hd
 unfold wpOp
 simp only [ho]
 have hw : Region.wanted ⟨some d, op, ty, pos, aft, some (j, want)⟩ (yielded ops (bH n x live).tmps) = false := by
  rw [wanted_G rfl hj hdj hv, hb]
 rw [hw]
 simp only [Bool.false_eq_true, if_false]
 rw [gQ (of_decide_eq_true hdn)]
 exact h
theorem gG {t e bytes g n' : Nat} {α : Type} {dk : Kn α} {z0 : Value} {xs ys : List α} {p : α} {cs : Array Value} {dst : Option Nat}
 (ho : ops[i]? = some ⟨dst, .call { callee := .builtin .append, args := #[y, z], argTypes := #[t, t] }, ty, pos, aft, none⟩)
 (ht : P.underlying t = some (.slice e)) (hinfo : (P.info? e).map (fun i => (i.zero, i.size, i.bytes)) = some (some z0, dk.sz, bytes)) (hz : z0.cells.size = dk.sz) (hs0 : 0 < dk.sz) (hb0 : 0 < bytes)
 (hx : evl n live y = some v) (hy : evl n live z = some (.slice (some ⟨g, 0, none⟩) 1 1)) (hl : (xs.length + 1) * bytes ≤ 140737488355328) (hn : xs.length + 1 = n') (hys : xs ++ [p] = ys) (hd : dst = some d) (hdn : decide (d < n) = true)
 (H : St w F0 (hR dk e v xs :: hB g e cs :: hM dk p cs.toList :: l) W)
 (h : ∀ B c W', St w F0 (hR dk e (.slice B n' c) ys :: l) W' → K (bH n x ((d, .slice B n' c) :: live)) W') : wpOp P ops Q i K (bH n x live) W := by
 subst hn hys
 exact op_append1 ho ht hinfo hz hs0 hb0 hx hy hl hd hdn H h
theorem iY {t e bytes g n' : Nat} {α : Type} {dk : Kn α} {z0 : Value} {xs ys : List α} {p : α} {cs : Array Value} {dst : Option Nat}
 (ho : ops[i]? = some ⟨dst, .call { callee := .builtin .append, args := #[y, z], argTypes := #[t, t] }, ty, pos, aft, none⟩)
 (ht : P.underlying t = some (.slice e)) (hinfo : (P.info? e).map (fun i => (i.zero, i.size, i.bytes)) = some (some z0, dk.sz, bytes)) (hz : z0.cells.size = dk.sz) (hs0 : 0 < dk.sz) (hb0 : 0 < bytes)
 (hx : evl n live y = some v) (hy : evl n live z = some (.slice (some ⟨g, 0, none⟩) 1 1)) (hp : dk.M W No p cs.toList) (hl : (xs.length + 1) * bytes ≤ 140737488355328) (hn : xs.length + 1 = n') (hys : xs ++ [p] = ys) (hd : dst = some d) (hdn : decide (d < n) = true)
 (H : St w F0 (hR dk e v xs :: hB g e cs :: l) W)
 (h : ∀ B c W', St w F0 (hR dk e (.slice B n' c) ys :: l) W' → K (bH n x ((d, .slice B n' c) :: live)) W') : wpOp P ops Q i K (bH n x live) W := by
 subst hn hys
 exact op_append1f ho ht hinfo hz hs0 hb0 hx hy hp hl hd hdn H h
theorem op_appendN' {t e bytes c n' : Nat} {α : Type} {dk : Kn α} {z0 : Value} {xs ys zs : List α} {A : Option Addr} {dst : Option Nat}
 (ho : ops[i]? = some ⟨dst, .call { callee := .builtin .append, args := #[y, z], argTypes := #[t, t] }, ty, pos, aft, none⟩)
 (ht : P.underlying t = some (.slice e)) (hinfo : (P.info? e).map (fun i => (i.zero, i.size, i.bytes)) = some (some z0, dk.sz, bytes)) (hz : z0.cells.size = dk.sz) (hs0 : 0 < dk.sz) (hb0 : 0 < bytes)
 (hf : Flat dk) (hx : evl n live y = some v) (hy : evl n live z = some (.slice A ys.length c)) (hC : C dk W A ys) (hl : (xs.length + ys.length) * bytes ≤ 140737488355328) (hn : xs.length + ys.length = n') (hys : xs ++ ys = zs) (hd : dst = some d) (hdn : decide (d < n) = true)
 (H : St w F0 (hR dk e v xs :: l) W)
 (h : ∀ B c W', St w F0 (hR dk e (.slice B n' c) zs :: l) W' → K (bH n x ((d, .slice B n' c) :: live)) W') : wpOp P ops Q i K (bH n x live) W := by
 subst hn hys
 exact op_appendN ho ht hinfo hz hs0 hb0 hf hx hy hC hl hd hdn H h
theorem bZ {o : Oper} {a : Act} {p : Prop} [Decidable p] (hn : ¬ p) (h : Rn P o a W (.bool (decide p))) : Rn P o a W (.bool false) := by
 rw [decide_eq_false hn] at h
 exact h
theorem bX {o : Oper} {a : Act} {p : Prop} [Decidable p] (hn : p) (h : Rn P o a W (.bool (decide p))) : Rn P o a W (.bool true) := by
 rw [decide_eq_true hn] at h
 exact h
theorem absS {b : Bool} {p : Prop} (e : b = true) (h : b = false) : p := by rw [e] at h; cases h
theorem aZ {n : Nat} {x : Nat → Value} {live : List (Nat × Value)} (live' : List (Nat × Value)) (h2 : live'.map (fun p => some p.2) = live'.map (fun p => live.lookup p.1)) : ∃ x', bH n x live = bH n x' live' := actOf_drop (fun _ _ hm => (List.map_inj_left.1 h2 _ hm).symm)
end
end Go.Proofs.YtdfipdpeilegpaaSep
namespace Go.Proofs.YtdfipdpeilegpaaT
open Go.RowKit Go.Proofs.YtdfipdpeilegpaaSep
theorem fa_31_0 : dO Try.prog 31 0 0 := fun a W => by simp [Instr.fieldAt, Try.runUnderlying31, Instr.sureAddr, fieldPlace, Try.sizeOf3]
theorem fa_31_1 : dO Try.prog 31 1 1 := fun a W => by simp [Instr.fieldAt, Try.runUnderlying31, Instr.sureAddr, fieldPlace, Try.sizeOf3]
theorem fa_31_2 : dO Try.prog 31 2 2 := fun a W => by simp [Instr.fieldAt, Try.runUnderlying31, Instr.sureAddr, fieldPlace, Try.sizeOf3]
theorem fa_31_3 : dO Try.prog 31 3 3 := fun a W => by simp [Instr.fieldAt, Try.runUnderlying31, Instr.sureAddr, fieldPlace, Try.sizeOf3]
theorem fa_31_4 : dO Try.prog 31 4 4 := fun a W => by simp [Instr.fieldAt, Try.runUnderlying31, Instr.sureAddr, fieldPlace, Try.sizeOf9]
theorem fa_31_5 : dO Try.prog 31 5 5 := fun a W => by simp [Instr.fieldAt, Try.runUnderlying31, Instr.sureAddr, fieldPlace, Try.sizeOf25]
theorem fa_31_6 : dO Try.prog 31 6 6 := fun a W => by simp [Instr.fieldAt, Try.runUnderlying31, Instr.sureAddr, fieldPlace, Try.sizeOf27]
theorem fa_31_7 : dO Try.prog 31 7 8 := fun a W => by simp [Instr.fieldAt, Try.runUnderlying31, Instr.sureAddr, fieldPlace, Try.sizeOf3]
theorem fa_31_8 : dO Try.prog 31 8 9 := fun a W => by simp [Instr.fieldAt, Try.runUnderlying31, Instr.sureAddr, fieldPlace, Try.sizeOf29]
theorem fa_69_0 : dO Try.prog 69 0 0 := fun a W => by simp [Instr.fieldAt, Try.runUnderlying69, Instr.sureAddr, fieldPlace, Try.sizeOf3]
theorem eD : dO Try.prog 69 1 1 := fun a W => by simp [Instr.fieldAt, Try.runUnderlying69, Instr.sureAddr, fieldPlace, Try.sizeOf64]
theorem fa_69_2 : dO Try.prog 69 2 2 := fun a W => by simp [Instr.fieldAt, Try.runUnderlying69, Instr.sureAddr, fieldPlace, Try.sizeOf65]
theorem gW : dO Try.prog 69 3 3 := fun a W => by simp [Instr.fieldAt, Try.runUnderlying69, Instr.sureAddr, fieldPlace, Try.sizeOf66]
theorem kH : dO Try.prog 69 4 4 := fun a W => by simp [Instr.fieldAt, Try.runUnderlying69, Instr.sureAddr, fieldPlace, Try.sizeOf67]
theorem fa_70_0 : dO Try.prog 70 0 0 := fun a W => by simp [Instr.fieldAt, Try.runUnderlying70, Instr.sureAddr, fieldPlace, Try.sizeOf3]
theorem fa_70_1 : dO Try.prog 70 1 1 := fun a W => by simp [Instr.fieldAt, Try.runUnderlying70, Instr.sureAddr, fieldPlace, Try.sizeOf3]
theorem fa_77_0 : dO Try.prog 77 0 0 := fun a W => by simp [Instr.fieldAt, Try.runUnderlying77, Instr.sureAddr, fieldPlace, Try.sizeOf3]
theorem fa_77_1 : dO Try.prog 77 1 1 := fun a W => by simp [Instr.fieldAt, Try.runUnderlying77, Instr.sureAddr, fieldPlace, Try.sizeOf3]
theorem fa_77_2 : dO Try.prog 77 2 2 := fun a W => by simp [Instr.fieldAt, Try.runUnderlying77, Instr.sureAddr, fieldPlace, Try.sizeOf74]
theorem fV : dO Try.prog 77 3 3 := fun a W => by simp [Instr.fieldAt, Try.runUnderlying77, Instr.sureAddr, fieldPlace, Try.sizeOf3]
theorem kI : dO Try.prog 77 4 4 := fun a W => by simp [Instr.fieldAt, Try.runUnderlying77, Instr.sureAddr, fieldPlace, Try.sizeOf70]
theorem jX : dO Try.prog 77 5 6 := fun a W => by simp [Instr.fieldAt, Try.runUnderlying77, Instr.sureAddr, fieldPlace, Try.sizeOf65]
theorem jY : dO Try.prog 77 6 7 := fun a W => by simp [Instr.fieldAt, Try.runUnderlying77, Instr.sureAddr, fieldPlace, Try.sizeOf75]
theorem jZ : dO Try.prog 77 7 8 := fun a W => by simp [Instr.fieldAt, Try.runUnderlying77, Instr.sureAddr, fieldPlace, Try.sizeOf3]
theorem kT : dO Try.prog 77 8 9 := fun a W => by simp [Instr.fieldAt, Try.runUnderlying77, Instr.sureAddr, fieldPlace, Try.sizeOf3]
theorem fa_77_9 : dO Try.prog 77 9 10 := fun a W => by simp [Instr.fieldAt, Try.runUnderlying77, Instr.sureAddr, fieldPlace, Try.sizeOf3]
theorem fa_77_10 : dO Try.prog 77 10 11 := fun a W => by simp [Instr.fieldAt, Try.runUnderlying77, Instr.sureAddr, fieldPlace, Try.sizeOf3]
theorem fa_138_0 : dO Try.prog 138 0 0 := fun a W => by simp [Instr.fieldAt, Try.runUnderlying138, Instr.sureAddr, fieldPlace, Try.sizeOf3]
theorem fa_138_1 : dO Try.prog 138 1 1 := fun a W => by simp [Instr.fieldAt, Try.runUnderlying138, Instr.sureAddr, fieldPlace, Try.sizeOf4]
theorem iB : dO Try.prog 138 2 2 := fun a W => by simp [Instr.fieldAt, Try.runUnderlying138, Instr.sureAddr, fieldPlace, Try.sizeOf135]
theorem jF : dO Try.prog 138 3 3 := fun a W => by simp [Instr.fieldAt, Try.runUnderlying138, Instr.sureAddr, fieldPlace, Try.sizeOf3]
theorem fa_138_4 : dO Try.prog 138 4 4 := fun a W => by simp [Instr.fieldAt, Try.runUnderlying138, Instr.sureAddr, fieldPlace, Try.sizeOf136]
theorem fa_138_5 : dO Try.prog 138 5 5 := fun a W => by simp [Instr.fieldAt, Try.runUnderlying138, Instr.sureAddr, fieldPlace, Try.sizeOf3]
theorem fa_138_6 : dO Try.prog 138 6 6 := fun a W => by simp [Instr.fieldAt, Try.runUnderlying138, Instr.sureAddr, fieldPlace, Try.sizeOf136]
theorem fa_150_0 : dO Try.prog 150 0 0 := fun a W => by simp [Instr.fieldAt, Try.runUnderlying150, Instr.sureAddr, fieldPlace, Try.sizeOf3]
theorem fa_150_1 : dO Try.prog 150 1 1 := fun a W => by simp [Instr.fieldAt, Try.runUnderlying150, Instr.sureAddr, fieldPlace, Try.sizeOf31]
theorem fa_181_0 : dO Try.prog 181 0 0 := fun a W => by simp [Instr.fieldAt, Try.runUnderlying181, Instr.sureAddr, fieldPlace, Try.sizeOf3]
theorem fa_181_1 : dO Try.prog 181 1 1 := fun a W => by simp [Instr.fieldAt, Try.runUnderlying181, Instr.sureAddr, fieldPlace, Try.sizeOf9]
theorem fa_181_2 : dO Try.prog 181 2 2 := fun a W => by simp [Instr.fieldAt, Try.runUnderlying181, Instr.sureAddr, fieldPlace, Try.sizeOf74]
theorem fa_181_3 : dO Try.prog 181 3 3 := fun a W => by simp [Instr.fieldAt, Try.runUnderlying181, Instr.sureAddr, fieldPlace, Try.sizeOf3]
theorem fa_181_4 : dO Try.prog 181 4 4 := fun a W => by simp [Instr.fieldAt, Try.runUnderlying181, Instr.sureAddr, fieldPlace, Try.sizeOf29]
theorem fa_188_0 : dO Try.prog 188 0 0 := fun a W => by simp [Instr.fieldAt, Try.runUnderlying188, Instr.sureAddr, fieldPlace, Try.sizeOf3]
theorem fa_188_1 : dO Try.prog 188 1 1 := fun a W => by simp [Instr.fieldAt, Try.runUnderlying188, Instr.sureAddr, fieldPlace, Try.sizeOf3]
theorem fa_188_2 : dO Try.prog 188 2 2 := fun a W => by simp [Instr.fieldAt, Try.runUnderlying188, Instr.sureAddr, fieldPlace, Try.sizeOf3]
theorem int_info : (Try.prog.info? 3).map (fun i => (i.zero, i.size, i.bytes)) = some (some (.int .i64 0), 1, 8) := by kernel_rfl
end Go.Proofs.YtdfipdpeilegpaaT
namespace Go.Proofs.YtdfipdpeilegpaaT
open Go.Proofs.YtdfipdpeilegpaaSep
structure GValue where
 Kind : Int
 N : Int
def zValue : GValue := ⟨0, 0⟩
def kG (_ : GValue) : Nat := 0
structure GTag where
 Vat : Int
 Entity : Int
 Seq : Int
structure GSent where
 Target : Int
 Name : ByteArray
 dJ : List GValue
 Result : Int
 Tag : GTag
def bT (x : GSent) : Nat := x.Name.size + bV kG x.dJ
structure GAsker where
 bD : Int
 Question : Int
def szn_Asker (_ : GAsker) : Nat := 0
structure GEntity where
 Kind : Int
 Script : Int
 aM : List GValue
 State : Int
 Value : GValue
 Queue : List GSent
 aG : List GAsker
 bD : Int
 Pos : Int
 Count : Int
 bJ : Int
def zEntity : GEntity := ⟨0, 0, [], 0, zValue, [], [], 0, 0, 0, 0⟩
def bU (x : GEntity) : Nat := bV kG x.aM + bV bT x.Queue + bV szn_Asker x.aG
structure GExport where
 Pos : Int
 Entity : Int
 Count : Int
def jP (_ : GExport) : Nat := 0
structure GQuestion where
 Id : Int
 Promise : Int
def fO (_ : GQuestion) : Nat := 0
structure GLink where
 bD : Int
 Up : Bool
 aV : List GExport
 Next : Int
 aT : List GQuestion
 bO : Int
 bA : List GQuestion
def dH (x : GLink) : Nat := bV jP x.aV + bV fO x.aT + bV fO x.bA
structure GWire where
 Kind : Int
 N : Int
def szn_Wire (_ : GWire) : Nat := 0
structure GMessage where
 Kind : Int
 Pos : Int
 dZ : Int
 Question : Int
 Name : ByteArray
 dJ : List GWire
 Value : GWire
 Count : Int
 Tag : GTag
def iU (x : GMessage) : Nat := x.Name.size + bV szn_Wire x.dJ
structure GOutgoing where
 To : Int
 Message : GMessage
def eO (x : GOutgoing) : Nat := iU x.Message
structure GVat where
 Id : Int
 aC : List GEntity
 Loop : List GSent
 aJ : List GLink
 Out : List GOutgoing
def eX (x : GVat) : Nat := bV bU x.aC + bV bT x.Loop + bV dH x.aJ + bV eO x.Out
structure GChannel where
 From : Int
 To : Int
 List : List GMessage
structure GInstr where
 Op : Int
 A : Int
 B : Int
 C : Int
 D : Int
 Name : ByteArray
structure GMethod where
 Name : ByteArray
 Code : List GInstr
structure GScript where
 Name : ByteArray
 Methods : List GMethod
end Go.Proofs.YtdfipdpeilegpaaT
namespace Go.Proofs.YtdfipdpeilegpaaK
open Go.RowKit Go.Proofs.YtdfipdpeilegpaaSep Go.Proofs.YtdfipdpeilegpaaT
def aP : Kn GValue := Kn.iso (Kn.pair Kn.int Kn.int) (fun x => (x.Kind, x.N))
theorem ki_Value_K {w : World} {x : GValue} {cs : List Value} (h : aP.K w x cs) : cs = [.int .i64 x.Kind, .int .i64 x.N] := by
 obtain ⟨_, _, rfl, rfl, rfl⟩ := h
 exact rfl
theorem ki_Value_M {w : World} {F : Nat → Prop} {x : GValue} {cs : List Value} (h : aP.M w F x cs) : cs = [.int .i64 x.Kind, .int .i64 x.N] := by
 exact ki_Value_K (aP.gN h)
theorem lF (w : World) (F : Nat → Prop) (x : GValue) : aP.M w F x [.int .i64 x.Kind, .int .i64 x.N] :=
 ⟨[_], [_], No, No, rfl, rfl, rfl, fun _ h => h.elim, fun _ h => h.elim, fun _ h => h.elim⟩
theorem iN : (Try.prog.info? 70).map (fun i => (i.zero, i.size, i.bytes)) = some (some (.agg #[.int .i64 0, .int .i64 0]), 2, 16) := by kernel_rfl
def ki_Tag : Kn GTag := Kn.iso (Kn.pair Kn.int (Kn.pair Kn.int Kn.int)) (fun x => (x.Vat, x.Entity, x.Seq))
theorem ki_Tag_K {w : World} {x : GTag} {cs : List Value} (h : ki_Tag.K w x cs) : cs = [.int .i64 x.Vat, .int .i64 x.Entity, .int .i64 x.Seq] := by
 obtain ⟨_, _, rfl, rfl, ⟨_, _, rfl, rfl, rfl⟩⟩ := h
 exact rfl
theorem ki_Tag_M {w : World} {F : Nat → Prop} {x : GTag} {cs : List Value} (h : ki_Tag.M w F x cs) : cs = [.int .i64 x.Vat, .int .i64 x.Entity, .int .i64 x.Seq] := by
 exact ki_Tag_K (ki_Tag.gN h)
theorem ki_Tag_mk (w : World) (F : Nat → Prop) (x : GTag) : ki_Tag.M w F x [.int .i64 x.Vat, .int .i64 x.Entity, .int .i64 x.Seq] :=
 ⟨[_], [_, _], No, No, rfl, rfl, ⟨[_], [_], No, No, rfl, rfl, rfl, fun _ h => h.elim, fun _ h => h.elim, fun _ h => h.elim⟩, fun _ h => h.elim, fun _ h => h.elim, fun _ h => h.elim⟩
def aH : Kn GSent := Kn.iso (Kn.pair Kn.int (Kn.pair Kn.string (Kn.pair (Kn.slice 70 aP) (Kn.pair Kn.int ki_Tag)))) (fun x => (x.Target, x.Name, x.dJ, x.Result, x.Tag))
theorem ki_Sent_K {w : World} {x : GSent} {cs : List Value} (h : aH.K w x cs) : ∃ (A2 : Option Addr) (c2 : Nat), cs = [.int .i64 x.Target, .string x.Name, .slice A2 x.dJ.length c2, .int .i64 x.Result, .int .i64 x.Tag.Vat, .int .i64 x.Tag.Entity, .int .i64 x.Tag.Seq] ∧ x.dJ.length ≤ c2 ∧ C aP w A2 x.dJ := by
 obtain ⟨_, _, rfl, rfl, ⟨_, _, rfl, rfl, ⟨_, _, rfl, ⟨A2, c2, rfl, hl2, hC2⟩, ⟨_, _, rfl, rfl, s_Tag⟩⟩⟩⟩ := h
 obtain rfl := ki_Tag_K s_Tag
 exact ⟨A2, c2, rfl, hl2, hC2⟩
theorem ki_Sent_at {w : World} {A : Option Addr} {l : List GSent} (h : C aH w A l) (i : Nat) (hi : i < l.length) : ∃ (ad : Addr) (A2 : Option Addr) (c2 : Nat), A = some ad ∧ w.cell? (ad.add (i * 7)) = some (.int .i64 l[i].Target) ∧ w.cell? ⟨(ad.add (i * 7)).block, (ad.add (i * 7)).off + 1, none⟩ = some (.string l[i].Name) ∧ w.cell? ⟨(ad.add (i * 7)).block, (ad.add (i * 7)).off + 2, none⟩ = some (.slice A2 l[i].dJ.length c2) ∧ w.cell? ⟨(ad.add (i * 7)).block, (ad.add (i * 7)).off + 3, none⟩ = some (.int .i64 l[i].Result) ∧ w.cell? ⟨(ad.add (i * 7)).block, (ad.add (i * 7)).off + 4, none⟩ = some (.int .i64 l[i].Tag.Vat) ∧ w.cell? ⟨(ad.add (i * 7)).block, (ad.add (i * 7)).off + 5, none⟩ = some (.int .i64 l[i].Tag.Entity) ∧ w.cell? ⟨(ad.add (i * 7)).block, (ad.add (i * 7)).off + 6, none⟩ = some (.int .i64 l[i].Tag.Seq) ∧ l[i].dJ.length ≤ c2 ∧ C aP w A2 l[i].dJ := by
 obtain ⟨ad, c, h1, h2, h3, h4⟩ := C_at h i hi
 obtain ⟨A2, c2, rfl, hl2, hC2⟩ := ki_Sent_K h2
 exact ⟨ad, A2, c2, h1, h3 _ rfl, h4 0 _ rfl, h4 1 _ rfl, h4 2 _ rfl, h4 3 _ rfl, h4 4 _ rfl, h4 5 _ rfl, hl2, hC2⟩
theorem ki_Sent_M {w : World} {F : Nat → Prop} {x : GSent} {cs : List Value} (h : aH.M w F x cs) : ∃ (v2 : Value) (P2 : Nat → Prop), cs = [.int .i64 x.Target, .string x.Name, v2, .int .i64 x.Result, .int .i64 x.Tag.Vat, .int .i64 x.Tag.Entity, .int .i64 x.Tag.Seq] ∧ R aP 70 w P2 v2 x.dJ ∧ (∀ k, P2 k → F k) := by
 obtain ⟨_, _, F0, G0, rfl, rfl, ⟨_, _, F1, G1, rfl, rfl, ⟨_, _, F2, G2, rfl, ⟨v2, rfl, hR2⟩, ⟨_, _, F3, G3, rfl, rfl, s4, a3, b3, d3⟩, a2, b2, d2⟩, a1, b1, d1⟩, a0, b0, d0⟩ := h
 obtain rfl := ki_Tag_M s4
 exact ⟨v2, F2, rfl, hR2, fun k hk => (b0 k (b1 k (a2 k hk)))⟩
theorem ki_Sent_mk (w : World) (F : Nat → Prop) (x : GSent) {v2 : Value} {P2 : Nat → Prop} (h2 : R aP 70 w P2 v2 x.dJ) (i2 : ∀ k, P2 k → F k) : aH.M w F x [.int .i64 x.Target, .string x.Name, v2, .int .i64 x.Result, .int .i64 x.Tag.Vat, .int .i64 x.Tag.Entity, .int .i64 x.Tag.Seq] :=
 ⟨[_], [_, _, _, _, _, _], No, P2, rfl, rfl, ⟨[_], [_, _, _, _, _], No, P2, rfl, rfl, ⟨[_], [_, _, _, _], P2, No, rfl, ⟨_, rfl, h2⟩, ⟨[_], [_, _, _], No, No, rfl, rfl, (ki_Tag_mk w No _), fun _ h => h.elim, fun _ h => h.elim, fun _ h => h.elim⟩, fun _ h => h, fun _ h => h.elim, fun _ _ h => h.elim⟩, fun _ h => h.elim, fun _ h => h, fun _ h => h.elim⟩, fun _ h => h.elim, i2, fun _ h => h.elim⟩
theorem ki_Sent_info : (Try.prog.info? 181).map (fun i => (i.zero, i.size, i.bytes)) = some (some (.agg #[.int .i64 0, .string ⟨#[]⟩, .slice none 0 0, .int .i64 0, .int .i64 0, .int .i64 0, .int .i64 0]), 7, 80) := by kernel_rfl
def aQ : Kn GAsker := Kn.iso (Kn.pair Kn.int Kn.int) (fun x => (x.bD, x.Question))
theorem ki_Asker_K {w : World} {x : GAsker} {cs : List Value} (h : aQ.K w x cs) : cs = [.int .i64 x.bD, .int .i64 x.Question] := by
 obtain ⟨_, _, rfl, rfl, rfl⟩ := h
 exact rfl
theorem iC (w : World) (F : Nat → Prop) (x : GAsker) : aQ.M w F x [.int .i64 x.bD, .int .i64 x.Question] :=
 ⟨[_], [_], No, No, rfl, rfl, rfl, fun _ h => h.elim, fun _ h => h.elim, fun _ h => h.elim⟩
theorem ki_Asker_info : (Try.prog.info? 155).map (fun i => (i.zero, i.size, i.bytes)) = some (some (.agg #[.int .i64 0, .int .i64 0]), 2, 16) := by kernel_rfl
def aL : Kn GEntity := Kn.iso (Kn.pair Kn.int (Kn.pair Kn.int (Kn.pair (Kn.slice 70 aP) (Kn.pair Kn.int (Kn.pair aP (Kn.pair (Kn.slice 181 aH) (Kn.pair (Kn.slice 155 aQ) (Kn.pair Kn.int (Kn.pair Kn.int (Kn.pair Kn.int Kn.int)))))))))) (fun x => (x.Kind, x.Script, x.aM, x.State, x.Value, x.Queue, x.aG, x.bD, x.Pos, x.Count, x.bJ))
theorem jT {w : World} {x : GEntity} {cs : List Value} (h : aL.K w x cs) : ∃ (A2 : Option Addr) (c2 : Nat) (A6 : Option Addr) (c6 : Nat) (A7 : Option Addr) (c7 : Nat), cs = [.int .i64 x.Kind, .int .i64 x.Script, .slice A2 x.aM.length c2, .int .i64 x.State, .int .i64 x.Value.Kind, .int .i64 x.Value.N, .slice A6 x.Queue.length c6, .slice A7 x.aG.length c7, .int .i64 x.bD, .int .i64 x.Pos, .int .i64 x.Count, .int .i64 x.bJ] ∧ x.aM.length ≤ c2 ∧ C aP w A2 x.aM ∧ x.Queue.length ≤ c6 ∧ C aH w A6 x.Queue ∧ x.aG.length ≤ c7 ∧ C aQ w A7 x.aG := by
 obtain ⟨_, _, rfl, rfl, ⟨_, _, rfl, rfl, ⟨_, _, rfl, ⟨A2, c2, rfl, hl2, hC2⟩, ⟨_, _, rfl, rfl, ⟨_, _, rfl, s_Value, ⟨_, _, rfl, ⟨A6, c6, rfl, hl6, hC6⟩, ⟨_, _, rfl, ⟨A7, c7, rfl, hl7, hC7⟩, ⟨_, _, rfl, rfl, ⟨_, _, rfl, rfl, ⟨_, _, rfl, rfl, rfl⟩⟩⟩⟩⟩⟩⟩⟩⟩⟩ := h
 obtain rfl := ki_Value_K s_Value
 exact ⟨A2, c2, A6, c6, A7, c7, rfl, hl2, hC2, hl6, hC6, hl7, hC7⟩
theorem ki_Entity_M {w : World} {F : Nat → Prop} {x : GEntity} {cs : List Value} (h : aL.M w F x cs) : ∃ (v2 : Value) (P2 : Nat → Prop) (v6 : Value) (P6 : Nat → Prop) (v7 : Value) (P7 : Nat → Prop), cs = [.int .i64 x.Kind, .int .i64 x.Script, v2, .int .i64 x.State, .int .i64 x.Value.Kind, .int .i64 x.Value.N, v6, v7, .int .i64 x.bD, .int .i64 x.Pos, .int .i64 x.Count, .int .i64 x.bJ] ∧ R aP 70 w P2 v2 x.aM ∧ R aH 181 w P6 v6 x.Queue ∧ R aQ 155 w P7 v7 x.aG ∧ (∀ k, P2 k → F k) ∧ (∀ k, P6 k → F k) ∧ (∀ k, P7 k → F k) ∧ (∀ k, P2 k → ¬ P6 k) ∧ (∀ k, P2 k → ¬ P7 k) ∧ (∀ k, P6 k → ¬ P7 k) := by
 obtain ⟨_, _, F0, G0, rfl, rfl, ⟨_, _, F1, G1, rfl, rfl, ⟨_, _, F2, G2, rfl, ⟨v2, rfl, hR2⟩, ⟨_, _, F3, G3, rfl, rfl, ⟨_, _, F4, G4, rfl, s4, ⟨_, _, F5, G5, rfl, ⟨v6, rfl, hR6⟩, ⟨_, _, F6, G6, rfl, ⟨v7, rfl, hR7⟩, ⟨_, _, F7, G7, rfl, rfl, ⟨_, _, F8, G8, rfl, rfl, ⟨_, _, F9, G9, rfl, rfl, rfl, a9, b9, d9⟩, a8, b8, d8⟩, a7, b7, d7⟩, a6, b6, d6⟩, a5, b5, d5⟩, a4, b4, d4⟩, a3, b3, d3⟩, a2, b2, d2⟩, a1, b1, d1⟩, a0, b0, d0⟩ := h
 obtain rfl := ki_Value_M s4
 exact ⟨v2, F2, v6, F5, v7, F6, rfl, hR2, hR6, hR7, fun k hk => (b0 k (b1 k (a2 k hk))), fun k hk => (b0 k (b1 k (b2 k (b3 k (b4 k (a5 k hk)))))), fun k hk => (b0 k (b1 k (b2 k (b3 k (b4 k (b5 k (a6 k hk))))))), fun k hk hk' => d2 k hk (b3 k (b4 k (a5 k hk'))), fun k hk hk' => d2 k hk (b3 k (b4 k (b5 k (a6 k hk')))), fun k hk hk' => d5 k hk (a6 k hk')⟩
theorem ki_Entity_mk (w : World) (F : Nat → Prop) (x : GEntity) {v2 : Value} {P2 : Nat → Prop} (h2 : R aP 70 w P2 v2 x.aM) {v6 : Value} {P6 : Nat → Prop} (h6 : R aH 181 w P6 v6 x.Queue) {v7 : Value} {P7 : Nat → Prop} (h7 : R aQ 155 w P7 v7 x.aG) (i2 : ∀ k, P2 k → F k) (i6 : ∀ k, P6 k → F k) (i7 : ∀ k, P7 k → F k) (d2_6 : ∀ k, P2 k → ¬ P6 k) (d2_7 : ∀ k, P2 k → ¬ P7 k) (d6_7 : ∀ k, P6 k → ¬ P7 k) : aL.M w F x [.int .i64 x.Kind, .int .i64 x.Script, v2, .int .i64 x.State, .int .i64 x.Value.Kind, .int .i64 x.Value.N, v6, v7, .int .i64 x.bD, .int .i64 x.Pos, .int .i64 x.Count, .int .i64 x.bJ] :=
 ⟨[_], [_, _, _, _, _, _, _, _, _, _, _], No, (fun k => P2 k ∨ P6 k ∨ P7 k), rfl, rfl, ⟨[_], [_, _, _, _, _, _, _, _, _, _], No, (fun k => P2 k ∨ P6 k ∨ P7 k), rfl, rfl, ⟨[_], [_, _, _, _, _, _, _, _, _], P2, (fun k => P6 k ∨ P7 k), rfl, ⟨_, rfl, h2⟩, ⟨[_], [_, _, _, _, _, _, _, _], No, (fun k => P6 k ∨ P7 k), rfl, rfl, ⟨[_, _], [_, _, _, _, _, _], No, (fun k => P6 k ∨ P7 k), rfl, (lF w No _), ⟨[_], [_, _, _, _, _], P6, P7, rfl, ⟨_, rfl, h6⟩, ⟨[_], [_, _, _, _], P7, No, rfl, ⟨_, rfl, h7⟩, ⟨[_], [_, _, _], No, No, rfl, rfl, ⟨[_], [_, _], No, No, rfl, rfl, ⟨[_], [_], No, No, rfl, rfl, rfl, fun _ h => h.elim, fun _ h => h.elim, fun _ h => h.elim⟩, fun _ h => h.elim, fun _ h => h.elim, fun _ h => h.elim⟩, fun _ h => h.elim, fun _ h => h.elim, fun _ h => h.elim⟩, fun _ h => h, fun _ h => h.elim, fun _ _ h => h.elim⟩, fun k h => by first | exact h | exact Or.inl h | exact Or.inr h, fun k h => by first | exact h | exact Or.inl h | exact Or.inr h, fun k h h' => by exact d6_7 k h h'⟩, fun _ h => h.elim, fun k h => by first | exact h | exact Or.inl h | exact Or.inr h, fun _ h => h.elim⟩, fun _ h => h.elim, fun k h => by first | exact h | exact Or.inl h | exact Or.inr h, fun _ h => h.elim⟩, fun k h => by first | exact h | exact Or.inl h | exact Or.inr h, fun k h => by first | exact h | exact Or.inl h | exact Or.inr h, fun k h h' => by rcases h' with h' | h' <;> first | exact d2_6 k h h' | exact d2_7 k h h'⟩, fun _ h => h.elim, fun k h => by first | exact h | exact Or.inl h | exact Or.inr h, fun _ h => h.elim⟩, fun _ h => h.elim, fun k h => by rcases h with h | h | h <;> first | exact i2 k h | exact i6 k h | exact i7 k h, fun _ h => h.elim⟩
theorem gY : (Try.prog.info? 77).map (fun i => (i.zero, i.size, i.bytes)) = some (some (.agg #[.int .i64 0, .int .i64 0, .slice none 0 0, .int .i64 0, .int .i64 0, .int .i64 0, .slice none 0 0, .slice none 0 0, .int .i64 0, .int .i64 0, .int .i64 0, .int .i64 0]), 12, 144) := by kernel_rfl
def bE : Kn GExport := Kn.iso (Kn.pair Kn.int (Kn.pair Kn.int Kn.int)) (fun x => (x.Pos, x.Entity, x.Count))
theorem iV {w : World} {x : GExport} {cs : List Value} (h : bE.K w x cs) : cs = [.int .i64 x.Pos, .int .i64 x.Entity, .int .i64 x.Count] := by
 obtain ⟨_, _, rfl, rfl, ⟨_, _, rfl, rfl, rfl⟩⟩ := h
 exact rfl
theorem ki_Export_at {w : World} {A : Option Addr} {l : List GExport} (h : C bE w A l) (i : Nat) (hi : i < l.length) : ∃ (ad : Addr), A = some ad ∧ w.cell? (ad.add (i * 3)) = some (.int .i64 l[i].Pos) ∧ w.cell? ⟨(ad.add (i * 3)).block, (ad.add (i * 3)).off + 1, none⟩ = some (.int .i64 l[i].Entity) ∧ w.cell? ⟨(ad.add (i * 3)).block, (ad.add (i * 3)).off + 2, none⟩ = some (.int .i64 l[i].Count) := by
 obtain ⟨ad, c, h1, h2, h3, h4⟩ := C_at h i hi
 obtain rfl := iV h2
 exact ⟨ad, h1, h3 _ rfl, h4 0 _ rfl, h4 1 _ rfl⟩
theorem kU (w : World) (F : Nat → Prop) (x : GExport) : bE.M w F x [.int .i64 x.Pos, .int .i64 x.Entity, .int .i64 x.Count] :=
 ⟨[_], [_, _], No, No, rfl, rfl, ⟨[_], [_], No, No, rfl, rfl, rfl, fun _ h => h.elim, fun _ h => h.elim, fun _ h => h.elim⟩, fun _ h => h.elim, fun _ h => h.elim, fun _ h => h.elim⟩
theorem j3 : (Try.prog.info? 188).map (fun i => (i.zero, i.size, i.bytes)) = some (some (.agg #[.int .i64 0, .int .i64 0, .int .i64 0]), 3, 24) := by kernel_rfl
def aY : Kn GQuestion := Kn.iso (Kn.pair Kn.int Kn.int) (fun x => (x.Id, x.Promise))
theorem ki_Question_K {w : World} {x : GQuestion} {cs : List Value} (h : aY.K w x cs) : cs = [.int .i64 x.Id, .int .i64 x.Promise] := by
 obtain ⟨_, _, rfl, rfl, rfl⟩ := h
 exact rfl
theorem ki_Question_mk (w : World) (F : Nat → Prop) (x : GQuestion) : aY.M w F x [.int .i64 x.Id, .int .i64 x.Promise] :=
 ⟨[_], [_], No, No, rfl, rfl, rfl, fun _ h => h.elim, fun _ h => h.elim, fun _ h => h.elim⟩
theorem iZ : (Try.prog.info? 197).map (fun i => (i.zero, i.size, i.bytes)) = some (some (.agg #[.int .i64 0, .int .i64 0]), 2, 16) := by kernel_rfl
def aW : Kn GLink := Kn.iso (Kn.pair Kn.int (Kn.pair Kn.bool (Kn.pair (Kn.slice 188 bE) (Kn.pair Kn.int (Kn.pair (Kn.slice 197 aY) (Kn.pair Kn.int (Kn.slice 197 aY))))))) (fun x => (x.bD, x.Up, x.aV, x.Next, x.aT, x.bO, x.bA))
theorem jA {w : World} {x : GLink} {cs : List Value} (h : aW.K w x cs) : ∃ (A2 : Option Addr) (c2 : Nat) (A4 : Option Addr) (c4 : Nat) (A6 : Option Addr) (c6 : Nat), cs = [.int .i64 x.bD, .bool x.Up, .slice A2 x.aV.length c2, .int .i64 x.Next, .slice A4 x.aT.length c4, .int .i64 x.bO, .slice A6 x.bA.length c6] ∧ x.aV.length ≤ c2 ∧ C bE w A2 x.aV ∧ x.aT.length ≤ c4 ∧ C aY w A4 x.aT ∧ x.bA.length ≤ c6 ∧ C aY w A6 x.bA := by
 obtain ⟨_, _, rfl, rfl, ⟨_, _, rfl, rfl, ⟨_, _, rfl, ⟨A2, c2, rfl, hl2, hC2⟩, ⟨_, _, rfl, rfl, ⟨_, _, rfl, ⟨A4, c4, rfl, hl4, hC4⟩, ⟨_, _, rfl, rfl, ⟨A6, c6, rfl, hl6, hC6⟩⟩⟩⟩⟩⟩⟩ := h
 exact ⟨A2, c2, A4, c4, A6, c6, rfl, hl2, hC2, hl4, hC4, hl6, hC6⟩
theorem ki_Link_at {w : World} {A : Option Addr} {l : List GLink} (h : C aW w A l) (i : Nat) (hi : i < l.length) : ∃ (ad : Addr) (A2 : Option Addr) (c2 : Nat) (A4 : Option Addr) (c4 : Nat) (A6 : Option Addr) (c6 : Nat), A = some ad ∧ w.cell? (ad.add (i * 7)) = some (.int .i64 l[i].bD) ∧ w.cell? ⟨(ad.add (i * 7)).block, (ad.add (i * 7)).off + 1, none⟩ = some (.bool l[i].Up) ∧ w.cell? ⟨(ad.add (i * 7)).block, (ad.add (i * 7)).off + 2, none⟩ = some (.slice A2 l[i].aV.length c2) ∧ w.cell? ⟨(ad.add (i * 7)).block, (ad.add (i * 7)).off + 3, none⟩ = some (.int .i64 l[i].Next) ∧ w.cell? ⟨(ad.add (i * 7)).block, (ad.add (i * 7)).off + 4, none⟩ = some (.slice A4 l[i].aT.length c4) ∧ w.cell? ⟨(ad.add (i * 7)).block, (ad.add (i * 7)).off + 5, none⟩ = some (.int .i64 l[i].bO) ∧ w.cell? ⟨(ad.add (i * 7)).block, (ad.add (i * 7)).off + 6, none⟩ = some (.slice A6 l[i].bA.length c6) ∧ l[i].aV.length ≤ c2 ∧ C bE w A2 l[i].aV ∧ l[i].aT.length ≤ c4 ∧ C aY w A4 l[i].aT ∧ l[i].bA.length ≤ c6 ∧ C aY w A6 l[i].bA := by
 obtain ⟨ad, c, h1, h2, h3, h4⟩ := C_at h i hi
 obtain ⟨A2, c2, A4, c4, A6, c6, rfl, hl2, hC2, hl4, hC4, hl6, hC6⟩ := jA h2
 exact ⟨ad, A2, c2, A4, c4, A6, c6, h1, h3 _ rfl, h4 0 _ rfl, h4 1 _ rfl, h4 2 _ rfl, h4 3 _ rfl, h4 4 _ rfl, h4 5 _ rfl, hl2, hC2, hl4, hC4, hl6, hC6⟩
theorem ki_Link_M {w : World} {F : Nat → Prop} {x : GLink} {cs : List Value} (h : aW.M w F x cs) : ∃ (v2 : Value) (P2 : Nat → Prop) (v4 : Value) (P4 : Nat → Prop) (v6 : Value) (P6 : Nat → Prop), cs = [.int .i64 x.bD, .bool x.Up, v2, .int .i64 x.Next, v4, .int .i64 x.bO, v6] ∧ R bE 188 w P2 v2 x.aV ∧ R aY 197 w P4 v4 x.aT ∧ R aY 197 w P6 v6 x.bA ∧ (∀ k, P2 k → F k) ∧ (∀ k, P4 k → F k) ∧ (∀ k, P6 k → F k) ∧ (∀ k, P2 k → ¬ P4 k) ∧ (∀ k, P2 k → ¬ P6 k) ∧ (∀ k, P4 k → ¬ P6 k) := by
 obtain ⟨_, _, F0, G0, rfl, rfl, ⟨_, _, F1, G1, rfl, rfl, ⟨_, _, F2, G2, rfl, ⟨v2, rfl, hR2⟩, ⟨_, _, F3, G3, rfl, rfl, ⟨_, _, F4, G4, rfl, ⟨v4, rfl, hR4⟩, ⟨_, _, F5, G5, rfl, rfl, ⟨v6, rfl, hR6⟩, a5, b5, d5⟩, a4, b4, d4⟩, a3, b3, d3⟩, a2, b2, d2⟩, a1, b1, d1⟩, a0, b0, d0⟩ := h
 exact ⟨v2, F2, v4, F4, v6, G5, rfl, hR2, hR4, hR6, fun k hk => (b0 k (b1 k (a2 k hk))), fun k hk => (b0 k (b1 k (b2 k (b3 k (a4 k hk))))), fun k hk => (b0 k (b1 k (b2 k (b3 k (b4 k (b5 k hk)))))), fun k hk hk' => d2 k hk (b3 k (a4 k hk')), fun k hk hk' => d2 k hk (b3 k (b4 k (b5 k hk'))), fun k hk hk' => d4 k hk (b5 k hk')⟩
theorem ki_Link_mk (w : World) (F : Nat → Prop) (x : GLink) {v2 : Value} {P2 : Nat → Prop} (h2 : R bE 188 w P2 v2 x.aV) {v4 : Value} {P4 : Nat → Prop} (h4 : R aY 197 w P4 v4 x.aT) {v6 : Value} {P6 : Nat → Prop} (h6 : R aY 197 w P6 v6 x.bA) (i2 : ∀ k, P2 k → F k) (i4 : ∀ k, P4 k → F k) (i6 : ∀ k, P6 k → F k) (d2_4 : ∀ k, P2 k → ¬ P4 k) (d2_6 : ∀ k, P2 k → ¬ P6 k) (d4_6 : ∀ k, P4 k → ¬ P6 k) : aW.M w F x [.int .i64 x.bD, .bool x.Up, v2, .int .i64 x.Next, v4, .int .i64 x.bO, v6] :=
 ⟨[_], [_, _, _, _, _, _], No, (fun k => P2 k ∨ P4 k ∨ P6 k), rfl, rfl, ⟨[_], [_, _, _, _, _], No, (fun k => P2 k ∨ P4 k ∨ P6 k), rfl, rfl, ⟨[_], [_, _, _, _], P2, (fun k => P4 k ∨ P6 k), rfl, ⟨_, rfl, h2⟩, ⟨[_], [_, _, _], No, (fun k => P4 k ∨ P6 k), rfl, rfl, ⟨[_], [_, _], P4, P6, rfl, ⟨_, rfl, h4⟩, ⟨[_], [_], No, P6, rfl, rfl, ⟨_, rfl, h6⟩, fun _ h => h.elim, fun _ h => h, fun _ h => h.elim⟩, fun k h => by first | exact h | exact Or.inl h | exact Or.inr h, fun k h => by first | exact h | exact Or.inl h | exact Or.inr h, fun k h h' => by exact d4_6 k h h'⟩, fun _ h => h.elim, fun k h => by first | exact h | exact Or.inl h | exact Or.inr h, fun _ h => h.elim⟩, fun k h => by first | exact h | exact Or.inl h | exact Or.inr h, fun k h => by first | exact h | exact Or.inl h | exact Or.inr h, fun k h h' => by rcases h' with h' | h' <;> first | exact d2_4 k h h' | exact d2_6 k h h'⟩, fun _ h => h.elim, fun k h => by first | exact h | exact Or.inl h | exact Or.inr h, fun _ h => h.elim⟩, fun _ h => h.elim, fun k h => by rcases h with h | h | h <;> first | exact i2 k h | exact i4 k h | exact i6 k h, fun _ h => h.elim⟩
theorem kV : (Try.prog.info? 138).map (fun i => (i.zero, i.size, i.bytes)) = some (some (.agg #[.int .i64 0, .bool false, .slice none 0 0, .int .i64 0, .slice none 0 0, .int .i64 0, .slice none 0 0]), 7, 104) := by kernel_rfl
def fB : Kn GWire := Kn.iso (Kn.pair Kn.int Kn.int) (fun x => (x.Kind, x.N))
theorem ki_Wire_K {w : World} {x : GWire} {cs : List Value} (h : fB.K w x cs) : cs = [.int .i64 x.Kind, .int .i64 x.N] := by
 obtain ⟨_, _, rfl, rfl, rfl⟩ := h
 exact rfl
theorem ki_Wire_M {w : World} {F : Nat → Prop} {x : GWire} {cs : List Value} (h : fB.M w F x cs) : cs = [.int .i64 x.Kind, .int .i64 x.N] := by
 exact ki_Wire_K (fB.gN h)
theorem ki_Wire_mk (w : World) (F : Nat → Prop) (x : GWire) : fB.M w F x [.int .i64 x.Kind, .int .i64 x.N] :=
 ⟨[_], [_], No, No, rfl, rfl, rfl, fun _ h => h.elim, fun _ h => h.elim, fun _ h => h.elim⟩
theorem ki_Wire_info : (Try.prog.info? 27).map (fun i => (i.zero, i.size, i.bytes)) = some (some (.agg #[.int .i64 0, .int .i64 0]), 2, 16) := by kernel_rfl
def gU : Kn GMessage := Kn.iso (Kn.pair Kn.int (Kn.pair Kn.int (Kn.pair Kn.int (Kn.pair Kn.int (Kn.pair Kn.string (Kn.pair (Kn.slice 27 fB) (Kn.pair fB (Kn.pair Kn.int ki_Tag)))))))) (fun x => (x.Kind, x.Pos, x.dZ, x.Question, x.Name, x.dJ, x.Value, x.Count, x.Tag))
theorem j4 {w : World} {x : GMessage} {cs : List Value} (h : gU.K w x cs) : ∃ (A5 : Option Addr) (c5 : Nat), cs = [.int .i64 x.Kind, .int .i64 x.Pos, .int .i64 x.dZ, .int .i64 x.Question, .string x.Name, .slice A5 x.dJ.length c5, .int .i64 x.Value.Kind, .int .i64 x.Value.N, .int .i64 x.Count, .int .i64 x.Tag.Vat, .int .i64 x.Tag.Entity, .int .i64 x.Tag.Seq] ∧ x.dJ.length ≤ c5 ∧ C fB w A5 x.dJ := by
 obtain ⟨_, _, rfl, rfl, ⟨_, _, rfl, rfl, ⟨_, _, rfl, rfl, ⟨_, _, rfl, rfl, ⟨_, _, rfl, rfl, ⟨_, _, rfl, ⟨A5, c5, rfl, hl5, hC5⟩, ⟨_, _, rfl, s_Value, ⟨_, _, rfl, rfl, s_Tag⟩⟩⟩⟩⟩⟩⟩⟩ := h
 obtain rfl := ki_Wire_K s_Value
 obtain rfl := ki_Tag_K s_Tag
 exact ⟨A5, c5, rfl, hl5, hC5⟩
theorem ki_Message_M {w : World} {F : Nat → Prop} {x : GMessage} {cs : List Value} (h : gU.M w F x cs) : ∃ (v5 : Value) (P5 : Nat → Prop), cs = [.int .i64 x.Kind, .int .i64 x.Pos, .int .i64 x.dZ, .int .i64 x.Question, .string x.Name, v5, .int .i64 x.Value.Kind, .int .i64 x.Value.N, .int .i64 x.Count, .int .i64 x.Tag.Vat, .int .i64 x.Tag.Entity, .int .i64 x.Tag.Seq] ∧ R fB 27 w P5 v5 x.dJ ∧ (∀ k, P5 k → F k) := by
 obtain ⟨_, _, F0, G0, rfl, rfl, ⟨_, _, F1, G1, rfl, rfl, ⟨_, _, F2, G2, rfl, rfl, ⟨_, _, F3, G3, rfl, rfl, ⟨_, _, F4, G4, rfl, rfl, ⟨_, _, F5, G5, rfl, ⟨v5, rfl, hR5⟩, ⟨_, _, F6, G6, rfl, s6, ⟨_, _, F7, G7, rfl, rfl, s8, a7, b7, d7⟩, a6, b6, d6⟩, a5, b5, d5⟩, a4, b4, d4⟩, a3, b3, d3⟩, a2, b2, d2⟩, a1, b1, d1⟩, a0, b0, d0⟩ := h
 obtain rfl := ki_Wire_M s6
 obtain rfl := ki_Tag_M s8
 exact ⟨v5, F5, rfl, hR5, fun k hk => (b0 k (b1 k (b2 k (b3 k (b4 k (a5 k hk))))))⟩
theorem lH (w : World) (F : Nat → Prop) (x : GMessage) {v5 : Value} {P5 : Nat → Prop} (h5 : R fB 27 w P5 v5 x.dJ) (i5 : ∀ k, P5 k → F k) : gU.M w F x [.int .i64 x.Kind, .int .i64 x.Pos, .int .i64 x.dZ, .int .i64 x.Question, .string x.Name, v5, .int .i64 x.Value.Kind, .int .i64 x.Value.N, .int .i64 x.Count, .int .i64 x.Tag.Vat, .int .i64 x.Tag.Entity, .int .i64 x.Tag.Seq] :=
 ⟨[_], [_, _, _, _, _, _, _, _, _, _, _], No, P5, rfl, rfl, ⟨[_], [_, _, _, _, _, _, _, _, _, _], No, P5, rfl, rfl, ⟨[_], [_, _, _, _, _, _, _, _, _], No, P5, rfl, rfl, ⟨[_], [_, _, _, _, _, _, _, _], No, P5, rfl, rfl, ⟨[_], [_, _, _, _, _, _, _], No, P5, rfl, rfl, ⟨[_], [_, _, _, _, _, _], P5, No, rfl, ⟨_, rfl, h5⟩, ⟨[_, _], [_, _, _, _], No, No, rfl, (ki_Wire_mk w No _), ⟨[_], [_, _, _], No, No, rfl, rfl, (ki_Tag_mk w No _), fun _ h => h.elim, fun _ h => h.elim, fun _ h => h.elim⟩, fun _ h => h.elim, fun _ h => h.elim, fun _ h => h.elim⟩, fun _ h => h, fun _ h => h.elim, fun _ _ h => h.elim⟩, fun _ h => h.elim, fun _ h => h, fun _ h => h.elim⟩, fun _ h => h.elim, fun _ h => h, fun _ h => h.elim⟩, fun _ h => h.elim, fun _ h => h, fun _ h => h.elim⟩, fun _ h => h.elim, fun _ h => h, fun _ h => h.elim⟩, fun _ h => h.elim, i5, fun _ h => h.elim⟩
def aS : Kn GOutgoing := Kn.iso (Kn.pair Kn.int gU) (fun x => (x.To, x.Message))
theorem kJ {w : World} {x : GOutgoing} {cs : List Value} (h : aS.K w x cs) : ∃ (A6 : Option Addr) (c6 : Nat), cs = [.int .i64 x.To, .int .i64 x.Message.Kind, .int .i64 x.Message.Pos, .int .i64 x.Message.dZ, .int .i64 x.Message.Question, .string x.Message.Name, .slice A6 x.Message.dJ.length c6, .int .i64 x.Message.Value.Kind, .int .i64 x.Message.Value.N, .int .i64 x.Message.Count, .int .i64 x.Message.Tag.Vat, .int .i64 x.Message.Tag.Entity, .int .i64 x.Message.Tag.Seq] ∧ x.Message.dJ.length ≤ c6 ∧ C fB w A6 x.Message.dJ := by
 obtain ⟨_, _, rfl, rfl, s_Message⟩ := h
 obtain ⟨A6, c6, rfl, hl6, hC6⟩ := j4 s_Message
 exact ⟨A6, c6, rfl, hl6, hC6⟩
theorem ki_Outgoing_mk (w : World) (F : Nat → Prop) (x : GOutgoing) {v6 : Value} {P6 : Nat → Prop} (h6 : R fB 27 w P6 v6 x.Message.dJ) (i6 : ∀ k, P6 k → F k) : aS.M w F x [.int .i64 x.To, .int .i64 x.Message.Kind, .int .i64 x.Message.Pos, .int .i64 x.Message.dZ, .int .i64 x.Message.Question, .string x.Message.Name, v6, .int .i64 x.Message.Value.Kind, .int .i64 x.Message.Value.N, .int .i64 x.Message.Count, .int .i64 x.Message.Tag.Vat, .int .i64 x.Message.Tag.Entity, .int .i64 x.Message.Tag.Seq] :=
 ⟨[_], [_, _, _, _, _, _, _, _, _, _, _, _], No, P6, rfl, rfl, (lH w P6 _ h6 (fun _ h => h)), fun _ h => h.elim, i6, fun _ h => h.elim⟩
theorem ki_Outgoing_info : (Try.prog.info? 150).map (fun i => (i.zero, i.size, i.bytes)) = some (some (.agg #[.int .i64 0, .int .i64 0, .int .i64 0, .int .i64 0, .int .i64 0, .string ⟨#[]⟩, .slice none 0 0, .int .i64 0, .int .i64 0, .int .i64 0, .int .i64 0, .int .i64 0, .int .i64 0]), 13, 128) := by kernel_rfl
def bK : Kn GVat := Kn.iso (Kn.pair Kn.int (Kn.pair (Kn.slice 77 aL) (Kn.pair (Kn.slice 181 aH) (Kn.pair (Kn.slice 138 aW) (Kn.slice 150 aS))))) (fun x => (x.Id, x.aC, x.Loop, x.aJ, x.Out))
theorem lC {w : World} {x : GVat} {cs : List Value} (h : bK.K w x cs) : ∃ (A1 : Option Addr) (c1 : Nat) (A2 : Option Addr) (c2 : Nat) (A3 : Option Addr) (c3 : Nat) (A4 : Option Addr) (c4 : Nat), cs = [.int .i64 x.Id, .slice A1 x.aC.length c1, .slice A2 x.Loop.length c2, .slice A3 x.aJ.length c3, .slice A4 x.Out.length c4] ∧ x.aC.length ≤ c1 ∧ C aL w A1 x.aC ∧ x.Loop.length ≤ c2 ∧ C aH w A2 x.Loop ∧ x.aJ.length ≤ c3 ∧ C aW w A3 x.aJ ∧ x.Out.length ≤ c4 ∧ C aS w A4 x.Out := by
 obtain ⟨_, _, rfl, rfl, ⟨_, _, rfl, ⟨A1, c1, rfl, hl1, hC1⟩, ⟨_, _, rfl, ⟨A2, c2, rfl, hl2, hC2⟩, ⟨_, _, rfl, ⟨A3, c3, rfl, hl3, hC3⟩, ⟨A4, c4, rfl, hl4, hC4⟩⟩⟩⟩⟩ := h
 exact ⟨A1, c1, A2, c2, A3, c3, A4, c4, rfl, hl1, hC1, hl2, hC2, hl3, hC3, hl4, hC4⟩
theorem ki_Vat_M {w : World} {F : Nat → Prop} {x : GVat} {cs : List Value} (h : bK.M w F x cs) : ∃ (v1 : Value) (P1 : Nat → Prop) (v2 : Value) (P2 : Nat → Prop) (v3 : Value) (P3 : Nat → Prop) (v4 : Value) (P4 : Nat → Prop), cs = [.int .i64 x.Id, v1, v2, v3, v4] ∧ R aL 77 w P1 v1 x.aC ∧ R aH 181 w P2 v2 x.Loop ∧ R aW 138 w P3 v3 x.aJ ∧ R aS 150 w P4 v4 x.Out ∧ (∀ k, P1 k → F k) ∧ (∀ k, P2 k → F k) ∧ (∀ k, P3 k → F k) ∧ (∀ k, P4 k → F k) ∧ (∀ k, P1 k → ¬ P2 k) ∧ (∀ k, P1 k → ¬ P3 k) ∧ (∀ k, P1 k → ¬ P4 k) ∧ (∀ k, P2 k → ¬ P3 k) ∧ (∀ k, P2 k → ¬ P4 k) ∧ (∀ k, P3 k → ¬ P4 k) := by
 obtain ⟨_, _, F0, G0, rfl, rfl, ⟨_, _, F1, G1, rfl, ⟨v1, rfl, hR1⟩, ⟨_, _, F2, G2, rfl, ⟨v2, rfl, hR2⟩, ⟨_, _, F3, G3, rfl, ⟨v3, rfl, hR3⟩, ⟨v4, rfl, hR4⟩, a3, b3, d3⟩, a2, b2, d2⟩, a1, b1, d1⟩, a0, b0, d0⟩ := h
 exact ⟨v1, F1, v2, F2, v3, F3, v4, G3, rfl, hR1, hR2, hR3, hR4, fun k hk => (b0 k (a1 k hk)), fun k hk => (b0 k (b1 k (a2 k hk))), fun k hk => (b0 k (b1 k (b2 k (a3 k hk)))), fun k hk => (b0 k (b1 k (b2 k (b3 k hk)))), fun k hk hk' => d1 k hk (a2 k hk'), fun k hk hk' => d1 k hk (b2 k (a3 k hk')), fun k hk hk' => d1 k hk (b2 k (b3 k hk')), fun k hk hk' => d2 k hk (a3 k hk'), fun k hk hk' => d2 k hk (b3 k hk'), fun k hk hk' => d3 k hk hk'⟩
theorem ki_Vat_mk (w : World) (F : Nat → Prop) (x : GVat) {v1 : Value} {P1 : Nat → Prop} (h1 : R aL 77 w P1 v1 x.aC) {v2 : Value} {P2 : Nat → Prop} (h2 : R aH 181 w P2 v2 x.Loop) {v3 : Value} {P3 : Nat → Prop} (h3 : R aW 138 w P3 v3 x.aJ) {v4 : Value} {P4 : Nat → Prop} (h4 : R aS 150 w P4 v4 x.Out) (i1 : ∀ k, P1 k → F k) (i2 : ∀ k, P2 k → F k) (i3 : ∀ k, P3 k → F k) (i4 : ∀ k, P4 k → F k) (d1_2 : ∀ k, P1 k → ¬ P2 k) (d1_3 : ∀ k, P1 k → ¬ P3 k) (d1_4 : ∀ k, P1 k → ¬ P4 k) (d2_3 : ∀ k, P2 k → ¬ P3 k) (d2_4 : ∀ k, P2 k → ¬ P4 k) (d3_4 : ∀ k, P3 k → ¬ P4 k) : bK.M w F x [.int .i64 x.Id, v1, v2, v3, v4] :=
 ⟨[_], [_, _, _, _], No, (fun k => P1 k ∨ P2 k ∨ P3 k ∨ P4 k), rfl, rfl, ⟨[_], [_, _, _], P1, (fun k => P2 k ∨ P3 k ∨ P4 k), rfl, ⟨_, rfl, h1⟩, ⟨[_], [_, _], P2, (fun k => P3 k ∨ P4 k), rfl, ⟨_, rfl, h2⟩, ⟨[_], [_], P3, P4, rfl, ⟨_, rfl, h3⟩, ⟨_, rfl, h4⟩, fun k h => by first | exact h | exact Or.inl h | exact Or.inr h, fun k h => by first | exact h | exact Or.inl h | exact Or.inr h, fun k h h' => by exact d3_4 k h h'⟩, fun k h => by first | exact h | exact Or.inl h | exact Or.inr h, fun k h => by first | exact h | exact Or.inl h | exact Or.inr h, fun k h h' => by rcases h' with h' | h' <;> first | exact d2_3 k h h' | exact d2_4 k h h'⟩, fun k h => by first | exact h | exact Or.inl h | exact Or.inr h, fun k h => by first | exact h | exact Or.inl h | exact Or.inr h, fun k h h' => by rcases h' with h' | h' | h' <;> first | exact d1_2 k h h' | exact d1_3 k h h' | exact d1_4 k h h'⟩, fun _ h => h.elim, fun k h => by rcases h with h | h | h | h <;> first | exact i1 k h | exact i2 k h | exact i3 k h | exact i4 k h, fun _ h => h.elim⟩
end Go.Proofs.YtdfipdpeilegpaaK
namespace Go.Proofs.YtdfipdpeilegpaaT
open Go.RowKit Go.Proofs.YtdfipdpeilegpaaSep Go.Proofs.YtdfipdpeilegpaaK
theorem ki_Value_len {W : World} {x : GValue} {cs : List Value} (h : aP.K W x cs) : cs.length = 2 := aP.jE h
theorem ki_Value_one {W : World} {x : GValue} {cs : List Value} (h : aP.K W x cs) : ∀ u ∈ (List.toArray cs).toList, u.oneCell' = true := aP.jV h
theorem eY {W : World} {x : GSent} {cs : List Value} (h : aH.K W x cs) : cs.length = 7 := aH.jE h
theorem ki_Sent_one {W : World} {x : GSent} {cs : List Value} (h : aH.K W x cs) : ∀ u ∈ (List.toArray cs).toList, u.oneCell' = true := aH.jV h
theorem ki_Sent_close {W : World} {F : Nat → Prop} {x : GSent} {v2 : Value} (h : Star [hR aP 70 v2 x.dJ] W F) : aH.M W F x [.int .i64 x.Target, .string x.Name, v2, .int .i64 x.Result, .int .i64 x.Tag.Vat, .int .i64 x.Tag.Entity, .int .i64 x.Tag.Seq] := by
 obtain ⟨Fs, h1, h2, h3⟩ := h
 exact ki_Sent_mk W F x (h3 0 _ rfl) (h1 0)
theorem ki_Asker_len {W : World} {x : GAsker} {cs : List Value} (h : aQ.K W x cs) : cs.length = 2 := aQ.jE h
theorem ki_Asker_one {W : World} {x : GAsker} {cs : List Value} (h : aQ.K W x cs) : ∀ u ∈ (List.toArray cs).toList, u.oneCell' = true := aQ.jV h
theorem cO {W : World} {x : GEntity} {cs : List Value} (h : aL.K W x cs) : cs.length = 12 := aL.jE h
theorem fF {W : World} {x : GEntity} {cs : List Value} (h : aL.K W x cs) : ∀ u ∈ (List.toArray cs).toList, u.oneCell' = true := aL.jV h
theorem gD {W : World} {F : Nat → Prop} {x : GEntity} {v2 : Value} {v6 : Value} {v7 : Value} (h : Star [hR aP 70 v2 x.aM, hR aH 181 v6 x.Queue, hR aQ 155 v7 x.aG] W F) : aL.M W F x [.int .i64 x.Kind, .int .i64 x.Script, v2, .int .i64 x.State, .int .i64 x.Value.Kind, .int .i64 x.Value.N, v6, v7, .int .i64 x.bD, .int .i64 x.Pos, .int .i64 x.Count, .int .i64 x.bJ] := by
 obtain ⟨Fs, h1, h2, h3⟩ := h
 exact ki_Entity_mk W F x (h3 0 _ rfl) (h3 1 _ rfl) (h3 2 _ rfl) (h1 0) (h1 1) (h1 2) (fun k p q => absurd (h2 0 1 k p q) kD) (fun k p q => absurd (h2 0 2 k p q) kD) (fun k p q => absurd (h2 1 2 k p q) kD)
theorem gK {W : World} {F : Nat → Prop} {x : GEntity} {cs : List Value} (h : aL.M W F x cs) : ∃ (A2 : Option Addr) (c2 : Nat) (A6 : Option Addr) (c6 : Nat) (A7 : Option Addr) (c7 : Nat), cs = [.int .i64 x.Kind, .int .i64 x.Script, .slice A2 x.aM.length c2, .int .i64 x.State, .int .i64 x.Value.Kind, .int .i64 x.Value.N, .slice A6 x.Queue.length c6, .slice A7 x.aG.length c7, .int .i64 x.bD, .int .i64 x.Pos, .int .i64 x.Count, .int .i64 x.bJ] ∧ Star [hR aP 70 (.slice A2 x.aM.length c2) x.aM, hR aH 181 (.slice A6 x.Queue.length c6) x.Queue, hR aQ 155 (.slice A7 x.aG.length c7) x.aG] W F := by
 obtain ⟨v2, P2, v6, P6, v7, P7, rfl, r2, r6, r7, i2, i6, i7, d2_6, d2_7, d6_7⟩ := ki_Entity_M h
 obtain ⟨A2, c2, rfl⟩ := eZ r2
 obtain ⟨A6, c6, rfl⟩ := eZ r6
 obtain ⟨A7, c7, rfl⟩ := eZ r7
 exact ⟨A2, c2, A6, c6, A7, c7, rfl, (Star.cons P2 (fun b => P6 b ∨ P7 b) r2 (Star.cons P6 (fun b => P7 b) r6 (Star.cons P7 (fun b => False) r7 Star.nil (fun b h => h) (fun b h => h.elim) (fun b p h => h.elim)) (fun b h => .inl h) (fun b h => .inr h) (fun b p h => (by exact d6_7 b p h))) i2 (fun b h => (by rcases h with h | h; exact i6 b h; exact i7 b h)) (fun b p h => (by rcases h with h | h; exact d2_6 b p h; exact d2_7 b p h)))⟩
theorem lI {W : World} {x : GExport} {cs : List Value} (h : bE.K W x cs) : cs.length = 3 := bE.jE h
theorem lJ {W : World} {x : GExport} {cs : List Value} (h : bE.K W x cs) : ∀ u ∈ (List.toArray cs).toList, u.oneCell' = true := bE.jV h
theorem ki_Question_len {W : World} {x : GQuestion} {cs : List Value} (h : aY.K W x cs) : cs.length = 2 := aY.jE h
theorem ki_Question_one {W : World} {x : GQuestion} {cs : List Value} (h : aY.K W x cs) : ∀ u ∈ (List.toArray cs).toList, u.oneCell' = true := aY.jV h
theorem gP {W : World} {x : GLink} {cs : List Value} (h : aW.K W x cs) : cs.length = 7 := aW.jE h
theorem iW {W : World} {x : GLink} {cs : List Value} (h : aW.K W x cs) : ∀ u ∈ (List.toArray cs).toList, u.oneCell' = true := aW.jV h
theorem iE {W : World} {F : Nat → Prop} {x : GLink} {v2 : Value} {v4 : Value} {v6 : Value} (h : Star [hR bE 188 v2 x.aV, hR aY 197 v4 x.aT, hR aY 197 v6 x.bA] W F) : aW.M W F x [.int .i64 x.bD, .bool x.Up, v2, .int .i64 x.Next, v4, .int .i64 x.bO, v6] := by
 obtain ⟨Fs, h1, h2, h3⟩ := h
 exact ki_Link_mk W F x (h3 0 _ rfl) (h3 1 _ rfl) (h3 2 _ rfl) (h1 0) (h1 1) (h1 2) (fun k p q => absurd (h2 0 1 k p q) kD) (fun k p q => absurd (h2 0 2 k p q) kD) (fun k p q => absurd (h2 1 2 k p q) kD)
theorem jB {W : World} {F : Nat → Prop} {x : GLink} {cs : List Value} (h : aW.M W F x cs) : ∃ (A2 : Option Addr) (c2 : Nat) (A4 : Option Addr) (c4 : Nat) (A6 : Option Addr) (c6 : Nat), cs = [.int .i64 x.bD, .bool x.Up, .slice A2 x.aV.length c2, .int .i64 x.Next, .slice A4 x.aT.length c4, .int .i64 x.bO, .slice A6 x.bA.length c6] ∧ Star [hR bE 188 (.slice A2 x.aV.length c2) x.aV, hR aY 197 (.slice A4 x.aT.length c4) x.aT, hR aY 197 (.slice A6 x.bA.length c6) x.bA] W F := by
 obtain ⟨v2, P2, v4, P4, v6, P6, rfl, r2, r4, r6, i2, i4, i6, d2_4, d2_6, d4_6⟩ := ki_Link_M h
 obtain ⟨A2, c2, rfl⟩ := eZ r2
 obtain ⟨A4, c4, rfl⟩ := eZ r4
 obtain ⟨A6, c6, rfl⟩ := eZ r6
 exact ⟨A2, c2, A4, c4, A6, c6, rfl, (Star.cons P2 (fun b => P4 b ∨ P6 b) r2 (Star.cons P4 (fun b => P6 b) r4 (Star.cons P6 (fun b => False) r6 Star.nil (fun b h => h) (fun b h => h.elim) (fun b p h => h.elim)) (fun b h => .inl h) (fun b h => .inr h) (fun b p h => (by exact d4_6 b p h))) i2 (fun b h => (by rcases h with h | h; exact i4 b h; exact i6 b h)) (fun b p h => (by rcases h with h | h; exact d2_4 b p h; exact d2_6 b p h)))⟩
theorem ki_Wire_len {W : World} {x : GWire} {cs : List Value} (h : fB.K W x cs) : cs.length = 2 := fB.jE h
theorem ki_Wire_one {W : World} {x : GWire} {cs : List Value} (h : fB.K W x cs) : ∀ u ∈ (List.toArray cs).toList, u.oneCell' = true := fB.jV h
theorem ki_Message_open {W : World} {F : Nat → Prop} {x : GMessage} {cs : List Value} (h : gU.M W F x cs) : ∃ (A5 : Option Addr) (c5 : Nat), cs = [.int .i64 x.Kind, .int .i64 x.Pos, .int .i64 x.dZ, .int .i64 x.Question, .string x.Name, .slice A5 x.dJ.length c5, .int .i64 x.Value.Kind, .int .i64 x.Value.N, .int .i64 x.Count, .int .i64 x.Tag.Vat, .int .i64 x.Tag.Entity, .int .i64 x.Tag.Seq] ∧ Star [hR fB 27 (.slice A5 x.dJ.length c5) x.dJ] W F := by
 obtain ⟨v5, P5, rfl, r5, i5⟩ := ki_Message_M h
 obtain ⟨A5, c5, rfl⟩ := eZ r5
 exact ⟨A5, c5, rfl, (Star.cons P5 (fun b => False) r5 Star.nil i5 (fun b h => h.elim) (fun b p h => h.elim))⟩
theorem jJ {W : World} {x : GOutgoing} {cs : List Value} (h : aS.K W x cs) : cs.length = 13 := aS.jE h
theorem jK {W : World} {x : GOutgoing} {cs : List Value} (h : aS.K W x cs) : ∀ u ∈ (List.toArray cs).toList, u.oneCell' = true := aS.jV h
theorem lG {W : World} {F : Nat → Prop} {x : GOutgoing} {v6 : Value} (h : Star [hR fB 27 v6 x.Message.dJ] W F) : aS.M W F x [.int .i64 x.To, .int .i64 x.Message.Kind, .int .i64 x.Message.Pos, .int .i64 x.Message.dZ, .int .i64 x.Message.Question, .string x.Message.Name, v6, .int .i64 x.Message.Value.Kind, .int .i64 x.Message.Value.N, .int .i64 x.Message.Count, .int .i64 x.Message.Tag.Vat, .int .i64 x.Message.Tag.Entity, .int .i64 x.Message.Tag.Seq] := by
 obtain ⟨Fs, h1, h2, h3⟩ := h
 exact ki_Outgoing_mk W F x (h3 0 _ rfl) (h1 0)
theorem dF {W : World} {x : GVat} {cs : List Value} (h : bK.K W x cs) : cs.length = 5 := bK.jE h
theorem fM {W : World} {x : GVat} {cs : List Value} (h : bK.K W x cs) : ∀ u ∈ (List.toArray cs).toList, u.oneCell' = true := bK.jV h
theorem gM {W : World} {F : Nat → Prop} {x : GVat} {v1 : Value} {v2 : Value} {v3 : Value} {v4 : Value} (h : Star [hR aL 77 v1 x.aC, hR aH 181 v2 x.Loop, hR aW 138 v3 x.aJ, hR aS 150 v4 x.Out] W F) : bK.M W F x [.int .i64 x.Id, v1, v2, v3, v4] := by
 obtain ⟨Fs, h1, h2, h3⟩ := h
 exact ki_Vat_mk W F x (h3 0 _ rfl) (h3 1 _ rfl) (h3 2 _ rfl) (h3 3 _ rfl) (h1 0) (h1 1) (h1 2) (h1 3) (fun k p q => absurd (h2 0 1 k p q) kD) (fun k p q => absurd (h2 0 2 k p q) kD) (fun k p q => absurd (h2 0 3 k p q) kD) (fun k p q => absurd (h2 1 2 k p q) kD) (fun k p q => absurd (h2 1 3 k p q) kD) (fun k p q => absurd (h2 2 3 k p q) kD)
theorem fZ {W : World} {F : Nat → Prop} {x : GVat} {cs : List Value} (h : bK.M W F x cs) : ∃ (A1 : Option Addr) (c1 : Nat) (A2 : Option Addr) (c2 : Nat) (A3 : Option Addr) (c3 : Nat) (A4 : Option Addr) (c4 : Nat), cs = [.int .i64 x.Id, .slice A1 x.aC.length c1, .slice A2 x.Loop.length c2, .slice A3 x.aJ.length c3, .slice A4 x.Out.length c4] ∧ Star [hR aL 77 (.slice A1 x.aC.length c1) x.aC, hR aH 181 (.slice A2 x.Loop.length c2) x.Loop, hR aW 138 (.slice A3 x.aJ.length c3) x.aJ, hR aS 150 (.slice A4 x.Out.length c4) x.Out] W F := by
 obtain ⟨v1, P1, v2, P2, v3, P3, v4, P4, rfl, r1, r2, r3, r4, i1, i2, i3, i4, d1_2, d1_3, d1_4, d2_3, d2_4, d3_4⟩ := ki_Vat_M h
 obtain ⟨A1, c1, rfl⟩ := eZ r1
 obtain ⟨A2, c2, rfl⟩ := eZ r2
 obtain ⟨A3, c3, rfl⟩ := eZ r3
 obtain ⟨A4, c4, rfl⟩ := eZ r4
 exact ⟨A1, c1, A2, c2, A3, c3, A4, c4, rfl, (Star.cons P1 (fun b => P2 b ∨ P3 b ∨ P4 b) r1 (Star.cons P2 (fun b => P3 b ∨ P4 b) r2 (Star.cons P3 (fun b => P4 b) r3 (Star.cons P4 (fun b => False) r4 Star.nil (fun b h => h) (fun b h => h.elim) (fun b p h => h.elim)) (fun b h => .inl h) (fun b h => .inr h) (fun b p h => (by exact d3_4 b p h))) (fun b h => .inl h) (fun b h => .inr h) (fun b p h => (by rcases h with h | h; exact d2_3 b p h; exact d2_4 b p h))) i1 (fun b h => (by rcases h with h | h | h; exact i2 b h; exact i3 b h; exact i4 b h)) (fun b p h => (by rcases h with h | h | h; exact d1_2 b p h; exact d1_3 b p h; exact d1_4 b p h)))⟩
end Go.Proofs.YtdfipdpeilegpaaT
namespace Go.Proofs.YtdfipdpeilegpaaSep
open Go.ChangeShapes Go.WideShapes Go.RowKit
section
variable {α : Type}
def EP (d : Kn α) (e g cap i : Nat) (ce : List Value) (xs : List α) (W : World) (F : Nat → Prop) : Prop :=
 ∃ (cur : Array Value) (Fs : Nat → Nat → Prop), F g ∧ Blk W g e cur ∧ (xs.length ≤ cap ∧ cap ≤ 9223372036854775807 ∧ cur.size = cap * d.sz) ∧ (∀ j b, Fs j b → F b ∧ b ≠ g) ∧ (∀ j k b, Fs j b → Fs k b → j = k) ∧ (∀ j x, j ≠ i → xs[j]? = some x → d.M W (Fs j) x (piece d.sz cur.toList j)) ∧ piece d.sz cur.toList i = ce ∧ i < xs.length
def hE (d : Kn α) (e g cap i : Nat) (ce : List Value) (xs : List α) : HP where
 p := EP d e g cap i ce xs
 same := by
  rintro W W' F h ⟨cur, Fs, h1, h2, h3, h4, h5, h6, h7, h8⟩
  exact ⟨cur, Fs, h1, (h g h1).trans h2, h3, h4, h5, fun j x hj hx => d.iO (fun b hb => h b (h4 j b hb).1) (h6 j x hj hx), h7, h8⟩
 lt := by
  rintro W F ⟨cur, Fs, h1, h2, h3, h4, h5, h6, h7, h8⟩
  exact ⟨cur, fun j b => Fs j b ∧ b < W.heap.size, ⟨h1, Blk.lt h2⟩, h2, h3, fun j b hb => ⟨⟨(h4 j b hb.1).1, hb.2⟩, (h4 j b hb.1).2⟩, fun j k b hj hk => h5 j k b hj.1 hk.1, fun j x hj hx => d.M_lt (h6 j x hj hx), h7, h8⟩
 mono := by
  rintro W F F' h ⟨cur, Fs, h1, h2, h3, h4, h5, h6, h7, h8⟩
  exact ⟨cur, Fs, h g h1, h2, h3, fun j b hb => ⟨h b (h4 j b hb).1, (h4 j b hb).2⟩, h5, h6, h7, h8⟩
variable {d : Kn α} {e g cap i : Nat} {ce : List Value} {xs : List α} {l : List HP} {W w : World} {F F0 : Nat → Prop} {v : Value}
theorem R_openE (h : R d e W F v xs) (hi : i < xs.length) : ∃ g cap ce, v = .slice (some ⟨g, 0, none⟩) xs.length cap ∧ Star [hE d e g cap i ce xs, hM d xs[i] ce] W F := by
 rcases h with ⟨_, rfl⟩ | ⟨g, cap, cur, Fs, h1, h2, h3, h4, h5, h6, h7, h8, h9⟩
 ·simp at hi
 refine ⟨g, cap, _, h1, Star.cons (fun b => F b ∧ ¬ Fs i b) (Fs i) ⟨cur, fun j b => j ≠ i ∧ Fs j b, ⟨h3, fun q => (h7 i g q).2 rfl⟩, h2, ⟨h4, h5, h6⟩, fun j b hb => ⟨⟨(h7 j b hb.2).1, fun q => hb.1 (h8 j i b hb.2 q)⟩, (h7 j b hb.2).2⟩, fun j k b hj hk => h8 j k b hj.2 hk.2, fun j x hj hx => d.iR (fun _ q => ⟨hj, q⟩) (h9 j x hx), rfl, hi⟩ (Star.one (h9 i xs[i] (List.getElem?_eq_getElem hi))) (fun _ q => q.1) (fun b q => (h7 i b q).1) (fun b q q' => q.2 q')⟩
theorem R_closeE {y : α} (h : Star [hE d e g cap i ce xs, hM d y ce] W F) : R d e W F (.slice (some ⟨g, 0, none⟩) xs.length cap) (xs.set i y) := by
 obtain ⟨F1, F2, ⟨cur, Fs, h1, h2, ⟨h3, h3b, h3c⟩, h4, h5, h6, h7, h8⟩, a2, a3, a4, a5⟩ := h.uncons
 obtain ⟨Fp, F4, d1, _, d3, _, _⟩ := a2.uncons
 refine .inr ⟨g, cap, cur, fun j b => if j = i then Fp b else Fs j b, by rw [List.length_set], h2, a3 g h1, by rw [List.length_set]; exact h3, h3b, h3c, fun j b hb => ?_, fun j k b hj hk => ?_, fun j x hx => ?_⟩
 ·by_cases c : j = i
  ·simp only [c, if_true] at hb
   exact ⟨a4 b (d3 b hb), fun q => a5 g h1 (q ▸ d3 b hb)⟩
  ·simp only [c, if_false] at hb
   exact ⟨a3 b (h4 j b hb).1, (h4 j b hb).2⟩
 ·by_cases c : j = i <;> by_cases c' : k = i
  ·omega
  ·simp only [c, c', if_true, if_false] at hj hk
   exact absurd (d3 b hj) (a5 b (h4 k b hk).1)
  ·simp only [c, c', if_true, if_false] at hj hk
   exact absurd (d3 b hk) (a5 b (h4 j b hj).1)
  ·simp only [c, c', if_false] at hj hk
   exact h5 j k b hj hk
 ·rw [List.getElem?_set] at hx
  by_cases c : i = j
  ·subst c
   rw [if_pos rfl, if_pos h8] at hx
   obtain rfl := Option.some.inj hx
   simp only [if_true]
   rw [h7]
   exact d1
  ·rw [if_neg c] at hx
   simp only [show ¬ j = i from fun q => c q.symm, if_false]
   exact h6 j x (fun q => c q.symm) hx
theorem St.unM {q : HP} (H : St w F0 (q :: l) W) : ∃ F1 : Nat → Prop, q.p W F1 ∧ ∀ l', Star l' W F1 → St w F0 (l' ++ l) W := by
 obtain ⟨F1, F2, a1, a2, a3, a4, a5⟩ := H.2.uncons
 exact ⟨F1, a1, fun l' h => ⟨H.1, Star.append F1 F2 h a2 a3 a4 a5⟩⟩
theorem St.openE (H : St w F0 (hR d e v xs :: l) W) (hi : i < xs.length) : ∃ g cap ce, v = .slice (some ⟨g, 0, none⟩) xs.length cap ∧ St w F0 (hE d e g cap i ce xs :: hM d xs[i] ce :: l) W := by
 obtain ⟨F1, h1, h2⟩ := H.unM
 obtain ⟨g, cap, ce, e', hs⟩ := R_openE h1 hi
 exact ⟨g, cap, ce, e', h2 _ hs⟩
theorem St.closeE {y : α} (H : St w F0 (hE d e g cap i ce xs :: hM d y ce :: l) W) : St w F0 (hR d e (.slice (some ⟨g, 0, none⟩) xs.length cap) (xs.set i y) :: l) W :=
 St.swap (l0 := [hE d e g cap i ce xs, hM d y ce]) (l' := [hR d e (.slice (some ⟨g, 0, none⟩) xs.length cap) (xs.set i y)]) H (fun _ h => Star.one (R_closeE h))
theorem EP.cat (h : EP d e g cap i ce xs W F) : Cat W (Addr.add ⟨g, 0, none⟩ (i * d.sz)) ce := by
 obtain ⟨cur, Fs, h1, h2, h3, h4, h5, h6, h7, h8⟩ := h
 intro j u hu
 rw [← h7] at hu
 rw [add_add', add_plain, h2.cell]
 simp only [piece, List.getElem?_take, List.getElem?_drop] at hu
 split at hu
 ·simpa using hu
 ·cases hu
theorem St.catE (H : St w F0 l W) (q : Nat) (hq : l[q]? = some (hE d e g cap i ce xs)) : Cat W (Addr.add ⟨g, 0, none⟩ (i * d.sz)) ce := by
 obtain ⟨F, hF⟩ := H.get q hq
 exact EP.cat hF
theorem EP.set (h : EP d e g cap i ce xs W F) (k : Nat) (vs : List Value) (hk : k + vs.length ≤ ce.length) (h1 : ∀ u ∈ vs, u.oneCell' = true) (P : Program) :
 ∃ W', (storeCells ⟨g, i * d.sz + k, none⟩ vs 0).run P W = .ok () W' ∧ Upd (fun b => b = g) W W' ∧ EP d e g cap i (ce.take k ++ vs ++ ce.drop (k + vs.length)) xs W' F := by
 obtain ⟨cur, Fs, a1, a2, ⟨a3, a3b, a3c⟩, a4, a5, a6, a7, a8⟩ := h
 have hcl : ce.length ≤ d.sz := by rw [← a7]; simp [piece]; omega
 have hsz : i * d.sz + d.sz ≤ cur.size := by rw [a3c, ← Nat.succ_mul]; exact Nat.mul_le_mul_right _ kO
 have hst := run_storeCells_at P g (i * d.sz + k) e vs 0 cur W a2 kO h1
 simp only [Nat.add_zero] at hst
 refine ⟨_, hst, ?_, ?_⟩
 ·refine ⟨rfl, rfl, rfl, by simp [World.setRow], fun b hb' hF => ?_⟩
  simp only [World.setRow, Array.getElem?_modify]
  rw [if_neg (fun e => hF e.symm)]
 ·have hget : ∀ p, (cur.toList.take (i * d.sz + k) ++ vs ++ cur.toList.drop (i * d.sz + k + vs.length))[p]? = if p < i * d.sz + k then cur.toList[p]? else if p < i * d.sz + k + vs.length then vs[p - (i * d.sz + k)]? else cur.toList[p]? := by
   intro p
   have hlen : (cur.toList.take (i * d.sz + k)).length = i * d.sz + k := by simp; omega
   by_cases c1 : p < i * d.sz + k
   ·rw [List.append_assoc, List.getElem?_append_left kO, List.getElem?_take, if_pos c1, if_pos c1]
   ·rw [if_neg c1]
    by_cases c2 : p < i * d.sz + k + vs.length
    ·rw [if_pos c2, List.append_assoc, List.getElem?_append_right kO, hlen, List.getElem?_append_left kO]
    ·rw [if_neg c2, List.getElem?_append_right (by simp; omega), List.getElem?_drop]
     congr 1
     simp
     omega
  have hp : ∀ j q, (piece d.sz (cur.toList.take (i * d.sz + k) ++ vs ++ cur.toList.drop (i * d.sz + k + vs.length)) j)[q]? = if q < d.sz then (if j * d.sz + q < i * d.sz + k then cur.toList[j * d.sz + q]? else if j * d.sz + q < i * d.sz + k + vs.length then vs[j * d.sz + q - (i * d.sz + k)]? else cur.toList[j * d.sz + q]?) else none := by
   intro j q
   unfold piece
   rw [List.getElem?_take]
   by_cases hq : q < d.sz
   ·rw [if_pos hq, if_pos hq, List.getElem?_drop, hget]
   ·rw [if_neg hq, if_neg hq]
  refine ⟨_, Fs, a1, setRow_heap W g cur _ e (0, 0) a2, ⟨a3, a3b, ?_⟩, a4, a5, fun j x hj hx => ?_, ?_, a8⟩
  ·rw [← a3c]
   simp
   omega
  ·have hpc : piece d.sz (cur.toList.take (i * d.sz + k) ++ vs ++ cur.toList.drop (i * d.sz + k + vs.length)) j = piece d.sz cur.toList j := by
    apply List.ext_getElem?
    intro q
    rw [hp j q]
    unfold piece
    rw [List.getElem?_take]
    by_cases hq : q < d.sz
    ·rw [if_pos hq, if_pos hq, List.getElem?_drop]
     rcases Nat.lt_or_gt_of_ne hj with c | c
     ·have : j * d.sz + d.sz ≤ i * d.sz := by rw [← Nat.succ_mul]; exact Nat.mul_le_mul_right _ c
      rw [if_pos kO]
     ·have : i * d.sz + d.sz ≤ j * d.sz := by rw [← Nat.succ_mul]; exact Nat.mul_le_mul_right _ c
      rw [if_neg kO, if_neg kO]
    ·rw [if_neg hq, if_neg hq]
   have e' : (cur.toList.take (i * d.sz + k) ++ vs ++ cur.toList.drop (i * d.sz + k + vs.length)).toArray.toList = cur.toList.take (i * d.sz + k) ++ vs ++ cur.toList.drop (i * d.sz + k + vs.length) := rfl
   rw [e', hpc]
   refine d.iO (fun b hb => setRow_other W g b _ (a4 j b hb).2) (a6 j x hj hx)
  ·have e' : (cur.toList.take (i * d.sz + k) ++ vs ++ cur.toList.drop (i * d.sz + k + vs.length)).toArray.toList = cur.toList.take (i * d.sz + k) ++ vs ++ cur.toList.drop (i * d.sz + k + vs.length) := rfl
   rw [e']
   apply List.ext_getElem?
   intro q
   rw [hp i q]
   have hce : ∀ q, ce[q]? = if q < d.sz then cur.toList[i * d.sz + q]? else none := by
    intro q
    rw [← a7]
    unfold piece
    rw [List.getElem?_take]
    by_cases hq : q < d.sz
    ·rw [if_pos hq, if_pos hq, List.getElem?_drop]
    ·rw [if_neg hq, if_neg hq]
   have hlen : (ce.take k).length = k := by simp; omega
   by_cases c1 : q < k
   ·rw [List.append_assoc, List.getElem?_append_left kO, List.getElem?_take, if_pos c1, hce, if_pos kO, if_pos kO]
    rw [if_pos kO]
   ·by_cases c2 : q < k + vs.length
    ·rw [List.append_assoc, List.getElem?_append_right kO, hlen, List.getElem?_append_left kO, if_pos kO, if_neg kO, if_pos kO]
     congr 1
     omega
    ·rw [List.getElem?_append_right (by simp; omega), List.getElem?_drop, hce]
     have e2 : k + vs.length + (q - (ce.take k ++ vs).length) = q := by simp; omega
     rw [e2]
     by_cases c3 : q < d.sz
     ·rw [if_pos c3, if_pos c3, if_neg kO, if_neg kO]
     ·rw [if_neg c3, if_neg c3]
end
section
variable {α : Type} {P : Program} {ops : Array Oper} {Q : Exit → Act → World → Prop} {K : Act → World → Prop} {n i d ty : Nat} {x : Nat → Value} {live : List (Nat × Value)} {W w : World} {F0 : Nat → Prop} {l : List HP} {pos : String} {aft : Array Edge} {v : Value} {y z : Operand}
theorem rn_makeFunc {dst : Option Nat} {fn : Fn} {ys zs : Array Operand} {us vs : Array Value} (hy : ys.toList.map (evl n live) = us.toList.map some) (hz : zs.toList.map (evl n live) = vs.toList.map some) : Rn P ⟨dst, .makeFunc fn ys zs, ty, pos, aft, none⟩ (bH n x live) W (.func fn us vs) := by
 unfold Rn
 simp [execOp, Instr.makeFunc, evls_ok hy, evls_ok hz]
theorem fI {o : Oper} {a : Act} {b c : Bool} (e : b = c) (h : Rn P o a W (.bool b)) : Rn P o a W (.bool c) := e ▸ h
theorem iF {f : FuncId} {vs : Array Value} {b c : Bool} {W0 : World} (h : Calls P f vs W (fD b W0)) (e : b = c) : Calls P f vs W (fD c W0) := e ▸ h
theorem op_storeE {dk : Kn α} {t e g cap q k m : Nat} {ce ce' : List Value} {xs : List α} {a : Addr} (ho : ops[i]? = some ⟨none, .store t y z, ty, pos, aft, none⟩) (hS : ∀ w, (sizeOf t).run P w = .ok m w) (hx : evl n live y = some (.pointer (some a))) (ha : a = Addr.add (Addr.add ⟨g, 0, none⟩ (q * dk.sz)) k) (hz : evl n live z = some v) (hm : v.cells.size = m) (hk : k + m ≤ ce.length) (h1 : ∀ u ∈ v.cells.toList, u.oneCell' = true) (hce : ce.take k ++ v.cells.toList ++ ce.drop (k + m) = ce') (H : St w F0 (hE dk e g cap q ce xs :: l) W) (h : ∀ W', Upd (fun b => b = g) W W' → St w F0 (hE dk e g cap q ce' xs :: l) W' → K (bH n x live) W') : wpOp P ops Q i K (bH n x live) W := by
 subst hm
 refine op_ok ho rfl ?_
 obtain ⟨F1, a1, a2, a3⟩ := H.turn
 obtain ⟨W', hst, hu, hE'⟩ := EP.set a1 k v.cells.toList (by simpa using hk) h1 P
 rw [add_add', add_plain] at ha
 subst ha
 have hrun : (execOp (bH n x live).eval ⟨none, .store t y z, ty, pos, aft, none⟩).run P W = .ok .skip W' := by
  simp only [execOp, dM hx, dM hz, Instr.storeAt, Instr.sureAddr, storeVar, Sem.run_bind, Sem.run_pure, Result.andThen_ok, hS, ne_eq, not_true, if_false]
  rw [hst]
  rfl
 unfold Oper.wp
 rw [hrun]
 simp only [Oper.upon]
 refine h W' hu ?_
 rw [← hce]
 have hl : v.cells.toList.length = v.cells.size := by simp
 rw [← hl]
 have hg : F1 g := by
  obtain ⟨cur, Fs, b1, _⟩ := a1
  exact b1
 exact a3 (hE dk e g cap q (ce.take k ++ v.cells.toList ++ ce.drop (k + v.cells.toList.length)) xs) W' (hu.mono (fun b _ e' => e' ▸ hg)) ((hE dk e g cap q _ xs).mono (fun _ q => .inl q) hE')
end
end Go.Proofs.YtdfipdpeilegpaaSep
namespace Go.Proofs.YtdfipdpeilegpaaFam
open Go.RowKit Go.Proofs.YtdfipdpeilegpaaSep Go.Proofs.YtdfipdpeilegpaaT Go.Proofs.YtdfipdpeilegpaaK
set_option linter.unusedVariables false
set_option linter.unusedSimpArgs false
theorem ki_Export_Kmk (w : World) (x : GExport) : bE.K w x [.int .i64 x.Pos, .int .i64 x.Entity, .int .i64 x.Count] := ⟨[_], [_, _], rfl, rfl, ⟨[_], [_], rfl, rfl, rfl⟩⟩
end Go.Proofs.YtdfipdpeilegpaaFam
namespace Go.Proofs.YtdfipdpeilegpaaFam
open Go.RowKit Go.Proofs.YtdfipdpeilegpaaSep Go.Proofs.YtdfipdpeilegpaaT Go.Proofs.YtdfipdpeilegpaaK
set_option linter.unusedVariables false
set_option linter.unusedSimpArgs false
set_option maxHeartbeats 1000000
set_option maxRecDepth 100000
theorem exF_idx (q0 : Value) (p : GExport → Bool) (l : List GExport) (A : Option Addr) (c : Nat) (w : World) (h : C bE w A l) (hf : ∀ (x : GExport) (cs : List Value) (w' : World), Upd No w w' → bE.K w' x cs → Calls Try.prog 161 #[.agg cs.toArray, q0] w' (fD (p x) w')) : Calls Try.prog 160 #[.slice A l.length c, .func (.func 161) #[] #[q0]] w (RetInt (fidx p 0 l) w) := by
 have hn := h.1
 have H := Sd.mk h
 have HF := Sd.mk hf
 clear h hf
 go_enter Try.func160, Try.ntmps160
 go_wp2_with fail
 go_loopg [8] l.length (fun r v wr => ∃ i : Nat, i + r = l.length ∧ v = .int .i64 i ∧ Sd (fidx p 0 l = fidx p i (l.drop i)) ∧ Sd (Upd No w wr))
 case atStart => exact ⟨0, by omega, rfl, ⟨rfl⟩, ⟨Upd.refl _ _⟩⟩
 case round =>
  obtain ⟨i, hi, rfl, HE, HU⟩ := hrel
  by_cases hlt : i < l.length
  ·obtain ⟨ad, rfl, a0, a1, a2⟩ := ki_Export_at (cZ HU.out H.out) i hlt
   go_wp2_with fail
   with_reducible refine (HF.out l[i] _ _ HU.out (ki_Export_Kmk _ _)).mono ?_
   rintro e w1 ⟨rfl, hu⟩
   have HU1 := Sd.mk (HU.out.then hu)
   clear hu HU
   have hy := Sd.mk (fidx_yes p l i hlt)
   have hno := Sd.mk (fidx_no p l i hlt)
   cases hb : p l[i]
   ·have HBB := Sd.mk hb
    clear hb
    go_wp2_with fail
    go_roundg (gk - 1)
    case measure => omega
    case rel => exact ⟨i + 1, by omega, by go_num, ⟨HE.out.trans (hno.out HBB.out)⟩, HU1⟩
   ·have HBB := Sd.mk hb
    clear hb
    go_wp2_with fail
    go_ret
    exact ⟨ret_int (by rw [HE.out, hy.out HBB.out]), HU1.out⟩
  ·go_wp2_with fail
   go_ret
   exact ⟨ret_int (by rw [HE.out, fidx_end p l i kO]), HU.out⟩
end Go.Proofs.YtdfipdpeilegpaaFam
namespace Go.Proofs.YtdfipdpeilegpaaSep
open Go.ChangeShapes Go.WideShapes Go.RowKit
section
variable {α : Type} {P : Program} {ops : Array Oper} {Q : Exit → Act → World → Prop} {K : Act → World → Prop} {n i d ty : Nat} {x : Nat → Value} {live : List (Nat × Value)} {W w : World} {F0 : Nat → Prop} {l : List HP} {pos : String} {aft : Array Edge} {v : Value} {y z : Operand} {dk : Kn α} {e : Nat} {xs ys : List α}
theorem rn_int {o : Oper} {a : Act} {p q : Int} (e : p = q) (h : Rn P o a W (.int .i64 p)) : Rn P o a W (.int .i64 q) := e ▸ h
theorem St.openS {A : Option Addr} {m c q : Nat} (H : St w F0 (hR dk e (.slice A m c) xs :: l) W) (hi : q < xs.length) : ∃ g, A = some ⟨g, 0, none⟩ := by
 obtain ⟨g, cap, ce, he, _⟩ := H.openE hi
 cases he
 exact ⟨g, rfl⟩
theorem St.openG {g m c q : Nat} (H : St w F0 (hR dk e (.slice (some ⟨g, 0, none⟩) m c) xs :: l) W) (hi : q < xs.length) : ∃ ce, m = xs.length ∧ St w F0 (hE dk e g c q ce xs :: hM dk xs[q] ce :: l) W := by
 obtain ⟨g', cap, ce, he, H'⟩ := H.openE hi
 cases he
 exact ⟨ce, rfl, H'⟩
theorem St.closeG {g m c q : Nat} {ce : List Value} {u : α} (H : St w F0 (hE dk e g c q ce xs :: hM dk u ce :: l) W) (hy : xs.set q u = ys) (hm : m = ys.length) : St w F0 (hR dk e (.slice (some ⟨g, 0, none⟩) m c) ys :: l) W := by
 subst hm
 have h := H.closeE
 rw [← hy, List.length_set]
 exact h
theorem R_box {g : Nat} {cs : Array Value} {u : α} {F : Nat → Prop} (h : Star [hB g e cs, hM dk u cs.toList] W F) (hsz : cs.size = dk.sz) : R dk e W F (.slice (some ⟨g, 0, none⟩) 1 1) [u] := by
 obtain ⟨F1, F2, ⟨h1, h2⟩, a2, a3, a4, a5⟩ := h.uncons
 obtain ⟨Fp, F4, d1, _, d3, _, _⟩ := a2.uncons
 refine .inr ⟨g, 1, cs, fun j b => j = 0 ∧ Fp b, rfl, h2, a3 g h1, Nat.le_refl _, by omega, by omega, fun j b hb => ⟨a4 b (d3 b hb.2), fun q => a5 g h1 (q ▸ d3 b hb.2)⟩, fun j k b hj hk => by omega, fun j x hx => ?_⟩
 obtain ⟨hj, hx'⟩ := List.getElem?_eq_some_iff.1 hx
 have hj0 : j = 0 := by simpa using hj
 subst hj0
 have hu : u = x := by simpa using hx'
 subst hu
 have hp : piece dk.sz cs.toList 0 = cs.toList := by
  unfold piece
  rw [Nat.zero_mul, List.drop_zero, List.take_of_length_le (by rw [← hsz]; simp)]
 rw [hp]
 exact dk.iR (fun _ q => ⟨rfl, q⟩) d1
theorem St.iG {g : Nat} {cs : Array Value} {u : α} (H : St w F0 (hB g e cs :: hM dk u cs.toList :: l) W) (hsz : cs.size = dk.sz) : St w F0 (hR dk e (.slice (some ⟨g, 0, none⟩) 1 1) [u] :: l) W :=
 St.swap (l0 := [hB g e cs, hM dk u cs.toList]) (l' := [hR dk e (.slice (some ⟨g, 0, none⟩) 1 1) [u]]) H (fun _ h => Star.one (R_box h hsz))
end
end Go.Proofs.YtdfipdpeilegpaaSep
namespace Go.Proofs.YtdfipdpeilegpaaFam
open Go.RowKit Go.Proofs.YtdfipdpeilegpaaSep Go.Proofs.YtdfipdpeilegpaaT Go.Proofs.YtdfipdpeilegpaaK
set_option linter.unusedVariables false
set_option linter.unusedSimpArgs false
theorem ki_Value_Kmk (w : World) (x : GValue) : aP.K w x [.int .i64 x.Kind, .int .i64 x.N] := ⟨[_], [_], rfl, rfl, rfl⟩
theorem ki_Tag_Kmk (w : World) (x : GTag) : ki_Tag.K w x [.int .i64 x.Vat, .int .i64 x.Entity, .int .i64 x.Seq] := ⟨[_], [_, _], rfl, rfl, ⟨[_], [_], rfl, rfl, rfl⟩⟩
theorem ki_Sent_Kmk (w : World) (x : GSent) {A2 : Option Addr} {c2 : Nat} (hl2 : x.dJ.length ≤ c2) (hC2 : C aP w A2 x.dJ) : aH.K w x [.int .i64 x.Target, .string x.Name, .slice A2 x.dJ.length c2, .int .i64 x.Result, .int .i64 x.Tag.Vat, .int .i64 x.Tag.Entity, .int .i64 x.Tag.Seq] := ⟨[_], [_, _, _, _, _, _], rfl, rfl, ⟨[_], [_, _, _, _, _], rfl, rfl, ⟨[_], [_, _, _, _], rfl, ⟨A2, c2, rfl, hl2, hC2⟩, ⟨[_], [_, _, _], rfl, rfl, (ki_Tag_Kmk w _)⟩⟩⟩⟩
theorem jG (w : World) (x : GEntity) {A2 : Option Addr} {c2 : Nat} (hl2 : x.aM.length ≤ c2) (hC2 : C aP w A2 x.aM) {A6 : Option Addr} {c6 : Nat} (hl6 : x.Queue.length ≤ c6) (hC6 : C aH w A6 x.Queue) {A7 : Option Addr} {c7 : Nat} (hl7 : x.aG.length ≤ c7) (hC7 : C aQ w A7 x.aG) : aL.K w x [.int .i64 x.Kind, .int .i64 x.Script, .slice A2 x.aM.length c2, .int .i64 x.State, .int .i64 x.Value.Kind, .int .i64 x.Value.N, .slice A6 x.Queue.length c6, .slice A7 x.aG.length c7, .int .i64 x.bD, .int .i64 x.Pos, .int .i64 x.Count, .int .i64 x.bJ] := ⟨[_], [_, _, _, _, _, _, _, _, _, _, _], rfl, rfl, ⟨[_], [_, _, _, _, _, _, _, _, _, _], rfl, rfl, ⟨[_], [_, _, _, _, _, _, _, _, _], rfl, ⟨A2, c2, rfl, hl2, hC2⟩, ⟨[_], [_, _, _, _, _, _, _, _], rfl, rfl, ⟨[_, _], [_, _, _, _, _, _], rfl, (ki_Value_Kmk w _), ⟨[_], [_, _, _, _, _], rfl, ⟨A6, c6, rfl, hl6, hC6⟩, ⟨[_], [_, _, _, _], rfl, ⟨A7, c7, rfl, hl7, hC7⟩, ⟨[_], [_, _, _], rfl, rfl, ⟨[_], [_, _], rfl, rfl, ⟨[_], [_], rfl, rfl, rfl⟩⟩⟩⟩⟩⟩⟩⟩⟩⟩
theorem kM (w : World) (x : GLink) {A2 : Option Addr} {c2 : Nat} (hl2 : x.aV.length ≤ c2) (hC2 : C bE w A2 x.aV) {A4 : Option Addr} {c4 : Nat} (hl4 : x.aT.length ≤ c4) (hC4 : C aY w A4 x.aT) {A6 : Option Addr} {c6 : Nat} (hl6 : x.bA.length ≤ c6) (hC6 : C aY w A6 x.bA) : aW.K w x [.int .i64 x.bD, .bool x.Up, .slice A2 x.aV.length c2, .int .i64 x.Next, .slice A4 x.aT.length c4, .int .i64 x.bO, .slice A6 x.bA.length c6] := ⟨[_], [_, _, _, _, _, _], rfl, rfl, ⟨[_], [_, _, _, _, _], rfl, rfl, ⟨[_], [_, _, _, _], rfl, ⟨A2, c2, rfl, hl2, hC2⟩, ⟨[_], [_, _, _], rfl, rfl, ⟨[_], [_, _], rfl, ⟨A4, c4, rfl, hl4, hC4⟩, ⟨[_], [_], rfl, rfl, ⟨A6, c6, rfl, hl6, hC6⟩⟩⟩⟩⟩⟩⟩
theorem ki_Wire_Kmk (w : World) (x : GWire) : fB.K w x [.int .i64 x.Kind, .int .i64 x.N] := ⟨[_], [_], rfl, rfl, rfl⟩
theorem iI (w : World) (x : GMessage) {A5 : Option Addr} {c5 : Nat} (hl5 : x.dJ.length ≤ c5) (hC5 : C fB w A5 x.dJ) : gU.K w x [.int .i64 x.Kind, .int .i64 x.Pos, .int .i64 x.dZ, .int .i64 x.Question, .string x.Name, .slice A5 x.dJ.length c5, .int .i64 x.Value.Kind, .int .i64 x.Value.N, .int .i64 x.Count, .int .i64 x.Tag.Vat, .int .i64 x.Tag.Entity, .int .i64 x.Tag.Seq] := ⟨[_], [_, _, _, _, _, _, _, _, _, _, _], rfl, rfl, ⟨[_], [_, _, _, _, _, _, _, _, _, _], rfl, rfl, ⟨[_], [_, _, _, _, _, _, _, _, _], rfl, rfl, ⟨[_], [_, _, _, _, _, _, _, _], rfl, rfl, ⟨[_], [_, _, _, _, _, _, _], rfl, rfl, ⟨[_], [_, _, _, _, _, _], rfl, ⟨A5, c5, rfl, hl5, hC5⟩, ⟨[_, _], [_, _, _, _], rfl, (ki_Wire_Kmk w _), ⟨[_], [_, _, _], rfl, rfl, (ki_Tag_Kmk w _)⟩⟩⟩⟩⟩⟩⟩⟩
theorem gZ (w : World) (x : GVat) {A1 : Option Addr} {c1 : Nat} (hl1 : x.aC.length ≤ c1) (hC1 : C aL w A1 x.aC) {A2 : Option Addr} {c2 : Nat} (hl2 : x.Loop.length ≤ c2) (hC2 : C aH w A2 x.Loop) {A3 : Option Addr} {c3 : Nat} (hl3 : x.aJ.length ≤ c3) (hC3 : C aW w A3 x.aJ) {A4 : Option Addr} {c4 : Nat} (hl4 : x.Out.length ≤ c4) (hC4 : C aS w A4 x.Out) : bK.K w x [.int .i64 x.Id, .slice A1 x.aC.length c1, .slice A2 x.Loop.length c2, .slice A3 x.aJ.length c3, .slice A4 x.Out.length c4] := ⟨[_], [_, _, _, _], rfl, rfl, ⟨[_], [_, _, _], rfl, ⟨A1, c1, rfl, hl1, hC1⟩, ⟨[_], [_, _], rfl, ⟨A2, c2, rfl, hl2, hC2⟩, ⟨[_], [_], rfl, ⟨A3, c3, rfl, hl3, hC3⟩, ⟨A4, c4, rfl, hl4, hC4⟩⟩⟩⟩⟩
end Go.Proofs.YtdfipdpeilegpaaFam
namespace Go.Proofs.YtdfipdpeilegpaaFam
open Go.RowKit Go.Proofs.YtdfipdpeilegpaaSep Go.Proofs.YtdfipdpeilegpaaT Go.Proofs.YtdfipdpeilegpaaK
set_option linter.unusedVariables false
set_option linter.unusedSimpArgs false
set_option maxHeartbeats 1000000
set_option maxRecDepth 100000
theorem flat_Value : Flat aP := by
 unfold aP
 repeat' first | apply flat_iso | apply flat_pair | apply kL
theorem clone_Value (l : List GValue) (A : Option Addr) (c : Nat) (w : World) (h : C aP w A l) (hn : l.length ≤ 4194304) : Calls Try.prog 133 #[.slice A l.length c] w (RetRow aP 70 l w) := by
 have HC := Sd.mk (gL flat_Value h)
 have eqn := fun (w : World) a n c n' c' => Lib.run_eql_slice_nil (P := Try.prog) w 74 70 a n c n' c' Try.underlying74
 clear h
 go_enter Try.func133, Try.ntmps133
 rcases A with _ | ad
 ·have h0 : l = [] := by
   cases l with
   | nil => rfl
   | cons x l => obtain ⟨ad, q, _⟩ := HC.out.2 (by simp); cases q
  subst h0
  go_wp2
  go_ret
  exact ⟨_, rfl, gI, Upd.refl _ _⟩
 ·go_wp2_with (first | (at_builtin; refine iK (d := aP) (e := 70) (ys := l) (xs := []) (F := New w) rfl _ _ 74 _ _ rfl Try.underlying74 iN rfl kD kD (some ad) c (fun _ => No) rfl rfl (R_empty w) (CM_upd (Upd.alloc (Upd.refl _ _) _) HC.out) (fun _ _ q => q.elim) (fun _ _ _ q => q.elim) (by simp; omega) ?_) | fail)
  intro v1 w1 hR hU
  have hR' := Sd.mk hR
  have HU := Sd.mk (((Upd.refl No w).alloc (.cells #[] 70)).trans hU (fun _ _ q => q) (fun b hb q => absurd hb (by simp only [New] at q; omega)))
  clear hR hU
  go_wp2
  go_ret
  exact ⟨_, rfl, gF (fun b q => by rcases q with q | ⟨j, _, q⟩ | q <;> simp [New, No] at q ⊢ <;> omega) hR'.out, HU.out⟩
theorem flat_Asker : Flat aQ := by
 unfold aQ
 repeat' first | apply flat_iso | apply flat_pair | apply kL
theorem clone_Asker (l : List GAsker) (A : Option Addr) (c : Nat) (w : World) (h : C aQ w A l) (hn : l.length ≤ 4194304) : Calls Try.prog 134 #[.slice A l.length c] w (RetRow aQ 155 l w) := by
 have HC := Sd.mk (gL flat_Asker h)
 have eqn := fun (w : World) a n c n' c' => Lib.run_eql_slice_nil (P := Try.prog) w 75 155 a n c n' c' Try.underlying75
 clear h
 go_enter Try.func134, Try.ntmps134
 rcases A with _ | ad
 ·have h0 : l = [] := by
   cases l with
   | nil => rfl
   | cons x l => obtain ⟨ad, q, _⟩ := HC.out.2 (by simp); cases q
  subst h0
  go_wp2
  go_ret
  exact ⟨_, rfl, gI, Upd.refl _ _⟩
 ·go_wp2_with (first | (at_builtin; refine iK (d := aQ) (e := 155) (ys := l) (xs := []) (F := New w) rfl _ _ 75 _ _ rfl Try.underlying75 ki_Asker_info rfl kD kD (some ad) c (fun _ => No) rfl rfl (R_empty w) (CM_upd (Upd.alloc (Upd.refl _ _) _) HC.out) (fun _ _ q => q.elim) (fun _ _ _ q => q.elim) (by simp; omega) ?_) | fail)
  intro v1 w1 hR hU
  have hR' := Sd.mk hR
  have HU := Sd.mk (((Upd.refl No w).alloc (.cells #[] 155)).trans hU (fun _ _ q => q) (fun b hb q => absurd hb (by simp only [New] at q; omega)))
  clear hR hU
  go_wp2
  go_ret
  exact ⟨_, rfl, gF (fun b q => by rcases q with q | ⟨j, _, q⟩ | q <;> simp [New, No] at q ⊢ <;> omega) hR'.out, HU.out⟩
theorem flat_Export : Flat bE := by
 unfold bE
 repeat' first | apply flat_iso | apply flat_pair | apply kL
theorem clone_Export (l : List GExport) (A : Option Addr) (c : Nat) (w : World) (h : C bE w A l) (hn : l.length ≤ 4194304) : Calls Try.prog 158 #[.slice A l.length c] w (RetRow bE 188 l w) := by
 have HC := Sd.mk (gL flat_Export h)
 have eqn := fun (w : World) a n c n' c' => Lib.run_eql_slice_nil (P := Try.prog) w 135 188 a n c n' c' Try.underlying135
 clear h
 go_enter Try.func158, Try.ntmps158
 rcases A with _ | ad
 ·have h0 : l = [] := by
   cases l with
   | nil => rfl
   | cons x l => obtain ⟨ad, q, _⟩ := HC.out.2 (by simp); cases q
  subst h0
  go_wp2
  go_ret
  exact ⟨_, rfl, gI, Upd.refl _ _⟩
 ·go_wp2_with (first | (at_builtin; refine iK (d := bE) (e := 188) (ys := l) (xs := []) (F := New w) rfl _ _ 135 _ _ rfl Try.underlying135 j3 rfl kD kD (some ad) c (fun _ => No) rfl rfl (R_empty w) (CM_upd (Upd.alloc (Upd.refl _ _) _) HC.out) (fun _ _ q => q.elim) (fun _ _ _ q => q.elim) (by simp; omega) ?_) | fail)
  intro v1 w1 hR hU
  have hR' := Sd.mk hR
  have HU := Sd.mk (((Upd.refl No w).alloc (.cells #[] 188)).trans hU (fun _ _ q => q) (fun b hb q => absurd hb (by simp only [New] at q; omega)))
  clear hR hU
  go_wp2
  go_ret
  exact ⟨_, rfl, gF (fun b q => by rcases q with q | ⟨j, _, q⟩ | q <;> simp [New, No] at q ⊢ <;> omega) hR'.out, HU.out⟩
theorem lK : Flat aY := by
 unfold aY
 repeat' first | apply flat_iso | apply flat_pair | apply kL
theorem clone_Question (l : List GQuestion) (A : Option Addr) (c : Nat) (w : World) (h : C aY w A l) (hn : l.length ≤ 4194304) : Calls Try.prog 159 #[.slice A l.length c] w (RetRow aY 197 l w) := by
 have HC := Sd.mk (gL lK h)
 have eqn := fun (w : World) a n c n' c' => Lib.run_eql_slice_nil (P := Try.prog) w 136 197 a n c n' c' Try.underlying136
 clear h
 go_enter Try.func159, Try.ntmps159
 rcases A with _ | ad
 ·have h0 : l = [] := by
   cases l with
   | nil => rfl
   | cons x l => obtain ⟨ad, q, _⟩ := HC.out.2 (by simp); cases q
  subst h0
  go_wp2
  go_ret
  exact ⟨_, rfl, gI, Upd.refl _ _⟩
 ·go_wp2_with (first | (at_builtin; refine iK (d := aY) (e := 197) (ys := l) (xs := []) (F := New w) rfl _ _ 136 _ _ rfl Try.underlying136 iZ rfl kD kD (some ad) c (fun _ => No) rfl rfl (R_empty w) (CM_upd (Upd.alloc (Upd.refl _ _) _) HC.out) (fun _ _ q => q.elim) (fun _ _ _ q => q.elim) (by simp; omega) ?_) | fail)
  intro v1 w1 hR hU
  have hR' := Sd.mk hR
  have HU := Sd.mk (((Upd.refl No w).alloc (.cells #[] 197)).trans hU (fun _ _ q => q) (fun b hb q => absurd hb (by simp only [New] at q; omega)))
  clear hR hU
  go_wp2
  go_ret
  exact ⟨_, rfl, gF (fun b q => by rcases q with q | ⟨j, _, q⟩ | q <;> simp [New, No] at q ⊢ <;> omega) hR'.out, HU.out⟩
theorem flat_Wire : Flat fB := by
 unfold fB
 repeat' first | apply flat_iso | apply flat_pair | apply kL
theorem clone_Wire (l : List GWire) (A : Option Addr) (c : Nat) (w : World) (h : C fB w A l) (hn : l.length ≤ 4194304) : Calls Try.prog 104 #[.slice A l.length c] w (RetRow fB 27 l w) := by
 have HC := Sd.mk (gL flat_Wire h)
 have eqn := fun (w : World) a n c n' c' => Lib.run_eql_slice_nil (P := Try.prog) w 25 27 a n c n' c' Try.underlying25
 clear h
 go_enter Try.func104, Try.ntmps104
 rcases A with _ | ad
 ·have h0 : l = [] := by
   cases l with
   | nil => rfl
   | cons x l => obtain ⟨ad, q, _⟩ := HC.out.2 (by simp); cases q
  subst h0
  go_wp2
  go_ret
  exact ⟨_, rfl, gI, Upd.refl _ _⟩
 ·go_wp2_with (first | (at_builtin; refine iK (d := fB) (e := 27) (ys := l) (xs := []) (F := New w) rfl _ _ 25 _ _ rfl Try.underlying25 ki_Wire_info rfl kD kD (some ad) c (fun _ => No) rfl rfl (R_empty w) (CM_upd (Upd.alloc (Upd.refl _ _) _) HC.out) (fun _ _ q => q.elim) (fun _ _ _ q => q.elim) (by simp; omega) ?_) | fail)
  intro v1 w1 hR hU
  have hR' := Sd.mk hR
  have HU := Sd.mk (((Upd.refl No w).alloc (.cells #[] 27)).trans hU (fun _ _ q => q) (fun b hb q => absurd hb (by simp only [New] at q; omega)))
  clear hR hU
  go_wp2
  go_ret
  exact ⟨_, rfl, gF (fun b q => by rcases q with q | ⟨j, _, q⟩ | q <;> simp [New, No] at q ⊢ <;> omega) hR'.out, HU.out⟩
theorem l11Copy_s (x : GMessage) (cs : List Value) (w : World) (h : gU.K w x cs) (hs : iU x ≤ 4194304) : Calls Try.prog 51 #[.agg cs.toArray] w (iP gU x w) := by
 obtain ⟨A5, c5, rfl, hl5, hC5⟩ := j4 h
 have HC5 := Sd.mk hC5
 clear hC5
 clear h
 have s_Args : bV szn_Wire x.dJ ≤ 4194304 := by unfold iU at hs; omega
 have HCM5 := Sd.mk (gL flat_Wire HC5.out)
 have n_Args : x.dJ.length ≤ 4194304 := by unfold bV at s_Args; omega
 have S_Args := Sd.mk s_Args
 clear hs s_Args
 go_enter Try.func51, Try.ntmps51
 go_wp2_with (first | (at_builtin; refine iK (d := fB) (e := 27) (ys := x.dJ) (xs := []) (F := New _) rfl _ _ 25 _ _ rfl Try.underlying25 ki_Wire_info rfl kD kD A5 c5 (fun _ => No) rfl rfl (kE _ _ (by simp)) (CM_upd (by repeat (with_reducible first | exact Upd.refl No _ | apply Upd.put2 | apply Upd.put1 | apply Upd.put0 | apply Upd.alloc | apply Upd.drewN | apply Upd.drew)) HCM5.out) (fun _ _ q => q.elim) (fun _ _ _ q => q.elim) (by simp; omega) ?_) | fail)
 intro v5 w_Args hR5 hu
 obtain ⟨B5, b5, rfl⟩ := eZ hR5
 obtain ⟨P5, hR5', g5, l5⟩ : ∃ P : Nat → Prop, R fB 27 w_Args P (.slice B5 x.dJ.length b5) x.dJ ∧ (∀ b, P b → w.heap.size + 1 + 1 + 1 ≤ b) ∧ (∀ b, P b → b < w_Args.heap.size) := ⟨_, R_lt (gF (F' := fun b => w.heap.size + 1 + 1 + 1 ≤ b) (fun b q => (by simp [New, No] at q; omega)) hR5), fun b q => q.1, fun b q => q.2⟩
 have n0_5 : ¬ P5 (w.heap.size) := fun q => (by have := g5 _ q; omega)
 have n1_5 : ¬ P5 (w.heap.size + 1) := fun q => (by have := g5 _ q; omega)
 have n2_5 : ¬ P5 (w.heap.size + 1 + 1) := fun q => (by have := g5 _ q; omega)
 have HR5 := Sd.mk hR5'
 have GP5 := Sd.mk g5
 have LT5 := Sd.mk l5
 clear hR5 hR5' g5 l5
 have HB_Args : Sd (Upd No w w_Args) := Sd.mk (Upd.trans (F := No) (by repeat (with_reducible first | exact Upd.refl No _ | apply Upd.put2 | apply Upd.put1 | apply Upd.put0 | apply Upd.alloc | apply Upd.drewN | apply Upd.drew)) hu (fun _ _ q => q) (fun b hb q => (by simp [New] at q; omega)))
 have cc0_Args := fun o => hu.eF (b := w.heap.size) kB (by first | (simp [New]; done) | (simp [New]; omega)) o
 have cf0_Args := fun o => hu.dL (b := w.heap.size) kB (by first | (simp [New]; done) | (simp [New]; omega)) o
 have cc1_Args := fun o => hu.eF (b := w.heap.size + 1) kB (by first | (simp [New]; done) | (simp [New]; omega)) o
 have cf1_Args := fun o => hu.dL (b := w.heap.size + 1) kB (by first | (simp [New]; done) | (simp [New]; omega)) o
 have cc2_Args := fun o => hu.eF (b := w.heap.size + 1 + 1) kB (by first | (simp [New]; done) | (simp [New]; omega)) o
 have cf2_Args := fun o => hu.dL (b := w.heap.size + 1 + 1) kB (by first | (simp [New]; done) | (simp [New]; omega)) o
 have ca0_Args : ∀ p u ob o, ((w_Args.setCell p u).alloc ob).cell? ⟨w.heap.size, o, none⟩ = (w_Args.setCell p u).cell? ⟨w.heap.size, o, none⟩ := fun p u ob o => ((Upd.refl No _).alloc ob).eF (b := w.heap.size) (by have := hu.size; simp at this ⊢; omega) (fun q => q) o
 have cb0_Args : ∀ p u ob o, ((w_Args.setCell p u).alloc ob).frozen? ⟨w.heap.size, o, none⟩ = (w_Args.setCell p u).frozen? ⟨w.heap.size, o, none⟩ := fun p u ob o => ((Upd.refl No _).alloc ob).dL (b := w.heap.size) (by have := hu.size; simp at this ⊢; omega) (fun q => q) o
 have ca1_Args : ∀ p u ob o, ((w_Args.setCell p u).alloc ob).cell? ⟨w.heap.size + 1, o, none⟩ = (w_Args.setCell p u).cell? ⟨w.heap.size + 1, o, none⟩ := fun p u ob o => ((Upd.refl No _).alloc ob).eF (b := w.heap.size + 1) (by have := hu.size; simp at this ⊢; omega) (fun q => q) o
 have cb1_Args : ∀ p u ob o, ((w_Args.setCell p u).alloc ob).frozen? ⟨w.heap.size + 1, o, none⟩ = (w_Args.setCell p u).frozen? ⟨w.heap.size + 1, o, none⟩ := fun p u ob o => ((Upd.refl No _).alloc ob).dL (b := w.heap.size + 1) (by have := hu.size; simp at this ⊢; omega) (fun q => q) o
 have ca2_Args : ∀ p u ob o, ((w_Args.setCell p u).alloc ob).cell? ⟨w.heap.size + 1 + 1, o, none⟩ = (w_Args.setCell p u).cell? ⟨w.heap.size + 1 + 1, o, none⟩ := fun p u ob o => ((Upd.refl No _).alloc ob).eF (b := w.heap.size + 1 + 1) (by have := hu.size; simp at this ⊢; omega) (fun q => q) o
 have cb2_Args : ∀ p u ob o, ((w_Args.setCell p u).alloc ob).frozen? ⟨w.heap.size + 1 + 1, o, none⟩ = (w_Args.setCell p u).frozen? ⟨w.heap.size + 1 + 1, o, none⟩ := fun p u ob o => ((Upd.refl No _).alloc ob).dL (b := w.heap.size + 1 + 1) (by have := hu.size; simp at this ⊢; omega) (fun q => q) o
 have hz_Args : w.heap.size + 1 + 1 + 1 ≤ w_Args.heap.size := (by have := hu.size; (try simp at this); omega)
 clear hu
 go_wp2
 refine bodyPost_ret (v := .agg #[.int .i64 x.Kind, .int .i64 x.Pos, .int .i64 x.dZ, .int .i64 x.Question, .string x.Name, .slice B5 x.dJ.length b5, .int .i64 x.Value.Kind, .int .i64 x.Value.N, .int .i64 x.Count, .int .i64 x.Tag.Vat, .int .i64 x.Tag.Entity, .int .i64 x.Tag.Seq]) (by simp [results, Try.results51, go_sem, cc1_Args, ca1_Args, cc2_Args, ca2_Args]) rfl ⟨_, rfl, ?_, (by repeat (with_reducible first | exact HB_Args.out | apply Upd.put2 | apply Upd.put1 | apply Upd.put0 | apply Upd.alloc | apply Upd.drewN | apply Upd.drew))⟩
 exact lH _ _ x (jN HR5.out (by repeat (with_reducible first | exact Upd.refl _ _ | apply Upd.iD n0_5 | apply Upd.iD n1_5 | apply Upd.iD n2_5 | apply Upd.alloc | apply Upd.drewN | apply Upd.drew))) (fun k hk => by have := GP5.out k hk; simp only [New]; omega)
theorem l10Copy_s (x : GLink) (cs : List Value) (w : World) (h : aW.K w x cs) (hs : dH x ≤ 4194304) : Calls Try.prog 155 #[.agg cs.toArray] w (iP aW x w) := by
 obtain ⟨A2, c2, A4, c4, A6, c6, rfl, hl2, hC2, hl4, hC4, hl6, hC6⟩ := jA h
 have HC2 := Sd.mk hC2
 have HC4 := Sd.mk hC4
 have HC6 := Sd.mk hC6
 clear hC2 hC4 hC6
 clear h
 have s_Exports : bV jP x.aV ≤ 4194304 := by unfold dH at hs; omega
 have HCM2 := Sd.mk (gL flat_Export HC2.out)
 have n_Exports : x.aV.length ≤ 4194304 := by unfold bV at s_Exports; omega
 have S_Exports := Sd.mk s_Exports
 have s_Questions : bV fO x.aT ≤ 4194304 := by unfold dH at hs; omega
 have HCM4 := Sd.mk (gL lK HC4.out)
 have n_Questions : x.aT.length ≤ 4194304 := by unfold bV at s_Questions; omega
 have S_Questions := Sd.mk s_Questions
 have s_Answers : bV fO x.bA ≤ 4194304 := by unfold dH at hs; omega
 have HCM6 := Sd.mk (gL lK HC6.out)
 have n_Answers : x.bA.length ≤ 4194304 := by unfold bV at s_Answers; omega
 have S_Answers := Sd.mk s_Answers
 clear hs s_Exports s_Questions s_Answers
 go_enter Try.func155, Try.ntmps155
 go_wp2_with (first | (at_builtin; refine iK (d := bE) (e := 188) (ys := x.aV) (xs := []) (F := New _) rfl _ _ 135 _ _ rfl Try.underlying135 j3 rfl kD kD A2 c2 (fun _ => No) rfl rfl (kE _ _ (by simp)) (CM_upd (by repeat (with_reducible first | exact Upd.refl No _ | apply Upd.put2 | apply Upd.put1 | apply Upd.put0 | apply Upd.alloc | apply Upd.drewN | apply Upd.drew)) HCM2.out) (fun _ _ q => q.elim) (fun _ _ _ q => q.elim) (by simp; omega) ?_) | fail)
 intro v2 w_Exports hR2 hu
 obtain ⟨B2, b2, rfl⟩ := eZ hR2
 obtain ⟨P2, hR2', g2, l2⟩ : ∃ P : Nat → Prop, R bE 188 w_Exports P (.slice B2 x.aV.length b2) x.aV ∧ (∀ b, P b → w.heap.size + 1 + 1 + 1 ≤ b) ∧ (∀ b, P b → b < w_Exports.heap.size) := ⟨_, R_lt (gF (F' := fun b => w.heap.size + 1 + 1 + 1 ≤ b) (fun b q => (by simp [New, No] at q; omega)) hR2), fun b q => q.1, fun b q => q.2⟩
 have n0_2 : ¬ P2 (w.heap.size) := fun q => (by have := g2 _ q; omega)
 have n1_2 : ¬ P2 (w.heap.size + 1) := fun q => (by have := g2 _ q; omega)
 have n2_2 : ¬ P2 (w.heap.size + 1 + 1) := fun q => (by have := g2 _ q; omega)
 have HR2 := Sd.mk hR2'
 have GP2 := Sd.mk g2
 have LT2 := Sd.mk l2
 clear hR2 hR2' g2 l2
 have HB_Exports : Sd (Upd No w w_Exports) := Sd.mk (Upd.trans (F := No) (by repeat (with_reducible first | exact Upd.refl No _ | apply Upd.put2 | apply Upd.put1 | apply Upd.put0 | apply Upd.alloc | apply Upd.drewN | apply Upd.drew)) hu (fun _ _ q => q) (fun b hb q => (by simp [New] at q; omega)))
 have cc0_Exports := fun o => hu.eF (b := w.heap.size) kB (by first | (simp [New]; done) | (simp [New]; omega)) o
 have cf0_Exports := fun o => hu.dL (b := w.heap.size) kB (by first | (simp [New]; done) | (simp [New]; omega)) o
 have cc1_Exports := fun o => hu.eF (b := w.heap.size + 1) kB (by first | (simp [New]; done) | (simp [New]; omega)) o
 have cf1_Exports := fun o => hu.dL (b := w.heap.size + 1) kB (by first | (simp [New]; done) | (simp [New]; omega)) o
 have cc2_Exports := fun o => hu.eF (b := w.heap.size + 1 + 1) kB (by first | (simp [New]; done) | (simp [New]; omega)) o
 have cf2_Exports := fun o => hu.dL (b := w.heap.size + 1 + 1) kB (by first | (simp [New]; done) | (simp [New]; omega)) o
 have ca0_Exports : ∀ p u ob o, ((w_Exports.setCell p u).alloc ob).cell? ⟨w.heap.size, o, none⟩ = (w_Exports.setCell p u).cell? ⟨w.heap.size, o, none⟩ := fun p u ob o => ((Upd.refl No _).alloc ob).eF (b := w.heap.size) (by have := hu.size; simp at this ⊢; omega) (fun q => q) o
 have cb0_Exports : ∀ p u ob o, ((w_Exports.setCell p u).alloc ob).frozen? ⟨w.heap.size, o, none⟩ = (w_Exports.setCell p u).frozen? ⟨w.heap.size, o, none⟩ := fun p u ob o => ((Upd.refl No _).alloc ob).dL (b := w.heap.size) (by have := hu.size; simp at this ⊢; omega) (fun q => q) o
 have ca1_Exports : ∀ p u ob o, ((w_Exports.setCell p u).alloc ob).cell? ⟨w.heap.size + 1, o, none⟩ = (w_Exports.setCell p u).cell? ⟨w.heap.size + 1, o, none⟩ := fun p u ob o => ((Upd.refl No _).alloc ob).eF (b := w.heap.size + 1) (by have := hu.size; simp at this ⊢; omega) (fun q => q) o
 have cb1_Exports : ∀ p u ob o, ((w_Exports.setCell p u).alloc ob).frozen? ⟨w.heap.size + 1, o, none⟩ = (w_Exports.setCell p u).frozen? ⟨w.heap.size + 1, o, none⟩ := fun p u ob o => ((Upd.refl No _).alloc ob).dL (b := w.heap.size + 1) (by have := hu.size; simp at this ⊢; omega) (fun q => q) o
 have ca2_Exports : ∀ p u ob o, ((w_Exports.setCell p u).alloc ob).cell? ⟨w.heap.size + 1 + 1, o, none⟩ = (w_Exports.setCell p u).cell? ⟨w.heap.size + 1 + 1, o, none⟩ := fun p u ob o => ((Upd.refl No _).alloc ob).eF (b := w.heap.size + 1 + 1) (by have := hu.size; simp at this ⊢; omega) (fun q => q) o
 have cb2_Exports : ∀ p u ob o, ((w_Exports.setCell p u).alloc ob).frozen? ⟨w.heap.size + 1 + 1, o, none⟩ = (w_Exports.setCell p u).frozen? ⟨w.heap.size + 1 + 1, o, none⟩ := fun p u ob o => ((Upd.refl No _).alloc ob).dL (b := w.heap.size + 1 + 1) (by have := hu.size; simp at this ⊢; omega) (fun q => q) o
 have hz_Exports : w.heap.size + 1 + 1 + 1 ≤ w_Exports.heap.size := (by have := hu.size; (try simp at this); omega)
 clear hu
 go_wp2_with (first | (at_builtin; refine iK (d := aY) (e := 197) (ys := x.aT) (xs := []) (F := New _) rfl _ _ 136 _ _ rfl Try.underlying136 iZ rfl kD kD A4 c4 (fun _ => No) rfl rfl (kE _ _ (by simp)) (CM_upd (by repeat (with_reducible first | exact HB_Exports.out | apply Upd.put2 | apply Upd.put1 | apply Upd.put0 | apply Upd.alloc | apply Upd.drewN | apply Upd.drew)) HCM4.out) (fun _ _ q => q.elim) (fun _ _ _ q => q.elim) (by simp; omega) ?_) | fail)
 intro v4 w_Questions hR4 hu
 obtain ⟨B4, b4, rfl⟩ := eZ hR4
 obtain ⟨P4, hR4', g4, l4⟩ : ∃ P : Nat → Prop, R aY 197 w_Questions P (.slice B4 x.aT.length b4) x.aT ∧ (∀ b, P b → w_Exports.heap.size ≤ b) ∧ (∀ b, P b → b < w_Questions.heap.size) := ⟨_, R_lt (gF (F' := fun b => w_Exports.heap.size ≤ b) (fun b q => (by simp [New, No] at q; omega)) hR4), fun b q => q.1, fun b q => q.2⟩
 have n0_4 : ¬ P4 (w.heap.size) := fun q => (by have := g4 _ q; omega)
 have n1_4 : ¬ P4 (w.heap.size + 1) := fun q => (by have := g4 _ q; omega)
 have n2_4 : ¬ P4 (w.heap.size + 1 + 1) := fun q => (by have := g4 _ q; omega)
 have HR4 := Sd.mk hR4'
 have GP4 := Sd.mk g4
 have LT4 := Sd.mk l4
 clear hR4 hR4' g4 l4
 replace HR2 := Sd.mk (R_upd hu (fun b hb q => (by have := LT2.out b hb; simp [New] at q; omega)) (jN HR2.out (by repeat (with_reducible first | exact Upd.refl _ _ | apply Upd.iD n0_2 | apply Upd.iD n1_2 | apply Upd.iD n2_2 | apply Upd.alloc | apply Upd.drewN | apply Upd.drew))))
 have HB_Questions : Sd (Upd No w w_Questions) := Sd.mk (Upd.trans (F := No) (by repeat (with_reducible first | exact HB_Exports.out | apply Upd.put2 | apply Upd.put1 | apply Upd.put0 | apply Upd.alloc | apply Upd.drewN | apply Upd.drew)) hu (fun _ _ q => q) (fun b hb q => (by simp [New] at q; omega)))
 have cc0_Questions := fun o => hu.eF (b := w.heap.size) kB (by first | (simp [New]; done) | (simp [New]; omega)) o
 have cf0_Questions := fun o => hu.dL (b := w.heap.size) kB (by first | (simp [New]; done) | (simp [New]; omega)) o
 have cc1_Questions := fun o => hu.eF (b := w.heap.size + 1) kB (by first | (simp [New]; done) | (simp [New]; omega)) o
 have cf1_Questions := fun o => hu.dL (b := w.heap.size + 1) kB (by first | (simp [New]; done) | (simp [New]; omega)) o
 have cc2_Questions := fun o => hu.eF (b := w.heap.size + 1 + 1) kB (by first | (simp [New]; done) | (simp [New]; omega)) o
 have cf2_Questions := fun o => hu.dL (b := w.heap.size + 1 + 1) kB (by first | (simp [New]; done) | (simp [New]; omega)) o
 have ca0_Questions : ∀ p u ob o, ((w_Questions.setCell p u).alloc ob).cell? ⟨w.heap.size, o, none⟩ = (w_Questions.setCell p u).cell? ⟨w.heap.size, o, none⟩ := fun p u ob o => ((Upd.refl No _).alloc ob).eF (b := w.heap.size) (by have := hu.size; simp at this ⊢; omega) (fun q => q) o
 have cb0_Questions : ∀ p u ob o, ((w_Questions.setCell p u).alloc ob).frozen? ⟨w.heap.size, o, none⟩ = (w_Questions.setCell p u).frozen? ⟨w.heap.size, o, none⟩ := fun p u ob o => ((Upd.refl No _).alloc ob).dL (b := w.heap.size) (by have := hu.size; simp at this ⊢; omega) (fun q => q) o
 have ca1_Questions : ∀ p u ob o, ((w_Questions.setCell p u).alloc ob).cell? ⟨w.heap.size + 1, o, none⟩ = (w_Questions.setCell p u).cell? ⟨w.heap.size + 1, o, none⟩ := fun p u ob o => ((Upd.refl No _).alloc ob).eF (b := w.heap.size + 1) (by have := hu.size; simp at this ⊢; omega) (fun q => q) o
 have cb1_Questions : ∀ p u ob o, ((w_Questions.setCell p u).alloc ob).frozen? ⟨w.heap.size + 1, o, none⟩ = (w_Questions.setCell p u).frozen? ⟨w.heap.size + 1, o, none⟩ := fun p u ob o => ((Upd.refl No _).alloc ob).dL (b := w.heap.size + 1) (by have := hu.size; simp at this ⊢; omega) (fun q => q) o
 have ca2_Questions : ∀ p u ob o, ((w_Questions.setCell p u).alloc ob).cell? ⟨w.heap.size + 1 + 1, o, none⟩ = (w_Questions.setCell p u).cell? ⟨w.heap.size + 1 + 1, o, none⟩ := fun p u ob o => ((Upd.refl No _).alloc ob).eF (b := w.heap.size + 1 + 1) (by have := hu.size; simp at this ⊢; omega) (fun q => q) o
 have cb2_Questions : ∀ p u ob o, ((w_Questions.setCell p u).alloc ob).frozen? ⟨w.heap.size + 1 + 1, o, none⟩ = (w_Questions.setCell p u).frozen? ⟨w.heap.size + 1 + 1, o, none⟩ := fun p u ob o => ((Upd.refl No _).alloc ob).dL (b := w.heap.size + 1 + 1) (by have := hu.size; simp at this ⊢; omega) (fun q => q) o
 have hz_Questions : w.heap.size + 1 + 1 + 1 ≤ w_Questions.heap.size := (by have := hu.size; (try simp at this); omega)
 have hm_Questions : w_Exports.heap.size ≤ w_Questions.heap.size := (by have := hu.size; (try simp at this); omega)
 clear hu
 go_wp2_with (first | (at_builtin; refine iK (d := aY) (e := 197) (ys := x.bA) (xs := []) (F := New _) rfl _ _ 136 _ _ rfl Try.underlying136 iZ rfl kD kD A6 c6 (fun _ => No) rfl rfl (kE _ _ (by simp)) (CM_upd (by repeat (with_reducible first | exact HB_Questions.out | apply Upd.put2 | apply Upd.put1 | apply Upd.put0 | apply Upd.alloc | apply Upd.drewN | apply Upd.drew)) HCM6.out) (fun _ _ q => q.elim) (fun _ _ _ q => q.elim) (by simp; omega) ?_) | fail)
 intro v6 w_Answers hR6 hu
 obtain ⟨B6, b6, rfl⟩ := eZ hR6
 obtain ⟨P6, hR6', g6, l6⟩ : ∃ P : Nat → Prop, R aY 197 w_Answers P (.slice B6 x.bA.length b6) x.bA ∧ (∀ b, P b → w_Questions.heap.size ≤ b) ∧ (∀ b, P b → b < w_Answers.heap.size) := ⟨_, R_lt (gF (F' := fun b => w_Questions.heap.size ≤ b) (fun b q => (by simp [New, No] at q; omega)) hR6), fun b q => q.1, fun b q => q.2⟩
 have n0_6 : ¬ P6 (w.heap.size) := fun q => (by have := g6 _ q; omega)
 have n1_6 : ¬ P6 (w.heap.size + 1) := fun q => (by have := g6 _ q; omega)
 have n2_6 : ¬ P6 (w.heap.size + 1 + 1) := fun q => (by have := g6 _ q; omega)
 have HR6 := Sd.mk hR6'
 have GP6 := Sd.mk g6
 have LT6 := Sd.mk l6
 clear hR6 hR6' g6 l6
 replace HR2 := Sd.mk (R_upd hu (fun b hb q => (by have := LT2.out b hb; simp [New] at q; omega)) (jN HR2.out (by repeat (with_reducible first | exact Upd.refl _ _ | apply Upd.iD n0_2 | apply Upd.iD n1_2 | apply Upd.iD n2_2 | apply Upd.alloc | apply Upd.drewN | apply Upd.drew))))
 replace HR4 := Sd.mk (R_upd hu (fun b hb q => (by have := LT4.out b hb; simp [New] at q; omega)) (jN HR4.out (by repeat (with_reducible first | exact Upd.refl _ _ | apply Upd.iD n0_4 | apply Upd.iD n1_4 | apply Upd.iD n2_4 | apply Upd.alloc | apply Upd.drewN | apply Upd.drew))))
 have HB_Answers : Sd (Upd No w w_Answers) := Sd.mk (Upd.trans (F := No) (by repeat (with_reducible first | exact HB_Questions.out | apply Upd.put2 | apply Upd.put1 | apply Upd.put0 | apply Upd.alloc | apply Upd.drewN | apply Upd.drew)) hu (fun _ _ q => q) (fun b hb q => (by simp [New] at q; omega)))
 have cc0_Answers := fun o => hu.eF (b := w.heap.size) kB (by first | (simp [New]; done) | (simp [New]; omega)) o
 have cf0_Answers := fun o => hu.dL (b := w.heap.size) kB (by first | (simp [New]; done) | (simp [New]; omega)) o
 have cc1_Answers := fun o => hu.eF (b := w.heap.size + 1) kB (by first | (simp [New]; done) | (simp [New]; omega)) o
 have cf1_Answers := fun o => hu.dL (b := w.heap.size + 1) kB (by first | (simp [New]; done) | (simp [New]; omega)) o
 have cc2_Answers := fun o => hu.eF (b := w.heap.size + 1 + 1) kB (by first | (simp [New]; done) | (simp [New]; omega)) o
 have cf2_Answers := fun o => hu.dL (b := w.heap.size + 1 + 1) kB (by first | (simp [New]; done) | (simp [New]; omega)) o
 have ca0_Answers : ∀ p u ob o, ((w_Answers.setCell p u).alloc ob).cell? ⟨w.heap.size, o, none⟩ = (w_Answers.setCell p u).cell? ⟨w.heap.size, o, none⟩ := fun p u ob o => ((Upd.refl No _).alloc ob).eF (b := w.heap.size) (by have := hu.size; simp at this ⊢; omega) (fun q => q) o
 have cb0_Answers : ∀ p u ob o, ((w_Answers.setCell p u).alloc ob).frozen? ⟨w.heap.size, o, none⟩ = (w_Answers.setCell p u).frozen? ⟨w.heap.size, o, none⟩ := fun p u ob o => ((Upd.refl No _).alloc ob).dL (b := w.heap.size) (by have := hu.size; simp at this ⊢; omega) (fun q => q) o
 have ca1_Answers : ∀ p u ob o, ((w_Answers.setCell p u).alloc ob).cell? ⟨w.heap.size + 1, o, none⟩ = (w_Answers.setCell p u).cell? ⟨w.heap.size + 1, o, none⟩ := fun p u ob o => ((Upd.refl No _).alloc ob).eF (b := w.heap.size + 1) (by have := hu.size; simp at this ⊢; omega) (fun q => q) o
 have cb1_Answers : ∀ p u ob o, ((w_Answers.setCell p u).alloc ob).frozen? ⟨w.heap.size + 1, o, none⟩ = (w_Answers.setCell p u).frozen? ⟨w.heap.size + 1, o, none⟩ := fun p u ob o => ((Upd.refl No _).alloc ob).dL (b := w.heap.size + 1) (by have := hu.size; simp at this ⊢; omega) (fun q => q) o
 have ca2_Answers : ∀ p u ob o, ((w_Answers.setCell p u).alloc ob).cell? ⟨w.heap.size + 1 + 1, o, none⟩ = (w_Answers.setCell p u).cell? ⟨w.heap.size + 1 + 1, o, none⟩ := fun p u ob o => ((Upd.refl No _).alloc ob).eF (b := w.heap.size + 1 + 1) (by have := hu.size; simp at this ⊢; omega) (fun q => q) o
 have cb2_Answers : ∀ p u ob o, ((w_Answers.setCell p u).alloc ob).frozen? ⟨w.heap.size + 1 + 1, o, none⟩ = (w_Answers.setCell p u).frozen? ⟨w.heap.size + 1 + 1, o, none⟩ := fun p u ob o => ((Upd.refl No _).alloc ob).dL (b := w.heap.size + 1 + 1) (by have := hu.size; simp at this ⊢; omega) (fun q => q) o
 have hz_Answers : w.heap.size + 1 + 1 + 1 ≤ w_Answers.heap.size := (by have := hu.size; (try simp at this); omega)
 have hm_Answers : w_Questions.heap.size ≤ w_Answers.heap.size := (by have := hu.size; (try simp at this); omega)
 clear hu
 go_wp2
 refine bodyPost_ret (v := .agg #[.int .i64 x.bD, .bool x.Up, .slice B2 x.aV.length b2, .int .i64 x.Next, .slice B4 x.aT.length b4, .int .i64 x.bO, .slice B6 x.bA.length b6]) (by simp [results, Try.results155, go_sem, cc1_Exports, ca1_Exports, cc2_Exports, ca2_Exports, cc1_Questions, ca1_Questions, cc2_Questions, ca2_Questions, cc1_Answers, ca1_Answers, cc2_Answers, ca2_Answers]) rfl ⟨_, rfl, ?_, (by repeat (with_reducible first | exact HB_Answers.out | apply Upd.put2 | apply Upd.put1 | apply Upd.put0 | apply Upd.alloc | apply Upd.drewN | apply Upd.drew))⟩
 exact ki_Link_mk _ _ x (jN HR2.out (by repeat (with_reducible first | exact Upd.refl _ _ | apply Upd.iD n0_2 | apply Upd.iD n1_2 | apply Upd.iD n2_2 | apply Upd.alloc | apply Upd.drewN | apply Upd.drew))) (jN HR4.out (by repeat (with_reducible first | exact Upd.refl _ _ | apply Upd.iD n0_4 | apply Upd.iD n1_4 | apply Upd.iD n2_4 | apply Upd.alloc | apply Upd.drewN | apply Upd.drew))) (jN HR6.out (by repeat (with_reducible first | exact Upd.refl _ _ | apply Upd.iD n0_6 | apply Upd.iD n1_6 | apply Upd.iD n2_6 | apply Upd.alloc | apply Upd.drewN | apply Upd.drew))) (fun k hk => by have := GP2.out k hk; simp only [New]; omega) (fun k hk => by have := GP4.out k hk; simp only [New]; omega) (fun k hk => by have := GP6.out k hk; simp only [New]; omega) (fun k hk hk' => by have h1 := LT2.out k hk; have h2 := GP4.out k hk'; omega) (fun k hk hk' => by have h1 := LT2.out k hk; have h2 := GP6.out k hk'; have := hm_Questions; omega) (fun k hk hk' => by have h1 := LT4.out k hk; have h2 := GP6.out k hk'; omega)
theorem copied_Message (x : GMessage) (cs : List Value) (w : World) (h : gU.K w x cs) (hs : iU x ≤ 4194304) : Calls Try.prog 48 #[.agg cs.toArray] w (iP gU x w) := by
 obtain ⟨A5, c5, rfl, hl5, hC5⟩ := j4 h
 have HC5 := Sd.mk hC5
 clear hC5
 clear h
 have s_Args : bV szn_Wire x.dJ ≤ 4194304 := by unfold iU at hs; omega
 have n_Args : x.dJ.length ≤ 4194304 := by unfold bV at s_Args; omega
 have S_Args := Sd.mk s_Args
 clear hs s_Args
 go_enter Try.func48, Try.ntmps48
 go_wp2_with fail
 with_reducible refine (clone_Wire x.dJ _ _ _ ?hc_Args n_Args).mono ?_
 case hc_Args => exact cZ (by repeat (with_reducible first | exact Upd.refl No _ | apply Upd.put2 | apply Upd.put1 | apply Upd.put0 | apply Upd.alloc | apply Upd.drewN | apply Upd.drew)) HC5.out
 rintro e w_Args ⟨v5, rfl, hR5, hu⟩
 obtain ⟨B5, b5, rfl⟩ := eZ hR5
 obtain ⟨P5, hR5', g5, l5⟩ : ∃ P : Nat → Prop, R fB 27 w_Args P (.slice B5 x.dJ.length b5) x.dJ ∧ (∀ b, P b → w.heap.size + 1 + 1 ≤ b) ∧ (∀ b, P b → b < w_Args.heap.size) := ⟨_, R_lt (gF (F' := fun b => w.heap.size + 1 + 1 ≤ b) (fun b q => (by simp [New, No] at q; omega)) hR5), fun b q => q.1, fun b q => q.2⟩
 have n0_5 : ¬ P5 (w.heap.size) := fun q => (by have := g5 _ q; omega)
 have n1_5 : ¬ P5 (w.heap.size + 1) := fun q => (by have := g5 _ q; omega)
 have HR5 := Sd.mk hR5'
 have GP5 := Sd.mk g5
 have LT5 := Sd.mk l5
 clear hR5 hR5' g5 l5
 have HB_Args : Sd (Upd No w w_Args) := Sd.mk (Upd.then (by repeat (with_reducible first | exact Upd.refl No _ | apply Upd.put2 | apply Upd.put1 | apply Upd.put0 | apply Upd.alloc | apply Upd.drewN | apply Upd.drew)) hu)
 have cc0_Args := fun o => hu.eF (b := w.heap.size) kB (fun q => q) o
 have cf0_Args := fun o => hu.dL (b := w.heap.size) kB (fun q => q) o
 have cc1_Args := fun o => hu.eF (b := w.heap.size + 1) kB (fun q => q) o
 have cf1_Args := fun o => hu.dL (b := w.heap.size + 1) kB (fun q => q) o
 have ca0_Args : ∀ p u ob o, ((w_Args.setCell p u).alloc ob).cell? ⟨w.heap.size, o, none⟩ = (w_Args.setCell p u).cell? ⟨w.heap.size, o, none⟩ := fun p u ob o => ((Upd.refl No _).alloc ob).eF (b := w.heap.size) (by have := hu.size; simp at this ⊢; omega) (fun q => q) o
 have cb0_Args : ∀ p u ob o, ((w_Args.setCell p u).alloc ob).frozen? ⟨w.heap.size, o, none⟩ = (w_Args.setCell p u).frozen? ⟨w.heap.size, o, none⟩ := fun p u ob o => ((Upd.refl No _).alloc ob).dL (b := w.heap.size) (by have := hu.size; simp at this ⊢; omega) (fun q => q) o
 have ca1_Args : ∀ p u ob o, ((w_Args.setCell p u).alloc ob).cell? ⟨w.heap.size + 1, o, none⟩ = (w_Args.setCell p u).cell? ⟨w.heap.size + 1, o, none⟩ := fun p u ob o => ((Upd.refl No _).alloc ob).eF (b := w.heap.size + 1) (by have := hu.size; simp at this ⊢; omega) (fun q => q) o
 have cb1_Args : ∀ p u ob o, ((w_Args.setCell p u).alloc ob).frozen? ⟨w.heap.size + 1, o, none⟩ = (w_Args.setCell p u).frozen? ⟨w.heap.size + 1, o, none⟩ := fun p u ob o => ((Upd.refl No _).alloc ob).dL (b := w.heap.size + 1) (by have := hu.size; simp at this ⊢; omega) (fun q => q) o
 have hz_Args : w.heap.size + 1 + 1 ≤ w_Args.heap.size := (by have := hu.size; (try simp at this); omega)
 clear hu
 go_wp2
 refine bodyPost_ret (v := .agg #[.int .i64 x.Kind, .int .i64 x.Pos, .int .i64 x.dZ, .int .i64 x.Question, .string x.Name, .slice B5 x.dJ.length b5, .int .i64 x.Value.Kind, .int .i64 x.Value.N, .int .i64 x.Count, .int .i64 x.Tag.Vat, .int .i64 x.Tag.Entity, .int .i64 x.Tag.Seq]) (by simp [results, Try.results48, go_sem, cc1_Args, ca1_Args]) rfl ⟨_, rfl, ?_, (by repeat (with_reducible first | exact HB_Args.out | apply Upd.put2 | apply Upd.put1 | apply Upd.put0 | apply Upd.alloc | apply Upd.drewN | apply Upd.drew))⟩
 exact lH _ _ x (jN HR5.out (by repeat (with_reducible first | exact Upd.refl _ _ | apply Upd.iD n0_5 | apply Upd.iD n1_5 | apply Upd.alloc | apply Upd.drewN | apply Upd.drew))) (fun k hk => by have := GP5.out k hk; simp only [New]; omega)
theorem copied_Sent (x : GSent) (cs : List Value) (w : World) (h : aH.K w x cs) (hs : bT x ≤ 4194304) : Calls Try.prog 157 #[.agg cs.toArray] w (iP aH x w) := by
 obtain ⟨A2, c2, rfl, hl2, hC2⟩ := ki_Sent_K h
 have HC2 := Sd.mk hC2
 clear hC2
 clear h
 have s_Args : bV kG x.dJ ≤ 4194304 := by unfold bT at hs; omega
 have n_Args : x.dJ.length ≤ 4194304 := by unfold bV at s_Args; omega
 have S_Args := Sd.mk s_Args
 clear hs s_Args
 go_enter Try.func157, Try.ntmps157
 go_wp2_with fail
 with_reducible refine (clone_Value x.dJ _ _ _ ?hc_Args n_Args).mono ?_
 case hc_Args => exact cZ (by repeat (with_reducible first | exact Upd.refl No _ | apply Upd.put2 | apply Upd.put1 | apply Upd.put0 | apply Upd.alloc | apply Upd.drewN | apply Upd.drew)) HC2.out
 rintro e w_Args ⟨v2, rfl, hR2, hu⟩
 obtain ⟨B2, b2, rfl⟩ := eZ hR2
 obtain ⟨P2, hR2', g2, l2⟩ : ∃ P : Nat → Prop, R aP 70 w_Args P (.slice B2 x.dJ.length b2) x.dJ ∧ (∀ b, P b → w.heap.size + 1 + 1 ≤ b) ∧ (∀ b, P b → b < w_Args.heap.size) := ⟨_, R_lt (gF (F' := fun b => w.heap.size + 1 + 1 ≤ b) (fun b q => (by simp [New, No] at q; omega)) hR2), fun b q => q.1, fun b q => q.2⟩
 have n0_2 : ¬ P2 (w.heap.size) := fun q => (by have := g2 _ q; omega)
 have n1_2 : ¬ P2 (w.heap.size + 1) := fun q => (by have := g2 _ q; omega)
 have HR2 := Sd.mk hR2'
 have GP2 := Sd.mk g2
 have LT2 := Sd.mk l2
 clear hR2 hR2' g2 l2
 have HB_Args : Sd (Upd No w w_Args) := Sd.mk (Upd.then (by repeat (with_reducible first | exact Upd.refl No _ | apply Upd.put2 | apply Upd.put1 | apply Upd.put0 | apply Upd.alloc | apply Upd.drewN | apply Upd.drew)) hu)
 have cc0_Args := fun o => hu.eF (b := w.heap.size) kB (fun q => q) o
 have cf0_Args := fun o => hu.dL (b := w.heap.size) kB (fun q => q) o
 have cc1_Args := fun o => hu.eF (b := w.heap.size + 1) kB (fun q => q) o
 have cf1_Args := fun o => hu.dL (b := w.heap.size + 1) kB (fun q => q) o
 have ca0_Args : ∀ p u ob o, ((w_Args.setCell p u).alloc ob).cell? ⟨w.heap.size, o, none⟩ = (w_Args.setCell p u).cell? ⟨w.heap.size, o, none⟩ := fun p u ob o => ((Upd.refl No _).alloc ob).eF (b := w.heap.size) (by have := hu.size; simp at this ⊢; omega) (fun q => q) o
 have cb0_Args : ∀ p u ob o, ((w_Args.setCell p u).alloc ob).frozen? ⟨w.heap.size, o, none⟩ = (w_Args.setCell p u).frozen? ⟨w.heap.size, o, none⟩ := fun p u ob o => ((Upd.refl No _).alloc ob).dL (b := w.heap.size) (by have := hu.size; simp at this ⊢; omega) (fun q => q) o
 have ca1_Args : ∀ p u ob o, ((w_Args.setCell p u).alloc ob).cell? ⟨w.heap.size + 1, o, none⟩ = (w_Args.setCell p u).cell? ⟨w.heap.size + 1, o, none⟩ := fun p u ob o => ((Upd.refl No _).alloc ob).eF (b := w.heap.size + 1) (by have := hu.size; simp at this ⊢; omega) (fun q => q) o
 have cb1_Args : ∀ p u ob o, ((w_Args.setCell p u).alloc ob).frozen? ⟨w.heap.size + 1, o, none⟩ = (w_Args.setCell p u).frozen? ⟨w.heap.size + 1, o, none⟩ := fun p u ob o => ((Upd.refl No _).alloc ob).dL (b := w.heap.size + 1) (by have := hu.size; simp at this ⊢; omega) (fun q => q) o
 have hz_Args : w.heap.size + 1 + 1 ≤ w_Args.heap.size := (by have := hu.size; (try simp at this); omega)
 clear hu
 go_wp2
 refine bodyPost_ret (v := .agg #[.int .i64 x.Target, .string x.Name, .slice B2 x.dJ.length b2, .int .i64 x.Result, .int .i64 x.Tag.Vat, .int .i64 x.Tag.Entity, .int .i64 x.Tag.Seq]) (by simp [results, Try.results157, go_sem, cc1_Args, ca1_Args]) rfl ⟨_, rfl, ?_, (by repeat (with_reducible first | exact HB_Args.out | apply Upd.put2 | apply Upd.put1 | apply Upd.put0 | apply Upd.alloc | apply Upd.drewN | apply Upd.drew))⟩
 exact ki_Sent_mk _ _ x (jN HR2.out (by repeat (with_reducible first | exact Upd.refl _ _ | apply Upd.iD n0_2 | apply Upd.iD n1_2 | apply Upd.alloc | apply Upd.drewN | apply Upd.drew))) (fun k hk => by have := GP2.out k hk; simp only [New]; omega)
theorem copied_Link (x : GLink) (cs : List Value) (w : World) (h : aW.K w x cs) (hs : dH x ≤ 4194304) : Calls Try.prog 132 #[.agg cs.toArray] w (iP aW x w) := by
 obtain ⟨A2, c2, A4, c4, A6, c6, rfl, hl2, hC2, hl4, hC4, hl6, hC6⟩ := jA h
 have HC2 := Sd.mk hC2
 have HC4 := Sd.mk hC4
 have HC6 := Sd.mk hC6
 clear hC2 hC4 hC6
 clear h
 have s_Exports : bV jP x.aV ≤ 4194304 := by unfold dH at hs; omega
 have n_Exports : x.aV.length ≤ 4194304 := by unfold bV at s_Exports; omega
 have S_Exports := Sd.mk s_Exports
 have s_Questions : bV fO x.aT ≤ 4194304 := by unfold dH at hs; omega
 have n_Questions : x.aT.length ≤ 4194304 := by unfold bV at s_Questions; omega
 have S_Questions := Sd.mk s_Questions
 have s_Answers : bV fO x.bA ≤ 4194304 := by unfold dH at hs; omega
 have n_Answers : x.bA.length ≤ 4194304 := by unfold bV at s_Answers; omega
 have S_Answers := Sd.mk s_Answers
 clear hs s_Exports s_Questions s_Answers
 go_enter Try.func132, Try.ntmps132
 try go_wp2_with fail
 have hb0 : Sd (Blk ((w.alloc (.cells #[.int .i64 x.bD, .bool x.Up, .slice A2 x.aV.length c2, .int .i64 x.Next, .slice A4 x.aT.length c4, .int .i64 x.bO, .slice A6 x.bA.length c6] 138)).alloc (.cells #[.int .i64 0, .bool false, .slice none 0 0, .int .i64 0, .slice none 0 0, .int .i64 0, .slice none 0 0] 138)) w.heap.size 138 #[.int .i64 x.bD, .bool x.Up, .slice A2 x.aV.length c2, .int .i64 x.Next, .slice A4 x.aT.length c4, .int .i64 x.bO, .slice A6 x.bA.length c6]) := ⟨(Blk.new _ _ _).alloc _⟩
 have hb1 : Sd (Blk ((w.alloc (.cells #[.int .i64 x.bD, .bool x.Up, .slice A2 x.aV.length c2, .int .i64 x.Next, .slice A4 x.aT.length c4, .int .i64 x.bO, .slice A6 x.bA.length c6] 138)).alloc (.cells #[.int .i64 0, .bool false, .slice none 0 0, .int .i64 0, .slice none 0 0, .int .i64 0, .slice none 0 0] 138)) (w.heap.size + 1) 138 #[.int .i64 0, .bool false, .slice none 0 0, .int .i64 0, .slice none 0 0, .int .i64 0, .slice none 0 0]) := ⟨Blk.newAt (by simp)⟩
 have HBB : Sd (Upd No w ((w.alloc (.cells #[.int .i64 x.bD, .bool x.Up, .slice A2 x.aV.length c2, .int .i64 x.Next, .slice A4 x.aT.length c4, .int .i64 x.bO, .slice A6 x.bA.length c6] 138)).alloc (.cells #[.int .i64 0, .bool false, .slice none 0 0, .int .i64 0, .slice none 0 0, .int .i64 0, .slice none 0 0] 138))) := ⟨((Upd.refl _ _).alloc _).alloc _⟩
 generalize ((w.alloc (.cells #[.int .i64 x.bD, .bool x.Up, .slice A2 x.aV.length c2, .int .i64 x.Next, .slice A4 x.aT.length c4, .int .i64 x.bO, .slice A6 x.bA.length c6] 138)).alloc (.cells #[.int .i64 0, .bool false, .slice none 0 0, .int .i64 0, .slice none 0 0, .int .i64 0, .slice none 0 0] 138)) = wb at *
 have hzb : w.heap.size + 1 + 1 ≤ wb.heap.size := by have := hb1.out.lt; omega
 have q0_2 := hb0.out.at 2 (v := .slice A2 x.aV.length c2) rfl
 have q0_4 := hb0.out.at 4 (v := .slice A4 x.aT.length c4) rfl
 have q0_6 := hb0.out.at 6 (v := .slice A6 x.bA.length c6) rfl
 have ff0 := hb0.out.free
 go_region_law (first | (go_simp; go_at_call 158; (with_reducible refine (clone_Export x.aV _ _ _ (cZ (by repeat (with_reducible first | exact HBB.out | apply Upd.put2 | apply Upd.put1 | apply Upd.put0 | apply Upd.alloc | apply Upd.drewN | apply Upd.drew)) HC2.out) n_Exports).mono ?_); rintro e w_Exports ⟨v2, rfl, hR2, hu⟩; have HY_Exports : Sd (Upd No wb w_Exports) := Sd.mk (Upd.then (by repeat (with_reducible first | exact Upd.refl _ _ | apply Upd.alloc | apply Upd.drewN | apply Upd.drew)) hu); have hz_Exports := HY_Exports.out.size; have hb0_Exports := Sd.mk (hb0.out.no HY_Exports.out); have hb1_Exports := Sd.mk (hb1.out.no HY_Exports.out); obtain ⟨B2, b2, rfl⟩ := eZ hR2; have HR2 : Sd (R bE 188 w_Exports (Iv wb.heap.size w_Exports.heap.size) (.slice B2 x.aV.length b2) x.aV) := Sd.mk (R_lt (gF (F' := New wb) (fun b q => Nat.le_trans (Upd.size ((by repeat (with_reducible first | exact Upd.refl _ _ | apply Upd.alloc | apply Upd.drewN | apply Upd.drew)) : Upd No wb _)) q) hR2)); have HB_Exports : Sd (Upd No w w_Exports) := Sd.mk (Upd.then HBB.out HY_Exports.out); clear hu hR2; have c2_Exports := hb0_Exports.out.at 2 (v := .slice A2 x.aV.length c2) rfl; have c4_Exports := hb0_Exports.out.at 4 (v := .slice A4 x.aT.length c4) rfl; have c6_Exports := hb0_Exports.out.at 6 (v := .slice A6 x.bA.length c6) rfl; have ff_Exports := hb0_Exports.out.free) | (go_simp; go_at_call 159; (with_reducible refine (clone_Question x.aT _ _ _ (cZ (by repeat (with_reducible first | exact HB_Exports.out | apply Upd.put2 | apply Upd.put1 | apply Upd.put0 | apply Upd.alloc | apply Upd.drewN | apply Upd.drew)) HC4.out) n_Questions).mono ?_); rintro e w_Questions ⟨v4, rfl, hR4, hu⟩; have HY_Questions : Sd (Upd No w_Exports w_Questions) := Sd.mk (Upd.then (by repeat (with_reducible first | exact Upd.refl _ _ | apply Upd.alloc | apply Upd.drewN | apply Upd.drew)) hu); have hz_Questions := HY_Questions.out.size; have hb0_Questions := Sd.mk (hb0_Exports.out.no HY_Questions.out); have hb1_Questions := Sd.mk (hb1_Exports.out.no HY_Questions.out); obtain ⟨B4, b4, rfl⟩ := eZ hR4; have HR4 : Sd (R aY 197 w_Questions (Iv w_Exports.heap.size w_Questions.heap.size) (.slice B4 x.aT.length b4) x.aT) := Sd.mk (R_lt (gF (F' := New w_Exports) (fun b q => Nat.le_trans (Upd.size ((by repeat (with_reducible first | exact Upd.refl _ _ | apply Upd.alloc | apply Upd.drewN | apply Upd.drew)) : Upd No w_Exports _)) q) hR4)); replace HR2 := Sd.mk (R_no HY_Questions.out HR2.out); have HB_Questions : Sd (Upd No w w_Questions) := Sd.mk (Upd.then HB_Exports.out HY_Questions.out); clear hu hR4; have c2_Questions := hb0_Questions.out.at 2 (v := .slice A2 x.aV.length c2) rfl; have c4_Questions := hb0_Questions.out.at 4 (v := .slice A4 x.aT.length c4) rfl; have c6_Questions := hb0_Questions.out.at 6 (v := .slice A6 x.bA.length c6) rfl; have ff_Questions := hb0_Questions.out.free) | (go_simp; go_at_call 159; (with_reducible refine (clone_Question x.bA _ _ _ (cZ (by repeat (with_reducible first | exact HB_Questions.out | apply Upd.put2 | apply Upd.put1 | apply Upd.put0 | apply Upd.alloc | apply Upd.drewN | apply Upd.drew)) HC6.out) n_Answers).mono ?_); rintro e w_Answers ⟨v6, rfl, hR6, hu⟩; have HY_Answers : Sd (Upd No w_Questions w_Answers) := Sd.mk (Upd.then (by repeat (with_reducible first | exact Upd.refl _ _ | apply Upd.alloc | apply Upd.drewN | apply Upd.drew)) hu); have hz_Answers := HY_Answers.out.size; have hb0_Answers := Sd.mk (hb0_Questions.out.no HY_Answers.out); have hb1_Answers := Sd.mk (hb1_Questions.out.no HY_Answers.out); obtain ⟨B6, b6, rfl⟩ := eZ hR6; have HR6 : Sd (R aY 197 w_Answers (Iv w_Questions.heap.size w_Answers.heap.size) (.slice B6 x.bA.length b6) x.bA) := Sd.mk (R_lt (gF (F' := New w_Questions) (fun b q => Nat.le_trans (Upd.size ((by repeat (with_reducible first | exact Upd.refl _ _ | apply Upd.alloc | apply Upd.drewN | apply Upd.drew)) : Upd No w_Questions _)) q) hR6)); replace HR2 := Sd.mk (R_no HY_Answers.out HR2.out); replace HR4 := Sd.mk (R_no HY_Answers.out HR4.out); have HB_Answers : Sd (Upd No w w_Answers) := Sd.mk (Upd.then HB_Questions.out HY_Answers.out); clear hu hR6; have c2_Answers := hb0_Answers.out.at 2 (v := .slice A2 x.aV.length c2) rfl; have c4_Answers := hb0_Answers.out.at 4 (v := .slice A4 x.aT.length c4) rfl; have c6_Answers := hb0_Answers.out.at 6 (v := .slice A6 x.bA.length c6) rfl; have ff_Answers := hb0_Answers.out.free))
 all_goals
  clear q0_2 q0_4 q0_6
  have q0_0 := hb0_Answers.out.at 0 (v := .int .i64 x.bD) rfl
  have q0_1 := hb0_Answers.out.at 1 (v := .bool x.Up) rfl
  have q0_2 := hb0_Answers.out.at 2 (v := .slice A2 x.aV.length c2) rfl
  have q0_3 := hb0_Answers.out.at 3 (v := .int .i64 x.Next) rfl
  have q0_4 := hb0_Answers.out.at 4 (v := .slice A4 x.aT.length c4) rfl
  have q0_5 := hb0_Answers.out.at 5 (v := .int .i64 x.bO) rfl
  have q0_6 := hb0_Answers.out.at 6 (v := .slice A6 x.bA.length c6) rfl
  have q1_0 := hb1_Answers.out.at 0 (v := .int .i64 0) rfl
  have q1_1 := hb1_Answers.out.at 1 (v := .bool false) rfl
  have q1_2 := hb1_Answers.out.at 2 (v := .slice none 0 0) rfl
  have q1_3 := hb1_Answers.out.at 3 (v := .int .i64 0) rfl
  have q1_4 := hb1_Answers.out.at 4 (v := .slice none 0 0) rfl
  have q1_5 := hb1_Answers.out.at 5 (v := .int .i64 0) rfl
  have q1_6 := hb1_Answers.out.at 6 (v := .slice none 0 0) rfl
  have f0 := hb0_Answers.out.free
  have f1 := hb1_Answers.out.free
  go_wp2
  refine bodyPost_ret (v := .agg #[.int .i64 x.bD, .bool x.Up, .slice B2 x.aV.length b2, .int .i64 x.Next, .slice B4 x.aT.length b4, .int .i64 x.bO, .slice B6 x.bA.length b6]) (by simp [results, Try.results132, go_sem, q1_0, q1_1, q1_2, q1_3, q1_4, q1_5, q1_6]) rfl ⟨_, rfl, ?_, ?_⟩
  ·exact ki_Link_mk _ _ x (R_upd ((by repeat (first | (with_reducible exact Upd.refl _ _) | (with_reducible refine Upd.alloc ?_ _) | (refine Upd.set ?_ _ _ (.inr (by first | exact .inl rfl | exact .inr rfl))))) : Upd (fun b => b = w.heap.size ∨ b = w.heap.size + 1) w_Answers _) (fun b q z => by simp only [Iv] at q; have := hz_Exports; have := hz_Questions; have := hz_Answers; omega) HR2.out) (R_upd ((by repeat (first | (with_reducible exact Upd.refl _ _) | (with_reducible refine Upd.alloc ?_ _) | (refine Upd.set ?_ _ _ (.inr (by first | exact .inl rfl | exact .inr rfl))))) : Upd (fun b => b = w.heap.size ∨ b = w.heap.size + 1) w_Answers _) (fun b q z => by simp only [Iv] at q; have := hz_Exports; have := hz_Questions; have := hz_Answers; omega) HR4.out) (R_upd ((by repeat (first | (with_reducible exact Upd.refl _ _) | (with_reducible refine Upd.alloc ?_ _) | (refine Upd.set ?_ _ _ (.inr (by first | exact .inl rfl | exact .inr rfl))))) : Upd (fun b => b = w.heap.size ∨ b = w.heap.size + 1) w_Answers _) (fun b q z => by simp only [Iv] at q; have := hz_Exports; have := hz_Questions; have := hz_Answers; omega) HR6.out) (fun k hk => by simp only [Iv] at hk; simp only [New]; have := hz_Exports; have := hz_Questions; have := hz_Answers; omega) (fun k hk => by simp only [Iv] at hk; simp only [New]; have := hz_Exports; have := hz_Questions; have := hz_Answers; omega) (fun k hk => by simp only [Iv] at hk; simp only [New]; have := hz_Exports; have := hz_Questions; have := hz_Answers; omega) (fun k hk hk' => by simp only [Iv] at hk hk'; have := hz_Exports; have := hz_Questions; have := hz_Answers; omega) (fun k hk hk' => by simp only [Iv] at hk hk'; have := hz_Exports; have := hz_Questions; have := hz_Answers; omega) (fun k hk hk' => by simp only [Iv] at hk hk'; have := hz_Exports; have := hz_Questions; have := hz_Answers; omega)
  ·exact Upd.trans HB_Answers.out ((by repeat (first | (with_reducible exact Upd.refl _ _) | (with_reducible refine Upd.alloc ?_ _) | (refine Upd.set ?_ _ _ (.inr (by first | exact .inl rfl | exact .inr rfl))))) : Upd (fun b => b = w.heap.size ∨ b = w.heap.size + 1) w_Answers _) (fun _ _ q => q) (fun b hb q => by rcases q with q | q <;> omega)
theorem lM (l : List GSent) (A : Option Addr) (c : Nat) (w : World) (h : C aH w A l) (hs : bV bT l ≤ 4194304) : Calls Try.prog 156 #[.slice A l.length c] w (RetRow aH 181 l w) := by
 have hn : l.length ≤ 4194304 := by unfold bV at hs; omega
 have H := Sd.mk h
 have HS := Sd.mk hs
 clear h hs
 go_enter Try.func156, Try.ntmps156
 go_wp2
 have hR0 : Sd (R aH 181 (w.alloc (.cells #[] 181)) (New w) (.slice (some ⟨w.heap.size, 0, none⟩) 0 0) []) := ⟨R_empty w⟩
 have hU0 : Sd (Upd No w (w.alloc (.cells #[] 181))) := ⟨(Upd.refl _ _).alloc _⟩
 go_loopg [3, 4] l.length (fun r u v wr => ∃ i : Nat, i + r = l.length ∧ v = .int .i64 i ∧ Sd (R aH 181 wr (New w) u (l.take i)) ∧ Sd (Upd No w wr))
 case atStart => exact ⟨0, by omega, rfl, hR0, hU0⟩
 case round =>
  clear hR0 hU0
  obtain ⟨i, hi, rfl, HR, HU⟩ := hrel
  by_cases hlt : i < l.length
  ·obtain ⟨ad, A2, c2, rfl, a0, a1, a2, a3, a4, a5, a6, hl2, hC2⟩ := ki_Sent_at (cZ HU.out H.out) i hlt
   have HCM := Sd.mk (gL flat_Value hC2)
   clear hC2
   have hsi : bT l[i] ≤ 4194304 := by have := kQ bT l i hlt; have := HS.out; unfold bV at *; omega
   have hna : l[i].dJ.length ≤ 4194304 := by unfold bT bV at hsi; omega
   have p2 := fun ob ob' => (((Upd.refl No wr).alloc ob).alloc ob').read a2
   have HRL := Sd.mk (R_lt HR.out)
   go_wp2_with (first | (at_builtin; refine iK (d := aP) (e := 70) (ys := l[i].dJ) (xs := []) (F := New _) rfl _ _ 74 _ _ rfl Try.underlying74 iN rfl kD kD A2 c2 (fun _ => No) rfl rfl (kE _ _ (by simp)) (CM_upd (by repeat (with_reducible first | exact Upd.refl _ _ | apply Upd.alloc | apply Upd.drewN | apply Upd.drew)) HCM.out) (fun _ _ q => q.elim) (fun _ _ _ q => q.elim) (by simp; omega) ?_) | fail)
   intro vA w1 hRA hu
   obtain ⟨B2, b2, rfl⟩ := eZ hRA
   have hz1 : wr.heap.size + 1 + 1 ≤ w1.heap.size := by have := hu.size; (try simp at this); omega
   have HRA : Sd (R aP 70 w1 (fun b => wr.heap.size + 1 ≤ b) (.slice B2 l[i].dJ.length b2) l[i].dJ) := ⟨gF (fun b q => by simp [New, No] at q; omega) hRA⟩
   have cc := fun o => hu.eF (b := wr.heap.size) (by first | (simp; done) | (simp; omega)) (by first | (simp [New]; done) | (simp [New]; omega)) o
   have cf := fun o => hu.dL (b := wr.heap.size) (by first | (simp; done) | (simp; omega)) (by first | (simp [New]; done) | (simp [New]; omega)) o
   have HU1 : Sd (Upd No wr w1) := Sd.mk (Upd.trans (F := No) (by repeat (with_reducible first | exact Upd.refl _ _ | apply Upd.alloc)) hu (fun _ _ q => q) (fun b hb q => by simp [New] at q; omega))
   have HR1 := Sd.mk (R_no HU1.out HRL.out)
   clear hu hRA a0 a1 a2 a3 a4 a5 a6 p2 HR HRL
   go_wp2_with (first | (at_builtin; refine R_appOne (d := aH) (e := 181) rfl _ _ 65 _ _ rfl Try.underlying65 ki_Sent_info rfl kD kD l[i] _ (fun b => wr.heap.size + 1 ≤ b) _ (by first | rfl | simp) rfl rfl (R_upd (F := fun b => New w b ∧ b < wr.heap.size) (G := fun b => b = wr.heap.size) (by repeat (first | (with_reducible exact Upd.refl _ _) | (refine Upd.set ?_ _ _ (.inr rfl)))) (fun b q z => by omega) HR1.out) (ki_Sent_mk _ _ l[i] (R_upd (G := fun b => b = wr.heap.size) (by repeat (first | (with_reducible exact Upd.refl _ _) | (refine Upd.set ?_ _ _ (.inr rfl)))) (fun b q z => by omega) HRA.out) (fun _ q => q)) (fun b hb q => by have := q.2; omega) (by rw [List.length_take, Nat.min_eq_left kO]; omega) ?_) | fail)
   intro v1 w2 hR hu
   have hz := HU.out.size
   have hR' := Sd.mk (gF (F' := New w) (fun b q => by rcases q with q | q | q; exact q.1; (simp only [New]; omega); ((try simp at q); simp only [New]; omega)) hR)
   have HU2 : Sd (Upd No w w2) := Sd.mk (Upd.trans (F := fun b => b = wr.heap.size) (Upd.trans (F := No) (HU.out.then HU1.out) (by repeat (first | (with_reducible exact Upd.refl _ _) | (refine Upd.set ?_ _ _ (.inr rfl)))) (fun _ _ q => q.elim) (fun _ _ q => q)) hu (fun b hb q => absurd hb kO) (fun b hb q => absurd hb (by have := q.1; simp only [New] at this; omega)))
   clear hR hu
   go_wp2
   go_roundg (gk - 1)
   case measure => omega
   case rel => exact ⟨i + 1, by omega, by go_num, hR', HU2⟩
  ·go_wp2
   go_ret
   have hRR := HR.out
   rw [List.take_of_length_le kO] at hRR
   exact ⟨_, rfl, hRR, HU.out⟩
theorem l9Copy_s (x : GEntity) (cs : List Value) (w : World) (h : aL.K w x cs) (hs : bU x ≤ 4194304) : Calls Try.prog 126 #[.agg cs.toArray] w (iP aL x w) := by
 obtain ⟨A2, c2, A6, c6, A7, c7, rfl, hl2, hC2, hl6, hC6, hl7, hC7⟩ := jT h
 have HC2 := Sd.mk hC2
 have HC6 := Sd.mk hC6
 have HC7 := Sd.mk hC7
 clear hC2 hC6 hC7
 clear h
 have s_Slots : bV kG x.aM ≤ 4194304 := by unfold bU at hs; omega
 have HCM2 := Sd.mk (gL flat_Value HC2.out)
 have n_Slots : x.aM.length ≤ 4194304 := by unfold bV at s_Slots; omega
 have S_Slots := Sd.mk s_Slots
 have s_Queue : bV bT x.Queue ≤ 4194304 := by unfold bU at hs; omega
 have n_Queue : x.Queue.length ≤ 4194304 := by unfold bV at s_Queue; omega
 have S_Queue := Sd.mk s_Queue
 have s_Askers : bV szn_Asker x.aG ≤ 4194304 := by unfold bU at hs; omega
 have HCM7 := Sd.mk (gL flat_Asker HC7.out)
 have n_Askers : x.aG.length ≤ 4194304 := by unfold bV at s_Askers; omega
 have S_Askers := Sd.mk s_Askers
 clear hs s_Slots s_Queue s_Askers
 go_enter Try.func126, Try.ntmps126
 go_wp2_with (first | (at_builtin; refine iK (d := aP) (e := 70) (ys := x.aM) (xs := []) (F := New _) rfl _ _ 74 _ _ rfl Try.underlying74 iN rfl kD kD A2 c2 (fun _ => No) rfl rfl (kE _ _ (by simp)) (CM_upd (by repeat (with_reducible first | exact Upd.refl No _ | apply Upd.put2 | apply Upd.put1 | apply Upd.put0 | apply Upd.alloc | apply Upd.drewN | apply Upd.drew)) HCM2.out) (fun _ _ q => q.elim) (fun _ _ _ q => q.elim) (by simp; omega) ?_) | fail)
 intro v2 w_Slots hR2 hu
 obtain ⟨B2, b2, rfl⟩ := eZ hR2
 obtain ⟨P2, hR2', g2, l2⟩ : ∃ P : Nat → Prop, R aP 70 w_Slots P (.slice B2 x.aM.length b2) x.aM ∧ (∀ b, P b → w.heap.size + 1 + 1 + 1 ≤ b) ∧ (∀ b, P b → b < w_Slots.heap.size) := ⟨_, R_lt (gF (F' := fun b => w.heap.size + 1 + 1 + 1 ≤ b) (fun b q => (by simp [New, No] at q; omega)) hR2), fun b q => q.1, fun b q => q.2⟩
 have n0_2 : ¬ P2 (w.heap.size) := fun q => (by have := g2 _ q; omega)
 have n1_2 : ¬ P2 (w.heap.size + 1) := fun q => (by have := g2 _ q; omega)
 have n2_2 : ¬ P2 (w.heap.size + 1 + 1) := fun q => (by have := g2 _ q; omega)
 have HR2 := Sd.mk hR2'
 have GP2 := Sd.mk g2
 have LT2 := Sd.mk l2
 clear hR2 hR2' g2 l2
 have HB_Slots : Sd (Upd No w w_Slots) := Sd.mk (Upd.trans (F := No) (by repeat (with_reducible first | exact Upd.refl No _ | apply Upd.put2 | apply Upd.put1 | apply Upd.put0 | apply Upd.alloc | apply Upd.drewN | apply Upd.drew)) hu (fun _ _ q => q) (fun b hb q => (by simp [New] at q; omega)))
 have cc0_Slots := fun o => hu.eF (b := w.heap.size) kB (by first | (simp [New]; done) | (simp [New]; omega)) o
 have cf0_Slots := fun o => hu.dL (b := w.heap.size) kB (by first | (simp [New]; done) | (simp [New]; omega)) o
 have cc1_Slots := fun o => hu.eF (b := w.heap.size + 1) kB (by first | (simp [New]; done) | (simp [New]; omega)) o
 have cf1_Slots := fun o => hu.dL (b := w.heap.size + 1) kB (by first | (simp [New]; done) | (simp [New]; omega)) o
 have cc2_Slots := fun o => hu.eF (b := w.heap.size + 1 + 1) kB (by first | (simp [New]; done) | (simp [New]; omega)) o
 have cf2_Slots := fun o => hu.dL (b := w.heap.size + 1 + 1) kB (by first | (simp [New]; done) | (simp [New]; omega)) o
 have ca0_Slots : ∀ p u ob o, ((w_Slots.setCell p u).alloc ob).cell? ⟨w.heap.size, o, none⟩ = (w_Slots.setCell p u).cell? ⟨w.heap.size, o, none⟩ := fun p u ob o => ((Upd.refl No _).alloc ob).eF (b := w.heap.size) (by have := hu.size; simp at this ⊢; omega) (fun q => q) o
 have cb0_Slots : ∀ p u ob o, ((w_Slots.setCell p u).alloc ob).frozen? ⟨w.heap.size, o, none⟩ = (w_Slots.setCell p u).frozen? ⟨w.heap.size, o, none⟩ := fun p u ob o => ((Upd.refl No _).alloc ob).dL (b := w.heap.size) (by have := hu.size; simp at this ⊢; omega) (fun q => q) o
 have ca1_Slots : ∀ p u ob o, ((w_Slots.setCell p u).alloc ob).cell? ⟨w.heap.size + 1, o, none⟩ = (w_Slots.setCell p u).cell? ⟨w.heap.size + 1, o, none⟩ := fun p u ob o => ((Upd.refl No _).alloc ob).eF (b := w.heap.size + 1) (by have := hu.size; simp at this ⊢; omega) (fun q => q) o
 have cb1_Slots : ∀ p u ob o, ((w_Slots.setCell p u).alloc ob).frozen? ⟨w.heap.size + 1, o, none⟩ = (w_Slots.setCell p u).frozen? ⟨w.heap.size + 1, o, none⟩ := fun p u ob o => ((Upd.refl No _).alloc ob).dL (b := w.heap.size + 1) (by have := hu.size; simp at this ⊢; omega) (fun q => q) o
 have ca2_Slots : ∀ p u ob o, ((w_Slots.setCell p u).alloc ob).cell? ⟨w.heap.size + 1 + 1, o, none⟩ = (w_Slots.setCell p u).cell? ⟨w.heap.size + 1 + 1, o, none⟩ := fun p u ob o => ((Upd.refl No _).alloc ob).eF (b := w.heap.size + 1 + 1) (by have := hu.size; simp at this ⊢; omega) (fun q => q) o
 have cb2_Slots : ∀ p u ob o, ((w_Slots.setCell p u).alloc ob).frozen? ⟨w.heap.size + 1 + 1, o, none⟩ = (w_Slots.setCell p u).frozen? ⟨w.heap.size + 1 + 1, o, none⟩ := fun p u ob o => ((Upd.refl No _).alloc ob).dL (b := w.heap.size + 1 + 1) (by have := hu.size; simp at this ⊢; omega) (fun q => q) o
 have hz_Slots : w.heap.size + 1 + 1 + 1 ≤ w_Slots.heap.size := (by have := hu.size; (try simp at this); omega)
 clear hu
 go_wp2_with fail
 with_reducible refine (lM x.Queue _ _ _ ?hc_Queue S_Queue.out).mono ?_
 case hc_Queue => exact cZ (by repeat (with_reducible first | exact HB_Slots.out | apply Upd.put2 | apply Upd.put1 | apply Upd.put0 | apply Upd.alloc | apply Upd.drewN | apply Upd.drew)) HC6.out
 rintro e w_Queue ⟨v6, rfl, hR6, hu⟩
 obtain ⟨B6, b6, rfl⟩ := eZ hR6
 obtain ⟨P6, hR6', g6, l6⟩ : ∃ P : Nat → Prop, R aH 181 w_Queue P (.slice B6 x.Queue.length b6) x.Queue ∧ (∀ b, P b → w_Slots.heap.size ≤ b) ∧ (∀ b, P b → b < w_Queue.heap.size) := ⟨_, R_lt (gF (F' := fun b => w_Slots.heap.size ≤ b) (fun b q => (by simp [New, No] at q; omega)) hR6), fun b q => q.1, fun b q => q.2⟩
 have n0_6 : ¬ P6 (w.heap.size) := fun q => (by have := g6 _ q; omega)
 have n1_6 : ¬ P6 (w.heap.size + 1) := fun q => (by have := g6 _ q; omega)
 have n2_6 : ¬ P6 (w.heap.size + 1 + 1) := fun q => (by have := g6 _ q; omega)
 have HR6 := Sd.mk hR6'
 have GP6 := Sd.mk g6
 have LT6 := Sd.mk l6
 clear hR6 hR6' g6 l6
 replace HR2 := Sd.mk (R_upd hu (fun b hb q => q) (jN HR2.out (by repeat (with_reducible first | exact Upd.refl _ _ | apply Upd.iD n0_2 | apply Upd.iD n1_2 | apply Upd.iD n2_2 | apply Upd.alloc | apply Upd.drewN | apply Upd.drew))))
 have HB_Queue : Sd (Upd No w w_Queue) := Sd.mk (Upd.then (by repeat (with_reducible first | exact HB_Slots.out | apply Upd.put2 | apply Upd.put1 | apply Upd.put0 | apply Upd.alloc | apply Upd.drewN | apply Upd.drew)) hu)
 have cc0_Queue := fun o => hu.eF (b := w.heap.size) kB (fun q => q) o
 have cf0_Queue := fun o => hu.dL (b := w.heap.size) kB (fun q => q) o
 have cc1_Queue := fun o => hu.eF (b := w.heap.size + 1) kB (fun q => q) o
 have cf1_Queue := fun o => hu.dL (b := w.heap.size + 1) kB (fun q => q) o
 have cc2_Queue := fun o => hu.eF (b := w.heap.size + 1 + 1) kB (fun q => q) o
 have cf2_Queue := fun o => hu.dL (b := w.heap.size + 1 + 1) kB (fun q => q) o
 have ca0_Queue : ∀ p u ob o, ((w_Queue.setCell p u).alloc ob).cell? ⟨w.heap.size, o, none⟩ = (w_Queue.setCell p u).cell? ⟨w.heap.size, o, none⟩ := fun p u ob o => ((Upd.refl No _).alloc ob).eF (b := w.heap.size) (by have := hu.size; simp at this ⊢; omega) (fun q => q) o
 have cb0_Queue : ∀ p u ob o, ((w_Queue.setCell p u).alloc ob).frozen? ⟨w.heap.size, o, none⟩ = (w_Queue.setCell p u).frozen? ⟨w.heap.size, o, none⟩ := fun p u ob o => ((Upd.refl No _).alloc ob).dL (b := w.heap.size) (by have := hu.size; simp at this ⊢; omega) (fun q => q) o
 have ca1_Queue : ∀ p u ob o, ((w_Queue.setCell p u).alloc ob).cell? ⟨w.heap.size + 1, o, none⟩ = (w_Queue.setCell p u).cell? ⟨w.heap.size + 1, o, none⟩ := fun p u ob o => ((Upd.refl No _).alloc ob).eF (b := w.heap.size + 1) (by have := hu.size; simp at this ⊢; omega) (fun q => q) o
 have cb1_Queue : ∀ p u ob o, ((w_Queue.setCell p u).alloc ob).frozen? ⟨w.heap.size + 1, o, none⟩ = (w_Queue.setCell p u).frozen? ⟨w.heap.size + 1, o, none⟩ := fun p u ob o => ((Upd.refl No _).alloc ob).dL (b := w.heap.size + 1) (by have := hu.size; simp at this ⊢; omega) (fun q => q) o
 have ca2_Queue : ∀ p u ob o, ((w_Queue.setCell p u).alloc ob).cell? ⟨w.heap.size + 1 + 1, o, none⟩ = (w_Queue.setCell p u).cell? ⟨w.heap.size + 1 + 1, o, none⟩ := fun p u ob o => ((Upd.refl No _).alloc ob).eF (b := w.heap.size + 1 + 1) (by have := hu.size; simp at this ⊢; omega) (fun q => q) o
 have cb2_Queue : ∀ p u ob o, ((w_Queue.setCell p u).alloc ob).frozen? ⟨w.heap.size + 1 + 1, o, none⟩ = (w_Queue.setCell p u).frozen? ⟨w.heap.size + 1 + 1, o, none⟩ := fun p u ob o => ((Upd.refl No _).alloc ob).dL (b := w.heap.size + 1 + 1) (by have := hu.size; simp at this ⊢; omega) (fun q => q) o
 have hz_Queue : w.heap.size + 1 + 1 + 1 ≤ w_Queue.heap.size := (by have := hu.size; (try simp at this); omega)
 have hm_Queue : w_Slots.heap.size ≤ w_Queue.heap.size := (by have := hu.size; (try simp at this); omega)
 clear hu
 go_wp2_with (first | (at_builtin; refine iK (d := aQ) (e := 155) (ys := x.aG) (xs := []) (F := New _) rfl _ _ 75 _ _ rfl Try.underlying75 ki_Asker_info rfl kD kD A7 c7 (fun _ => No) rfl rfl (kE _ _ (by simp)) (CM_upd (by repeat (with_reducible first | exact HB_Queue.out | apply Upd.put2 | apply Upd.put1 | apply Upd.put0 | apply Upd.alloc | apply Upd.drewN | apply Upd.drew)) HCM7.out) (fun _ _ q => q.elim) (fun _ _ _ q => q.elim) (by simp; omega) ?_) | fail)
 intro v7 w_Askers hR7 hu
 obtain ⟨B7, b7, rfl⟩ := eZ hR7
 obtain ⟨P7, hR7', g7, l7⟩ : ∃ P : Nat → Prop, R aQ 155 w_Askers P (.slice B7 x.aG.length b7) x.aG ∧ (∀ b, P b → w_Queue.heap.size ≤ b) ∧ (∀ b, P b → b < w_Askers.heap.size) := ⟨_, R_lt (gF (F' := fun b => w_Queue.heap.size ≤ b) (fun b q => (by simp [New, No] at q; omega)) hR7), fun b q => q.1, fun b q => q.2⟩
 have n0_7 : ¬ P7 (w.heap.size) := fun q => (by have := g7 _ q; omega)
 have n1_7 : ¬ P7 (w.heap.size + 1) := fun q => (by have := g7 _ q; omega)
 have n2_7 : ¬ P7 (w.heap.size + 1 + 1) := fun q => (by have := g7 _ q; omega)
 have HR7 := Sd.mk hR7'
 have GP7 := Sd.mk g7
 have LT7 := Sd.mk l7
 clear hR7 hR7' g7 l7
 replace HR2 := Sd.mk (R_upd hu (fun b hb q => (by have := LT2.out b hb; simp [New] at q; omega)) (jN HR2.out (by repeat (with_reducible first | exact Upd.refl _ _ | apply Upd.iD n0_2 | apply Upd.iD n1_2 | apply Upd.iD n2_2 | apply Upd.alloc | apply Upd.drewN | apply Upd.drew))))
 replace HR6 := Sd.mk (R_upd hu (fun b hb q => (by have := LT6.out b hb; simp [New] at q; omega)) (jN HR6.out (by repeat (with_reducible first | exact Upd.refl _ _ | apply Upd.iD n0_6 | apply Upd.iD n1_6 | apply Upd.iD n2_6 | apply Upd.alloc | apply Upd.drewN | apply Upd.drew))))
 have HB_Askers : Sd (Upd No w w_Askers) := Sd.mk (Upd.trans (F := No) (by repeat (with_reducible first | exact HB_Queue.out | apply Upd.put2 | apply Upd.put1 | apply Upd.put0 | apply Upd.alloc | apply Upd.drewN | apply Upd.drew)) hu (fun _ _ q => q) (fun b hb q => (by simp [New] at q; omega)))
 have cc0_Askers := fun o => hu.eF (b := w.heap.size) kB (by first | (simp [New]; done) | (simp [New]; omega)) o
 have cf0_Askers := fun o => hu.dL (b := w.heap.size) kB (by first | (simp [New]; done) | (simp [New]; omega)) o
 have cc1_Askers := fun o => hu.eF (b := w.heap.size + 1) kB (by first | (simp [New]; done) | (simp [New]; omega)) o
 have cf1_Askers := fun o => hu.dL (b := w.heap.size + 1) kB (by first | (simp [New]; done) | (simp [New]; omega)) o
 have cc2_Askers := fun o => hu.eF (b := w.heap.size + 1 + 1) kB (by first | (simp [New]; done) | (simp [New]; omega)) o
 have cf2_Askers := fun o => hu.dL (b := w.heap.size + 1 + 1) kB (by first | (simp [New]; done) | (simp [New]; omega)) o
 have ca0_Askers : ∀ p u ob o, ((w_Askers.setCell p u).alloc ob).cell? ⟨w.heap.size, o, none⟩ = (w_Askers.setCell p u).cell? ⟨w.heap.size, o, none⟩ := fun p u ob o => ((Upd.refl No _).alloc ob).eF (b := w.heap.size) (by have := hu.size; simp at this ⊢; omega) (fun q => q) o
 have cb0_Askers : ∀ p u ob o, ((w_Askers.setCell p u).alloc ob).frozen? ⟨w.heap.size, o, none⟩ = (w_Askers.setCell p u).frozen? ⟨w.heap.size, o, none⟩ := fun p u ob o => ((Upd.refl No _).alloc ob).dL (b := w.heap.size) (by have := hu.size; simp at this ⊢; omega) (fun q => q) o
 have ca1_Askers : ∀ p u ob o, ((w_Askers.setCell p u).alloc ob).cell? ⟨w.heap.size + 1, o, none⟩ = (w_Askers.setCell p u).cell? ⟨w.heap.size + 1, o, none⟩ := fun p u ob o => ((Upd.refl No _).alloc ob).eF (b := w.heap.size + 1) (by have := hu.size; simp at this ⊢; omega) (fun q => q) o
 have cb1_Askers : ∀ p u ob o, ((w_Askers.setCell p u).alloc ob).frozen? ⟨w.heap.size + 1, o, none⟩ = (w_Askers.setCell p u).frozen? ⟨w.heap.size + 1, o, none⟩ := fun p u ob o => ((Upd.refl No _).alloc ob).dL (b := w.heap.size + 1) (by have := hu.size; simp at this ⊢; omega) (fun q => q) o
 have ca2_Askers : ∀ p u ob o, ((w_Askers.setCell p u).alloc ob).cell? ⟨w.heap.size + 1 + 1, o, none⟩ = (w_Askers.setCell p u).cell? ⟨w.heap.size + 1 + 1, o, none⟩ := fun p u ob o => ((Upd.refl No _).alloc ob).eF (b := w.heap.size + 1 + 1) (by have := hu.size; simp at this ⊢; omega) (fun q => q) o
 have cb2_Askers : ∀ p u ob o, ((w_Askers.setCell p u).alloc ob).frozen? ⟨w.heap.size + 1 + 1, o, none⟩ = (w_Askers.setCell p u).frozen? ⟨w.heap.size + 1 + 1, o, none⟩ := fun p u ob o => ((Upd.refl No _).alloc ob).dL (b := w.heap.size + 1 + 1) (by have := hu.size; simp at this ⊢; omega) (fun q => q) o
 have hz_Askers : w.heap.size + 1 + 1 + 1 ≤ w_Askers.heap.size := (by have := hu.size; (try simp at this); omega)
 have hm_Askers : w_Queue.heap.size ≤ w_Askers.heap.size := (by have := hu.size; (try simp at this); omega)
 clear hu
 go_wp2
 refine bodyPost_ret (v := .agg #[.int .i64 x.Kind, .int .i64 x.Script, .slice B2 x.aM.length b2, .int .i64 x.State, .int .i64 x.Value.Kind, .int .i64 x.Value.N, .slice B6 x.Queue.length b6, .slice B7 x.aG.length b7, .int .i64 x.bD, .int .i64 x.Pos, .int .i64 x.Count, .int .i64 x.bJ]) (by simp [results, Try.results126, go_sem, cc1_Slots, ca1_Slots, cc2_Slots, ca2_Slots, cc1_Queue, ca1_Queue, cc2_Queue, ca2_Queue, cc1_Askers, ca1_Askers, cc2_Askers, ca2_Askers]) rfl ⟨_, rfl, ?_, (by repeat (with_reducible first | exact HB_Askers.out | apply Upd.put2 | apply Upd.put1 | apply Upd.put0 | apply Upd.alloc | apply Upd.drewN | apply Upd.drew))⟩
 exact ki_Entity_mk _ _ x (jN HR2.out (by repeat (with_reducible first | exact Upd.refl _ _ | apply Upd.iD n0_2 | apply Upd.iD n1_2 | apply Upd.iD n2_2 | apply Upd.alloc | apply Upd.drewN | apply Upd.drew))) (jN HR6.out (by repeat (with_reducible first | exact Upd.refl _ _ | apply Upd.iD n0_6 | apply Upd.iD n1_6 | apply Upd.iD n2_6 | apply Upd.alloc | apply Upd.drewN | apply Upd.drew))) (jN HR7.out (by repeat (with_reducible first | exact Upd.refl _ _ | apply Upd.iD n0_7 | apply Upd.iD n1_7 | apply Upd.iD n2_7 | apply Upd.alloc | apply Upd.drewN | apply Upd.drew))) (fun k hk => by have := GP2.out k hk; simp only [New]; omega) (fun k hk => by have := GP6.out k hk; simp only [New]; omega) (fun k hk => by have := GP7.out k hk; simp only [New]; omega) (fun k hk hk' => by have h1 := LT2.out k hk; have h2 := GP6.out k hk'; omega) (fun k hk hk' => by have h1 := LT2.out k hk; have h2 := GP7.out k hk'; have := hm_Queue; omega) (fun k hk hk' => by have h1 := LT6.out k hk; have h2 := GP7.out k hk'; omega)
theorem lN (l : List GSent) (A : Option Addr) (c : Nat) (w : World) (h : C aH w A l) (hs : bV bT l ≤ 4194304) : Calls Try.prog 131 #[.slice A l.length c] w (RetRow aH 181 l w) := by
 have hn : l.length ≤ 4194304 := by unfold bV at hs; omega
 have H := Sd.mk h
 have HS := Sd.mk hs
 clear h hs
 go_enter Try.func131, Try.ntmps131
 go_wp2
 have hR0 : Sd (R aH 181 (w.alloc (.cells #[] 181)) (New w) (.slice (some ⟨w.heap.size, 0, none⟩) 0 0) []) := ⟨R_empty w⟩
 have hU0 : Sd (Upd No w (w.alloc (.cells #[] 181))) := ⟨(Upd.refl _ _).alloc _⟩
 go_loopg [3, 9] l.length (fun r u v wr => ∃ i : Nat, i + r = l.length ∧ v = .int .i64 i ∧ Sd (R aH 181 wr (New w) u (l.take i)) ∧ Sd (Upd No w wr))
 case atStart => exact ⟨0, by omega, rfl, hR0, hU0⟩
 case round =>
  clear hR0 hU0
  obtain ⟨i, hi, rfl, HR, HU⟩ := hrel
  by_cases hlt : i < l.length
  ·obtain ⟨ad, A2, c2, rfl, a0, a1, a2, a3, a4, a5, a6, hl2, hC2⟩ := ki_Sent_at (cZ HU.out H.out) i hlt
   have HC2 := Sd.mk hC2
   clear hC2
   have hsi : bT l[i] ≤ 4194304 := by have := kQ bT l i hlt; have := HS.out; unfold bV at *; omega
   go_wp2_with fail
   with_reducible refine (copied_Sent l[i] _ _ (ki_Sent_Kmk _ _ hl2 ?hc2) hsi).mono ?_
   case hc2 => exact cZ (by repeat (with_reducible first | exact Upd.refl _ _ | apply Upd.alloc | apply Upd.drewN | apply Upd.drew)) HC2.out
   rintro e w1 ⟨cs, rfl, hM, hu⟩
   obtain ⟨v2, P2, rfl, r2, -⟩ := ki_Sent_M hM
   obtain ⟨B2, b2, rfl⟩ := eZ r2
   clear r2
   have hu' : Upd No wr w1 := Upd.then (by repeat (with_reducible first | exact Upd.refl _ _ | apply Upd.alloc | apply Upd.drewN | apply Upd.drew)) hu
   have hz := HU.out.size
   have hz1 := hu'.size
   have HRA := Sd.mk (R_upd hu' (fun _ _ q => q) (R_lt HR.out))
   have HM := Sd.mk (aH.iR (F' := fun b => wr.heap.size ≤ b) (fun b hb => by simp [New] at hb; omega) hM)
   have HU1 := Sd.mk (HU.out.then hu')
   clear HR hM hu hu' HU a0 a1 a2 a3 a4 a5 a6
   go_wp2_with (first | (at_builtin; refine R_appOne (d := aH) (e := 181) rfl _ _ 65 _ _ rfl Try.underlying65 ki_Sent_info rfl kD kD l[i] _ _ _ rfl rfl rfl HRA.out HM.out (fun b hb q => absurd q.2 kO) (by rw [List.length_take, Nat.min_eq_left kO]; omega) ?_) | fail)
   intro v1 w2 hR hu
   have hR' := Sd.mk (gF (F' := New w) (fun b q => by simp only [New] at q ⊢; omega) hR)
   have HU2 : Sd (Upd No w w2) := Sd.mk (HU1.out.trans hu (fun _ _ q => q) (fun b hb q => absurd hb (by have := q.1; simp only [New] at this; omega)))
   clear hR hu
   go_wp2
   go_roundg (gk - 1)
   case measure => omega
   case rel => exact ⟨i + 1, by omega, by go_num, hR', HU2⟩
  ·go_wp2
   go_ret
   have hRR := HR.out
   rw [List.take_of_length_le kO] at hRR
   exact ⟨_, rfl, hRR, HU.out⟩
theorem copied_Entity (x : GEntity) (cs : List Value) (w : World) (h : aL.K w x cs) (hs : bU x ≤ 4194304) : Calls Try.prog 88 #[.agg cs.toArray] w (iP aL x w) := by
 obtain ⟨A2, c2, A6, c6, A7, c7, rfl, hl2, hC2, hl6, hC6, hl7, hC7⟩ := jT h
 have HC2 := Sd.mk hC2
 have HC6 := Sd.mk hC6
 have HC7 := Sd.mk hC7
 clear hC2 hC6 hC7
 clear h
 have s_Slots : bV kG x.aM ≤ 4194304 := by unfold bU at hs; omega
 have n_Slots : x.aM.length ≤ 4194304 := by unfold bV at s_Slots; omega
 have S_Slots := Sd.mk s_Slots
 have s_Queue : bV bT x.Queue ≤ 4194304 := by unfold bU at hs; omega
 have n_Queue : x.Queue.length ≤ 4194304 := by unfold bV at s_Queue; omega
 have S_Queue := Sd.mk s_Queue
 have s_Askers : bV szn_Asker x.aG ≤ 4194304 := by unfold bU at hs; omega
 have n_Askers : x.aG.length ≤ 4194304 := by unfold bV at s_Askers; omega
 have S_Askers := Sd.mk s_Askers
 clear hs s_Slots s_Queue s_Askers
 go_enter Try.func88, Try.ntmps88
 try go_wp2_with fail
 have hb0 : Sd (Blk ((w.alloc (.cells #[.int .i64 x.Kind, .int .i64 x.Script, .slice A2 x.aM.length c2, .int .i64 x.State, .int .i64 x.Value.Kind, .int .i64 x.Value.N, .slice A6 x.Queue.length c6, .slice A7 x.aG.length c7, .int .i64 x.bD, .int .i64 x.Pos, .int .i64 x.Count, .int .i64 x.bJ] 77)).alloc (.cells #[.int .i64 0, .int .i64 0, .slice none 0 0, .int .i64 0, .int .i64 0, .int .i64 0, .slice none 0 0, .slice none 0 0, .int .i64 0, .int .i64 0, .int .i64 0, .int .i64 0] 77)) w.heap.size 77 #[.int .i64 x.Kind, .int .i64 x.Script, .slice A2 x.aM.length c2, .int .i64 x.State, .int .i64 x.Value.Kind, .int .i64 x.Value.N, .slice A6 x.Queue.length c6, .slice A7 x.aG.length c7, .int .i64 x.bD, .int .i64 x.Pos, .int .i64 x.Count, .int .i64 x.bJ]) := ⟨(Blk.new _ _ _).alloc _⟩
 have hb1 : Sd (Blk ((w.alloc (.cells #[.int .i64 x.Kind, .int .i64 x.Script, .slice A2 x.aM.length c2, .int .i64 x.State, .int .i64 x.Value.Kind, .int .i64 x.Value.N, .slice A6 x.Queue.length c6, .slice A7 x.aG.length c7, .int .i64 x.bD, .int .i64 x.Pos, .int .i64 x.Count, .int .i64 x.bJ] 77)).alloc (.cells #[.int .i64 0, .int .i64 0, .slice none 0 0, .int .i64 0, .int .i64 0, .int .i64 0, .slice none 0 0, .slice none 0 0, .int .i64 0, .int .i64 0, .int .i64 0, .int .i64 0] 77)) (w.heap.size + 1) 77 #[.int .i64 0, .int .i64 0, .slice none 0 0, .int .i64 0, .int .i64 0, .int .i64 0, .slice none 0 0, .slice none 0 0, .int .i64 0, .int .i64 0, .int .i64 0, .int .i64 0]) := ⟨Blk.newAt (by simp)⟩
 have HBB : Sd (Upd No w ((w.alloc (.cells #[.int .i64 x.Kind, .int .i64 x.Script, .slice A2 x.aM.length c2, .int .i64 x.State, .int .i64 x.Value.Kind, .int .i64 x.Value.N, .slice A6 x.Queue.length c6, .slice A7 x.aG.length c7, .int .i64 x.bD, .int .i64 x.Pos, .int .i64 x.Count, .int .i64 x.bJ] 77)).alloc (.cells #[.int .i64 0, .int .i64 0, .slice none 0 0, .int .i64 0, .int .i64 0, .int .i64 0, .slice none 0 0, .slice none 0 0, .int .i64 0, .int .i64 0, .int .i64 0, .int .i64 0] 77))) := ⟨((Upd.refl _ _).alloc _).alloc _⟩
 generalize ((w.alloc (.cells #[.int .i64 x.Kind, .int .i64 x.Script, .slice A2 x.aM.length c2, .int .i64 x.State, .int .i64 x.Value.Kind, .int .i64 x.Value.N, .slice A6 x.Queue.length c6, .slice A7 x.aG.length c7, .int .i64 x.bD, .int .i64 x.Pos, .int .i64 x.Count, .int .i64 x.bJ] 77)).alloc (.cells #[.int .i64 0, .int .i64 0, .slice none 0 0, .int .i64 0, .int .i64 0, .int .i64 0, .slice none 0 0, .slice none 0 0, .int .i64 0, .int .i64 0, .int .i64 0, .int .i64 0] 77)) = wb at *
 have hzb : w.heap.size + 1 + 1 ≤ wb.heap.size := by have := hb1.out.lt; omega
 have q0_2 := hb0.out.at 2 (v := .slice A2 x.aM.length c2) rfl
 have q0_6 := hb0.out.at 6 (v := .slice A6 x.Queue.length c6) rfl
 have q0_7 := hb0.out.at 7 (v := .slice A7 x.aG.length c7) rfl
 have ff0 := hb0.out.free
 go_region_law (first | (go_simp; go_at_call 133; (with_reducible refine (clone_Value x.aM _ _ _ (cZ (by repeat (with_reducible first | exact HBB.out | apply Upd.put2 | apply Upd.put1 | apply Upd.put0 | apply Upd.alloc | apply Upd.drewN | apply Upd.drew)) HC2.out) n_Slots).mono ?_); rintro e w_Slots ⟨v2, rfl, hR2, hu⟩; have HY_Slots : Sd (Upd No wb w_Slots) := Sd.mk (Upd.then (by repeat (with_reducible first | exact Upd.refl _ _ | apply Upd.alloc | apply Upd.drewN | apply Upd.drew)) hu); have hz_Slots := HY_Slots.out.size; have hb0_Slots := Sd.mk (hb0.out.no HY_Slots.out); have hb1_Slots := Sd.mk (hb1.out.no HY_Slots.out); obtain ⟨B2, b2, rfl⟩ := eZ hR2; have HR2 : Sd (R aP 70 w_Slots (Iv wb.heap.size w_Slots.heap.size) (.slice B2 x.aM.length b2) x.aM) := Sd.mk (R_lt (gF (F' := New wb) (fun b q => Nat.le_trans (Upd.size ((by repeat (with_reducible first | exact Upd.refl _ _ | apply Upd.alloc | apply Upd.drewN | apply Upd.drew)) : Upd No wb _)) q) hR2)); have HB_Slots : Sd (Upd No w w_Slots) := Sd.mk (Upd.then HBB.out HY_Slots.out); clear hu hR2; have c2_Slots := hb0_Slots.out.at 2 (v := .slice A2 x.aM.length c2) rfl; have c6_Slots := hb0_Slots.out.at 6 (v := .slice A6 x.Queue.length c6) rfl; have c7_Slots := hb0_Slots.out.at 7 (v := .slice A7 x.aG.length c7) rfl; have ff_Slots := hb0_Slots.out.free) | (go_simp; go_at_call 131; (with_reducible refine (lN x.Queue _ _ _ (cZ (by repeat (with_reducible first | exact HB_Slots.out | apply Upd.put2 | apply Upd.put1 | apply Upd.put0 | apply Upd.alloc | apply Upd.drewN | apply Upd.drew)) HC6.out) S_Queue.out).mono ?_); rintro e w_Queue ⟨v6, rfl, hR6, hu⟩; have HY_Queue : Sd (Upd No w_Slots w_Queue) := Sd.mk (Upd.then (by repeat (with_reducible first | exact Upd.refl _ _ | apply Upd.alloc | apply Upd.drewN | apply Upd.drew)) hu); have hz_Queue := HY_Queue.out.size; have hb0_Queue := Sd.mk (hb0_Slots.out.no HY_Queue.out); have hb1_Queue := Sd.mk (hb1_Slots.out.no HY_Queue.out); obtain ⟨B6, b6, rfl⟩ := eZ hR6; have HR6 : Sd (R aH 181 w_Queue (Iv w_Slots.heap.size w_Queue.heap.size) (.slice B6 x.Queue.length b6) x.Queue) := Sd.mk (R_lt (gF (F' := New w_Slots) (fun b q => Nat.le_trans (Upd.size ((by repeat (with_reducible first | exact Upd.refl _ _ | apply Upd.alloc | apply Upd.drewN | apply Upd.drew)) : Upd No w_Slots _)) q) hR6)); replace HR2 := Sd.mk (R_no HY_Queue.out HR2.out); have HB_Queue : Sd (Upd No w w_Queue) := Sd.mk (Upd.then HB_Slots.out HY_Queue.out); clear hu hR6; have c2_Queue := hb0_Queue.out.at 2 (v := .slice A2 x.aM.length c2) rfl; have c6_Queue := hb0_Queue.out.at 6 (v := .slice A6 x.Queue.length c6) rfl; have c7_Queue := hb0_Queue.out.at 7 (v := .slice A7 x.aG.length c7) rfl; have ff_Queue := hb0_Queue.out.free) | (go_simp; go_at_call 134; (with_reducible refine (clone_Asker x.aG _ _ _ (cZ (by repeat (with_reducible first | exact HB_Queue.out | apply Upd.put2 | apply Upd.put1 | apply Upd.put0 | apply Upd.alloc | apply Upd.drewN | apply Upd.drew)) HC7.out) n_Askers).mono ?_); rintro e w_Askers ⟨v7, rfl, hR7, hu⟩; have HY_Askers : Sd (Upd No w_Queue w_Askers) := Sd.mk (Upd.then (by repeat (with_reducible first | exact Upd.refl _ _ | apply Upd.alloc | apply Upd.drewN | apply Upd.drew)) hu); have hz_Askers := HY_Askers.out.size; have hb0_Askers := Sd.mk (hb0_Queue.out.no HY_Askers.out); have hb1_Askers := Sd.mk (hb1_Queue.out.no HY_Askers.out); obtain ⟨B7, b7, rfl⟩ := eZ hR7; have HR7 : Sd (R aQ 155 w_Askers (Iv w_Queue.heap.size w_Askers.heap.size) (.slice B7 x.aG.length b7) x.aG) := Sd.mk (R_lt (gF (F' := New w_Queue) (fun b q => Nat.le_trans (Upd.size ((by repeat (with_reducible first | exact Upd.refl _ _ | apply Upd.alloc | apply Upd.drewN | apply Upd.drew)) : Upd No w_Queue _)) q) hR7)); replace HR2 := Sd.mk (R_no HY_Askers.out HR2.out); replace HR6 := Sd.mk (R_no HY_Askers.out HR6.out); have HB_Askers : Sd (Upd No w w_Askers) := Sd.mk (Upd.then HB_Queue.out HY_Askers.out); clear hu hR7; have c2_Askers := hb0_Askers.out.at 2 (v := .slice A2 x.aM.length c2) rfl; have c6_Askers := hb0_Askers.out.at 6 (v := .slice A6 x.Queue.length c6) rfl; have c7_Askers := hb0_Askers.out.at 7 (v := .slice A7 x.aG.length c7) rfl; have ff_Askers := hb0_Askers.out.free))
 all_goals
  clear q0_2 q0_6 q0_7
  have q0_0 := hb0_Askers.out.at 0 (v := .int .i64 x.Kind) rfl
  have q0_1 := hb0_Askers.out.at 1 (v := .int .i64 x.Script) rfl
  have q0_2 := hb0_Askers.out.at 2 (v := .slice A2 x.aM.length c2) rfl
  have q0_3 := hb0_Askers.out.at 3 (v := .int .i64 x.State) rfl
  have q0_4 := hb0_Askers.out.at 4 (v := .int .i64 x.Value.Kind) rfl
  have q0_5 := hb0_Askers.out.at 5 (v := .int .i64 x.Value.N) rfl
  have q0_6 := hb0_Askers.out.at 6 (v := .slice A6 x.Queue.length c6) rfl
  have q0_7 := hb0_Askers.out.at 7 (v := .slice A7 x.aG.length c7) rfl
  have q0_8 := hb0_Askers.out.at 8 (v := .int .i64 x.bD) rfl
  have q0_9 := hb0_Askers.out.at 9 (v := .int .i64 x.Pos) rfl
  have q0_10 := hb0_Askers.out.at 10 (v := .int .i64 x.Count) rfl
  have q0_11 := hb0_Askers.out.at 11 (v := .int .i64 x.bJ) rfl
  have q1_0 := hb1_Askers.out.at 0 (v := .int .i64 0) rfl
  have q1_1 := hb1_Askers.out.at 1 (v := .int .i64 0) rfl
  have q1_2 := hb1_Askers.out.at 2 (v := .slice none 0 0) rfl
  have q1_3 := hb1_Askers.out.at 3 (v := .int .i64 0) rfl
  have q1_4 := hb1_Askers.out.at 4 (v := .int .i64 0) rfl
  have q1_5 := hb1_Askers.out.at 5 (v := .int .i64 0) rfl
  have q1_6 := hb1_Askers.out.at 6 (v := .slice none 0 0) rfl
  have q1_7 := hb1_Askers.out.at 7 (v := .slice none 0 0) rfl
  have q1_8 := hb1_Askers.out.at 8 (v := .int .i64 0) rfl
  have q1_9 := hb1_Askers.out.at 9 (v := .int .i64 0) rfl
  have q1_10 := hb1_Askers.out.at 10 (v := .int .i64 0) rfl
  have q1_11 := hb1_Askers.out.at 11 (v := .int .i64 0) rfl
  have f0 := hb0_Askers.out.free
  have f1 := hb1_Askers.out.free
  go_wp2
  refine bodyPost_ret (v := .agg #[.int .i64 x.Kind, .int .i64 x.Script, .slice B2 x.aM.length b2, .int .i64 x.State, .int .i64 x.Value.Kind, .int .i64 x.Value.N, .slice B6 x.Queue.length b6, .slice B7 x.aG.length b7, .int .i64 x.bD, .int .i64 x.Pos, .int .i64 x.Count, .int .i64 x.bJ]) (by simp [results, Try.results88, go_sem, q1_0, q1_1, q1_2, q1_3, q1_4, q1_5, q1_6, q1_7, q1_8, q1_9, q1_10, q1_11]) rfl ⟨_, rfl, ?_, ?_⟩
  ·exact ki_Entity_mk _ _ x (R_upd ((by repeat (first | (with_reducible exact Upd.refl _ _) | (with_reducible refine Upd.alloc ?_ _) | (refine Upd.set ?_ _ _ (.inr (by first | exact .inl rfl | exact .inr rfl))))) : Upd (fun b => b = w.heap.size ∨ b = w.heap.size + 1) w_Askers _) (fun b q z => by simp only [Iv] at q; have := hz_Slots; have := hz_Queue; have := hz_Askers; omega) HR2.out) (R_upd ((by repeat (first | (with_reducible exact Upd.refl _ _) | (with_reducible refine Upd.alloc ?_ _) | (refine Upd.set ?_ _ _ (.inr (by first | exact .inl rfl | exact .inr rfl))))) : Upd (fun b => b = w.heap.size ∨ b = w.heap.size + 1) w_Askers _) (fun b q z => by simp only [Iv] at q; have := hz_Slots; have := hz_Queue; have := hz_Askers; omega) HR6.out) (R_upd ((by repeat (first | (with_reducible exact Upd.refl _ _) | (with_reducible refine Upd.alloc ?_ _) | (refine Upd.set ?_ _ _ (.inr (by first | exact .inl rfl | exact .inr rfl))))) : Upd (fun b => b = w.heap.size ∨ b = w.heap.size + 1) w_Askers _) (fun b q z => by simp only [Iv] at q; have := hz_Slots; have := hz_Queue; have := hz_Askers; omega) HR7.out) (fun k hk => by simp only [Iv] at hk; simp only [New]; have := hz_Slots; have := hz_Queue; have := hz_Askers; omega) (fun k hk => by simp only [Iv] at hk; simp only [New]; have := hz_Slots; have := hz_Queue; have := hz_Askers; omega) (fun k hk => by simp only [Iv] at hk; simp only [New]; have := hz_Slots; have := hz_Queue; have := hz_Askers; omega) (fun k hk hk' => by simp only [Iv] at hk hk'; have := hz_Slots; have := hz_Queue; have := hz_Askers; omega) (fun k hk hk' => by simp only [Iv] at hk hk'; have := hz_Slots; have := hz_Queue; have := hz_Askers; omega) (fun k hk hk' => by simp only [Iv] at hk hk'; have := hz_Slots; have := hz_Queue; have := hz_Askers; omega)
  ·exact Upd.trans HB_Askers.out ((by repeat (first | (with_reducible exact Upd.refl _ _) | (with_reducible refine Upd.alloc ?_ _) | (refine Upd.set ?_ _ _ (.inr (by first | exact .inl rfl | exact .inr rfl))))) : Upd (fun b => b = w.heap.size ∨ b = w.heap.size + 1) w_Askers _) (fun _ _ q => q) (fun b hb q => by rcases q with q | q <;> omega)
end Go.Proofs.YtdfipdpeilegpaaFam

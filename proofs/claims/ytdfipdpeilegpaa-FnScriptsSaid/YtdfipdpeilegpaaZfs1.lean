/- What the row needs, packed. No conditions beyond those that each law names. -/
import Derived.WalkKit
import Derived.Below
import Derived.OwnWalk
import Derived.Laws.AppendOwn
import Derived.Deep.Slices
import Derived.Deep.Draws
import Derived.Laws.Rows
import Derived.ChangeArms
import Derived.WideShapes
import Derived.Laws.MakeOwn
import Derived.Maps.AppendAt
import Derived.Deep.AppendLies
import Derived.WalkSpells
import Derived.Deep.RegionHeld3
import Derived.OrdersHeld
import Derived.Deep.LoopGhost
import Derived.Laws.CopyRow
import Derived.KernelRfl
import Derived.IntWalk
import Derived.Test.YtdfipdpeilegpaaProg
import Derived.RowKit3
import Derived.Deep.QuietTactic
import Derived.BigQuiet
import Derived.StillTailTactics
import Derived.Laws.StructEq
namespace Go.Proofs.YtdfipdpeilegpaaSep
theorem kA {p : Prop} (h : p := by repeat (with_reducible first | exact Upd.refl _ _ | apply Upd.put2 | apply Upd.put1 | apply Upd.put0 | apply Upd.alloc | apply Upd.drewN | apply Upd.drew)) : p := h
theorem kB {p : Prop} (h : p := by first | omega | (simp; done) | (simp; omega)) : p := h
theorem kC {p : Prop} (h : p := by repeat (with_reducible first | exact Upd.refl _ _ | apply Upd.setg)) : p := h
theorem kR {p : Prop} (h : p := by kernel_rfl) : p := h
theorem kD {p : Prop} (h : p := by decide) : p := h
theorem kO {p : Prop} (h : p := by omega) : p := h
theorem kS {p : Prop} (h : p := by simp [Value.oneCell']) : p := h
end Go.Proofs.YtdfipdpeilegpaaSep
namespace Go.Proofs.YtdfipdpeilegpaaSep
open Go.ChangeShapes Go.WideShapes Go.RowKit
structure Sd (p : Prop) : Prop where mk :: (out : p)
structure Upd (F : Nat → Prop) (w w' : World) : Prop where
 os : w'.os = w.os
 tape : w'.tape = w.tape
 output : w'.output = w.output
 size : w.heap.size ≤ w'.heap.size
 block : ∀ b, b < w.heap.size → ¬ F b → w'.heap[b]? = w.heap[b]?
def No : Nat → Prop := fun _ => False
theorem Upd.refl (F : Nat → Prop) (w : World) : Upd F w w := ⟨rfl, rfl, rfl, Nat.le_refl _, fun _ _ _ => rfl⟩
theorem Upd.trans {F G H : Nat → Prop} {w w1 w2 : World} (h : Upd F w w1) (k : Upd G w1 w2) (hF : ∀ b, b < w.heap.size → F b → H b) (hG : ∀ b, b < w.heap.size → G b → H b) : Upd H w w2 :=
 ⟨k.os.trans h.os, k.tape.trans h.tape, k.output.trans h.output, Nat.le_trans h.size k.size, fun b hb hH => (k.block b (Nat.lt_of_lt_of_le hb h.size) (fun q => hH (hG b hb q))).trans (h.block b hb (fun q => hH (hF b hb q)))⟩
theorem Upd.mono {F G : Nat → Prop} {w w' : World} (h : Upd F w w') (hF : ∀ b, b < w.heap.size → F b → G b) : Upd G w w' := ⟨h.os, h.tape, h.output, h.size, fun b hb hG => h.block b hb (fun q => hG (hF b hb q))⟩
theorem Upd.then {w w1 w2 : World} (h : Upd No w w1) (k : Upd No w1 w2) : Upd No w w2 := h.trans k (fun _ _ q => q) (fun _ _ q => q)
theorem Upd.alloc {F : Nat → Prop} {w w1 : World} (h : Upd F w w1) (o : Obj) : Upd F w (w1.alloc o) :=
 ⟨h.os, h.tape, h.output, Nat.le_trans h.size (by simp), fun b hb hF => by rw [← h.block b hb hF]; exact heap_alloc_old w1 o (Nat.lt_of_lt_of_le hb h.size)⟩
theorem Upd.drew {F : Nat → Prop} {w w1 : World} (h : Upd F w w1) : Upd F w w1.drew := ⟨h.os, h.tape, h.output, h.size, h.block⟩
theorem Upd.below {w w' : World} (h : Upd No w w') : Below w.heap.size w w' := ⟨h.os, h.tape, h.output, h.size, fun b hb => h.block b hb (fun q => q)⟩
theorem Upd.of_grown {w w' : World} {row : Option Nat} (h : w.grownBy w' row) : Upd (fun b => some b = row) w w' := ⟨h.os, h.tape, h.output, h.size, fun b hb hF => h.block b hb hF⟩
theorem Upd.cells {w w' : World} (h : Upd No w w') : (∀ b o, b < w.heap.size → w'.cell? ⟨b, o, none⟩ = w.cell? ⟨b, o, none⟩) ∧ (∀ b o, b < w.heap.size → w'.frozen? ⟨b, o, none⟩ = w.frozen? ⟨b, o, none⟩) :=
 ⟨fun b o hb => h.below.cell (p := ⟨b, o, none⟩) hb, fun b o hb => h.below.frozen (p := ⟨b, o, none⟩) hb⟩
theorem blk_set {w : World} {g : Nat} {t : TypeId} {cs : Array Value} (h : w.heap[g]? = some (.cells cs t (0, 0))) (i : Nat) (u : Value) : (w.setCell ⟨g, i, none⟩ u).heap[g]? = some (.cells (cs.setIfInBounds i u) t (0, 0)) := by
 simp [World.setCell, Array.getElem?_modify, h]
structure Kn (α : Type) where
 sz : Nat
 K : World → α → List Value → Prop
 M : World → (Nat → Prop) → α → List Value → Prop
 K_len : ∀ {w x cs}, K w x cs → cs.length = sz
 K_one : ∀ {w x cs}, K w x cs → ∀ u ∈ cs, u.oneCell' = true
 K_stay : ∀ {w w' : World} {x cs}, (∀ b, b < w.heap.size → w'.heap[b]? = w.heap[b]?) → K w x cs → K w' x cs
 K_of_M : ∀ {w F x cs}, M w F x cs → K w x cs
 fP : ∀ {w F F' x cs}, (∀ b, F b → F' b) → M w F x cs → M w F' x cs
 M_lt : ∀ {w : World} {F x cs}, M w F x cs → M w (fun b => F b ∧ b < w.heap.size) x cs
 gK : ∀ {w w' : World} {F x cs}, (∀ b, F b → w'.heap[b]? = w.heap[b]?) → M w F x cs → M w' F x cs
section
variable {α : Type} (d : Kn α)
def piece (sz : Nat) (l : List Value) (i : Nat) : List Value := (l.drop (i * sz)).take sz
def C (w : World) (A : Option Addr) (xs : List α) : Prop :=
 xs.length ≤ 9223372036854775807 ∧ (0 < xs.length → ∃ ad, A = some ad ∧ ∀ j p, xs[j]? = some p → ∃ c, d.K w p c ∧ ∀ i u, c[i]? = some u → w.cell? (ad.add (j * d.sz + i)) = some u)
def R (e : Nat) (w : World) (F : Nat → Prop) (v : Value) (xs : List α) : Prop :=
 (v = .slice none 0 0 ∧ xs = []) ∨
 ∃ (g cap : Nat) (cur : Array Value) (Fs : Nat → Nat → Prop), v = .slice (some ⟨g, 0, none⟩) xs.length cap ∧ w.heap[g]? = some (.cells cur e (0, 0)) ∧ F g ∧ xs.length ≤ cap ∧ cap ≤ 9223372036854775807 ∧ cur.size = cap * d.sz ∧
  (∀ i b, Fs i b → F b ∧ b ≠ g) ∧ (∀ i j b, Fs i b → Fs j b → i = j) ∧ ∀ i x, xs[i]? = some x → d.M w (Fs i) x (piece d.sz cur.toList i)
variable {d} {e : Nat} {w w' : World} {F F' : Nat → Prop} {v : Value} {xs : List α}
theorem R_nil : R d e w F (.slice none 0 0) [] := .inl ⟨rfl, rfl⟩
theorem R_mono (hF : ∀ b, F b → F' b) (h : R d e w F v xs) : R d e w F' v xs := by
 rcases h with h | ⟨g, cap, cur, Fs, h1, h2, h3, h4, h5, h6, h7, h8, h9⟩
 ·exact .inl h
 ·exact .inr ⟨g, cap, cur, Fs, h1, h2, hF _ h3, h4, h5, h6, fun i b hb => ⟨hF _ (h7 i b hb).1, (h7 i b hb).2⟩, h8, h9⟩
theorem heap_lt {w : World} {g : Nat} {o : Obj} (h : w.heap[g]? = some o) : g < w.heap.size := (Array.getElem?_eq_some_iff.1 h).1
theorem R_lt (h : R d e w F v xs) : R d e w (fun b => F b ∧ b < w.heap.size) v xs := by
 rcases h with h | ⟨g, cap, cur, Fs, h1, h2, h3, h4, h5, h6, h7, h8, h9⟩
 ·exact .inl h
 ·refine .inr ⟨g, cap, cur, fun i b => Fs i b ∧ b < w.heap.size, h1, h2, ⟨h3, heap_lt h2⟩, h4, h5, h6, fun i b hb => ⟨⟨(h7 i b hb.1).1, hb.2⟩, (h7 i b hb.1).2⟩, fun i j b hi hj => h8 i j b hi.1 hj.1, fun i x hx => d.M_lt (h9 i x hx)⟩
theorem R_same (hF : ∀ b, F b → w'.heap[b]? = w.heap[b]?) (h : R d e w F v xs) : R d e w' F v xs := by
 rcases h with h | ⟨g, cap, cur, Fs, h1, h2, h3, h4, h5, h6, h7, h8, h9⟩
 ·exact .inl h
 ·exact .inr ⟨g, cap, cur, Fs, h1, (hF _ h3).trans h2, h3, h4, h5, h6, h7, h8, fun i x hx => d.gK (fun b hb => hF b (h7 i b hb).1) (h9 i x hx)⟩
theorem R_reads (h : R d e w F v xs) : ∃ A c, v = .slice A xs.length c ∧ xs.length ≤ c ∧ C d w A xs := by
 rcases h with ⟨rfl, rfl⟩ | ⟨g, cap, cur, Fs, h1, h2, h3, h4, h5, h6, h7, h8, h9⟩
 ·exact ⟨none, 0, rfl, Nat.le_refl _, by simp, fun h => absurd h (Nat.lt_irrefl 0)⟩
 ·refine ⟨_, cap, h1, h4, by omega, fun _ => ⟨_, rfl, fun j p hp => ⟨_, d.K_of_M (h9 j p hp), fun i u hu => ?_⟩⟩⟩
  have hi : i < d.sz := by have := (List.getElem?_eq_some_iff.1 hu).1; simp [piece] at this; omega
  have : cur[j * d.sz + i]? = some u := by
   simp [piece, hi] at hu
   exact hu
  rw [show (⟨g, 0, none⟩ : Addr).add (j * d.sz + i) = ⟨g, j * d.sz + i, none⟩ by unfold Addr.add; split <;> simp_all]
  rw [cell_of_row w g _ cur e (0, 0) h2]
  exact this
theorem C_stay {A : Option Addr} (h : ∀ b, b < w.heap.size → w'.heap[b]? = w.heap[b]?) (hc : C d w A xs) : C d w' A xs := by
 refine ⟨hc.1, fun hp => ?_⟩
 obtain ⟨ad, rfl, k⟩ := hc.2 hp
 refine ⟨ad, rfl, fun j p hj => ?_⟩
 obtain ⟨c, k1, k2⟩ := k j p hj
 refine ⟨c, d.K_stay h k1, fun i u hu => ?_⟩
 have := k2 i u hu
 have hb := World.block_lt_of_cell? w _ this
 rw [← this]
 simp only [World.cell?, h _ hb]
end
namespace Kn
def scalar {α : Type} (enc : α → Value) (h1 : ∀ x, (enc x).oneCell' = true) : Kn α where
 sz := 1
 K := fun _ x cs => cs = [enc x]
 M := fun _ _ x cs => cs = [enc x]
 K_len := fun h => by rw [h]; rfl
 K_one := fun h u hu => by rw [h] at hu; rw [List.mem_singleton.1 hu]; exact h1 _
 K_stay := fun _ h => h
 K_of_M := fun h => h
 fP := fun _ h => h
 M_lt := fun h => h
 gK := fun _ h => h
def int : Kn Int := scalar (Value.int .i64) (fun _ => rfl)
def bool : Kn Bool := scalar Value.bool (fun _ => rfl)
def string : Kn ByteArray := scalar Value.string (fun _ => rfl)
def slice {α : Type} (e : Nat) (d : Kn α) : Kn (List α) where
 sz := 1
 K := fun w xs cs => ∃ A c, cs = [.slice A xs.length c] ∧ xs.length ≤ c ∧ C d w A xs
 M := fun w F xs cs => ∃ v, cs = [v] ∧ R d e w F v xs
 K_len := by rintro w x cs ⟨A, c, rfl, _⟩; rfl
 K_one := by rintro w x cs ⟨A, c, rfl, _⟩ u hu; rw [List.mem_singleton.1 hu]; rfl
 K_stay := by rintro w w' x cs h ⟨A, c, rfl, hl, hr⟩; exact ⟨A, c, rfl, hl, C_stay h hr⟩
 K_of_M := by rintro w F x cs ⟨v, rfl, h⟩; obtain ⟨A, c, rfl, hl, hr⟩ := R_reads h; exact ⟨A, c, rfl, hl, hr⟩
 fP := by rintro w F F' x cs hF ⟨v, rfl, h⟩; exact ⟨v, rfl, R_mono hF h⟩
 M_lt := by rintro w F x cs ⟨v, rfl, h⟩; exact ⟨v, rfl, R_lt h⟩
 gK := by rintro w w' F x cs hF ⟨v, rfl, h⟩; exact ⟨v, rfl, R_same hF h⟩
def pair {α β : Type} (a : Kn α) (b : Kn β) : Kn (α × β) where
 sz := a.sz + b.sz
 K := fun w x cs => ∃ c0 c1, cs = c0 ++ c1 ∧ a.K w x.1 c0 ∧ b.K w x.2 c1
 M := fun w F x cs => ∃ c0 c1 F0 F1, cs = c0 ++ c1 ∧ a.M w F0 x.1 c0 ∧ b.M w F1 x.2 c1 ∧ (∀ k, F0 k → F k) ∧ (∀ k, F1 k → F k) ∧ ∀ k, F0 k → ¬ F1 k
 K_len := by rintro w x cs ⟨c0, c1, rfl, h0, h1⟩; rw [List.length_append, a.K_len h0, b.K_len h1]
 K_one := by
  rintro w x cs ⟨c0, c1, rfl, h0, h1⟩ u hu
  rcases List.mem_append.1 hu with hu | hu
  ·exact a.K_one h0 u hu
  ·exact b.K_one h1 u hu
 K_stay := by rintro w w' x cs h ⟨c0, c1, rfl, h0, h1⟩; exact ⟨c0, c1, rfl, a.K_stay h h0, b.K_stay h h1⟩
 K_of_M := by rintro w F x cs ⟨c0, c1, F0, F1, rfl, h0, h1, _⟩; exact ⟨c0, c1, rfl, a.K_of_M h0, b.K_of_M h1⟩
 fP := by rintro w F F' x cs hF ⟨c0, c1, F0, F1, rfl, h0, h1, k0, k1, k2⟩; exact ⟨c0, c1, F0, F1, rfl, h0, h1, fun k hk => hF k (k0 k hk), fun k hk => hF k (k1 k hk), k2⟩
 M_lt := by
  rintro w F x cs ⟨c0, c1, F0, F1, rfl, h0, h1, k0, k1, k2⟩
  exact ⟨c0, c1, _, _, rfl, a.M_lt h0, b.M_lt h1, fun k hk => ⟨k0 k hk.1, hk.2⟩, fun k hk => ⟨k1 k hk.1, hk.2⟩, fun k hk hk' => k2 k hk.1 hk'.1⟩
 gK := by
  rintro w w' F x cs hF ⟨c0, c1, F0, F1, rfl, h0, h1, k0, k1, k2⟩
  exact ⟨c0, c1, F0, F1, rfl, a.gK (fun b hb => hF b (k0 b hb)) h0, b.gK (fun b hb => hF b (k1 b hb)) h1, k0, k1, k2⟩
def iso {α β : Type} (d : Kn α) (f : β → α) : Kn β where
 sz := d.sz
 K := fun w x cs => d.K w (f x) cs
 M := fun w F x cs => d.M w F (f x) cs
 K_len := d.K_len
 K_one := d.K_one
 K_stay := d.K_stay
 K_of_M := d.K_of_M
 fP := d.fP
 M_lt := d.M_lt
 gK := d.gK
end Kn
section
variable {α : Type} {d : Kn α} {e : Nat} {w w' : World} {F F' : Nat → Prop} {v : Value} {xs : List α} {x : α} {cs : List Value}
theorem K_upd (h : Upd No w w') (k : d.K w x cs) : d.K w' x cs := d.K_stay (fun b hb => h.block b hb (fun q => q)) k
theorem dW {A : Option Addr} (h : Upd No w w') (k : C d w A xs) : C d w' A xs := C_stay (fun b hb => h.block b hb (fun q => q)) k
theorem M_upd {G : Nat → Prop} (h : Upd G w w') (hG : ∀ b, F b → ¬ G b) (k : d.M w F x cs) : d.M w' F x cs := d.fP (fun _ q => q.1) (d.gK (fun b hb => h.block b hb.2 (hG b hb.1)) (d.M_lt k))
theorem R_slice (h : R d e w F v xs) : ∃ A c, v = .slice A xs.length c := by
 obtain ⟨A, c, h, _⟩ := R_reads h
 exact ⟨A, c, h⟩
theorem C_get {A : Option Addr} (h : C d w A xs) (i : Nat) (hi : i < xs.length) : ∃ ad c, A = some ad ∧ c.length = d.sz ∧ d.K w xs[i] c ∧ ∀ j u, c[j]? = some u → w.cell? (ad.add (i * d.sz + j)) = some u := by
 obtain ⟨ad, rfl, k⟩ := h.2 kO
 obtain ⟨c, h1, h2⟩ := k i xs[i] (List.getElem?_eq_getElem hi)
 exact ⟨ad, c, rfl, d.K_len h1, h1, h2⟩
theorem add_field (ad : Addr) (m j : Nat) (hj : 0 < j) : ad.add (m + j) = ⟨(ad.add m).block, (ad.add m).off + j, none⟩ := by
 unfold Addr.add
 by_cases hm : m = 0
 ·subst hm
  simp [Nat.ne_of_gt hj]
 ·have : m + j ≠ 0 := by omega
  simp [hm, Nat.add_assoc]
theorem C_at {A : Option Addr} (h : C d w A xs) (i : Nat) (hi : i < xs.length) : ∃ ad c, A = some ad ∧ d.K w xs[i] c ∧ (∀ u, c[0]? = some u → w.cell? (ad.add (i * d.sz)) = some u) ∧
 ∀ j u, c[j + 1]? = some u → w.cell? ⟨(ad.add (i * d.sz)).block, (ad.add (i * d.sz)).off + (j + 1), none⟩ = some u := by
 obtain ⟨ad, c, h1, _, h3, h4⟩ := C_get h i hi
 exact ⟨ad, c, h1, h3, fun u hu => h4 0 u hu, fun j u hu => by rw [← add_field _ _ (j + 1) kO]; exact h4 (j + 1) u hu⟩
end
section
variable {α : Type} {a b : List α} {i : Nat}
end
structure At (w0 w : World) (g o n e : Nat) (cur0 : Array Value) (ce : List Value) (Fi : Nat → Prop) : Prop where
 row : ∃ cur, w.heap[g]? = some (.cells cur e (0, 0)) ∧ cur.size = cur0.size ∧ (∀ p, p < o ∨ o + n ≤ p → cur[p]? = cur0[p]?) ∧ (cur.toList.drop o).take n = ce
 upd : Upd (fun b => b = g ∨ Fi b) w0 w
 len : ce.length = n
section
variable {w0 w w' : World} {g o n e : Nat} {cur0 : Array Value} {ce : List Value} {Fi : Nat → Prop}
theorem At.cell (h : At w0 w g o n e cur0 ce Fi) (j : Nat) (u : Value) (hu : ce[j]? = some u) : w.cell? ⟨g, o + j, none⟩ = some u := by
 obtain ⟨cur, h1, h2, _, h4⟩ := h.row
 rw [cell_of_row w g _ cur e (0, 0) h1]
 have hj : j < n := by rw [← h.len]; exact (List.getElem?_eq_some_iff.1 hu).1
 rw [← h4, List.getElem?_take, if_pos hj, List.getElem?_drop] at hu
 simpa using hu
theorem At.cell0 (h : At w0 w g o n e cur0 ce Fi) (u : Value) (hu : ce[0]? = some u) : w.cell? ⟨g, o, none⟩ = some u := h.cell 0 u hu
theorem At.free (h : At w0 w g o n e cur0 ce Fi) (j : Nat) : w.frozen? ⟨g, j, none⟩ = false := by
 obtain ⟨cur, h1, _⟩ := h.row
 simp [World.frozen?, h1]
theorem At.call (h : At w0 w g o n e cur0 ce Fi) {G : Nat → Prop} (k : Upd G w w') (hG : ∀ b, G b → Fi b) (hg : ¬ Fi g) : At w0 w' g o n e cur0 ce Fi := by
 obtain ⟨cur, h1, h2, h3, h4⟩ := h.row
 exact ⟨⟨cur, (k.block g (heap_lt h1) (fun q => hg (hG g q))).trans h1, h2, h3, h4⟩, h.upd.trans k (fun _ _ q => q) (fun b _ q => .inr (hG b q)), h.len⟩
variable {α : Type} {d : Kn α} {F : Nat → Prop} {v : Value} {xs : List α}
end
def RetInt (n : Int) (w : World) (e : Ending) (w' : World) : Prop := e = .returned (.int .i64 n) ∧ Upd No w w'
def bY (b : Bool) (w : World) (e : Ending) (w' : World) : Prop := e = .returned (.bool b) ∧ Upd No w w'
def New (w : World) : Nat → Prop := fun b => w.heap.size ≤ b
def RetRow {α : Type} (d : Kn α) (ty : Nat) (xs : List α) (w : World) (e : Ending) (w' : World) : Prop := ∃ v, e = .returned v ∧ R d ty w' (New w) v xs ∧ Upd No w w'
def RetAgg {α : Type} (d : Kn α) (x : α) (w : World) (e : Ending) (w' : World) : Prop := ∃ cs, e = .returned (.agg cs.toArray) ∧ d.M w' (New w) x cs ∧ Upd No w w'
theorem Upd.read {w w1 : World} (h : Upd No w w1) {a : Addr} {v : Value} (hc : w.cell? a = some v) : w1.cell? a = some v := (h.below.cell (World.block_lt_of_cell? w a hc)).trans hc
section
variable {α : Type} {d : Kn α} {e : Nat} {w w' : World} {F : Nat → Prop} {v : Value} {xs : List α}
theorem add_plain (g j : Nat) : (⟨g, 0, none⟩ : Addr).add j = ⟨g, j, none⟩ := by unfold Addr.add; split <;> simp_all
theorem piece_take {sz : Nat} {l : List Value} {n i : Nat} (h : i < n) : piece sz (l.take (n * sz)) i = piece sz l i := by
 have h1 : i * sz + sz ≤ n * sz := by rw [← Nat.succ_mul]; exact Nat.mul_le_mul_right _ h
 apply List.ext_getElem?
 intro q
 simp only [piece, List.getElem?_take, List.getElem?_drop]
 by_cases hq : q < sz
 ·simp only [if_pos hq]
  rw [if_pos kO]
 ·simp only [if_neg hq]
theorem R_of_owns {base : Nat} {inner : List Value} (h : w.ownsRow base e d.sz v xs.length inner) (hF : ∀ g, v.ownBlock = some g → F g) (Fs : Nat → Nat → Prop)
 (h1 : ∀ i b, Fs i b → F b ∧ v.ownBlock ≠ some b) (h2 : ∀ i j b, Fs i b → Fs j b → i = j) (h3 : ∀ i x, xs[i]? = some x → d.M w (Fs i) x (piece d.sz inner i)) : R d e w F v xs := by
 rcases h.2 with ⟨rfl, hn⟩ | ⟨g, cap, cur, rfl, _, k2, k3, k4, k5, k6⟩
 ·exact .inl ⟨rfl, List.eq_nil_of_length_eq_zero hn⟩
 ·refine .inr ⟨g, cap, cur, Fs, rfl, k2, hF g rfl, k3, by simpa [maxLen] using k4, k5, fun i b hb => ⟨(h1 i b hb).1, fun q => (h1 i b hb).2 (by rw [q]; rfl)⟩, h2, fun i x hx => ?_⟩
  have := h3 i x hx
  rw [← k6, piece_take (List.getElem?_eq_some_iff.1 hx).1] at this
  exact this
theorem owns_of_R (h : R d e w F v xs) : ∃ (inner : List Value) (Fs : Nat → Nat → Prop), w.ownsRow 0 e d.sz v xs.length inner ∧ (∀ g, v.ownBlock = some g → F g) ∧ (∀ i b, Fs i b → F b ∧ v.ownBlock ≠ some b) ∧ (∀ i j b, Fs i b → Fs j b → i = j) ∧ ∀ i x, xs[i]? = some x → d.M w (Fs i) x (piece d.sz inner i) := by
 rcases h with ⟨rfl, rfl⟩ | ⟨g, cap, cur, Fs, rfl, h2, h3, h4, h5, h6, h7, h8, h9⟩
 ·exact ⟨[], fun _ _ => False, ⟨by simp, .inl ⟨rfl, rfl⟩⟩, fun g hg => by simp [Value.ownBlock] at hg, fun _ _ h => h.elim, fun _ _ _ h => h.elim, fun i x h => by simp at h⟩
 ·refine ⟨cur.toList.take (xs.length * d.sz), Fs, ⟨?_, .inr ⟨g, cap, cur, rfl, Nat.zero_le _, h2, h4, by simpa [maxLen] using h5, h6, rfl⟩⟩, fun b hb => (show g = b by simpa [Value.ownBlock] using hb) ▸ h3, fun i b hb => ⟨(h7 i b hb).1, fun q => (h7 i b hb).2 (by simpa [Value.ownBlock] using q.symm)⟩, h8, fun i x hx => ?_⟩
  ·have q1 := Nat.mul_le_mul_right d.sz h4
   have q2 : cur.toList.length = cap * d.sz := by simpa using h6
   rw [List.length_take, q2, Nat.min_eq_left q1]
  ·rw [piece_take (List.getElem?_eq_some_iff.1 hx).1]
   exact h9 i x hx
theorem R_C {A : Option Addr} {n c : Nat} (h : R d e w F (.slice A n c) xs) : C d w A xs := by
 obtain ⟨A', c', he, _, hC⟩ := R_reads h
 cases he
 exact hC
def madeObj (z : Value) (n : Nat) (e : Nat) : Obj := .cells (madeCells z.cells n) e
theorem run_made {P : Program} {t : TypeId} (z : Value) (sz bytes : Nat) (ht : P.underlying t = some (.slice e)) (hinfo : (P.info? e).map (fun i => (i.zero, i.size, i.bytes)) = some (some z, sz, bytes)) (n : Nat) (hn : n ≤ 1048576) (hb : bytes ≤ 4096) :
 ∀ W : World, (Instr.makeSlice t (.int .i64 (n : Int)) (.int .i64 (n : Int))).run P W = .ok (.slice (some ⟨W.heap.size, 0, none⟩) n n) (W.alloc (madeObj z (n * sz) e)) := by
 intro W
 obtain ⟨i0, hi, hzz⟩ := Option.map_eq_some_iff.1 hinfo
 simp only [Prod.mk.injEq] at hzz
 obtain ⟨hz0, hz1, hz2⟩ := hzz
 have hr := run_make (P := P) W t e i0 z ht hi hz0 .i64 .i64 (n : Int) (n : Int) kO kO
  (by
   have h3 : i0.bytes * n ≤ 4096 * 1048576 := Nat.mul_le_mul kO hn
   have h4 : ((i0.bytes * n : Nat) : Int) ≤ 281474976710656 := by omega
   rwa [Int.natCast_mul] at h4) kO
 simp only [Int.toNat_natCast] at hr
 rw [hz1] at hr
 exact hr
theorem R_made (W : World) (z : Value) (zx : α) (hz : z.cells.size = d.sz) (hs : 0 < d.sz) (h0 : ∀ W, d.M W No zx z.cells.toList) (n : Nat) (hn : n ≤ 1048576) :
 R d e (W.alloc (madeObj z (n * d.sz) e)) (New W) (.slice (some ⟨W.heap.size, 0, none⟩) n n) (List.replicate n zx) := by
 refine .inr ⟨W.heap.size, n, madeCells z.cells (n * d.sz), fun _ _ => False, by simp, heap_alloc_new W _, Nat.le_refl _, by simp, by omega, size_madeCells _ _, fun _ _ h => h.elim, fun _ _ _ h => h.elim, fun i x hx => ?_⟩
 obtain ⟨hil, hx'⟩ := List.getElem?_eq_some_iff.1 hx
 have him : i < n := by simpa using hil
 have : zx = x := by simpa using hx'
 subst this
 have hle : i * d.sz + d.sz ≤ n * d.sz := by rw [← Nat.succ_mul]; exact Nat.mul_le_mul_right _ him
 have : piece d.sz (madeCells z.cells (n * d.sz)).toList i = z.cells.toList := by
  apply List.ext_getElem
  ·simp [piece, size_madeCells, hz]
   omega
  ·intro j h1 h2
   have hj : j < d.sz := by rw [Array.length_toList, hz] at h2; exact h2
   have hmod : (i * d.sz + j) % d.sz = j := by
    rw [Nat.mul_comm, Nat.mul_add_mod]
    exact Nat.mod_eq_of_lt hj
   simp [piece, madeCells, hz, hmod]
   rw [getElem!_pos z.cells j kO]
 rw [this]
 exact d.fP (fun _ h => h) (h0 _)
end
section
variable {α : Type} {d : Kn α} {e : Nat} {F : Nat → Prop} {v : Value} {xs : List α} {P : Program} {ops : Array Oper} {rest : List Oper} {o : Oper} {a : Act} {Q : Exit → Act → World → Prop}
end
section
variable {α : Type} {d : Kn α} {e : Nat} {w w' : World} {F : Nat → Prop} {v : Value} {xs ys : List α}
def Flat (d : Kn α) : Prop := ∀ w w' F x cs, d.K w x cs → d.M w' F x cs
def CM (d : Kn α) (w : World) (A : Option Addr) (xs : List α) (Fs : Nat → Nat → Prop) : Prop :=
 xs.length ≤ 9223372036854775807 ∧ (0 < xs.length → ∃ ad, A = some ad ∧ ∀ j p, xs[j]? = some p → ∃ c, d.M w (Fs j) p c ∧ ∀ i u, c[i]? = some u → w.cell? (ad.add (j * d.sz + i)) = some u)
theorem CM_of_flat (hf : Flat d) {A : Option Addr} (h : C d w A xs) : CM d w A xs (fun _ => No) := by
 refine ⟨h.1, fun hp => ?_⟩
 obtain ⟨ad, rfl, k⟩ := h.2 hp
 refine ⟨ad, rfl, fun j p hj => ?_⟩
 obtain ⟨c, k1, k2⟩ := k j p hj
 exact ⟨c, hf _ _ _ _ _ k1, k2⟩
theorem CM_news {ad : Addr} {Fs : Nat → Nat → Prop} (k : ∀ j p, xs[j]? = some p → ∃ c, d.M w (Fs j) p c ∧ ∀ i u, c[i]? = some u → w.cell? (ad.add (j * d.sz + i)) = some u) (n : Nat) (hn : n ≤ xs.length) :
 ∃ news : List Value, news.length = n * d.sz ∧ (∀ j u, news[j]? = some u → w.cell? (ad.add j) = some u ∧ u.oneCell' = true) ∧ ∀ i x, i < n → xs[i]? = some x → d.M w (Fs i) x (piece d.sz news i) := by
 induction n with
 | zero => exact ⟨[], by simp, fun j u h => by simp at h, fun i x h => by omega⟩
 | succ n ih =>
  obtain ⟨news, h1, h2, h3⟩ := ih kO
  obtain ⟨c, k1, k2⟩ := k n xs[n] (List.getElem?_eq_getElem kO)
  have hc := d.K_of_M k1
  have hl := d.K_len hc
  refine ⟨news ++ c, by rw [List.length_append, h1, hl, Nat.succ_mul], fun j u hj => ?_, fun i x hi hx => ?_⟩
  ·rcases Nat.lt_or_ge j news.length with hjl | hjl
   ·rw [List.getElem?_append_left hjl] at hj
    exact h2 j u hj
   ·rw [List.getElem?_append_right hjl] at hj
    have := k2 _ u hj
    rw [show n * d.sz + (j - news.length) = j by rw [← h1]; omega] at this
    exact ⟨this, d.K_one hc u (List.mem_of_getElem? hj)⟩
  ·rcases Nat.lt_or_ge i n with hin | hin
   ·have hp : piece d.sz (news ++ c) i = piece d.sz news i := by
     have h4 : i * d.sz + d.sz ≤ news.length := by rw [h1, ← Nat.succ_mul]; exact Nat.mul_le_mul_right _ hin
     unfold piece
     rw [List.drop_append_of_le_length kO, List.take_append_of_le_length (by rw [List.length_drop]; omega)]
    rw [hp]
    exact h3 i x hin hx
   ·obtain rfl : i = n := by omega
    have hx2 : xs[i] = x := by rw [List.getElem?_eq_getElem kO] at hx; exact Option.some.inj hx
    have hp : piece d.sz (news ++ c) i = c := by
     unfold piece
     rw [← h1, List.drop_left, List.take_of_length_le kO]
    rw [hp, ← hx2]
    exact k1
end
section
variable {α : Type} {d : Kn α} {e : Nat} {F : Nat → Prop} {v : Value} {xs ys : List α} {P : Program} {ops : Array Oper} {rest : List Oper} {o : Oper} {a : Act} {Q : Exit → Act → World → Prop}
theorem R_appRow {W : World} (hgd : o.guard = none) (s x : Operand) (t : TypeId) (z : Value) (bytes : Nat)
 (ho : o.op = .call { callee := .builtin .append, args := #[s, x], argTypes := #[t, t] })
 (ht : P.underlying t = some (.slice e)) (hinfo : (P.info? e).map (fun i => (i.zero, i.size, i.bytes)) = some (some z, d.sz, bytes)) (hz : z.cells.size = d.sz) (hs0 : 0 < d.sz) (hb0 : 0 < bytes)
 (ad : Addr) (c : Nat) (Gs : Nat → Nat → Prop) (hs : a.eval s = v) (hx : a.eval x = .slice (some ad) ys.length c) (HR : R d e W F v xs)
 (HC : ∀ j p, ys[j]? = some p → ∃ c, d.M W (Gs j) p c ∧ ∀ i u, c[i]? = some u → W.cell? (ad.add (j * d.sz + i)) = some u) (hd : ∀ j b, Gs j b → ¬ F b) (hd2 : ∀ i j b, Gs i b → Gs j b → i = j) (hl : (xs.length + ys.length) * bytes ≤ 140737488355328)
 (h : ∀ v1 w1, R d e w1 (fun b => F b ∨ (∃ j, j < ys.length ∧ Gs j b) ∨ W.heap.size ≤ b) v1 (xs ++ ys) → Upd F W w1 → wpList P ops Q rest (a.put o.dst v1) w1) :
 wpList P ops Q (o :: rest) a W := by
 obtain ⟨i0, hi, hzz⟩ := Option.map_eq_some_iff.1 hinfo
 simp only [Prod.mk.injEq] at hzz
 obtain ⟨hz0, hz1, hz2⟩ := hzz
 have hlen : xs.length + ys.length ≤ 140737488355328 := Nat.le_trans (Nat.le_mul_of_pos_right _ hb0) hl
 obtain ⟨inner, Fs, k1, k2, k3, k4, k5⟩ := owns_of_R (R_lt HR)
 obtain ⟨news, n1, n2, n3⟩ := CM_news (d := d) HC ys.length (Nat.le_refl _)
 refine wpList_append_own_at W hgd s x t ho 0 e i0 z d.sz bytes ht hi hz0 hz1 hz2 hz hs0 v xs.length inner hs k1 ad ys.length c news hx n1 (fun j u hu => (n2 j u hu).1)
  (fun u hu => by obtain ⟨j, hj⟩ := List.mem_iff_getElem?.1 hu; exact (n2 j u hj).2) (by simp only [maxLen]; omega) hl (Nat.zero_le _) ?_
 intro v1 w1 hown hg _ hat
 have hU : Upd F W w1 := (Upd.of_grown hg).mono (fun b hb q => by
  have hb' : v.ownBlock = some b := q.symm
  exact (k2 b hb').1)
 have hne : ∀ b, b < W.heap.size → v.ownBlock ≠ some b → v1.ownBlock ≠ some b := by
  intro b hb hv
  rcases hat with hat | hat
  ·rw [hat]; exact hv
  ·rw [hat]
   intro q
   injection q with q
   omega
 have hfr : ∀ b, b < W.heap.size → v.ownBlock ≠ some b → w1.heap[b]? = W.heap[b]? := fun b hb hv => hg.block b hb (fun q => hv q.symm)
 refine h v1 w1 (R_of_owns (xs := xs ++ ys) (base := 0) (inner := inner ++ news) (by rw [List.length_append]; exact hown) (fun g hg' => ?_) (fun i b => if i < xs.length then Fs i b else i - xs.length < ys.length ∧ Gs (i - xs.length) b ∧ b < W.heap.size) (fun i b hb => ?_) (fun i j b hi' hj' => ?_) (fun i x' hx' => ?_)) hU
 ·rcases hat with hat | hat
  ·exact .inl (k2 g (hat ▸ hg')).1
  ·rw [hat] at hg'
   injection hg' with q
   exact .inr (.inr (by rw [← q]; exact Nat.le_refl _))
 ·by_cases c : i < xs.length
  ·simp only [c, if_true] at hb
   have := k3 i b hb
   exact ⟨.inl this.1.1, hne b this.1.2 this.2⟩
  ·simp only [c, if_false] at hb
   exact ⟨.inr (.inl ⟨_, hb.1, hb.2.1⟩), hne b hb.2.2 (fun q => hd _ b hb.2.1 (k2 b q).1)⟩
 ·by_cases c : i < xs.length <;> by_cases c' : j < xs.length
  ·simp only [c, c', if_true] at hi' hj'
   exact k4 i j b hi' hj'
  ·simp only [c, c', if_true, if_false] at hi' hj'
   exact absurd (k3 i b hi').1.1 (hd _ b hj'.2.1)
  ·simp only [c, c', if_true, if_false] at hi' hj'
   exact absurd (k3 j b hj').1.1 (hd _ b hi'.2.1)
  ·simp only [c, c', if_false] at hi' hj'
   have := hd2 _ _ b hi'.2.1 hj'.2.1
   omega
 ·by_cases c : i < xs.length
  ·simp only [c, if_true]
   rw [List.getElem?_append_left c] at hx'
   have hpc : piece d.sz (inner ++ news) i = piece d.sz inner i := by
    have h1 : i * d.sz + d.sz ≤ inner.length := by rw [k1.1, ← Nat.succ_mul]; exact Nat.mul_le_mul_right _ c
    unfold piece
    rw [List.drop_append_of_le_length kO, List.take_append_of_le_length (by rw [List.length_drop]; omega)]
   rw [hpc]
   exact d.fP (fun _ q => q.1) (d.gK (fun b hb => hfr b hb.2 (k3 i b hb.1).2) (d.M_lt (k5 i x' hx')))
  ·simp only [c, if_false]
   have hil := (List.getElem?_eq_some_iff.1 hx').1
   rw [List.getElem?_append_right kO] at hx'
   have hjl : i - xs.length < ys.length := (List.getElem?_eq_some_iff.1 hx').1
   have hpc : piece d.sz (inner ++ news) i = piece d.sz news (i - xs.length) := by
    have h1 : inner.length = xs.length * d.sz := k1.1
    have h2 : i * d.sz = inner.length + (i - xs.length) * d.sz := by rw [h1, ← Nat.add_mul]; congr 1; omega
    unfold piece
    rw [h2, List.drop_append, List.drop_eq_nil_of_le (Nat.le_add_right _ _), List.nil_append, Nat.add_sub_cancel_left]
   rw [hpc]
   exact d.fP (fun _ q => ⟨hjl, q.1, q.2⟩) (d.gK (fun b hb => hfr b hb.2 (fun q => hd _ b hb.1 (k2 b q).1)) (d.M_lt (n3 _ x' hjl hx')))
theorem R_appNone {W : World} (hgd : o.guard = none) (s x : Operand) (t : TypeId) (z : Value) (bytes : Nat)
 (ho : o.op = .call { callee := .builtin .append, args := #[s, x], argTypes := #[t, t] })
 (ht : P.underlying t = some (.slice e)) (hinfo : (P.info? e).map (fun i => (i.zero, i.size, i.bytes)) = some (some z, d.sz, bytes))
 (c : Nat) (hs : a.eval s = v) (hx : a.eval x = .slice none 0 c) (HR : R d e W F v xs) (h : wpList P ops Q rest (a.put o.dst v) W) :
 wpList P ops Q (o :: rest) a W := by
 obtain ⟨i0, hi, hzz⟩ := Option.map_eq_some_iff.1 hinfo
 refine wpList_plain hgd fun K hK => ?_
 have hrun : (Builtin.append_ #[t, t] o.type #[v, .slice none 0 c]).run P W = .ok v W := by
  rcases HR with ⟨rfl, rfl⟩ | ⟨g, cap, cur, Fs, rfl, _, _, hnc, _⟩
  ·simp [Builtin.append_, run_underlying ht, sizeOf, typeInfo, hi, Builtin.lenOf, Builtin.firstCells]
  ·simp [Builtin.append_, run_underlying ht, sizeOf, typeInfo, hi, Builtin.lenOf, Builtin.firstCells, hnc, storeCells]
 unfold Oper.wp
 simp [execOp, ho, resolve, invoke, builtin, hs, hx, hrun, Result.andThen]
 exact hK _ _ h
theorem R_appAny {W : World} (hgd : o.guard = none) (s x : Operand) (t : TypeId) (z : Value) (bytes : Nat)
 (ho : o.op = .call { callee := .builtin .append, args := #[s, x], argTypes := #[t, t] })
 (ht : P.underlying t = some (.slice e)) (hinfo : (P.info? e).map (fun i => (i.zero, i.size, i.bytes)) = some (some z, d.sz, bytes)) (hz : z.cells.size = d.sz) (hs0 : 0 < d.sz) (hb0 : 0 < bytes)
 (A : Option Addr) (c : Nat) (Gs : Nat → Nat → Prop) (hs : a.eval s = v) (hx : a.eval x = .slice A ys.length c) (HR : R d e W F v xs)
 (HC : CM d W A ys Gs) (hd : ∀ j b, Gs j b → ¬ F b) (hd2 : ∀ i j b, Gs i b → Gs j b → i = j) (hl : (xs.length + ys.length) * bytes ≤ 140737488355328)
 (h : ∀ v1 w1, R d e w1 (fun b => F b ∨ (∃ j, j < ys.length ∧ Gs j b) ∨ W.heap.size ≤ b) v1 (xs ++ ys) → Upd F W w1 → wpList P ops Q rest (a.put o.dst v1) w1) :
 wpList P ops Q (o :: rest) a W := by
 rcases A with _ | ad
 ·have h0 : ys = [] := by
   cases ys with
   | nil => rfl
   | cons x l => obtain ⟨ad, q, _⟩ := HC.2 (by simp); cases q
  subst h0
  exact R_appNone hgd s x t z bytes ho ht hinfo c hs hx HR (h _ _ (by rw [List.append_nil]; exact R_mono (fun _ q => .inl q) HR) (Upd.refl _ _))
 ·refine R_appRow hgd s x t z bytes ho ht hinfo hz hs0 hb0 ad c Gs hs hx HR (fun j p hj => ?_) hd hd2 hl h
  obtain ⟨ad', q, k⟩ := HC.2 (Nat.lt_of_le_of_lt (Nat.zero_le _) (List.getElem?_eq_some_iff.1 hj).1)
  cases q
  exact k j p hj
end
section
variable {α β : Type} {d : Kn α} {e : Nat}
theorem R_empty (W : World) : R d e (W.alloc (.cells #[] e)) (New W) (.slice (some ⟨W.heap.size, 0, none⟩) 0 0) [] :=
 .inr ⟨W.heap.size, 0, #[], fun _ _ => False, rfl, heap_alloc_new W _, Nat.le_refl _, Nat.le_refl _, by omega, by simp, fun _ _ h => h.elim, fun _ _ _ h => h.elim, fun i x hx => by simp at hx⟩
theorem flat_scalar (enc : α → Value) (h1 : ∀ x, (enc x).oneCell' = true) : Flat (Kn.scalar enc h1) := fun _ _ _ _ _ h => h
theorem flat_pair {a : Kn α} {b : Kn β} (ha : Flat a) (hb : Flat b) : Flat (Kn.pair a b) := by
 rintro w w' F x cs ⟨c0, c1, rfl, h0, h1⟩
 exact ⟨c0, c1, No, No, rfl, ha _ _ _ _ _ h0, hb _ _ _ _ _ h1, fun _ h => h.elim, fun _ h => h.elim, fun _ h => h.elim⟩
theorem flat_iso {d : Kn α} (f : β → α) (h : Flat d) : Flat (Kn.iso d f) := fun w w' F x cs k => h w w' F (f x) cs k
theorem CM_upd {A : Option Addr} {xs : List α} {Fs : Nat → Nat → Prop} {w w' : World} (h : Upd No w w') (k : CM d w A xs Fs) : CM d w' A xs Fs := by
 refine ⟨k.1, fun hp => ?_⟩
 obtain ⟨ad, rfl, q⟩ := k.2 hp
 refine ⟨ad, rfl, fun j p hj => ?_⟩
 obtain ⟨c, k1, k2⟩ := q j p hj
 exact ⟨c, M_upd h (fun _ _ q => q) k1, fun i u hu => h.read (k2 i u hu)⟩
end
end Go.Proofs.YtdfipdpeilegpaaSep
namespace Go.Proofs.YtdfipdpeilegpaaSep
theorem ret_int {a b : Int} (h : a = b) : Ending.returned (.int .i64 a) = .returned (.int .i64 b) := by rw [h]
theorem ret_bool {a b : Bool} (h : a = b) : Ending.returned (.bool a) = .returned (.bool b) := by rw [h]
def sumS {α : Type} (s : α → Nat) : List α → Nat
 | [] => 0
 | x :: l => s x + sumS s l
def bZ {α : Type} (s : α → Nat) (l : List α) : Nat := l.length + sumS s l
section
variable {α : Type} (m : Int → α → α) (c : α → Int) (s : α → Nat)
theorem sumS_take : ∀ (l : List α) (i : Nat) (h : i < l.length), sumS s (l.take (i + 1)) = sumS s (l.take i) + s l[i]
 | [], i, h => by simp at h
 | x :: l, 0, h => by simp [sumS]
 | x :: l, i + 1, h => by
  simp only [List.take_succ_cons, sumS, List.getElem_cons_succ]
  rw [sumS_take l i (by simpa using h)]
  omega
theorem sumS_le : ∀ (l : List α) (i : Nat), sumS s (l.take i) ≤ sumS s l
 | [], i => by simp [sumS]
 | x :: l, 0 => by simp [sumS]
 | x :: l, i + 1 => by
  have := sumS_le l i
  simp only [List.take_succ_cons, sumS]
  omega
theorem gL (l : List α) (i : Nat) (h : i < l.length) : s l[i] ≤ sumS s l := by
 have h1 := sumS_take s l i h
 have h2 := sumS_le s l (i + 1)
 omega
end
def fidx {α : Type} (p : α → Bool) : Int → List α → Int
 | _, [] => -1
 | k, x :: l => if p x then k else fidx p (k + 1) l
theorem fidx_any {α : Type} (p : α → Bool) : ∀ (l : List α) (k : Int), 0 ≤ k → decide (0 ≤ fidx p k l) = l.any p
 | [], k, _ => by simp [fidx]
 | x :: l, k, h => by
  by_cases c : p x = true
  ·simp [fidx, c, h]
  ·simp [fidx, c, fidx_any p l (k + 1) kO]
theorem fidx_yes {α : Type} (p : α → Bool) (l : List α) (i : Nat) (h : i < l.length) (hp : p l[i] = true) : fidx p i (l.drop i) = i := by
 rw [List.drop_eq_getElem_cons h]; simp [fidx, hp]
theorem fidx_no {α : Type} (p : α → Bool) (l : List α) (i : Nat) (h : i < l.length) (hp : p l[i] = false) : fidx p i (l.drop i) = fidx p ((i + 1 : Nat) : Int) (l.drop (i + 1)) := by
 rw [List.drop_eq_getElem_cons h]; simp [fidx, hp]
theorem fidx_end {α : Type} (p : α → Bool) (l : List α) (i : Nat) (h : l.length ≤ i) (k : Int) : fidx p k (l.drop i) = -1 := by
 rw [List.drop_eq_nil_of_le h]; rfl
end Go.Proofs.YtdfipdpeilegpaaSep
namespace Go.Proofs.YtdfipdpeilegpaaSep
open Go.ChangeShapes Go.WideShapes Go.RowKit
def Blk (w : World) (g t : Nat) (cs : Array Value) : Prop := w.heap[g]? = some (.cells cs t (0, 0))
section
variable {w w' : World} {g g' t : Nat} {cs : Array Value} {F : Nat → Prop}
theorem Blk.cell (h : Blk w g t cs) (o : Nat) : w.cell? ⟨g, o, none⟩ = cs[o]? := by rw [cell_of_row w g _ cs t (0, 0) h]
theorem Blk.at (h : Blk w g t cs) (o : Nat) {v : Value} (hv : cs[o]? = some v) : w.cell? ⟨g, o, none⟩ = some v := (h.cell o).trans hv
theorem Blk.free (h : Blk w g t cs) (o : Nat) : w.frozen? ⟨g, o, none⟩ = false := by unfold Blk at h; simp [World.frozen?, h]
theorem Blk.lt (h : Blk w g t cs) : g < w.heap.size := heap_lt h
theorem Blk.new (w : World) (t : Nat) (cs : Array Value) : Blk (w.alloc (.cells cs t)) w.heap.size t cs := heap_alloc_new w (.cells cs t)
theorem Blk.alloc (h : Blk w g t cs) (o : Obj) : Blk (w.alloc o) g t cs := (heap_alloc_old w o (Blk.lt h)).trans h
theorem Blk.drew (h : Blk w g t cs) : Blk w.drew g t cs := h
theorem Blk.same (h : Blk w g t cs) (i : Nat) (u : Value) : Blk (w.setCell ⟨g, i, none⟩ u) g t (cs.setIfInBounds i u) := blk_set h i u
theorem Blk.upd (h : Blk w g t cs) (hu : Upd F w w') (hF : ¬ F g) : Blk w' g t cs := (hu.block g (Blk.lt h) hF).trans h
theorem Blk.no (h : Blk w g t cs) (hu : Upd No w w') : Blk w' g t cs := h.upd hu (fun q => q)
end
section
variable {α : Type} {d : Kn α} {e : Nat} {F : Nat → Prop} {v : Value} {xs ys : List α} {P : Program} {ops : Array Oper} {rest : List Oper} {o : Oper} {a : Act} {Q : Exit → Act → World → Prop}
theorem run_appRow (W : World) (t ty : TypeId) (z : Value) (bytes : Nat)
 (ht : P.underlying t = some (.slice e)) (hinfo : (P.info? e).map (fun i => (i.zero, i.size, i.bytes)) = some (some z, d.sz, bytes)) (hz : z.cells.size = d.sz) (hs0 : 0 < d.sz) (hb0 : 0 < bytes)
 (ad : Addr) (c : Nat) (Gs : Nat → Nat → Prop) (HR : R d e W F v xs)
 (HC : ∀ j p, ys[j]? = some p → ∃ c, d.M W (Gs j) p c ∧ ∀ i u, c[i]? = some u → W.cell? (ad.add (j * d.sz + i)) = some u) (hd : ∀ j b, Gs j b → ¬ F b) (hd2 : ∀ i j b, Gs i b → Gs j b → i = j) (hl : (xs.length + ys.length) * bytes ≤ 140737488355328) :
 ∃ v1 w1, (Builtin.append_ #[t, t] ty #[v, .slice (some ad) ys.length c]).run P W = .ok v1 w1 ∧ R d e w1 (fun b => F b ∨ (∃ j, j < ys.length ∧ Gs j b) ∨ W.heap.size ≤ b) v1 (xs ++ ys) ∧ Upd F W w1 := by
 obtain ⟨i0, hi, hzz⟩ := Option.map_eq_some_iff.1 hinfo
 simp only [Prod.mk.injEq] at hzz
 obtain ⟨hz0, hz1, hz2⟩ := hzz
 have hlen : xs.length + ys.length ≤ 140737488355328 := Nat.le_trans (Nat.le_mul_of_pos_right _ hb0) hl
 obtain ⟨inner, Fs, k1, k2, k3, k4, k5⟩ := owns_of_R (R_lt HR)
 obtain ⟨news, n1, n2, n3⟩ := CM_news (d := d) HC ys.length (Nat.le_refl _)
 obtain ⟨v1, w1, hr, hown, hg, _, hat⟩ := run_append_own_at (P := P) (w := W) 0 t ty e i0 z d.sz bytes ht hi hz0 hz1 hz2 hz hs0 v xs.length inner k1 ad ys.length c news n1 (fun j u hu => (n2 j u hu).1)
  (fun u hu => by obtain ⟨j, hj⟩ := List.mem_iff_getElem?.1 hu; exact (n2 j u hj).2) (by simp only [maxLen]; omega) hl (Nat.zero_le _)
 have hU : Upd F W w1 := (Upd.of_grown hg).mono (fun b hb q => by
  have hb' : v.ownBlock = some b := q.symm
  exact (k2 b hb').1)
 have hne : ∀ b, b < W.heap.size → v.ownBlock ≠ some b → v1.ownBlock ≠ some b := by
  intro b hb hv
  rcases hat with hat | hat
  ·rw [hat]; exact hv
  ·rw [hat]
   intro q
   injection q with q
   omega
 have hfr : ∀ b, b < W.heap.size → v.ownBlock ≠ some b → w1.heap[b]? = W.heap[b]? := fun b hb hv => hg.block b hb (fun q => hv q.symm)
 refine ⟨v1, w1, hr, R_of_owns (xs := xs ++ ys) (base := 0) (inner := inner ++ news) (by rw [List.length_append]; exact hown) (fun g hg' => ?_) (fun i b => if i < xs.length then Fs i b else i - xs.length < ys.length ∧ Gs (i - xs.length) b ∧ b < W.heap.size) (fun i b hb => ?_) (fun i j b hi' hj' => ?_) (fun i x' hx' => ?_), hU⟩
 ·rcases hat with hat | hat
  ·exact .inl (k2 g (hat ▸ hg')).1
  ·rw [hat] at hg'
   injection hg' with q
   exact .inr (.inr (by rw [← q]; exact Nat.le_refl _))
 ·by_cases c : i < xs.length
  ·simp only [c, if_true] at hb
   have := k3 i b hb
   exact ⟨.inl this.1.1, hne b this.1.2 this.2⟩
  ·simp only [c, if_false] at hb
   exact ⟨.inr (.inl ⟨_, hb.1, hb.2.1⟩), hne b hb.2.2 (fun q => hd _ b hb.2.1 (k2 b q).1)⟩
 ·by_cases c : i < xs.length <;> by_cases c' : j < xs.length
  ·simp only [c, c', if_true] at hi' hj'
   exact k4 i j b hi' hj'
  ·simp only [c, c', if_true, if_false] at hi' hj'
   exact absurd (k3 i b hi').1.1 (hd _ b hj'.2.1)
  ·simp only [c, c', if_true, if_false] at hi' hj'
   exact absurd (k3 j b hj').1.1 (hd _ b hi'.2.1)
  ·simp only [c, c', if_false] at hi' hj'
   have := hd2 _ _ b hi'.2.1 hj'.2.1
   omega
 ·by_cases c : i < xs.length
  ·simp only [c, if_true]
   rw [List.getElem?_append_left c] at hx'
   have hpc : piece d.sz (inner ++ news) i = piece d.sz inner i := by
    have h1 : i * d.sz + d.sz ≤ inner.length := by rw [k1.1, ← Nat.succ_mul]; exact Nat.mul_le_mul_right _ c
    unfold piece
    rw [List.drop_append_of_le_length kO, List.take_append_of_le_length (by rw [List.length_drop]; omega)]
   rw [hpc]
   exact d.fP (fun _ q => q.1) (d.gK (fun b hb => hfr b hb.2 (k3 i b hb.1).2) (d.M_lt (k5 i x' hx')))
  ·simp only [c, if_false]
   have hil := (List.getElem?_eq_some_iff.1 hx').1
   rw [List.getElem?_append_right kO] at hx'
   have hjl : i - xs.length < ys.length := (List.getElem?_eq_some_iff.1 hx').1
   have hpc : piece d.sz (inner ++ news) i = piece d.sz news (i - xs.length) := by
    have h1 : inner.length = xs.length * d.sz := k1.1
    have h2 : i * d.sz = inner.length + (i - xs.length) * d.sz := by rw [h1, ← Nat.add_mul]; congr 1; omega
    unfold piece
    rw [h2, List.drop_append, List.drop_eq_nil_of_le (Nat.le_add_right _ _), List.nil_append, Nat.add_sub_cancel_left]
   rw [hpc]
   exact d.fP (fun _ q => ⟨hjl, q.1, q.2⟩) (d.gK (fun b hb => hfr b hb.2 (fun q => hd _ b hb.1 (k2 b q).1)) (d.M_lt (n3 _ x' hjl hx')))
end
section
variable {α : Type} {d : Kn α} {e : Nat} {w w' : World} {F : Nat → Prop} {v : Value} {xs : List α} {x : α} {cs : List Value}
end
theorem add_add (ad : Addr) (m k : Nat) (hm : 0 < m) : (ad.add m).add k = ad.add (m + k) := by
 unfold Addr.add
 by_cases hk : k = 0
 ·subst hk; simp
 ·have h1 : m ≠ 0 := by omega
  have h2 : m + k ≠ 0 := by omega
  simp [hk, h1, Nat.add_assoc]
theorem sumS_append {α : Type} (s : α → Nat) : ∀ l k : List α, sumS s (l ++ k) = sumS s l + sumS s k
 | [], k => by simp [sumS]
 | x :: l, k => by
  have := sumS_append s l k
  simp only [List.cons_append, sumS]
  omega
section
variable {P : Program} {c : Code} {Q : Exit → Act → World → Prop} {a : Act} {w : World} {t : Nat} {cs : Array Value}
end
section
variable {α : Type} {d : Kn α} {e : Nat} {F : Nat → Prop} {v : Value} {xs ys : List α} {P : Program} {ops : Array Oper} {rest : List Oper} {o : Oper} {a : Act} {Q : Exit → Act → World → Prop}
theorem run_appAny (W : World) (t ty : TypeId) (z : Value) (bytes : Nat)
 (ht : P.underlying t = some (.slice e)) (hinfo : (P.info? e).map (fun i => (i.zero, i.size, i.bytes)) = some (some z, d.sz, bytes)) (hz : z.cells.size = d.sz) (hs0 : 0 < d.sz) (hb0 : 0 < bytes)
 (A : Option Addr) (c : Nat) (Gs : Nat → Nat → Prop) (HR : R d e W F v xs) (HC : CM d W A ys Gs) (hd : ∀ j b, Gs j b → ¬ F b) (hd2 : ∀ i j b, Gs i b → Gs j b → i = j) (hl : (xs.length + ys.length) * bytes ≤ 140737488355328) :
 ∃ v1 w1, (Builtin.append_ #[t, t] ty #[v, .slice A ys.length c]).run P W = .ok v1 w1 ∧ R d e w1 (fun b => F b ∨ (∃ j, j < ys.length ∧ Gs j b) ∨ W.heap.size ≤ b) v1 (xs ++ ys) ∧ Upd F W w1 := by
 rcases A with _ | ad
 ·have h0 : ys = [] := by
   cases ys with
   | nil => rfl
   | cons x l => obtain ⟨ad, q, _⟩ := HC.2 (by simp); cases q
  subst h0
  obtain ⟨i0, hi, hzz⟩ := Option.map_eq_some_iff.1 hinfo
  refine ⟨v, W, ?_, by rw [List.append_nil]; exact R_mono (fun _ q => .inl q) HR, Upd.refl _ _⟩
  rcases HR with ⟨rfl, rfl⟩ | ⟨g, cap, cur, Fs, rfl, _, _, hnc, _⟩
  ·simp [Builtin.append_, run_underlying ht, sizeOf, typeInfo, hi, Builtin.lenOf, Builtin.firstCells]
  ·simp [Builtin.append_, run_underlying ht, sizeOf, typeInfo, hi, Builtin.lenOf, Builtin.firstCells, hnc, storeCells]
 ·refine run_appRow W t ty z bytes ht hinfo hz hs0 hb0 ad c Gs HR (fun j p hj => ?_) hd hd2 hl
  obtain ⟨ad', q, k⟩ := HC.2 (Nat.lt_of_le_of_lt (Nat.zero_le _) (List.getElem?_eq_some_iff.1 hj).1)
  cases q
  exact k j p hj
end
theorem Blk.put {w : World} {g t : Nat} {cs cs' : Array Value} (h : Blk w g t cs) (i : Nat) (u : Value) (hc : cs.setIfInBounds i u = cs') : Blk (w.setCell ⟨g, i, none⟩ u) g t cs' := hc ▸ h.same i u
theorem R_emptyB {α : Type} {d : Kn α} {e : Nat} {w : World} {g : Nat} (h : Blk w g e #[]) : R d e w (fun b => b = g) (.slice (some ⟨g, 0, none⟩) 0 0) [] :=
 .inr ⟨g, 0, #[], fun _ _ => False, rfl, h, rfl, Nat.le_refl _, by omega, by simp, fun _ _ h => h.elim, fun _ _ _ h => h.elim, fun i x hx => by simp at hx⟩
structure HP where
 p : World → (Nat → Prop) → Prop
 same : ∀ {W W' : World} {F : Nat → Prop}, (∀ b, F b → W'.heap[b]? = W.heap[b]?) → p W F → p W' F
 lt : ∀ {W : World} {F : Nat → Prop}, p W F → p W (fun b => F b ∧ b < W.heap.size)
 mono : ∀ {W : World} {F F' : Nat → Prop}, (∀ b, F b → F' b) → p W F → p W F'
def hR {α : Type} (d : Kn α) (e : Nat) (v : Value) (xs : List α) : HP := ⟨fun W F => R d e W F v xs, fun h => R_same h, fun h => R_lt h, fun h => R_mono h⟩
def hM {α : Type} (d : Kn α) (x : α) (cs : List Value) : HP := ⟨fun W F => d.M W F x cs, fun h => d.gK h, fun h => d.M_lt h, fun h => d.fP h⟩
def hB (g t : Nat) (cs : Array Value) : HP := ⟨fun W F => F g ∧ Blk W g t cs, fun h k => ⟨k.1, (h g k.1).trans k.2⟩, fun k => ⟨⟨k.1, Blk.lt k.2⟩, k.2⟩, fun h k => ⟨h g k.1, k.2⟩⟩
def Star (l : List HP) (W : World) (F : Nat → Prop) : Prop :=
 ∃ Fs : Nat → Nat → Prop, (∀ i b, Fs i b → F b) ∧ (∀ i j b, Fs i b → Fs j b → i = j) ∧ ∀ (i : Nat) (q : HP), l[i]? = some q → q.p W (Fs i)
section
variable {l l' l0 : List HP} {W W' w : World} {F F' F0 : Nat → Prop} {q : HP}
theorem Star.nil : Star [] W F := ⟨fun _ _ => False, fun _ _ h => h.elim, fun _ _ _ h => h.elim, fun i q h => by simp at h⟩
theorem Star.mono (h : Star l W F) (k : ∀ b, F b → F' b) : Star l W F' := by
 obtain ⟨Fs, h1, h2, h3⟩ := h
 exact ⟨Fs, fun i b hb => k b (h1 i b hb), h2, h3⟩
theorem Star.lt (h : Star l W F) : Star l W (fun b => F b ∧ b < W.heap.size) := by
 obtain ⟨Fs, h1, h2, h3⟩ := h
 exact ⟨fun i b => Fs i b ∧ b < W.heap.size, fun i b hb => ⟨h1 i b hb.1, hb.2⟩, fun i j b hi hj => h2 i j b hi.1 hj.1, fun i q hq => q.lt (h3 i q hq)⟩
theorem Star.same (h : Star l W F) (k : ∀ b, F b → W'.heap[b]? = W.heap[b]?) : Star l W' F := by
 obtain ⟨Fs, h1, h2, h3⟩ := h
 exact ⟨Fs, h1, h2, fun i q hq => q.same (fun b hb => k b (h1 i b hb)) (h3 i q hq)⟩
theorem Star.one (h : q.p W F) : Star [q] W F := by
 refine ⟨fun i b => i = 0 ∧ F b, fun i b hb => hb.2, fun i j b hi hj => hi.1.trans hj.1.symm, fun i q' hq => ?_⟩
 rcases i with _ | i
 ·simp only [List.getElem?_cons_zero, Option.some.injEq] at hq
  subst hq
  exact q.mono (fun b hb => ⟨rfl, hb⟩) h
 ·simp at hq
theorem Star.cons (F1 F2 : Nat → Prop) (h : q.p W F1) (k : Star l W F2) (h1 : ∀ b, F1 b → F b) (h2 : ∀ b, F2 b → F b) (hd : ∀ b, F1 b → ¬ F2 b) : Star (q :: l) W F := by
 obtain ⟨Fs, k1, k2, k3⟩ := k
 refine ⟨fun i b => match i with | 0 => F1 b | i + 1 => Fs i b, fun i b hb => ?_, fun i j b hi hj => ?_, fun i q' hq => ?_⟩
 ·rcases i with _ | i
  ·exact h1 b hb
  ·exact h2 b (k1 i b hb)
 ·rcases i with _ | i <;> rcases j with _ | j
  ·rfl
  ·exact absurd (k1 j b hj) (hd b hi)
  ·exact absurd (k1 i b hi) (hd b hj)
  ·exact congrArg (· + 1) (k2 i j b hi hj)
 ·rcases i with _ | i
  ·simp only [List.getElem?_cons_zero, Option.some.injEq] at hq
   subst hq
   exact h
  ·exact k3 i q' (by simpa using hq)
theorem Star.uncons (h : Star (q :: l) W F) : ∃ F1 F2, q.p W F1 ∧ Star l W F2 ∧ (∀ b, F1 b → F b) ∧ (∀ b, F2 b → F b) ∧ ∀ b, F1 b → ¬ F2 b := by
 obtain ⟨Fs, h1, h2, h3⟩ := h
 refine ⟨Fs 0, fun b => ∃ i, Fs (i + 1) b, h3 0 q rfl, ⟨fun i b => Fs (i + 1) b, fun i b hb => ⟨i, hb⟩, fun i j b hi hj => by have := h2 _ _ b hi hj; omega, fun i q' hq => h3 (i + 1) q' (by simpa using hq)⟩, h1 0, fun b ⟨i, hb⟩ => h1 _ b hb, fun b hb ⟨i, hi⟩ => by have := h2 _ _ b hb hi; omega⟩
theorem Star.pick (h : Star l W F) (ix : List Nat) (hn : ix.Nodup) (hl : ix.map (fun k => l[k]?) = l'.map some) : Star l' W F := by
 obtain ⟨Fs, h1, h2, h3⟩ := h
 refine ⟨fun i b => ∃ k, ix[i]? = some k ∧ Fs k b, fun i b ⟨k, _, hb⟩ => h1 k b hb, fun i j b ⟨k, hk, hb⟩ ⟨k', hk', hb'⟩ => ?_, fun i q hq => ?_⟩
 ·have e := h2 _ _ b hb hb'
  subst e
  exact (List.getElem?_inj (List.getElem?_eq_some_iff.1 hk).1 hn).1 (hk.trans hk'.symm)
 ·have e : (ix.map (fun k => l[k]?))[i]? = some (some q) := by rw [hl, List.getElem?_map, hq]; rfl
  rw [List.getElem?_map] at e
  obtain ⟨k, hk, hk2⟩ := Option.map_eq_some_iff.1 e
  exact q.mono (fun b hb => ⟨k, hk, hb⟩) (h3 k q hk2)
theorem Star.append (F1 F2 : Nat → Prop) (h : Star l0 W F1) (k : Star l W F2) (h1 : ∀ b, F1 b → F b) (h2 : ∀ b, F2 b → F b) (hd : ∀ b, F1 b → ¬ F2 b) : Star (l0 ++ l) W F := by
 induction l0 generalizing F F1 with
 | nil => exact k.mono h2
 | cons q l0 ih =>
  obtain ⟨G1, G2, a1, a2, a3, a4, a5⟩ := h.uncons
  refine Star.cons (l := l0 ++ l) G1 (fun b => G2 b ∨ F2 b) a1 (ih (F := fun b => G2 b ∨ F2 b) G2 a2 (fun b hb => .inl hb) (fun b hb => .inr hb) (fun b hb => hd b (a4 b hb))) (fun b hb => h1 b (a3 b hb)) (fun b hb => hb.elim (fun q => h1 b (a4 b q)) (h2 b)) (fun b hb q => ?_)
  rcases q with q | q
  ·exact a5 b hb q
  ·exact hd b (a3 b hb) q
theorem Star.split (h : Star (l0 ++ l) W F) : ∃ F1 F2, Star l0 W F1 ∧ Star l W F2 ∧ (∀ b, F1 b → F b) ∧ (∀ b, F2 b → F b) ∧ ∀ b, F1 b → ¬ F2 b := by
 obtain ⟨Fs, h1, h2, h3⟩ := h
 refine ⟨fun b => ∃ i, i < l0.length ∧ Fs i b, fun b => ∃ i, Fs (l0.length + i) b, ⟨fun i b => i < l0.length ∧ Fs i b, fun i b hb => ⟨i, hb⟩, fun i j b hi hj => h2 i j b hi.2 hj.2, fun i q hq => ?_⟩, ⟨fun i b => Fs (l0.length + i) b, fun i b hb => ⟨i, hb⟩, fun i j b hi hj => by have := h2 _ _ b hi hj; omega, fun i q hq => ?_⟩, fun b ⟨i, _, hb⟩ => h1 i b hb, fun b ⟨i, hb⟩ => h1 _ b hb, fun b ⟨i, hi, hb⟩ ⟨j, hj⟩ => by have := h2 _ _ b hb hj; omega⟩
 ·have hi := (List.getElem?_eq_some_iff.1 hq).1
  exact q.mono (fun b hb => ⟨hi, hb⟩) (h3 i q (by rw [List.getElem?_append_left hi]; exact hq))
 ·exact h3 _ q (by rw [List.getElem?_append_right (Nat.le_add_right _ _), Nat.add_sub_cancel_left]; exact hq)
def St (w : World) (F0 : Nat → Prop) (l : List HP) (W : World) : Prop := Upd F0 w W ∧ Star l W (fun b => F0 b ∨ w.heap.size ≤ b)
theorem St.enter : St w No [] w := ⟨Upd.refl _ _, Star.nil⟩
theorem St.enterF (h : Star l w F0) : St w F0 l w := ⟨Upd.refl _ _, h.mono fun _ hb => .inl hb⟩
theorem St.pick (h : St w F0 l W) (ix : List Nat) (hn : ix.Nodup) (hl : ix.map (fun k => l[k]?) = l'.map some) : St w F0 l' W := ⟨h.1, h.2.pick ix hn hl⟩
theorem St.get (h : St w F0 l W) (i : Nat) (hq : l[i]? = some q) : ∃ F, q.p W F := by
 obtain ⟨_, Fs, _, _, h3⟩ := h
 exact ⟨_, h3 i q hq⟩
theorem St.blk (h : St w F0 l W) (i : Nat) {g t : Nat} {cs : Array Value} (hq : l[i]? = some (hB g t cs)) : Blk W g t cs := by
 obtain ⟨F, hF⟩ := h.get i hq
 exact hF.2
theorem St.size (h : St w F0 l W) : w.heap.size ≤ W.heap.size := h.1.size
theorem St.frame (h : St w F0 (l0 ++ l) W) : ∃ F1 : Nat → Prop, Star l0 W F1 ∧ (∀ b, F1 b → (F0 b ∨ w.heap.size ≤ b) ∧ b < W.heap.size) ∧ ∀ l' W', St W F1 l' W' → St w F0 (l' ++ l) W' := by
 obtain ⟨F1, F2, a1, a2, a3, a4, a5⟩ := h.2.split
 refine ⟨fun b => F1 b ∧ b < W.heap.size, a1.lt, fun b hb => ⟨a3 b hb.1, hb.2⟩, fun l' W' h' => ⟨Upd.trans h.1 h'.1 (fun _ _ q => q) (fun b hb q => (a3 b q.1).resolve_right kO), ?_⟩⟩
 have hs := h.1.size
 refine Star.append _ (fun b => F2 b ∧ b < W.heap.size) h'.2 (a2.lt.same (fun b hb => h'.1.block b hb.2 (fun q => a5 b q.1 hb.1))) (fun b hb => ?_) (fun b hb => a4 b hb.1) (fun b hb q => ?_)
 ·rcases hb with hb | hb
  ·exact a3 b hb.1
  ·right; omega
 ·rcases hb with hb | hb
  ·exact a5 b hb.1 q.1
  ·have := q.2; omega
theorem St.call (h : St w F0 l W) (k : St W No l' W') : St w F0 (l' ++ l) W' := by
 have h2 : St w F0 ([] ++ l) W := h
 obtain ⟨F1, _, _, h3⟩ := h2.frame
 exact h3 l' W' ⟨k.1.mono (fun _ _ q => q.elim), k.2.mono (fun b hb => hb.elim (fun q => q.elim) .inr)⟩
theorem St.no (h : St w F0 l W) (hu : Upd No W W') : St w F0 l W' := h.call (l' := []) ⟨hu, Star.nil⟩
theorem St.new (h : St w F0 l W) (hu : Upd No W W') (hq : q.p W' (New W)) : St w F0 (q :: l) W' := h.call (l' := [q]) ⟨hu, (Star.one hq).mono fun _ hb => .inr hb⟩
theorem St.news (h : St w F0 l W) (hu : Upd No W W') (hq : Star l' W' (New W)) : St w F0 (l' ++ l) W' := h.call ⟨hu, hq.mono fun _ hb => .inr hb⟩
theorem St.drew (h : St w F0 l W) : St w F0 l W.drew := h.no (Upd.refl _ _).drew
theorem St.alloc (h : St w F0 l W) (t : Nat) (cs : Array Value) : St w F0 (hB W.heap.size t cs :: l) (W.alloc (.cells cs t)) := h.new ((Upd.refl _ _).alloc _) ⟨Nat.le_refl _, Blk.new _ _ _⟩
theorem St.turn (h : St w F0 (q :: l) W) : ∃ F1 : Nat → Prop, q.p W F1 ∧ (∀ b, F1 b → (F0 b ∨ w.heap.size ≤ b) ∧ b < W.heap.size) ∧ ∀ q' W', Upd F1 W W' → q'.p W' (fun b => F1 b ∨ W.heap.size ≤ b) → St w F0 (q' :: l) W' := by
 obtain ⟨F1, a1, a2, a3⟩ := St.frame (l0 := [q]) (l := l) h
 refine ⟨F1, ?_, a2, fun q' W' hu hq => a3 [q'] W' ⟨hu, Star.one hq⟩⟩
 obtain ⟨Fs, b1, _, b3⟩ := a1
 exact q.mono (b1 0) (b3 0 q rfl)
theorem St.fin1 (h : St w No [q] W) : q.p W (New w) ∧ Upd No w W := by
 obtain ⟨h1, Fs, b1, _, b3⟩ := h
 exact ⟨q.mono (fun b hb => (b1 0 b hb).resolve_left (fun z => z)) (b3 0 q rfl), h1⟩
theorem St.star (h : St w No l W) : Star l W (New w) := h.2.mono fun _ hb => hb.resolve_left (fun z => z)
theorem St.swap (h : St w F0 (l0 ++ l) W) (k : ∀ F, Star l0 W F → Star l' W F) : St w F0 (l' ++ l) W := by
 refine ⟨h.1, ?_⟩
 obtain ⟨F1, F2, a1, a2, a3, a4, a5⟩ := h.2.split
 exact Star.append F1 F2 (k F1 a1) a2 a3 a4 a5
end
def Cat (W : World) (a : Addr) (cs : List Value) : Prop := ∀ j u, cs[j]? = some u → W.cell? (a.add j) = some u
theorem add_add' (a : Addr) (m k : Nat) : (a.add m).add k = a.add (m + k) := by
 unfold Addr.add
 by_cases hm : m = 0 <;> by_cases hk : k = 0 <;> simp [hm, hk, Nat.add_assoc]
theorem add_zero' (a : Addr) : a = a.add 0 := rfl
theorem Blk.at' {W : World} {g t : Nat} {cs : Array Value} (h : Blk W g t cs) : Cat W ⟨g, 0, none⟩ cs.toList := fun j u hu => by
 rw [add_plain, h.cell]
 simpa using hu
theorem Cat.cell {W : World} {a : Addr} {cs : List Value} (h : Cat W a cs) (k : Nat) {v : Value} (hv : cs[k]? = some v) : W.cell? (a.add k) = some v := h k v hv
theorem Cat.sub {W : World} {a : Addr} {cs sub : List Value} (h : Cat W a cs) (k m : Nat) (hs : (cs.drop k).take m = sub) : Cat W (a.add k) sub := fun j u hu => by
 subst hs
 rw [add_add']
 refine h (k + j) u ?_
 rw [List.getElem?_take] at hu
 split at hu
 ·rwa [List.getElem?_drop] at hu
 ·simp at hu
theorem Cat.upd {W W' : World} {a : Addr} {cs : List Value} (h : Cat W a cs) (hu : Upd No W W') : Cat W' a cs := fun j u hj => hu.read (h j u hj)
theorem eD {α : Type} {d : Kn α} {W : World} {A : Option Addr} {xs : List α} (h : C d W A xs) (i : Nat) (hi : i < xs.length) : ∃ ad cs, A = some ad ∧ d.K W xs[i] cs ∧ Cat W (ad.add (i * d.sz)) cs := by
 obtain ⟨ad, c, h1, _, h3, h4⟩ := C_get h i hi
 exact ⟨ad, c, h1, h3, fun j u hu => by rw [add_add']; exact h4 j u hu⟩
def bC (n : Nat) (x : Nat → Value) (live : List (Nat × Value)) : Act := ⟨((List.range n).map fun i => (live.lookup i).getD (x i)).toArray, []⟩
def evl (n : Nat) (live : List (Nat × Value)) : Operand → Option Value
 | .tmp t => if t < n then live.lookup t else none
 | .const v => some v
 | .func f => some (.func (.func f) #[] #[])
 | .global g => some (.pointer (some ⟨g, 0, none⟩))
section
variable {n : Nat} {x : Nat → Value} {live live' : List (Nat × Value)}
theorem bN {y : Operand} {v : Value} (h : evl n live y = some v) : (bC n x live).eval y = v := by
 cases y with
 | tmp t =>
  simp only [evl] at h
  split at h
  ·rename_i ht
   simp [Act.eval, bC, ht, h]
  ·cases h
 | const u => exact Option.some.inj h
 | func f => exact Option.some.inj h
 | global g => exact Option.some.inj h
theorem evls_list : ∀ (a : List Operand) (b : List Value), a.map (evl n live) = b.map some → a.map (bC n x live).eval = b
 | [], [], _ => rfl
 | [], _ :: _, q => by cases q
 | _ :: _, [], q => by cases q
 | y :: a, u :: b, q => by
  simp only [List.map_cons, List.cons.injEq] at q
  rw [List.map_cons, evls_list a b q.2, bN q.1]
theorem evls_ok {ys : Array Operand} {vs : Array Value} (h : ys.toList.map (evl n live) = vs.toList.map some) : ys.map (bC n x live).eval = vs := by
 rw [← Array.toList_inj, Array.toList_map]
 exact evls_list _ _ h
theorem dU {d : Nat} (_hd : d < n) (v : Value) : (bC n x live).put (some d) v = bC n x ((d, v) :: live) := by
 unfold Act.put bC
 simp only [Act.mk.injEq, and_true]
 apply Array.ext
 ·simp
 ·intro i h1 h2
  simp only [Array.size_setIfInBounds, List.size_toArray, List.length_map, List.length_range] at h1
  simp only [List.getElem_toArray, List.getElem_map, List.getElem_range, List.lookup_cons]
  by_cases e : d = i
  ·subst e
   simp
  ·simp [e, show (i == d) = false from by simp; omega]
theorem actOf_drop (h : ∀ k v, (k, v) ∈ live' → live.lookup k = some v) : ∃ x', bC n x live = bC n x' live' := by
 refine ⟨fun i => (live.lookup i).getD (x i), ?_⟩
 unfold bC
 congr 3
 funext i
 cases e : live'.lookup i with
 | none => rfl
 | some v =>
  have : (i, v) ∈ live' := by
   clear h
   induction live' with
   | nil => cases e
   | cons p l ih =>
    obtain ⟨k, u⟩ := p
    rw [List.lookup_cons] at e
    by_cases hk : i = k
    ·subst hk
     simp at e
     subst e
     exact List.mem_cons_self
    ·have hk' : (i == k) = false := by simp [hk]
     rw [hk'] at e
     exact List.mem_cons_of_mem _ (ih e)
  rw [h i v this]
  rfl
end
section
variable {P : Program} {ops : Array Oper} {Q : Exit → Act → World → Prop} {K : Act → World → Prop} {n i d ty : Nat} {x : Nat → Value} {live : List (Nat × Value)} {W w : World} {F0 : Nat → Prop} {l l' : List HP} {pos : String} {aft : Array Edge} {v : Value} {y z : Operand}
theorem op_ok {o : Oper} {a : Act} (ho : ops[i]? = some o) (hg : o.guard = none) (h : o.wp P a W K Q) : wpOp P ops Q i K a W := by
 unfold wpOp
 simp only [ho]
 rw [if_pos (by simp [Region.wanted, hg])]
 exact .inl h
def Rn (P : Program) (o : Oper) (a : Act) (W : World) (v : Value) : Prop := (execOp a.eval o).run P W = .ok (.value v) W
theorem aB {dst : Option Nat} {op : Op} (ho : ops[i]? = some ⟨dst, op, ty, pos, aft, none⟩) (hr : Rn P ⟨dst, op, ty, pos, aft, none⟩ (bC n x live) W v) (hd : dst = some d) (hdn : decide (d < n) = true) (h : K (bC n x ((d, v) :: live)) W) : wpOp P ops Q i K (bC n x live) W := by
 subst hd
 refine op_ok ho rfl ?_
 unfold Oper.wp
 rw [hr]
 simp only [Oper.upon]
 rw [dU (of_decide_eq_true hdn)]
 exact h
theorem aC {dst : Option Nat} (hx : evl n live y = some v) : Rn P ⟨dst, .move y, ty, pos, aft, none⟩ (bC n x live) W v := by
 unfold Rn
 simp [execOp, bN hx]
theorem aG {dst : Option Nat} (hx : evl n live y = some v) : Rn P ⟨dst, .assign y, ty, pos, aft, none⟩ (bC n x live) W v := by
 unfold Rn
 simp [execOp, bN hx]
def fM (P : Program) (s f off : Nat) : Prop := ∀ (a : Addr) (W : World), (Instr.fieldAt s (.pointer (some a)) f).run P W = .ok (.pointer (some (a.add off))) W
theorem aN {dst : Option Nat} {s f off : Nat} {a : Addr} (hf : fM P s f off) (hx : evl n live y = some (.pointer (some a))) : Rn P ⟨dst, .fieldAddr s y f, ty, pos, aft, none⟩ (bC n x live) W (.pointer (some (a.add off))) := by
 unfold Rn
 simp [execOp, bN hx, hf a W]
theorem iB {dst : Option Nat} {t : Nat} {a : Addr} (hA : ∀ w, (isAgg t).run P w = .ok false w) (hx : evl n live y = some (.pointer (some a))) (hc : W.cell? a = some v) : Rn P ⟨dst, .load t y, ty, pos, aft, none⟩ (bC n x live) W v := by
 unfold Rn
 simp [execOp, bN hx, Instr.loadAt, Instr.sureAddr, loadVar, hA, run_load, hc]
theorem eF {dst : Option Nat} {t m : Nat} {a : Addr} {cs : List Value} (hA : ∀ w, (isAgg t).run P w = .ok true w) (hS : ∀ w, (sizeOf t).run P w = .ok m w) (hx : evl n live y = some (.pointer (some a))) (hc : Cat W a cs) (hm : cs.length = m) : Rn P ⟨dst, .load t y, ty, pos, aft, none⟩ (bC n x live) W (.agg cs.toArray) := by
 subst hm
 unfold Rn
 simp [execOp, bN hx, Instr.loadAt, Instr.sureAddr, loadVar, hA, hS, run_loadCells_list (P := P) W a cs hc]
theorem rn_index {dst : Option Nat} {t e sz k len cap : Nat} {ad : Addr} (hu : ∀ w, (underlying t).run P w = .ok (.slice e) w) (hS : ∀ w, (sizeOf e).run P w = .ok sz w) (hx : evl n live y = some (.slice (some ad) len cap)) (hz : evl n live z = some (.int .i64 k)) (hk : k < len) : Rn P ⟨dst, .indexAddr t y z, ty, pos, aft, none⟩ (bC n x live) W (.pointer (some (ad.add (k * sz)))) := by
 unfold Rn
 have h1 : (0 : Int) ≤ (k : Int) ∧ (k : Int) < (len : Int) := by omega
 simp [execOp, bN hx, bN hz, Instr.indexAt, asIntOf, hu, hS, h1]
 intro hle
 omega
theorem dG {dst : Option Nat} {t e len cap : Nat} {A : Option Addr} (hu : ∀ w, (underlying t).run P w = .ok (.slice e) w) (hx : evl n live y = some (.slice A len cap)) : Rn P ⟨dst, .call { callee := .builtin .len, args := #[y], argTypes := #[t] }, ty, pos, aft, none⟩ (bC n x live) W (.int .i64 len) := by
 unfold Rn
 simp [execOp, bN hx, resolve, invoke, builtin, Builtin.len_, hu, goInt]
theorem rn_cmp {dst : Option Nat} {b : Bool} {op : BinOp} {xt yt : Nat} {p q : Int} (hx : evl n live y = some (.int .i64 p)) (hz : evl n live z = some (.int .i64 q)) (hb : binOp op xt (.int .i64 p) (.int .i64 q) = pure (.bool b)) : Rn P ⟨dst, .binOp op xt y z yt, ty, pos, aft, none⟩ (bC n x live) W (.bool b) := by
 unfold Rn
 simp [execOp, bN hx, bN hz, eqGuard_at_int, hb]
theorem rn_arith {dst : Option Nat} {op : BinOp} {xt yt : Nat} {p q r : Int} (hx : evl n live y = some (.int .i64 p)) (hz : evl n live z = some (.int .i64 q)) (hb : binOp op xt (.int .i64 p) (.int .i64 q) = pure (.int .i64 r)) : Rn P ⟨dst, .binOp op xt y z yt, ty, pos, aft, none⟩ (bC n x live) W (.int .i64 r) := by
 unfold Rn
 simp [execOp, bN hx, bN hz, eqGuard_at_int, hb]
theorem eX {dst : Option Nat} {b : Bool} {xt : Nat} (hx : evl n live y = some (.bool b)) : Rn P ⟨dst, .unOp .not xt y, ty, pos, aft, none⟩ (bC n x live) W (.bool (!b)) := by
 unfold Rn
 simp [execOp, bN hx, Op.unary]
theorem d9 {dst : Option Nat} {a : Addr} (hx : evl n live y = some (.pointer (some a))) : Rn P ⟨dst, .nilCheck y, ty, pos, aft, none⟩ (bC n x live) W (.pointer (some a)) := by
 unfold Rn
 simp [execOp, bN hx]
theorem fB {dst : Option Nat} {vs : Array Value} {k : Nat} (hx : evl n live y = some (.tuple vs)) (hv : vs[k]? = some v) : Rn P ⟨dst, .extract y k, ty, pos, aft, none⟩ (bC n x live) W v := by
 unfold Rn
 simp [execOp, bN hx, Instr.extract, hv]
theorem aK {dst : Option Nat} {f : FuncId} {ys : Array Operand} {tys : Array Nat} {vs : Array Value} {R : Ending → World → Prop} (ho : ops[i]? = some ⟨dst, .call { callee := .value (.func f), args := ys, argTypes := tys }, ty, pos, aft, none⟩) (hf : ∀ us w, (callFunc f us).run P w = .ok (.enter f us) w) (hv : ys.toList.map (evl n live) = vs.toList.map some) (hd : dst = some d) (hdn : decide (d < n) = true) (hc : Calls P f vs W R) (h : ∀ e W', R e W' → ∃ v, e = .returned v ∧ K (bC n x ((d, v) :: live)) W') : wpOp P ops Q i K (bC n x live) W := by
 subst hd
 refine op_ok ho rfl ?_
 have e : ys.map (bC n x live).eval = vs := evls_ok hv
 have hrun : (execOp (bC n x live).eval ⟨some d, .call { callee := .value (.func f), args := ys, argTypes := tys }, ty, pos, aft, none⟩).run P W = .ok (.enter f vs) W := by
  simp [execOp, resolve, Act.eval, Deferred.ofValue, invoke, e, hf]
 unfold Oper.wp
 rw [hrun]
 simp only [Oper.upon]
 refine hc.mono fun e' W' hR => ?_
 obtain ⟨u, rfl, hk⟩ := h e' W' hR
 show K ((bC n x live).put (some d) u) W'
 rw [dU (of_decide_eq_true hdn)]
 exact hk
theorem dD {dst : Option Nat} {t : Nat} {z : Value} (ho : ops[i]? = some ⟨dst, .alloc t, ty, pos, aft, none⟩) (hz : ∀ w, (zeroValue t).run P w = .ok z w) (hd : dst = some d) (hdn : decide (d < n) = true) (H : St w F0 l W) (h : ∀ g W', Upd No W W' → St w F0 (hB g t z.cells :: l) W' → K (bC n x ((d, .pointer (some ⟨g, 0, none⟩)) :: live)) W') : wpOp P ops Q i K (bC n x live) W := by
 subst hd
 refine op_ok ho rfl ?_
 have hrun : (execOp (bC n x live).eval ⟨some d, .alloc t, ty, pos, aft, none⟩).run P W = .ok (.value (.pointer (some ⟨W.heap.size, 0, none⟩))) (W.alloc (.cells z.cells t)) := by
  simp [execOp, Instr.alloc, hz, newVar, newRow]
 unfold Oper.wp
 rw [hrun]
 simp only [Oper.upon]
 rw [dU (of_decide_eq_true hdn)]
 exact h _ _ ((Upd.refl _ _).alloc _) (H.alloc t z.cells)
theorem eG {dst : Option Nat} {t : Nat} (ho : ops[i]? = some ⟨dst, .box t y, ty, pos, aft, none⟩) (hx : evl n live y = some v) (hd : dst = some d) (hdn : decide (d < n) = true) (H : St w F0 l W) (h : ∀ g W', Upd No W W' → St w F0 (hB g t v.cells :: l) W' → K (bC n x ((d, .pointer (some ⟨g, 0, none⟩)) :: live)) W') : wpOp P ops Q i K (bC n x live) W := by
 subst hd
 refine op_ok ho rfl ?_
 have hrun : (execOp (bC n x live).eval ⟨some d, .box t y, ty, pos, aft, none⟩).run P W = .ok (.value (.pointer (some ⟨W.heap.size, 0, none⟩))) (W.alloc (.cells v.cells t)) := by
  simp [execOp, bN hx, Instr.box, newVar, newRow]
 unfold Oper.wp
 rw [hrun]
 simp only [Oper.upon]
 rw [dU (of_decide_eq_true hdn)]
 exact h _ _ ((Upd.refl _ _).alloc _) (H.alloc t v.cells)
def put (cs : Array Value) (k : Nat) (vs : List Value) : Array Value := (cs.toList.take k ++ vs ++ cs.toList.drop (k + vs.length)).toArray
theorem fQ {t g tb k m : Nat} {cs : Array Value} (ho : ops[i]? = some ⟨none, .store t y z, ty, pos, aft, none⟩) (hS : ∀ w, (sizeOf t).run P w = .ok m w) (hx : evl n live y = some (.pointer (some (Addr.add ⟨g, 0, none⟩ k)))) (hz : evl n live z = some v) (hm : v.cells.size = m) (hk : k + m ≤ cs.size) (h1 : ∀ u ∈ v.cells.toList, u.oneCell' = true) (H : St w F0 (hB g tb cs :: l) W) (h : ∀ W', Upd (fun b => b = g) W W' → St w F0 (hB g tb (put cs k v.cells.toList) :: l) W' → K (bC n x live) W') : wpOp P ops Q i K (bC n x live) W := by
 have hb : Blk W g tb cs := H.blk 0 rfl
 refine op_ok ho rfl ?_
 subst hm
 have hst := run_storeCells_at P g k tb v.cells.toList 0 cs W hb (by simp; omega) h1
 rw [add_plain] at hx
 have hrun : (execOp (bC n x live).eval ⟨none, .store t y z, ty, pos, aft, none⟩).run P W = .ok .skip (W.setRow g (put cs k v.cells.toList)) := by
  simp only [execOp, bN hx, bN hz, Instr.storeAt, Instr.sureAddr, storeVar, Sem.run_bind, Sem.run_pure, Result.andThen_ok, hS, ne_eq, not_true, if_false]
  have := hst
  simp only [Nat.add_zero] at this
  rw [this]
  rfl
 unfold Oper.wp
 rw [hrun]
 simp only [Oper.upon]
 have hB' : Blk (W.setRow g (put cs k v.cells.toList)) g tb (put cs k v.cells.toList) := setRow_heap W g cs _ tb (0, 0) hb
 have hU : Upd (fun b => b = g) W (W.setRow g (put cs k v.cells.toList)) := by
  refine ⟨rfl, rfl, rfl, by simp [World.setRow], fun b hb' hF => ?_⟩
  simp only [World.setRow, Array.getElem?_modify]
  rw [if_neg (fun e => hF e.symm)]
 refine h _ hU ?_
 obtain ⟨F1, a1, a2, a3⟩ := H.turn
 exact a3 _ _ (hU.mono (fun b _ e => e ▸ a1.1)) ⟨.inl a1.1, hB'⟩
theorem op_store0 {t g tb m : Nat} {cs : Array Value} (ho : ops[i]? = some ⟨none, .store t y z, ty, pos, aft, none⟩) (hS : ∀ w, (sizeOf t).run P w = .ok m w) (hx : evl n live y = some (.pointer (some ⟨g, 0, none⟩))) (hz : evl n live z = some v) (hm : v.cells.size = m) (hk : m ≤ cs.size) (h1 : ∀ u ∈ v.cells.toList, u.oneCell' = true) (H : St w F0 (hB g tb cs :: l) W) (h : ∀ W', Upd (fun b => b = g) W W' → St w F0 (hB g tb (put cs 0 v.cells.toList) :: l) W' → K (bC n x live) W') : wpOp P ops Q i K (bC n x live) W :=
 fQ (k := 0) ho hS hx hz hm kO h1 H h
theorem aI {id : Nat} {a : Act} (is : List Nat) (hl : List.range ops.size = is) (h : wpOps P ops Q is a W) : (Code.region id ops false).wp P Q a W := wp_region (hl ▸ h)
theorem aA {a : Act} {rest : List Nat} (h : wpOp P ops Q i (wpOps P ops Q rest) a W) : wpOps P ops Q (i :: rest) a W := by
 rw [wpOps_cons]
 exact h
theorem aF {a : Act} (h : Q .normal a W) : wpOps P ops Q [] a W := h
theorem aH {a : Act} (h : K a W) : Exit.then K Q .normal a W := h
theorem dR {a : Act} {id : Nat} (h : Q .normal a W) : Exit.inBlock id Q .normal a W := h
theorem inB_x {a : Act} {id : Nat} (h : Q .normal a W) : Exit.inBlock id Q (.exit id) a W := by
 show (if id = id then Q .normal a W else Q (.exit id) a W)
 rw [if_pos rfl]
 exact h
theorem aW {c1 c2 : Code} {p : Prop} [Decidable p] (hc : evl n live y = some (.bool (decide p))) (ht : p → c1.wp P Q (bC n x live) W) (hf : ¬ p → c2.wp P Q (bC n x live) W) : (Code.cond y c1 c2).wp P Q (bC n x live) W := by
 by_cases hp : p
 ·exact wp_cond_true (by rw [bN hc, decide_eq_true hp]) (ht hp)
 ·exact wp_cond_false (by rw [bN hc, decide_eq_false hp]) (hf hp)
theorem fI {c1 c2 : Code} (hc : evl n live y = some (.bool true)) (ht : c1.wp P Q (bC n x live) W) : (Code.cond y c1 c2).wp P Q (bC n x live) W := wp_cond_true (bN hc) ht
theorem gI {c1 c2 : Code} (hc : evl n live y = some (.bool false)) (ht : c2.wp P Q (bC n x live) W) : (Code.cond y c1 c2).wp P Q (bC n x live) W := wp_cond_false (bN hc) ht
theorem reg_cut {c : Code} {a : Act} (Rel : Act → World → Prop) (h : c.wp P (fun e a' W' => match e with | .normal => Rel a' W' | .panic _ => False | e => Q e a' W') a W) (k : ∀ a' W', Rel a' W' → Q .normal a' W') : c.wp P Q a W :=
 wp_mono h fun e a' W' hq => by
  cases e with
  | normal => exact k a' W' hq
  | panic ch => exact hq.elim
  | _ => exact hq
theorem enter {f : FuncId} {fn : Func} {c : Code} {args : Array Value} {R : Ending → World → Prop} (n : Nat) (live : List (Nat × Value)) (hf : P.funcs[f]? = some fn) (hb : fn.body = some c) (ha : (⟨args ++ Array.replicate (fn.ntmps - args.size) undef, []⟩ : Act) = bC n (fun _ => undef) live) (h : ∀ x, c.wp P (bodyPost P fn R) (bC n x live) w) : Calls P f args w R :=
 calls_of_wp hf hb (ha ▸ h _)
theorem aM {fn : Func} {e : Exit} {t : Nat} {R : Ending → World → Prop} (he : e = .ret ∨ e = .normal) (hr : fn.results = #[.tmp t]) (hx : evl n live (.tmp t) = some v) (h : R (.returned v) W) : bodyPost P fn R e (bC n x live) W := by
 have e2 : (bC n x live).tmps.getD t undef = v := bN (y := .tmp t) hx
 have hrun : (results fn (bC n x live).tmps).run P W = .ok v W := by
  simp only [results, hr]
  simp at e2
  simp [e2]
 rcases he with rfl | rfl <;> exact ⟨rfl, v, hrun, h⟩
theorem run_cell {t g tb m : Nat} {cs : Array Value} (hA : ∀ w, (isAgg t).run P w = .ok true w) (hS : ∀ w, (sizeOf t).run P w = .ok m w) (hb : Blk W g tb cs) (hm : cs.size = m) : (loadVar t ⟨g, 0, none⟩).run P W = .ok (.agg cs) W := by
 subst hm
 have hl := run_loadCells_list (P := P) W ⟨g, 0, none⟩ cs.toList hb.at'
 simp only [Array.length_toList, Array.toArray_toList] at hl
 simp [loadVar, hA, hS, hl]
theorem bA {fn : Func} {e : Exit} {p t g tb m : Nat} {cs : Array Value} {R : Ending → World → Prop} (he : e = .ret ∨ e = .normal) (hr : fn.results = #[.cell p t]) (hA : ∀ w, (isAgg t).run P w = .ok true w) (hS : ∀ w, (sizeOf t).run P w = .ok m w) (hx : evl n live (.tmp p) = some (.pointer (some ⟨g, 0, none⟩))) (hb : Blk W g tb cs) (hm : cs.size = m) (h : R (.returned (.agg cs)) W) : bodyPost P fn R e (bC n x live) W := by
 have e2 : (bC n x live).tmps.getD p undef = .pointer (some ⟨g, 0, none⟩) := bN (y := .tmp p) hx
 have hl := run_cell hA hS hb hm
 have hrun : (results fn (bC n x live).tmps).run P W = .ok (.agg cs) W := by
  simp only [results, hr]
  simp at e2
  simp [e2, asAddr, hl]
 rcases he with rfl | rfl <;> exact ⟨rfl, _, hrun, h⟩
theorem fH {fn : Func} {e : Exit} {p t g tb m j : Nat} {cs : Array Value} {R : Ending → World → Prop} (he : e = .ret ∨ e = .normal) (hr : fn.results = #[.cell p t, .tmp j]) (hA : ∀ w, (isAgg t).run P w = .ok true w) (hS : ∀ w, (sizeOf t).run P w = .ok m w) (hx : evl n live (.tmp p) = some (.pointer (some ⟨g, 0, none⟩))) (hy : evl n live (.tmp j) = some v) (hb : Blk W g tb cs) (hm : cs.size = m) (h : R (.returned (.tuple #[.agg cs, v])) W) : bodyPost P fn R e (bC n x live) W := by
 have e2 : (bC n x live).tmps.getD p undef = .pointer (some ⟨g, 0, none⟩) := bN (y := .tmp p) hx
 have e3 : (bC n x live).tmps.getD j undef = v := bN (y := .tmp j) hy
 have hl := run_cell hA hS hb hm
 have hrun : (results fn (bC n x live).tmps).run P W = .ok (.tuple #[.agg cs, v]) W := by
  simp only [results, hr]
  simp at e2 e3
  simp [e2, e3, asAddr, hl]
 rcases he with rfl | rfl <;> exact ⟨rfl, _, hrun, h⟩
end
section
variable {P : Program} {ops : Array Oper} {Q : Exit → Act → World → Prop} {md : Region.Mode} {S : World → Prop} {t : Nat}
def wpAnyS (P : Program) (md : Region.Mode) (ops : Array Oper) (Q : Exit → Act → World → Prop) (S : World → Prop) (t : Nat) : Nat → Array Bool → Act → World → Prop
 | 0, listed, a, w => Region.ready md ops listed = [] ∧ Q .normal a w
 | fuel + 1, listed, a, w =>
  (Region.ready md ops listed = [] → Q .normal a w) ∧
  ∀ i ∈ Region.ready md ops listed, wpOp P ops Q i (fun a' w' => ((listed.setIfInBounds i true).getD t false = false → S w') ∧ wpAnyS P md ops Q S t fuel (listed.setIfInBounds i true) a' w') a w
theorem wpAny_of_S : ∀ (fuel : Nat) (listed : Array Bool) (a : Act) (w : World), wpAnyS P md ops Q S t fuel listed a w → wpAny P md ops Q fuel listed a w
 | 0, _, _, _, h => h
 | fuel + 1, _, _, _, h => ⟨h.1, fun i hi => wpOp_mono (fun a' w' h' => wpAny_of_S fuel _ a' w' h'.2) (h.2 i hi)⟩
def waits (md : Region.Mode) (ops : Array Oper) (t i : Nat) : Bool := i != t && (match ops[t]? with | none => true | some o => o.after.any fun e => Region.binds md e && e.on == i)
theorem anyS_first {i : Nat} {oi : Oper} {v : Value} (hi : ops[i]? = some oi) (hsel : ∀ (j : Nat) (o : Oper) cs b, ops[j]? = some o → o.op ≠ .select cs b) (hw : waits md ops t i = true)
 (hQ : ∀ c a w, Q (.panic c) (a.put oi.dst v) w → Q (.panic c) a w) :
 ∀ (fuel : Nat) (listed : Array Bool) (a : Act) (w : World),
  (∀ j oj, ops[j]? = some oj → j ≠ i → listed.getD j true = false → (∀ e ∈ oj.after, Region.binds md e = true → e.on ≠ i) → oi.apart ops oj = true) →
  i ∈ Region.ready md ops listed → YieldsIf P ops S oi v a → S w → listed.getD t false = false →
  wpAnyS P md ops Q S t fuel (listed.setIfInBounds i true) (a.put oi.dst v) w → wpAnyS P md ops Q S t (fuel + 1) listed a w := by
 simp only [waits, Bool.and_eq_true, bne_iff_ne, ne_eq] at hw
 obtain ⟨hit, hw⟩ := hw
 intro fuel
 induction fuel with
 | zero =>
  intro listed a w _ hr hy hS ht H
  refine ⟨fun h => (by rw [h] at hr; cases hr), fun j hj => ?_⟩
  by_cases hji : j = i
  ·subst hji; exact hy.wpOp hi hS ⟨fun _ => hS, H⟩
  ·have := ready_mono hj hji
   rw [H.1] at this
   cases this
 | succ fuel ih =>
  intro listed a w hfree hr hy hS ht H
  refine ⟨fun h => (by rw [h] at hr; cases hr), fun j hj => ?_⟩
  by_cases hji : j = i
  ·subst hji; exact hy.wpOp hi hS ⟨fun _ => hS, H⟩
  ·have h1 := H.2 j (ready_mono hj hji)
   obtain ⟨hjun, oj, hoj, hall⟩ := mem_ready.1 hj
   have hnot : ∀ e ∈ oj.after, Region.binds md e = true → e.on ≠ i := fun e he hb heq => by
    have h1 := hall e he hb
    have h0 := (mem_ready.1 hr).1
    rw [heq] at h1
    rcases Nat.lt_or_ge i listed.size with h' | h'
    ·simp [h'] at h0 h1; rw [h0] at h1; cases h1
    ·simp [Array.getElem?_eq_none h'] at h1
   have hjt : j ≠ t := by
    rintro rfl
    rw [hoj] at hw
    obtain ⟨e, he, hb⟩ := Array.any_eq_true'.1 hw
    simp only [Bool.and_eq_true, beq_iff_eq] at hb
    exact hnot e he hb.1 hb.2
   have ht' : (listed.setIfInBounds j true).getD t false = false := by rw [getD_set_ne false hjt]; exact ht
   have h2 := wpOp_putIf hoj (hfree j oj hoj hji hjun hnot) (fun cs b => hsel i oi cs b hi) (fun cs b => hsel j oj cs b hoj) hQ hy h1
   have hfree' : ∀ k ok, ops[k]? = some ok → k ≠ i → (listed.setIfInBounds j true).getD k true = false →
    (∀ e ∈ ok.after, Region.binds md e = true → e.on ≠ i) → oi.apart ops ok = true := fun k ok hk hki hun hno => by
    refine hfree k ok hk hki ?_ hno
    by_cases hjk : j = k
    ·subst hjk; exact hjun
    ·rw [getD_set_ne true hjk] at hun; exact hun
   have ht2 : ((listed.setIfInBounds i true).setIfInBounds j true).getD t false = false := by rw [getD_set_ne false hjt, getD_set_ne false hit]; exact ht
   refine wpOp_mono (fun a' w' h3 => ⟨fun _ => h3.2.1 ht2, ih (listed.setIfInBounds j true) a' w' hfree' (ready_mono hr (Ne.symm hji)) h3.1 (h3.2.1 ht2) ht' ?_⟩) h2
   rw [Array.setIfInBounds_comm _ _ hji]
   exact h3.2.2
theorem aP {i d n : Nat} {x : Nat → Value} {live : List (Nat × Value)} {dst : Option Nat} {op : Op} {ty : Nat} {pos : String} {aft : Array Edge} {v : Value} {fuel : Nat} {listed : Array Bool} {w : World} (hi : ops[i]? = some ⟨dst, op, ty, pos, aft, none⟩)
 (hs : Region.noSelect ops = true) (hf : Region.free md ops listed i = true) (hr : (Region.ready md ops listed).contains i = true) (hw : waits md ops t i = true) (ht : listed.getD t false = false)
 (hQ : ∀ c a w, Q (.panic c) (a.put dst v) w → Q (.panic c) a w) (hd : dst = some d) (hdn : decide (d < n) = true) (hS : S w) (hy : ∀ W, S W → Rn P ⟨dst, op, ty, pos, aft, none⟩ (bC n x live) W v)
 (h : wpAnyS P md ops Q S t fuel (listed.setIfInBounds i true) (bC n x ((d, v) :: live)) w) : wpAnyS P md ops Q S t (fuel + 1) listed (bC n x live) w := by
 subst hd
 exact anyS_first hi (Region.noSelect_spec hs) hw hQ fuel listed _ w (Region.free_spec hi hf) (by simpa using hr) (.inl ⟨rfl, hy⟩) hS ht (by rw [dU (of_decide_eq_true hdn)]; exact h)
theorem bH {i : Nat} {fuel : Nat} {listed : Array Bool} {a : Act} {w : World} (hr : Region.ready md ops listed = [i])
 (h : wpOp P ops Q i (fun a' w' => ((listed.setIfInBounds i true).getD t false = false → S w') ∧ wpAnyS P md ops Q S t fuel (listed.setIfInBounds i true) a' w') a w) : wpAnyS P md ops Q S t (fuel + 1) listed a w :=
 ⟨fun h0 => (by rw [hr] at h0; cases h0), fun j hj => (by rw [hr] at hj; rw [List.mem_singleton.1 hj]; exact h)⟩
theorem dA {listed : Array Bool} {a : Act} {w : World} (hr : Region.ready md ops listed = []) (h : Q .normal a w) : ∀ fuel, wpAnyS P md ops Q S t fuel listed a w
 | 0 => ⟨hr, h⟩
 | _ + 1 => ⟨fun _ => h, by rw [hr]; simp⟩
theorem dF {id : Nat} {a : Act} {w : World} (S : World → Prop) (t : Nat) (hm : P.follows .mixedOrders = true) (h : wpAnyS P .any ops Q S t ops.size (Array.replicate ops.size false) a w.drew) : (Code.region id ops true).wp P Q a w :=
 wp_region_any hm (wpAny_of_S _ _ _ _ h)
end
section
variable {P : Program} {ops : Array Oper} {Q : Exit → Act → World → Prop} {K : Act → World → Prop} {n i d ty : Nat} {x : Nat → Value} {live : List (Nat × Value)} {W w : World} {F0 : Nat → Prop} {l l' : List HP} {pos : String} {aft : Array Edge} {v : Value} {y z : Operand}
section
variable {dst : Option Nat} {xt yt : Nat} {p q : Int} (hx : evl n live y = some (.int .i64 p)) (hz : evl n live z = some (.int .i64 q))
include hx hz
theorem eY : Rn P ⟨dst, .binOp .lss xt y z yt, ty, pos, aft, none⟩ (bC n x live) W (.bool (decide (p < q))) := rn_cmp hx hz (by simp [binOp, Op.intCmp])
theorem gF : Rn P ⟨dst, .binOp .leq xt y z yt, ty, pos, aft, none⟩ (bC n x live) W (.bool (decide (p ≤ q))) := rn_cmp hx hz (by simp [binOp, Op.intCmp])
theorem rn_gtr : Rn P ⟨dst, .binOp .gtr xt y z yt, ty, pos, aft, none⟩ (bC n x live) W (.bool (decide (q < p))) := rn_cmp hx hz (by simp [binOp, Op.intCmp])
theorem rn_geq : Rn P ⟨dst, .binOp .geq xt y z yt, ty, pos, aft, none⟩ (bC n x live) W (.bool (decide (q ≤ p))) := rn_cmp hx hz (by simp [binOp, Op.intCmp])
theorem bD : Rn P ⟨dst, .binOp .eql xt y z yt, ty, pos, aft, none⟩ (bC n x live) W (.bool (decide (p = q))) := rn_cmp hx hz (by
 by_cases e : p = q
 ·simp [binOp, Op.intCmp, e]
 ·have e' : (p == q) = false := beq_eq_false_iff_ne.2 e
  simp [binOp, Op.intCmp, e', e])
theorem gM : Rn P ⟨dst, .binOp .neq xt y z yt, ty, pos, aft, none⟩ (bC n x live) W (.bool (decide (¬ p = q))) := rn_cmp hx hz (by
 by_cases e : p = q
 ·simp [binOp, Op.intCmp, e]
 ·have e' : (p == q) = false := beq_eq_false_iff_ne.2 e
  simp [binOp, Op.intCmp, bne, e', e])
theorem rn_addW : Rn P ⟨dst, .binOp .add xt y z yt, ty, pos, aft, none⟩ (bC n x live) W (.int .i64 (IntKind.i64.wrap (p + q))) := rn_arith hx hz (by simp [binOp, Op.intArith])
theorem rn_subW : Rn P ⟨dst, .binOp .sub xt y z yt, ty, pos, aft, none⟩ (bC n x live) W (.int .i64 (IntKind.i64.wrap (p - q))) := rn_arith hx hz (by simp [binOp, Op.intArith])
end
theorem wrap_id {p : Int} (h : -9223372036854775808 ≤ p ∧ p ≤ 9223372036854775807) : IntKind.i64.wrap p = p := (IntWalk.i64_left p).trans (IntWalk.wrap64_in _ h)
theorem rn_add {dst : Option Nat} {xt yt : Nat} {p q : Int} (hx : evl n live y = some (.int .i64 p)) (hz : evl n live z = some (.int .i64 q)) (hb : -9223372036854775808 ≤ p + q ∧ p + q ≤ 9223372036854775807) : Rn P ⟨dst, .binOp .add xt y z yt, ty, pos, aft, none⟩ (bC n x live) W (.int .i64 (p + q)) := by
 have := rn_addW (P := P) (dst := dst) (ty := ty) (pos := pos) (aft := aft) (x := x) (W := W) (xt := xt) (yt := yt) hx hz
 rwa [wrap_id hb] at this
theorem rn_sub {dst : Option Nat} {xt yt : Nat} {p q : Int} (hx : evl n live y = some (.int .i64 p)) (hz : evl n live z = some (.int .i64 q)) (hb : -9223372036854775808 ≤ p - q ∧ p - q ≤ 9223372036854775807) : Rn P ⟨dst, .binOp .sub xt y z yt, ty, pos, aft, none⟩ (bC n x live) W (.int .i64 (p - q)) := by
 have := rn_subW (P := P) (dst := dst) (ty := ty) (pos := pos) (aft := aft) (x := x) (W := W) (xt := xt) (yt := yt) hx hz
 rwa [wrap_id hb] at this
theorem fJ {dst : Option Nat} {xt yt k : Nat} (hx : evl n live y = some (.int .i64 (k : Int))) (hz : evl n live z = some (.int .i64 1)) (hb : k < 9223372036854775807) : Rn P ⟨dst, .binOp .add xt y z yt, ty, pos, aft, none⟩ (bC n x live) W (.int .i64 ((k + 1 : Nat) : Int)) := by
 have := rn_add (P := P) (dst := dst) (ty := ty) (pos := pos) (aft := aft) (x := x) (W := W) (xt := xt) (yt := yt) hx hz kO
 simpa using this
theorem dQ {dst : Option Nat} {xt yt : Nat} {s t : ByteArray} (hx : evl n live y = some (.string s)) (hz : evl n live z = some (.string t)) : Rn P ⟨dst, .binOp .eql xt y z yt, ty, pos, aft, none⟩ (bC n x live) W (.bool (s.toList == t.toList)) := by
 unfold Rn
 simp [execOp, bN hx, bN hz, eqGuard_at_string, binOp, Op.stringOp]
theorem aJ {dst : Option Nat} {c : Operand} {b : Bool} {u1 u2 : Value} (hc : evl n live c = some (.bool b)) (hx : evl n live y = some u1) (hz : evl n live z = some u2) (hv : v = if b then u1 else u2) : Rn P ⟨dst, .pick c y z, ty, pos, aft, none⟩ (bC n x live) W v := by
 unfold Rn
 subst hv
 cases b <;> simp [execOp, bN hc, bN hx, bN hz, asBool]
theorem bB {dst : Option Nat} {t : Nat} {ps : Array (Nat × Operand)} {vs : List (Nat × Value)} {cells : Array Value} (hv : ps.toList.map (fun p => (p.1, evl n live p.2)) = vs.map (fun p => (p.1, some p.2))) (hb : P.built t vs = some cells) : Rn P ⟨dst, .build t ps, ty, pos, aft, none⟩ (bC n x live) W (.agg cells) := by
 unfold Rn
 have e : (ps.map fun (i, x') => (i, (bC n x live).eval x')).toList = vs := by
  clear hb
  rw [Array.toList_map]
  generalize ps.toList = pl at hv
  induction pl generalizing vs with
  | nil => cases vs with
   | nil => rfl
   | cons a l => cases hv
  | cons a pl ih => cases vs with
   | nil => cases hv
   | cons b l =>
    simp only [List.map_cons, List.cons.injEq, Prod.mk.injEq] at hv
    obtain ⟨⟨h1, h2⟩, h3⟩ := hv
    obtain ⟨b1, b2⟩ := b
    simp only at h1 h2
    rw [List.map_cons, ih h3]
    subst h1
    show (a.1, (bC n x live).eval a.2) :: l = _
    rw [bN h2]
 have := run_build (P := P) W t (ps.map fun (i, x') => (i, (bC n x live).eval x')) cells (by rw [e]; exact hb)
 simp [execOp, this]
theorem fill_all (vs cs : Array Value) (h : vs.size = cs.size) : vs.zipIdx.foldl (fun cs (c, j) => cs.setIfInBounds (0 + j) c) cs = vs := by
 have key : ∀ (l : List Value) (k : Nat) (cs : Array Value), k + l.length = cs.size → (l.zipIdx k).foldl (fun cs (p : Value × Nat) => cs.setIfInBounds (0 + p.2) p.1) cs = (cs.toList.take k ++ l).toArray := by
  intro l
  induction l with
  | nil =>
   intro k cs hk
   simp only [List.zipIdx_nil, List.foldl_nil, List.append_nil]
   rw [List.take_of_length_le (by simp at hk ⊢; omega)]
  | cons a l ih =>
   intro k cs hk
   rw [List.zipIdx_cons, List.foldl_cons, ih (k + 1) _ (by simp at hk ⊢; omega)]
   congr 1
   simp only [Nat.zero_add, Array.toList_setIfInBounds]
   apply List.ext_getElem?
   intro j
   simp only [List.length_cons] at hk
   have hkc : k < cs.toList.length := by simp; omega
   rcases Nat.lt_trichotomy j k with hj | hj | hj
   ·rw [List.getElem?_append_left (by simp; omega), List.getElem?_append_left (by simp; omega), List.getElem?_take, List.getElem?_take, if_pos kO, if_pos hj, List.getElem?_set, if_neg kO]
   ·subst hj
    rw [List.getElem?_append_left (by simp; omega), List.getElem?_append_right (by simp; omega), List.getElem?_take, if_pos kO, List.getElem?_set, if_pos rfl, if_pos hkc]
    simp [show j - min j cs.size = 0 by omega]
   ·rw [List.getElem?_append_right (by simp; omega), List.getElem?_append_right (by simp; omega)]
    simp only [List.length_take, List.length_set, Array.length_toList]
    rw [show j - min (k + 1) cs.size = j - (k + 1) by omega, show j - min k cs.size = (j - (k + 1)) + 1 by omega, List.getElem?_cons_succ]
 have := key vs.toList 0 cs (by simpa using h)
 simp only [List.take_zero, List.nil_append, Array.toArray_toList] at this
 rw [← Array.foldl_toList, Array.toList_zipIdx]
 exact this
theorem gW {dst : Option Nat} {t e m : Nat} {z0 : Value} (ho : ops[i]? = some ⟨dst, .buildSlice t 1 #[(0, y)], ty, pos, aft, none⟩) (hu : ∀ w, (underlying t).run P w = .ok (.slice e) w) (hS : ∀ w, (sizeOf e).run P w = .ok m w) (hm : 0 < m ∧ m ≤ 4096) (hz : ∀ w, (zeroValue e).run P w = .ok z0 w) (hx : evl n live y = some v) (hv : v.cells.size = m) (hd : dst = some d) (hdn : decide (d < n) = true) (H : St w F0 l W) (h : ∀ g W', Upd No W W' → St w F0 (hB g e v.cells :: l) W' → K (bC n x ((d, .slice (some ⟨g, 0, none⟩) 1 1) :: live)) W') : wpOp P ops Q i K (bC n x live) W := by
 subst hd
 refine op_ok ho rfl ?_
 have h0 : ¬ (1 * m > 2 ^ 24) := by omega
 have h1 : ¬ (1 * m = 0) := by omega
 have hf : Instr.fill (fun i => some (i * m, m)) ((Array.range (1 * m)).map (fun k => z0.cells[k % z0.cells.size]!)) [(0, v)] = some v.cells := by
  simp only [Instr.fill, Nat.zero_mul, Nat.zero_add, hv, ne_eq, not_true, Nat.one_mul, Array.size_map, Array.size_range, gt_iff_lt, Nat.lt_irrefl]
  have := fill_all v.cells ((Array.range m).map (fun k => z0.cells[k % z0.cells.size]!)) (by simp [hv])
  simp only [Nat.zero_add] at this
  rw [this]
  simp
 have hrun : (execOp (bC n x live).eval ⟨some d, .buildSlice t 1 #[(0, y)], ty, pos, aft, none⟩).run P W = .ok (.value (.slice (some ⟨W.heap.size, 0, none⟩) 1 1)) (W.alloc (.cells v.cells e)) := by
  simp only [execOp, List.map_toArray, List.map_cons, List.map_nil, bN hx, Instr.buildSlice, Sem.run_bind, hu, hS, Result.andThen_ok, h0, if_false, h1, hz, Sem.run_pure, hf]
  simp [newRow]
 unfold Oper.wp
 rw [hrun]
 simp only [Oper.upon]
 rw [dU (of_decide_eq_true hdn)]
 exact h _ _ ((Upd.refl _ _).alloc _) (H.alloc e v.cells)
theorem op_slice0 {α : Type} {dk : Kn α} {dst : Option Nat} {t e m : Nat} (ho : ops[i]? = some ⟨dst, .buildSlice t 0 #[], ty, pos, aft, none⟩) (hu : ∀ w, (underlying t).run P w = .ok (.slice e) w) (hS : ∀ w, (sizeOf e).run P w = .ok m w) (hd : dst = some d) (hdn : decide (d < n) = true) (H : St w F0 l W) (h : ∀ A W', Upd No W W' → St w F0 (hR dk e (.slice A 0 0) [] :: l) W' → K (bC n x ((d, .slice A 0 0) :: live)) W') : wpOp P ops Q i K (bC n x live) W := by
 subst hd
 refine op_ok ho rfl ?_
 have hrun : (execOp (bC n x live).eval ⟨some d, .buildSlice t 0 #[], ty, pos, aft, none⟩).run P W = .ok (.value (.slice (some ⟨W.heap.size, 0, none⟩) 0 0)) (W.alloc (.cells #[] e)) := by
  simp [execOp, Instr.buildSlice, hu, hS, Instr.fill, newRow, Array.range_zero']
 unfold Oper.wp
 rw [hrun]
 simp only [Oper.upon]
 rw [dU (of_decide_eq_true hdn)]
 exact h _ _ ((Upd.refl _ _).alloc _) (H.new ((Upd.refl _ _).alloc _) (R_mono (F' := New W) (fun b hb => by subst hb; exact Nat.le_refl _) (R_emptyB (Blk.new _ _ _))))
theorem St.add0 {q : HP} (H : St w F0 l W) (hq : q.p W No) : St w F0 (q :: l) W := ⟨H.1, Star.cons No _ hq H.2 (fun _ h => h.elim) (fun _ h => h) (fun _ h => h.elim)⟩
theorem Rn_append {t e bytes c : Nat} {α : Type} {dk : Kn α} {F : Nat → Prop} {z0 : Value} {xs ys : List α} {A : Option Addr} {Gs : Nat → Nat → Prop} {dst : Option Nat}
 (ht : P.underlying t = some (.slice e)) (hinfo : (P.info? e).map (fun i => (i.zero, i.size, i.bytes)) = some (some z0, dk.sz, bytes)) (hz : z0.cells.size = dk.sz) (hs0 : 0 < dk.sz) (hb0 : 0 < bytes)
 (hx : evl n live y = some v) (hy : evl n live z = some (.slice A ys.length c)) (HR : R dk e W F v xs) (HC : CM dk W A ys Gs) (hd : ∀ j b, Gs j b → ¬ F b) (hd2 : ∀ i j b, Gs i b → Gs j b → i = j) (hl : (xs.length + ys.length) * bytes ≤ 140737488355328) :
 ∃ B c' W', (execOp (bC n x live).eval ⟨dst, .call { callee := .builtin .append, args := #[y, z], argTypes := #[t, t] }, ty, pos, aft, none⟩).run P W = .ok (.value (.slice B (xs.length + ys.length) c')) W' ∧ R dk e W' (fun b => F b ∨ (∃ j, j < ys.length ∧ Gs j b) ∨ W.heap.size ≤ b) (.slice B (xs.length + ys.length) c') (xs ++ ys) ∧ Upd F W W' := by
 obtain ⟨v1, w1, hrun, h1, h2⟩ := run_appAny (P := P) W t ty z0 bytes ht hinfo hz hs0 hb0 A c Gs HR HC hd hd2 hl
 obtain ⟨B, c', e'⟩ := R_slice h1
 rw [List.length_append] at e'
 subst e'
 exact ⟨B, c', w1, by simp [execOp, resolve, invoke, builtin, bN hx, bN hy, hrun], h1, h2⟩
theorem op_appendA {t e bytes c : Nat} {α : Type} {dk : Kn α} {z0 : Value} {xs ys : List α} {A : Option Addr} {l0 : List HP} {dst : Option Nat}
 (ho : ops[i]? = some ⟨dst, .call { callee := .builtin .append, args := #[y, z], argTypes := #[t, t] }, ty, pos, aft, none⟩)
 (ht : P.underlying t = some (.slice e)) (hinfo : (P.info? e).map (fun i => (i.zero, i.size, i.bytes)) = some (some z0, dk.sz, bytes)) (hz : z0.cells.size = dk.sz) (hs0 : 0 < dk.sz) (hb0 : 0 < bytes)
 (hx : evl n live y = some v) (hy : evl n live z = some (.slice A ys.length c)) (hl : (xs.length + ys.length) * bytes ≤ 140737488355328) (hd : dst = some d) (hdn : decide (d < n) = true)
 (H : St w F0 ((hR dk e v xs :: l0) ++ l) W) (HC : ∀ F, Star l0 W F → ∃ Gs, CM dk W A ys Gs ∧ (∀ j b, Gs j b → F b) ∧ ∀ i j b, Gs i b → Gs j b → i = j)
 (h : ∀ B c W', St w F0 (hR dk e (.slice B (xs.length + ys.length) c) (xs ++ ys) :: l) W' → K (bC n x ((d, .slice B (xs.length + ys.length) c) :: live)) W') : wpOp P ops Q i K (bC n x live) W := by
 subst hd
 refine op_ok ho rfl ?_
 obtain ⟨F1, a1, _, a3⟩ := H.frame
 obtain ⟨FR, F2, b1, b2, b3, b4, b5⟩ := a1.uncons
 obtain ⟨Gs, g1, g2, g3⟩ := HC F2 b2
 obtain ⟨B, c', W', hrun, h1, h2⟩ := Rn_append (P := P) (ty := ty) (pos := pos) (aft := aft) (x := x) (dst := some d) ht hinfo hz hs0 hb0 hx hy b1 g1 (fun j b hb q => b5 b q (g2 j b hb)) g3 hl
 unfold Oper.wp
 rw [hrun]
 simp only [Oper.upon]
 rw [dU (of_decide_eq_true hdn)]
 refine h B c' W' (a3 [hR dk e (.slice B (xs.length + ys.length) c') (xs ++ ys)] W' ⟨h2.mono (fun b _ q => b3 b q), Star.one (R_mono (fun b q => ?_) h1)⟩)
 rcases q with q | ⟨j, _, q⟩ | q
 ·exact .inl (b3 b q)
 ·exact .inl (b4 b (g2 j b q))
 ·exact .inr q
theorem CM_one {α : Type} {dk : Kn α} {g e : Nat} {p : α} {cs : Array Value} {Fp : Nat → Prop} (hB : Blk W g e cs) (hp : dk.M W Fp p cs.toList) : CM dk W (some ⟨g, 0, none⟩) [p] (fun j b => j = 0 ∧ Fp b) := by
 refine ⟨by simp, fun _ => ⟨_, rfl, fun j q hj => ?_⟩⟩
 rcases j with _ | j
 ·simp only [List.getElem?_cons_zero, Option.some.injEq] at hj
  subst hj
  exact ⟨cs.toList, dk.fP (fun _ q => ⟨rfl, q⟩) hp, fun k u hu => by rw [Nat.zero_mul, Nat.zero_add]; exact hB.at' k u hu⟩
 ·simp at hj
theorem op_append1 {t e bytes g : Nat} {α : Type} {dk : Kn α} {z0 : Value} {xs : List α} {p : α} {cs : Array Value} {dst : Option Nat}
 (ho : ops[i]? = some ⟨dst, .call { callee := .builtin .append, args := #[y, z], argTypes := #[t, t] }, ty, pos, aft, none⟩)
 (ht : P.underlying t = some (.slice e)) (hinfo : (P.info? e).map (fun i => (i.zero, i.size, i.bytes)) = some (some z0, dk.sz, bytes)) (hz : z0.cells.size = dk.sz) (hs0 : 0 < dk.sz) (hb0 : 0 < bytes)
 (hx : evl n live y = some v) (hy : evl n live z = some (.slice (some ⟨g, 0, none⟩) 1 1)) (hl : (xs.length + 1) * bytes ≤ 140737488355328) (hd : dst = some d) (hdn : decide (d < n) = true)
 (H : St w F0 (hR dk e v xs :: hB g e cs :: hM dk p cs.toList :: l) W)
 (h : ∀ B c W', St w F0 (hR dk e (.slice B (xs.length + 1) c) (xs ++ [p]) :: l) W' → K (bC n x ((d, .slice B (xs.length + 1) c) :: live)) W') : wpOp P ops Q i K (bC n x live) W :=
 op_appendA (ys := [p]) (l0 := [hB g e cs, hM dk p cs.toList]) ho ht hinfo hz hs0 hb0 hx hy hl hd hdn H (fun F hF => by
  obtain ⟨Fg, F3, c1, c2, c3, c4, c5⟩ := hF.uncons
  obtain ⟨Fp, F4, d1, _, d3, _, _⟩ := c2.uncons
  exact ⟨_, CM_one c1.2 d1, fun j b hb => c4 b (d3 b hb.2), fun i j b hi hj => hi.1.trans hj.1.symm⟩) h
theorem op_append1f {t e bytes g : Nat} {α : Type} {dk : Kn α} {z0 : Value} {xs : List α} {p : α} {cs : Array Value} {dst : Option Nat}
 (ho : ops[i]? = some ⟨dst, .call { callee := .builtin .append, args := #[y, z], argTypes := #[t, t] }, ty, pos, aft, none⟩)
 (ht : P.underlying t = some (.slice e)) (hinfo : (P.info? e).map (fun i => (i.zero, i.size, i.bytes)) = some (some z0, dk.sz, bytes)) (hz : z0.cells.size = dk.sz) (hs0 : 0 < dk.sz) (hb0 : 0 < bytes)
 (hx : evl n live y = some v) (hy : evl n live z = some (.slice (some ⟨g, 0, none⟩) 1 1)) (hp : dk.M W No p cs.toList) (hl : (xs.length + 1) * bytes ≤ 140737488355328) (hd : dst = some d) (hdn : decide (d < n) = true)
 (H : St w F0 (hR dk e v xs :: hB g e cs :: l) W)
 (h : ∀ B c W', St w F0 (hR dk e (.slice B (xs.length + 1) c) (xs ++ [p]) :: l) W' → K (bC n x ((d, .slice B (xs.length + 1) c) :: live)) W') : wpOp P ops Q i K (bC n x live) W :=
 op_appendA (ys := [p]) (l0 := [hB g e cs]) ho ht hinfo hz hs0 hb0 hx hy hl hd hdn H (fun F hF => by
  obtain ⟨Fg, F3, c1, _, c3, _, _⟩ := hF.uncons
  exact ⟨_, CM_one c1.2 hp, fun j b hb => hb.2.elim, fun i j b hi hj => hi.1.trans hj.1.symm⟩) h
theorem op_appendN {t e bytes c : Nat} {α : Type} {dk : Kn α} {z0 : Value} {xs ys : List α} {A : Option Addr} {dst : Option Nat}
 (ho : ops[i]? = some ⟨dst, .call { callee := .builtin .append, args := #[y, z], argTypes := #[t, t] }, ty, pos, aft, none⟩)
 (ht : P.underlying t = some (.slice e)) (hinfo : (P.info? e).map (fun i => (i.zero, i.size, i.bytes)) = some (some z0, dk.sz, bytes)) (hz : z0.cells.size = dk.sz) (hs0 : 0 < dk.sz) (hb0 : 0 < bytes)
 (hf : Flat dk) (hx : evl n live y = some v) (hy : evl n live z = some (.slice A ys.length c)) (hC : C dk W A ys) (hl : (xs.length + ys.length) * bytes ≤ 140737488355328) (hd : dst = some d) (hdn : decide (d < n) = true)
 (H : St w F0 (hR dk e v xs :: l) W)
 (h : ∀ B c W', St w F0 (hR dk e (.slice B (xs.length + ys.length) c) (xs ++ ys) :: l) W' → K (bC n x ((d, .slice B (xs.length + ys.length) c) :: live)) W') : wpOp P ops Q i K (bC n x live) W :=
 op_appendA (l0 := []) ho ht hinfo hz hs0 hb0 hx hy hl hd hdn H (fun _ _ => ⟨_, CM_of_flat hf hC, fun _ _ q => q.elim, fun _ _ _ q => q.elim⟩) h
theorem aU {t g tb m : Nat} {old cs : Array Value} (ho : ops[i]? = some ⟨none, .store t y z, ty, pos, aft, none⟩) (hS : ∀ w, (sizeOf t).run P w = .ok m w) (hx : evl n live y = some (.pointer (some ⟨g, 0, none⟩))) (hz : evl n live z = some (.agg cs)) (hm : cs.size = m) (hk : old.size = m) (h1 : ∀ u ∈ cs.toList, u.oneCell' = true) (H : St w F0 (hB g tb old :: l) W) (h : ∀ W', Upd (fun b => b = g) W W' → St w F0 (hB g tb cs :: l) W' → K (bC n x live) W') : wpOp P ops Q i K (bC n x live) W := by
 refine op_store0 ho hS hx hz hm kO h1 H (fun W' hu H' => h W' hu ?_)
 have e : put old 0 (Value.agg cs).cells.toList = cs := by
  simp only [put, Value.cells, List.take_zero, List.nil_append, Nat.zero_add]
  rw [List.drop_eq_nil_of_le (by simp; omega), List.append_nil, Array.toArray_toList]
 rw [← e]
 exact H'
theorem bL {dst : Option Nat} {t m g tb : Nat} {cs : Array Value} (hA : ∀ w, (isAgg t).run P w = .ok true w) (hS : ∀ w, (sizeOf t).run P w = .ok m w) (hx : evl n live y = some (.pointer (some ⟨g, 0, none⟩))) (hb : Blk W g tb cs) (hm : cs.size = m) : Rn P ⟨dst, .load t y, ty, pos, aft, none⟩ (bC n x live) W (.agg cs) := eF hA hS hx hb.at' (by simpa using hm)
theorem aS {dst : Option Nat} {t k g tb : Nat} {cs : Array Value} (hA : ∀ w, (isAgg t).run P w = .ok false w) (hx : evl n live y = some (.pointer (some (Addr.add ⟨g, 0, none⟩ k)))) (hb : Blk W g tb cs) (hv : cs[k]? = some v) : Rn P ⟨dst, .load t y, ty, pos, aft, none⟩ (bC n x live) W v := iB hA hx (hb.at'.cell k (by simpa using hv))
theorem fT {dst : Option Nat} {t k : Nat} {a : Addr} {cs : List Value} (hA : ∀ w, (isAgg t).run P w = .ok false w) (hx : evl n live y = some (.pointer (some (a.add k)))) (hc : Cat W a cs) (hv : cs[k]? = some v) : Rn P ⟨dst, .load t y, ty, pos, aft, none⟩ (bC n x live) W v := iB hA hx (hc.cell k hv)
theorem bW {dst : Option Nat} {t e sz k len cap : Nat} {A : Option Addr} {ad : Addr} (hu : ∀ w, (underlying t).run P w = .ok (.slice e) w) (hS : ∀ w, (sizeOf e).run P w = .ok sz w) (hx : evl n live y = some (.slice A len cap)) (hz : evl n live z = some (.int .i64 (k : Int))) (hA : A = some ad) (hk : k < len) : Rn P ⟨dst, .indexAddr t y z, ty, pos, aft, none⟩ (bC n x live) W (.pointer (some (ad.add (k * sz)))) := by
 subst hA
 exact rn_index hu hS hx hz hk
theorem Cat.cell0 {W : World} {a : Addr} {cs : List Value} {v : Value} (h : Cat W a cs) (hv : cs[0]? = some v) : W.cell? a = some v := h 0 v hv
theorem St.rowC {α : Type} {dk : Kn α} {e m c : Nat} {A : Option Addr} {xs : List α} (h : St w F0 l W) (i : Nat) (hq : l[i]? = some (hR dk e (.slice A m c) xs)) : C dk W A xs := by
 obtain ⟨F, hF⟩ := h.get i hq
 exact R_C hF
theorem St.rowLe {α : Type} {dk : Kn α} {e m c : Nat} {A : Option Addr} {xs : List α} (h : St w F0 l W) (i : Nat) (hq : l[i]? = some (hR dk e (.slice A m c) xs)) : xs.length ≤ c ∧ m = xs.length := by
 obtain ⟨F, hF⟩ := h.get i hq
 obtain ⟨A', c', he, hl, _⟩ := R_reads hF
 cases he
 exact ⟨hl, rfl⟩
theorem St.kn {α : Type} {dk : Kn α} {p : α} {cs : List Value} (h : St w F0 l W) (i : Nat) (hq : l[i]? = some (hM dk p cs)) : dk.K W p cs := by
 obtain ⟨F, hF⟩ := h.get i hq
 exact dk.K_of_M hF
theorem aR {a : Act} (h : Q .ret a W) : Exit.then K Q .ret a W := h
theorem aY {a : Act} {id : Nat} (h : Q .ret a W) : Exit.inBlock id Q .ret a W := h
theorem dH {a : Act} {id : Nat} (h : Q (.exit id) a W) : Exit.then K Q (.exit id) a W := h
theorem fC {c1 c2 : Code} {b : Bool} (hc : evl n live y = some (.bool b)) (ht : b = true → c1.wp P Q (bC n x live) W) (hf : b = false → c2.wp P Q (bC n x live) W) : (Code.cond y c1 c2).wp P Q (bC n x live) W := by
 cases b
 ·exact wp_cond_false (bN hc) (hf rfl)
 ·exact wp_cond_true (bN hc) (ht rfl)
theorem wanted_G {o oj : Oper} {j dj : Nat} {want b : Bool} (hg : o.guard = some (j, want)) (hj : ops[j]? = some oj) (hdj : oj.dst = some dj) (hv : evl n live (.tmp dj) = some (.bool b)) : Region.wanted o (yielded ops (bC n x live).tmps) = (b == want) := by
 have e2 := bN (x := x) hv
 simp only [Act.eval, Array.getD_eq_getD_getElem?] at e2
 unfold Region.wanted yielded
 simp only [hg, hj, Option.bind_some, hdj]
 cases e : (bC n x live).tmps[dj]? with
 | none => rw [e] at e2; cases e2
 | some u =>
  rw [e] at e2
  simp only [Option.getD_some] at e2
  subst e2
  simp
theorem aT {dst : Option Nat} {op : Op} {j dj : Nat} {want : Bool} {oj : Oper} (ho : ops[i]? = some ⟨dst, op, ty, pos, aft, some (j, want)⟩) (hj : ops[j]? = some oj) (hdj : oj.dst = some dj) (hv : evl n live (.tmp dj) = some (.bool want)) (h : ∀ ops' : Array Oper, ops'[i]? = some ⟨dst, op, ty, pos, aft, none⟩ → wpOp P ops' Q i K (bC n x live) W) : wpOp P ops Q i K (bC n x live) W := by
 have hi : i < ops.size := (Array.getElem?_eq_some_iff.1 ho).1
 have h1 := h (ops.setIfInBounds i ⟨dst, op, ty, pos, aft, none⟩) (by simp [hi])
 unfold wpOp at h1 ⊢
 rw [show (ops.setIfInBounds i ⟨dst, op, ty, pos, aft, none⟩)[i]? = some ⟨dst, op, ty, pos, aft, none⟩ by simp [hi]] at h1
 simp only [ho] at h1 ⊢
 have hw : Region.wanted ⟨dst, op, ty, pos, aft, some (j, want)⟩ (yielded ops (bC n x live).tmps) = true := by
  rw [wanted_G rfl hj hdj hv]
  simp
 rw [if_pos hw]
 rw [if_pos (show Region.wanted _ _ = true from rfl)] at h1
 exact h1
theorem aD {dst : Option Nat} {op : Op} {j dj : Nat} {want b : Bool} {oj : Oper} (ho : ops[i]? = some ⟨dst, op, ty, pos, aft, some (j, want)⟩) (hj : ops[j]? = some oj) (hdj : oj.dst = some dj) (hv : evl n live (.tmp dj) = some (.bool b)) (hb : (b == want) = false) (hd : dst = some d) (hdn : decide (d < n) = true) (h : K (bC n x ((d, undef) :: live)) W) : wpOp P ops Q i K (bC n x live) W := by
 subst hd
 unfold wpOp
 simp only [ho]
 have hw : Region.wanted ⟨some d, op, ty, pos, aft, some (j, want)⟩ (yielded ops (bC n x live).tmps) = false := by
  rw [wanted_G rfl hj hdj hv, hb]
 rw [hw]
 simp only [Bool.false_eq_true, if_false]
 rw [dU (of_decide_eq_true hdn)]
 exact h
theorem gY {t e bytes g n' : Nat} {α : Type} {dk : Kn α} {z0 : Value} {xs ys : List α} {p : α} {cs : Array Value} {dst : Option Nat}
 (ho : ops[i]? = some ⟨dst, .call { callee := .builtin .append, args := #[y, z], argTypes := #[t, t] }, ty, pos, aft, none⟩)
 (ht : P.underlying t = some (.slice e)) (hinfo : (P.info? e).map (fun i => (i.zero, i.size, i.bytes)) = some (some z0, dk.sz, bytes)) (hz : z0.cells.size = dk.sz) (hs0 : 0 < dk.sz) (hb0 : 0 < bytes)
 (hx : evl n live y = some v) (hy : evl n live z = some (.slice (some ⟨g, 0, none⟩) 1 1)) (hl : (xs.length + 1) * bytes ≤ 140737488355328) (hn : xs.length + 1 = n') (hys : xs ++ [p] = ys) (hd : dst = some d) (hdn : decide (d < n) = true)
 (H : St w F0 (hR dk e v xs :: hB g e cs :: hM dk p cs.toList :: l) W)
 (h : ∀ B c W', St w F0 (hR dk e (.slice B n' c) ys :: l) W' → K (bC n x ((d, .slice B n' c) :: live)) W') : wpOp P ops Q i K (bC n x live) W := by
 subst hn hys
 exact op_append1 ho ht hinfo hz hs0 hb0 hx hy hl hd hdn H h
theorem op_append1f' {t e bytes g n' : Nat} {α : Type} {dk : Kn α} {z0 : Value} {xs ys : List α} {p : α} {cs : Array Value} {dst : Option Nat}
 (ho : ops[i]? = some ⟨dst, .call { callee := .builtin .append, args := #[y, z], argTypes := #[t, t] }, ty, pos, aft, none⟩)
 (ht : P.underlying t = some (.slice e)) (hinfo : (P.info? e).map (fun i => (i.zero, i.size, i.bytes)) = some (some z0, dk.sz, bytes)) (hz : z0.cells.size = dk.sz) (hs0 : 0 < dk.sz) (hb0 : 0 < bytes)
 (hx : evl n live y = some v) (hy : evl n live z = some (.slice (some ⟨g, 0, none⟩) 1 1)) (hp : dk.M W No p cs.toList) (hl : (xs.length + 1) * bytes ≤ 140737488355328) (hn : xs.length + 1 = n') (hys : xs ++ [p] = ys) (hd : dst = some d) (hdn : decide (d < n) = true)
 (H : St w F0 (hR dk e v xs :: hB g e cs :: l) W)
 (h : ∀ B c W', St w F0 (hR dk e (.slice B n' c) ys :: l) W' → K (bC n x ((d, .slice B n' c) :: live)) W') : wpOp P ops Q i K (bC n x live) W := by
 subst hn hys
 exact op_append1f ho ht hinfo hz hs0 hb0 hx hy hp hl hd hdn H h
theorem op_appendN' {t e bytes c n' : Nat} {α : Type} {dk : Kn α} {z0 : Value} {xs ys zs : List α} {A : Option Addr} {dst : Option Nat}
 (ho : ops[i]? = some ⟨dst, .call { callee := .builtin .append, args := #[y, z], argTypes := #[t, t] }, ty, pos, aft, none⟩)
 (ht : P.underlying t = some (.slice e)) (hinfo : (P.info? e).map (fun i => (i.zero, i.size, i.bytes)) = some (some z0, dk.sz, bytes)) (hz : z0.cells.size = dk.sz) (hs0 : 0 < dk.sz) (hb0 : 0 < bytes)
 (hf : Flat dk) (hx : evl n live y = some v) (hy : evl n live z = some (.slice A ys.length c)) (hC : C dk W A ys) (hl : (xs.length + ys.length) * bytes ≤ 140737488355328) (hn : xs.length + ys.length = n') (hys : xs ++ ys = zs) (hd : dst = some d) (hdn : decide (d < n) = true)
 (H : St w F0 (hR dk e v xs :: l) W)
 (h : ∀ B c W', St w F0 (hR dk e (.slice B n' c) zs :: l) W' → K (bC n x ((d, .slice B n' c) :: live)) W') : wpOp P ops Q i K (bC n x live) W := by
 subst hn hys
 exact op_appendN ho ht hinfo hz hs0 hb0 hf hx hy hC hl hd hdn H h
theorem rn_lenS {dst : Option Nat} {t : Nat} {s : ByteArray} (hu : ∀ w, (underlying t).run P w = .ok .string w) (hx : evl n live y = some (.string s)) : Rn P ⟨dst, .call { callee := .builtin .len, args := #[y], argTypes := #[t] }, ty, pos, aft, none⟩ (bC n x live) W (.int .i64 s.size) := by
 unfold Rn
 simp [execOp, bN hx, resolve, invoke, builtin, Builtin.len_, hu, goInt]
theorem bS {o : Oper} {a : Act} {p : Prop} [Decidable p] (hn : ¬ p) (h : Rn P o a W (.bool (decide p))) : Rn P o a W (.bool false) := by
 rw [decide_eq_false hn] at h
 exact h
theorem bQ {o : Oper} {a : Act} {p : Prop} [Decidable p] (hn : p) (h : Rn P o a W (.bool (decide p))) : Rn P o a W (.bool true) := by
 rw [decide_eq_true hn] at h
 exact h
theorem rn_neqB {dst : Option Nat} {xt yt : Nat} {b : Bool} (hu : ∀ w, (underlying xt).run P w = .ok .bool w) (hx : evl n live y = some (.bool b)) (hz : evl n live z = some (.bool b)) : Rn P ⟨dst, .binOp .neq xt y z yt, ty, pos, aft, none⟩ (bC n x live) W (.bool false) := by
 unfold Rn
 have e : Op.equal xt (.bool b) (.bool b) = Op.equalIn (9999 + 1) xt (.bool b) (.bool b) := rfl
 have e2 : (Op.equal xt (.bool b) (.bool b)).run P W = .ok true W := by
  rw [e, Op.equalIn]
  simp [hu]
 simp [execOp, bN hx, bN hz, eqGuard_at_bool, binOp, e2]
theorem absS {b : Bool} {p : Prop} (e : b = true) (h : b = false) : p := by rw [e] at h; cases h
theorem bJ {n : Nat} {x : Nat → Value} {live : List (Nat × Value)} (live' : List (Nat × Value)) (h2 : live'.map (fun p => some p.2) = live'.map (fun p => live.lookup p.1)) : ∃ x', bC n x live = bC n x' live' := actOf_drop (fun _ _ hm => (List.map_inj_left.1 h2 _ hm).symm)
end
end Go.Proofs.YtdfipdpeilegpaaSep
namespace Go.Proofs.YtdfipdpeilegpaaT
open Go.RowKit Go.Proofs.YtdfipdpeilegpaaSep
theorem gB : fM Try.prog 51 0 0 := fun a W => by simp [Instr.fieldAt, Try.runUnderlying51, Instr.sureAddr, fieldPlace, Try.sizeOf9]
theorem dZ : fM Try.prog 51 1 1 := fun a W => by simp [Instr.fieldAt, Try.runUnderlying51, Instr.sureAddr, fieldPlace, Try.sizeOf49]
theorem gN : fM Try.prog 56 0 0 := fun a W => by simp [Instr.fieldAt, Try.runUnderlying56, Instr.sureAddr, fieldPlace, Try.sizeOf9]
theorem dN : fM Try.prog 56 1 1 := fun a W => by simp [Instr.fieldAt, Try.runUnderlying56, Instr.sureAddr, fieldPlace, Try.sizeOf54]
theorem eH : fM Try.prog 118 0 0 := fun a W => by simp [Instr.fieldAt, Try.runUnderlying118, Instr.sureAddr, fieldPlace, Try.sizeOf3]
theorem bP : fM Try.prog 118 1 1 := fun a W => by simp [Instr.fieldAt, Try.runUnderlying118, Instr.sureAddr, fieldPlace, Try.sizeOf3]
theorem bU : fM Try.prog 118 2 2 := fun a W => by simp [Instr.fieldAt, Try.runUnderlying118, Instr.sureAddr, fieldPlace, Try.sizeOf3]
theorem eU : fM Try.prog 118 3 3 := fun a W => by simp [Instr.fieldAt, Try.runUnderlying118, Instr.sureAddr, fieldPlace, Try.sizeOf3]
theorem fE : fM Try.prog 118 4 4 := fun a W => by simp [Instr.fieldAt, Try.runUnderlying118, Instr.sureAddr, fieldPlace, Try.sizeOf3]
theorem fU : fM Try.prog 118 5 5 := fun a W => by simp [Instr.fieldAt, Try.runUnderlying118, Instr.sureAddr, fieldPlace, Try.sizeOf9]
end Go.Proofs.YtdfipdpeilegpaaT
namespace Go.Proofs.YtdfipdpeilegpaaT
open Go.Proofs.YtdfipdpeilegpaaSep
structure GValue where
 Kind : Int
 N : Int
structure GTag where
 Vat : Int
 Entity : Int
 Seq : Int
structure GSent where
 Target : Int
 Name : ByteArray
 Args : List GValue
 Result : Int
 Tag : GTag
structure GAsker where
 Peer : Int
 Question : Int
structure GEntity where
 Kind : Int
 Script : Int
 Slots : List GValue
 State : Int
 Value : GValue
 Queue : List GSent
 Askers : List GAsker
 Peer : Int
 Pos : Int
 Count : Int
 Sent : Int
structure GExport where
 Pos : Int
 Entity : Int
 Count : Int
structure GQuestion where
 Id : Int
 Promise : Int
structure GLink where
 Peer : Int
 Up : Bool
 Exports : List GExport
 Next : Int
 Questions : List GQuestion
 Asked : Int
 Answers : List GQuestion
structure GWire where
 Kind : Int
 N : Int
structure GMessage where
 Kind : Int
 Pos : Int
 Answer : Int
 Question : Int
 Name : ByteArray
 Args : List GWire
 Value : GWire
 Count : Int
 Tag : GTag
structure GOutgoing where
 To : Int
 Message : GMessage
structure GVat where
 Id : Int
 Entities : List GEntity
 Loop : List GSent
 Links : List GLink
 Out : List GOutgoing
structure GChannel where
 From : Int
 To : Int
 List : List GMessage
structure GInstr where
 Op : Int
 A : Int
 B : Int
 C : Int
 D : Int
 Name : ByteArray
def bX : GInstr := ⟨0, 0, 0, 0, 0, ⟨#[]⟩⟩
def cK (x : GInstr) : Nat := x.Name.size
structure GMethod where
 Name : ByteArray
 Code : List GInstr
def zMethod : GMethod := ⟨⟨#[]⟩, []⟩
def aX (x : GMethod) : Nat := x.Name.size + bZ cK x.Code
structure GScript where
 Name : ByteArray
 Methods : List GMethod
def zScript : GScript := ⟨⟨#[]⟩, []⟩
def aZ (x : GScript) : Nat := x.Name.size + bZ aX x.Methods
end Go.Proofs.YtdfipdpeilegpaaT
namespace Go.Proofs.YtdfipdpeilegpaaK
open Go.RowKit Go.Proofs.YtdfipdpeilegpaaSep Go.Proofs.YtdfipdpeilegpaaT
def bF : Kn GInstr := Kn.iso (Kn.pair Kn.int (Kn.pair Kn.int (Kn.pair Kn.int (Kn.pair Kn.int (Kn.pair Kn.int Kn.string))))) (fun x => (x.Op, x.A, x.B, x.C, x.D, x.Name))
theorem fD {w : World} {x : GInstr} {cs : List Value} (h : bF.K w x cs) : cs = [.int .i64 x.Op, .int .i64 x.A, .int .i64 x.B, .int .i64 x.C, .int .i64 x.D, .string x.Name] := by
 obtain ⟨_, _, rfl, rfl, ⟨_, _, rfl, rfl, ⟨_, _, rfl, rfl, ⟨_, _, rfl, rfl, ⟨_, _, rfl, rfl, rfl⟩⟩⟩⟩⟩ := h
 exact rfl
theorem ki_Instr_at {w : World} {A : Option Addr} {l : List GInstr} (h : C bF w A l) (i : Nat) (hi : i < l.length) : ∃ (ad : Addr), A = some ad ∧ w.cell? (ad.add (i * 6)) = some (.int .i64 l[i].Op) ∧ w.cell? ⟨(ad.add (i * 6)).block, (ad.add (i * 6)).off + 1, none⟩ = some (.int .i64 l[i].A) ∧ w.cell? ⟨(ad.add (i * 6)).block, (ad.add (i * 6)).off + 2, none⟩ = some (.int .i64 l[i].B) ∧ w.cell? ⟨(ad.add (i * 6)).block, (ad.add (i * 6)).off + 3, none⟩ = some (.int .i64 l[i].C) ∧ w.cell? ⟨(ad.add (i * 6)).block, (ad.add (i * 6)).off + 4, none⟩ = some (.int .i64 l[i].D) ∧ w.cell? ⟨(ad.add (i * 6)).block, (ad.add (i * 6)).off + 5, none⟩ = some (.string l[i].Name) := by
 obtain ⟨ad, c, h1, h2, h3, h4⟩ := C_at h i hi
 obtain rfl := fD h2
 exact ⟨ad, h1, h3 _ rfl, h4 0 _ rfl, h4 1 _ rfl, h4 2 _ rfl, h4 3 _ rfl, h4 4 _ rfl⟩
theorem ki_Instr_mk (w : World) (F : Nat → Prop) (x : GInstr) : bF.M w F x [.int .i64 x.Op, .int .i64 x.A, .int .i64 x.B, .int .i64 x.C, .int .i64 x.D, .string x.Name] :=
 ⟨[_], [_, _, _, _, _], No, No, rfl, rfl, ⟨[_], [_, _, _, _], No, No, rfl, rfl, ⟨[_], [_, _, _], No, No, rfl, rfl, ⟨[_], [_, _], No, No, rfl, rfl, ⟨[_], [_], No, No, rfl, rfl, rfl, fun _ h => h.elim, fun _ h => h.elim, fun _ h => h.elim⟩, fun _ h => h.elim, fun _ h => h.elim, fun _ h => h.elim⟩, fun _ h => h.elim, fun _ h => h.elim, fun _ h => h.elim⟩, fun _ h => h.elim, fun _ h => h.elim, fun _ h => h.elim⟩, fun _ h => h.elim, fun _ h => h.elim, fun _ h => h.elim⟩
theorem gG : (Try.prog.info? 118).map (fun i => (i.zero, i.size, i.bytes)) = some (some (.agg #[.int .i64 0, .int .i64 0, .int .i64 0, .int .i64 0, .int .i64 0, .string ⟨#[]⟩]), 6, 56) := by kernel_rfl
def aL : Kn GMethod := Kn.iso (Kn.pair Kn.string (Kn.slice 118 bF)) (fun x => (x.Name, x.Code))
theorem dI {w : World} {x : GMethod} {cs : List Value} (h : aL.K w x cs) : ∃ (A1 : Option Addr) (c1 : Nat), cs = [.string x.Name, .slice A1 x.Code.length c1] ∧ x.Code.length ≤ c1 ∧ C bF w A1 x.Code := by
 obtain ⟨_, _, rfl, rfl, ⟨A1, c1, rfl, hl1, hC1⟩⟩ := h
 exact ⟨A1, c1, rfl, hl1, hC1⟩
theorem ki_Method_at {w : World} {A : Option Addr} {l : List GMethod} (h : C aL w A l) (i : Nat) (hi : i < l.length) : ∃ (ad : Addr) (A1 : Option Addr) (c1 : Nat), A = some ad ∧ w.cell? (ad.add (i * 2)) = some (.string l[i].Name) ∧ w.cell? ⟨(ad.add (i * 2)).block, (ad.add (i * 2)).off + 1, none⟩ = some (.slice A1 l[i].Code.length c1) ∧ l[i].Code.length ≤ c1 ∧ C bF w A1 l[i].Code := by
 obtain ⟨ad, c, h1, h2, h3, h4⟩ := C_at h i hi
 obtain ⟨A1, c1, rfl, hl1, hC1⟩ := dI h2
 exact ⟨ad, A1, c1, h1, h3 _ rfl, h4 0 _ rfl, hl1, hC1⟩
theorem ki_Method_M {w : World} {F : Nat → Prop} {x : GMethod} {cs : List Value} (h : aL.M w F x cs) : ∃ (v1 : Value) (P1 : Nat → Prop), cs = [.string x.Name, v1] ∧ R bF 118 w P1 v1 x.Code ∧ (∀ k, P1 k → F k) := by
 obtain ⟨_, _, F0, G0, rfl, rfl, ⟨v1, rfl, hR1⟩, a0, b0, d0⟩ := h
 exact ⟨v1, G0, rfl, hR1, fun k hk => (b0 k hk)⟩
theorem ki_Method_mk (w : World) (F : Nat → Prop) (x : GMethod) {v1 : Value} {P1 : Nat → Prop} (h1 : R bF 118 w P1 v1 x.Code) (i1 : ∀ k, P1 k → F k) : aL.M w F x [.string x.Name, v1] :=
 ⟨[_], [_], No, P1, rfl, rfl, ⟨_, rfl, h1⟩, fun _ h => h.elim, i1, fun _ h => h.elim⟩
theorem fV : (Try.prog.info? 51).map (fun i => (i.zero, i.size, i.bytes)) = some (some (.agg #[.string ⟨#[]⟩, .slice none 0 0]), 2, 40) := by kernel_rfl
theorem gP (w : World) : aL.M w No zMethod [.string ⟨#[]⟩, .slice none 0 0] := ki_Method_mk w No zMethod (P1 := No) R_nil (fun _ h => h)
def aO : Kn GScript := Kn.iso (Kn.pair Kn.string (Kn.slice 51 aL)) (fun x => (x.Name, x.Methods))
theorem dP {w : World} {x : GScript} {cs : List Value} (h : aO.K w x cs) : ∃ (A1 : Option Addr) (c1 : Nat), cs = [.string x.Name, .slice A1 x.Methods.length c1] ∧ x.Methods.length ≤ c1 ∧ C aL w A1 x.Methods := by
 obtain ⟨_, _, rfl, rfl, ⟨A1, c1, rfl, hl1, hC1⟩⟩ := h
 exact ⟨A1, c1, rfl, hl1, hC1⟩
theorem ki_Script_at {w : World} {A : Option Addr} {l : List GScript} (h : C aO w A l) (i : Nat) (hi : i < l.length) : ∃ (ad : Addr) (A1 : Option Addr) (c1 : Nat), A = some ad ∧ w.cell? (ad.add (i * 2)) = some (.string l[i].Name) ∧ w.cell? ⟨(ad.add (i * 2)).block, (ad.add (i * 2)).off + 1, none⟩ = some (.slice A1 l[i].Methods.length c1) ∧ l[i].Methods.length ≤ c1 ∧ C aL w A1 l[i].Methods := by
 obtain ⟨ad, c, h1, h2, h3, h4⟩ := C_at h i hi
 obtain ⟨A1, c1, rfl, hl1, hC1⟩ := dP h2
 exact ⟨ad, A1, c1, h1, h3 _ rfl, h4 0 _ rfl, hl1, hC1⟩
theorem ki_Script_M {w : World} {F : Nat → Prop} {x : GScript} {cs : List Value} (h : aO.M w F x cs) : ∃ (v1 : Value) (P1 : Nat → Prop), cs = [.string x.Name, v1] ∧ R aL 51 w P1 v1 x.Methods ∧ (∀ k, P1 k → F k) := by
 obtain ⟨_, _, F0, G0, rfl, rfl, ⟨v1, rfl, hR1⟩, a0, b0, d0⟩ := h
 exact ⟨v1, G0, rfl, hR1, fun k hk => (b0 k hk)⟩
theorem ki_Script_mk (w : World) (F : Nat → Prop) (x : GScript) {v1 : Value} {P1 : Nat → Prop} (h1 : R aL 51 w P1 v1 x.Methods) (i1 : ∀ k, P1 k → F k) : aO.M w F x [.string x.Name, v1] :=
 ⟨[_], [_], No, P1, rfl, rfl, ⟨_, rfl, h1⟩, fun _ h => h.elim, i1, fun _ h => h.elim⟩
theorem ki_Script_info : (Try.prog.info? 56).map (fun i => (i.zero, i.size, i.bytes)) = some (some (.agg #[.string ⟨#[]⟩, .slice none 0 0]), 2, 40) := by kernel_rfl
end Go.Proofs.YtdfipdpeilegpaaK
namespace Go.Proofs.YtdfipdpeilegpaaT
open Go.RowKit Go.Proofs.YtdfipdpeilegpaaSep Go.Proofs.YtdfipdpeilegpaaK
theorem gQ {W : World} {x : GInstr} {cs : List Value} (h : bF.K W x cs) : cs.length = 6 := bF.K_len h
theorem gT {W : World} {x : GInstr} {cs : List Value} (h : bF.K W x cs) : ∀ u ∈ (List.toArray cs).toList, u.oneCell' = true := bF.K_one h
theorem cO {W : World} {x : GMethod} {cs : List Value} (h : aL.K W x cs) : cs.length = 2 := aL.K_len h
theorem dJ {W : World} {x : GMethod} {cs : List Value} (h : aL.K W x cs) : ∀ u ∈ (List.toArray cs).toList, u.oneCell' = true := aL.K_one h
theorem dY {W : World} {F : Nat → Prop} {x : GMethod} {v1 : Value} (h : Star [hR bF 118 v1 x.Code] W F) : aL.M W F x [.string x.Name, v1] := by
 obtain ⟨Fs, h1, h2, h3⟩ := h
 exact ki_Method_mk W F x (h3 0 _ rfl) (h1 0)
theorem gU {W : World} {F : Nat → Prop} {x : GMethod} {cs : List Value} (h : aL.M W F x cs) : ∃ (A1 : Option Addr) (c1 : Nat), cs = [.string x.Name, .slice A1 x.Code.length c1] ∧ Star [hR bF 118 (.slice A1 x.Code.length c1) x.Code] W F := by
 obtain ⟨v1, P1, rfl, r1, i1⟩ := ki_Method_M h
 obtain ⟨A1, c1, rfl⟩ := R_slice r1
 exact ⟨A1, c1, rfl, (Star.cons P1 (fun b => False) r1 Star.nil i1 (fun b h => h.elim) (fun b p h => h.elim))⟩
theorem bG {W : World} {x : GScript} {cs : List Value} (h : aO.K W x cs) : cs.length = 2 := aO.K_len h
theorem dK {W : World} {x : GScript} {cs : List Value} (h : aO.K W x cs) : ∀ u ∈ (List.toArray cs).toList, u.oneCell' = true := aO.K_one h
theorem cZ {W : World} {F : Nat → Prop} {x : GScript} {v1 : Value} (h : Star [hR aL 51 v1 x.Methods] W F) : aO.M W F x [.string x.Name, v1] := by
 obtain ⟨Fs, h1, h2, h3⟩ := h
 exact ki_Script_mk W F x (h3 0 _ rfl) (h1 0)
theorem dX {W : World} {F : Nat → Prop} {x : GScript} {cs : List Value} (h : aO.M W F x cs) : ∃ (A1 : Option Addr) (c1 : Nat), cs = [.string x.Name, .slice A1 x.Methods.length c1] ∧ Star [hR aL 51 (.slice A1 x.Methods.length c1) x.Methods] W F := by
 obtain ⟨v1, P1, rfl, r1, i1⟩ := ki_Script_M h
 obtain ⟨A1, c1, rfl⟩ := R_slice r1
 exact ⟨A1, c1, rfl, (Star.cons P1 (fun b => False) r1 Star.nil i1 (fun b h => h.elim) (fun b p h => h.elim))⟩
end Go.Proofs.YtdfipdpeilegpaaT
namespace Go.Proofs.YtdfipdpeilegpaaSep
open Go.ChangeShapes Go.WideShapes Go.RowKit
section
variable {α : Type}
variable {d : Kn α} {e g cap i : Nat} {ce : List Value} {xs : List α} {l : List HP} {W w : World} {F F0 : Nat → Prop} {v : Value}
theorem St.unM {q : HP} (H : St w F0 (q :: l) W) : ∃ F1 : Nat → Prop, q.p W F1 ∧ ∀ l', Star l' W F1 → St w F0 (l' ++ l) W := by
 obtain ⟨F1, F2, a1, a2, a3, a4, a5⟩ := H.2.uncons
 exact ⟨F1, a1, fun l' h => ⟨H.1, Star.append F1 F2 h a2 a3 a4 a5⟩⟩
end
section
variable {α : Type} {P : Program} {ops : Array Oper} {Q : Exit → Act → World → Prop} {K : Act → World → Prop} {n i d ty : Nat} {x : Nat → Value} {live : List (Nat × Value)} {W w : World} {F0 : Nat → Prop} {l : List HP} {pos : String} {aft : Array Edge} {v : Value} {y z : Operand}
theorem rn_makeFunc {dst : Option Nat} {fn : Fn} {ys zs : Array Operand} {us vs : Array Value} (hy : ys.toList.map (evl n live) = us.toList.map some) (hz : zs.toList.map (evl n live) = vs.toList.map some) : Rn P ⟨dst, .makeFunc fn ys zs, ty, pos, aft, none⟩ (bC n x live) W (.func fn us vs) := by
 unfold Rn
 simp [execOp, Instr.makeFunc, evls_ok hy, evls_ok hz]
theorem bM {o : Oper} {a : Act} {b c : Bool} (e : b = c) (h : Rn P o a W (.bool b)) : Rn P o a W (.bool c) := e ▸ h
theorem bI {f : FuncId} {vs : Array Value} {b c : Bool} {W0 : World} (h : Calls P f vs W (bY b W0)) (e : b = c) : Calls P f vs W (bY c W0) := e ▸ h
end
section
variable {α : Type} {P : Program} {ops : Array Oper} {Q : Exit → Act → World → Prop} {K : Act → World → Prop} {n i d ty : Nat} {x : Nat → Value} {live : List (Nat × Value)} {W w : World} {F0 : Nat → Prop} {l : List HP} {pos : String} {aft : Array Edge} {v : Value} {y z : Operand} {dk : Kn α} {e : Nat} {xs ys : List α}
theorem op_make {dst : Option Nat} {t bytes m : Nat} {z0 : Value} {zx : α} (ho : ops[i]? = some ⟨dst, .makeSlice t y z, ty, pos, aft, none⟩)
 (ht : P.underlying t = some (.slice e)) (hinfo : (P.info? e).map (fun i => (i.zero, i.size, i.bytes)) = some (some z0, dk.sz, bytes)) (hz0 : z0.cells.size = dk.sz) (hs0 : 0 < dk.sz) (h0 : ∀ W, dk.M W No zx z0.cells.toList) (hb : bytes ≤ 4096)
 (hx : evl n live y = some (.int .i64 (m : Int))) (hy : evl n live z = some (.int .i64 (m : Int))) (hm : m ≤ 1048576) (hd : dst = some d) (hdn : decide (d < n) = true)
 (H : St w F0 l W) (h : ∀ g W', Upd No W W' → St w F0 (hR dk e (.slice (some ⟨g, 0, none⟩) m m) (List.replicate m zx) :: l) W' → K (bC n x ((d, .slice (some ⟨g, 0, none⟩) m m) :: live)) W') : wpOp P ops Q i K (bC n x live) W := by
 subst hd
 refine op_ok ho rfl ?_
 have hr := run_made (P := P) (t := t) z0 dk.sz bytes ht hinfo m hm hb W
 have hrun : (execOp (bC n x live).eval ⟨some d, .makeSlice t y z, ty, pos, aft, none⟩).run P W = .ok (.value (.slice (some ⟨W.heap.size, 0, none⟩) m m)) (W.alloc (madeObj z0 (m * dk.sz) e)) := by
  simp [execOp, bN hx, bN hy, hr]
 unfold Oper.wp
 rw [hrun]
 simp only [Oper.upon]
 rw [dU (of_decide_eq_true hdn)]
 exact h _ _ ((Upd.refl _ _).alloc _) (H.new ((Upd.refl _ _).alloc _) (R_made W z0 zx hz0 hs0 h0 m hm))
theorem rn_int {o : Oper} {a : Act} {p q : Int} (e : p = q) (h : Rn P o a W (.int .i64 p)) : Rn P o a W (.int .i64 q) := e ▸ h
end
def byt (s : ByteArray) (i : Nat) : Int := match s[i]? with | some b => (b.toNat : Int) | none => 0
section
variable {P : Program} {n ty : Nat} {x : Nat → Value} {live : List (Nat × Value)} {W : World} {pos : String} {aft : Array Edge} {y z : Operand} {dst : Option Nat} {p q : Int}
theorem rn_indexS {t k : Nat} {s : ByteArray} (hu : ∀ w, (underlying t).run P w = .ok .string w) (hx : evl n live y = some (.string s)) (hz : evl n live z = some (.int .i64 (k : Int))) (hk : k < s.size) : Rn P ⟨dst, .index t y z, ty, pos, aft, none⟩ (bC n x live) W (.int .u8 (byt s k)) := by
 have h0 : (0 : Int) ≤ (k : Int) := by omega
 have hs : s[k]? = some s[k] := by simp [hk]
 unfold Rn byt
 simp only [execOp, bN hx, bN hz, Instr.index, asIntOf, Sem.run_bind, hu, Result.andThen_ok, Sem.run_pure, if_pos h0, Int.toNat_natCast, hs]
theorem rn_lss8 {xt yt : Nat} (hx : evl n live y = some (.int .u8 p)) (hz : evl n live z = some (.int .u8 q)) : Rn P ⟨dst, .binOp .lss xt y z yt, ty, pos, aft, none⟩ (bC n x live) W (.bool (decide (p < q))) := by
 unfold Rn
 simp [execOp, bN hx, bN hz, eqGuard_at_int, binOp, Op.intCmp]
theorem rn_gtr8 {xt yt : Nat} (hx : evl n live y = some (.int .u8 p)) (hz : evl n live z = some (.int .u8 q)) : Rn P ⟨dst, .binOp .gtr xt y z yt, ty, pos, aft, none⟩ (bC n x live) W (.bool (decide (q < p))) := by
 unfold Rn
 simp [execOp, bN hx, bN hz, eqGuard_at_int, binOp, Op.intCmp]
end
end Go.Proofs.YtdfipdpeilegpaaSep
namespace Go.Proofs.YtdfipdpeilegpaaFam
open Go.RowKit Go.Proofs.YtdfipdpeilegpaaSep Go.Proofs.YtdfipdpeilegpaaT Go.Proofs.YtdfipdpeilegpaaK
set_option linter.unusedVariables false
set_option linter.unusedSimpArgs false
theorem dV (w : World) (x : GInstr) : bF.K w x [.int .i64 x.Op, .int .i64 x.A, .int .i64 x.B, .int .i64 x.C, .int .i64 x.D, .string x.Name] := ⟨[_], [_, _, _, _, _], rfl, rfl, ⟨[_], [_, _, _, _], rfl, rfl, ⟨[_], [_, _, _], rfl, rfl, ⟨[_], [_, _], rfl, rfl, ⟨[_], [_], rfl, rfl, rfl⟩⟩⟩⟩⟩
theorem eB (w : World) (x : GMethod) {A1 : Option Addr} {c1 : Nat} (hl1 : x.Code.length ≤ c1) (hC1 : C bF w A1 x.Code) : aL.K w x [.string x.Name, .slice A1 x.Code.length c1] := ⟨[_], [_], rfl, rfl, ⟨A1, c1, rfl, hl1, hC1⟩⟩
theorem gH (w : World) (x : GScript) {A1 : Option Addr} {c1 : Nat} (hl1 : x.Methods.length ≤ c1) (hC1 : C aL w A1 x.Methods) : aO.K w x [.string x.Name, .slice A1 x.Methods.length c1] := ⟨[_], [_], rfl, rfl, ⟨A1, c1, rfl, hl1, hC1⟩⟩
end Go.Proofs.YtdfipdpeilegpaaFam
namespace Go.Proofs.YtdfipdpeilegpaaFam
open Go.ChangeShapes Go.WideShapes Go.RowKit Go.Proofs.YtdfipdpeilegpaaSep Go.Proofs.YtdfipdpeilegpaaT Go.Proofs.YtdfipdpeilegpaaK
set_option linter.unusedVariables false
set_option linter.unusedSimpArgs false
attribute [local irreducible] wpOps wpOp
set_option maxHeartbeats 4000000
set_option maxRecDepth 100000
theorem find_no {α : Type} (p : α → Bool) (l : List α) (i : Nat) (h : i < l.length) (hp : p l[i] = false) : (l.drop i).find? p = (l.drop (i + 1)).find? p := by
 rw [List.drop_eq_getElem_cons h, List.find?_cons, hp]
theorem find_yes {α : Type} (p : α → Bool) (l : List α) (i : Nat) (h : i < l.length) (hp : p l[i] = true) : (l.drop i).find? p = some l[i] := by
 rw [List.drop_eq_getElem_cons h, List.find?_cons, hp]
theorem find_end {α : Type} (p : α → Bool) (l : List α) (i : Nat) (h : l.length ≤ i) : (l.drop i).find? p = none := by
 rw [List.drop_eq_nil_of_le h]; rfl
theorem fK (x lo hi : Int) (w : World) : Calls Try.prog 61 #[.int .i64 x, .int .i64 lo, .int .i64 hi] w (bY (decide (lo ≤ x ∧ x ≤ hi)) w) := by
 by_cases h1 : lo ≤ x
 ·by_cases h2 : x ≤ hi
  ·refine enter 15 [(0, .int .i64 (x)), (1, .int .i64 (lo)), (2, .int .i64 (hi))] Try.func61 rfl kR ?_
   intro xj
   have H1 : St w No [] w := St.enter
   refine wp_seq ?_
   refine aI [0] rfl ?_
   refine aA ?_
   refine aB rfl (aG rfl) rfl rfl ?_
   refine aF ?_
   refine aH ?_
   refine wp_seq ?_
   refine aI [0, 1, 2, 3, 4, 5, 6, 7, 8] rfl ?_
   refine aA ?_
   refine aB rfl (aC rfl) rfl rfl ?_
   refine aA ?_
   refine aB rfl (aC rfl) rfl rfl ?_
   refine aA ?_
   refine aB rfl (bQ (p := (lo : Int) ≤ x) h1 (rn_geq (p := x) (q := lo) rfl rfl)) rfl rfl ?_
   refine aA ?_
   refine aB rfl (aC rfl) rfl rfl ?_
   refine aA ?_
   refine aT rfl rfl rfl rfl (fun _ ho2 => ?_)
   refine aB ho2 (aC rfl) rfl rfl ?_
   refine aA ?_
   refine aT rfl rfl rfl rfl (fun _ ho3 => ?_)
   refine aB ho3 (aC rfl) rfl rfl ?_
   refine aA ?_
   refine aT rfl rfl rfl rfl (fun _ ho4 => ?_)
   refine aB ho4 (bQ (p := (x : Int) ≤ hi) h2 (gF (p := x) (q := hi) rfl rfl)) rfl rfl ?_
   refine aA ?_
   refine aB rfl (aJ (v := .bool (true)) (b := true) rfl rfl rfl rfl) rfl rfl ?_
   refine aA ?_
   refine aB rfl (aG rfl) rfl rfl ?_
   refine aF ?_
   refine aH ?_
   refine wp_ret ?_
   refine aM (.inl rfl) Try.results61 rfl ?_
   exact ⟨by rw [decide_eq_true (⟨h1, h2⟩ : lo ≤ x ∧ x ≤ hi)], H1.1⟩
  ·refine enter 15 [(0, .int .i64 (x)), (1, .int .i64 (lo)), (2, .int .i64 (hi))] Try.func61 rfl kR ?_
   intro xj
   have H1 : St w No [] w := St.enter
   refine wp_seq ?_
   refine aI [0] rfl ?_
   refine aA ?_
   refine aB rfl (aG rfl) rfl rfl ?_
   refine aF ?_
   refine aH ?_
   refine wp_seq ?_
   refine aI [0, 1, 2, 3, 4, 5, 6, 7, 8] rfl ?_
   refine aA ?_
   refine aB rfl (aC rfl) rfl rfl ?_
   refine aA ?_
   refine aB rfl (aC rfl) rfl rfl ?_
   refine aA ?_
   refine aB rfl (bQ (p := (lo : Int) ≤ x) h1 (rn_geq (p := x) (q := lo) rfl rfl)) rfl rfl ?_
   refine aA ?_
   refine aB rfl (aC rfl) rfl rfl ?_
   refine aA ?_
   refine aT rfl rfl rfl rfl (fun _ ho2 => ?_)
   refine aB ho2 (aC rfl) rfl rfl ?_
   refine aA ?_
   refine aT rfl rfl rfl rfl (fun _ ho3 => ?_)
   refine aB ho3 (aC rfl) rfl rfl ?_
   refine aA ?_
   refine aT rfl rfl rfl rfl (fun _ ho4 => ?_)
   refine aB ho4 (bS (p := (x : Int) ≤ hi) h2 (gF (p := x) (q := hi) rfl rfl)) rfl rfl ?_
   refine aA ?_
   refine aB rfl (aJ (v := .bool (false)) (b := true) rfl rfl rfl rfl) rfl rfl ?_
   refine aA ?_
   refine aB rfl (aG rfl) rfl rfl ?_
   refine aF ?_
   refine aH ?_
   refine wp_ret ?_
   refine aM (.inl rfl) Try.results61 rfl ?_
   exact ⟨by rw [decide_eq_false (fun q : lo ≤ x ∧ x ≤ hi => h2 q.2)], H1.1⟩
 ·refine enter 15 [(0, .int .i64 (x)), (1, .int .i64 (lo)), (2, .int .i64 (hi))] Try.func61 rfl kR ?_
  intro xj
  have H1 : St w No [] w := St.enter
  refine wp_seq ?_
  refine aI [0] rfl ?_
  refine aA ?_
  refine aB rfl (aG rfl) rfl rfl ?_
  refine aF ?_
  refine aH ?_
  refine wp_seq ?_
  refine aI [0, 1, 2, 3, 4, 5, 6, 7, 8] rfl ?_
  refine aA ?_
  refine aB rfl (aC rfl) rfl rfl ?_
  refine aA ?_
  refine aB rfl (aC rfl) rfl rfl ?_
  refine aA ?_
  refine aB rfl (bS (p := (lo : Int) ≤ x) h1 (rn_geq (p := x) (q := lo) rfl rfl)) rfl rfl ?_
  refine aA ?_
  refine aB rfl (aC rfl) rfl rfl ?_
  refine aA ?_
  refine aD rfl rfl rfl rfl rfl rfl rfl ?_
  refine aA ?_
  refine aD rfl rfl rfl rfl rfl rfl rfl ?_
  refine aA ?_
  refine aD rfl rfl rfl rfl rfl rfl rfl ?_
  refine aA ?_
  refine aB rfl (aJ (v := .bool (false)) (b := false) rfl rfl rfl rfl) rfl rfl ?_
  refine aA ?_
  refine aB rfl (aG rfl) rfl rfl ?_
  refine aF ?_
  refine aH ?_
  refine wp_ret ?_
  refine aM (.inl rfl) Try.results61 rfl ?_
  exact ⟨by rw [decide_eq_false (fun q : lo ≤ x ∧ x ≤ hi => h1 q.1)], H1.1⟩
theorem l1In_s_t (x lo hi : Int) (w : World) (h : lo ≤ x ∧ x ≤ hi) : Calls Try.prog 61 #[.int .i64 x, .int .i64 lo, .int .i64 hi] w (bY true w) := by
 have := fK x lo hi w
 rwa [decide_eq_true h] at this
theorem l1In_s_f (x lo hi : Int) (w : World) (h : ¬ (lo ≤ x ∧ x ≤ hi)) : Calls Try.prog 61 #[.int .i64 x, .int .i64 lo, .int .i64 hi] w (bY false w) := by
 have := fK x lo hi w
 rwa [decide_eq_false h] at this
theorem in_i (x lo hi : Int) (w : World) : Calls Try.prog 60 #[.int .i64 x, .int .i64 lo, .int .i64 hi] w (bY (decide (lo ≤ x ∧ x ≤ hi)) w) := by
 by_cases h1 : lo ≤ x
 ·by_cases h2 : x ≤ hi
  ·refine enter 15 [(0, .int .i64 (x)), (1, .int .i64 (lo)), (2, .int .i64 (hi))] Try.func60 rfl kR ?_
   intro xj
   have H1 : St w No [] w := St.enter
   refine wp_seq ?_
   refine aI [0] rfl ?_
   refine aA ?_
   refine aB rfl (aG rfl) rfl rfl ?_
   refine aF ?_
   refine aH ?_
   refine wp_seq ?_
   refine aI [0, 1, 2, 3, 4, 5, 6, 7, 8] rfl ?_
   refine aA ?_
   refine aB rfl (aC rfl) rfl rfl ?_
   refine aA ?_
   refine aB rfl (aC rfl) rfl rfl ?_
   refine aA ?_
   refine aB rfl (bQ (p := (lo : Int) ≤ x) h1 (gF (p := lo) (q := x) rfl rfl)) rfl rfl ?_
   refine aA ?_
   refine aB rfl (aC rfl) rfl rfl ?_
   refine aA ?_
   refine aT rfl rfl rfl rfl (fun _ ho2 => ?_)
   refine aB ho2 (aC rfl) rfl rfl ?_
   refine aA ?_
   refine aT rfl rfl rfl rfl (fun _ ho3 => ?_)
   refine aB ho3 (aC rfl) rfl rfl ?_
   refine aA ?_
   refine aT rfl rfl rfl rfl (fun _ ho4 => ?_)
   refine aB ho4 (bQ (p := (x : Int) ≤ hi) h2 (gF (p := x) (q := hi) rfl rfl)) rfl rfl ?_
   refine aA ?_
   refine aB rfl (aJ (v := .bool (true)) (b := true) rfl rfl rfl rfl) rfl rfl ?_
   refine aA ?_
   refine aB rfl (aG rfl) rfl rfl ?_
   refine aF ?_
   refine aH ?_
   refine wp_ret ?_
   refine aM (.inl rfl) Try.results60 rfl ?_
   exact ⟨by rw [decide_eq_true (⟨h1, h2⟩ : lo ≤ x ∧ x ≤ hi)], H1.1⟩
  ·refine enter 15 [(0, .int .i64 (x)), (1, .int .i64 (lo)), (2, .int .i64 (hi))] Try.func60 rfl kR ?_
   intro xj
   have H1 : St w No [] w := St.enter
   refine wp_seq ?_
   refine aI [0] rfl ?_
   refine aA ?_
   refine aB rfl (aG rfl) rfl rfl ?_
   refine aF ?_
   refine aH ?_
   refine wp_seq ?_
   refine aI [0, 1, 2, 3, 4, 5, 6, 7, 8] rfl ?_
   refine aA ?_
   refine aB rfl (aC rfl) rfl rfl ?_
   refine aA ?_
   refine aB rfl (aC rfl) rfl rfl ?_
   refine aA ?_
   refine aB rfl (bQ (p := (lo : Int) ≤ x) h1 (gF (p := lo) (q := x) rfl rfl)) rfl rfl ?_
   refine aA ?_
   refine aB rfl (aC rfl) rfl rfl ?_
   refine aA ?_
   refine aT rfl rfl rfl rfl (fun _ ho2 => ?_)
   refine aB ho2 (aC rfl) rfl rfl ?_
   refine aA ?_
   refine aT rfl rfl rfl rfl (fun _ ho3 => ?_)
   refine aB ho3 (aC rfl) rfl rfl ?_
   refine aA ?_
   refine aT rfl rfl rfl rfl (fun _ ho4 => ?_)
   refine aB ho4 (bS (p := (x : Int) ≤ hi) h2 (gF (p := x) (q := hi) rfl rfl)) rfl rfl ?_
   refine aA ?_
   refine aB rfl (aJ (v := .bool (false)) (b := true) rfl rfl rfl rfl) rfl rfl ?_
   refine aA ?_
   refine aB rfl (aG rfl) rfl rfl ?_
   refine aF ?_
   refine aH ?_
   refine wp_ret ?_
   refine aM (.inl rfl) Try.results60 rfl ?_
   exact ⟨by rw [decide_eq_false (fun q : lo ≤ x ∧ x ≤ hi => h2 q.2)], H1.1⟩
 ·refine enter 15 [(0, .int .i64 (x)), (1, .int .i64 (lo)), (2, .int .i64 (hi))] Try.func60 rfl kR ?_
  intro xj
  have H1 : St w No [] w := St.enter
  refine wp_seq ?_
  refine aI [0] rfl ?_
  refine aA ?_
  refine aB rfl (aG rfl) rfl rfl ?_
  refine aF ?_
  refine aH ?_
  refine wp_seq ?_
  refine aI [0, 1, 2, 3, 4, 5, 6, 7, 8] rfl ?_
  refine aA ?_
  refine aB rfl (aC rfl) rfl rfl ?_
  refine aA ?_
  refine aB rfl (aC rfl) rfl rfl ?_
  refine aA ?_
  refine aB rfl (bS (p := (lo : Int) ≤ x) h1 (gF (p := lo) (q := x) rfl rfl)) rfl rfl ?_
  refine aA ?_
  refine aB rfl (aC rfl) rfl rfl ?_
  refine aA ?_
  refine aD rfl rfl rfl rfl rfl rfl rfl ?_
  refine aA ?_
  refine aD rfl rfl rfl rfl rfl rfl rfl ?_
  refine aA ?_
  refine aD rfl rfl rfl rfl rfl rfl rfl ?_
  refine aA ?_
  refine aB rfl (aJ (v := .bool (false)) (b := false) rfl rfl rfl rfl) rfl rfl ?_
  refine aA ?_
  refine aB rfl (aG rfl) rfl rfl ?_
  refine aF ?_
  refine aH ?_
  refine wp_ret ?_
  refine aM (.inl rfl) Try.results60 rfl ?_
  exact ⟨by rw [decide_eq_false (fun q : lo ≤ x ∧ x ≤ hi => h1 q.1)], H1.1⟩
theorem in_i_t (x lo hi : Int) (w : World) (h : lo ≤ x ∧ x ≤ hi) : Calls Try.prog 60 #[.int .i64 x, .int .i64 lo, .int .i64 hi] w (bY true w) := by
 have := in_i x lo hi w
 rwa [decide_eq_true h] at this
theorem in_i_f (x lo hi : Int) (w : World) (h : ¬ (lo ≤ x ∧ x ≤ hi)) : Calls Try.prog 60 #[.int .i64 x, .int .i64 lo, .int .i64 hi] w (bY false w) := by
 have := in_i x lo hi w
 rwa [decide_eq_false h] at this
end Go.Proofs.YtdfipdpeilegpaaFam
namespace Go.Proofs.YtdfipdpeilegpaaSep
open Go.ChangeShapes Go.WideShapes Go.RowKit
section
variable {P : Program} {ops : Array Oper} {Q : Exit → Act → World → Prop} {md : Region.Mode} {S : World → Prop} {t : Nat}
theorem bK {i d n : Nat} {x : Nat → Value} {live : List (Nat × Value)} {dst : Option Nat} {op : Op} {ty : Nat} {pos : String} {aft : Array Edge} {v : Value} {fuel : Nat} {listed : Array Bool} {w : World} {j dj : Nat} {want : Bool} {oj : Oper} (hi : ops[i]? = some ⟨dst, op, ty, pos, aft, some (j, want)⟩)
 (hj : ops[j]? = some oj) (hdj : oj.dst = some dj) (hv : evl n live (.tmp dj) = some (.bool want))
 (hs : Region.noSelect ops = true) (hf : Region.free md ops listed i = true) (hr : (Region.ready md ops listed).contains i = true) (hw : waits md ops t i = true) (ht : listed.getD t false = false)
 (hQ : ∀ c a w, Q (.panic c) (a.put dst v) w → Q (.panic c) a w) (hd : dst = some d) (hdn : decide (d < n) = true) (hS : S w) (hy : ∀ W, S W → Rn P ⟨dst, op, ty, pos, aft, none⟩ (bC n x live) W v)
 (h : wpAnyS P md ops Q S t fuel (listed.setIfInBounds i true) (bC n x ((d, v) :: live)) w) : wpAnyS P md ops Q S t (fuel + 1) listed (bC n x live) w := by
 subst hd
 exact anyS_first hi (Region.noSelect_spec hs) hw hQ fuel listed _ w (Region.free_spec hi hf) (by simpa using hr) (.inl ⟨by rw [wanted_G rfl hj hdj hv]; simp, fun W hSW => hy W hSW⟩) hS ht (by rw [dU (of_decide_eq_true hdn)]; exact h)
theorem eO {i d n : Nat} {x : Nat → Value} {live : List (Nat × Value)} {dst : Option Nat} {op : Op} {ty : Nat} {pos : String} {aft : Array Edge} {fuel : Nat} {listed : Array Bool} {w : World} {j dj : Nat} {want b : Bool} {oj : Oper} (hi : ops[i]? = some ⟨dst, op, ty, pos, aft, some (j, want)⟩)
 (hj : ops[j]? = some oj) (hdj : oj.dst = some dj) (hv : evl n live (.tmp dj) = some (.bool b)) (hb : (b == want) = false)
 (hs : Region.noSelect ops = true) (hf : Region.free md ops listed i = true) (hr : (Region.ready md ops listed).contains i = true) (hw : waits md ops t i = true) (ht : listed.getD t false = false)
 (hQ : ∀ c a w, Q (.panic c) (a.put dst undef) w → Q (.panic c) a w) (hd : dst = some d) (hdn : decide (d < n) = true) (hS : S w)
 (h : wpAnyS P md ops Q S t fuel (listed.setIfInBounds i true) (bC n x ((d, undef) :: live)) w) : wpAnyS P md ops Q S t (fuel + 1) listed (bC n x live) w := by
 subst hd
 exact anyS_first hi (Region.noSelect_spec hs) hw hQ fuel listed _ w (Region.free_spec hi hf) (by simpa using hr) (.inr ⟨by rw [wanted_G rfl hj hdj hv, hb], rfl⟩) hS ht (by rw [dU (of_decide_eq_true hdn)]; exact h)
end
section
variable {P : Program} {n ty : Nat} {x : Nat → Value} {live : List (Nat × Value)} {W : World} {pos : String} {aft : Array Edge} {y z : Operand} {dst : Option Nat} {xt yt e : Nat}
end
section
variable {P : Program} {ops : Array Oper} {Q : Exit → Act → World → Prop} {md : Region.Mode} {S : World → Prop} {t : Nat} {K : Act → World → Prop}
theorem wanted_U {n : Nat} {x : Nat → Value} {live : List (Nat × Value)} {o oj : Oper} {j dj : Nat} {want : Bool} (hg : o.guard = some (j, want)) (hj : ops[j]? = some oj) (hdj : oj.dst = some dj) (hv : evl n live (.tmp dj) = some undef) : Region.wanted o (yielded ops (bC n x live).tmps) = false := by
 have e2 := bN (x := x) hv
 simp only [Act.eval, Array.getD_eq_getD_getElem?] at e2
 unfold Region.wanted yielded
 simp only [hg, hj, Option.bind_some, hdj]
 cases e : (bC n x live).tmps[dj]? with
 | none => rfl
 | some u =>
  rw [e] at e2
  simp only [Option.getD_some] at e2
  subst e2
  rfl
theorem dL {i d n ty : Nat} {x : Nat → Value} {live : List (Nat × Value)} {W : World} {pos : String} {aft : Array Edge} {dst : Option Nat} {op : Op} {j dj : Nat} {want : Bool} {oj : Oper} (ho : ops[i]? = some ⟨dst, op, ty, pos, aft, some (j, want)⟩) (hj : ops[j]? = some oj) (hdj : oj.dst = some dj) (hv : evl n live (.tmp dj) = some undef) (hd : dst = some d) (hdn : decide (d < n) = true) (h : K (bC n x ((d, undef) :: live)) W) : wpOp P ops Q i K (bC n x live) W := by
 subst hd
 unfold wpOp
 simp only [ho]
 have hw : Region.wanted ⟨some d, op, ty, pos, aft, some (j, want)⟩ (yielded ops (bC n x live).tmps) = false := wanted_U rfl hj hdj hv
 rw [hw]
 simp only [Bool.false_eq_true, if_false]
 rw [dU (of_decide_eq_true hdn)]
 exact h
end
def aV (g t : Nat) (A : Option Addr) (n cb : Nat) : HP where
 p := fun W F => F g ∧ ∃ (i : Nat) (h : Int), i ≤ n ∧ Blk W g t #[.slice A n cb, .int .i64 (i : Int), .int .i64 h]
 same := by
  rintro W W' F k ⟨h1, i, h, h2, h3⟩
  exact ⟨h1, i, h, h2, (k g h1).trans h3⟩
 lt := by
  rintro W F ⟨h1, i, h, h2, h3⟩
  exact ⟨⟨h1, Blk.lt h3⟩, i, h, h2, h3⟩
 mono := by
  rintro W F F' k ⟨h1, q⟩
  exact ⟨k g h1, q⟩
section
variable {W w : World} {F0 : Nat → Prop} {l : List HP} {g t n cb : Nat} {A : Option Addr}
theorem St.openCur (H : St w F0 (aV g t A n cb :: l) W) : ∃ (i : Nat) (h : Int), i ≤ n ∧ St w F0 (hB g t #[.slice A n cb, .int .i64 (i : Int), .int .i64 h] :: l) W := by
 obtain ⟨F1, hq, k⟩ := St.unM (q := aV g t A n cb) H
 obtain ⟨h1, i, h, h2, h3⟩ := hq
 exact ⟨i, h, h2, k [hB g t #[.slice A n cb, .int .i64 (i : Int), .int .i64 h]] (Star.one (q := hB g t #[.slice A n cb, .int .i64 (i : Int), .int .i64 h]) ⟨h1, h3⟩)⟩
theorem St.closeCur {i : Nat} {h : Int} (H : St w F0 (hB g t #[.slice A n cb, .int .i64 (i : Int), .int .i64 h] :: l) W) (hi : i ≤ n) : St w F0 (aV g t A n cb :: l) W :=
 St.swap (l0 := [hB g t #[.slice A n cb, .int .i64 (i : Int), .int .i64 h]]) (l' := [aV g t A n cb]) H (fun F q => by
  obtain ⟨F1, F2, ⟨a1, a2⟩, _, i1, _, _⟩ := q.uncons
  exact Star.one (q := aV g t A n cb) ⟨i1 g a1, i, h, hi, a2⟩)
def Kn.u8 : Kn Int := Kn.scalar (Value.int .u8) (fun _ => rfl)
def CV (A : Option Addr) (bs : List Int) (F0 : Nat → Prop) (w : World) : Prop := ∀ W', Upd F0 w W' → C Kn.u8 W' A bs
theorem CV.step {bs : List Int} {F1 : Nat → Prop} (h : CV A bs F0 w) (hu : Upd F0 w W) (hF : ∀ b, F1 b → (F0 b ∨ w.heap.size ≤ b) ∧ b < W.heap.size) : CV A bs F1 W := fun W' hu' =>
 h W' (Upd.trans hu hu' (fun _ _ q => q) (fun b hb q => (hF b q).1.resolve_right kO))
theorem CV.of {bs : List Int} (h : C Kn.u8 w A bs) : CV A bs No w := fun _ hu => dW hu h
end
def andV (p q : Int) : Int := IntKind.i64.wrap ((BitVec.ofInt 64 p &&& BitVec.ofInt 64 q).toNat : Nat)
def xorV (p q : Int) : Int := IntKind.i64.wrap ((BitVec.ofInt 64 p ^^^ BitVec.ofInt 64 q).toNat : Nat)
def shrV (p q : Int) : Int := p.fdiv (2 ^ (min q.toNat 64))
theorem and255 (p : Int) : 0 ≤ andV p 255 ∧ andV p 255 ≤ 255 := by
 have h : (BitVec.ofInt 64 p &&& BitVec.ofInt 64 255).toNat ≤ 255 := by
  rw [BitVec.toNat_and]
  exact Nat.le_trans Nat.and_le_right kD
 unfold andV
 generalize (BitVec.ofInt 64 p &&& BitVec.ofInt 64 255).toNat = z at h
 have e : IntKind.i64.wrap (z : Int) = z := by
  simp [IntKind.wrap, IntKind.signed, IntKind.bits]
  omega
 rw [e]
 omega
section
variable {P : Program} {n ty : Nat} {x : Nat → Value} {live : List (Nat × Value)} {W : World} {pos : String} {aft : Array Edge} {y z : Operand} {dst : Option Nat} {xt yt : Nat} {p q : Int}
theorem rn_mulW (hx : evl n live y = some (.int .i64 p)) (hz : evl n live z = some (.int .i64 q)) : Rn P ⟨dst, .binOp .mul xt y z yt, ty, pos, aft, none⟩ (bC n x live) W (.int .i64 (IntKind.i64.wrap (p * q))) := rn_arith hx hz (by simp [binOp, Op.intArith])
theorem rn_andV (hx : evl n live y = some (.int .i64 p)) (hz : evl n live z = some (.int .i64 q)) : Rn P ⟨dst, .binOp .and xt y z yt, ty, pos, aft, none⟩ (bC n x live) W (.int .i64 (andV p q)) := rn_arith hx hz (by simp only [binOp, Op.intBits, andV]; rfl)
theorem rn_xorV (hx : evl n live y = some (.int .i64 p)) (hz : evl n live z = some (.int .i64 q)) : Rn P ⟨dst, .binOp .xor xt y z yt, ty, pos, aft, none⟩ (bC n x live) W (.int .i64 (xorV p q)) := rn_arith hx hz (by simp only [binOp, Op.intBits, xorV]; rfl)
theorem rn_shrV {k2 : IntKind} (hx : evl n live y = some (.int .i64 p)) (hz : evl n live z = some (.int k2 q)) (hq : 0 ≤ q) : Rn P ⟨dst, .binOp .shr xt y z yt, ty, pos, aft, none⟩ (bC n x live) W (.int .i64 (shrV p q)) := by
 unfold Rn
 simp [execOp, bN hx, bN hz, eqGuard_at_int, binOp, Op.shift, shrV, IntKind.bits, show ¬ q < 0 by omega]
theorem rn_rem (hx : evl n live y = some (.int .i64 p)) (hz : evl n live z = some (.int .i64 q)) (hq : ¬ q = 0) : Rn P ⟨dst, .binOp .rem xt y z yt, ty, pos, aft, none⟩ (bC n x live) W (.int .i64 (p.tmod q)) := rn_arith hx hz (by simp [binOp, Op.intDiv, hq])
theorem rn_conv8 {s d : Nat} {b : Int} (hs : (P.underlying s).isSome = true) (hd : P.underlying d = some (.int .i64)) (hx : evl n live y = some (.int .u8 b)) : Rn P ⟨dst, .convert s d y, ty, pos, aft, none⟩ (bC n x live) W (.int .i64 (IntKind.i64.wrap b)) := by
 unfold Rn
 have hk : P.intKind d = .i64 := by simp [Program.intKind, hd]
 have hr := run_convert_int (P := P) W s d .u8 b hs (by rw [hk]; exact hd)
 rw [hk] at hr
 simp [execOp, bN hx, hr, Result.andThen]
theorem bT {ops : Array Oper} {Q : Exit → Act → World → Prop} {K : Act → World → Prop} {i d m t e len : Nat} {w : World} {F0 : Nat → Prop} {l : List HP} {ps : Array (Nat × Operand)} {vs : List (Nat × Value)} {cells : Array Value} {z0 : Value} (ho : ops[i]? = some ⟨dst, .buildSlice t len ps, ty, pos, aft, none⟩) (hu : ∀ w, (underlying t).run P w = .ok (.slice e) w) (hS : ∀ w, (sizeOf e).run P w = .ok m w) (hz : ∀ w, (zeroValue e).run P w = .ok z0 w)
 (hv : ps.toList.map (fun p => (p.1, evl n live p.2)) = vs.map (fun p => (p.1, some p.2))) (h1 : len * m ≤ 2 ^ 24) (h2 : ¬ len * m = 0) (hf : Instr.fill (fun i => some (i * m, m)) ((Array.range (len * m)).map (fun k => z0.cells[k % z0.cells.size]!)) vs = some cells) (hd : dst = some d) (hdn : decide (d < n) = true) (H : St w F0 l W) (h : ∀ g W', Upd No W W' → St w F0 (hB g e cells :: l) W' → K (bC n x ((d, .slice (some ⟨g, 0, none⟩) len len) :: live)) W') : wpOp P ops Q i K (bC n x live) W := by
 subst hd
 refine op_ok ho rfl ?_
 have hps : (ps.map (fun p => (p.1, (bC n x live).eval p.2))).toList = vs := by
  rw [Array.toList_map]
  generalize ps.toList = pl at hv
  clear hf
  induction pl generalizing vs with
  | nil =>
   cases vs with
   | nil => rfl
   | cons a b => simp at hv
  | cons a pl ih =>
   cases vs with
   | nil => simp at hv
   | cons b vs =>
    simp only [List.map_cons, List.cons.injEq, Prod.mk.injEq] at hv
    rw [List.map_cons, ih hv.2, bN hv.1.2, hv.1.1]
 have h0 : ¬ (len * m > 2 ^ 24) := by omega
 have hrun : (execOp (bC n x live).eval ⟨some d, .buildSlice t len ps, ty, pos, aft, none⟩).run P W = .ok (.value (.slice (some ⟨W.heap.size, 0, none⟩) len len)) (W.alloc (.cells cells e)) := by
  simp only [execOp, Instr.buildSlice, Sem.run_bind, hu, hS, Result.andThen_ok, h0, if_false, h2, hz, Sem.run_pure, hps, hf]
  simp [newRow]
 unfold Oper.wp
 rw [hrun]
 simp only [Oper.upon]
 rw [dU (of_decide_eq_true hdn)]
 exact h _ _ ((Upd.refl _ _).alloc _) (H.alloc e cells)
theorem R_scal {α : Type} {enc : α → Value} {h1 : ∀ x, (enc x).oneCell' = true} {g e : Nat} {cs : Array Value} {xs : List α} {F : Nat → Prop} (h : (hB g e cs).p W F) (hc : cs.toList = xs.map enc) (hn : xs.length ≤ 1048576) : R (Kn.scalar enc h1) e W F (.slice (some ⟨g, 0, none⟩) xs.length xs.length) xs := by
 have hs : cs.size = xs.length := by rw [← Array.length_toList, hc, List.length_map]
 refine .inr ⟨g, xs.length, cs, fun _ _ => False, rfl, h.2, h.1, Nat.le_refl _, by omega, by rw [hs]; show xs.length = xs.length * 1; omega, fun _ _ q => q.elim, fun _ _ _ q => q.elim, fun i x hx => ?_⟩
 show piece 1 cs.toList i = [enc x]
 unfold piece
 rw [hc, Nat.mul_one]
 have hx' := List.getElem?_eq_some_iff.1 hx
 obtain ⟨hi, rfl⟩ := hx'
 rw [List.drop_eq_getElem_cons (by rw [List.length_map]; exact hi)]
 simp
theorem St.eT {α : Type} {enc : α → Value} {h1 : ∀ x, (enc x).oneCell' = true} {w : World} {F0 : Nat → Prop} {l : List HP} {g e m : Nat} {cs : Array Value} {xs : List α} (H : St w F0 (hB g e cs :: l) W) (hc : cs.toList = xs.map enc) (hn : xs.length ≤ 1048576) (hm : m = xs.length) : St w F0 (hR (Kn.scalar enc h1) e (.slice (some ⟨g, 0, none⟩) m m) xs :: l) W := by
 subst hm
 exact St.swap (l0 := [hB g e cs]) (l' := [hR (Kn.scalar enc h1) e (.slice (some ⟨g, 0, none⟩) xs.length xs.length) xs]) H (fun F q => by
  obtain ⟨F1, F2, a1, _, i1, _, _⟩ := q.uncons
  exact Star.one (R_mono i1 (R_scal a1 hc hn)))
theorem tmod_bd (p q : Int) (h0 : 0 ≤ p) (hq : 0 < q) : 0 ≤ p.tmod q ∧ p.tmod q < q := by
 rw [Int.tmod_eq_emod_of_nonneg h0]
 exact ⟨Int.emod_nonneg _ kO, Int.emod_lt_of_pos _ hq⟩
end
section
variable {P : Program} {ops : Array Oper} {Q : Exit → Act → World → Prop} {K : Act → World → Prop} {n i d ty : Nat} {x : Nat → Value} {live : List (Nat × Value)} {W w : World} {pos : String} {aft : Array Edge} {v : Value} {y z : Operand}
theorem dS {dst : Option Nat} {t t2 : Nat} {xs ys : Array Value} {b : Bool} (hg : P.eqGuardType P.depth t = false) (hx : evl n live y = some (.agg xs)) (hz : evl n live z = some (.agg ys)) (h : (Op.equalIn 10000 t (.agg xs) (.agg ys)).run P W = .ok b W) : Rn P ⟨dst, .binOp .eql t y z t2, ty, pos, aft, none⟩ (bC n x live) W (.bool b) := by
 unfold Rn
 simp [execOp, bN hx, bN hz, run_eqGuard_agg (P := P) W .eql t _ _ xs ys hg, run_eql_struct, h, Result.andThen]
theorem rn_neqA {dst : Option Nat} {t t2 : Nat} {xs ys : Array Value} {b : Bool} (hg : P.eqGuardType P.depth t = false) (hx : evl n live y = some (.agg xs)) (hz : evl n live z = some (.agg ys)) (h : (Op.equalIn 10000 t (.agg xs) (.agg ys)).run P W = .ok b W) : Rn P ⟨dst, .binOp .neq t y z t2, ty, pos, aft, none⟩ (bC n x live) W (.bool (!b)) := by
 unfold Rn
 simp [execOp, bN hx, bN hz, run_eqGuard_agg (P := P) W .neq t _ _ xs ys hg, run_neq_struct, h, Result.andThen]
theorem rn_strneq {dst : Option Nat} {xt yt : Nat} {s t : ByteArray} (hx : evl n live y = some (.string s)) (hz : evl n live z = some (.string t)) : Rn P ⟨dst, .binOp .neq xt y z yt, ty, pos, aft, none⟩ (bC n x live) W (.bool (!(s.toList == t.toList))) := by
 unfold Rn
 simp [execOp, bN hx, bN hz, eqGuard_at_string, binOp, Op.stringOp]
theorem rn_eqlB {dst : Option Nat} {xt yt : Nat} {a b : Bool} (hu : P.underlying xt = some .bool) (hx : evl n live y = some (.bool a)) (hz : evl n live z = some (.bool b)) : Rn P ⟨dst, .binOp .eql xt y z yt, ty, pos, aft, none⟩ (bC n x live) W (.bool (a == b)) := by
 unfold Rn
 simp [execOp, bN hx, bN hz, eqGuard_at_bool, run_eql_bool (P := P) W xt a b hu, Result.andThen]
theorem op_callF {dst : Option Nat} {f : FuncId} {ys : Array Operand} {tys : Array Nat} {vs : Array Value} {R : Ending → World → Prop} (ho : ops[i]? = some ⟨dst, .call { callee := .value y, args := ys, argTypes := tys }, ty, pos, aft, none⟩) (hy : evl n live y = some (.func (.func f) #[] #[])) (hf : ∀ us w, (callFunc f us).run P w = .ok (.enter f us) w) (hv : ys.toList.map (evl n live) = vs.toList.map some) (hd : dst = some d) (hdn : decide (d < n) = true) (hc : Calls P f vs W R) (h : ∀ e W', R e W' → ∃ v, e = .returned v ∧ K (bC n x ((d, v) :: live)) W') : wpOp P ops Q i K (bC n x live) W := by
 subst hd
 refine op_ok ho rfl ?_
 have e : ys.map (bC n x live).eval = vs := evls_ok hv
 have hrun : (execOp (bC n x live).eval ⟨some d, .call { callee := .value y, args := ys, argTypes := tys }, ty, pos, aft, none⟩).run P W = .ok (.enter f vs) W := by
  simp [execOp, resolve, bN hy, Deferred.ofValue, invoke, e, hf]
 unfold Oper.wp
 rw [hrun]
 simp only [Oper.upon]
 refine hc.mono fun e' W' hR => ?_
 obtain ⟨u, rfl, hk⟩ := h e' W' hR
 show K ((bC n x live).put (some d) u) W'
 rw [dU (of_decide_eq_true hdn)]
 exact hk
end
end Go.Proofs.YtdfipdpeilegpaaSep
namespace Go.Proofs.YtdfipdpeilegpaaFam
open Go.ChangeShapes Go.WideShapes Go.RowKit Go.Proofs.YtdfipdpeilegpaaSep Go.Proofs.YtdfipdpeilegpaaT Go.Proofs.YtdfipdpeilegpaaK
set_option linter.unusedVariables false
set_option linter.unusedSimpArgs false
attribute [local irreducible] wpOps wpOp
set_option maxHeartbeats 4000000
set_option maxRecDepth 100000
def rgB (p : Int) : Bool := decide ((0 : Int) ≤ p ∧ p ≤ 7)
def inB (p a b : Int) : Bool := decide (a ≤ p ∧ p ≤ b)
def ltB (s : ByteArray) (i : Nat) : Bool := decide ((97 : Int) ≤ byt s i) && decide (byt s i ≤ (122 : Int))
def nmB (s : ByteArray) : Bool := inB (s.size : Nat) 1 6 && (List.range s.size).all (ltB s)
theorem all_yes {α : Type} (p : α → Bool) (l : List α) (i : Nat) (h : i < l.length) (hp : p l[i] = true) : (l.drop i).all p = (l.drop (i + 1)).all p := by
 rw [List.drop_eq_getElem_cons h, List.all_cons, hp, Bool.true_and]
theorem gX {α : Type} (p : α → Bool) (l : List α) (i : Nat) (h : i < l.length) (hp : p l[i] = false) : (l.drop i).all p = false := by
 rw [List.drop_eq_getElem_cons h, List.all_cons, hp, Bool.false_and]
theorem all_end {α : Type} (p : α → Bool) (l : List α) (i : Nat) (h : l.length ≤ i) : (l.drop i).all p = true := by
 rw [List.drop_eq_nil_of_le h]; rfl
theorem rg_at (s : ByteArray) (i : Nat) (h : i < (List.range s.size).length) : (List.range s.size)[i] = i := List.getElem_range h
theorem lt_yes (s : ByteArray) (i : Nat) (h : i < (List.range s.size).length) (h1 : ¬ byt s i < (97 : Int)) (h2 : ¬ (122 : Int) < byt s i) : ltB s (List.range s.size)[i] = true := by
 rw [rg_at, ltB, decide_eq_true kO, decide_eq_true kO]
 rfl
theorem lt_no (s : ByteArray) (i : Nat) (h : i < (List.range s.size).length) (h1 : byt s i < (97 : Int) ∨ (122 : Int) < byt s i) : ltB s (List.range s.size)[i] = false := by
 rw [rg_at, ltB]
 rcases h1 with h1 | h1
 ·rw [decide_eq_false (show ¬ (97 : Int) ≤ byt s i by omega)]
  rfl
 ·rw [decide_eq_false (show ¬ byt s i ≤ (122 : Int) by omega), Bool.and_false]
theorem bO (p : Int) (w : World) : Calls Try.prog 150 #[.int .i64 p] w (bY (rgB p) w) := by
 refine enter 5 [(0, .int .i64 (p))] Try.func150 rfl kR ?_
 intro xj
 have H1 : St w No [] w := St.enter
 refine wp_seq ?_
 refine aI [0] rfl ?_
 refine aA ?_
 refine aB rfl (aG rfl) rfl rfl ?_
 refine aF ?_
 refine aH ?_
 refine wp_seq ?_
 refine aI [0, 1, 2] rfl ?_
 refine aA ?_
 refine aB rfl (aC rfl) rfl rfl ?_
 refine aA ?_
 refine aK rfl Try.call61 (vs := #[.int .i64 (p), .int .i64 (0), .int .i64 (7)]) rfl rfl rfl (fK p 0 7 _) ?_
 rintro e4 W3 ⟨rfl, hu2⟩; refine ⟨_, rfl, ?_⟩
 have H5 := H1.no hu2; clear H1
 refine aA ?_
 refine aB rfl (aG rfl) rfl rfl ?_
 refine aF ?_
 refine aH ?_
 refine wp_ret ?_
 refine aM (.inl rfl) Try.results150 rfl ?_
 exact ⟨rfl, H5.1⟩
theorem bR (p : Int) (w : World) : Calls Try.prog 165 #[.int .i64 p] w (bY (rgB p) w) := by
 refine enter 5 [(0, .int .i64 (p))] Try.func165 rfl kR ?_
 intro xj
 have H1 : St w No [] w := St.enter
 refine wp_seq ?_
 refine aI [0] rfl ?_
 refine aA ?_
 refine aB rfl (aG rfl) rfl rfl ?_
 refine aF ?_
 refine aH ?_
 refine wp_seq ?_
 refine aI [0, 1, 2] rfl ?_
 refine aA ?_
 refine aB rfl (aC rfl) rfl rfl ?_
 refine aA ?_
 refine aK rfl Try.call60 (vs := #[.int .i64 (p), .int .i64 (0), .int .i64 (7)]) rfl rfl rfl (in_i p 0 7 _) ?_
 rintro e4 W3 ⟨rfl, hu2⟩; refine ⟨_, rfl, ?_⟩
 have H5 := H1.no hu2; clear H1
 refine aA ?_
 refine aB rfl (aG rfl) rfl rfl ?_
 refine aF ?_
 refine aH ?_
 refine wp_ret ?_
 refine aM (.inl rfl) Try.results165 rfl ?_
 exact ⟨rfl, H5.1⟩
theorem fF (s : ByteArray) (w : World) : Calls Try.prog 115 #[.string s] w (bY (nmB s) w) := by
 refine enter 24 [(0, .string (s))] Try.func115 rfl kR ?_
 intro xj
 have H1 : St w No [] w := St.enter
 have hrl : (List.range s.size).length = s.size := List.length_range
 refine wp_seq ?_
 refine aI [0] rfl ?_
 refine aA ?_
 refine aB rfl (aG rfl) rfl rfl ?_
 refine aF ?_
 refine aH ?_
 refine wp_seq ?_
 refine wp_seq ?_
 refine aI [0, 1, 2, 3] rfl ?_
 refine aA ?_
 refine aB rfl (aC rfl) rfl rfl ?_
 refine aA ?_
 refine aB rfl (rn_lenS Try.runUnderlying9 rfl) rfl rfl ?_
 refine aA ?_
 refine aK rfl Try.call60 (vs := #[.int .i64 ((s.size : Nat)), .int .i64 (1), .int .i64 (6)]) rfl rfl rfl (in_i (s.size : Nat) 1 6 _) ?_
 rintro e4 W3 ⟨rfl, hu2⟩; refine ⟨_, rfl, ?_⟩
 have H5 := H1.no hu2; clear H1
 refine aA ?_
 refine aB rfl (eX rfl) rfl rfl ?_
 refine aF ?_
 refine aH ?_
 refine fC (b := !(inB (s.size : Nat) 1 6)) rfl (fun hc6 => ?_) (fun hc6 => ?_)
 ·refine wp_seq ?_
  refine aI [0] rfl ?_
  refine aA ?_
  refine aB rfl (aG rfl) rfl rfl ?_
  refine aF ?_
  refine aH ?_
  refine wp_ret ?_
  refine aR ?_
  refine aM (.inl rfl) Try.results115 rfl ?_
  have hr7 : nmB s = false := by rw [nmB, show inB ((s.size : Nat) : Int) 1 6 = false by simpa using hc6]; rfl
  rw [hr7]
  exact ⟨rfl, H5.1⟩
 ·refine wp_skip ?_
  refine aH ?_
  refine wp_seq ?_
  refine wp_seq ?_
  have hs : s.size ≤ 1048576 := by have q : inB ((s.size : Nat) : Int) 1 6 = true := (by simpa using hc6); unfold inB at q; have q2 := of_decide_eq_true q; omega
  refine aI [0, 1, 2] rfl ?_
  refine aA ?_
  refine aB rfl (aC rfl) rfl rfl ?_
  refine aA ?_
  refine aB rfl (rn_lenS Try.runUnderlying9 rfl) rfl rfl ?_
  refine aA ?_
  refine aB rfl (aC rfl) rfl rfl ?_
  refine aF ?_
  refine aH ?_
  refine wp_block ?_
  refine wp_loop_ghost (fun r a' W' => ∃ (i1 : Nat) (x' : Nat → Value), a' = bC 24 x' [(0, .string (s)), (9, .int .i64 ((s.size : Nat))), (10, .int .i64 (((i1 : Nat) : Int)))] ∧ (i1 + r = (List.range s.size).length) ∧ ((List.range s.size).all (ltB s) = ((List.range s.size).drop i1).all (ltB s)) ∧ St w No [] W') ((List.range s.size).length) ?_ ?_
  ·exact (bJ [(0, .string (s)), (9, .int .i64 ((s.size : Nat))), (10, .int .i64 (((0 : Nat) : Int)))] rfl).elim fun x' hx => ⟨0, x', hx, kO, (by rw [List.drop_zero]), H5⟩
  ·rintro r8 _ W9 ⟨i1, x10, rfl, hi1, hf1, H11⟩; clear H5
   refine wp_seq ?_
   refine aI [0] rfl ?_
   refine aA ?_
   refine aB rfl (eY rfl rfl) rfl rfl ?_
   refine aF ?_
   refine aH ?_
   refine wp_seq ?_
   refine aW rfl (fun hc12 => ?_) (fun hc12 => ?_)
   ·have hlt1 : i1 < (List.range s.size).length := by omega
    refine wp_skip ?_
    refine aH ?_
    refine wp_seq ?_
    refine wp_block ?_
    refine wp_seq ?_
    refine aI [0, 1] rfl ?_
    refine aA ?_
    refine aB rfl (aC rfl) rfl rfl ?_
    refine aA ?_
    refine aB rfl (aG rfl) rfl rfl ?_
    refine aF ?_
    refine aH ?_
    refine wp_seq ?_
    refine aI [0, 1, 2, 3, 4, 5, 6, 7, 8, 9] rfl ?_
    refine aA ?_
    refine aB rfl (aC rfl) rfl rfl ?_
    refine aA ?_
    refine aB rfl (aC rfl) rfl rfl ?_
    refine aA ?_
    refine aB rfl (rn_indexS (k := i1) Try.runUnderlying9 rfl rfl kO) rfl rfl ?_
    by_cases hg13 : ((byt s i1) : Int) < 97
    ·refine aA ?_
     refine aB rfl (bQ hg13 (rn_lss8 rfl rfl)) rfl rfl ?_
     refine aA ?_
     refine aB rfl (aC rfl) rfl rfl ?_
     refine aA ?_
     refine aD rfl rfl rfl rfl rfl rfl rfl ?_
     refine aA ?_
     refine aD rfl rfl rfl rfl rfl rfl rfl ?_
     refine aA ?_
     refine aD rfl rfl rfl rfl rfl rfl rfl ?_
     refine aA ?_
     refine aD rfl rfl rfl rfl rfl rfl rfl ?_
     refine aA ?_
     refine aB rfl (aJ (v := .bool (true)) (b := true) rfl rfl rfl rfl) rfl rfl ?_
     refine aF ?_
     refine aH ?_
     refine fI rfl ?_
     refine wp_seq ?_
     refine aI [0] rfl ?_
     refine aA ?_
     refine aB rfl (aG rfl) rfl rfl ?_
     refine aF ?_
     refine aH ?_
     refine wp_ret ?_
     refine aY ?_
     refine aR ?_
     refine aR ?_
     refine aY ?_
     refine aR ?_
     refine aM (.inl rfl) Try.results115 rfl ?_
     have hr14 : nmB s = false := by rw [nmB, hf1, gX (ltB s) (List.range s.size) i1 hlt1 (lt_no s i1 hlt1 (.inl (by assumption))), Bool.and_false]
     rw [hr14]
     exact ⟨rfl, H11.1⟩
    ·refine aA ?_
     refine aB rfl (bS hg13 (rn_lss8 rfl rfl)) rfl rfl ?_
     refine aA ?_
     refine aB rfl (aC rfl) rfl rfl ?_
     refine aA ?_
     refine aT rfl rfl rfl rfl (fun _ ho15 => ?_)
     refine aB ho15 (aC rfl) rfl rfl ?_
     refine aA ?_
     refine aT rfl rfl rfl rfl (fun _ ho16 => ?_)
     refine aB ho16 (aC rfl) rfl rfl ?_
     refine aA ?_
     refine aT rfl rfl rfl rfl (fun _ ho17 => ?_)
     refine aB ho17 (rn_indexS (k := i1) Try.runUnderlying9 rfl rfl kO) rfl rfl ?_
     by_cases hg18 : (122 : Int) < (byt s i1)
     ·refine aA ?_
      refine aT rfl rfl rfl rfl (fun _ ho19 => ?_)
      refine aB ho19 (bQ hg18 (rn_gtr8 rfl rfl)) rfl rfl ?_
      refine aA ?_
      refine aB rfl (aJ (v := .bool (true)) (b := false) rfl rfl rfl rfl) rfl rfl ?_
      refine aF ?_
      refine aH ?_
      refine fI rfl ?_
      refine wp_seq ?_
      refine aI [0] rfl ?_
      refine aA ?_
      refine aB rfl (aG rfl) rfl rfl ?_
      refine aF ?_
      refine aH ?_
      refine wp_ret ?_
      refine aY ?_
      refine aR ?_
      refine aR ?_
      refine aY ?_
      refine aR ?_
      refine aM (.inl rfl) Try.results115 rfl ?_
      have hr20 : nmB s = false := by rw [nmB, hf1, gX (ltB s) (List.range s.size) i1 hlt1 (lt_no s i1 hlt1 (.inr (by assumption))), Bool.and_false]
      rw [hr20]
      exact ⟨rfl, H11.1⟩
     ·refine aA ?_
      refine aT rfl rfl rfl rfl (fun _ ho21 => ?_)
      refine aB ho21 (bS hg18 (rn_gtr8 rfl rfl)) rfl rfl ?_
      refine aA ?_
      refine aB rfl (aJ (v := .bool (false)) (b := false) rfl rfl rfl rfl) rfl rfl ?_
      refine aF ?_
      refine aH ?_
      refine gI rfl ?_
      refine wp_skip ?_
      refine dR ?_
      refine aH ?_
      refine aI [0, 1] rfl ?_
      refine aA ?_
      refine aB rfl (fJ (k := i1) rfl rfl kO) rfl rfl ?_
      refine aA ?_
      refine aB rfl (aC rfl) rfl rfl ?_
      refine aF ?_
      refine aH ?_
      exact (bJ [(0, .string (s)), (9, .int .i64 ((s.size : Nat))), (10, .int .i64 (((i1 + 1 : Nat) : Int)))] rfl).elim fun x' hx => ⟨r8 - 1, kO, i1 + 1, x', hx, kO, (hf1.trans (all_yes (ltB s) (List.range s.size) i1 hlt1 (lt_yes s i1 hlt1 (by assumption) (by assumption)))), H11⟩
   ·have hge1 : (List.range s.size).length ≤ i1 := by omega
    refine wp_exit ?_
    refine dH ?_
    refine dH ?_
    refine inB_x ?_
    refine aH ?_
    refine wp_seq ?_
    refine aI [0] rfl ?_
    refine aA ?_
    refine aB rfl (aG rfl) rfl rfl ?_
    refine aF ?_
    refine aH ?_
    refine wp_ret ?_
    refine aM (.inl rfl) Try.results115 rfl ?_
    have hr22 : nmB s = true := by rw [nmB, hf1, all_end (ltB s) (List.range s.size) i1 hge1, show inB ((s.size : Nat) : Int) 1 6 = true by simpa using hc6]; rfl
    rw [hr22]
    exact ⟨rfl, H11.1⟩
theorem fG (s : ByteArray) (w : World) (hs : s.size ≤ 1048576) : Calls Try.prog 76 #[.string s] w (bY (nmB s) w) := by
 refine enter 23 [(0, .string (s))] Try.func76 rfl kR ?_
 intro xj
 have H1 : St w No [] w := St.enter
 have hrl : (List.range s.size).length = s.size := List.length_range
 refine wp_seq ?_
 refine aI [0] rfl ?_
 refine aA ?_
 refine aB rfl (aG rfl) rfl rfl ?_
 refine aF ?_
 refine aH ?_
 refine wp_seq ?_
 refine wp_seq ?_
 refine aI [0] rfl ?_
 refine aA ?_
 refine aB rfl (aG rfl) rfl rfl ?_
 refine aF ?_
 refine aH ?_
 refine wp_block ?_
 refine wp_loop_ghost (fun r a' W' => ∃ (i1 : Nat) (x' : Nat → Value), a' = bC 23 x' [(0, .string (s)), (3, .int .i64 (((i1 : Nat) : Int)))] ∧ (i1 + r = (List.range s.size).length) ∧ ((List.range s.size).all (ltB s) = ((List.range s.size).drop i1).all (ltB s)) ∧ St w No [] W') ((List.range s.size).length) ?_ ?_
 ·exact (bJ [(0, .string (s)), (3, .int .i64 (((0 : Nat) : Int)))] rfl).elim fun x' hx => ⟨0, x', hx, kO, (by rw [List.drop_zero]), H1⟩
 ·rintro r2 _ W3 ⟨i1, x4, rfl, hi1, hf1, H5⟩; clear H1
  refine wp_seq ?_
  refine wp_seq ?_
  refine aI [0, 1, 2, 3] rfl ?_
  refine aA ?_
  refine aB rfl (aC rfl) rfl rfl ?_
  refine aA ?_
  refine aB rfl (aC rfl) rfl rfl ?_
  refine aA ?_
  refine aB rfl (rn_lenS Try.runUnderlying9 rfl) rfl rfl ?_
  refine aA ?_
  refine aB rfl (eY rfl rfl) rfl rfl ?_
  refine aF ?_
  refine aH ?_
  refine aW rfl (fun hc6 => ?_) (fun hc6 => ?_)
  ·have hlt1 : i1 < (List.range s.size).length := by omega
   refine wp_skip ?_
   refine aH ?_
   refine wp_seq ?_
   refine wp_block ?_
   refine wp_seq ?_
   refine aI [0, 1, 2, 3, 4, 5, 6, 7, 8, 9] rfl ?_
   refine aA ?_
   refine aB rfl (aC rfl) rfl rfl ?_
   refine aA ?_
   refine aB rfl (aC rfl) rfl rfl ?_
   refine aA ?_
   refine aB rfl (rn_indexS (k := i1) Try.runUnderlying9 rfl rfl kO) rfl rfl ?_
   by_cases hg7 : ((byt s i1) : Int) < 97
   ·refine aA ?_
    refine aB rfl (bQ hg7 (rn_lss8 rfl rfl)) rfl rfl ?_
    refine aA ?_
    refine aB rfl (aC rfl) rfl rfl ?_
    refine aA ?_
    refine aD rfl rfl rfl rfl rfl rfl rfl ?_
    refine aA ?_
    refine aD rfl rfl rfl rfl rfl rfl rfl ?_
    refine aA ?_
    refine aD rfl rfl rfl rfl rfl rfl rfl ?_
    refine aA ?_
    refine aD rfl rfl rfl rfl rfl rfl rfl ?_
    refine aA ?_
    refine aB rfl (aJ (v := .bool (true)) (b := true) rfl rfl rfl rfl) rfl rfl ?_
    refine aF ?_
    refine aH ?_
    refine fI rfl ?_
    refine wp_seq ?_
    refine aI [0] rfl ?_
    refine aA ?_
    refine aB rfl (aG rfl) rfl rfl ?_
    refine aF ?_
    refine aH ?_
    refine wp_ret ?_
    refine aY ?_
    refine aR ?_
    refine aR ?_
    refine aY ?_
    refine aR ?_
    refine aM (.inl rfl) Try.results76 rfl ?_
    have hr8 : nmB s = false := by rw [nmB, hf1, gX (ltB s) (List.range s.size) i1 hlt1 (lt_no s i1 hlt1 (.inl (by assumption))), Bool.and_false]
    rw [hr8]
    exact ⟨rfl, H5.1⟩
   ·refine aA ?_
    refine aB rfl (bS hg7 (rn_lss8 rfl rfl)) rfl rfl ?_
    refine aA ?_
    refine aB rfl (aC rfl) rfl rfl ?_
    refine aA ?_
    refine aT rfl rfl rfl rfl (fun _ ho9 => ?_)
    refine aB ho9 (aC rfl) rfl rfl ?_
    refine aA ?_
    refine aT rfl rfl rfl rfl (fun _ ho10 => ?_)
    refine aB ho10 (aC rfl) rfl rfl ?_
    refine aA ?_
    refine aT rfl rfl rfl rfl (fun _ ho11 => ?_)
    refine aB ho11 (rn_indexS (k := i1) Try.runUnderlying9 rfl rfl kO) rfl rfl ?_
    by_cases hg12 : (122 : Int) < (byt s i1)
    ·refine aA ?_
     refine aT rfl rfl rfl rfl (fun _ ho13 => ?_)
     refine aB ho13 (bQ hg12 (rn_gtr8 rfl rfl)) rfl rfl ?_
     refine aA ?_
     refine aB rfl (aJ (v := .bool (true)) (b := false) rfl rfl rfl rfl) rfl rfl ?_
     refine aF ?_
     refine aH ?_
     refine fI rfl ?_
     refine wp_seq ?_
     refine aI [0] rfl ?_
     refine aA ?_
     refine aB rfl (aG rfl) rfl rfl ?_
     refine aF ?_
     refine aH ?_
     refine wp_ret ?_
     refine aY ?_
     refine aR ?_
     refine aR ?_
     refine aY ?_
     refine aR ?_
     refine aM (.inl rfl) Try.results76 rfl ?_
     have hr14 : nmB s = false := by rw [nmB, hf1, gX (ltB s) (List.range s.size) i1 hlt1 (lt_no s i1 hlt1 (.inr (by assumption))), Bool.and_false]
     rw [hr14]
     exact ⟨rfl, H5.1⟩
    ·refine aA ?_
     refine aT rfl rfl rfl rfl (fun _ ho15 => ?_)
     refine aB ho15 (bS hg12 (rn_gtr8 rfl rfl)) rfl rfl ?_
     refine aA ?_
     refine aB rfl (aJ (v := .bool (false)) (b := false) rfl rfl rfl rfl) rfl rfl ?_
     refine aF ?_
     refine aH ?_
     refine gI rfl ?_
     refine wp_skip ?_
     refine dR ?_
     refine aH ?_
     refine aI [0, 1, 2] rfl ?_
     refine aA ?_
     refine aB rfl (aC rfl) rfl rfl ?_
     refine aA ?_
     refine aB rfl (fJ (k := i1) rfl rfl kO) rfl rfl ?_
     refine aA ?_
     refine aB rfl (aG rfl) rfl rfl ?_
     refine aF ?_
     refine aH ?_
     exact (bJ [(0, .string (s)), (3, .int .i64 (((i1 + 1 : Nat) : Int)))] rfl).elim fun x' hx => ⟨r2 - 1, kO, i1 + 1, x', hx, kO, (hf1.trans (all_yes (ltB s) (List.range s.size) i1 hlt1 (lt_yes s i1 hlt1 (by assumption) (by assumption)))), H5⟩
  ·have hge1 : (List.range s.size).length ≤ i1 := by omega
   refine wp_exit ?_
   refine dH ?_
   refine dH ?_
   refine inB_x ?_
   refine aH ?_
   refine wp_seq ?_
   refine aI [0, 1, 2, 3] rfl ?_
   refine aA ?_
   refine aB rfl (aC rfl) rfl rfl ?_
   refine aA ?_
   refine aB rfl (rn_lenS Try.runUnderlying9 rfl) rfl rfl ?_
   refine aA ?_
   refine aK rfl Try.call61 (vs := #[.int .i64 ((s.size : Nat)), .int .i64 (1), .int .i64 (6)]) rfl rfl rfl (fK (s.size : Nat) 1 6 _) ?_
   rintro e18 W17 ⟨rfl, hu16⟩; refine ⟨_, rfl, ?_⟩
   have H19 := H5.no hu16; clear H5
   refine aA ?_
   refine aB rfl (aG rfl) rfl rfl ?_
   refine aF ?_
   refine aH ?_
   refine wp_ret ?_
   refine aM (.inl rfl) Try.results76 rfl ?_
   have hr : nmB s = inB (s.size : Nat) 1 6 := by rw [nmB, hf1, all_end (ltB s) (List.range s.size) i1 hge1, Bool.and_true]
   rw [hr]
   exact ⟨rfl, H19.1⟩
def endB (x : GMethod) : Bool := if h : 0 < x.Code.length then decide ((x.Code[x.Code.length - 1]'kO).Op = 10) else false
theorem ends_i (x : GMethod) (cs : List Value) (w : World) (h : aL.K w x cs) (hl : x.Code.length ≤ 4194304) : Calls Try.prog 24 #[.agg cs.toArray] w (bY (endB x) w) := by
 have hlc : x.Code.length ≤ 4194304 := hl
 obtain ⟨Ax1, cx1, rfl, hlx1, hCx1⟩ := dI h
 refine enter 19 [(0, .agg #[.string (x.Name), .slice Ax1 x.Code.length cx1])] Try.func24 rfl kR ?_
 intro xj
 have H1 : St w No [] w := St.enter
 refine wp_seq ?_
 refine aI [0, 1] rfl ?_
 refine aA ?_
 refine eG rfl rfl rfl rfl H1 ?_
 intro g_0_0 W2 hu3 Ha4; clear H1; clear hu3
 refine aA ?_
 refine aB rfl (aG rfl) rfl rfl ?_
 refine aF ?_
 refine aH ?_
 refine wp_seq ?_
 refine aI [0, 1, 2, 3, 4, 5, 6, 7, 8, 9, 10, 11, 12, 13, 14, 15, 16] rfl ?_
 refine aA ?_
 refine aB rfl (aN dZ rfl) rfl rfl ?_
 refine aA ?_
 refine aB rfl (aS (k := 1) (v := .slice Ax1 x.Code.length cx1) Try.isAgg49 rfl (Ha4.blk 0 rfl) rfl) rfl rfl ?_
 refine aA ?_
 refine aB rfl (dG Try.runUnderlying49 rfl) rfl rfl ?_
 by_cases hg6 : (0 : Int) < (x.Code.length : Nat)
 ·have hlt : x.Code.length - 1 < x.Code.length := by omega
  obtain ⟨ade7, cse7, hAe7, hKe7, hce7⟩ := eD hCx1 (x.Code.length - 1) hlt
  have hle7 := gQ hKe7
  have hoe7 := gT hKe7
  obtain rfl := fD hKe7
  refine aA ?_
  refine aB rfl (bQ hg6 (rn_gtr rfl rfl)) rfl rfl ?_
  refine aA ?_
  refine aB rfl (aC rfl) rfl rfl ?_
  refine aA ?_
  refine aT rfl rfl rfl rfl (fun _ ho8 => ?_)
  refine aB ho8 (aN dZ rfl) rfl rfl ?_
  refine aA ?_
  refine aT rfl rfl rfl rfl (fun _ ho9 => ?_)
  refine aB ho9 (aS (k := 1) (v := .slice Ax1 x.Code.length cx1) Try.isAgg49 rfl (Ha4.blk 0 rfl) rfl) rfl rfl ?_
  refine aA ?_
  refine aT rfl rfl rfl rfl (fun _ ho10 => ?_)
  refine aB ho10 (aN dZ rfl) rfl rfl ?_
  refine aA ?_
  refine aT rfl rfl rfl rfl (fun _ ho11 => ?_)
  refine aB ho11 (aS (k := 1) (v := .slice Ax1 x.Code.length cx1) Try.isAgg49 rfl (Ha4.blk 0 rfl) rfl) rfl rfl ?_
  refine aA ?_
  refine aT rfl rfl rfl rfl (fun _ ho12 => ?_)
  refine aB ho12 (dG Try.runUnderlying49 rfl) rfl rfl ?_
  refine aA ?_
  refine aT rfl rfl rfl rfl (fun _ ho13 => ?_)
  refine aB ho13 (rn_int (q := ((x.Code.length - 1 : Nat) : Int)) kO (rn_sub rfl rfl kO)) rfl rfl ?_
  refine aA ?_
  refine aT rfl rfl rfl rfl (fun _ ho14 => ?_)
  refine aB ho14 (bW (k := (x.Code.length - 1)) Try.runUnderlying49 Try.sizeOf118 rfl rfl hAe7 hlt) rfl rfl ?_
  refine aA ?_
  refine aT rfl rfl rfl rfl (fun _ ho15 => ?_)
  refine aB ho15 (aN eH rfl) rfl rfl ?_
  refine aA ?_
  refine aT rfl rfl rfl rfl (fun _ ho16 => ?_)
  refine aB ho16 (fT (v := .int .i64 (x.Code[(x.Code.length - 1)].Op)) Try.isAgg3 rfl (Cat.upd hce7 Ha4.1) rfl) rfl rfl ?_
  by_cases hg17 : ((x.Code[(x.Code.length - 1)].Op) : Int) = 10
  ·refine aA ?_
   refine aT rfl rfl rfl rfl (fun _ ho18 => ?_)
   refine aB ho18 (bQ hg17 (bD rfl rfl)) rfl rfl ?_
   refine aA ?_
   refine aB rfl (aJ (v := .bool (true)) (b := true) rfl rfl rfl rfl) rfl rfl ?_
   refine aA ?_
   refine aB rfl (aG rfl) rfl rfl ?_
   refine aF ?_
   refine aH ?_
   refine wp_ret ?_
   refine aM (.inl rfl) Try.results24 rfl ?_
   have hr : endB x = decide (x.Code[x.Code.length - 1].Op = 10) := dif_pos kO
   rw [hr]
   exact ⟨by rw [decide_eq_true (by assumption)], Ha4.1⟩
  ·refine aA ?_
   refine aT rfl rfl rfl rfl (fun _ ho19 => ?_)
   refine aB ho19 (bS hg17 (bD rfl rfl)) rfl rfl ?_
   refine aA ?_
   refine aB rfl (aJ (v := .bool (false)) (b := true) rfl rfl rfl rfl) rfl rfl ?_
   refine aA ?_
   refine aB rfl (aG rfl) rfl rfl ?_
   refine aF ?_
   refine aH ?_
   refine wp_ret ?_
   refine aM (.inl rfl) Try.results24 rfl ?_
   have hr : endB x = decide (x.Code[x.Code.length - 1].Op = 10) := dif_pos kO
   rw [hr]
   exact ⟨by rw [decide_eq_false (by assumption)], Ha4.1⟩
 ·refine aA ?_
  refine aB rfl (bS hg6 (rn_gtr rfl rfl)) rfl rfl ?_
  refine aA ?_
  refine aB rfl (aC rfl) rfl rfl ?_
  refine aA ?_
  refine aD rfl rfl rfl rfl rfl rfl rfl ?_
  refine aA ?_
  refine aD rfl rfl rfl rfl rfl rfl rfl ?_
  refine aA ?_
  refine aD rfl rfl rfl rfl rfl rfl rfl ?_
  refine aA ?_
  refine aD rfl rfl rfl rfl rfl rfl rfl ?_
  refine aA ?_
  refine aD rfl rfl rfl rfl rfl rfl rfl ?_
  refine aA ?_
  refine aD rfl rfl rfl rfl rfl rfl rfl ?_
  refine aA ?_
  refine aD rfl rfl rfl rfl rfl rfl rfl ?_
  refine aA ?_
  refine aD rfl rfl rfl rfl rfl rfl rfl ?_
  refine aA ?_
  refine aD rfl rfl rfl rfl rfl rfl rfl ?_
  refine aA ?_
  refine aD rfl rfl rfl rfl rfl rfl rfl ?_
  refine aA ?_
  refine aB rfl (aJ (v := .bool (false)) (b := false) rfl rfl rfl rfl) rfl rfl ?_
  refine aA ?_
  refine aB rfl (aG rfl) rfl rfl ?_
  refine aF ?_
  refine aH ?_
  refine wp_ret ?_
  refine aM (.inl rfl) Try.results24 rfl ?_
  have hr : endB x = false := dif_neg kO
  rw [hr]
  exact ⟨rfl, Ha4.1⟩
theorem ends_s (x : GMethod) (cs : List Value) (w : World) (h : aL.K w x cs) (hl : x.Code.length ≤ 4194304) : Calls Try.prog 25 #[.agg cs.toArray] w (bY (endB x) w) := by
 have hlc : x.Code.length ≤ 4194304 := hl
 obtain ⟨Ax1, cx1, rfl, hlx1, hCx1⟩ := dI h
 refine enter 19 [(0, .agg #[.string (x.Name), .slice Ax1 x.Code.length cx1])] Try.func25 rfl kR ?_
 intro xj
 have H1 : St w No [] w := St.enter
 refine wp_seq ?_
 refine aI [0, 1] rfl ?_
 refine aA ?_
 refine eG rfl rfl rfl rfl H1 ?_
 intro g_0_0 W2 hu3 Ha4; clear H1; clear hu3
 refine aA ?_
 refine aB rfl (aG rfl) rfl rfl ?_
 refine aF ?_
 refine aH ?_
 refine wp_seq ?_
 refine aI [0, 1, 2, 3, 4, 5, 6, 7, 8, 9, 10, 11, 12, 13, 14, 15, 16] rfl ?_
 refine aA ?_
 refine aB rfl (aN dZ rfl) rfl rfl ?_
 refine aA ?_
 refine aB rfl (aS (k := 1) (v := .slice Ax1 x.Code.length cx1) Try.isAgg49 rfl (Ha4.blk 0 rfl) rfl) rfl rfl ?_
 refine aA ?_
 refine aB rfl (dG Try.runUnderlying49 rfl) rfl rfl ?_
 by_cases hg6 : (0 : Int) < (x.Code.length : Nat)
 ·have hlt : x.Code.length - 1 < x.Code.length := by omega
  obtain ⟨ade7, cse7, hAe7, hKe7, hce7⟩ := eD hCx1 (x.Code.length - 1) hlt
  have hle7 := gQ hKe7
  have hoe7 := gT hKe7
  obtain rfl := fD hKe7
  refine aA ?_
  refine aB rfl (bQ hg6 (rn_gtr rfl rfl)) rfl rfl ?_
  refine aA ?_
  refine aB rfl (aC rfl) rfl rfl ?_
  refine aA ?_
  refine aT rfl rfl rfl rfl (fun _ ho8 => ?_)
  refine aB ho8 (aN dZ rfl) rfl rfl ?_
  refine aA ?_
  refine aT rfl rfl rfl rfl (fun _ ho9 => ?_)
  refine aB ho9 (aS (k := 1) (v := .slice Ax1 x.Code.length cx1) Try.isAgg49 rfl (Ha4.blk 0 rfl) rfl) rfl rfl ?_
  refine aA ?_
  refine aT rfl rfl rfl rfl (fun _ ho10 => ?_)
  refine aB ho10 (aN dZ rfl) rfl rfl ?_
  refine aA ?_
  refine aT rfl rfl rfl rfl (fun _ ho11 => ?_)
  refine aB ho11 (aS (k := 1) (v := .slice Ax1 x.Code.length cx1) Try.isAgg49 rfl (Ha4.blk 0 rfl) rfl) rfl rfl ?_
  refine aA ?_
  refine aT rfl rfl rfl rfl (fun _ ho12 => ?_)
  refine aB ho12 (dG Try.runUnderlying49 rfl) rfl rfl ?_
  refine aA ?_
  refine aT rfl rfl rfl rfl (fun _ ho13 => ?_)
  refine aB ho13 (rn_int (q := ((x.Code.length - 1 : Nat) : Int)) kO (rn_sub rfl rfl kO)) rfl rfl ?_
  refine aA ?_
  refine aT rfl rfl rfl rfl (fun _ ho14 => ?_)
  refine aB ho14 (bW (k := (x.Code.length - 1)) Try.runUnderlying49 Try.sizeOf118 rfl rfl hAe7 hlt) rfl rfl ?_
  refine aA ?_
  refine aT rfl rfl rfl rfl (fun _ ho15 => ?_)
  refine aB ho15 (aN eH rfl) rfl rfl ?_
  refine aA ?_
  refine aT rfl rfl rfl rfl (fun _ ho16 => ?_)
  refine aB ho16 (fT (v := .int .i64 (x.Code[(x.Code.length - 1)].Op)) Try.isAgg3 rfl (Cat.upd hce7 Ha4.1) rfl) rfl rfl ?_
  by_cases hg17 : ((x.Code[(x.Code.length - 1)].Op) : Int) = 10
  ·refine aA ?_
   refine aT rfl rfl rfl rfl (fun _ ho18 => ?_)
   refine aB ho18 (bQ hg17 (bD rfl rfl)) rfl rfl ?_
   refine aA ?_
   refine aB rfl (aJ (v := .bool (true)) (b := true) rfl rfl rfl rfl) rfl rfl ?_
   refine aA ?_
   refine aB rfl (aG rfl) rfl rfl ?_
   refine aF ?_
   refine aH ?_
   refine wp_ret ?_
   refine aM (.inl rfl) Try.results25 rfl ?_
   have hr : endB x = decide (x.Code[x.Code.length - 1].Op = 10) := dif_pos kO
   rw [hr]
   exact ⟨by rw [decide_eq_true (by assumption)], Ha4.1⟩
  ·refine aA ?_
   refine aT rfl rfl rfl rfl (fun _ ho19 => ?_)
   refine aB ho19 (bS hg17 (bD rfl rfl)) rfl rfl ?_
   refine aA ?_
   refine aB rfl (aJ (v := .bool (false)) (b := true) rfl rfl rfl rfl) rfl rfl ?_
   refine aA ?_
   refine aB rfl (aG rfl) rfl rfl ?_
   refine aF ?_
   refine aH ?_
   refine wp_ret ?_
   refine aM (.inl rfl) Try.results25 rfl ?_
   have hr : endB x = decide (x.Code[x.Code.length - 1].Op = 10) := dif_pos kO
   rw [hr]
   exact ⟨by rw [decide_eq_false (by assumption)], Ha4.1⟩
 ·refine aA ?_
  refine aB rfl (bS hg6 (rn_gtr rfl rfl)) rfl rfl ?_
  refine aA ?_
  refine aB rfl (aC rfl) rfl rfl ?_
  refine aA ?_
  refine aD rfl rfl rfl rfl rfl rfl rfl ?_
  refine aA ?_
  refine aD rfl rfl rfl rfl rfl rfl rfl ?_
  refine aA ?_
  refine aD rfl rfl rfl rfl rfl rfl rfl ?_
  refine aA ?_
  refine aD rfl rfl rfl rfl rfl rfl rfl ?_
  refine aA ?_
  refine aD rfl rfl rfl rfl rfl rfl rfl ?_
  refine aA ?_
  refine aD rfl rfl rfl rfl rfl rfl rfl ?_
  refine aA ?_
  refine aD rfl rfl rfl rfl rfl rfl rfl ?_
  refine aA ?_
  refine aD rfl rfl rfl rfl rfl rfl rfl ?_
  refine aA ?_
  refine aD rfl rfl rfl rfl rfl rfl rfl ?_
  refine aA ?_
  refine aD rfl rfl rfl rfl rfl rfl rfl ?_
  refine aA ?_
  refine aB rfl (aJ (v := .bool (false)) (b := false) rfl rfl rfl rfl) rfl rfl ?_
  refine aA ?_
  refine aB rfl (aG rfl) rfl rfl ?_
  refine aF ?_
  refine aH ?_
  refine wp_ret ?_
  refine aM (.inl rfl) Try.results25 rfl ?_
  have hr : endB x = false := dif_neg kO
  rw [hr]
  exact ⟨rfl, Ha4.1⟩
def prB (c d : Int) : Bool := (rgB c || decide (c = -1)) && (rgB d || decide (d = -1)) && (!decide (c = -1) || decide (d = -1))
def z0B (x : GInstr) : Bool := decide (x.C = 0) && decide (x.D = 0) && (x.Name.toList == [])
def inst (x : GInstr) : Bool :=
 if x.Op = 1 then z0B x && rgB x.A && inB x.B 0 999999
 else if x.Op = 2 then z0B x && rgB x.A && inB x.B 0 1
 else if x.Op = 3 then z0B x && rgB x.A && inB x.B 0 2
 else if x.Op = 4 ∨ x.Op = 10 then z0B x && rgB x.A && decide (x.B = 0)
 else if x.Op = 5 then rgB x.A && rgB x.B && rgB x.C && decide (x.D = 0) && (x.Name.toList == [])
 else if x.Op = 6 then rgB x.A && rgB x.B && prB x.C x.D && nmB x.Name
 else if x.Op = 7 then rgB x.A && decide (x.B = 0) && prB x.C x.D && nmB x.Name
 else if x.Op = 8 then z0B x && inB x.A 0 2 && rgB x.B
 else if x.Op = 9 then z0B x && rgB x.A && inB x.B 1 12
 else false
end Go.Proofs.YtdfipdpeilegpaaFam
namespace Go.Proofs.YtdfipdpeilegpaaSep
theorem any_no {α : Type} (f : α → Bool) (l : List α) (i : Nat) (h : i < l.length) (hf : f l[i] = false) : (l.drop i).any f = (l.drop (i + 1)).any f := by
 rw [List.drop_eq_getElem_cons h, List.any_cons, hf, Bool.false_or]
theorem any_end {α : Type} (f : α → Bool) (l : List α) (i : Nat) (h : l.length ≤ i) : (l.drop i).any f = false := by
 rw [List.drop_eq_nil_of_le h]; rfl
end Go.Proofs.YtdfipdpeilegpaaSep
namespace Go.Proofs.YtdfipdpeilegpaaT
open Go.Proofs.YtdfipdpeilegpaaSep
def eqlS {α : Type} (f : α → α → Bool) : List α → List α → Bool
 | [], [] => true
 | x :: l, y :: k => f x y && eqlS f l k
 | [], _ :: _ => false
 | _ :: _, [] => false
section
variable {α : Type} (f : α → α → Bool)
theorem eqlS_len : ∀ l k : List α, l.length ≠ k.length → eqlS f l k = false
 | [], [], h => absurd rfl h
 | x :: l, y :: k, h => by simp [eqlS, eqlS_len l k (by simpa using h)]
 | [], _ :: _, _ => rfl
 | _ :: _, [], _ => rfl
theorem eqlS_yes (l k : List α) (i : Nat) (h : i < l.length) (h' : i < k.length) (hf : f l[i] k[i] = true) : eqlS f (l.drop i) (k.drop i) = eqlS f (l.drop (i + 1)) (k.drop (i + 1)) := by
 rw [List.drop_eq_getElem_cons h, List.drop_eq_getElem_cons h', eqlS, hf, Bool.true_and]
theorem eqlS_no (l k : List α) (i : Nat) (h : i < l.length) (h' : i < k.length) (hf : f l[i] k[i] = false) : eqlS f (l.drop i) (k.drop i) = false := by
 rw [List.drop_eq_getElem_cons h, List.drop_eq_getElem_cons h', eqlS, hf, Bool.false_and]
theorem eqlS_end (l k : List α) (i : Nat) (h : l.length ≤ i) (h' : k.length ≤ i) : eqlS f (l.drop i) (k.drop i) = true := by
 rw [List.drop_eq_nil_of_le h, List.drop_eq_nil_of_le h']; rfl
theorem eqlS_rfl (hf : ∀ x, f x x = true) : ∀ l : List α, eqlS f l l = true
 | [] => rfl
 | x :: l => by simp [eqlS, hf, eqlS_rfl hf l]
end
def bE (x y : GInstr) : Bool := (x.Op == y.Op) && (x.A == y.A) && (x.B == y.B) && (x.C == y.C) && (x.D == y.D) && (x.Name.toList == y.Name.toList)
def bV (x y : GMethod) : Bool := (x.Name.toList == y.Name.toList) && eqlS bE x.Code y.Code
def dM (x y : GScript) : Bool := (x.Name.toList == y.Name.toList) && eqlS bV x.Methods y.Methods
end Go.Proofs.YtdfipdpeilegpaaT
namespace Go.Proofs.YtdfipdpeilegpaaFam
open Go.ChangeShapes Go.WideShapes Go.RowKit Go.Proofs.YtdfipdpeilegpaaSep Go.Proofs.YtdfipdpeilegpaaT Go.Proofs.YtdfipdpeilegpaaK
set_option linter.unusedVariables false
set_option linter.unusedSimpArgs false
attribute [local irreducible] wpOps wpOp
theorem dB (x y : GInstr) (W : World) (k : Nat) : (Op.equalIn (k + 2) 118 (.agg #[.int .i64 (x.Op), .int .i64 (x.A), .int .i64 (x.B), .int .i64 (x.C), .int .i64 (x.D), .string (x.Name)]) (.agg #[.int .i64 (y.Op), .int .i64 (y.A), .int .i64 (y.B), .int .i64 (y.C), .int .i64 (y.D), .string (y.Name)])).run Try.prog W = .ok (bE x y) W := by
 rw [show k + 2 = (k + 1) + 1 from rfl, run_equalIn_struct (P := Try.prog) W _ 118 _ _ (by simp [Program.fieldsOf, Try.underlying118]) Try.stoodInHeld118]
 simp [Program.fieldsOf, Try.underlying118, Op.eqFields, part, Try.isAgg9, Try.sizeOf9, Try.isAgg3, Try.sizeOf3, Try.isAgg4, Try.sizeOf4, Try.isAgg118, Try.sizeOf118, Try.underlying3, Try.underlying4, Try.underlying9, run_equalIn_int, run_equalIn_string, run_equalIn_bool', Sem.run_pure, bE, Result.andThen]
 (repeat' split) <;> simp [*]
end Go.Proofs.YtdfipdpeilegpaaFam
namespace Go.Proofs.YtdfipdpeilegpaaFam
open Go.ChangeShapes Go.WideShapes Go.RowKit Go.Proofs.YtdfipdpeilegpaaSep Go.Proofs.YtdfipdpeilegpaaT Go.Proofs.YtdfipdpeilegpaaK
set_option linter.unusedVariables false
set_option linter.unusedSimpArgs false
attribute [local irreducible] wpOps wpOp
set_option maxHeartbeats 4000000
set_option maxRecDepth 100000
theorem aQ : (⟨#[]⟩ : ByteArray).toList = [] := by
 unfold ByteArray.toList
 rw [ByteArray.toList.loop.eq_def]
 rfl
theorem fO : rgB (-1) = false := by decide
theorem zq3 (x : GInstr) : bE x (⟨x.Op, x.A, x.B, 0, 0, ⟨#[]⟩⟩ : GInstr) = z0B x := by
 simp [bE, z0B, aQ, ← Bool.beq_eq_decide_eq]
theorem zq2 (x : GInstr) : bE x (⟨x.Op, x.A, 0, 0, 0, ⟨#[]⟩⟩ : GInstr) = (decide (x.B = 0) && z0B x) := by
 simp [bE, z0B, aQ, Bool.and_assoc, ← Bool.beq_eq_decide_eq]
theorem zq4 (x : GInstr) : bE x (⟨x.Op, x.A, x.B, x.C, 0, ⟨#[]⟩⟩ : GInstr) = (decide (x.D = 0) && (x.Name.toList == [])) := by
 simp [bE, aQ, ← Bool.beq_eq_decide_eq]
theorem gZ (c d : Int) (w : World) : Calls Try.prog 166 #[.int .i64 c, .int .i64 d] w (bY (prB c d) w) := by
 refine enter 27 [(0, .int .i64 (c)), (1, .int .i64 (d))] Try.func166 rfl kR ?_
 intro xj
 have H1 : St w No [] w := St.enter
 refine wp_seq ?_
 refine aI [0] rfl ?_
 refine aA ?_
 refine aB rfl (aG rfl) rfl rfl ?_
 refine aF ?_
 refine aH ?_
 refine wp_seq ?_
 refine aI [0, 1, 2, 3, 4, 5, 6, 7, 8, 9, 10, 11, 12, 13, 14, 15, 16, 17, 18, 19, 20, 21, 22] rfl ?_
 refine aA ?_
 refine aB rfl (aC rfl) rfl rfl ?_
 by_cases hg2 : (rgB c) = true
 ·refine aA ?_
  refine aK rfl Try.call165 (vs := #[.int .i64 (c)]) rfl rfl rfl (bI (bR c _) hg2) ?_
  rintro e5 W4 ⟨rfl, hu3⟩; refine ⟨_, rfl, ?_⟩
  have H6 := H1.no hu3; clear H1
  refine aA ?_
  refine aB rfl (aC rfl) rfl rfl ?_
  refine aA ?_
  refine aD rfl rfl rfl rfl rfl rfl rfl ?_
  refine aA ?_
  refine aD rfl rfl rfl rfl rfl rfl rfl ?_
  refine aA ?_
  refine aB rfl (aJ (v := .bool (true)) (b := true) rfl rfl rfl rfl) rfl rfl ?_
  refine aA ?_
  refine aB rfl (aC rfl) rfl rfl ?_
  refine aA ?_
  refine aT rfl rfl rfl rfl (fun _ ho7 => ?_)
  refine aB ho7 (aC rfl) rfl rfl ?_
  by_cases hg8 : (rgB d) = true
  ·refine aA ?_
   refine aT rfl rfl rfl rfl (fun _ ho9 => ?_)
   refine aK ho9 Try.call165 (vs := #[.int .i64 (d)]) rfl rfl rfl (bI (bR d _) hg8) ?_
   rintro e12 W11 ⟨rfl, hu10⟩; refine ⟨_, rfl, ?_⟩
   have H13 := H6.no hu10; clear H6
   refine aA ?_
   refine aT rfl rfl rfl rfl (fun _ ho14 => ?_)
   refine aB ho14 (aC rfl) rfl rfl ?_
   refine aA ?_
   refine aD rfl rfl rfl rfl rfl rfl rfl ?_
   refine aA ?_
   refine aD rfl rfl rfl rfl rfl rfl rfl ?_
   refine aA ?_
   refine aT rfl rfl rfl rfl (fun _ ho15 => ?_)
   refine aB ho15 (aJ (v := .bool (true)) (b := true) rfl rfl rfl rfl) rfl rfl ?_
   refine aA ?_
   refine aB rfl (aJ (v := .bool (true)) (b := true) rfl rfl rfl rfl) rfl rfl ?_
   refine aA ?_
   refine aB rfl (aC rfl) rfl rfl ?_
   refine aA ?_
   refine aT rfl rfl rfl rfl (fun _ ho16 => ?_)
   refine aB ho16 (aC rfl) rfl rfl ?_
   by_cases hg17 : ¬ (c : Int) = (-1)
   ·refine aA ?_
    refine aT rfl rfl rfl rfl (fun _ ho18 => ?_)
    refine aB ho18 (bQ hg17 (gM rfl rfl)) rfl rfl ?_
    refine aA ?_
    refine aT rfl rfl rfl rfl (fun _ ho19 => ?_)
    refine aB ho19 (aC rfl) rfl rfl ?_
    refine aA ?_
    refine aD rfl rfl rfl rfl rfl rfl rfl ?_
    refine aA ?_
    refine aD rfl rfl rfl rfl rfl rfl rfl ?_
    refine aA ?_
    refine aT rfl rfl rfl rfl (fun _ ho20 => ?_)
    refine aB ho20 (aJ (v := .bool (true)) (b := true) rfl rfl rfl rfl) rfl rfl ?_
    refine aA ?_
    refine aB rfl (aJ (v := .bool (true)) (b := true) rfl rfl rfl rfl) rfl rfl ?_
    refine aA ?_
    refine aB rfl (aG rfl) rfl rfl ?_
    refine aF ?_
    refine aH ?_
    refine wp_ret ?_
    refine aM (.inl rfl) Try.results166 rfl ?_
    have hr21 : prB c d = true := by first | (simp [prB, fO, hg2, hg8, hg17]; done) | (exfalso; omega)
    rw [hr21]
    exact ⟨rfl, H13.1⟩
   ·refine aA ?_
    refine aT rfl rfl rfl rfl (fun _ ho22 => ?_)
    refine aB ho22 (bS hg17 (gM rfl rfl)) rfl rfl ?_
    refine aA ?_
    refine aT rfl rfl rfl rfl (fun _ ho23 => ?_)
    refine aB ho23 (aC rfl) rfl rfl ?_
    refine aA ?_
    refine aT rfl rfl rfl rfl (fun _ ho24 => ?_)
    refine aB ho24 (aC rfl) rfl rfl ?_
    by_cases hg25 : (d : Int) = (-1)
    ·refine aA ?_
     refine aT rfl rfl rfl rfl (fun _ ho26 => ?_)
     refine aB ho26 (bQ hg25 (bD rfl rfl)) rfl rfl ?_
     refine aA ?_
     refine aT rfl rfl rfl rfl (fun _ ho27 => ?_)
     refine aB ho27 (aJ (v := .bool (true)) (b := false) rfl rfl rfl rfl) rfl rfl ?_
     refine aA ?_
     refine aB rfl (aJ (v := .bool (true)) (b := true) rfl rfl rfl rfl) rfl rfl ?_
     refine aA ?_
     refine aB rfl (aG rfl) rfl rfl ?_
     refine aF ?_
     refine aH ?_
     refine wp_ret ?_
     refine aM (.inl rfl) Try.results166 rfl ?_
     have hr28 : prB c d = true := by first | (simp [prB, fO, hg2, hg8, Decidable.of_not_not hg17, hg25]; done) | exact absurd (show rgB (-1) = true from hg25 ▸ hg8) kD | (exfalso; omega)
     rw [hr28]
     exact ⟨rfl, H13.1⟩
    ·refine aA ?_
     refine aT rfl rfl rfl rfl (fun _ ho29 => ?_)
     refine aB ho29 (bS hg25 (bD rfl rfl)) rfl rfl ?_
     refine aA ?_
     refine aT rfl rfl rfl rfl (fun _ ho30 => ?_)
     refine aB ho30 (aJ (v := .bool (false)) (b := false) rfl rfl rfl rfl) rfl rfl ?_
     refine aA ?_
     refine aB rfl (aJ (v := .bool (false)) (b := true) rfl rfl rfl rfl) rfl rfl ?_
     refine aA ?_
     refine aB rfl (aG rfl) rfl rfl ?_
     refine aF ?_
     refine aH ?_
     refine wp_ret ?_
     refine aM (.inl rfl) Try.results166 rfl ?_
     have hr31 : prB c d = false := by first | (simp [prB, fO, hg2, hg8, Decidable.of_not_not hg17, hg25]; done) | (exfalso; omega)
     rw [hr31]
     exact ⟨rfl, H13.1⟩
  ·refine aA ?_
   refine aT rfl rfl rfl rfl (fun _ ho32 => ?_)
   refine aK ho32 Try.call165 (vs := #[.int .i64 (d)]) rfl rfl rfl (bI (bR d _) (eq_false_of_ne_true hg8)) ?_
   rintro e35 W34 ⟨rfl, hu33⟩; refine ⟨_, rfl, ?_⟩
   have H36 := H6.no hu33; clear H6
   refine aA ?_
   refine aT rfl rfl rfl rfl (fun _ ho37 => ?_)
   refine aB ho37 (aC rfl) rfl rfl ?_
   refine aA ?_
   refine aT rfl rfl rfl rfl (fun _ ho38 => ?_)
   refine aB ho38 (aC rfl) rfl rfl ?_
   by_cases hg39 : (d : Int) = (-1)
   ·refine aA ?_
    refine aT rfl rfl rfl rfl (fun _ ho40 => ?_)
    refine aB ho40 (bQ hg39 (bD rfl rfl)) rfl rfl ?_
    refine aA ?_
    refine aT rfl rfl rfl rfl (fun _ ho41 => ?_)
    refine aB ho41 (aJ (v := .bool (true)) (b := false) rfl rfl rfl rfl) rfl rfl ?_
    refine aA ?_
    refine aB rfl (aJ (v := .bool (true)) (b := true) rfl rfl rfl rfl) rfl rfl ?_
    refine aA ?_
    refine aB rfl (aC rfl) rfl rfl ?_
    refine aA ?_
    refine aT rfl rfl rfl rfl (fun _ ho42 => ?_)
    refine aB ho42 (aC rfl) rfl rfl ?_
    by_cases hg43 : ¬ (c : Int) = (-1)
    ·refine aA ?_
     refine aT rfl rfl rfl rfl (fun _ ho44 => ?_)
     refine aB ho44 (bQ hg43 (gM rfl rfl)) rfl rfl ?_
     refine aA ?_
     refine aT rfl rfl rfl rfl (fun _ ho45 => ?_)
     refine aB ho45 (aC rfl) rfl rfl ?_
     refine aA ?_
     refine aD rfl rfl rfl rfl rfl rfl rfl ?_
     refine aA ?_
     refine aD rfl rfl rfl rfl rfl rfl rfl ?_
     refine aA ?_
     refine aT rfl rfl rfl rfl (fun _ ho46 => ?_)
     refine aB ho46 (aJ (v := .bool (true)) (b := true) rfl rfl rfl rfl) rfl rfl ?_
     refine aA ?_
     refine aB rfl (aJ (v := .bool (true)) (b := true) rfl rfl rfl rfl) rfl rfl ?_
     refine aA ?_
     refine aB rfl (aG rfl) rfl rfl ?_
     refine aF ?_
     refine aH ?_
     refine wp_ret ?_
     refine aM (.inl rfl) Try.results166 rfl ?_
     have hr47 : prB c d = true := by first | (simp [prB, fO, hg2, hg8, hg39, hg43]; done) | (exfalso; omega)
     rw [hr47]
     exact ⟨rfl, H36.1⟩
    ·refine aA ?_
     refine aT rfl rfl rfl rfl (fun _ ho48 => ?_)
     refine aB ho48 (bS hg43 (gM rfl rfl)) rfl rfl ?_
     refine aA ?_
     refine aT rfl rfl rfl rfl (fun _ ho49 => ?_)
     refine aB ho49 (aC rfl) rfl rfl ?_
     refine aA ?_
     refine aT rfl rfl rfl rfl (fun _ ho50 => ?_)
     refine aB ho50 (aC rfl) rfl rfl ?_
     by_cases hg51 : (d : Int) = (-1)
     ·refine aA ?_
      refine aT rfl rfl rfl rfl (fun _ ho52 => ?_)
      refine aB ho52 (bQ hg51 (bD rfl rfl)) rfl rfl ?_
      refine aA ?_
      refine aT rfl rfl rfl rfl (fun _ ho53 => ?_)
      refine aB ho53 (aJ (v := .bool (true)) (b := false) rfl rfl rfl rfl) rfl rfl ?_
      refine aA ?_
      refine aB rfl (aJ (v := .bool (true)) (b := true) rfl rfl rfl rfl) rfl rfl ?_
      refine aA ?_
      refine aB rfl (aG rfl) rfl rfl ?_
      refine aF ?_
      refine aH ?_
      refine wp_ret ?_
      refine aM (.inl rfl) Try.results166 rfl ?_
      have hr54 : prB c d = true := by first | (simp [prB, fO, hg2, hg8, hg39, Decidable.of_not_not hg43, hg51]; done) | (exfalso; omega)
      rw [hr54]
      exact ⟨rfl, H36.1⟩
     ·refine aA ?_
      refine aT rfl rfl rfl rfl (fun _ ho55 => ?_)
      refine aB ho55 (bS hg51 (bD rfl rfl)) rfl rfl ?_
      refine aA ?_
      refine aT rfl rfl rfl rfl (fun _ ho56 => ?_)
      refine aB ho56 (aJ (v := .bool (false)) (b := false) rfl rfl rfl rfl) rfl rfl ?_
      refine aA ?_
      refine aB rfl (aJ (v := .bool (false)) (b := true) rfl rfl rfl rfl) rfl rfl ?_
      refine aA ?_
      refine aB rfl (aG rfl) rfl rfl ?_
      refine aF ?_
      refine aH ?_
      refine wp_ret ?_
      refine aM (.inl rfl) Try.results166 rfl ?_
      have hr57 : prB c d = false := by first | (simp [prB, fO, hg2, hg8, hg39, Decidable.of_not_not hg43, hg51]; done) | (exfalso; omega)
      rw [hr57]
      exact ⟨rfl, H36.1⟩
   ·refine aA ?_
    refine aT rfl rfl rfl rfl (fun _ ho58 => ?_)
    refine aB ho58 (bS hg39 (bD rfl rfl)) rfl rfl ?_
    refine aA ?_
    refine aT rfl rfl rfl rfl (fun _ ho59 => ?_)
    refine aB ho59 (aJ (v := .bool (false)) (b := false) rfl rfl rfl rfl) rfl rfl ?_
    refine aA ?_
    refine aB rfl (aJ (v := .bool (false)) (b := true) rfl rfl rfl rfl) rfl rfl ?_
    refine aA ?_
    refine aB rfl (aC rfl) rfl rfl ?_
    refine aA ?_
    refine aD rfl rfl rfl rfl rfl rfl rfl ?_
    refine aA ?_
    refine aD rfl rfl rfl rfl rfl rfl rfl ?_
    refine aA ?_
    refine aD rfl rfl rfl rfl rfl rfl rfl ?_
    refine aA ?_
    refine dL rfl rfl rfl rfl rfl rfl ?_
    refine aA ?_
    refine dL rfl rfl rfl rfl rfl rfl ?_
    refine aA ?_
    refine aD rfl rfl rfl rfl rfl rfl rfl ?_
    refine aA ?_
    refine aB rfl (aJ (v := .bool (false)) (b := false) rfl rfl rfl rfl) rfl rfl ?_
    refine aA ?_
    refine aB rfl (aG rfl) rfl rfl ?_
    refine aF ?_
    refine aH ?_
    refine wp_ret ?_
    refine aM (.inl rfl) Try.results166 rfl ?_
    have hr60 : prB c d = false := by first | (simp [prB, fO, hg2, hg8, hg39]; done) | (exfalso; omega)
    rw [hr60]
    exact ⟨rfl, H36.1⟩
 ·refine aA ?_
  refine aK rfl Try.call165 (vs := #[.int .i64 (c)]) rfl rfl rfl (bI (bR c _) (eq_false_of_ne_true hg2)) ?_
  rintro e63 W62 ⟨rfl, hu61⟩; refine ⟨_, rfl, ?_⟩
  have H64 := H1.no hu61; clear H1
  refine aA ?_
  refine aB rfl (aC rfl) rfl rfl ?_
  refine aA ?_
  refine aT rfl rfl rfl rfl (fun _ ho65 => ?_)
  refine aB ho65 (aC rfl) rfl rfl ?_
  by_cases hg66 : (c : Int) = (-1)
  ·refine aA ?_
   refine aT rfl rfl rfl rfl (fun _ ho67 => ?_)
   refine aB ho67 (bQ hg66 (bD rfl rfl)) rfl rfl ?_
   refine aA ?_
   refine aB rfl (aJ (v := .bool (true)) (b := false) rfl rfl rfl rfl) rfl rfl ?_
   refine aA ?_
   refine aB rfl (aC rfl) rfl rfl ?_
   refine aA ?_
   refine aT rfl rfl rfl rfl (fun _ ho68 => ?_)
   refine aB ho68 (aC rfl) rfl rfl ?_
   by_cases hg69 : (rgB d) = true
   ·refine aA ?_
    refine aT rfl rfl rfl rfl (fun _ ho70 => ?_)
    refine aK ho70 Try.call165 (vs := #[.int .i64 (d)]) rfl rfl rfl (bI (bR d _) hg69) ?_
    rintro e73 W72 ⟨rfl, hu71⟩; refine ⟨_, rfl, ?_⟩
    have H74 := H64.no hu71; clear H64
    refine aA ?_
    refine aT rfl rfl rfl rfl (fun _ ho75 => ?_)
    refine aB ho75 (aC rfl) rfl rfl ?_
    refine aA ?_
    refine aD rfl rfl rfl rfl rfl rfl rfl ?_
    refine aA ?_
    refine aD rfl rfl rfl rfl rfl rfl rfl ?_
    refine aA ?_
    refine aT rfl rfl rfl rfl (fun _ ho76 => ?_)
    refine aB ho76 (aJ (v := .bool (true)) (b := true) rfl rfl rfl rfl) rfl rfl ?_
    refine aA ?_
    refine aB rfl (aJ (v := .bool (true)) (b := true) rfl rfl rfl rfl) rfl rfl ?_
    refine aA ?_
    refine aB rfl (aC rfl) rfl rfl ?_
    refine aA ?_
    refine aT rfl rfl rfl rfl (fun _ ho77 => ?_)
    refine aB ho77 (aC rfl) rfl rfl ?_
    by_cases hg78 : ¬ (c : Int) = (-1)
    ·refine aA ?_
     refine aT rfl rfl rfl rfl (fun _ ho79 => ?_)
     refine aB ho79 (bQ hg78 (gM rfl rfl)) rfl rfl ?_
     refine aA ?_
     refine aT rfl rfl rfl rfl (fun _ ho80 => ?_)
     refine aB ho80 (aC rfl) rfl rfl ?_
     refine aA ?_
     refine aD rfl rfl rfl rfl rfl rfl rfl ?_
     refine aA ?_
     refine aD rfl rfl rfl rfl rfl rfl rfl ?_
     refine aA ?_
     refine aT rfl rfl rfl rfl (fun _ ho81 => ?_)
     refine aB ho81 (aJ (v := .bool (true)) (b := true) rfl rfl rfl rfl) rfl rfl ?_
     refine aA ?_
     refine aB rfl (aJ (v := .bool (true)) (b := true) rfl rfl rfl rfl) rfl rfl ?_
     refine aA ?_
     refine aB rfl (aG rfl) rfl rfl ?_
     refine aF ?_
     refine aH ?_
     refine wp_ret ?_
     refine aM (.inl rfl) Try.results166 rfl ?_
     have hr82 : prB c d = true := by first | (simp [prB, fO, hg2, hg66, hg69, hg78]; done) | (exfalso; omega)
     rw [hr82]
     exact ⟨rfl, H74.1⟩
    ·refine aA ?_
     refine aT rfl rfl rfl rfl (fun _ ho83 => ?_)
     refine aB ho83 (bS hg78 (gM rfl rfl)) rfl rfl ?_
     refine aA ?_
     refine aT rfl rfl rfl rfl (fun _ ho84 => ?_)
     refine aB ho84 (aC rfl) rfl rfl ?_
     refine aA ?_
     refine aT rfl rfl rfl rfl (fun _ ho85 => ?_)
     refine aB ho85 (aC rfl) rfl rfl ?_
     by_cases hg86 : (d : Int) = (-1)
     ·refine aA ?_
      refine aT rfl rfl rfl rfl (fun _ ho87 => ?_)
      refine aB ho87 (bQ hg86 (bD rfl rfl)) rfl rfl ?_
      refine aA ?_
      refine aT rfl rfl rfl rfl (fun _ ho88 => ?_)
      refine aB ho88 (aJ (v := .bool (true)) (b := false) rfl rfl rfl rfl) rfl rfl ?_
      refine aA ?_
      refine aB rfl (aJ (v := .bool (true)) (b := true) rfl rfl rfl rfl) rfl rfl ?_
      refine aA ?_
      refine aB rfl (aG rfl) rfl rfl ?_
      refine aF ?_
      refine aH ?_
      refine wp_ret ?_
      refine aM (.inl rfl) Try.results166 rfl ?_
      have hr89 : prB c d = true := by first | (simp [prB, fO, hg2, hg66, hg69, Decidable.of_not_not hg78, hg86]; done) | exact absurd (show rgB (-1) = true from hg86 ▸ hg69) kD | (exfalso; omega)
      rw [hr89]
      exact ⟨rfl, H74.1⟩
     ·refine aA ?_
      refine aT rfl rfl rfl rfl (fun _ ho90 => ?_)
      refine aB ho90 (bS hg86 (bD rfl rfl)) rfl rfl ?_
      refine aA ?_
      refine aT rfl rfl rfl rfl (fun _ ho91 => ?_)
      refine aB ho91 (aJ (v := .bool (false)) (b := false) rfl rfl rfl rfl) rfl rfl ?_
      refine aA ?_
      refine aB rfl (aJ (v := .bool (false)) (b := true) rfl rfl rfl rfl) rfl rfl ?_
      refine aA ?_
      refine aB rfl (aG rfl) rfl rfl ?_
      refine aF ?_
      refine aH ?_
      refine wp_ret ?_
      refine aM (.inl rfl) Try.results166 rfl ?_
      have hr92 : prB c d = false := by first | (simp [prB, fO, hg2, hg66, hg69, Decidable.of_not_not hg78, hg86]; done) | (exfalso; omega)
      rw [hr92]
      exact ⟨rfl, H74.1⟩
   ·refine aA ?_
    refine aT rfl rfl rfl rfl (fun _ ho93 => ?_)
    refine aK ho93 Try.call165 (vs := #[.int .i64 (d)]) rfl rfl rfl (bI (bR d _) (eq_false_of_ne_true hg69)) ?_
    rintro e96 W95 ⟨rfl, hu94⟩; refine ⟨_, rfl, ?_⟩
    have H97 := H64.no hu94; clear H64
    refine aA ?_
    refine aT rfl rfl rfl rfl (fun _ ho98 => ?_)
    refine aB ho98 (aC rfl) rfl rfl ?_
    refine aA ?_
    refine aT rfl rfl rfl rfl (fun _ ho99 => ?_)
    refine aB ho99 (aC rfl) rfl rfl ?_
    by_cases hg100 : (d : Int) = (-1)
    ·refine aA ?_
     refine aT rfl rfl rfl rfl (fun _ ho101 => ?_)
     refine aB ho101 (bQ hg100 (bD rfl rfl)) rfl rfl ?_
     refine aA ?_
     refine aT rfl rfl rfl rfl (fun _ ho102 => ?_)
     refine aB ho102 (aJ (v := .bool (true)) (b := false) rfl rfl rfl rfl) rfl rfl ?_
     refine aA ?_
     refine aB rfl (aJ (v := .bool (true)) (b := true) rfl rfl rfl rfl) rfl rfl ?_
     refine aA ?_
     refine aB rfl (aC rfl) rfl rfl ?_
     refine aA ?_
     refine aT rfl rfl rfl rfl (fun _ ho103 => ?_)
     refine aB ho103 (aC rfl) rfl rfl ?_
     by_cases hg104 : ¬ (c : Int) = (-1)
     ·refine aA ?_
      refine aT rfl rfl rfl rfl (fun _ ho105 => ?_)
      refine aB ho105 (bQ hg104 (gM rfl rfl)) rfl rfl ?_
      refine aA ?_
      refine aT rfl rfl rfl rfl (fun _ ho106 => ?_)
      refine aB ho106 (aC rfl) rfl rfl ?_
      refine aA ?_
      refine aD rfl rfl rfl rfl rfl rfl rfl ?_
      refine aA ?_
      refine aD rfl rfl rfl rfl rfl rfl rfl ?_
      refine aA ?_
      refine aT rfl rfl rfl rfl (fun _ ho107 => ?_)
      refine aB ho107 (aJ (v := .bool (true)) (b := true) rfl rfl rfl rfl) rfl rfl ?_
      refine aA ?_
      refine aB rfl (aJ (v := .bool (true)) (b := true) rfl rfl rfl rfl) rfl rfl ?_
      refine aA ?_
      refine aB rfl (aG rfl) rfl rfl ?_
      refine aF ?_
      refine aH ?_
      refine wp_ret ?_
      refine aM (.inl rfl) Try.results166 rfl ?_
      have hr108 : prB c d = true := by first | (simp [prB, fO, hg2, hg66, hg69, hg100, hg104]; done) | (exfalso; omega)
      rw [hr108]
      exact ⟨rfl, H97.1⟩
     ·refine aA ?_
      refine aT rfl rfl rfl rfl (fun _ ho109 => ?_)
      refine aB ho109 (bS hg104 (gM rfl rfl)) rfl rfl ?_
      refine aA ?_
      refine aT rfl rfl rfl rfl (fun _ ho110 => ?_)
      refine aB ho110 (aC rfl) rfl rfl ?_
      refine aA ?_
      refine aT rfl rfl rfl rfl (fun _ ho111 => ?_)
      refine aB ho111 (aC rfl) rfl rfl ?_
      by_cases hg112 : (d : Int) = (-1)
      ·refine aA ?_
       refine aT rfl rfl rfl rfl (fun _ ho113 => ?_)
       refine aB ho113 (bQ hg112 (bD rfl rfl)) rfl rfl ?_
       refine aA ?_
       refine aT rfl rfl rfl rfl (fun _ ho114 => ?_)
       refine aB ho114 (aJ (v := .bool (true)) (b := false) rfl rfl rfl rfl) rfl rfl ?_
       refine aA ?_
       refine aB rfl (aJ (v := .bool (true)) (b := true) rfl rfl rfl rfl) rfl rfl ?_
       refine aA ?_
       refine aB rfl (aG rfl) rfl rfl ?_
       refine aF ?_
       refine aH ?_
       refine wp_ret ?_
       refine aM (.inl rfl) Try.results166 rfl ?_
       have hr115 : prB c d = true := by first | (simp [prB, fO, hg2, hg66, hg69, hg100, Decidable.of_not_not hg104, hg112]; done) | (exfalso; omega)
       rw [hr115]
       exact ⟨rfl, H97.1⟩
      ·refine aA ?_
       refine aT rfl rfl rfl rfl (fun _ ho116 => ?_)
       refine aB ho116 (bS hg112 (bD rfl rfl)) rfl rfl ?_
       refine aA ?_
       refine aT rfl rfl rfl rfl (fun _ ho117 => ?_)
       refine aB ho117 (aJ (v := .bool (false)) (b := false) rfl rfl rfl rfl) rfl rfl ?_
       refine aA ?_
       refine aB rfl (aJ (v := .bool (false)) (b := true) rfl rfl rfl rfl) rfl rfl ?_
       refine aA ?_
       refine aB rfl (aG rfl) rfl rfl ?_
       refine aF ?_
       refine aH ?_
       refine wp_ret ?_
       refine aM (.inl rfl) Try.results166 rfl ?_
       have hr118 : prB c d = false := by first | (simp [prB, fO, hg2, hg66, hg69, hg100, Decidable.of_not_not hg104, hg112]; done) | (exfalso; omega)
       rw [hr118]
       exact ⟨rfl, H97.1⟩
    ·refine aA ?_
     refine aT rfl rfl rfl rfl (fun _ ho119 => ?_)
     refine aB ho119 (bS hg100 (bD rfl rfl)) rfl rfl ?_
     refine aA ?_
     refine aT rfl rfl rfl rfl (fun _ ho120 => ?_)
     refine aB ho120 (aJ (v := .bool (false)) (b := false) rfl rfl rfl rfl) rfl rfl ?_
     refine aA ?_
     refine aB rfl (aJ (v := .bool (false)) (b := true) rfl rfl rfl rfl) rfl rfl ?_
     refine aA ?_
     refine aB rfl (aC rfl) rfl rfl ?_
     refine aA ?_
     refine aD rfl rfl rfl rfl rfl rfl rfl ?_
     refine aA ?_
     refine aD rfl rfl rfl rfl rfl rfl rfl ?_
     refine aA ?_
     refine aD rfl rfl rfl rfl rfl rfl rfl ?_
     refine aA ?_
     refine dL rfl rfl rfl rfl rfl rfl ?_
     refine aA ?_
     refine dL rfl rfl rfl rfl rfl rfl ?_
     refine aA ?_
     refine aD rfl rfl rfl rfl rfl rfl rfl ?_
     refine aA ?_
     refine aB rfl (aJ (v := .bool (false)) (b := false) rfl rfl rfl rfl) rfl rfl ?_
     refine aA ?_
     refine aB rfl (aG rfl) rfl rfl ?_
     refine aF ?_
     refine aH ?_
     refine wp_ret ?_
     refine aM (.inl rfl) Try.results166 rfl ?_
     have hr121 : prB c d = false := by first | (simp [prB, fO, hg2, hg66, hg69, hg100]; done) | (exfalso; omega)
     rw [hr121]
     exact ⟨rfl, H97.1⟩
  ·refine aA ?_
   refine aT rfl rfl rfl rfl (fun _ ho122 => ?_)
   refine aB ho122 (bS hg66 (bD rfl rfl)) rfl rfl ?_
   refine aA ?_
   refine aB rfl (aJ (v := .bool (false)) (b := false) rfl rfl rfl rfl) rfl rfl ?_
   refine aA ?_
   refine aB rfl (aC rfl) rfl rfl ?_
   refine aA ?_
   refine aD rfl rfl rfl rfl rfl rfl rfl ?_
   refine aA ?_
   refine aD rfl rfl rfl rfl rfl rfl rfl ?_
   refine aA ?_
   refine aD rfl rfl rfl rfl rfl rfl rfl ?_
   refine aA ?_
   refine dL rfl rfl rfl rfl rfl rfl ?_
   refine aA ?_
   refine dL rfl rfl rfl rfl rfl rfl ?_
   refine aA ?_
   refine aD rfl rfl rfl rfl rfl rfl rfl ?_
   refine aA ?_
   refine aB rfl (aJ (v := .bool (false)) (b := false) rfl rfl rfl rfl) rfl rfl ?_
   refine aA ?_
   refine aB rfl (aC rfl) rfl rfl ?_
   refine aA ?_
   refine aD rfl rfl rfl rfl rfl rfl rfl ?_
   refine aA ?_
   refine aD rfl rfl rfl rfl rfl rfl rfl ?_
   refine aA ?_
   refine aD rfl rfl rfl rfl rfl rfl rfl ?_
   refine aA ?_
   refine dL rfl rfl rfl rfl rfl rfl ?_
   refine aA ?_
   refine dL rfl rfl rfl rfl rfl rfl ?_
   refine aA ?_
   refine aD rfl rfl rfl rfl rfl rfl rfl ?_
   refine aA ?_
   refine aB rfl (aJ (v := .bool (false)) (b := false) rfl rfl rfl rfl) rfl rfl ?_
   refine aA ?_
   refine aB rfl (aG rfl) rfl rfl ?_
   refine aF ?_
   refine aH ?_
   refine wp_ret ?_
   refine aM (.inl rfl) Try.results166 rfl ?_
   have hr123 : prB c d = false := by first | (simp [prB, fO, hg2, hg66]; done) | (exfalso; omega)
   rw [hr123]
   exact ⟨rfl, H64.1⟩
theorem two_s (x : GInstr) (cs : List Value) (w : World) (h : bF.K w x cs) : Calls Try.prog 151 #[.agg cs.toArray] w (bY (prB x.C x.D) w) := by
 obtain rfl := fD h
 refine enter 26 [(0, .agg #[.int .i64 (x.Op), .int .i64 (x.A), .int .i64 (x.B), .int .i64 (x.C), .int .i64 (x.D), .string (x.Name)])] Try.func151 rfl kR ?_
 intro xj
 have H1 : St w No [] w := St.enter
 refine wp_seq ?_
 refine aI [0, 1] rfl ?_
 refine aA ?_
 refine eG rfl rfl rfl rfl H1 ?_
 intro g_0_0 W2 hu3 Ha4; clear H1; clear hu3
 refine aA ?_
 refine aB rfl (aG rfl) rfl rfl ?_
 refine aF ?_
 refine aH ?_
 refine wp_seq ?_
 refine aI [0, 1, 2, 3, 4, 5, 6, 7, 8, 9, 10, 11, 12, 13, 14, 15, 16, 17, 18, 19, 20, 21, 22, 23] rfl ?_
 refine aA ?_
 refine aB rfl (aN eU rfl) rfl rfl ?_
 refine aA ?_
 refine aB rfl (aS (k := 3) (v := .int .i64 (x.C)) Try.isAgg3 rfl (Ha4.blk 0 rfl) rfl) rfl rfl ?_
 by_cases hg6 : (x.C : Int) = (-1)
 ·refine aA ?_
  refine aB rfl (bQ hg6 (bD rfl rfl)) rfl rfl ?_
  refine aA ?_
  refine aB rfl (aC rfl) rfl rfl ?_
  refine aA ?_
  refine aT rfl rfl rfl rfl (fun _ ho7 => ?_)
  refine aB ho7 (aN fE rfl) rfl rfl ?_
  refine aA ?_
  refine aT rfl rfl rfl rfl (fun _ ho8 => ?_)
  refine aB ho8 (aS (k := 4) (v := .int .i64 (x.D)) Try.isAgg3 rfl (Ha4.blk 0 rfl) rfl) rfl rfl ?_
  by_cases hg9 : (x.D : Int) = (-1)
  ·refine aA ?_
   refine aT rfl rfl rfl rfl (fun _ ho10 => ?_)
   refine aB ho10 (bQ hg9 (bD rfl rfl)) rfl rfl ?_
   refine aA ?_
   refine aB rfl (aJ (v := .bool (true)) (b := true) rfl rfl rfl rfl) rfl rfl ?_
   refine aA ?_
   refine aB rfl (aC rfl) rfl rfl ?_
   refine aA ?_
   refine aD rfl rfl rfl rfl rfl rfl rfl ?_
   refine aA ?_
   refine aD rfl rfl rfl rfl rfl rfl rfl ?_
   refine aA ?_
   refine aD rfl rfl rfl rfl rfl rfl rfl ?_
   refine aA ?_
   refine aD rfl rfl rfl rfl rfl rfl rfl ?_
   refine aA ?_
   refine dL rfl rfl rfl rfl rfl rfl ?_
   refine aA ?_
   refine dL rfl rfl rfl rfl rfl rfl ?_
   refine aA ?_
   refine dL rfl rfl rfl rfl rfl rfl ?_
   refine aA ?_
   refine dL rfl rfl rfl rfl rfl rfl ?_
   refine aA ?_
   refine dL rfl rfl rfl rfl rfl rfl ?_
   refine aA ?_
   refine dL rfl rfl rfl rfl rfl rfl ?_
   refine aA ?_
   refine dL rfl rfl rfl rfl rfl rfl ?_
   refine aA ?_
   refine dL rfl rfl rfl rfl rfl rfl ?_
   refine aA ?_
   refine aD rfl rfl rfl rfl rfl rfl rfl ?_
   refine aA ?_
   refine aB rfl (aJ (v := .bool (true)) (b := true) rfl rfl rfl rfl) rfl rfl ?_
   refine aA ?_
   refine aB rfl (aG rfl) rfl rfl ?_
   refine aF ?_
   refine aH ?_
   refine wp_ret ?_
   refine aM (.inl rfl) Try.results151 rfl ?_
   have hr11 : prB x.C x.D = true := by first | (simp [prB, fO, hg6, hg9]; done) | (exfalso; omega)
   rw [hr11]
   exact ⟨rfl, Ha4.1⟩
  ·refine aA ?_
   refine aT rfl rfl rfl rfl (fun _ ho12 => ?_)
   refine aB ho12 (bS hg9 (bD rfl rfl)) rfl rfl ?_
   refine aA ?_
   refine aB rfl (aJ (v := .bool (false)) (b := true) rfl rfl rfl rfl) rfl rfl ?_
   refine aA ?_
   refine aB rfl (aC rfl) rfl rfl ?_
   refine aA ?_
   refine aT rfl rfl rfl rfl (fun _ ho13 => ?_)
   refine aB ho13 (aN eU rfl) rfl rfl ?_
   refine aA ?_
   refine aT rfl rfl rfl rfl (fun _ ho14 => ?_)
   refine aB ho14 (aS (k := 3) (v := .int .i64 (x.C)) Try.isAgg3 rfl (Ha4.blk 0 rfl) rfl) rfl rfl ?_
   by_cases hg15 : (rgB x.C) = true
   ·refine aA ?_
    refine aT rfl rfl rfl rfl (fun _ ho16 => ?_)
    refine aK ho16 Try.call150 (vs := #[.int .i64 (x.C)]) rfl rfl rfl (bI (bO x.C _) hg15) ?_
    rintro e19 W18 ⟨rfl, hu17⟩; refine ⟨_, rfl, ?_⟩
    have H20 := Ha4.no hu17; clear Ha4
    refine aA ?_
    refine aT rfl rfl rfl rfl (fun _ ho21 => ?_)
    refine aB ho21 (aC rfl) rfl rfl ?_
    refine aA ?_
    refine aT rfl rfl rfl rfl (fun _ ho22 => ?_)
    refine aB ho22 (aN fE rfl) rfl rfl ?_
    refine aA ?_
    refine aT rfl rfl rfl rfl (fun _ ho23 => ?_)
    refine aB ho23 (aS (k := 4) (v := .int .i64 (x.D)) Try.isAgg3 rfl (H20.blk 0 rfl) rfl) rfl rfl ?_
    by_cases hg24 : (x.D : Int) = (-1)
    ·refine aA ?_
     refine aT rfl rfl rfl rfl (fun _ ho25 => ?_)
     refine aB ho25 (bQ hg24 (bD rfl rfl)) rfl rfl ?_
     refine aA ?_
     refine aT rfl rfl rfl rfl (fun _ ho26 => ?_)
     refine aB ho26 (aC rfl) rfl rfl ?_
     refine aA ?_
     refine aD rfl rfl rfl rfl rfl rfl rfl ?_
     refine aA ?_
     refine aD rfl rfl rfl rfl rfl rfl rfl ?_
     refine aA ?_
     refine aD rfl rfl rfl rfl rfl rfl rfl ?_
     refine aA ?_
     refine aT rfl rfl rfl rfl (fun _ ho27 => ?_)
     refine aB ho27 (aJ (v := .bool (true)) (b := true) rfl rfl rfl rfl) rfl rfl ?_
     refine aA ?_
     refine aT rfl rfl rfl rfl (fun _ ho28 => ?_)
     refine aB ho28 (aJ (v := .bool (true)) (b := true) rfl rfl rfl rfl) rfl rfl ?_
     refine aA ?_
     refine aB rfl (aJ (v := .bool (true)) (b := false) rfl rfl rfl rfl) rfl rfl ?_
     refine aA ?_
     refine aB rfl (aG rfl) rfl rfl ?_
     refine aF ?_
     refine aH ?_
     refine wp_ret ?_
     refine aM (.inl rfl) Try.results151 rfl ?_
     have hr29 : prB x.C x.D = true := by first | (simp [prB, fO, hg6, hg9, hg15, hg24]; done) | exact absurd (show rgB (-1) = true from hg6 ▸ hg15) kD | (exfalso; omega)
     rw [hr29]
     exact ⟨rfl, H20.1⟩
    ·refine aA ?_
     refine aT rfl rfl rfl rfl (fun _ ho30 => ?_)
     refine aB ho30 (bS hg24 (bD rfl rfl)) rfl rfl ?_
     refine aA ?_
     refine aT rfl rfl rfl rfl (fun _ ho31 => ?_)
     refine aB ho31 (aC rfl) rfl rfl ?_
     refine aA ?_
     refine aT rfl rfl rfl rfl (fun _ ho32 => ?_)
     refine aB ho32 (aN fE rfl) rfl rfl ?_
     refine aA ?_
     refine aT rfl rfl rfl rfl (fun _ ho33 => ?_)
     refine aB ho33 (aS (k := 4) (v := .int .i64 (x.D)) Try.isAgg3 rfl (H20.blk 0 rfl) rfl) rfl rfl ?_
     by_cases hg34 : (rgB x.D) = true
     ·refine aA ?_
      refine aT rfl rfl rfl rfl (fun _ ho35 => ?_)
      refine aK ho35 Try.call150 (vs := #[.int .i64 (x.D)]) rfl rfl rfl (bI (bO x.D _) hg34) ?_
      rintro e38 W37 ⟨rfl, hu36⟩; refine ⟨_, rfl, ?_⟩
      have H39 := H20.no hu36; clear H20
      refine aA ?_
      refine aT rfl rfl rfl rfl (fun _ ho40 => ?_)
      refine aB ho40 (aJ (v := .bool (true)) (b := false) rfl rfl rfl rfl) rfl rfl ?_
      refine aA ?_
      refine aT rfl rfl rfl rfl (fun _ ho41 => ?_)
      refine aB ho41 (aJ (v := .bool (true)) (b := true) rfl rfl rfl rfl) rfl rfl ?_
      refine aA ?_
      refine aB rfl (aJ (v := .bool (true)) (b := false) rfl rfl rfl rfl) rfl rfl ?_
      refine aA ?_
      refine aB rfl (aG rfl) rfl rfl ?_
      refine aF ?_
      refine aH ?_
      refine wp_ret ?_
      refine aM (.inl rfl) Try.results151 rfl ?_
      have hr42 : prB x.C x.D = true := by first | (simp [prB, fO, hg6, hg9, hg15, hg24, hg34]; done) | exact absurd (show rgB (-1) = true from hg6 ▸ hg15) kD | (exfalso; omega)
      rw [hr42]
      exact ⟨rfl, H39.1⟩
     ·refine aA ?_
      refine aT rfl rfl rfl rfl (fun _ ho43 => ?_)
      refine aK ho43 Try.call150 (vs := #[.int .i64 (x.D)]) rfl rfl rfl (bI (bO x.D _) (eq_false_of_ne_true hg34)) ?_
      rintro e46 W45 ⟨rfl, hu44⟩; refine ⟨_, rfl, ?_⟩
      have H47 := H20.no hu44; clear H20
      refine aA ?_
      refine aT rfl rfl rfl rfl (fun _ ho48 => ?_)
      refine aB ho48 (aJ (v := .bool (false)) (b := false) rfl rfl rfl rfl) rfl rfl ?_
      refine aA ?_
      refine aT rfl rfl rfl rfl (fun _ ho49 => ?_)
      refine aB ho49 (aJ (v := .bool (false)) (b := true) rfl rfl rfl rfl) rfl rfl ?_
      refine aA ?_
      refine aB rfl (aJ (v := .bool (false)) (b := false) rfl rfl rfl rfl) rfl rfl ?_
      refine aA ?_
      refine aB rfl (aG rfl) rfl rfl ?_
      refine aF ?_
      refine aH ?_
      refine wp_ret ?_
      refine aM (.inl rfl) Try.results151 rfl ?_
      have hr50 : prB x.C x.D = false := by first | (simp [prB, fO, hg6, hg9, hg15, hg24, hg34]; done) | exact absurd (show rgB (-1) = true from hg6 ▸ hg15) kD | (exfalso; omega)
      rw [hr50]
      exact ⟨rfl, H47.1⟩
   ·refine aA ?_
    refine aT rfl rfl rfl rfl (fun _ ho51 => ?_)
    refine aK ho51 Try.call150 (vs := #[.int .i64 (x.C)]) rfl rfl rfl (bI (bO x.C _) (eq_false_of_ne_true hg15)) ?_
    rintro e54 W53 ⟨rfl, hu52⟩; refine ⟨_, rfl, ?_⟩
    have H55 := Ha4.no hu52; clear Ha4
    refine aA ?_
    refine aT rfl rfl rfl rfl (fun _ ho56 => ?_)
    refine aB ho56 (aC rfl) rfl rfl ?_
    refine aA ?_
    refine aD rfl rfl rfl rfl rfl rfl rfl ?_
    refine aA ?_
    refine aD rfl rfl rfl rfl rfl rfl rfl ?_
    refine aA ?_
    refine aD rfl rfl rfl rfl rfl rfl rfl ?_
    refine aA ?_
    refine aD rfl rfl rfl rfl rfl rfl rfl ?_
    refine aA ?_
    refine dL rfl rfl rfl rfl rfl rfl ?_
    refine aA ?_
    refine dL rfl rfl rfl rfl rfl rfl ?_
    refine aA ?_
    refine dL rfl rfl rfl rfl rfl rfl ?_
    refine aA ?_
    refine aD rfl rfl rfl rfl rfl rfl rfl ?_
    refine aA ?_
    refine aT rfl rfl rfl rfl (fun _ ho57 => ?_)
    refine aB ho57 (aJ (v := .bool (false)) (b := false) rfl rfl rfl rfl) rfl rfl ?_
    refine aA ?_
    refine aB rfl (aJ (v := .bool (false)) (b := false) rfl rfl rfl rfl) rfl rfl ?_
    refine aA ?_
    refine aB rfl (aG rfl) rfl rfl ?_
    refine aF ?_
    refine aH ?_
    refine wp_ret ?_
    refine aM (.inl rfl) Try.results151 rfl ?_
    have hr58 : prB x.C x.D = false := by first | (simp [prB, fO, hg6, hg9, hg15]; done) | (exfalso; omega)
    rw [hr58]
    exact ⟨rfl, H55.1⟩
 ·refine aA ?_
  refine aB rfl (bS hg6 (bD rfl rfl)) rfl rfl ?_
  refine aA ?_
  refine aB rfl (aC rfl) rfl rfl ?_
  refine aA ?_
  refine aD rfl rfl rfl rfl rfl rfl rfl ?_
  refine aA ?_
  refine aD rfl rfl rfl rfl rfl rfl rfl ?_
  refine aA ?_
  refine aD rfl rfl rfl rfl rfl rfl rfl ?_
  refine aA ?_
  refine aB rfl (aJ (v := .bool (false)) (b := false) rfl rfl rfl rfl) rfl rfl ?_
  refine aA ?_
  refine aB rfl (aC rfl) rfl rfl ?_
  refine aA ?_
  refine aT rfl rfl rfl rfl (fun _ ho59 => ?_)
  refine aB ho59 (aN eU rfl) rfl rfl ?_
  refine aA ?_
  refine aT rfl rfl rfl rfl (fun _ ho60 => ?_)
  refine aB ho60 (aS (k := 3) (v := .int .i64 (x.C)) Try.isAgg3 rfl (Ha4.blk 0 rfl) rfl) rfl rfl ?_
  by_cases hg61 : (rgB x.C) = true
  ·refine aA ?_
   refine aT rfl rfl rfl rfl (fun _ ho62 => ?_)
   refine aK ho62 Try.call150 (vs := #[.int .i64 (x.C)]) rfl rfl rfl (bI (bO x.C _) hg61) ?_
   rintro e65 W64 ⟨rfl, hu63⟩; refine ⟨_, rfl, ?_⟩
   have H66 := Ha4.no hu63; clear Ha4
   refine aA ?_
   refine aT rfl rfl rfl rfl (fun _ ho67 => ?_)
   refine aB ho67 (aC rfl) rfl rfl ?_
   refine aA ?_
   refine aT rfl rfl rfl rfl (fun _ ho68 => ?_)
   refine aB ho68 (aN fE rfl) rfl rfl ?_
   refine aA ?_
   refine aT rfl rfl rfl rfl (fun _ ho69 => ?_)
   refine aB ho69 (aS (k := 4) (v := .int .i64 (x.D)) Try.isAgg3 rfl (H66.blk 0 rfl) rfl) rfl rfl ?_
   by_cases hg70 : (x.D : Int) = (-1)
   ·refine aA ?_
    refine aT rfl rfl rfl rfl (fun _ ho71 => ?_)
    refine aB ho71 (bQ hg70 (bD rfl rfl)) rfl rfl ?_
    refine aA ?_
    refine aT rfl rfl rfl rfl (fun _ ho72 => ?_)
    refine aB ho72 (aC rfl) rfl rfl ?_
    refine aA ?_
    refine aD rfl rfl rfl rfl rfl rfl rfl ?_
    refine aA ?_
    refine aD rfl rfl rfl rfl rfl rfl rfl ?_
    refine aA ?_
    refine aD rfl rfl rfl rfl rfl rfl rfl ?_
    refine aA ?_
    refine aT rfl rfl rfl rfl (fun _ ho73 => ?_)
    refine aB ho73 (aJ (v := .bool (true)) (b := true) rfl rfl rfl rfl) rfl rfl ?_
    refine aA ?_
    refine aT rfl rfl rfl rfl (fun _ ho74 => ?_)
    refine aB ho74 (aJ (v := .bool (true)) (b := true) rfl rfl rfl rfl) rfl rfl ?_
    refine aA ?_
    refine aB rfl (aJ (v := .bool (true)) (b := false) rfl rfl rfl rfl) rfl rfl ?_
    refine aA ?_
    refine aB rfl (aG rfl) rfl rfl ?_
    refine aF ?_
    refine aH ?_
    refine wp_ret ?_
    refine aM (.inl rfl) Try.results151 rfl ?_
    have hr75 : prB x.C x.D = true := by first | (simp [prB, fO, hg6, hg61, hg70]; done) | (exfalso; omega)
    rw [hr75]
    exact ⟨rfl, H66.1⟩
   ·refine aA ?_
    refine aT rfl rfl rfl rfl (fun _ ho76 => ?_)
    refine aB ho76 (bS hg70 (bD rfl rfl)) rfl rfl ?_
    refine aA ?_
    refine aT rfl rfl rfl rfl (fun _ ho77 => ?_)
    refine aB ho77 (aC rfl) rfl rfl ?_
    refine aA ?_
    refine aT rfl rfl rfl rfl (fun _ ho78 => ?_)
    refine aB ho78 (aN fE rfl) rfl rfl ?_
    refine aA ?_
    refine aT rfl rfl rfl rfl (fun _ ho79 => ?_)
    refine aB ho79 (aS (k := 4) (v := .int .i64 (x.D)) Try.isAgg3 rfl (H66.blk 0 rfl) rfl) rfl rfl ?_
    by_cases hg80 : (rgB x.D) = true
    ·refine aA ?_
     refine aT rfl rfl rfl rfl (fun _ ho81 => ?_)
     refine aK ho81 Try.call150 (vs := #[.int .i64 (x.D)]) rfl rfl rfl (bI (bO x.D _) hg80) ?_
     rintro e84 W83 ⟨rfl, hu82⟩; refine ⟨_, rfl, ?_⟩
     have H85 := H66.no hu82; clear H66
     refine aA ?_
     refine aT rfl rfl rfl rfl (fun _ ho86 => ?_)
     refine aB ho86 (aJ (v := .bool (true)) (b := false) rfl rfl rfl rfl) rfl rfl ?_
     refine aA ?_
     refine aT rfl rfl rfl rfl (fun _ ho87 => ?_)
     refine aB ho87 (aJ (v := .bool (true)) (b := true) rfl rfl rfl rfl) rfl rfl ?_
     refine aA ?_
     refine aB rfl (aJ (v := .bool (true)) (b := false) rfl rfl rfl rfl) rfl rfl ?_
     refine aA ?_
     refine aB rfl (aG rfl) rfl rfl ?_
     refine aF ?_
     refine aH ?_
     refine wp_ret ?_
     refine aM (.inl rfl) Try.results151 rfl ?_
     have hr88 : prB x.C x.D = true := by first | (simp [prB, fO, hg6, hg61, hg70, hg80]; done) | (exfalso; omega)
     rw [hr88]
     exact ⟨rfl, H85.1⟩
    ·refine aA ?_
     refine aT rfl rfl rfl rfl (fun _ ho89 => ?_)
     refine aK ho89 Try.call150 (vs := #[.int .i64 (x.D)]) rfl rfl rfl (bI (bO x.D _) (eq_false_of_ne_true hg80)) ?_
     rintro e92 W91 ⟨rfl, hu90⟩; refine ⟨_, rfl, ?_⟩
     have H93 := H66.no hu90; clear H66
     refine aA ?_
     refine aT rfl rfl rfl rfl (fun _ ho94 => ?_)
     refine aB ho94 (aJ (v := .bool (false)) (b := false) rfl rfl rfl rfl) rfl rfl ?_
     refine aA ?_
     refine aT rfl rfl rfl rfl (fun _ ho95 => ?_)
     refine aB ho95 (aJ (v := .bool (false)) (b := true) rfl rfl rfl rfl) rfl rfl ?_
     refine aA ?_
     refine aB rfl (aJ (v := .bool (false)) (b := false) rfl rfl rfl rfl) rfl rfl ?_
     refine aA ?_
     refine aB rfl (aG rfl) rfl rfl ?_
     refine aF ?_
     refine aH ?_
     refine wp_ret ?_
     refine aM (.inl rfl) Try.results151 rfl ?_
     have hr96 : prB x.C x.D = false := by first | (simp [prB, fO, hg6, hg61, hg70, hg80]; done) | (exfalso; omega)
     rw [hr96]
     exact ⟨rfl, H93.1⟩
  ·refine aA ?_
   refine aT rfl rfl rfl rfl (fun _ ho97 => ?_)
   refine aK ho97 Try.call150 (vs := #[.int .i64 (x.C)]) rfl rfl rfl (bI (bO x.C _) (eq_false_of_ne_true hg61)) ?_
   rintro e100 W99 ⟨rfl, hu98⟩; refine ⟨_, rfl, ?_⟩
   have H101 := Ha4.no hu98; clear Ha4
   refine aA ?_
   refine aT rfl rfl rfl rfl (fun _ ho102 => ?_)
   refine aB ho102 (aC rfl) rfl rfl ?_
   refine aA ?_
   refine aD rfl rfl rfl rfl rfl rfl rfl ?_
   refine aA ?_
   refine aD rfl rfl rfl rfl rfl rfl rfl ?_
   refine aA ?_
   refine aD rfl rfl rfl rfl rfl rfl rfl ?_
   refine aA ?_
   refine aD rfl rfl rfl rfl rfl rfl rfl ?_
   refine aA ?_
   refine dL rfl rfl rfl rfl rfl rfl ?_
   refine aA ?_
   refine dL rfl rfl rfl rfl rfl rfl ?_
   refine aA ?_
   refine dL rfl rfl rfl rfl rfl rfl ?_
   refine aA ?_
   refine aD rfl rfl rfl rfl rfl rfl rfl ?_
   refine aA ?_
   refine aT rfl rfl rfl rfl (fun _ ho103 => ?_)
   refine aB ho103 (aJ (v := .bool (false)) (b := false) rfl rfl rfl rfl) rfl rfl ?_
   refine aA ?_
   refine aB rfl (aJ (v := .bool (false)) (b := false) rfl rfl rfl rfl) rfl rfl ?_
   refine aA ?_
   refine aB rfl (aG rfl) rfl rfl ?_
   refine aF ?_
   refine aH ?_
   refine wp_ret ?_
   refine aM (.inl rfl) Try.results151 rfl ?_
   have hr104 : prB x.C x.D = false := by first | (simp [prB, fO, hg6, hg61]; done) | (exfalso; omega)
   rw [hr104]
   exact ⟨rfl, H101.1⟩
end Go.Proofs.YtdfipdpeilegpaaFam

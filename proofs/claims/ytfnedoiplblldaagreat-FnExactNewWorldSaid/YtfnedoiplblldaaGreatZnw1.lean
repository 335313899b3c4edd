/- What the row needs, packed. No conditions beyond those that each law names. -/
import Derived.WalkKit
import Derived.Below
import Derived.OwnWalk
import Derived.Laws.AppendOwn
import Derived.Deep.Slices
import Derived.Deep.Draws
import Derived.Laws.Rows
import Derived.ChangeArms
import Derived.WideShapes
import Derived.Laws.MakeOwn
import Derived.Maps.AppendAt
import Derived.Deep.AppendLies
import Derived.WalkSpells
import Derived.Deep.RegionHeld3
import Derived.OrdersHeld
import Derived.Deep.LoopGhost
import Derived.Laws.CopyRow
import Derived.KernelRfl
import Derived.IntWalk
import Derived.Test.YtfnedoiplblldaaGreatProg
import Derived.RowKit3
import Derived.Deep.QuietTactic
import Derived.BigQuiet
import Derived.StillTailTactics
namespace Go.Proofs.YtfnedoiplblldaaGreatSep
theorem kA {p : Prop} (h : p := by repeat (with_reducible first | exact Upd.refl _ _ | apply Upd.bZ | apply Upd.bY | apply Upd.bW | apply Upd.alloc | apply Upd.drewN | apply Upd.drew)) : p := h
theorem kB {p : Prop} (h : p := by first | omega | (simp; done) | (simp; omega)) : p := h
theorem kC {p : Prop} (h : p := by repeat (with_reducible first | exact Upd.refl _ _ | apply Upd.eZ)) : p := h
theorem kR {p : Prop} (h : p := by kernel_rfl) : p := h
theorem kD {p : Prop} (h : p := by decide) : p := h
theorem kO {p : Prop} (h : p := by omega) : p := h
theorem kS {p : Prop} (h : p := by simp [Value.oneCell']) : p := h
end Go.Proofs.YtfnedoiplblldaaGreatSep
namespace Go.Proofs.YtfnedoiplblldaaGreatSep
open Go.ChangeShapes Go.WideShapes Go.RowKit
structure Sd (p : Prop) : Prop where mk :: (out : p)
structure Upd (F : Nat → Prop) (w w' : World) : Prop where
 os : w'.os = w.os
 tape : w'.tape = w.tape
 output : w'.output = w.output
 size : w.heap.size ≤ w'.heap.size
 block : ∀ b, b < w.heap.size → ¬ F b → w'.heap[b]? = w.heap[b]?
def No : Nat → Prop := fun _ => False
theorem Upd.refl (F : Nat → Prop) (w : World) : Upd F w w := ⟨rfl, rfl, rfl, Nat.le_refl _, fun _ _ _ => rfl⟩
theorem Upd.trans {F G H : Nat → Prop} {w w1 w2 : World} (h : Upd F w w1) (k : Upd G w1 w2) (hF : ∀ b, b < w.heap.size → F b → H b) (hG : ∀ b, b < w.heap.size → G b → H b) : Upd H w w2 :=
 ⟨k.os.trans h.os, k.tape.trans h.tape, k.output.trans h.output, Nat.le_trans h.size k.size, fun b hb hH => (k.block b (Nat.lt_of_lt_of_le hb h.size) (fun q => hH (hG b hb q))).trans (h.block b hb (fun q => hH (hF b hb q)))⟩
theorem Upd.mono {F G : Nat → Prop} {w w' : World} (h : Upd F w w') (hF : ∀ b, b < w.heap.size → F b → G b) : Upd G w w' := ⟨h.os, h.tape, h.output, h.size, fun b hb hG => h.block b hb (fun q => hG (hF b hb q))⟩
theorem Upd.then {w w1 w2 : World} (h : Upd No w w1) (k : Upd No w1 w2) : Upd No w w2 := h.trans k (fun _ _ q => q) (fun _ _ q => q)
theorem Upd.alloc {F : Nat → Prop} {w w1 : World} (h : Upd F w w1) (o : Obj) : Upd F w (w1.alloc o) :=
 ⟨h.os, h.tape, h.output, Nat.le_trans h.size (by simp), fun b hb hF => by rw [← h.block b hb hF]; exact heap_alloc_old w1 o (Nat.lt_of_lt_of_le hb h.size)⟩
theorem Upd.drewN {F : Nat → Prop} {w w1 : World} (h : Upd F w w1) (n : Nat) : Upd F w (w1.drewN n) := ⟨h.os, h.tape, h.output, h.size, h.block⟩
theorem Upd.drew {F : Nat → Prop} {w w1 : World} (h : Upd F w w1) : Upd F w w1.drew := ⟨h.os, h.tape, h.output, h.size, h.block⟩
theorem Upd.set {F : Nat → Prop} {w w1 : World} (h : Upd F w w1) (p : Addr) (u : Value) (hp : w.heap.size ≤ p.block ∨ F p.block) : Upd F w (w1.setCell p u) := by
 have hb : ∀ b, b ≠ p.block → (w1.setCell p u).heap[b]? = w1.heap[b]? := fun b hb => Below.heap_setCell w1 p u b hb
 have hs : (w1.setCell p u).heap.size = w1.heap.size := by simp [World.setCell]
 exact ⟨h.os, h.tape, h.output, by rw [hs]; exact h.size, fun b hb' hF => (hb b (by rintro rfl; rcases hp with hp | hp; omega; exact hF hp)).trans (h.block b hb' hF)⟩
theorem Upd.below {w w' : World} (h : Upd No w w') : Below w.heap.size w w' := ⟨h.os, h.tape, h.output, h.size, fun b hb => h.block b hb (fun q => q)⟩
theorem Upd.of_grown {w w' : World} {row : Option Nat} (h : w.grownBy w' row) : Upd (fun b => some b = row) w w' := ⟨h.os, h.tape, h.output, h.size, fun b hb hF => h.block b hb hF⟩
theorem Upd.cells {w w' : World} (h : Upd No w w') : (∀ b o, b < w.heap.size → w'.cell? ⟨b, o, none⟩ = w.cell? ⟨b, o, none⟩) ∧ (∀ b o, b < w.heap.size → w'.frozen? ⟨b, o, none⟩ = w.frozen? ⟨b, o, none⟩) :=
 ⟨fun b o hb => h.below.cell (p := ⟨b, o, none⟩) hb, fun b o hb => h.below.frozen (p := ⟨b, o, none⟩) hb⟩
theorem Upd.bJ {F : Nat → Prop} {w w' : World} (h : Upd F w w') {b : Nat} (hb : b < w.heap.size) (hF : ¬ F b) (o : Nat) : w'.cell? ⟨b, o, none⟩ = w.cell? ⟨b, o, none⟩ := by
 simp [World.cell?, h.block b hb hF]
theorem Upd.fI {F : Nat → Prop} {w w' : World} (h : Upd F w w') {b : Nat} (hb : b < w.heap.size) (hF : ¬ F b) (o : Nat) : w'.frozen? ⟨b, o, none⟩ = w.frozen? ⟨b, o, none⟩ := by
 simp [World.frozen?, h.block b hb hF]
theorem blk_set {w : World} {g : Nat} {t : TypeId} {cs : Array Value} (h : w.heap[g]? = some (.cells cs t (0, 0))) (i : Nat) (u : Value) : (w.setCell ⟨g, i, none⟩ u).heap[g]? = some (.cells (cs.setIfInBounds i u) t (0, 0)) := by
 simp [World.setCell, Array.getElem?_modify, h]
structure Kn (α : Type) where
 sz : Nat
 K : World → α → List Value → Prop
 M : World → (Nat → Prop) → α → List Value → Prop
 K_len : ∀ {w x cs}, K w x cs → cs.length = sz
 K_one : ∀ {w x cs}, K w x cs → ∀ u ∈ cs, u.oneCell' = true
 K_stay : ∀ {w w' : World} {x cs}, (∀ b, b < w.heap.size → w'.heap[b]? = w.heap[b]?) → K w x cs → K w' x cs
 eT : ∀ {w F x cs}, M w F x cs → K w x cs
 gI : ∀ {w F F' x cs}, (∀ b, F b → F' b) → M w F x cs → M w F' x cs
 M_lt : ∀ {w : World} {F x cs}, M w F x cs → M w (fun b => F b ∧ b < w.heap.size) x cs
 gX : ∀ {w w' : World} {F x cs}, (∀ b, F b → w'.heap[b]? = w.heap[b]?) → M w F x cs → M w' F x cs
section
variable {α : Type} (d : Kn α)
def piece (sz : Nat) (l : List Value) (i : Nat) : List Value := (l.drop (i * sz)).take sz
def C (w : World) (A : Option Addr) (xs : List α) : Prop :=
 xs.length ≤ 9223372036854775807 ∧ (0 < xs.length → ∃ ad, A = some ad ∧ ∀ j p, xs[j]? = some p → ∃ c, d.K w p c ∧ ∀ i u, c[i]? = some u → w.cell? (ad.add (j * d.sz + i)) = some u)
def R (e : Nat) (w : World) (F : Nat → Prop) (v : Value) (xs : List α) : Prop :=
 (v = .slice none 0 0 ∧ xs = []) ∨
 ∃ (g cap : Nat) (cur : Array Value) (Fs : Nat → Nat → Prop), v = .slice (some ⟨g, 0, none⟩) xs.length cap ∧ w.heap[g]? = some (.cells cur e (0, 0)) ∧ F g ∧ xs.length ≤ cap ∧ cap ≤ 9223372036854775807 ∧ cur.size = cap * d.sz ∧
  (∀ i b, Fs i b → F b ∧ b ≠ g) ∧ (∀ i j b, Fs i b → Fs j b → i = j) ∧ ∀ i x, xs[i]? = some x → d.M w (Fs i) x (piece d.sz cur.toList i)
variable {d} {e : Nat} {w w' : World} {F F' : Nat → Prop} {v : Value} {xs : List α}
theorem fP : R d e w F (.slice none 0 0) [] := .inl ⟨rfl, rfl⟩
theorem iD (hF : ∀ b, F b → F' b) (h : R d e w F v xs) : R d e w F' v xs := by
 rcases h with h | ⟨g, cap, cur, Fs, h1, h2, h3, h4, h5, h6, h7, h8, h9⟩
 ·exact .inl h
 ·exact .inr ⟨g, cap, cur, Fs, h1, h2, hF _ h3, h4, h5, h6, fun i b hb => ⟨hF _ (h7 i b hb).1, (h7 i b hb).2⟩, h8, h9⟩
theorem heap_lt {w : World} {g : Nat} {o : Obj} (h : w.heap[g]? = some o) : g < w.heap.size := (Array.getElem?_eq_some_iff.1 h).1
theorem R_lt (h : R d e w F v xs) : R d e w (fun b => F b ∧ b < w.heap.size) v xs := by
 rcases h with h | ⟨g, cap, cur, Fs, h1, h2, h3, h4, h5, h6, h7, h8, h9⟩
 ·exact .inl h
 ·refine .inr ⟨g, cap, cur, fun i b => Fs i b ∧ b < w.heap.size, h1, h2, ⟨h3, heap_lt h2⟩, h4, h5, h6, fun i b hb => ⟨⟨(h7 i b hb.1).1, hb.2⟩, (h7 i b hb.1).2⟩, fun i j b hi hj => h8 i j b hi.1 hj.1, fun i x hx => d.M_lt (h9 i x hx)⟩
theorem R_same (hF : ∀ b, F b → w'.heap[b]? = w.heap[b]?) (h : R d e w F v xs) : R d e w' F v xs := by
 rcases h with h | ⟨g, cap, cur, Fs, h1, h2, h3, h4, h5, h6, h7, h8, h9⟩
 ·exact .inl h
 ·exact .inr ⟨g, cap, cur, Fs, h1, (hF _ h3).trans h2, h3, h4, h5, h6, h7, h8, fun i x hx => d.gX (fun b hb => hF b (h7 i b hb).1) (h9 i x hx)⟩
theorem R_reads (h : R d e w F v xs) : ∃ A c, v = .slice A xs.length c ∧ xs.length ≤ c ∧ C d w A xs := by
 rcases h with ⟨rfl, rfl⟩ | ⟨g, cap, cur, Fs, h1, h2, h3, h4, h5, h6, h7, h8, h9⟩
 ·exact ⟨none, 0, rfl, Nat.le_refl _, by simp, fun h => absurd h (Nat.lt_irrefl 0)⟩
 ·refine ⟨_, cap, h1, h4, by omega, fun _ => ⟨_, rfl, fun j p hp => ⟨_, d.eT (h9 j p hp), fun i u hu => ?_⟩⟩⟩
  have hi : i < d.sz := by have := (List.getElem?_eq_some_iff.1 hu).1; simp [piece] at this; omega
  have : cur[j * d.sz + i]? = some u := by
   simp [piece, hi] at hu
   exact hu
  rw [show (⟨g, 0, none⟩ : Addr).add (j * d.sz + i) = ⟨g, j * d.sz + i, none⟩ by unfold Addr.add; split <;> simp_all]
  rw [cell_of_row w g _ cur e (0, 0) h2]
  exact this
theorem C_stay {A : Option Addr} (h : ∀ b, b < w.heap.size → w'.heap[b]? = w.heap[b]?) (hc : C d w A xs) : C d w' A xs := by
 refine ⟨hc.1, fun hp => ?_⟩
 obtain ⟨ad, rfl, k⟩ := hc.2 hp
 refine ⟨ad, rfl, fun j p hj => ?_⟩
 obtain ⟨c, k1, k2⟩ := k j p hj
 refine ⟨c, d.K_stay h k1, fun i u hu => ?_⟩
 have := k2 i u hu
 have hb := World.block_lt_of_cell? w _ this
 rw [← this]
 simp only [World.cell?, h _ hb]
end
namespace Kn
def scalar {α : Type} (enc : α → Value) (h1 : ∀ x, (enc x).oneCell' = true) : Kn α where
 sz := 1
 K := fun _ x cs => cs = [enc x]
 M := fun _ _ x cs => cs = [enc x]
 K_len := fun h => by rw [h]; rfl
 K_one := fun h u hu => by rw [h] at hu; rw [List.mem_singleton.1 hu]; exact h1 _
 K_stay := fun _ h => h
 eT := fun h => h
 gI := fun _ h => h
 M_lt := fun h => h
 gX := fun _ h => h
def int : Kn Int := scalar (Value.int .i64) (fun _ => rfl)
def bool : Kn Bool := scalar Value.bool (fun _ => rfl)
def string : Kn ByteArray := scalar Value.string (fun _ => rfl)
def slice {α : Type} (e : Nat) (d : Kn α) : Kn (List α) where
 sz := 1
 K := fun w xs cs => ∃ A c, cs = [.slice A xs.length c] ∧ xs.length ≤ c ∧ C d w A xs
 M := fun w F xs cs => ∃ v, cs = [v] ∧ R d e w F v xs
 K_len := by rintro w x cs ⟨A, c, rfl, _⟩; rfl
 K_one := by rintro w x cs ⟨A, c, rfl, _⟩ u hu; rw [List.mem_singleton.1 hu]; rfl
 K_stay := by rintro w w' x cs h ⟨A, c, rfl, hl, hr⟩; exact ⟨A, c, rfl, hl, C_stay h hr⟩
 eT := by rintro w F x cs ⟨v, rfl, h⟩; obtain ⟨A, c, rfl, hl, hr⟩ := R_reads h; exact ⟨A, c, rfl, hl, hr⟩
 gI := by rintro w F F' x cs hF ⟨v, rfl, h⟩; exact ⟨v, rfl, iD hF h⟩
 M_lt := by rintro w F x cs ⟨v, rfl, h⟩; exact ⟨v, rfl, R_lt h⟩
 gX := by rintro w w' F x cs hF ⟨v, rfl, h⟩; exact ⟨v, rfl, R_same hF h⟩
def pair {α β : Type} (a : Kn α) (b : Kn β) : Kn (α × β) where
 sz := a.sz + b.sz
 K := fun w x cs => ∃ c0 c1, cs = c0 ++ c1 ∧ a.K w x.1 c0 ∧ b.K w x.2 c1
 M := fun w F x cs => ∃ c0 c1 F0 F1, cs = c0 ++ c1 ∧ a.M w F0 x.1 c0 ∧ b.M w F1 x.2 c1 ∧ (∀ k, F0 k → F k) ∧ (∀ k, F1 k → F k) ∧ ∀ k, F0 k → ¬ F1 k
 K_len := by rintro w x cs ⟨c0, c1, rfl, h0, h1⟩; rw [List.length_append, a.K_len h0, b.K_len h1]
 K_one := by
  rintro w x cs ⟨c0, c1, rfl, h0, h1⟩ u hu
  rcases List.mem_append.1 hu with hu | hu
  ·exact a.K_one h0 u hu
  ·exact b.K_one h1 u hu
 K_stay := by rintro w w' x cs h ⟨c0, c1, rfl, h0, h1⟩; exact ⟨c0, c1, rfl, a.K_stay h h0, b.K_stay h h1⟩
 eT := by rintro w F x cs ⟨c0, c1, F0, F1, rfl, h0, h1, _⟩; exact ⟨c0, c1, rfl, a.eT h0, b.eT h1⟩
 gI := by rintro w F F' x cs hF ⟨c0, c1, F0, F1, rfl, h0, h1, k0, k1, k2⟩; exact ⟨c0, c1, F0, F1, rfl, h0, h1, fun k hk => hF k (k0 k hk), fun k hk => hF k (k1 k hk), k2⟩
 M_lt := by
  rintro w F x cs ⟨c0, c1, F0, F1, rfl, h0, h1, k0, k1, k2⟩
  exact ⟨c0, c1, _, _, rfl, a.M_lt h0, b.M_lt h1, fun k hk => ⟨k0 k hk.1, hk.2⟩, fun k hk => ⟨k1 k hk.1, hk.2⟩, fun k hk hk' => k2 k hk.1 hk'.1⟩
 gX := by
  rintro w w' F x cs hF ⟨c0, c1, F0, F1, rfl, h0, h1, k0, k1, k2⟩
  exact ⟨c0, c1, F0, F1, rfl, a.gX (fun b hb => hF b (k0 b hb)) h0, b.gX (fun b hb => hF b (k1 b hb)) h1, k0, k1, k2⟩
def iso {α β : Type} (d : Kn α) (f : β → α) : Kn β where
 sz := d.sz
 K := fun w x cs => d.K w (f x) cs
 M := fun w F x cs => d.M w F (f x) cs
 K_len := d.K_len
 K_one := d.K_one
 K_stay := d.K_stay
 eT := d.eT
 gI := d.gI
 M_lt := d.M_lt
 gX := d.gX
end Kn
section
variable {α : Type} {d : Kn α} {e : Nat} {w w' : World} {F F' : Nat → Prop} {v : Value} {xs : List α} {x : α} {cs : List Value}
theorem aO {A : Option Addr} (h : Upd No w w') (k : C d w A xs) : C d w' A xs := C_stay (fun b hb => h.block b hb (fun q => q)) k
theorem M_upd {G : Nat → Prop} (h : Upd G w w') (hG : ∀ b, F b → ¬ G b) (k : d.M w F x cs) : d.M w' F x cs := d.gI (fun _ q => q.1) (d.gX (fun b hb => h.block b hb.2 (hG b hb.1)) (d.M_lt k))
theorem bH {G : Nat → Prop} (h : Upd G w w') (hG : ∀ b, F b → ¬ G b) (k : R d e w F v xs) : R d e w' F v xs := iD (fun _ q => q.1) (R_same (fun b hb => h.block b hb.2 (hG b hb.1)) (R_lt k))
theorem bK (h : R d e w F v xs) : ∃ A c, v = .slice A xs.length c := by
 obtain ⟨A, c, h, _⟩ := R_reads h
 exact ⟨A, c, h⟩
theorem R_len (h : R d e w F v xs) : xs.length ≤ 9223372036854775807 := by
 obtain ⟨A, c, _, _, h⟩ := R_reads h
 exact h.1
theorem C_get {A : Option Addr} (h : C d w A xs) (i : Nat) (hi : i < xs.length) : ∃ ad c, A = some ad ∧ c.length = d.sz ∧ d.K w xs[i] c ∧ ∀ j u, c[j]? = some u → w.cell? (ad.add (i * d.sz + j)) = some u := by
 obtain ⟨ad, rfl, k⟩ := h.2 kO
 obtain ⟨c, h1, h2⟩ := k i xs[i] (List.getElem?_eq_getElem hi)
 exact ⟨ad, c, rfl, d.K_len h1, h1, h2⟩
theorem add_field (ad : Addr) (m j : Nat) (hj : 0 < j) : ad.add (m + j) = ⟨(ad.add m).block, (ad.add m).off + j, none⟩ := by
 unfold Addr.add
 by_cases hm : m = 0
 ·subst hm
  simp [Nat.ne_of_gt hj]
 ·have : m + j ≠ 0 := by omega
  simp [hm, Nat.add_assoc]
theorem C_at {A : Option Addr} (h : C d w A xs) (i : Nat) (hi : i < xs.length) : ∃ ad c, A = some ad ∧ d.K w xs[i] c ∧ (∀ u, c[0]? = some u → w.cell? (ad.add (i * d.sz)) = some u) ∧
 ∀ j u, c[j + 1]? = some u → w.cell? ⟨(ad.add (i * d.sz)).block, (ad.add (i * d.sz)).off + (j + 1), none⟩ = some u := by
 obtain ⟨ad, c, h1, _, h3, h4⟩ := C_get h i hi
 exact ⟨ad, c, h1, h3, fun u hu => h4 0 u hu, fun j u hu => by rw [← add_field _ _ (j + 1) kO]; exact h4 (j + 1) u hu⟩
end
def upTo {α : Type} (a b : List α) (i : Nat) : List α := a.take i ++ b.drop i
section
variable {α : Type} {a b : List α} {i : Nat}
theorem eD : upTo a b 0 = b := by simp [upTo]
theorem fB (h : a.length = b.length) (hi : b.length ≤ i) : upTo a b i = a := by simp [upTo, List.take_of_length_le (h ▸ hi), hi]
theorem fC (h : a.length = b.length) (hi : i ≤ b.length) : (upTo a b i).length = b.length := by simp [upTo]; omega
theorem gB (h : a.length = b.length) (hi : i < b.length) : (upTo a b i)[i]? = some b[i] := by
 unfold upTo
 rw [List.getElem?_append_right (by simp; omega)]
 simp [show i - min i a.length = 0 by omega, hi]
theorem fD (h : a.length = b.length) (hi : i < b.length) : (upTo a b i).set i (a[i]'(h ▸ hi)) = upTo a b (i + 1) := by
 have hi' : i < a.length := h ▸ hi
 unfold upTo
 rw [List.set_append_right _ _ (by simp; omega)]
 have e : i - (a.take i).length = 0 := by simp; omega
 rw [e, List.drop_eq_getElem_cons hi, List.set_cons_zero, List.take_succ_eq_append_getElem hi', List.append_assoc]
 rfl
end
structure At (w0 w : World) (g o n e : Nat) (cur0 : Array Value) (ce : List Value) (Fi : Nat → Prop) : Prop where
 row : ∃ cur, w.heap[g]? = some (.cells cur e (0, 0)) ∧ cur.size = cur0.size ∧ (∀ p, p < o ∨ o + n ≤ p → cur[p]? = cur0[p]?) ∧ (cur.toList.drop o).take n = ce
 upd : Upd (fun b => b = g ∨ Fi b) w0 w
 len : ce.length = n
section
variable {w0 w w' : World} {g o n e : Nat} {cur0 : Array Value} {ce : List Value} {Fi : Nat → Prop}
theorem At.room (h : At w0 w g o n e cur0 ce Fi) : ∀ j, j < n → o + j < cur0.size := by
 obtain ⟨cur, _, h2, _, h4⟩ := h.row
 intro j hj
 have := h.len
 rw [← h4, List.length_take, List.length_drop, Array.length_toList] at this
 omega
theorem At.cell (h : At w0 w g o n e cur0 ce Fi) (j : Nat) (u : Value) (hu : ce[j]? = some u) : w.cell? ⟨g, o + j, none⟩ = some u := by
 obtain ⟨cur, h1, h2, _, h4⟩ := h.row
 rw [cell_of_row w g _ cur e (0, 0) h1]
 have hj : j < n := by rw [← h.len]; exact (List.getElem?_eq_some_iff.1 hu).1
 rw [← h4, List.getElem?_take, if_pos hj, List.getElem?_drop] at hu
 simpa using hu
theorem At.cell0 (h : At w0 w g o n e cur0 ce Fi) (u : Value) (hu : ce[0]? = some u) : w.cell? ⟨g, o, none⟩ = some u := h.cell 0 u hu
theorem At.free (h : At w0 w g o n e cur0 ce Fi) (j : Nat) : w.frozen? ⟨g, j, none⟩ = false := by
 obtain ⟨cur, h1, _⟩ := h.row
 simp [World.frozen?, h1]
theorem At.set (h : At w0 w g o n e cur0 ce Fi) (j : Nat) (hj : j < n) (u : Value) : At w0 (w.setCell ⟨g, o + j, none⟩ u) g o n e cur0 (ce.set j u) Fi := by
 obtain ⟨cur, h1, h2, h3, h4⟩ := h.row
 refine ⟨⟨cur.setIfInBounds (o + j) u, blk_set h1 (o + j) u, by simpa using h2, fun p hp => ?_, ?_⟩, h.upd.set _ _ (.inr (.inl rfl)), by simpa using h.len⟩
 ·rw [Array.getElem?_setIfInBounds_ne kO]
  exact h3 p hp
 ·rw [← h4]
  apply List.ext_getElem?
  intro i
  simp only [List.getElem?_take, List.getElem?_drop, List.getElem?_set, Array.toList_setIfInBounds]
  by_cases hi : i < n
  ·have : o + j < cur.toList.length := by rw [Array.length_toList, h2]; exact h.room j hj
   by_cases e : j = i
   ·subst e
    have t2 : o + j < cur.size := by simpa using this
    simp [hj, t2]
    omega
   ·simp [hi, e]
  ·simp [hi]
   omega
theorem At.set0 (h : At w0 w g o n e cur0 ce Fi) (hj : 0 < n) (u : Value) : At w0 (w.setCell ⟨g, o, none⟩ u) g o n e cur0 (ce.set 0 u) Fi := h.set 0 hj u
theorem At.call (h : At w0 w g o n e cur0 ce Fi) {G : Nat → Prop} (k : Upd G w w') (hG : ∀ b, G b → Fi b) (hg : ¬ Fi g) : At w0 w' g o n e cur0 ce Fi := by
 obtain ⟨cur, h1, h2, h3, h4⟩ := h.row
 exact ⟨⟨cur, (k.block g (heap_lt h1) (fun q => hg (hG g q))).trans h1, h2, h3, h4⟩, h.upd.trans k (fun _ _ q => q) (fun b _ q => .inr (hG b q)), h.len⟩
variable {α : Type} {d : Kn α} {F : Nat → Prop} {v : Value} {xs : List α}
theorem iH (h : R d e w F v xs) (sz m : Nat) (hs : d.sz = sz) (hm : xs.length = m) (i : Nat) (x : α) (hx : xs[i]? = some x) : ∃ (g cap : Nat) (cur : Array Value) (ce : List Value) (Fi : Nat → Prop), v = .slice (some ⟨g, 0, none⟩) m cap ∧ m ≤ cap ∧ At w w g (i * sz) sz e cur ce Fi ∧ d.M w Fi x ce ∧ F g ∧ (∀ b, Fi b → F b) ∧ ¬ Fi g ∧
 ∀ (w' : World) (ce' : List Value) (x' : α) (Fi' F' : Nat → Prop), At w w' g (i * sz) sz e cur ce' Fi → d.M w' Fi' x' ce' → (∀ b, Fi' b → Fi b ∨ ¬ F b) → (∀ b, F b → F' b) → (∀ b, Fi' b → F' b) → R d e w' F' v (xs.set i x') := by
 subst hs
 subst hm
 obtain ⟨hi, rfl⟩ := List.getElem?_eq_some_iff.1 hx
 clear hx
 rcases h with ⟨_, rfl⟩ | ⟨g, cap, cur, Fs, h1, h2, h3, h4, h5, h6, h7, h8, h9⟩
 ·simp at hi
 have hx := h9 i xs[i] (List.getElem?_eq_getElem hi)
 have hsz : ∀ k, k < xs.length → k * d.sz + d.sz ≤ cur.size := fun k hk => by rw [h6, ← Nat.succ_mul]; exact Nat.mul_le_mul_right _ kO
 refine ⟨g, cap, cur, _, Fs i, h1, h4, ⟨⟨cur, h2, rfl, fun _ _ => rfl, rfl⟩, Upd.refl _ _, ?_⟩, hx, h3, fun b hb => (h7 i b hb).1, fun hb => (h7 i g hb).2 rfl, ?_⟩
 ·rw [List.length_take, List.length_drop, Array.length_toList]
  have := hsz i hi
  omega
 ·intro w' ce' x' Fi' F' hat hm hF1 hF2 hF3
  obtain ⟨cur', k1, k2, k3, k4⟩ := hat.row
  have hng : ∀ b, Fi' b → b ≠ g := fun b hb e => by
   subst e
   rcases hF1 b hb with hb | hb
   ·exact (h7 i b hb).2 rfl
   ·exact hb h3
  refine .inr ⟨g, cap, cur', fun j b => if j = i then Fi' b else Fs j b, by rw [List.length_set]; exact h1, k1, hF2 _ h3, by rw [List.length_set]; exact h4, h5, by rw [k2]; exact h6, fun j b hb => ?_, fun j j' b hb hb' => ?_, fun j x hx' => ?_⟩
  ·by_cases e : j = i
   ·simp only [e, if_true] at hb
    exact ⟨hF3 b hb, hng b hb⟩
   ·simp only [e, if_false] at hb
    exact ⟨hF2 b (h7 j b hb).1, (h7 j b hb).2⟩
  ·by_cases e : j = i <;> by_cases e' : j' = i
   ·omega
   ·simp only [e, e', if_true, if_false] at hb hb'
    rcases hF1 b hb with q | q
    ·exact absurd (h8 i j' b q hb') kO
    ·exact absurd (h7 j' b hb').1 q
   ·simp only [e, e', if_true, if_false] at hb hb'
    rcases hF1 b hb' with q | q
    ·exact absurd (h8 i j b q hb) kO
    ·exact absurd (h7 j b hb).1 q
   ·simp only [e, e', if_false] at hb hb'
    exact h8 j j' b hb hb'
  ·rw [List.getElem?_set] at hx'
   by_cases e : j = i
   ·subst e
    simp only [if_true, hi] at hx'
    obtain rfl := Option.some.inj hx'
    simp only [if_true]
    rw [show piece d.sz cur'.toList j = ce' from k4]
    exact hm
   ·rw [if_neg (fun q => e q.symm)] at hx'
    simp only [e, if_false]
    have hj : j < xs.length := (List.getElem?_eq_some_iff.1 hx').1
    have hp : piece d.sz cur'.toList j = piece d.sz cur.toList j := by
     apply List.ext_getElem?
     intro q
     simp only [piece, List.getElem?_take, List.getElem?_drop]
     by_cases hq : q < d.sz
     ·simp only [if_pos hq]
      have := k3 (j * d.sz + q) (by
       rcases Nat.lt_or_gt_of_ne e with e | e
       ·left
        have : j * d.sz + d.sz ≤ i * d.sz := by rw [← Nat.succ_mul]; exact Nat.mul_le_mul_right _ e
        omega
       ·right
        have : i * d.sz + d.sz ≤ j * d.sz := by rw [← Nat.succ_mul]; exact Nat.mul_le_mul_right _ e
        omega)
      simpa using this
     ·simp only [if_neg hq]
    rw [hp]
    refine d.gI (fun _ q => q.1) (d.gX (fun b hb => hat.upd.block b hb.2 ?_) (d.M_lt (h9 j x hx')))
    rintro (q | q)
    ·exact (h7 j b hb.1).2 q
    ·exact e (h8 j i b hb.1 q)
end
def gN (n : Int) (w : World) (e : Ending) (w' : World) : Prop := e = .returned (.int .i64 n) ∧ Upd No w w'
def dD (b : Bool) (w : World) (e : Ending) (w' : World) : Prop := e = .returned (.bool b) ∧ Upd No w w'
def RetString (s : ByteArray) (w : World) (e : Ending) (w' : World) : Prop := e = .returned (.string s) ∧ Upd No w w'
def New (w : World) : Nat → Prop := fun b => w.heap.size ≤ b
def RetRow {α : Type} (d : Kn α) (ty : Nat) (xs : List α) (w : World) (e : Ending) (w' : World) : Prop := ∃ v, e = .returned v ∧ R d ty w' (New w) v xs ∧ Upd No w w'
def iT {α : Type} (d : Kn α) (x : α) (w : World) (e : Ending) (w' : World) : Prop := ∃ cs, e = .returned (.agg cs.toArray) ∧ d.M w' (New w) x cs ∧ Upd No w w'
def RetSz (s : Nat) (n : Int) (w : World) (e : Ending) (w' : World) : Prop := ∃ r : Int, e = .returned (.int .i64 r) ∧ (((s : Int) ≤ n ∧ r = n - s) ∨ (n < s ∧ r = -1)) ∧ Upd No w w'
def Marks {α : Type} (d : Kn α) (ty : Nat) (F : Nat → Prop) (v : Value) (n : Int) (xs : List α) (w : World) (e : Ending) (w' : World) : Prop := e = .returned (.int .i64 n) ∧ R d ty w' F v xs ∧ Upd F w w'
def MarksV {α : Type} (d : Kn α) (F : Nat → Prop) (cs : List Value) (n : Int) (y : α) (w : World) (e : Ending) (w' : World) : Prop := e = .returned (.int .i64 n) ∧ d.M w' F y cs ∧ Upd F w w'
theorem Upd.bW {w w1 : World} (h : Upd No w w1) (o : Nat) (u : Value) : Upd No w (w1.setCell ⟨w.heap.size, o, none⟩ u) := h.set _ _ (.inl (Nat.le_refl _))
theorem Upd.bY {w w1 : World} (h : Upd No w w1) (o : Nat) (u : Value) : Upd No w (w1.setCell ⟨w.heap.size + 1, o, none⟩ u) := h.set _ _ (.inl (Nat.le_succ _))
theorem Upd.bZ {w w1 : World} (h : Upd No w w1) (o : Nat) (u : Value) : Upd No w (w1.setCell ⟨w.heap.size + 1 + 1, o, none⟩ u) := h.set _ _ (.inl (by dsimp only; omega))
theorem Upd.putP {P : Nat → Prop} {w w1 : World} {g : Nat} (hn : ¬ P g) (h : Upd (fun b => ¬ P b) w w1) (o : Nat) (u : Value) : Upd (fun b => ¬ P b) w (w1.setCell ⟨g, o, none⟩ u) := h.set _ _ (.inr hn)
theorem Upd.eZ {w w1 : World} {g : Nat} (h : Upd (fun b => b = g) w w1) (o : Nat) (u : Value) : Upd (fun b => b = g) w (w1.setCell ⟨g, o, none⟩ u) := h.set _ _ (.inr rfl)
theorem Upd.read {w w1 : World} (h : Upd No w w1) {a : Addr} {v : Value} (hc : w.cell? a = some v) : w1.cell? a = some v := (h.below.cell (World.block_lt_of_cell? w a hc)).trans hc
section
variable {α : Type} {d : Kn α} {e : Nat} {w w' : World} {F : Nat → Prop} {v : Value} {xs : List α}
theorem add_plain (g j : Nat) : (⟨g, 0, none⟩ : Addr).add j = ⟨g, j, none⟩ := by unfold Addr.add; split <;> simp_all
theorem piece_take {sz : Nat} {l : List Value} {n i : Nat} (h : i < n) : piece sz (l.take (n * sz)) i = piece sz l i := by
 have h1 : i * sz + sz ≤ n * sz := by rw [← Nat.succ_mul]; exact Nat.mul_le_mul_right _ h
 apply List.ext_getElem?
 intro q
 simp only [piece, List.getElem?_take, List.getElem?_drop]
 by_cases hq : q < sz
 ·simp only [if_pos hq]
  rw [if_pos kO]
 ·simp only [if_neg hq]
theorem R_of_owns {base : Nat} {inner : List Value} (h : w.ownsRow base e d.sz v xs.length inner) (hF : ∀ g, v.ownBlock = some g → F g) (Fs : Nat → Nat → Prop)
 (h1 : ∀ i b, Fs i b → F b ∧ v.ownBlock ≠ some b) (h2 : ∀ i j b, Fs i b → Fs j b → i = j) (h3 : ∀ i x, xs[i]? = some x → d.M w (Fs i) x (piece d.sz inner i)) : R d e w F v xs := by
 rcases h.2 with ⟨rfl, hn⟩ | ⟨g, cap, cur, rfl, _, k2, k3, k4, k5, k6⟩
 ·exact .inl ⟨rfl, List.eq_nil_of_length_eq_zero hn⟩
 ·refine .inr ⟨g, cap, cur, Fs, rfl, k2, hF g rfl, k3, by simpa [maxLen] using k4, k5, fun i b hb => ⟨(h1 i b hb).1, fun q => (h1 i b hb).2 (by rw [q]; rfl)⟩, h2, fun i x hx => ?_⟩
  have := h3 i x hx
  rw [← k6, piece_take (List.getElem?_eq_some_iff.1 hx).1] at this
  exact this
theorem owns_of_R (h : R d e w F v xs) : ∃ (inner : List Value) (Fs : Nat → Nat → Prop), w.ownsRow 0 e d.sz v xs.length inner ∧ (∀ g, v.ownBlock = some g → F g) ∧ (∀ i b, Fs i b → F b ∧ v.ownBlock ≠ some b) ∧ (∀ i j b, Fs i b → Fs j b → i = j) ∧ ∀ i x, xs[i]? = some x → d.M w (Fs i) x (piece d.sz inner i) := by
 rcases h with ⟨rfl, rfl⟩ | ⟨g, cap, cur, Fs, rfl, h2, h3, h4, h5, h6, h7, h8, h9⟩
 ·exact ⟨[], fun _ _ => False, ⟨by simp, .inl ⟨rfl, rfl⟩⟩, fun g hg => by simp [Value.ownBlock] at hg, fun _ _ h => h.elim, fun _ _ _ h => h.elim, fun i x h => by simp at h⟩
 ·refine ⟨cur.toList.take (xs.length * d.sz), Fs, ⟨?_, .inr ⟨g, cap, cur, rfl, Nat.zero_le _, h2, h4, by simpa [maxLen] using h5, h6, rfl⟩⟩, fun b hb => (show g = b by simpa [Value.ownBlock] using hb) ▸ h3, fun i b hb => ⟨(h7 i b hb).1, fun q => (h7 i b hb).2 (by simpa [Value.ownBlock] using q.symm)⟩, h8, fun i x hx => ?_⟩
  ·have q1 := Nat.mul_le_mul_right d.sz h4
   have q2 : cur.toList.length = cap * d.sz := by simpa using h6
   rw [List.length_take, q2, Nat.min_eq_left q1]
  ·rw [piece_take (List.getElem?_eq_some_iff.1 hx).1]
   exact h9 i x hx
theorem R_keep (h : R d e w F v xs) (hU : Upd (fun b => ¬ F b) w w') : R d e w' F v xs := bH hU (fun _ hb q => q hb) h
theorem R_C {A : Option Addr} {n c : Nat} (h : R d e w F (.slice A n c) xs) : C d w A xs := by
 obtain ⟨A', c', he, _, hC⟩ := R_reads h
 cases he
 exact hC
theorem fresh_row {W w1 : World} (h : R d e w1 (New W) v xs) (n : Nat) (hn : n ≤ W.heap.size) : ∃ P : Nat → Prop, R d e w1 P v xs ∧ (∀ b, P b → n ≤ b) ∧ ∀ b, P b → b < w1.heap.size :=
 ⟨fun b => New W b ∧ b < w1.heap.size, R_lt h, fun _ hb => Nat.le_trans hn hb.1, fun _ hb => hb.2⟩
def madeObj (z : Value) (n : Nat) (e : Nat) : Obj := .cells (madeCells z.cells n) e
theorem run_made {P : Program} {t : TypeId} (z : Value) (sz bytes : Nat) (ht : P.underlying t = some (.slice e)) (hinfo : (P.info? e).map (fun i => (i.zero, i.size, i.bytes)) = some (some z, sz, bytes)) (n : Nat) (hn : n ≤ 1048576) (hb : bytes ≤ 4096) :
 ∀ W : World, (Instr.makeSlice t (.int .i64 (n : Int)) (.int .i64 (n : Int))).run P W = .ok (.slice (some ⟨W.heap.size, 0, none⟩) n n) (W.alloc (madeObj z (n * sz) e)) := by
 intro W
 obtain ⟨i0, hi, hzz⟩ := Option.map_eq_some_iff.1 hinfo
 simp only [Prod.mk.injEq] at hzz
 obtain ⟨hz0, hz1, hz2⟩ := hzz
 have hr := run_make (P := P) W t e i0 z ht hi hz0 .i64 .i64 (n : Int) (n : Int) kO kO
  (by
   have h3 : i0.bytes * n ≤ 4096 * 1048576 := Nat.mul_le_mul kO hn
   have h4 : ((i0.bytes * n : Nat) : Int) ≤ 281474976710656 := by omega
   rwa [Int.natCast_mul] at h4) kO
 simp only [Int.toNat_natCast] at hr
 rw [hz1] at hr
 exact hr
theorem R_made (W : World) (z : Value) (zx : α) (hz : z.cells.size = d.sz) (hs : 0 < d.sz) (h0 : ∀ W, d.M W No zx z.cells.toList) (n : Nat) (hn : n ≤ 1048576) :
 R d e (W.alloc (madeObj z (n * d.sz) e)) (New W) (.slice (some ⟨W.heap.size, 0, none⟩) n n) (List.replicate n zx) := by
 refine .inr ⟨W.heap.size, n, madeCells z.cells (n * d.sz), fun _ _ => False, by simp, heap_alloc_new W _, Nat.le_refl _, by simp, by omega, size_madeCells _ _, fun _ _ h => h.elim, fun _ _ _ h => h.elim, fun i x hx => ?_⟩
 obtain ⟨hil, hx'⟩ := List.getElem?_eq_some_iff.1 hx
 have him : i < n := by simpa using hil
 have : zx = x := by simpa using hx'
 subst this
 have hle : i * d.sz + d.sz ≤ n * d.sz := by rw [← Nat.succ_mul]; exact Nat.mul_le_mul_right _ him
 have : piece d.sz (madeCells z.cells (n * d.sz)).toList i = z.cells.toList := by
  apply List.ext_getElem
  ·simp [piece, size_madeCells, hz]
   omega
  ·intro j h1 h2
   have hj : j < d.sz := by rw [Array.length_toList, hz] at h2; exact h2
   have hmod : (i * d.sz + j) % d.sz = j := by
    rw [Nat.mul_comm, Nat.mul_add_mod]
    exact Nat.mod_eq_of_lt hj
   simp [piece, madeCells, hz, hmod]
   rw [getElem!_pos z.cells j kO]
 rw [this]
 exact d.gI (fun _ h => h) (h0 _)
end
section
variable {α : Type} {d : Kn α} {e : Nat} {F : Nat → Prop} {v : Value} {xs : List α} {P : Program} {ops : Array Oper} {rest : List Oper} {o : Oper} {a : Act} {Q : Exit → Act → World → Prop}
theorem R_app {W : World} (hgd : o.guard = none) (s x : Operand) (t : TypeId) (z : Value) (bytes : Nat)
 (ho : o.op = .call { callee := .builtin .append, args := #[s, x], argTypes := #[t, t] })
 (ht : P.underlying t = some (.slice e)) (hinfo : (P.info? e).map (fun i => (i.zero, i.size, i.bytes)) = some (some z, d.sz, bytes)) (hz : z.cells.size = d.sz) (hs0 : 0 < d.sz) (hb0 : 0 < bytes)
 (p : α) (cs : List Value) (Fp : Nat → Prop) (hs : a.eval s = v) (hx : a.eval x = .slice (some ⟨W.heap.size, 0, none⟩) 1 1) (HR : R d e W F v xs) (hp : d.M W Fp p cs) (hd : ∀ b, Fp b → ¬ F b) (hl : (xs.length + 1) * bytes ≤ 140737488355328)
 (h : ∀ v1 w1, R d e w1 (fun b => F b ∨ Fp b ∨ W.heap.size ≤ b) v1 (xs ++ [p]) → Upd F W w1 → wpList P ops Q rest (a.put o.dst v1) w1) :
 wpList P ops Q (o :: rest) a (W.alloc (.cells cs.toArray e)) := by
 obtain ⟨i0, hi, hzz⟩ := Option.map_eq_some_iff.1 hinfo
 simp only [Prod.mk.injEq] at hzz
 obtain ⟨hz0, hz1, hz2⟩ := hzz
 have hlen : xs.length + 1 ≤ 140737488355328 := Nat.le_trans (Nat.le_mul_of_pos_right _ hb0) hl
 obtain ⟨inner, Fs, k1, k2, k3, k4, k5⟩ := owns_of_R (R_lt HR)
 have hcs := d.eT hp
 refine wpList_append_own_at (W.alloc (.cells cs.toArray e)) hgd s x t ho 0 e i0 z d.sz bytes ht hi hz0 hz1 hz2 hz hs0 v xs.length inner hs (k1.alloc _) ⟨W.heap.size, 0, none⟩ 1 1 cs hx (by rw [d.K_len hcs]; simp)
  (by simpa using World.news_of_block (cs := cs.toArray) (t := e) (fr := (0, 0)) (heap_alloc_new W (.cells cs.toArray e))) (d.K_one hcs) (by simp only [maxLen]; omega) hl (Nat.zero_le _) ?_
 intro v1 w1 hown hg _ hat
 have hU : Upd F W w1 := ((Upd.refl F W).alloc _).trans (Upd.of_grown hg) (fun _ _ q => q) (fun b hb q => by
  have hb' : v.ownBlock = some b := q.symm
  exact (k2 b hb').1)
 have hne : ∀ b, b < W.heap.size → v.ownBlock ≠ some b → v1.ownBlock ≠ some b := by
  intro b hb hv
  rcases hat with hat | hat
  ·rw [hat]; exact hv
  ·rw [hat]
   intro q
   injection q with q
   have : (W.alloc (.cells cs.toArray e)).heap.size = W.heap.size + 1 := by simp
   omega
 have hfr : ∀ b, b < W.heap.size → v.ownBlock ≠ some b → w1.heap[b]? = W.heap[b]? := by
  intro b hb hv
  rw [hg.block b (by simp; omega) (fun q => hv q.symm)]
  exact heap_alloc_old W _ hb
 refine h v1 w1 (R_of_owns (xs := xs ++ [p]) (base := 0) (inner := inner ++ cs) (by simpa using hown) (fun g hg' => ?_) (fun i b => if i < xs.length then Fs i b else i = xs.length ∧ Fp b ∧ b < W.heap.size) (fun i b hb => ?_) (fun i j b hi' hj' => ?_) (fun i x' hx' => ?_)) hU
 ·rcases hat with hat | hat
  ·exact .inl (k2 g (hat ▸ hg')).1
  ·rw [hat] at hg'
   injection hg' with q
   exact .inr (.inr (by rw [← q]; simp))
 ·by_cases c : i < xs.length
  ·simp only [c, if_true] at hb
   have := k3 i b hb
   exact ⟨.inl this.1.1, hne b this.1.2 this.2⟩
  ·simp only [c, if_false] at hb
   exact ⟨.inr (.inl hb.2.1), hne b hb.2.2 (fun q => hd b hb.2.1 (k2 b q).1)⟩
 ·by_cases c : i < xs.length <;> by_cases c' : j < xs.length
  ·simp only [c, c', if_true] at hi' hj'
   exact k4 i j b hi' hj'
  ·simp only [c, c', if_true, if_false] at hi' hj'
   exact absurd (k3 i b hi').1.1 (hd b hj'.2.1)
  ·simp only [c, c', if_true, if_false] at hi' hj'
   exact absurd (k3 j b hj').1.1 (hd b hi'.2.1)
  ·simp only [c, c', if_false] at hi' hj'
   omega
 ·by_cases c : i < xs.length
  ·simp only [c, if_true]
   rw [List.getElem?_append_left c] at hx'
   have hpc : piece d.sz (inner ++ cs) i = piece d.sz inner i := by
    have h1 : i * d.sz + d.sz ≤ inner.length := by rw [k1.1, ← Nat.succ_mul]; exact Nat.mul_le_mul_right _ c
    unfold piece
    rw [List.drop_append_of_le_length kO, List.take_append_of_le_length (by rw [List.length_drop]; omega)]
   rw [hpc]
   exact d.gI (fun _ q => q.1) (d.gX (fun b hb => hfr b hb.2 (k3 i b hb.1).2) (d.M_lt (k5 i x' hx')))
  ·simp only [c, if_false]
   have hil := (List.getElem?_eq_some_iff.1 hx').1
   have hi' : i = xs.length := by simp at hil; omega
   subst hi'
   have hx2 : p = x' := by simpa using hx'
   subst hx2
   have hpc : piece d.sz (inner ++ cs) xs.length = cs := by
    unfold piece
    rw [← k1.1, List.drop_left, List.take_of_length_le (by rw [d.K_len hcs]; exact Nat.le_refl _)]
   rw [hpc]
   exact d.gI (fun _ q => ⟨rfl, q.1, q.2⟩) (d.gX (fun b hb => hfr b hb.2 (fun q => hd b hb.1 (k2 b q).1)) (d.M_lt hp))
end
section
variable {α : Type} {d : Kn α} {e : Nat} {w w' : World} {F : Nat → Prop} {v : Value} {xs ys : List α}
def Flat (d : Kn α) : Prop := ∀ w w' F x cs, d.K w x cs → d.M w' F x cs
def CM (d : Kn α) (w : World) (A : Option Addr) (xs : List α) (Fs : Nat → Nat → Prop) : Prop :=
 xs.length ≤ 9223372036854775807 ∧ (0 < xs.length → ∃ ad, A = some ad ∧ ∀ j p, xs[j]? = some p → ∃ c, d.M w (Fs j) p c ∧ ∀ i u, c[i]? = some u → w.cell? (ad.add (j * d.sz + i)) = some u)
theorem jG (hf : Flat d) {A : Option Addr} (h : C d w A xs) : CM d w A xs (fun _ => No) := by
 refine ⟨h.1, fun hp => ?_⟩
 obtain ⟨ad, rfl, k⟩ := h.2 hp
 refine ⟨ad, rfl, fun j p hj => ?_⟩
 obtain ⟨c, k1, k2⟩ := k j p hj
 exact ⟨c, hf _ _ _ _ _ k1, k2⟩
theorem CM_news {ad : Addr} {Fs : Nat → Nat → Prop} (k : ∀ j p, xs[j]? = some p → ∃ c, d.M w (Fs j) p c ∧ ∀ i u, c[i]? = some u → w.cell? (ad.add (j * d.sz + i)) = some u) (n : Nat) (hn : n ≤ xs.length) :
 ∃ news : List Value, news.length = n * d.sz ∧ (∀ j u, news[j]? = some u → w.cell? (ad.add j) = some u ∧ u.oneCell' = true) ∧ ∀ i x, i < n → xs[i]? = some x → d.M w (Fs i) x (piece d.sz news i) := by
 induction n with
 | zero => exact ⟨[], by simp, fun j u h => by simp at h, fun i x h => by omega⟩
 | succ n ih =>
  obtain ⟨news, h1, h2, h3⟩ := ih kO
  obtain ⟨c, k1, k2⟩ := k n xs[n] (List.getElem?_eq_getElem kO)
  have hc := d.eT k1
  have hl := d.K_len hc
  refine ⟨news ++ c, by rw [List.length_append, h1, hl, Nat.succ_mul], fun j u hj => ?_, fun i x hi hx => ?_⟩
  ·rcases Nat.lt_or_ge j news.length with hjl | hjl
   ·rw [List.getElem?_append_left hjl] at hj
    exact h2 j u hj
   ·rw [List.getElem?_append_right hjl] at hj
    have := k2 _ u hj
    rw [show n * d.sz + (j - news.length) = j by rw [← h1]; omega] at this
    exact ⟨this, d.K_one hc u (List.mem_of_getElem? hj)⟩
  ·rcases Nat.lt_or_ge i n with hin | hin
   ·have hp : piece d.sz (news ++ c) i = piece d.sz news i := by
     have h4 : i * d.sz + d.sz ≤ news.length := by rw [h1, ← Nat.succ_mul]; exact Nat.mul_le_mul_right _ hin
     unfold piece
     rw [List.drop_append_of_le_length kO, List.take_append_of_le_length (by rw [List.length_drop]; omega)]
    rw [hp]
    exact h3 i x hin hx
   ·obtain rfl : i = n := by omega
    have hx2 : xs[i] = x := by rw [List.getElem?_eq_getElem kO] at hx; exact Option.some.inj hx
    have hp : piece d.sz (news ++ c) i = c := by
     unfold piece
     rw [← h1, List.drop_left, List.take_of_length_le kO]
    rw [hp, ← hx2]
    exact k1
end
section
variable {α : Type} {d : Kn α} {e : Nat} {F : Nat → Prop} {v : Value} {xs ys : List α} {P : Program} {ops : Array Oper} {rest : List Oper} {o : Oper} {a : Act} {Q : Exit → Act → World → Prop}
theorem R_appRow {W : World} (hgd : o.guard = none) (s x : Operand) (t : TypeId) (z : Value) (bytes : Nat)
 (ho : o.op = .call { callee := .builtin .append, args := #[s, x], argTypes := #[t, t] })
 (ht : P.underlying t = some (.slice e)) (hinfo : (P.info? e).map (fun i => (i.zero, i.size, i.bytes)) = some (some z, d.sz, bytes)) (hz : z.cells.size = d.sz) (hs0 : 0 < d.sz) (hb0 : 0 < bytes)
 (ad : Addr) (c : Nat) (Gs : Nat → Nat → Prop) (hs : a.eval s = v) (hx : a.eval x = .slice (some ad) ys.length c) (HR : R d e W F v xs)
 (HC : ∀ j p, ys[j]? = some p → ∃ c, d.M W (Gs j) p c ∧ ∀ i u, c[i]? = some u → W.cell? (ad.add (j * d.sz + i)) = some u) (hd : ∀ j b, Gs j b → ¬ F b) (hd2 : ∀ i j b, Gs i b → Gs j b → i = j) (hl : (xs.length + ys.length) * bytes ≤ 140737488355328)
 (h : ∀ v1 w1, R d e w1 (fun b => F b ∨ (∃ j, j < ys.length ∧ Gs j b) ∨ W.heap.size ≤ b) v1 (xs ++ ys) → Upd F W w1 → wpList P ops Q rest (a.put o.dst v1) w1) :
 wpList P ops Q (o :: rest) a W := by
 obtain ⟨i0, hi, hzz⟩ := Option.map_eq_some_iff.1 hinfo
 simp only [Prod.mk.injEq] at hzz
 obtain ⟨hz0, hz1, hz2⟩ := hzz
 have hlen : xs.length + ys.length ≤ 140737488355328 := Nat.le_trans (Nat.le_mul_of_pos_right _ hb0) hl
 obtain ⟨inner, Fs, k1, k2, k3, k4, k5⟩ := owns_of_R (R_lt HR)
 obtain ⟨news, n1, n2, n3⟩ := CM_news (d := d) HC ys.length (Nat.le_refl _)
 refine wpList_append_own_at W hgd s x t ho 0 e i0 z d.sz bytes ht hi hz0 hz1 hz2 hz hs0 v xs.length inner hs k1 ad ys.length c news hx n1 (fun j u hu => (n2 j u hu).1)
  (fun u hu => by obtain ⟨j, hj⟩ := List.mem_iff_getElem?.1 hu; exact (n2 j u hj).2) (by simp only [maxLen]; omega) hl (Nat.zero_le _) ?_
 intro v1 w1 hown hg _ hat
 have hU : Upd F W w1 := (Upd.of_grown hg).mono (fun b hb q => by
  have hb' : v.ownBlock = some b := q.symm
  exact (k2 b hb').1)
 have hne : ∀ b, b < W.heap.size → v.ownBlock ≠ some b → v1.ownBlock ≠ some b := by
  intro b hb hv
  rcases hat with hat | hat
  ·rw [hat]; exact hv
  ·rw [hat]
   intro q
   injection q with q
   omega
 have hfr : ∀ b, b < W.heap.size → v.ownBlock ≠ some b → w1.heap[b]? = W.heap[b]? := fun b hb hv => hg.block b hb (fun q => hv q.symm)
 refine h v1 w1 (R_of_owns (xs := xs ++ ys) (base := 0) (inner := inner ++ news) (by rw [List.length_append]; exact hown) (fun g hg' => ?_) (fun i b => if i < xs.length then Fs i b else i - xs.length < ys.length ∧ Gs (i - xs.length) b ∧ b < W.heap.size) (fun i b hb => ?_) (fun i j b hi' hj' => ?_) (fun i x' hx' => ?_)) hU
 ·rcases hat with hat | hat
  ·exact .inl (k2 g (hat ▸ hg')).1
  ·rw [hat] at hg'
   injection hg' with q
   exact .inr (.inr (by rw [← q]; exact Nat.le_refl _))
 ·by_cases c : i < xs.length
  ·simp only [c, if_true] at hb
   have := k3 i b hb
   exact ⟨.inl this.1.1, hne b this.1.2 this.2⟩
  ·simp only [c, if_false] at hb
   exact ⟨.inr (.inl ⟨_, hb.1, hb.2.1⟩), hne b hb.2.2 (fun q => hd _ b hb.2.1 (k2 b q).1)⟩
 ·by_cases c : i < xs.length <;> by_cases c' : j < xs.length
  ·simp only [c, c', if_true] at hi' hj'
   exact k4 i j b hi' hj'
  ·simp only [c, c', if_true, if_false] at hi' hj'
   exact absurd (k3 i b hi').1.1 (hd _ b hj'.2.1)
  ·simp only [c, c', if_true, if_false] at hi' hj'
   exact absurd (k3 j b hj').1.1 (hd _ b hi'.2.1)
  ·simp only [c, c', if_false] at hi' hj'
   have := hd2 _ _ b hi'.2.1 hj'.2.1
   omega
 ·by_cases c : i < xs.length
  ·simp only [c, if_true]
   rw [List.getElem?_append_left c] at hx'
   have hpc : piece d.sz (inner ++ news) i = piece d.sz inner i := by
    have h1 : i * d.sz + d.sz ≤ inner.length := by rw [k1.1, ← Nat.succ_mul]; exact Nat.mul_le_mul_right _ c
    unfold piece
    rw [List.drop_append_of_le_length kO, List.take_append_of_le_length (by rw [List.length_drop]; omega)]
   rw [hpc]
   exact d.gI (fun _ q => q.1) (d.gX (fun b hb => hfr b hb.2 (k3 i b hb.1).2) (d.M_lt (k5 i x' hx')))
  ·simp only [c, if_false]
   have hil := (List.getElem?_eq_some_iff.1 hx').1
   rw [List.getElem?_append_right kO] at hx'
   have hjl : i - xs.length < ys.length := (List.getElem?_eq_some_iff.1 hx').1
   have hpc : piece d.sz (inner ++ news) i = piece d.sz news (i - xs.length) := by
    have h1 : inner.length = xs.length * d.sz := k1.1
    have h2 : i * d.sz = inner.length + (i - xs.length) * d.sz := by rw [h1, ← Nat.add_mul]; congr 1; omega
    unfold piece
    rw [h2, List.drop_append, List.drop_eq_nil_of_le (Nat.le_add_right _ _), List.nil_append, Nat.add_sub_cancel_left]
   rw [hpc]
   exact d.gI (fun _ q => ⟨hjl, q.1, q.2⟩) (d.gX (fun b hb => hfr b hb.2 (fun q => hd _ b hb.1 (k2 b q).1)) (d.M_lt (n3 _ x' hjl hx')))
theorem R_appOne {W : World} (hgd : o.guard = none) (s x : Operand) (t : TypeId) (z : Value) (bytes : Nat)
 (ho : o.op = .call { callee := .builtin .append, args := #[s, x], argTypes := #[t, t] })
 (ht : P.underlying t = some (.slice e)) (hinfo : (P.info? e).map (fun i => (i.zero, i.size, i.bytes)) = some (some z, d.sz, bytes)) (hz : z.cells.size = d.sz) (hs0 : 0 < d.sz) (hb0 : 0 < bytes)
 (p : α) (cs : List Value) (Fp : Nat → Prop) (g : Nat) (hg : W.heap.size = g) (hs : a.eval s = v) (hx : a.eval x = .slice (some ⟨g, 0, none⟩) 1 1) (HR : R d e W F v xs) (hp : d.M W Fp p cs) (hd : ∀ b, Fp b → ¬ F b) (hl : (xs.length + 1) * bytes ≤ 140737488355328)
 (h : ∀ v1 w1, R d e w1 (fun b => F b ∨ Fp b ∨ W.heap.size ≤ b) v1 (xs ++ [p]) → Upd F W w1 → wpList P ops Q rest (a.put o.dst v1) w1) :
 wpList P ops Q (o :: rest) a (W.alloc (.cells cs.toArray e)) :=
 R_app hgd s x t z bytes ho ht hinfo hz hs0 hb0 p cs Fp hs (hg ▸ hx) HR hp hd hl h
theorem run_app (W : World) (t ty : TypeId) (z : Value) (bytes : Nat)
 (ht : P.underlying t = some (.slice e)) (hinfo : (P.info? e).map (fun i => (i.zero, i.size, i.bytes)) = some (some z, d.sz, bytes)) (hz : z.cells.size = d.sz) (hs0 : 0 < d.sz) (hb0 : 0 < bytes)
 (p : α) (cs : List Value) (Fp : Nat → Prop) (HR : R d e W F v xs) (hp : d.M W Fp p cs) (hd : ∀ b, Fp b → ¬ F b) (hl : (xs.length + 1) * bytes ≤ 140737488355328) :
 ∃ v1 w1, (Builtin.append_ #[t, t] ty #[v, .slice (some ⟨W.heap.size, 0, none⟩) 1 1]).run P (W.alloc (.cells cs.toArray e)) = .ok v1 w1 ∧ R d e w1 (fun b => F b ∨ Fp b ∨ W.heap.size ≤ b) v1 (xs ++ [p]) ∧ Upd F W w1 := by
 obtain ⟨i0, hi, hzz⟩ := Option.map_eq_some_iff.1 hinfo
 simp only [Prod.mk.injEq] at hzz
 obtain ⟨hz0, hz1, hz2⟩ := hzz
 have hlen : xs.length + 1 ≤ 140737488355328 := Nat.le_trans (Nat.le_mul_of_pos_right _ hb0) hl
 obtain ⟨inner, Fs, k1, k2, k3, k4, k5⟩ := owns_of_R (R_lt HR)
 have hcs := d.eT hp
 obtain ⟨v1, w1, hr, hown, hg, _, hat⟩ := run_append_own_at (P := P) (W.alloc (.cells cs.toArray e)) 0 t ty e i0 z d.sz bytes ht hi hz0 hz1 hz2 hz hs0 v xs.length inner (k1.alloc _) ⟨W.heap.size, 0, none⟩ 1 1 cs (by rw [d.K_len hcs]; simp)
  (by simpa using World.news_of_block (cs := cs.toArray) (t := e) (fr := (0, 0)) (heap_alloc_new W (.cells cs.toArray e))) (d.K_one hcs) (by simp only [maxLen]; omega) hl (Nat.zero_le _)
 have hU : Upd F W w1 := ((Upd.refl F W).alloc _).trans (Upd.of_grown hg) (fun _ _ q => q) (fun b hb q => by
  have hb' : v.ownBlock = some b := q.symm
  exact (k2 b hb').1)
 have hne : ∀ b, b < W.heap.size → v.ownBlock ≠ some b → v1.ownBlock ≠ some b := by
  intro b hb hv
  rcases hat with hat | hat
  ·rw [hat]; exact hv
  ·rw [hat]
   intro q
   injection q with q
   have : (W.alloc (.cells cs.toArray e)).heap.size = W.heap.size + 1 := by simp
   omega
 have hfr : ∀ b, b < W.heap.size → v.ownBlock ≠ some b → w1.heap[b]? = W.heap[b]? := by
  intro b hb hv
  rw [hg.block b (by simp; omega) (fun q => hv q.symm)]
  exact heap_alloc_old W _ hb
 refine ⟨v1, w1, hr, R_of_owns (xs := xs ++ [p]) (base := 0) (inner := inner ++ cs) (by simpa using hown) (fun g hg' => ?_) (fun i b => if i < xs.length then Fs i b else i = xs.length ∧ Fp b ∧ b < W.heap.size) (fun i b hb => ?_) (fun i j b hi' hj' => ?_) (fun i x' hx' => ?_), hU⟩
 ·rcases hat with hat | hat
  ·exact .inl (k2 g (hat ▸ hg')).1
  ·rw [hat] at hg'
   injection hg' with q
   exact .inr (.inr (by rw [← q]; simp))
 ·by_cases c : i < xs.length
  ·simp only [c, if_true] at hb
   have := k3 i b hb
   exact ⟨.inl this.1.1, hne b this.1.2 this.2⟩
  ·simp only [c, if_false] at hb
   exact ⟨.inr (.inl hb.2.1), hne b hb.2.2 (fun q => hd b hb.2.1 (k2 b q).1)⟩
 ·by_cases c : i < xs.length <;> by_cases c' : j < xs.length
  ·simp only [c, c', if_true] at hi' hj'
   exact k4 i j b hi' hj'
  ·simp only [c, c', if_true, if_false] at hi' hj'
   exact absurd (k3 i b hi').1.1 (hd b hj'.2.1)
  ·simp only [c, c', if_true, if_false] at hi' hj'
   exact absurd (k3 j b hj').1.1 (hd b hi'.2.1)
  ·simp only [c, c', if_false] at hi' hj'
   omega
 ·by_cases c : i < xs.length
  ·simp only [c, if_true]
   rw [List.getElem?_append_left c] at hx'
   have hpc : piece d.sz (inner ++ cs) i = piece d.sz inner i := by
    have h1 : i * d.sz + d.sz ≤ inner.length := by rw [k1.1, ← Nat.succ_mul]; exact Nat.mul_le_mul_right _ c
    unfold piece
    rw [List.drop_append_of_le_length kO, List.take_append_of_le_length (by rw [List.length_drop]; omega)]
   rw [hpc]
   exact d.gI (fun _ q => q.1) (d.gX (fun b hb => hfr b hb.2 (k3 i b hb.1).2) (d.M_lt (k5 i x' hx')))
  ·simp only [c, if_false]
   have hil := (List.getElem?_eq_some_iff.1 hx').1
   have hi' : i = xs.length := by simp at hil; omega
   subst hi'
   have hx2 : p = x' := by simpa using hx'
   subst hx2
   have hpc : piece d.sz (inner ++ cs) xs.length = cs := by
    unfold piece
    rw [← k1.1, List.drop_left, List.take_of_length_le (by rw [d.K_len hcs]; exact Nat.le_refl _)]
   rw [hpc]
   exact d.gI (fun _ q => ⟨rfl, q.1, q.2⟩) (d.gX (fun b hb => hfr b hb.2 (fun q => hd b hb.1 (k2 b q).1)) (d.M_lt hp))
theorem R_appStep {K : Act → World → Prop} {E : Prop} {W : World} (hgd : o.guard = none) (s x : Operand) (t : TypeId) (z : Value) (bytes : Nat)
 (ho : o.op = .call { callee := .builtin .append, args := #[s, x], argTypes := #[t, t] })
 (ht : P.underlying t = some (.slice e)) (hinfo : (P.info? e).map (fun i => (i.zero, i.size, i.bytes)) = some (some z, d.sz, bytes)) (hz : z.cells.size = d.sz) (hs0 : 0 < d.sz) (hb0 : 0 < bytes)
 (p : α) (cs : List Value) (Fp : Nat → Prop) (g : Nat) (hg : W.heap.size = g) (hs : a.eval s = v) (hx : a.eval x = .slice (some ⟨g, 0, none⟩) 1 1) (HR : R d e W F v xs) (hp : d.M W Fp p cs) (hd : ∀ b, Fp b → ¬ F b) (hl : (xs.length + 1) * bytes ≤ 140737488355328)
 (hK : ∀ v1 w1, R d e w1 (fun b => F b ∨ Fp b ∨ W.heap.size ≤ b) v1 (xs ++ [p]) → Upd F W w1 → K (a.put o.dst v1) w1) :
 if Region.wanted o (yielded ops a.tmps) = true then Oper.wp P o a (W.alloc (.cells cs.toArray e)) K Q else E := by
 have hw : Region.wanted o (yielded ops a.tmps) = true := by simp [Region.wanted, hgd]
 rw [if_pos hw]
 obtain ⟨v1, w1, hrun, h1, h2⟩ := run_app (P := P) W t o.type z bytes ht hinfo hz hs0 hb0 p cs Fp HR hp hd hl
 subst hg
 unfold Oper.wp
 simp [execOp, ho, resolve, invoke, builtin, hs, hx, hrun, Result.andThen]
 exact hK v1 w1 h1 h2
theorem R_appNone {W : World} (hgd : o.guard = none) (s x : Operand) (t : TypeId) (z : Value) (bytes : Nat)
 (ho : o.op = .call { callee := .builtin .append, args := #[s, x], argTypes := #[t, t] })
 (ht : P.underlying t = some (.slice e)) (hinfo : (P.info? e).map (fun i => (i.zero, i.size, i.bytes)) = some (some z, d.sz, bytes))
 (c : Nat) (hs : a.eval s = v) (hx : a.eval x = .slice none 0 c) (HR : R d e W F v xs) (h : wpList P ops Q rest (a.put o.dst v) W) :
 wpList P ops Q (o :: rest) a W := by
 obtain ⟨i0, hi, hzz⟩ := Option.map_eq_some_iff.1 hinfo
 refine wpList_plain hgd fun K hK => ?_
 have hrun : (Builtin.append_ #[t, t] o.type #[v, .slice none 0 c]).run P W = .ok v W := by
  rcases HR with ⟨rfl, rfl⟩ | ⟨g, cap, cur, Fs, rfl, _, _, hnc, _⟩
  ·simp [Builtin.append_, run_underlying ht, sizeOf, typeInfo, hi, Builtin.lenOf, Builtin.firstCells]
  ·simp [Builtin.append_, run_underlying ht, sizeOf, typeInfo, hi, Builtin.lenOf, Builtin.firstCells, hnc, storeCells]
 unfold Oper.wp
 simp [execOp, ho, resolve, invoke, builtin, hs, hx, hrun, Result.andThen]
 exact hK _ _ h
theorem R_appAny {W : World} (hgd : o.guard = none) (s x : Operand) (t : TypeId) (z : Value) (bytes : Nat)
 (ho : o.op = .call { callee := .builtin .append, args := #[s, x], argTypes := #[t, t] })
 (ht : P.underlying t = some (.slice e)) (hinfo : (P.info? e).map (fun i => (i.zero, i.size, i.bytes)) = some (some z, d.sz, bytes)) (hz : z.cells.size = d.sz) (hs0 : 0 < d.sz) (hb0 : 0 < bytes)
 (A : Option Addr) (c : Nat) (Gs : Nat → Nat → Prop) (hs : a.eval s = v) (hx : a.eval x = .slice A ys.length c) (HR : R d e W F v xs)
 (HC : CM d W A ys Gs) (hd : ∀ j b, Gs j b → ¬ F b) (hd2 : ∀ i j b, Gs i b → Gs j b → i = j) (hl : (xs.length + ys.length) * bytes ≤ 140737488355328)
 (h : ∀ v1 w1, R d e w1 (fun b => F b ∨ (∃ j, j < ys.length ∧ Gs j b) ∨ W.heap.size ≤ b) v1 (xs ++ ys) → Upd F W w1 → wpList P ops Q rest (a.put o.dst v1) w1) :
 wpList P ops Q (o :: rest) a W := by
 rcases A with _ | ad
 ·have h0 : ys = [] := by
   cases ys with
   | nil => rfl
   | cons x l => obtain ⟨ad, q, _⟩ := HC.2 (by simp); cases q
  subst h0
  exact R_appNone hgd s x t z bytes ho ht hinfo c hs hx HR (h _ _ (by rw [List.append_nil]; exact iD (fun _ q => .inl q) HR) (Upd.refl _ _))
 ·refine R_appRow hgd s x t z bytes ho ht hinfo hz hs0 hb0 ad c Gs hs hx HR (fun j p hj => ?_) hd hd2 hl h
  obtain ⟨ad', q, k⟩ := HC.2 (Nat.lt_of_le_of_lt (Nat.zero_le _) (List.getElem?_eq_some_iff.1 hj).1)
  cases q
  exact k j p hj
end
section
variable {α β : Type} {d : Kn α} {e : Nat}
theorem R_empty (W : World) : R d e (W.alloc (.cells #[] e)) (New W) (.slice (some ⟨W.heap.size, 0, none⟩) 0 0) [] :=
 .inr ⟨W.heap.size, 0, #[], fun _ _ => False, rfl, heap_alloc_new W _, Nat.le_refl _, Nat.le_refl _, by omega, by simp, fun _ _ h => h.elim, fun _ _ _ h => h.elim, fun i x hx => by simp at hx⟩
def Iv (a b : Nat) : Nat → Prop := fun x => a ≤ x ∧ x < b
theorem R_emptyAt (W : World) (g : Nat) (hg : W.heap.size = g) : R d e (W.alloc (.cells #[] e)) (New W) (.slice (some ⟨g, 0, none⟩) 0 0) [] := hg ▸ R_empty W
theorem kW (enc : α → Value) (h1 : ∀ x, (enc x).oneCell' = true) : Flat (Kn.scalar enc h1) := fun _ _ _ _ _ h => h
theorem flat_pair {a : Kn α} {b : Kn β} (ha : Flat a) (hb : Flat b) : Flat (Kn.pair a b) := by
 rintro w w' F x cs ⟨c0, c1, rfl, h0, h1⟩
 exact ⟨c0, c1, No, No, rfl, ha _ _ _ _ _ h0, hb _ _ _ _ _ h1, fun _ h => h.elim, fun _ h => h.elim, fun _ h => h.elim⟩
theorem flat_iso {d : Kn α} (f : β → α) (h : Flat d) : Flat (Kn.iso d f) := fun w w' F x cs k => h w w' F (f x) cs k
theorem CM_upd {A : Option Addr} {xs : List α} {Fs : Nat → Nat → Prop} {w w' : World} (h : Upd No w w') (k : CM d w A xs Fs) : CM d w' A xs Fs := by
 refine ⟨k.1, fun hp => ?_⟩
 obtain ⟨ad, rfl, q⟩ := k.2 hp
 refine ⟨ad, rfl, fun j p hj => ?_⟩
 obtain ⟨c, k1, k2⟩ := q j p hj
 exact ⟨c, M_upd h (fun _ _ q => q) k1, fun i u hu => h.read (k2 i u hu)⟩
end
end Go.Proofs.YtfnedoiplblldaaGreatSep
namespace Go.Proofs.YtfnedoiplblldaaGreatSep
theorem dL {a b : Int} (h : a = b) : Ending.returned (.int .i64 a) = .returned (.int .i64 b) := by rw [h]
def mkS {α : Type} (m : Int → α → α) (c : α → Int) : Int → List α → List α
 | _, [] => []
 | k, x :: l => m k x :: mkS m c (k + c x) l
def aK {α : Type} (c : α → Int) : List α → Int
 | [] => 0
 | x :: l => c x + aK c l
def sumS {α : Type} (s : α → Nat) : List α → Nat
 | [] => 0
 | x :: l => s x + sumS s l
def dP {α : Type} (s : α → Nat) (l : List α) : Nat := l.length + sumS s l
section
variable {α : Type} (m : Int → α → α) (c : α → Int) (s : α → Nat)
theorem aM : ∀ (l : List α) (k : Int), (mkS m c k l).length = l.length
 | [], _ => rfl
 | _ :: l, k => by simp [mkS, aM l]
theorem eO : ∀ (l : List α) (k : Int) (i : Nat) (h : i < l.length), (mkS m c k l)[i]'(by rw [aM]; exact h) = m (k + aK c (l.take i)) l[i]
 | [], _, i, h => by simp at h
 | x :: l, k, 0, h => by simp [mkS, aK]
 | x :: l, k, i + 1, h => by
  simp only [mkS, List.getElem_cons_succ, List.take_succ_cons, aK]
  rw [eO l (k + c x) i (by simpa using h)]
  congr 1
  omega
theorem cB : ∀ (l : List α) (i : Nat) (h : i < l.length), aK c (l.take (i + 1)) = aK c (l.take i) + c l[i]
 | [], i, h => by simp at h
 | x :: l, 0, h => by simp [aK]
 | x :: l, i + 1, h => by
  simp only [List.take_succ_cons, aK, List.getElem_cons_succ]
  rw [cB l i (by simpa using h)]
  omega
theorem bL (hc : ∀ x, 0 ≤ c x) : ∀ (l : List α) (i : Nat), 0 ≤ aK c (l.take i) ∧ aK c (l.take i) ≤ aK c l
 | [], i => by simp [aK]
 | x :: l, 0 => by
  have := bL hc l l.length
  rw [List.take_length] at this
  have := hc x
  simp [aK]
  omega
 | x :: l, i + 1 => by
  have := bL hc l i
  have := hc x
  simp only [List.take_succ_cons, aK]
  omega
theorem bN (hc : ∀ x, 0 ≤ c x) (l : List α) : 0 ≤ aK c l := by
 have := bL c hc l l.length
 rw [List.take_length] at this
 exact this.1
theorem dM (h : ∀ x, c x ≤ 20 + 20 * (s x : Int)) : ∀ l : List α, aK c l ≤ 20 * (dP s l : Int)
 | [] => by simp [aK, dP, sumS]
 | x :: l => by
  have h1 := h x
  have h2 := dM h l
  simp only [aK, dP, sumS, List.length_cons] at *
  omega
theorem kJ : ∀ (l : List α) (i : Nat) (h : i < l.length), sumS s (l.take (i + 1)) = sumS s (l.take i) + s l[i]
 | [], i, h => by simp at h
 | x :: l, 0, h => by simp [sumS]
 | x :: l, i + 1, h => by
  simp only [List.take_succ_cons, sumS, List.getElem_cons_succ]
  rw [kJ l i (by simpa using h)]
  omega
theorem sumS_le : ∀ (l : List α) (i : Nat), sumS s (l.take i) ≤ sumS s l
 | [], i => by simp [sumS]
 | x :: l, 0 => by simp [sumS]
 | x :: l, i + 1 => by
  have := sumS_le l i
  simp only [List.take_succ_cons, sumS]
  omega
theorem sumS_at (l : List α) (i : Nat) (h : i < l.length) : s l[i] ≤ sumS s l := by
 have h1 := kJ s l i h
 have h2 := sumS_le s l (i + 1)
 omega
theorem sumS_step (l : List α) (i : Nat) (h : i < l.length) : sumS s (l.take i) + s l[i] ≤ sumS s l := by
 have h1 := kJ s l i h
 have h2 := sumS_le s l (i + 1)
 omega
end
def fidx {α : Type} (p : α → Bool) : Int → List α → Int
 | _, [] => -1
 | k, x :: l => if p x then k else fidx p (k + 1) l
theorem fidx_yes {α : Type} (p : α → Bool) (l : List α) (i : Nat) (h : i < l.length) (hp : p l[i] = true) : fidx p i (l.drop i) = i := by
 rw [List.drop_eq_getElem_cons h]; simp [fidx, hp]
theorem fidx_no {α : Type} (p : α → Bool) (l : List α) (i : Nat) (h : i < l.length) (hp : p l[i] = false) : fidx p i (l.drop i) = fidx p ((i + 1 : Nat) : Int) (l.drop (i + 1)) := by
 rw [List.drop_eq_getElem_cons h]; simp [fidx, hp]
theorem fidx_end {α : Type} (p : α → Bool) (l : List α) (i : Nat) (h : l.length ≤ i) (k : Int) : fidx p k (l.drop i) = -1 := by
 rw [List.drop_eq_nil_of_le h]; rfl
theorem fidx_range {α : Type} (p : α → Bool) : ∀ (l : List α) (k : Int), fidx p k l = -1 ∨ (k ≤ fidx p k l ∧ fidx p k l < k + l.length)
 | [], k => .inl rfl
 | x :: l, k => by
  by_cases c : p x = true
  ·right; simp [fidx, c]; omega
  ·rcases fidx_range p l (k + 1) with h | h
   ·left; simp [fidx, c, h]
   ·right; simp [fidx, c]; omega
end Go.Proofs.YtfnedoiplblldaaGreatSep
namespace Go.Proofs.YtfnedoiplblldaaGreatSep
open Go.ChangeShapes Go.WideShapes Go.RowKit
def Blk (w : World) (g t : Nat) (cs : Array Value) : Prop := w.heap[g]? = some (.cells cs t (0, 0))
section
variable {w w' : World} {g g' t : Nat} {cs : Array Value} {F : Nat → Prop}
theorem Blk.cell (h : Blk w g t cs) (o : Nat) : w.cell? ⟨g, o, none⟩ = cs[o]? := by rw [cell_of_row w g _ cs t (0, 0) h]
theorem Blk.at (h : Blk w g t cs) (o : Nat) {v : Value} (hv : cs[o]? = some v) : w.cell? ⟨g, o, none⟩ = some v := (h.cell o).trans hv
theorem Blk.free (h : Blk w g t cs) (o : Nat) : w.frozen? ⟨g, o, none⟩ = false := by unfold Blk at h; simp [World.frozen?, h]
theorem Blk.lt (h : Blk w g t cs) : g < w.heap.size := heap_lt h
theorem Blk.new (w : World) (t : Nat) (cs : Array Value) : Blk (w.alloc (.cells cs t)) w.heap.size t cs := heap_alloc_new w (.cells cs t)
theorem Blk.newAt (hg : w.heap.size = g) : Blk (w.alloc (.cells cs t)) g t cs := hg ▸ Blk.new w t cs
theorem Blk.alloc (h : Blk w g t cs) (o : Obj) : Blk (w.alloc o) g t cs := (heap_alloc_old w o (Blk.lt h)).trans h
theorem Blk.drew (h : Blk w g t cs) : Blk w.drew g t cs := h
theorem Blk.drewN (h : Blk w g t cs) (n : Nat) : Blk (w.drewN n) g t cs := h
theorem Blk.same (h : Blk w g t cs) (i : Nat) (u : Value) : Blk (w.setCell ⟨g, i, none⟩ u) g t (cs.setIfInBounds i u) := blk_set h i u
theorem Blk.upd (h : Blk w g t cs) (hu : Upd F w w') (hF : ¬ F g) : Blk w' g t cs := (hu.block g (Blk.lt h) hF).trans h
theorem Blk.no (h : Blk w g t cs) (hu : Upd No w w') : Blk w' g t cs := h.upd hu (fun q => q)
end
section
variable {α : Type} {d : Kn α} {e : Nat} {F : Nat → Prop} {v : Value} {xs ys : List α} {P : Program} {ops : Array Oper} {rest : List Oper} {o : Oper} {a : Act} {Q : Exit → Act → World → Prop}
theorem run_appRow (W : World) (t ty : TypeId) (z : Value) (bytes : Nat)
 (ht : P.underlying t = some (.slice e)) (hinfo : (P.info? e).map (fun i => (i.zero, i.size, i.bytes)) = some (some z, d.sz, bytes)) (hz : z.cells.size = d.sz) (hs0 : 0 < d.sz) (hb0 : 0 < bytes)
 (ad : Addr) (c : Nat) (Gs : Nat → Nat → Prop) (HR : R d e W F v xs)
 (HC : ∀ j p, ys[j]? = some p → ∃ c, d.M W (Gs j) p c ∧ ∀ i u, c[i]? = some u → W.cell? (ad.add (j * d.sz + i)) = some u) (hd : ∀ j b, Gs j b → ¬ F b) (hd2 : ∀ i j b, Gs i b → Gs j b → i = j) (hl : (xs.length + ys.length) * bytes ≤ 140737488355328) :
 ∃ v1 w1, (Builtin.append_ #[t, t] ty #[v, .slice (some ad) ys.length c]).run P W = .ok v1 w1 ∧ R d e w1 (fun b => F b ∨ (∃ j, j < ys.length ∧ Gs j b) ∨ W.heap.size ≤ b) v1 (xs ++ ys) ∧ Upd F W w1 := by
 obtain ⟨i0, hi, hzz⟩ := Option.map_eq_some_iff.1 hinfo
 simp only [Prod.mk.injEq] at hzz
 obtain ⟨hz0, hz1, hz2⟩ := hzz
 have hlen : xs.length + ys.length ≤ 140737488355328 := Nat.le_trans (Nat.le_mul_of_pos_right _ hb0) hl
 obtain ⟨inner, Fs, k1, k2, k3, k4, k5⟩ := owns_of_R (R_lt HR)
 obtain ⟨news, n1, n2, n3⟩ := CM_news (d := d) HC ys.length (Nat.le_refl _)
 obtain ⟨v1, w1, hr, hown, hg, _, hat⟩ := run_append_own_at (P := P) (w := W) 0 t ty e i0 z d.sz bytes ht hi hz0 hz1 hz2 hz hs0 v xs.length inner k1 ad ys.length c news n1 (fun j u hu => (n2 j u hu).1)
  (fun u hu => by obtain ⟨j, hj⟩ := List.mem_iff_getElem?.1 hu; exact (n2 j u hj).2) (by simp only [maxLen]; omega) hl (Nat.zero_le _)
 have hU : Upd F W w1 := (Upd.of_grown hg).mono (fun b hb q => by
  have hb' : v.ownBlock = some b := q.symm
  exact (k2 b hb').1)
 have hne : ∀ b, b < W.heap.size → v.ownBlock ≠ some b → v1.ownBlock ≠ some b := by
  intro b hb hv
  rcases hat with hat | hat
  ·rw [hat]; exact hv
  ·rw [hat]
   intro q
   injection q with q
   omega
 have hfr : ∀ b, b < W.heap.size → v.ownBlock ≠ some b → w1.heap[b]? = W.heap[b]? := fun b hb hv => hg.block b hb (fun q => hv q.symm)
 refine ⟨v1, w1, hr, R_of_owns (xs := xs ++ ys) (base := 0) (inner := inner ++ news) (by rw [List.length_append]; exact hown) (fun g hg' => ?_) (fun i b => if i < xs.length then Fs i b else i - xs.length < ys.length ∧ Gs (i - xs.length) b ∧ b < W.heap.size) (fun i b hb => ?_) (fun i j b hi' hj' => ?_) (fun i x' hx' => ?_), hU⟩
 ·rcases hat with hat | hat
  ·exact .inl (k2 g (hat ▸ hg')).1
  ·rw [hat] at hg'
   injection hg' with q
   exact .inr (.inr (by rw [← q]; exact Nat.le_refl _))
 ·by_cases c : i < xs.length
  ·simp only [c, if_true] at hb
   have := k3 i b hb
   exact ⟨.inl this.1.1, hne b this.1.2 this.2⟩
  ·simp only [c, if_false] at hb
   exact ⟨.inr (.inl ⟨_, hb.1, hb.2.1⟩), hne b hb.2.2 (fun q => hd _ b hb.2.1 (k2 b q).1)⟩
 ·by_cases c : i < xs.length <;> by_cases c' : j < xs.length
  ·simp only [c, c', if_true] at hi' hj'
   exact k4 i j b hi' hj'
  ·simp only [c, c', if_true, if_false] at hi' hj'
   exact absurd (k3 i b hi').1.1 (hd _ b hj'.2.1)
  ·simp only [c, c', if_true, if_false] at hi' hj'
   exact absurd (k3 j b hj').1.1 (hd _ b hi'.2.1)
  ·simp only [c, c', if_false] at hi' hj'
   have := hd2 _ _ b hi'.2.1 hj'.2.1
   omega
 ·by_cases c : i < xs.length
  ·simp only [c, if_true]
   rw [List.getElem?_append_left c] at hx'
   have hpc : piece d.sz (inner ++ news) i = piece d.sz inner i := by
    have h1 : i * d.sz + d.sz ≤ inner.length := by rw [k1.1, ← Nat.succ_mul]; exact Nat.mul_le_mul_right _ c
    unfold piece
    rw [List.drop_append_of_le_length kO, List.take_append_of_le_length (by rw [List.length_drop]; omega)]
   rw [hpc]
   exact d.gI (fun _ q => q.1) (d.gX (fun b hb => hfr b hb.2 (k3 i b hb.1).2) (d.M_lt (k5 i x' hx')))
  ·simp only [c, if_false]
   have hil := (List.getElem?_eq_some_iff.1 hx').1
   rw [List.getElem?_append_right kO] at hx'
   have hjl : i - xs.length < ys.length := (List.getElem?_eq_some_iff.1 hx').1
   have hpc : piece d.sz (inner ++ news) i = piece d.sz news (i - xs.length) := by
    have h1 : inner.length = xs.length * d.sz := k1.1
    have h2 : i * d.sz = inner.length + (i - xs.length) * d.sz := by rw [h1, ← Nat.add_mul]; congr 1; omega
    unfold piece
    rw [h2, List.drop_append, List.drop_eq_nil_of_le (Nat.le_add_right _ _), List.nil_append, Nat.add_sub_cancel_left]
   rw [hpc]
   exact d.gI (fun _ q => ⟨hjl, q.1, q.2⟩) (d.gX (fun b hb => hfr b hb.2 (fun q => hd _ b hb.1 (k2 b q).1)) (d.M_lt (n3 _ x' hjl hx')))
end
section
variable {α : Type} {d : Kn α} {e : Nat} {w w' : World} {F : Nat → Prop} {v : Value} {xs : List α} {x : α} {cs : List Value}
theorem R_no (h : Upd No w w') (k : R d e w F v xs) : R d e w' F v xs := bH h (fun _ _ q => q) k
end
theorem add_add (ad : Addr) (m k : Nat) (hm : 0 < m) : (ad.add m).add k = ad.add (m + k) := by
 unfold Addr.add
 by_cases hk : k = 0
 ·subst hk; simp
 ·have h1 : m ≠ 0 := by omega
  have h2 : m + k ≠ 0 := by omega
  simp [hk, h1, Nat.add_assoc]
section
variable {P : Program} {c : Code} {Q : Exit → Act → World → Prop} {a : Act} {w : World} {t : Nat} {cs : Array Value}
theorem gen_box (k : ∀ w', Blk w' w.heap.size t cs → Upd No w w' → Code.wp P c Q a w') : Code.wp P c Q a (w.alloc (.cells cs t)) := k _ (Blk.new _ _ _) ((Upd.refl _ _).alloc _)
end
section
variable {α : Type} {d : Kn α} {e : Nat} {F : Nat → Prop} {v : Value} {xs ys : List α} {P : Program} {ops : Array Oper} {rest : List Oper} {o : Oper} {a : Act} {Q : Exit → Act → World → Prop}
theorem run_appAny (W : World) (t ty : TypeId) (z : Value) (bytes : Nat)
 (ht : P.underlying t = some (.slice e)) (hinfo : (P.info? e).map (fun i => (i.zero, i.size, i.bytes)) = some (some z, d.sz, bytes)) (hz : z.cells.size = d.sz) (hs0 : 0 < d.sz) (hb0 : 0 < bytes)
 (A : Option Addr) (c : Nat) (Gs : Nat → Nat → Prop) (HR : R d e W F v xs) (HC : CM d W A ys Gs) (hd : ∀ j b, Gs j b → ¬ F b) (hd2 : ∀ i j b, Gs i b → Gs j b → i = j) (hl : (xs.length + ys.length) * bytes ≤ 140737488355328) :
 ∃ v1 w1, (Builtin.append_ #[t, t] ty #[v, .slice A ys.length c]).run P W = .ok v1 w1 ∧ R d e w1 (fun b => F b ∨ (∃ j, j < ys.length ∧ Gs j b) ∨ W.heap.size ≤ b) v1 (xs ++ ys) ∧ Upd F W w1 := by
 rcases A with _ | ad
 ·have h0 : ys = [] := by
   cases ys with
   | nil => rfl
   | cons x l => obtain ⟨ad, q, _⟩ := HC.2 (by simp); cases q
  subst h0
  obtain ⟨i0, hi, hzz⟩ := Option.map_eq_some_iff.1 hinfo
  refine ⟨v, W, ?_, by rw [List.append_nil]; exact iD (fun _ q => .inl q) HR, Upd.refl _ _⟩
  rcases HR with ⟨rfl, rfl⟩ | ⟨g, cap, cur, Fs, rfl, _, _, hnc, _⟩
  ·simp [Builtin.append_, run_underlying ht, sizeOf, typeInfo, hi, Builtin.lenOf, Builtin.firstCells]
  ·simp [Builtin.append_, run_underlying ht, sizeOf, typeInfo, hi, Builtin.lenOf, Builtin.firstCells, hnc, storeCells]
 ·refine run_appRow W t ty z bytes ht hinfo hz hs0 hb0 ad c Gs HR (fun j p hj => ?_) hd hd2 hl
  obtain ⟨ad', q, k⟩ := HC.2 (Nat.lt_of_le_of_lt (Nat.zero_le _) (List.getElem?_eq_some_iff.1 hj).1)
  cases q
  exact k j p hj
theorem R_appAnyStep {K : Act → World → Prop} {E : Prop} {W : World} (hgd : o.guard = none) (s x : Operand) (t : TypeId) (z : Value) (bytes : Nat)
 (ho : o.op = .call { callee := .builtin .append, args := #[s, x], argTypes := #[t, t] })
 (ht : P.underlying t = some (.slice e)) (hinfo : (P.info? e).map (fun i => (i.zero, i.size, i.bytes)) = some (some z, d.sz, bytes)) (hz : z.cells.size = d.sz) (hs0 : 0 < d.sz) (hb0 : 0 < bytes)
 (A : Option Addr) (c : Nat) (Gs : Nat → Nat → Prop) (hs : a.eval s = v) (hx : a.eval x = .slice A ys.length c) (HR : R d e W F v xs)
 (HC : CM d W A ys Gs) (hd : ∀ j b, Gs j b → ¬ F b) (hd2 : ∀ i j b, Gs i b → Gs j b → i = j) (hl : (xs.length + ys.length) * bytes ≤ 140737488355328)
 (hK : ∀ v1 w1, R d e w1 (fun b => F b ∨ (∃ j, j < ys.length ∧ Gs j b) ∨ W.heap.size ≤ b) v1 (xs ++ ys) → Upd F W w1 → K (a.put o.dst v1) w1) :
 if Region.wanted o (yielded ops a.tmps) = true then Oper.wp P o a W K Q else E := by
 have hw : Region.wanted o (yielded ops a.tmps) = true := by simp [Region.wanted, hgd]
 rw [if_pos hw]
 obtain ⟨v1, w1, hrun, h1, h2⟩ := run_appAny (P := P) W t o.type z bytes ht hinfo hz hs0 hb0 A c Gs HR HC hd hd2 hl
 unfold Oper.wp
 simp [execOp, ho, resolve, invoke, builtin, hs, hx, hrun, Result.andThen]
 exact hK v1 w1 h1 h2
end
theorem R_drew {α : Type} {d : Kn α} {e : Nat} {w : World} {F : Nat → Prop} {v : Value} {xs : List α} (h : R d e w F v xs) : R d e w.drew F v xs := bH (Upd.drew (Upd.refl No w)) (fun _ _ q => q) h
theorem Blk.put {w : World} {g t : Nat} {cs cs' : Array Value} (h : Blk w g t cs) (i : Nat) (u : Value) (hc : cs.setIfInBounds i u = cs') : Blk (w.setCell ⟨g, i, none⟩ u) g t cs' := hc ▸ h.same i u
theorem R_emptyB {α : Type} {d : Kn α} {e : Nat} {w : World} {g : Nat} (h : Blk w g e #[]) : R d e w (fun b => b = g) (.slice (some ⟨g, 0, none⟩) 0 0) [] :=
 .inr ⟨g, 0, #[], fun _ _ => False, rfl, h, rfl, Nat.le_refl _, by omega, by simp, fun _ _ h => h.elim, fun _ _ _ h => h.elim, fun i x hx => by simp at hx⟩
structure HP where
 p : World → (Nat → Prop) → Prop
 same : ∀ {W W' : World} {F : Nat → Prop}, (∀ b, F b → W'.heap[b]? = W.heap[b]?) → p W F → p W' F
 lt : ∀ {W : World} {F : Nat → Prop}, p W F → p W (fun b => F b ∧ b < W.heap.size)
 mono : ∀ {W : World} {F F' : Nat → Prop}, (∀ b, F b → F' b) → p W F → p W F'
def hR {α : Type} (d : Kn α) (e : Nat) (v : Value) (xs : List α) : HP := ⟨fun W F => R d e W F v xs, fun h => R_same h, fun h => R_lt h, fun h => iD h⟩
def hM {α : Type} (d : Kn α) (x : α) (cs : List Value) : HP := ⟨fun W F => d.M W F x cs, fun h => d.gX h, fun h => d.M_lt h, fun h => d.gI h⟩
def hB (g t : Nat) (cs : Array Value) : HP := ⟨fun W F => F g ∧ Blk W g t cs, fun h k => ⟨k.1, (h g k.1).trans k.2⟩, fun k => ⟨⟨k.1, Blk.lt k.2⟩, k.2⟩, fun h k => ⟨h g k.1, k.2⟩⟩
def Star (l : List HP) (W : World) (F : Nat → Prop) : Prop :=
 ∃ Fs : Nat → Nat → Prop, (∀ i b, Fs i b → F b) ∧ (∀ i j b, Fs i b → Fs j b → i = j) ∧ ∀ (i : Nat) (q : HP), l[i]? = some q → q.p W (Fs i)
section
variable {l l' l0 : List HP} {W W' w : World} {F F' F0 : Nat → Prop} {q : HP}
theorem Star.nil : Star [] W F := ⟨fun _ _ => False, fun _ _ h => h.elim, fun _ _ _ h => h.elim, fun i q h => by simp at h⟩
theorem Star.mono (h : Star l W F) (k : ∀ b, F b → F' b) : Star l W F' := by
 obtain ⟨Fs, h1, h2, h3⟩ := h
 exact ⟨Fs, fun i b hb => k b (h1 i b hb), h2, h3⟩
theorem Star.lt (h : Star l W F) : Star l W (fun b => F b ∧ b < W.heap.size) := by
 obtain ⟨Fs, h1, h2, h3⟩ := h
 exact ⟨fun i b => Fs i b ∧ b < W.heap.size, fun i b hb => ⟨h1 i b hb.1, hb.2⟩, fun i j b hi hj => h2 i j b hi.1 hj.1, fun i q hq => q.lt (h3 i q hq)⟩
theorem Star.same (h : Star l W F) (k : ∀ b, F b → W'.heap[b]? = W.heap[b]?) : Star l W' F := by
 obtain ⟨Fs, h1, h2, h3⟩ := h
 exact ⟨Fs, h1, h2, fun i q hq => q.same (fun b hb => k b (h1 i b hb)) (h3 i q hq)⟩
theorem Star.one (h : q.p W F) : Star [q] W F := by
 refine ⟨fun i b => i = 0 ∧ F b, fun i b hb => hb.2, fun i j b hi hj => hi.1.trans hj.1.symm, fun i q' hq => ?_⟩
 rcases i with _ | i
 ·simp only [List.getElem?_cons_zero, Option.some.injEq] at hq
  subst hq
  exact q.mono (fun b hb => ⟨rfl, hb⟩) h
 ·simp at hq
theorem Star.cons (F1 F2 : Nat → Prop) (h : q.p W F1) (k : Star l W F2) (h1 : ∀ b, F1 b → F b) (h2 : ∀ b, F2 b → F b) (hd : ∀ b, F1 b → ¬ F2 b) : Star (q :: l) W F := by
 obtain ⟨Fs, k1, k2, k3⟩ := k
 refine ⟨fun i b => match i with | 0 => F1 b | i + 1 => Fs i b, fun i b hb => ?_, fun i j b hi hj => ?_, fun i q' hq => ?_⟩
 ·rcases i with _ | i
  ·exact h1 b hb
  ·exact h2 b (k1 i b hb)
 ·rcases i with _ | i <;> rcases j with _ | j
  ·rfl
  ·exact absurd (k1 j b hj) (hd b hi)
  ·exact absurd (k1 i b hi) (hd b hj)
  ·exact congrArg (· + 1) (k2 i j b hi hj)
 ·rcases i with _ | i
  ·simp only [List.getElem?_cons_zero, Option.some.injEq] at hq
   subst hq
   exact h
  ·exact k3 i q' (by simpa using hq)
theorem Star.uncons (h : Star (q :: l) W F) : ∃ F1 F2, q.p W F1 ∧ Star l W F2 ∧ (∀ b, F1 b → F b) ∧ (∀ b, F2 b → F b) ∧ ∀ b, F1 b → ¬ F2 b := by
 obtain ⟨Fs, h1, h2, h3⟩ := h
 refine ⟨Fs 0, fun b => ∃ i, Fs (i + 1) b, h3 0 q rfl, ⟨fun i b => Fs (i + 1) b, fun i b hb => ⟨i, hb⟩, fun i j b hi hj => by have := h2 _ _ b hi hj; omega, fun i q' hq => h3 (i + 1) q' (by simpa using hq)⟩, h1 0, fun b ⟨i, hb⟩ => h1 _ b hb, fun b hb ⟨i, hi⟩ => by have := h2 _ _ b hb hi; omega⟩
theorem Star.pick (h : Star l W F) (ix : List Nat) (hn : ix.Nodup) (hl : ix.map (fun k => l[k]?) = l'.map some) : Star l' W F := by
 obtain ⟨Fs, h1, h2, h3⟩ := h
 refine ⟨fun i b => ∃ k, ix[i]? = some k ∧ Fs k b, fun i b ⟨k, _, hb⟩ => h1 k b hb, fun i j b ⟨k, hk, hb⟩ ⟨k', hk', hb'⟩ => ?_, fun i q hq => ?_⟩
 ·have e := h2 _ _ b hb hb'
  subst e
  exact (List.getElem?_inj (List.getElem?_eq_some_iff.1 hk).1 hn).1 (hk.trans hk'.symm)
 ·have e : (ix.map (fun k => l[k]?))[i]? = some (some q) := by rw [hl, List.getElem?_map, hq]; rfl
  rw [List.getElem?_map] at e
  obtain ⟨k, hk, hk2⟩ := Option.map_eq_some_iff.1 e
  exact q.mono (fun b hb => ⟨k, hk, hb⟩) (h3 k q hk2)
theorem Star.append (F1 F2 : Nat → Prop) (h : Star l0 W F1) (k : Star l W F2) (h1 : ∀ b, F1 b → F b) (h2 : ∀ b, F2 b → F b) (hd : ∀ b, F1 b → ¬ F2 b) : Star (l0 ++ l) W F := by
 induction l0 generalizing F F1 with
 | nil => exact k.mono h2
 | cons q l0 ih =>
  obtain ⟨G1, G2, a1, a2, a3, a4, a5⟩ := h.uncons
  refine Star.cons (l := l0 ++ l) G1 (fun b => G2 b ∨ F2 b) a1 (ih (F := fun b => G2 b ∨ F2 b) G2 a2 (fun b hb => .inl hb) (fun b hb => .inr hb) (fun b hb => hd b (a4 b hb))) (fun b hb => h1 b (a3 b hb)) (fun b hb => hb.elim (fun q => h1 b (a4 b q)) (h2 b)) (fun b hb q => ?_)
  rcases q with q | q
  ·exact a5 b hb q
  ·exact hd b (a3 b hb) q
theorem Star.split (h : Star (l0 ++ l) W F) : ∃ F1 F2, Star l0 W F1 ∧ Star l W F2 ∧ (∀ b, F1 b → F b) ∧ (∀ b, F2 b → F b) ∧ ∀ b, F1 b → ¬ F2 b := by
 obtain ⟨Fs, h1, h2, h3⟩ := h
 refine ⟨fun b => ∃ i, i < l0.length ∧ Fs i b, fun b => ∃ i, Fs (l0.length + i) b, ⟨fun i b => i < l0.length ∧ Fs i b, fun i b hb => ⟨i, hb⟩, fun i j b hi hj => h2 i j b hi.2 hj.2, fun i q hq => ?_⟩, ⟨fun i b => Fs (l0.length + i) b, fun i b hb => ⟨i, hb⟩, fun i j b hi hj => by have := h2 _ _ b hi hj; omega, fun i q hq => ?_⟩, fun b ⟨i, _, hb⟩ => h1 i b hb, fun b ⟨i, hb⟩ => h1 _ b hb, fun b ⟨i, hi, hb⟩ ⟨j, hj⟩ => by have := h2 _ _ b hb hj; omega⟩
 ·have hi := (List.getElem?_eq_some_iff.1 hq).1
  exact q.mono (fun b hb => ⟨hi, hb⟩) (h3 i q (by rw [List.getElem?_append_left hi]; exact hq))
 ·exact h3 _ q (by rw [List.getElem?_append_right (Nat.le_add_right _ _), Nat.add_sub_cancel_left]; exact hq)
def St (w : World) (F0 : Nat → Prop) (l : List HP) (W : World) : Prop := Upd F0 w W ∧ Star l W (fun b => F0 b ∨ w.heap.size ≤ b)
theorem St.enter : St w No [] w := ⟨Upd.refl _ _, Star.nil⟩
theorem St.enterF (h : Star l w F0) : St w F0 l w := ⟨Upd.refl _ _, h.mono fun _ hb => .inl hb⟩
theorem St.pick (h : St w F0 l W) (ix : List Nat) (hn : ix.Nodup) (hl : ix.map (fun k => l[k]?) = l'.map some) : St w F0 l' W := ⟨h.1, h.2.pick ix hn hl⟩
theorem St.get (h : St w F0 l W) (i : Nat) (hq : l[i]? = some q) : ∃ F, q.p W F := by
 obtain ⟨_, Fs, _, _, h3⟩ := h
 exact ⟨_, h3 i q hq⟩
theorem St.blk (h : St w F0 l W) (i : Nat) {g t : Nat} {cs : Array Value} (hq : l[i]? = some (hB g t cs)) : Blk W g t cs := by
 obtain ⟨F, hF⟩ := h.get i hq
 exact hF.2
theorem St.size (h : St w F0 l W) : w.heap.size ≤ W.heap.size := h.1.size
theorem St.frame (h : St w F0 (l0 ++ l) W) : ∃ F1 : Nat → Prop, Star l0 W F1 ∧ (∀ b, F1 b → (F0 b ∨ w.heap.size ≤ b) ∧ b < W.heap.size) ∧ ∀ l' W', St W F1 l' W' → St w F0 (l' ++ l) W' := by
 obtain ⟨F1, F2, a1, a2, a3, a4, a5⟩ := h.2.split
 refine ⟨fun b => F1 b ∧ b < W.heap.size, a1.lt, fun b hb => ⟨a3 b hb.1, hb.2⟩, fun l' W' h' => ⟨Upd.trans h.1 h'.1 (fun _ _ q => q) (fun b hb q => (a3 b q.1).resolve_right kO), ?_⟩⟩
 have hs := h.1.size
 refine Star.append _ (fun b => F2 b ∧ b < W.heap.size) h'.2 (a2.lt.same (fun b hb => h'.1.block b hb.2 (fun q => a5 b q.1 hb.1))) (fun b hb => ?_) (fun b hb => a4 b hb.1) (fun b hb q => ?_)
 ·rcases hb with hb | hb
  ·exact a3 b hb.1
  ·right; omega
 ·rcases hb with hb | hb
  ·exact a5 b hb.1 q.1
  ·have := q.2; omega
theorem St.call (h : St w F0 l W) (k : St W No l' W') : St w F0 (l' ++ l) W' := by
 have h2 : St w F0 ([] ++ l) W := h
 obtain ⟨F1, _, _, h3⟩ := h2.frame
 exact h3 l' W' ⟨k.1.mono (fun _ _ q => q.elim), k.2.mono (fun b hb => hb.elim (fun q => q.elim) .inr)⟩
theorem St.no (h : St w F0 l W) (hu : Upd No W W') : St w F0 l W' := h.call (l' := []) ⟨hu, Star.nil⟩
theorem St.new (h : St w F0 l W) (hu : Upd No W W') (hq : q.p W' (New W)) : St w F0 (q :: l) W' := h.call (l' := [q]) ⟨hu, (Star.one hq).mono fun _ hb => .inr hb⟩
theorem St.news (h : St w F0 l W) (hu : Upd No W W') (hq : Star l' W' (New W)) : St w F0 (l' ++ l) W' := h.call ⟨hu, hq.mono fun _ hb => .inr hb⟩
theorem St.drew (h : St w F0 l W) : St w F0 l W.drew := h.no (Upd.refl _ _).drew
theorem St.alloc (h : St w F0 l W) (t : Nat) (cs : Array Value) : St w F0 (hB W.heap.size t cs :: l) (W.alloc (.cells cs t)) := h.new ((Upd.refl _ _).alloc _) ⟨Nat.le_refl _, Blk.new _ _ _⟩
theorem St.turn (h : St w F0 (q :: l) W) : ∃ F1 : Nat → Prop, q.p W F1 ∧ (∀ b, F1 b → (F0 b ∨ w.heap.size ≤ b) ∧ b < W.heap.size) ∧ ∀ q' W', Upd F1 W W' → q'.p W' (fun b => F1 b ∨ W.heap.size ≤ b) → St w F0 (q' :: l) W' := by
 obtain ⟨F1, a1, a2, a3⟩ := St.frame (l0 := [q]) (l := l) h
 refine ⟨F1, ?_, a2, fun q' W' hu hq => a3 [q'] W' ⟨hu, Star.one hq⟩⟩
 obtain ⟨Fs, b1, _, b3⟩ := a1
 exact q.mono (b1 0) (b3 0 q rfl)
theorem St.fin1 (h : St w No [q] W) : q.p W (New w) ∧ Upd No w W := by
 obtain ⟨h1, Fs, b1, _, b3⟩ := h
 exact ⟨q.mono (fun b hb => (b1 0 b hb).resolve_left (fun z => z)) (b3 0 q rfl), h1⟩
theorem St.star (h : St w No l W) : Star l W (New w) := h.2.mono fun _ hb => hb.resolve_left (fun z => z)
theorem St.swap (h : St w F0 (l0 ++ l) W) (k : ∀ F, Star l0 W F → Star l' W F) : St w F0 (l' ++ l) W := by
 refine ⟨h.1, ?_⟩
 obtain ⟨F1, F2, a1, a2, a3, a4, a5⟩ := h.2.split
 exact Star.append F1 F2 (k F1 a1) a2 a3 a4 a5
end
def Cat (W : World) (a : Addr) (cs : List Value) : Prop := ∀ j u, cs[j]? = some u → W.cell? (a.add j) = some u
theorem add_add' (a : Addr) (m k : Nat) : (a.add m).add k = a.add (m + k) := by
 unfold Addr.add
 by_cases hm : m = 0 <;> by_cases hk : k = 0 <;> simp [hm, hk, Nat.add_assoc]
theorem Blk.at' {W : World} {g t : Nat} {cs : Array Value} (h : Blk W g t cs) : Cat W ⟨g, 0, none⟩ cs.toList := fun j u hu => by
 rw [add_plain, h.cell]
 simpa using hu
theorem Cat.cell {W : World} {a : Addr} {cs : List Value} (h : Cat W a cs) (k : Nat) {v : Value} (hv : cs[k]? = some v) : W.cell? (a.add k) = some v := h k v hv
theorem Cat.upd {W W' : World} {a : Addr} {cs : List Value} (h : Cat W a cs) (hu : Upd No W W') : Cat W' a cs := fun j u hj => hu.read (h j u hj)
theorem C_elem {α : Type} {d : Kn α} {W : World} {A : Option Addr} {xs : List α} (h : C d W A xs) (i : Nat) (hi : i < xs.length) : ∃ ad cs, A = some ad ∧ d.K W xs[i] cs ∧ Cat W (ad.add (i * d.sz)) cs := by
 obtain ⟨ad, c, h1, _, h3, h4⟩ := C_get h i hi
 exact ⟨ad, c, h1, h3, fun j u hu => by rw [add_add']; exact h4 j u hu⟩
def aZ (n : Nat) (x : Nat → Value) (live : List (Nat × Value)) : Act := ⟨((List.range n).map fun i => (live.lookup i).getD (x i)).toArray, []⟩
def evl (n : Nat) (live : List (Nat × Value)) : Operand → Option Value
 | .tmp t => if t < n then live.lookup t else none
 | .const v => some v
 | .func f => some (.func (.func f) #[] #[])
 | .global g => some (.pointer (some ⟨g, 0, none⟩))
section
variable {n : Nat} {x : Nat → Value} {live live' : List (Nat × Value)}
theorem dQ {y : Operand} {v : Value} (h : evl n live y = some v) : (aZ n x live).eval y = v := by
 cases y with
 | tmp t =>
  simp only [evl] at h
  split at h
  ·rename_i ht
   simp [Act.eval, aZ, ht, h]
  ·cases h
 | const u => exact Option.some.inj h
 | func f => exact Option.some.inj h
 | global g => exact Option.some.inj h
theorem evls_list : ∀ (a : List Operand) (b : List Value), a.map (evl n live) = b.map some → a.map (aZ n x live).eval = b
 | [], [], _ => rfl
 | [], _ :: _, q => by cases q
 | _ :: _, [], q => by cases q
 | y :: a, u :: b, q => by
  simp only [List.map_cons, List.cons.injEq] at q
  rw [List.map_cons, evls_list a b q.2, dQ q.1]
theorem evls_ok {ys : Array Operand} {vs : Array Value} (h : ys.toList.map (evl n live) = vs.toList.map some) : ys.map (aZ n x live).eval = vs := by
 rw [← Array.toList_inj, Array.toList_map]
 exact evls_list _ _ h
theorem iY {d : Nat} (_hd : d < n) (v : Value) : (aZ n x live).put (some d) v = aZ n x ((d, v) :: live) := by
 unfold Act.put aZ
 simp only [Act.mk.injEq, and_true]
 apply Array.ext
 ·simp
 ·intro i h1 h2
  simp only [Array.size_setIfInBounds, List.size_toArray, List.length_map, List.length_range] at h1
  simp only [List.getElem_toArray, List.getElem_map, List.getElem_range, List.lookup_cons]
  by_cases e : d = i
  ·subst e
   simp
  ·simp [e, show (i == d) = false from by simp; omega]
theorem actOf_drop (h : ∀ k v, (k, v) ∈ live' → live.lookup k = some v) : ∃ x', aZ n x live = aZ n x' live' := by
 refine ⟨fun i => (live.lookup i).getD (x i), ?_⟩
 unfold aZ
 congr 3
 funext i
 cases e : live'.lookup i with
 | none => rfl
 | some v =>
  have : (i, v) ∈ live' := by
   clear h
   induction live' with
   | nil => cases e
   | cons p l ih =>
    obtain ⟨k, u⟩ := p
    rw [List.lookup_cons] at e
    by_cases hk : i = k
    ·subst hk
     simp at e
     subst e
     exact List.mem_cons_self
    ·have hk' : (i == k) = false := by simp [hk]
     rw [hk'] at e
     exact List.mem_cons_of_mem _ (ih e)
  rw [h i v this]
  rfl
end
section
variable {P : Program} {ops : Array Oper} {Q : Exit → Act → World → Prop} {K : Act → World → Prop} {n i d ty : Nat} {x : Nat → Value} {live : List (Nat × Value)} {W w : World} {F0 : Nat → Prop} {l l' : List HP} {pos : String} {aft : Array Edge} {v : Value} {y z : Operand}
theorem op_ok {o : Oper} {a : Act} (ho : ops[i]? = some o) (hg : o.guard = none) (h : o.wp P a W K Q) : wpOp P ops Q i K a W := by
 unfold wpOp
 simp only [ho]
 rw [if_pos (by simp [Region.wanted, hg])]
 exact .inl h
def Rn (P : Program) (o : Oper) (a : Act) (W : World) (v : Value) : Prop := (execOp a.eval o).run P W = .ok (.value v) W
theorem aB {dst : Option Nat} {op : Op} (ho : ops[i]? = some ⟨dst, op, ty, pos, aft, none⟩) (hr : Rn P ⟨dst, op, ty, pos, aft, none⟩ (aZ n x live) W v) (hd : dst = some d) (hdn : decide (d < n) = true) (h : K (aZ n x ((d, v) :: live)) W) : wpOp P ops Q i K (aZ n x live) W := by
 subst hd
 refine op_ok ho rfl ?_
 unfold Oper.wp
 rw [hr]
 simp only [Oper.upon]
 rw [iY (of_decide_eq_true hdn)]
 exact h
theorem aF {dst : Option Nat} (hx : evl n live y = some v) : Rn P ⟨dst, .move y, ty, pos, aft, none⟩ (aZ n x live) W v := by
 unfold Rn
 simp [execOp, dQ hx]
theorem aP {dst : Option Nat} (hx : evl n live y = some v) : Rn P ⟨dst, .assign y, ty, pos, aft, none⟩ (aZ n x live) W v := by
 unfold Rn
 simp [execOp, dQ hx]
def kE (P : Program) (s f off : Nat) : Prop := ∀ (a : Addr) (W : World), (Instr.fieldAt s (.pointer (some a)) f).run P W = .ok (.pointer (some (a.add off))) W
theorem bU {dst : Option Nat} {s f off : Nat} {a : Addr} (hf : kE P s f off) (hx : evl n live y = some (.pointer (some a))) : Rn P ⟨dst, .fieldAddr s y f, ty, pos, aft, none⟩ (aZ n x live) W (.pointer (some (a.add off))) := by
 unfold Rn
 simp [execOp, dQ hx, hf a W]
theorem rn_load {dst : Option Nat} {t : Nat} {a : Addr} (hA : ∀ w, (isAgg t).run P w = .ok false w) (hx : evl n live y = some (.pointer (some a))) (hc : W.cell? a = some v) : Rn P ⟨dst, .load t y, ty, pos, aft, none⟩ (aZ n x live) W v := by
 unfold Rn
 simp [execOp, dQ hx, Instr.loadAt, Instr.sureAddr, loadVar, hA, run_load, hc]
theorem rn_loadN {dst : Option Nat} {t m : Nat} {a : Addr} {cs : List Value} (hA : ∀ w, (isAgg t).run P w = .ok true w) (hS : ∀ w, (sizeOf t).run P w = .ok m w) (hx : evl n live y = some (.pointer (some a))) (hc : Cat W a cs) (hm : cs.length = m) : Rn P ⟨dst, .load t y, ty, pos, aft, none⟩ (aZ n x live) W (.agg cs.toArray) := by
 subst hm
 unfold Rn
 simp [execOp, dQ hx, Instr.loadAt, Instr.sureAddr, loadVar, hA, hS, run_loadCells_list (P := P) W a cs hc]
theorem rn_index {dst : Option Nat} {t e sz k len cap : Nat} {ad : Addr} (hu : ∀ w, (underlying t).run P w = .ok (.slice e) w) (hS : ∀ w, (sizeOf e).run P w = .ok sz w) (hx : evl n live y = some (.slice (some ad) len cap)) (hz : evl n live z = some (.int .i64 k)) (hk : k < len) : Rn P ⟨dst, .indexAddr t y z, ty, pos, aft, none⟩ (aZ n x live) W (.pointer (some (ad.add (k * sz)))) := by
 unfold Rn
 have h1 : (0 : Int) ≤ (k : Int) ∧ (k : Int) < (len : Int) := by omega
 simp [execOp, dQ hx, dQ hz, Instr.indexAt, asIntOf, hu, hS, h1]
 intro hle
 omega
theorem rn_len {dst : Option Nat} {t e len cap : Nat} {A : Option Addr} (hu : ∀ w, (underlying t).run P w = .ok (.slice e) w) (hx : evl n live y = some (.slice A len cap)) : Rn P ⟨dst, .call { callee := .builtin .len, args := #[y], argTypes := #[t] }, ty, pos, aft, none⟩ (aZ n x live) W (.int .i64 len) := by
 unfold Rn
 simp [execOp, dQ hx, resolve, invoke, builtin, Builtin.len_, hu, goInt]
theorem rn_cmp {dst : Option Nat} {b : Bool} {op : BinOp} {xt yt : Nat} {p q : Int} (hx : evl n live y = some (.int .i64 p)) (hz : evl n live z = some (.int .i64 q)) (hb : binOp op xt (.int .i64 p) (.int .i64 q) = pure (.bool b)) : Rn P ⟨dst, .binOp op xt y z yt, ty, pos, aft, none⟩ (aZ n x live) W (.bool b) := by
 unfold Rn
 simp [execOp, dQ hx, dQ hz, eqGuard_at_int, hb]
theorem rn_arith {dst : Option Nat} {op : BinOp} {xt yt : Nat} {p q r : Int} (hx : evl n live y = some (.int .i64 p)) (hz : evl n live z = some (.int .i64 q)) (hb : binOp op xt (.int .i64 p) (.int .i64 q) = pure (.int .i64 r)) : Rn P ⟨dst, .binOp op xt y z yt, ty, pos, aft, none⟩ (aZ n x live) W (.int .i64 r) := by
 unfold Rn
 simp [execOp, dQ hx, dQ hz, eqGuard_at_int, hb]
theorem rn_not {dst : Option Nat} {b : Bool} {xt : Nat} (hx : evl n live y = some (.bool b)) : Rn P ⟨dst, .unOp .not xt y, ty, pos, aft, none⟩ (aZ n x live) W (.bool (!b)) := by
 unfold Rn
 simp [execOp, dQ hx, Op.unary]
theorem gV {dst : Option Nat} {a : Addr} (hx : evl n live y = some (.pointer (some a))) : Rn P ⟨dst, .nilCheck y, ty, pos, aft, none⟩ (aZ n x live) W (.pointer (some a)) := by
 unfold Rn
 simp [execOp, dQ hx]
theorem rn_extract {dst : Option Nat} {vs : Array Value} {k : Nat} (hx : evl n live y = some (.tuple vs)) (hv : vs[k]? = some v) : Rn P ⟨dst, .extract y k, ty, pos, aft, none⟩ (aZ n x live) W v := by
 unfold Rn
 simp [execOp, dQ hx, Instr.extract, hv]
theorem dJ {dst : Option Nat} {f : FuncId} {ys : Array Operand} {tys : Array Nat} {vs : Array Value} {R : Ending → World → Prop} (ho : ops[i]? = some ⟨dst, .call { callee := .value (.func f), args := ys, argTypes := tys }, ty, pos, aft, none⟩) (hf : ∀ us w, (callFunc f us).run P w = .ok (.enter f us) w) (hv : ys.toList.map (evl n live) = vs.toList.map some) (hd : dst = some d) (hdn : decide (d < n) = true) (hc : Calls P f vs W R) (h : ∀ e W', R e W' → ∃ v, e = .returned v ∧ K (aZ n x ((d, v) :: live)) W') : wpOp P ops Q i K (aZ n x live) W := by
 subst hd
 refine op_ok ho rfl ?_
 have e : ys.map (aZ n x live).eval = vs := evls_ok hv
 have hrun : (execOp (aZ n x live).eval ⟨some d, .call { callee := .value (.func f), args := ys, argTypes := tys }, ty, pos, aft, none⟩).run P W = .ok (.enter f vs) W := by
  simp [execOp, resolve, Act.eval, Deferred.ofValue, invoke, e, hf]
 unfold Oper.wp
 rw [hrun]
 simp only [Oper.upon]
 refine hc.mono fun e' W' hR => ?_
 obtain ⟨u, rfl, hk⟩ := h e' W' hR
 show K ((aZ n x live).put (some d) u) W'
 rw [iY (of_decide_eq_true hdn)]
 exact hk
theorem eU {dst : Option Nat} {t : Nat} {z : Value} (ho : ops[i]? = some ⟨dst, .alloc t, ty, pos, aft, none⟩) (hz : ∀ w, (zeroValue t).run P w = .ok z w) (hd : dst = some d) (hdn : decide (d < n) = true) (H : St w F0 l W) (h : ∀ g W', Upd No W W' → St w F0 (hB g t z.cells :: l) W' → K (aZ n x ((d, .pointer (some ⟨g, 0, none⟩)) :: live)) W') : wpOp P ops Q i K (aZ n x live) W := by
 subst hd
 refine op_ok ho rfl ?_
 have hrun : (execOp (aZ n x live).eval ⟨some d, .alloc t, ty, pos, aft, none⟩).run P W = .ok (.value (.pointer (some ⟨W.heap.size, 0, none⟩))) (W.alloc (.cells z.cells t)) := by
  simp [execOp, Instr.alloc, hz, newVar, newRow]
 unfold Oper.wp
 rw [hrun]
 simp only [Oper.upon]
 rw [iY (of_decide_eq_true hdn)]
 exact h _ _ ((Upd.refl _ _).alloc _) (H.alloc t z.cells)
theorem op_box {dst : Option Nat} {t : Nat} (ho : ops[i]? = some ⟨dst, .box t y, ty, pos, aft, none⟩) (hx : evl n live y = some v) (hd : dst = some d) (hdn : decide (d < n) = true) (H : St w F0 l W) (h : ∀ g W', Upd No W W' → St w F0 (hB g t v.cells :: l) W' → K (aZ n x ((d, .pointer (some ⟨g, 0, none⟩)) :: live)) W') : wpOp P ops Q i K (aZ n x live) W := by
 subst hd
 refine op_ok ho rfl ?_
 have hrun : (execOp (aZ n x live).eval ⟨some d, .box t y, ty, pos, aft, none⟩).run P W = .ok (.value (.pointer (some ⟨W.heap.size, 0, none⟩))) (W.alloc (.cells v.cells t)) := by
  simp [execOp, dQ hx, Instr.box, newVar, newRow]
 unfold Oper.wp
 rw [hrun]
 simp only [Oper.upon]
 rw [iY (of_decide_eq_true hdn)]
 exact h _ _ ((Upd.refl _ _).alloc _) (H.alloc t v.cells)
def put (cs : Array Value) (k : Nat) (vs : List Value) : Array Value := (cs.toList.take k ++ vs ++ cs.toList.drop (k + vs.length)).toArray
theorem iU {t g tb k m : Nat} {cs : Array Value} (ho : ops[i]? = some ⟨none, .store t y z, ty, pos, aft, none⟩) (hS : ∀ w, (sizeOf t).run P w = .ok m w) (hx : evl n live y = some (.pointer (some (Addr.add ⟨g, 0, none⟩ k)))) (hz : evl n live z = some v) (hm : v.cells.size = m) (hk : k + m ≤ cs.size) (h1 : ∀ u ∈ v.cells.toList, u.oneCell' = true) (H : St w F0 (hB g tb cs :: l) W) (h : ∀ W', Upd (fun b => b = g) W W' → St w F0 (hB g tb (put cs k v.cells.toList) :: l) W' → K (aZ n x live) W') : wpOp P ops Q i K (aZ n x live) W := by
 have hb : Blk W g tb cs := H.blk 0 rfl
 refine op_ok ho rfl ?_
 subst hm
 have hst := run_storeCells_at P g k tb v.cells.toList 0 cs W hb (by simp; omega) h1
 rw [add_plain] at hx
 have hrun : (execOp (aZ n x live).eval ⟨none, .store t y z, ty, pos, aft, none⟩).run P W = .ok .skip (W.setRow g (put cs k v.cells.toList)) := by
  simp only [execOp, dQ hx, dQ hz, Instr.storeAt, Instr.sureAddr, storeVar, Sem.run_bind, Sem.run_pure, Result.andThen_ok, hS, ne_eq, not_true, if_false]
  have := hst
  simp only [Nat.add_zero] at this
  rw [this]
  rfl
 unfold Oper.wp
 rw [hrun]
 simp only [Oper.upon]
 have hB' : Blk (W.setRow g (put cs k v.cells.toList)) g tb (put cs k v.cells.toList) := setRow_heap W g cs _ tb (0, 0) hb
 have hU : Upd (fun b => b = g) W (W.setRow g (put cs k v.cells.toList)) := by
  refine ⟨rfl, rfl, rfl, by simp [World.setRow], fun b hb' hF => ?_⟩
  simp only [World.setRow, Array.getElem?_modify]
  rw [if_neg (fun e => hF e.symm)]
 refine h _ hU ?_
 obtain ⟨F1, a1, a2, a3⟩ := H.turn
 exact a3 _ _ (hU.mono (fun b _ e => e ▸ a1.1)) ⟨.inl a1.1, hB'⟩
theorem op_store0 {t g tb m : Nat} {cs : Array Value} (ho : ops[i]? = some ⟨none, .store t y z, ty, pos, aft, none⟩) (hS : ∀ w, (sizeOf t).run P w = .ok m w) (hx : evl n live y = some (.pointer (some ⟨g, 0, none⟩))) (hz : evl n live z = some v) (hm : v.cells.size = m) (hk : m ≤ cs.size) (h1 : ∀ u ∈ v.cells.toList, u.oneCell' = true) (H : St w F0 (hB g tb cs :: l) W) (h : ∀ W', Upd (fun b => b = g) W W' → St w F0 (hB g tb (put cs 0 v.cells.toList) :: l) W' → K (aZ n x live) W') : wpOp P ops Q i K (aZ n x live) W :=
 iU (k := 0) ho hS hx hz hm kO h1 H h
theorem aH {id : Nat} {a : Act} (is : List Nat) (hl : List.range ops.size = is) (h : wpOps P ops Q is a W) : (Code.region id ops false).wp P Q a W := wp_region (hl ▸ h)
theorem aA {a : Act} {rest : List Nat} (h : wpOp P ops Q i (wpOps P ops Q rest) a W) : wpOps P ops Q (i :: rest) a W := by
 rw [wpOps_cons]
 exact h
theorem aI {a : Act} (h : Q .normal a W) : wpOps P ops Q [] a W := h
theorem aG {a : Act} (h : K a W) : Exit.then K Q .normal a W := h
theorem inB_n {a : Act} {id : Nat} (h : Q .normal a W) : Exit.inBlock id Q .normal a W := h
theorem inB_x {a : Act} {id : Nat} (h : Q .normal a W) : Exit.inBlock id Q (.exit id) a W := by
 show (if id = id then Q .normal a W else Q (.exit id) a W)
 rw [if_pos rfl]
 exact h
theorem fE {c1 c2 : Code} {p : Prop} [Decidable p] (hc : evl n live y = some (.bool (decide p))) (ht : p → c1.wp P Q (aZ n x live) W) (hf : ¬ p → c2.wp P Q (aZ n x live) W) : (Code.cond y c1 c2).wp P Q (aZ n x live) W := by
 by_cases hp : p
 ·exact wp_cond_true (by rw [dQ hc, decide_eq_true hp]) (ht hp)
 ·exact wp_cond_false (by rw [dQ hc, decide_eq_false hp]) (hf hp)
theorem cond_t {c1 c2 : Code} (hc : evl n live y = some (.bool true)) (ht : c1.wp P Q (aZ n x live) W) : (Code.cond y c1 c2).wp P Q (aZ n x live) W := wp_cond_true (dQ hc) ht
theorem cond_f {c1 c2 : Code} (hc : evl n live y = some (.bool false)) (ht : c2.wp P Q (aZ n x live) W) : (Code.cond y c1 c2).wp P Q (aZ n x live) W := wp_cond_false (dQ hc) ht
theorem enter {f : FuncId} {fn : Func} {c : Code} {args : Array Value} {R : Ending → World → Prop} (n : Nat) (live : List (Nat × Value)) (hf : P.funcs[f]? = some fn) (hb : fn.body = some c) (ha : (⟨args ++ Array.replicate (fn.ntmps - args.size) undef, []⟩ : Act) = aZ n (fun _ => undef) live) (h : ∀ x, c.wp P (bodyPost P fn R) (aZ n x live) w) : Calls P f args w R :=
 calls_of_wp hf hb (ha ▸ h _)
theorem fJ {fn : Func} {e : Exit} {t : Nat} {R : Ending → World → Prop} (he : e = .ret ∨ e = .normal) (hr : fn.results = #[.tmp t]) (hx : evl n live (.tmp t) = some v) (h : R (.returned v) W) : bodyPost P fn R e (aZ n x live) W := by
 have e2 : (aZ n x live).tmps.getD t undef = v := dQ (y := .tmp t) hx
 have hrun : (results fn (aZ n x live).tmps).run P W = .ok v W := by
  simp only [results, hr]
  simp at e2
  simp [e2]
 rcases he with rfl | rfl <;> exact ⟨rfl, v, hrun, h⟩
theorem run_cell {t g tb m : Nat} {cs : Array Value} (hA : ∀ w, (isAgg t).run P w = .ok true w) (hS : ∀ w, (sizeOf t).run P w = .ok m w) (hb : Blk W g tb cs) (hm : cs.size = m) : (loadVar t ⟨g, 0, none⟩).run P W = .ok (.agg cs) W := by
 subst hm
 have hl := run_loadCells_list (P := P) W ⟨g, 0, none⟩ cs.toList hb.at'
 simp only [Array.length_toList, Array.toArray_toList] at hl
 simp [loadVar, hA, hS, hl]
theorem iQ {fn : Func} {e : Exit} {p t g tb m : Nat} {cs : Array Value} {R : Ending → World → Prop} (he : e = .ret ∨ e = .normal) (hr : fn.results = #[.cell p t]) (hA : ∀ w, (isAgg t).run P w = .ok true w) (hS : ∀ w, (sizeOf t).run P w = .ok m w) (hx : evl n live (.tmp p) = some (.pointer (some ⟨g, 0, none⟩))) (hb : Blk W g tb cs) (hm : cs.size = m) (h : R (.returned (.agg cs)) W) : bodyPost P fn R e (aZ n x live) W := by
 have e2 : (aZ n x live).tmps.getD p undef = .pointer (some ⟨g, 0, none⟩) := dQ (y := .tmp p) hx
 have hl := run_cell hA hS hb hm
 have hrun : (results fn (aZ n x live).tmps).run P W = .ok (.agg cs) W := by
  simp only [results, hr]
  simp at e2
  simp [e2, asAddr, hl]
 rcases he with rfl | rfl <;> exact ⟨rfl, _, hrun, h⟩
theorem post_cell_tmp {fn : Func} {e : Exit} {p t g tb m j : Nat} {cs : Array Value} {R : Ending → World → Prop} (he : e = .ret ∨ e = .normal) (hr : fn.results = #[.cell p t, .tmp j]) (hA : ∀ w, (isAgg t).run P w = .ok true w) (hS : ∀ w, (sizeOf t).run P w = .ok m w) (hx : evl n live (.tmp p) = some (.pointer (some ⟨g, 0, none⟩))) (hy : evl n live (.tmp j) = some v) (hb : Blk W g tb cs) (hm : cs.size = m) (h : R (.returned (.tuple #[.agg cs, v])) W) : bodyPost P fn R e (aZ n x live) W := by
 have e2 : (aZ n x live).tmps.getD p undef = .pointer (some ⟨g, 0, none⟩) := dQ (y := .tmp p) hx
 have e3 : (aZ n x live).tmps.getD j undef = v := dQ (y := .tmp j) hy
 have hl := run_cell hA hS hb hm
 have hrun : (results fn (aZ n x live).tmps).run P W = .ok (.tuple #[.agg cs, v]) W := by
  simp only [results, hr]
  simp at e2 e3
  simp [e2, e3, asAddr, hl]
 rcases he with rfl | rfl <;> exact ⟨rfl, _, hrun, h⟩
end
section
variable {P : Program} {ops : Array Oper} {Q : Exit → Act → World → Prop} {md : Region.Mode} {S : World → Prop} {t : Nat}
def wpAnyS (P : Program) (md : Region.Mode) (ops : Array Oper) (Q : Exit → Act → World → Prop) (S : World → Prop) (t : Nat) : Nat → Array Bool → Act → World → Prop
 | 0, listed, a, w => Region.ready md ops listed = [] ∧ Q .normal a w
 | fuel + 1, listed, a, w =>
  (Region.ready md ops listed = [] → Q .normal a w) ∧
  ∀ i ∈ Region.ready md ops listed, wpOp P ops Q i (fun a' w' => ((listed.setIfInBounds i true).getD t false = false → S w') ∧ wpAnyS P md ops Q S t fuel (listed.setIfInBounds i true) a' w') a w
theorem wpAny_of_S : ∀ (fuel : Nat) (listed : Array Bool) (a : Act) (w : World), wpAnyS P md ops Q S t fuel listed a w → wpAny P md ops Q fuel listed a w
 | 0, _, _, _, h => h
 | fuel + 1, _, _, _, h => ⟨h.1, fun i hi => wpOp_mono (fun a' w' h' => wpAny_of_S fuel _ a' w' h'.2) (h.2 i hi)⟩
def waits (md : Region.Mode) (ops : Array Oper) (t i : Nat) : Bool := i != t && (match ops[t]? with | none => true | some o => o.after.any fun e => Region.binds md e && e.on == i)
theorem anyS_first {i : Nat} {oi : Oper} {v : Value} (hi : ops[i]? = some oi) (hsel : ∀ (j : Nat) (o : Oper) cs b, ops[j]? = some o → o.op ≠ .select cs b) (hw : waits md ops t i = true)
 (hQ : ∀ c a w, Q (.panic c) (a.put oi.dst v) w → Q (.panic c) a w) :
 ∀ (fuel : Nat) (listed : Array Bool) (a : Act) (w : World),
  (∀ j oj, ops[j]? = some oj → j ≠ i → listed.getD j true = false → (∀ e ∈ oj.after, Region.binds md e = true → e.on ≠ i) → oi.apart ops oj = true) →
  i ∈ Region.ready md ops listed → YieldsIf P ops S oi v a → S w → listed.getD t false = false →
  wpAnyS P md ops Q S t fuel (listed.setIfInBounds i true) (a.put oi.dst v) w → wpAnyS P md ops Q S t (fuel + 1) listed a w := by
 simp only [waits, Bool.and_eq_true, bne_iff_ne, ne_eq] at hw
 obtain ⟨hit, hw⟩ := hw
 intro fuel
 induction fuel with
 | zero =>
  intro listed a w _ hr hy hS ht H
  refine ⟨fun h => (by rw [h] at hr; cases hr), fun j hj => ?_⟩
  by_cases hji : j = i
  ·subst hji; exact hy.wpOp hi hS ⟨fun _ => hS, H⟩
  ·have := ready_mono hj hji
   rw [H.1] at this
   cases this
 | succ fuel ih =>
  intro listed a w hfree hr hy hS ht H
  refine ⟨fun h => (by rw [h] at hr; cases hr), fun j hj => ?_⟩
  by_cases hji : j = i
  ·subst hji; exact hy.wpOp hi hS ⟨fun _ => hS, H⟩
  ·have h1 := H.2 j (ready_mono hj hji)
   obtain ⟨hjun, oj, hoj, hall⟩ := mem_ready.1 hj
   have hnot : ∀ e ∈ oj.after, Region.binds md e = true → e.on ≠ i := fun e he hb heq => by
    have h1 := hall e he hb
    have h0 := (mem_ready.1 hr).1
    rw [heq] at h1
    rcases Nat.lt_or_ge i listed.size with h' | h'
    ·simp [h'] at h0 h1; rw [h0] at h1; cases h1
    ·simp [Array.getElem?_eq_none h'] at h1
   have hjt : j ≠ t := by
    rintro rfl
    rw [hoj] at hw
    obtain ⟨e, he, hb⟩ := Array.any_eq_true'.1 hw
    simp only [Bool.and_eq_true, beq_iff_eq] at hb
    exact hnot e he hb.1 hb.2
   have ht' : (listed.setIfInBounds j true).getD t false = false := by rw [getD_set_ne false hjt]; exact ht
   have h2 := wpOp_putIf hoj (hfree j oj hoj hji hjun hnot) (fun cs b => hsel i oi cs b hi) (fun cs b => hsel j oj cs b hoj) hQ hy h1
   have hfree' : ∀ k ok, ops[k]? = some ok → k ≠ i → (listed.setIfInBounds j true).getD k true = false →
    (∀ e ∈ ok.after, Region.binds md e = true → e.on ≠ i) → oi.apart ops ok = true := fun k ok hk hki hun hno => by
    refine hfree k ok hk hki ?_ hno
    by_cases hjk : j = k
    ·subst hjk; exact hjun
    ·rw [getD_set_ne true hjk] at hun; exact hun
   have ht2 : ((listed.setIfInBounds i true).setIfInBounds j true).getD t false = false := by rw [getD_set_ne false hjt, getD_set_ne false hit]; exact ht
   refine wpOp_mono (fun a' w' h3 => ⟨fun _ => h3.2.1 ht2, ih (listed.setIfInBounds j true) a' w' hfree' (ready_mono hr (Ne.symm hji)) h3.1 (h3.2.1 ht2) ht' ?_⟩) h2
   rw [Array.setIfInBounds_comm _ _ hji]
   exact h3.2.2
theorem aY {i d n : Nat} {x : Nat → Value} {live : List (Nat × Value)} {dst : Option Nat} {op : Op} {ty : Nat} {pos : String} {aft : Array Edge} {v : Value} {fuel : Nat} {listed : Array Bool} {w : World} (hi : ops[i]? = some ⟨dst, op, ty, pos, aft, none⟩)
 (hs : Region.noSelect ops = true) (hf : Region.free md ops listed i = true) (hr : (Region.ready md ops listed).contains i = true) (hw : waits md ops t i = true) (ht : listed.getD t false = false)
 (hQ : ∀ c a w, Q (.panic c) (a.put dst v) w → Q (.panic c) a w) (hd : dst = some d) (hdn : decide (d < n) = true) (hS : S w) (hy : ∀ W, S W → Rn P ⟨dst, op, ty, pos, aft, none⟩ (aZ n x live) W v)
 (h : wpAnyS P md ops Q S t fuel (listed.setIfInBounds i true) (aZ n x ((d, v) :: live)) w) : wpAnyS P md ops Q S t (fuel + 1) listed (aZ n x live) w := by
 subst hd
 exact anyS_first hi (Region.noSelect_spec hs) hw hQ fuel listed _ w (Region.free_spec hi hf) (by simpa using hr) (.inl ⟨rfl, hy⟩) hS ht (by rw [iY (of_decide_eq_true hdn)]; exact h)
theorem dY {i : Nat} {fuel : Nat} {listed : Array Bool} {a : Act} {w : World} (hr : Region.ready md ops listed = [i])
 (h : wpOp P ops Q i (fun a' w' => ((listed.setIfInBounds i true).getD t false = false → S w') ∧ wpAnyS P md ops Q S t fuel (listed.setIfInBounds i true) a' w') a w) : wpAnyS P md ops Q S t (fuel + 1) listed a w :=
 ⟨fun h0 => (by rw [hr] at h0; cases h0), fun j hj => (by rw [hr] at hj; rw [List.mem_singleton.1 hj]; exact h)⟩
theorem jK {listed : Array Bool} {a : Act} {w : World} (hr : Region.ready md ops listed = []) (h : Q .normal a w) : ∀ fuel, wpAnyS P md ops Q S t fuel listed a w
 | 0 => ⟨hr, h⟩
 | _ + 1 => ⟨fun _ => h, by rw [hr]; simp⟩
theorem jX {id : Nat} {a : Act} {w : World} (S : World → Prop) (t : Nat) (hm : P.follows .mixedOrders = true) (h : wpAnyS P .any ops Q S t ops.size (Array.replicate ops.size false) a w.drew) : (Code.region id ops true).wp P Q a w :=
 wp_region_any hm (wpAny_of_S _ _ _ _ h)
end
section
variable {P : Program} {ops : Array Oper} {Q : Exit → Act → World → Prop} {K : Act → World → Prop} {n i d ty : Nat} {x : Nat → Value} {live : List (Nat × Value)} {W w : World} {F0 : Nat → Prop} {l l' : List HP} {pos : String} {aft : Array Edge} {v : Value} {y z : Operand}
section
variable {dst : Option Nat} {xt yt : Nat} {p q : Int} (hx : evl n live y = some (.int .i64 p)) (hz : evl n live z = some (.int .i64 q))
include hx hz
theorem rn_lss : Rn P ⟨dst, .binOp .lss xt y z yt, ty, pos, aft, none⟩ (aZ n x live) W (.bool (decide (p < q))) := rn_cmp hx hz (by simp [binOp, Op.intCmp])
theorem jH : Rn P ⟨dst, .binOp .leq xt y z yt, ty, pos, aft, none⟩ (aZ n x live) W (.bool (decide (p ≤ q))) := rn_cmp hx hz (by simp [binOp, Op.intCmp])
theorem rn_gtr : Rn P ⟨dst, .binOp .gtr xt y z yt, ty, pos, aft, none⟩ (aZ n x live) W (.bool (decide (q < p))) := rn_cmp hx hz (by simp [binOp, Op.intCmp])
theorem rn_geq : Rn P ⟨dst, .binOp .geq xt y z yt, ty, pos, aft, none⟩ (aZ n x live) W (.bool (decide (q ≤ p))) := rn_cmp hx hz (by simp [binOp, Op.intCmp])
theorem rn_eql : Rn P ⟨dst, .binOp .eql xt y z yt, ty, pos, aft, none⟩ (aZ n x live) W (.bool (decide (p = q))) := rn_cmp hx hz (by
 by_cases e : p = q
 ·simp [binOp, Op.intCmp, e]
 ·have e' : (p == q) = false := beq_eq_false_iff_ne.2 e
  simp [binOp, Op.intCmp, e', e])
theorem rn_neq : Rn P ⟨dst, .binOp .neq xt y z yt, ty, pos, aft, none⟩ (aZ n x live) W (.bool (decide (¬ p = q))) := rn_cmp hx hz (by
 by_cases e : p = q
 ·simp [binOp, Op.intCmp, e]
 ·have e' : (p == q) = false := beq_eq_false_iff_ne.2 e
  simp [binOp, Op.intCmp, bne, e', e])
theorem rn_addW : Rn P ⟨dst, .binOp .add xt y z yt, ty, pos, aft, none⟩ (aZ n x live) W (.int .i64 (IntKind.i64.wrap (p + q))) := rn_arith hx hz (by simp [binOp, Op.intArith])
end
theorem wrap_id {p : Int} (h : -9223372036854775808 ≤ p ∧ p ≤ 9223372036854775807) : IntKind.i64.wrap p = p := (IntWalk.i64_left p).trans (IntWalk.wrap64_in _ h)
theorem rn_add {dst : Option Nat} {xt yt : Nat} {p q : Int} (hx : evl n live y = some (.int .i64 p)) (hz : evl n live z = some (.int .i64 q)) (hb : -9223372036854775808 ≤ p + q ∧ p + q ≤ 9223372036854775807) : Rn P ⟨dst, .binOp .add xt y z yt, ty, pos, aft, none⟩ (aZ n x live) W (.int .i64 (p + q)) := by
 have := rn_addW (P := P) (dst := dst) (ty := ty) (pos := pos) (aft := aft) (x := x) (W := W) (xt := xt) (yt := yt) hx hz
 rwa [wrap_id hb] at this
theorem jI {dst : Option Nat} {xt yt k : Nat} (hx : evl n live y = some (.int .i64 (k : Int))) (hz : evl n live z = some (.int .i64 1)) (hb : k < 9223372036854775807) : Rn P ⟨dst, .binOp .add xt y z yt, ty, pos, aft, none⟩ (aZ n x live) W (.int .i64 ((k + 1 : Nat) : Int)) := by
 have := rn_add (P := P) (dst := dst) (ty := ty) (pos := pos) (aft := aft) (x := x) (W := W) (xt := xt) (yt := yt) hx hz kO
 simpa using this
theorem rn_pick {dst : Option Nat} {c : Operand} {b : Bool} {u1 u2 : Value} (hc : evl n live c = some (.bool b)) (hx : evl n live y = some u1) (hz : evl n live z = some u2) (hv : v = if b then u1 else u2) : Rn P ⟨dst, .pick c y z, ty, pos, aft, none⟩ (aZ n x live) W v := by
 unfold Rn
 subst hv
 cases b <;> simp [execOp, dQ hc, dQ hx, dQ hz, asBool]
theorem gW {dst : Option Nat} {t : Nat} {ps : Array (Nat × Operand)} {vs : List (Nat × Value)} {cells : Array Value} (hv : ps.toList.map (fun p => (p.1, evl n live p.2)) = vs.map (fun p => (p.1, some p.2))) (hb : P.built t vs = some cells) : Rn P ⟨dst, .build t ps, ty, pos, aft, none⟩ (aZ n x live) W (.agg cells) := by
 unfold Rn
 have e : (ps.map fun (i, x') => (i, (aZ n x live).eval x')).toList = vs := by
  clear hb
  rw [Array.toList_map]
  generalize ps.toList = pl at hv
  induction pl generalizing vs with
  | nil => cases vs with
   | nil => rfl
   | cons a l => cases hv
  | cons a pl ih => cases vs with
   | nil => cases hv
   | cons b l =>
    simp only [List.map_cons, List.cons.injEq, Prod.mk.injEq] at hv
    obtain ⟨⟨h1, h2⟩, h3⟩ := hv
    obtain ⟨b1, b2⟩ := b
    simp only at h1 h2
    rw [List.map_cons, ih h3]
    subst h1
    show (a.1, (aZ n x live).eval a.2) :: l = _
    rw [dQ h2]
 have := run_build (P := P) W t (ps.map fun (i, x') => (i, (aZ n x live).eval x')) cells (by rw [e]; exact hb)
 simp [execOp, this]
theorem fill_all (vs cs : Array Value) (h : vs.size = cs.size) : vs.zipIdx.foldl (fun cs (c, j) => cs.setIfInBounds (0 + j) c) cs = vs := by
 have key : ∀ (l : List Value) (k : Nat) (cs : Array Value), k + l.length = cs.size → (l.zipIdx k).foldl (fun cs (p : Value × Nat) => cs.setIfInBounds (0 + p.2) p.1) cs = (cs.toList.take k ++ l).toArray := by
  intro l
  induction l with
  | nil =>
   intro k cs hk
   simp only [List.zipIdx_nil, List.foldl_nil, List.append_nil]
   rw [List.take_of_length_le (by simp at hk ⊢; omega)]
  | cons a l ih =>
   intro k cs hk
   rw [List.zipIdx_cons, List.foldl_cons, ih (k + 1) _ (by simp at hk ⊢; omega)]
   congr 1
   simp only [Nat.zero_add, Array.toList_setIfInBounds]
   apply List.ext_getElem?
   intro j
   simp only [List.length_cons] at hk
   have hkc : k < cs.toList.length := by simp; omega
   rcases Nat.lt_trichotomy j k with hj | hj | hj
   ·rw [List.getElem?_append_left (by simp; omega), List.getElem?_append_left (by simp; omega), List.getElem?_take, List.getElem?_take, if_pos kO, if_pos hj, List.getElem?_set, if_neg kO]
   ·subst hj
    rw [List.getElem?_append_left (by simp; omega), List.getElem?_append_right (by simp; omega), List.getElem?_take, if_pos kO, List.getElem?_set, if_pos rfl, if_pos hkc]
    simp [show j - min j cs.size = 0 by omega]
   ·rw [List.getElem?_append_right (by simp; omega), List.getElem?_append_right (by simp; omega)]
    simp only [List.length_take, List.length_set, Array.length_toList]
    rw [show j - min (k + 1) cs.size = j - (k + 1) by omega, show j - min k cs.size = (j - (k + 1)) + 1 by omega, List.getElem?_cons_succ]
 have := key vs.toList 0 cs (by simpa using h)
 simp only [List.take_zero, List.nil_append, Array.toArray_toList] at this
 rw [← Array.foldl_toList, Array.toList_zipIdx]
 exact this
theorem fQ {dst : Option Nat} {t e m : Nat} {z0 : Value} (ho : ops[i]? = some ⟨dst, .buildSlice t 1 #[(0, y)], ty, pos, aft, none⟩) (hu : ∀ w, (underlying t).run P w = .ok (.slice e) w) (hS : ∀ w, (sizeOf e).run P w = .ok m w) (hm : 0 < m ∧ m ≤ 4096) (hz : ∀ w, (zeroValue e).run P w = .ok z0 w) (hx : evl n live y = some v) (hv : v.cells.size = m) (hd : dst = some d) (hdn : decide (d < n) = true) (H : St w F0 l W) (h : ∀ g W', Upd No W W' → St w F0 (hB g e v.cells :: l) W' → K (aZ n x ((d, .slice (some ⟨g, 0, none⟩) 1 1) :: live)) W') : wpOp P ops Q i K (aZ n x live) W := by
 subst hd
 refine op_ok ho rfl ?_
 have h0 : ¬ (1 * m > 2 ^ 24) := by omega
 have h1 : ¬ (1 * m = 0) := by omega
 have hf : Instr.fill (fun i => some (i * m, m)) ((Array.range (1 * m)).map (fun k => z0.cells[k % z0.cells.size]!)) [(0, v)] = some v.cells := by
  simp only [Instr.fill, Nat.zero_mul, Nat.zero_add, hv, ne_eq, not_true, Nat.one_mul, Array.size_map, Array.size_range, gt_iff_lt, Nat.lt_irrefl]
  have := fill_all v.cells ((Array.range m).map (fun k => z0.cells[k % z0.cells.size]!)) (by simp [hv])
  simp only [Nat.zero_add] at this
  rw [this]
  simp
 have hrun : (execOp (aZ n x live).eval ⟨some d, .buildSlice t 1 #[(0, y)], ty, pos, aft, none⟩).run P W = .ok (.value (.slice (some ⟨W.heap.size, 0, none⟩) 1 1)) (W.alloc (.cells v.cells e)) := by
  simp only [execOp, List.map_toArray, List.map_cons, List.map_nil, dQ hx, Instr.buildSlice, Sem.run_bind, hu, hS, Result.andThen_ok, h0, if_false, h1, hz, Sem.run_pure, hf]
  simp [newRow]
 unfold Oper.wp
 rw [hrun]
 simp only [Oper.upon]
 rw [iY (of_decide_eq_true hdn)]
 exact h _ _ ((Upd.refl _ _).alloc _) (H.alloc e v.cells)
theorem kK {α : Type} {dk : Kn α} {dst : Option Nat} {t e m : Nat} (ho : ops[i]? = some ⟨dst, .buildSlice t 0 #[], ty, pos, aft, none⟩) (hu : ∀ w, (underlying t).run P w = .ok (.slice e) w) (hS : ∀ w, (sizeOf e).run P w = .ok m w) (hd : dst = some d) (hdn : decide (d < n) = true) (H : St w F0 l W) (h : ∀ A W', Upd No W W' → St w F0 (hR dk e (.slice A 0 0) [] :: l) W' → K (aZ n x ((d, .slice A 0 0) :: live)) W') : wpOp P ops Q i K (aZ n x live) W := by
 subst hd
 refine op_ok ho rfl ?_
 have hrun : (execOp (aZ n x live).eval ⟨some d, .buildSlice t 0 #[], ty, pos, aft, none⟩).run P W = .ok (.value (.slice (some ⟨W.heap.size, 0, none⟩) 0 0)) (W.alloc (.cells #[] e)) := by
  simp [execOp, Instr.buildSlice, hu, hS, Instr.fill, newRow, Array.range_zero']
 unfold Oper.wp
 rw [hrun]
 simp only [Oper.upon]
 rw [iY (of_decide_eq_true hdn)]
 exact h _ _ ((Upd.refl _ _).alloc _) (H.new ((Upd.refl _ _).alloc _) (iD (F' := New W) (fun b hb => by subst hb; exact Nat.le_refl _) (R_emptyB (Blk.new _ _ _))))
theorem St.add0 {q : HP} (H : St w F0 l W) (hq : q.p W No) : St w F0 (q :: l) W := ⟨H.1, Star.cons No _ hq H.2 (fun _ h => h.elim) (fun _ h => h) (fun _ h => h.elim)⟩
theorem Rn_append {t e bytes c : Nat} {α : Type} {dk : Kn α} {F : Nat → Prop} {z0 : Value} {xs ys : List α} {A : Option Addr} {Gs : Nat → Nat → Prop} {dst : Option Nat}
 (ht : P.underlying t = some (.slice e)) (hinfo : (P.info? e).map (fun i => (i.zero, i.size, i.bytes)) = some (some z0, dk.sz, bytes)) (hz : z0.cells.size = dk.sz) (hs0 : 0 < dk.sz) (hb0 : 0 < bytes)
 (hx : evl n live y = some v) (hy : evl n live z = some (.slice A ys.length c)) (HR : R dk e W F v xs) (HC : CM dk W A ys Gs) (hd : ∀ j b, Gs j b → ¬ F b) (hd2 : ∀ i j b, Gs i b → Gs j b → i = j) (hl : (xs.length + ys.length) * bytes ≤ 140737488355328) :
 ∃ B c' W', (execOp (aZ n x live).eval ⟨dst, .call { callee := .builtin .append, args := #[y, z], argTypes := #[t, t] }, ty, pos, aft, none⟩).run P W = .ok (.value (.slice B (xs.length + ys.length) c')) W' ∧ R dk e W' (fun b => F b ∨ (∃ j, j < ys.length ∧ Gs j b) ∨ W.heap.size ≤ b) (.slice B (xs.length + ys.length) c') (xs ++ ys) ∧ Upd F W W' := by
 obtain ⟨v1, w1, hrun, h1, h2⟩ := run_appAny (P := P) W t ty z0 bytes ht hinfo hz hs0 hb0 A c Gs HR HC hd hd2 hl
 obtain ⟨B, c', e'⟩ := bK h1
 rw [List.length_append] at e'
 subst e'
 exact ⟨B, c', w1, by simp [execOp, resolve, invoke, builtin, dQ hx, dQ hy, hrun], h1, h2⟩
theorem op_appendA {t e bytes c : Nat} {α : Type} {dk : Kn α} {z0 : Value} {xs ys : List α} {A : Option Addr} {l0 : List HP} {dst : Option Nat}
 (ho : ops[i]? = some ⟨dst, .call { callee := .builtin .append, args := #[y, z], argTypes := #[t, t] }, ty, pos, aft, none⟩)
 (ht : P.underlying t = some (.slice e)) (hinfo : (P.info? e).map (fun i => (i.zero, i.size, i.bytes)) = some (some z0, dk.sz, bytes)) (hz : z0.cells.size = dk.sz) (hs0 : 0 < dk.sz) (hb0 : 0 < bytes)
 (hx : evl n live y = some v) (hy : evl n live z = some (.slice A ys.length c)) (hl : (xs.length + ys.length) * bytes ≤ 140737488355328) (hd : dst = some d) (hdn : decide (d < n) = true)
 (H : St w F0 ((hR dk e v xs :: l0) ++ l) W) (HC : ∀ F, Star l0 W F → ∃ Gs, CM dk W A ys Gs ∧ (∀ j b, Gs j b → F b) ∧ ∀ i j b, Gs i b → Gs j b → i = j)
 (h : ∀ B c W', St w F0 (hR dk e (.slice B (xs.length + ys.length) c) (xs ++ ys) :: l) W' → K (aZ n x ((d, .slice B (xs.length + ys.length) c) :: live)) W') : wpOp P ops Q i K (aZ n x live) W := by
 subst hd
 refine op_ok ho rfl ?_
 obtain ⟨F1, a1, _, a3⟩ := H.frame
 obtain ⟨FR, F2, b1, b2, b3, b4, b5⟩ := a1.uncons
 obtain ⟨Gs, g1, g2, g3⟩ := HC F2 b2
 obtain ⟨B, c', W', hrun, h1, h2⟩ := Rn_append (P := P) (ty := ty) (pos := pos) (aft := aft) (x := x) (dst := some d) ht hinfo hz hs0 hb0 hx hy b1 g1 (fun j b hb q => b5 b q (g2 j b hb)) g3 hl
 unfold Oper.wp
 rw [hrun]
 simp only [Oper.upon]
 rw [iY (of_decide_eq_true hdn)]
 refine h B c' W' (a3 [hR dk e (.slice B (xs.length + ys.length) c') (xs ++ ys)] W' ⟨h2.mono (fun b _ q => b3 b q), Star.one (iD (fun b q => ?_) h1)⟩)
 rcases q with q | ⟨j, _, q⟩ | q
 ·exact .inl (b3 b q)
 ·exact .inl (b4 b (g2 j b q))
 ·exact .inr q
theorem CM_one {α : Type} {dk : Kn α} {g e : Nat} {p : α} {cs : Array Value} {Fp : Nat → Prop} (hB : Blk W g e cs) (hp : dk.M W Fp p cs.toList) : CM dk W (some ⟨g, 0, none⟩) [p] (fun j b => j = 0 ∧ Fp b) := by
 refine ⟨by simp, fun _ => ⟨_, rfl, fun j q hj => ?_⟩⟩
 rcases j with _ | j
 ·simp only [List.getElem?_cons_zero, Option.some.injEq] at hj
  subst hj
  exact ⟨cs.toList, dk.gI (fun _ q => ⟨rfl, q⟩) hp, fun k u hu => by rw [Nat.zero_mul, Nat.zero_add]; exact hB.at' k u hu⟩
 ·simp at hj
theorem op_append1 {t e bytes g : Nat} {α : Type} {dk : Kn α} {z0 : Value} {xs : List α} {p : α} {cs : Array Value} {dst : Option Nat}
 (ho : ops[i]? = some ⟨dst, .call { callee := .builtin .append, args := #[y, z], argTypes := #[t, t] }, ty, pos, aft, none⟩)
 (ht : P.underlying t = some (.slice e)) (hinfo : (P.info? e).map (fun i => (i.zero, i.size, i.bytes)) = some (some z0, dk.sz, bytes)) (hz : z0.cells.size = dk.sz) (hs0 : 0 < dk.sz) (hb0 : 0 < bytes)
 (hx : evl n live y = some v) (hy : evl n live z = some (.slice (some ⟨g, 0, none⟩) 1 1)) (hl : (xs.length + 1) * bytes ≤ 140737488355328) (hd : dst = some d) (hdn : decide (d < n) = true)
 (H : St w F0 (hR dk e v xs :: hB g e cs :: hM dk p cs.toList :: l) W)
 (h : ∀ B c W', St w F0 (hR dk e (.slice B (xs.length + 1) c) (xs ++ [p]) :: l) W' → K (aZ n x ((d, .slice B (xs.length + 1) c) :: live)) W') : wpOp P ops Q i K (aZ n x live) W :=
 op_appendA (ys := [p]) (l0 := [hB g e cs, hM dk p cs.toList]) ho ht hinfo hz hs0 hb0 hx hy hl hd hdn H (fun F hF => by
  obtain ⟨Fg, F3, c1, c2, c3, c4, c5⟩ := hF.uncons
  obtain ⟨Fp, F4, d1, _, d3, _, _⟩ := c2.uncons
  exact ⟨_, CM_one c1.2 d1, fun j b hb => c4 b (d3 b hb.2), fun i j b hi hj => hi.1.trans hj.1.symm⟩) h
theorem op_append1f {t e bytes g : Nat} {α : Type} {dk : Kn α} {z0 : Value} {xs : List α} {p : α} {cs : Array Value} {dst : Option Nat}
 (ho : ops[i]? = some ⟨dst, .call { callee := .builtin .append, args := #[y, z], argTypes := #[t, t] }, ty, pos, aft, none⟩)
 (ht : P.underlying t = some (.slice e)) (hinfo : (P.info? e).map (fun i => (i.zero, i.size, i.bytes)) = some (some z0, dk.sz, bytes)) (hz : z0.cells.size = dk.sz) (hs0 : 0 < dk.sz) (hb0 : 0 < bytes)
 (hx : evl n live y = some v) (hy : evl n live z = some (.slice (some ⟨g, 0, none⟩) 1 1)) (hp : dk.M W No p cs.toList) (hl : (xs.length + 1) * bytes ≤ 140737488355328) (hd : dst = some d) (hdn : decide (d < n) = true)
 (H : St w F0 (hR dk e v xs :: hB g e cs :: l) W)
 (h : ∀ B c W', St w F0 (hR dk e (.slice B (xs.length + 1) c) (xs ++ [p]) :: l) W' → K (aZ n x ((d, .slice B (xs.length + 1) c) :: live)) W') : wpOp P ops Q i K (aZ n x live) W :=
 op_appendA (ys := [p]) (l0 := [hB g e cs]) ho ht hinfo hz hs0 hb0 hx hy hl hd hdn H (fun F hF => by
  obtain ⟨Fg, F3, c1, _, c3, _, _⟩ := hF.uncons
  exact ⟨_, CM_one c1.2 hp, fun j b hb => hb.2.elim, fun i j b hi hj => hi.1.trans hj.1.symm⟩) h
theorem op_appendN {t e bytes c : Nat} {α : Type} {dk : Kn α} {z0 : Value} {xs ys : List α} {A : Option Addr} {dst : Option Nat}
 (ho : ops[i]? = some ⟨dst, .call { callee := .builtin .append, args := #[y, z], argTypes := #[t, t] }, ty, pos, aft, none⟩)
 (ht : P.underlying t = some (.slice e)) (hinfo : (P.info? e).map (fun i => (i.zero, i.size, i.bytes)) = some (some z0, dk.sz, bytes)) (hz : z0.cells.size = dk.sz) (hs0 : 0 < dk.sz) (hb0 : 0 < bytes)
 (hf : Flat dk) (hx : evl n live y = some v) (hy : evl n live z = some (.slice A ys.length c)) (hC : C dk W A ys) (hl : (xs.length + ys.length) * bytes ≤ 140737488355328) (hd : dst = some d) (hdn : decide (d < n) = true)
 (H : St w F0 (hR dk e v xs :: l) W)
 (h : ∀ B c W', St w F0 (hR dk e (.slice B (xs.length + ys.length) c) (xs ++ ys) :: l) W' → K (aZ n x ((d, .slice B (xs.length + ys.length) c) :: live)) W') : wpOp P ops Q i K (aZ n x live) W :=
 op_appendA (l0 := []) ho ht hinfo hz hs0 hb0 hx hy hl hd hdn H (fun _ _ => ⟨_, jG hf hC, fun _ _ q => q.elim, fun _ _ _ q => q.elim⟩) h
theorem dR {t g tb m : Nat} {old cs : Array Value} (ho : ops[i]? = some ⟨none, .store t y z, ty, pos, aft, none⟩) (hS : ∀ w, (sizeOf t).run P w = .ok m w) (hx : evl n live y = some (.pointer (some ⟨g, 0, none⟩))) (hz : evl n live z = some (.agg cs)) (hm : cs.size = m) (hk : old.size = m) (h1 : ∀ u ∈ cs.toList, u.oneCell' = true) (H : St w F0 (hB g tb old :: l) W) (h : ∀ W', Upd (fun b => b = g) W W' → St w F0 (hB g tb cs :: l) W' → K (aZ n x live) W') : wpOp P ops Q i K (aZ n x live) W := by
 refine op_store0 ho hS hx hz hm kO h1 H (fun W' hu H' => h W' hu ?_)
 have e : put old 0 (Value.agg cs).cells.toList = cs := by
  simp only [put, Value.cells, List.take_zero, List.nil_append, Nat.zero_add]
  rw [List.drop_eq_nil_of_le (by simp; omega), List.append_nil, Array.toArray_toList]
 rw [← e]
 exact H'
theorem fK {dst : Option Nat} {t m g tb : Nat} {cs : Array Value} (hA : ∀ w, (isAgg t).run P w = .ok true w) (hS : ∀ w, (sizeOf t).run P w = .ok m w) (hx : evl n live y = some (.pointer (some ⟨g, 0, none⟩))) (hb : Blk W g tb cs) (hm : cs.size = m) : Rn P ⟨dst, .load t y, ty, pos, aft, none⟩ (aZ n x live) W (.agg cs) := rn_loadN hA hS hx hb.at' (by simpa using hm)
theorem dZ {dst : Option Nat} {t k g tb : Nat} {cs : Array Value} (hA : ∀ w, (isAgg t).run P w = .ok false w) (hx : evl n live y = some (.pointer (some (Addr.add ⟨g, 0, none⟩ k)))) (hb : Blk W g tb cs) (hv : cs[k]? = some v) : Rn P ⟨dst, .load t y, ty, pos, aft, none⟩ (aZ n x live) W v := rn_load hA hx (hb.at'.cell k (by simpa using hv))
theorem rn_loadE {dst : Option Nat} {t k : Nat} {a : Addr} {cs : List Value} (hA : ∀ w, (isAgg t).run P w = .ok false w) (hx : evl n live y = some (.pointer (some (a.add k)))) (hc : Cat W a cs) (hv : cs[k]? = some v) : Rn P ⟨dst, .load t y, ty, pos, aft, none⟩ (aZ n x live) W v := rn_load hA hx (hc.cell k hv)
theorem iR {dst : Option Nat} {t e sz k len cap : Nat} {A : Option Addr} {ad : Addr} (hu : ∀ w, (underlying t).run P w = .ok (.slice e) w) (hS : ∀ w, (sizeOf e).run P w = .ok sz w) (hx : evl n live y = some (.slice A len cap)) (hz : evl n live z = some (.int .i64 (k : Int))) (hA : A = some ad) (hk : k < len) : Rn P ⟨dst, .indexAddr t y z, ty, pos, aft, none⟩ (aZ n x live) W (.pointer (some (ad.add (k * sz)))) := by
 subst hA
 exact rn_index hu hS hx hz hk
theorem Cat.cell0 {W : World} {a : Addr} {cs : List Value} {v : Value} (h : Cat W a cs) (hv : cs[0]? = some v) : W.cell? a = some v := h 0 v hv
theorem St.rowC {α : Type} {dk : Kn α} {e m c : Nat} {A : Option Addr} {xs : List α} (h : St w F0 l W) (i : Nat) (hq : l[i]? = some (hR dk e (.slice A m c) xs)) : C dk W A xs := by
 obtain ⟨F, hF⟩ := h.get i hq
 exact R_C hF
theorem St.kn {α : Type} {dk : Kn α} {p : α} {cs : List Value} (h : St w F0 l W) (i : Nat) (hq : l[i]? = some (hM dk p cs)) : dk.K W p cs := by
 obtain ⟨F, hF⟩ := h.get i hq
 exact dk.eT hF
theorem then_r {a : Act} (h : Q .ret a W) : Exit.then K Q .ret a W := h
theorem inB_r {a : Act} {id : Nat} (h : Q .ret a W) : Exit.inBlock id Q .ret a W := h
theorem gP {a : Act} {id : Nat} (h : Q (.exit id) a W) : Exit.then K Q (.exit id) a W := h
theorem wanted_G {o oj : Oper} {j dj : Nat} {want b : Bool} (hg : o.guard = some (j, want)) (hj : ops[j]? = some oj) (hdj : oj.dst = some dj) (hv : evl n live (.tmp dj) = some (.bool b)) : Region.wanted o (yielded ops (aZ n x live).tmps) = (b == want) := by
 have e2 := dQ (x := x) hv
 simp only [Act.eval, Array.getD_eq_getD_getElem?] at e2
 unfold Region.wanted yielded
 simp only [hg, hj, Option.bind_some, hdj]
 cases e : (aZ n x live).tmps[dj]? with
 | none => rw [e] at e2; cases e2
 | some u =>
  rw [e] at e2
  simp only [Option.getD_some] at e2
  subst e2
  simp
theorem op_G {dst : Option Nat} {op : Op} {j dj : Nat} {want : Bool} {oj : Oper} (ho : ops[i]? = some ⟨dst, op, ty, pos, aft, some (j, want)⟩) (hj : ops[j]? = some oj) (hdj : oj.dst = some dj) (hv : evl n live (.tmp dj) = some (.bool want)) (h : ∀ ops' : Array Oper, ops'[i]? = some ⟨dst, op, ty, pos, aft, none⟩ → wpOp P ops' Q i K (aZ n x live) W) : wpOp P ops Q i K (aZ n x live) W := by
 have hi : i < ops.size := (Array.getElem?_eq_some_iff.1 ho).1
 have h1 := h (ops.setIfInBounds i ⟨dst, op, ty, pos, aft, none⟩) (by simp [hi])
 unfold wpOp at h1 ⊢
 rw [show (ops.setIfInBounds i ⟨dst, op, ty, pos, aft, none⟩)[i]? = some ⟨dst, op, ty, pos, aft, none⟩ by simp [hi]] at h1
 simp only [ho] at h1 ⊢
 have hw : Region.wanted ⟨dst, op, ty, pos, aft, some (j, want)⟩ (yielded ops (aZ n x live).tmps) = true := by
  rw [wanted_G rfl hj hdj hv]
  simp
 rw [if_pos hw]
 rw [if_pos (show Region.wanted _ _ = true from rfl)] at h1
 exact h1
theorem op_skipG {dst : Option Nat} {op : Op} {j dj : Nat} {want b : Bool} {oj : Oper} (ho : ops[i]? = some ⟨dst, op, ty, pos, aft, some (j, want)⟩) (hj : ops[j]? = some oj) (hdj : oj.dst = some dj) (hv : evl n live (.tmp dj) = some (.bool b)) (hb : (b == want) = false) (hd : dst = some d) (hdn : decide (d < n) = true) (h : K (aZ n x ((d, undef) :: live)) W) : wpOp P ops Q i K (aZ n x live) W := by
 subst hd
 unfold wpOp
 simp only [ho]
 have hw : Region.wanted ⟨some d, op, ty, pos, aft, some (j, want)⟩ (yielded ops (aZ n x live).tmps) = false := by
  rw [wanted_G rfl hj hdj hv, hb]
 rw [hw]
 simp only [Bool.false_eq_true, if_false]
 rw [iY (of_decide_eq_true hdn)]
 exact h
theorem iF {t e bytes g n' : Nat} {α : Type} {dk : Kn α} {z0 : Value} {xs ys : List α} {p : α} {cs : Array Value} {dst : Option Nat}
 (ho : ops[i]? = some ⟨dst, .call { callee := .builtin .append, args := #[y, z], argTypes := #[t, t] }, ty, pos, aft, none⟩)
 (ht : P.underlying t = some (.slice e)) (hinfo : (P.info? e).map (fun i => (i.zero, i.size, i.bytes)) = some (some z0, dk.sz, bytes)) (hz : z0.cells.size = dk.sz) (hs0 : 0 < dk.sz) (hb0 : 0 < bytes)
 (hx : evl n live y = some v) (hy : evl n live z = some (.slice (some ⟨g, 0, none⟩) 1 1)) (hl : (xs.length + 1) * bytes ≤ 140737488355328) (hn : xs.length + 1 = n') (hys : xs ++ [p] = ys) (hd : dst = some d) (hdn : decide (d < n) = true)
 (H : St w F0 (hR dk e v xs :: hB g e cs :: hM dk p cs.toList :: l) W)
 (h : ∀ B c W', St w F0 (hR dk e (.slice B n' c) ys :: l) W' → K (aZ n x ((d, .slice B n' c) :: live)) W') : wpOp P ops Q i K (aZ n x live) W := by
 subst hn hys
 exact op_append1 ho ht hinfo hz hs0 hb0 hx hy hl hd hdn H h
theorem kF {t e bytes g n' : Nat} {α : Type} {dk : Kn α} {z0 : Value} {xs ys : List α} {p : α} {cs : Array Value} {dst : Option Nat}
 (ho : ops[i]? = some ⟨dst, .call { callee := .builtin .append, args := #[y, z], argTypes := #[t, t] }, ty, pos, aft, none⟩)
 (ht : P.underlying t = some (.slice e)) (hinfo : (P.info? e).map (fun i => (i.zero, i.size, i.bytes)) = some (some z0, dk.sz, bytes)) (hz : z0.cells.size = dk.sz) (hs0 : 0 < dk.sz) (hb0 : 0 < bytes)
 (hx : evl n live y = some v) (hy : evl n live z = some (.slice (some ⟨g, 0, none⟩) 1 1)) (hp : dk.M W No p cs.toList) (hl : (xs.length + 1) * bytes ≤ 140737488355328) (hn : xs.length + 1 = n') (hys : xs ++ [p] = ys) (hd : dst = some d) (hdn : decide (d < n) = true)
 (H : St w F0 (hR dk e v xs :: hB g e cs :: l) W)
 (h : ∀ B c W', St w F0 (hR dk e (.slice B n' c) ys :: l) W' → K (aZ n x ((d, .slice B n' c) :: live)) W') : wpOp P ops Q i K (aZ n x live) W := by
 subst hn hys
 exact op_append1f ho ht hinfo hz hs0 hb0 hx hy hp hl hd hdn H h
theorem op_appendN' {t e bytes c n' : Nat} {α : Type} {dk : Kn α} {z0 : Value} {xs ys zs : List α} {A : Option Addr} {dst : Option Nat}
 (ho : ops[i]? = some ⟨dst, .call { callee := .builtin .append, args := #[y, z], argTypes := #[t, t] }, ty, pos, aft, none⟩)
 (ht : P.underlying t = some (.slice e)) (hinfo : (P.info? e).map (fun i => (i.zero, i.size, i.bytes)) = some (some z0, dk.sz, bytes)) (hz : z0.cells.size = dk.sz) (hs0 : 0 < dk.sz) (hb0 : 0 < bytes)
 (hf : Flat dk) (hx : evl n live y = some v) (hy : evl n live z = some (.slice A ys.length c)) (hC : C dk W A ys) (hl : (xs.length + ys.length) * bytes ≤ 140737488355328) (hn : xs.length + ys.length = n') (hys : xs ++ ys = zs) (hd : dst = some d) (hdn : decide (d < n) = true)
 (H : St w F0 (hR dk e v xs :: l) W)
 (h : ∀ B c W', St w F0 (hR dk e (.slice B n' c) zs :: l) W' → K (aZ n x ((d, .slice B n' c) :: live)) W') : wpOp P ops Q i K (aZ n x live) W := by
 subst hn hys
 exact op_appendN ho ht hinfo hz hs0 hb0 hf hx hy hC hl hd hdn H h
theorem jS {o : Oper} {a : Act} {p : Prop} [Decidable p] (hn : ¬ p) (h : Rn P o a W (.bool (decide p))) : Rn P o a W (.bool false) := by
 rw [decide_eq_false hn] at h
 exact h
theorem rn_decT {o : Oper} {a : Act} {p : Prop} [Decidable p] (hn : p) (h : Rn P o a W (.bool (decide p))) : Rn P o a W (.bool true) := by
 rw [decide_eq_true hn] at h
 exact h
theorem absS {b : Bool} {p : Prop} (e : b = true) (h : b = false) : p := by rw [e] at h; cases h
theorem bX {n : Nat} {x : Nat → Value} {live : List (Nat × Value)} (live' : List (Nat × Value)) (h2 : live'.map (fun p => some p.2) = live'.map (fun p => live.lookup p.1)) : ∃ x', aZ n x live = aZ n x' live' := actOf_drop (fun _ _ hm => (List.map_inj_left.1 h2 _ hm).symm)
end
end Go.Proofs.YtfnedoiplblldaaGreatSep
namespace Go.Proofs.YtfnedoiplblldaaGreatT
open Go.RowKit Go.Proofs.YtfnedoiplblldaaGreatSep
theorem fa_36_1 : kE Tryz.prog 36 1 1 := fun a W => by simp [Instr.fieldAt, Tryz.runUnderlying36, Instr.sureAddr, fieldPlace, Tryz.sizeOf32]
theorem fa_68_1 : kE Tryz.prog 68 1 1 := fun a W => by simp [Instr.fieldAt, Tryz.runUnderlying68, Instr.sureAddr, fieldPlace, Tryz.sizeOf63]
theorem fa_68_3 : kE Tryz.prog 68 3 3 := fun a W => by simp [Instr.fieldAt, Tryz.runUnderlying68, Instr.sureAddr, fieldPlace, Tryz.sizeOf65]
theorem iM : kE Tryz.prog 178 2 2 := fun a W => by simp [Instr.fieldAt, Tryz.runUnderlying178, Instr.sureAddr, fieldPlace, Tryz.sizeOf175]
theorem jY : kE Tryz.prog 178 3 3 := fun a W => by simp [Instr.fieldAt, Tryz.runUnderlying178, Instr.sureAddr, fieldPlace, Tryz.sizeOf3]
theorem fa_256_0 : kE Tryz.prog 256 0 0 := fun a W => by simp [Instr.fieldAt, Tryz.runUnderlying256, Instr.sureAddr, fieldPlace, Tryz.sizeOf3]
theorem fa_256_1 : kE Tryz.prog 256 1 1 := fun a W => by simp [Instr.fieldAt, Tryz.runUnderlying256, Instr.sureAddr, fieldPlace, Tryz.sizeOf3]
theorem fa_256_2 : kE Tryz.prog 256 2 2 := fun a W => by simp [Instr.fieldAt, Tryz.runUnderlying256, Instr.sureAddr, fieldPlace, Tryz.sizeOf3]
theorem int_info : (Tryz.prog.info? 3).map (fun i => (i.zero, i.size, i.bytes)) = some (some (.int .i64 0), 1, 8) := by kernel_rfl
end Go.Proofs.YtfnedoiplblldaaGreatT
namespace Go.Proofs.YtfnedoiplblldaaGreatT
open Go.Proofs.YtfnedoiplblldaaGreatSep
def dgs (n : Nat) : List UInt8 := if n = 0 then [] else dgs (n / 10) ++ [UInt8.ofNat (48 + n % 10)]
termination_by n
def mtx (k : Int) : ByteArray := ⟨⟨109 :: (if k ≤ 0 then [48] else dgs k.toNat)⟩⟩
structure GInstr where
 Op : Int
 A : Int
 B : Int
 C : Int
 D : Int
 Name : ByteArray
def zInstr : GInstr := ⟨0, 0, 0, 0, 0, ⟨#[]⟩⟩
def dX (x : GInstr) : Nat := x.Name.size
def Bd_Instr (x : GInstr) : Prop := x.Name.size ≤ 9223372036854775807
def Gd_Instr (x : GInstr) : Prop := (Lit.int .i64 x.Op).wf = true ∧ (Lit.int .i64 x.A).wf = true ∧ (Lit.int .i64 x.B).wf = true ∧ (Lit.int .i64 x.C).wf = true ∧ (Lit.int .i64 x.D).wf = true ∧ x.Name.size ≤ 9223372036854775807
theorem Bd_of_Instr {x : GInstr} (h : Gd_Instr x) : Bd_Instr x := by
 obtain ⟨g0, g1, g2, g3, g4, g5⟩ := h
 exact g5
def bO (_ : GInstr) : Int := ((((((0 + 1) + 1) + 1) + 1) + 1) + 1)
def iN (k : Int) (_ : GInstr) : GInstr := ⟨k, (k + 1), ((k + 1) + 1), (((k + 1) + 1) + 1), ((((k + 1) + 1) + 1) + 1), mtx ((((((k + 1) + 1) + 1) + 1) + 1))⟩
theorem iI (x : GInstr) : 0 ≤ bO x := by
 unfold bO
 omega
theorem cnt_Instr_le (x : GInstr) : bO x ≤ 20 + 20 * (dX x : Int) := by
 unfold bO dX
 omega
structure GMethod where
 Name : ByteArray
 Code : List GInstr
def zMethod : GMethod := ⟨⟨#[]⟩, []⟩
def bT (x : GMethod) : Nat := x.Name.size + dP dX x.Code
def Bd_Method (x : GMethod) : Prop := x.Name.size ≤ 9223372036854775807 ∧ (∀ y ∈ x.Code, Bd_Instr y)
def Gd_Method (x : GMethod) : Prop := x.Name.size ≤ 9223372036854775807 ∧ (x.Code.length ≤ 9223372036854775807 ∧ ∀ y ∈ x.Code, Gd_Instr y)
theorem Bd_of_Method {x : GMethod} (h : Gd_Method x) : Bd_Method x := by
 obtain ⟨g0, g1⟩ := h
 exact ⟨g0, (fun y hy => Bd_of_Instr (g1.2 y hy))⟩
def bI (x : GMethod) : Int := ((0 + 1) + aK bO x.Code)
def gQ (k : Int) (x : GMethod) : GMethod := ⟨mtx (k), mkS iN bO (k + 1) x.Code⟩
theorem gY (x : GMethod) : 0 ≤ bI x := by
 have h1 := bN bO iI x.Code
 unfold bI
 omega
theorem cnt_Method_le (x : GMethod) : bI x ≤ 20 + 20 * (bT x : Int) := by
 have h1 := dM bO dX cnt_Instr_le x.Code
 unfold bI bT
 omega
structure GScript where
 Name : ByteArray
 Methods : List GMethod
def zScript : GScript := ⟨⟨#[]⟩, []⟩
def bP (x : GScript) : Nat := x.Name.size + dP bT x.Methods
def Bd_Script (x : GScript) : Prop := x.Name.size ≤ 9223372036854775807 ∧ (∀ y ∈ x.Methods, Bd_Method y)
def Gd_Script (x : GScript) : Prop := x.Name.size ≤ 9223372036854775807 ∧ (x.Methods.length ≤ 9223372036854775807 ∧ ∀ y ∈ x.Methods, Gd_Method y)
theorem Bd_of_Script {x : GScript} (h : Gd_Script x) : Bd_Script x := by
 obtain ⟨g0, g1⟩ := h
 exact ⟨g0, (fun y hy => Bd_of_Method (g1.2 y hy))⟩
def aW (x : GScript) : Int := ((0 + 1) + aK bI x.Methods)
def fG (k : Int) (x : GScript) : GScript := ⟨mtx (k), mkS gQ bI (k + 1) x.Methods⟩
theorem gD (x : GScript) : 0 ≤ aW x := by
 have h1 := bN bI gY x.Methods
 unfold aW
 omega
theorem cnt_Script_le (x : GScript) : aW x ≤ 20 + 20 * (bP x : Int) := by
 have h1 := dM bI bT cnt_Method_le x.Methods
 unfold aW bP
 omega
structure GValue where
 Kind : Int
 N : Int
def kL (_ : GValue) : Nat := 0
def aU (_ : GValue) : Int := ((0 + 1) + 1)
def fZ (k : Int) (_ : GValue) : GValue := ⟨k, (k + 1)⟩
theorem fM (x : GValue) : 0 ≤ aU x := by
 unfold aU
 omega
theorem cnt_Value_le (x : GValue) : aU x ≤ 20 + 20 * (kL x : Int) := by
 unfold aU kL
 omega
structure GTag where
 Vat : Int
 Entity : Int
 Seq : Int
structure GSent where
 Target : Int
 Name : ByteArray
 dG : List GValue
 Result : Int
 Tag : GTag
def szn_Sent (x : GSent) : Nat := x.Name.size + dP kL x.dG
def bC (x : GSent) : Int := (((((((0 + 1) + 1) + aK aU x.dG) + 1) + 1) + 1) + 1)
def iB (k : Int) (x : GSent) : GSent := ⟨k, mtx ((k + 1)), mkS fZ aU ((k + 1) + 1) x.dG, (((k + 1) + 1) + aK aU x.dG), ⟨((((k + 1) + 1) + aK aU x.dG) + 1), (((((k + 1) + 1) + aK aU x.dG) + 1) + 1), ((((((k + 1) + 1) + aK aU x.dG) + 1) + 1) + 1)⟩⟩
theorem gF (x : GSent) : 0 ≤ bC x := by
 have h2 := bN aU fM x.dG
 unfold bC
 omega
theorem cnt_Sent_le (x : GSent) : bC x ≤ 20 + 20 * (szn_Sent x : Int) := by
 have h2 := dM aU kL cnt_Value_le x.dG
 unfold bC szn_Sent
 omega
structure GAsker where
 dW : Int
 Question : Int
def szn_Asker (_ : GAsker) : Nat := 0
def bM (_ : GAsker) : Int := ((0 + 1) + 1)
def iO (k : Int) (_ : GAsker) : GAsker := ⟨k, (k + 1)⟩
theorem iJ (x : GAsker) : 0 ≤ bM x := by
 unfold bM
 omega
theorem cnt_Asker_le (x : GAsker) : bM x ≤ 20 + 20 * (szn_Asker x : Int) := by
 unfold bM szn_Asker
 omega
structure GEntity where
 Kind : Int
 Script : Int
 fF : List GValue
 State : Int
 Value : GValue
 Queue : List GSent
 eF : List GAsker
 dW : Int
 Pos : Int
 Count : Int
 Sent : Int
def szn_Entity (x : GEntity) : Nat := dP kL x.fF + dP szn_Sent x.Queue + dP szn_Asker x.eF
def bG (x : GEntity) : Int := ((((((((((((0 + 1) + 1) + aK aU x.fF) + 1) + 1) + 1) + aK bC x.Queue) + aK bM x.eF) + 1) + 1) + 1) + 1)
def gT (k : Int) (x : GEntity) : GEntity := ⟨k, (k + 1), mkS fZ aU ((k + 1) + 1) x.fF, (((k + 1) + 1) + aK aU x.fF), ⟨((((k + 1) + 1) + aK aU x.fF) + 1), (((((k + 1) + 1) + aK aU x.fF) + 1) + 1)⟩, mkS iB bC ((((((k + 1) + 1) + aK aU x.fF) + 1) + 1) + 1) x.Queue, mkS iO bM (((((((k + 1) + 1) + aK aU x.fF) + 1) + 1) + 1) + aK bC x.Queue) x.eF, ((((((((k + 1) + 1) + aK aU x.fF) + 1) + 1) + 1) + aK bC x.Queue) + aK bM x.eF), (((((((((k + 1) + 1) + aK aU x.fF) + 1) + 1) + 1) + aK bC x.Queue) + aK bM x.eF) + 1), ((((((((((k + 1) + 1) + aK aU x.fF) + 1) + 1) + 1) + aK bC x.Queue) + aK bM x.eF) + 1) + 1), (((((((((((k + 1) + 1) + aK aU x.fF) + 1) + 1) + 1) + aK bC x.Queue) + aK bM x.eF) + 1) + 1) + 1)⟩
theorem gZ (x : GEntity) : 0 ≤ bG x := by
 have h2 := bN aU fM x.fF
 have h6 := bN bC gF x.Queue
 have h7 := bN bM iJ x.eF
 unfold bG
 omega
theorem cnt_Entity_le (x : GEntity) : bG x ≤ 20 + 20 * (szn_Entity x : Int) := by
 have h2 := dM aU kL cnt_Value_le x.fF
 have h6 := dM bC szn_Sent cnt_Sent_le x.Queue
 have h7 := dM bM szn_Asker cnt_Asker_le x.eF
 unfold bG szn_Entity
 omega
structure GExport where
 Pos : Int
 Entity : Int
 Count : Int
def jR (_ : GExport) : Nat := 0
def bD (_ : GExport) : Int := (((0 + 1) + 1) + 1)
def gU (k : Int) (_ : GExport) : GExport := ⟨k, (k + 1), ((k + 1) + 1)⟩
theorem iA (x : GExport) : 0 ≤ bD x := by
 unfold bD
 omega
theorem cnt_Export_le (x : GExport) : bD x ≤ 20 + 20 * (jR x : Int) := by
 unfold bD jR
 omega
structure GQuestion where
 Id : Int
 Promise : Int
def fO (_ : GQuestion) : Nat := 0
def aQ (_ : GQuestion) : Int := ((0 + 1) + 1)
def dV (k : Int) (_ : GQuestion) : GQuestion := ⟨k, (k + 1)⟩
theorem eB (x : GQuestion) : 0 ≤ aQ x := by
 unfold aQ
 omega
theorem cnt_Question_le (x : GQuestion) : aQ x ≤ 20 + 20 * (fO x : Int) := by
 unfold aQ fO
 omega
structure GLink where
 dW : Int
 Up : Bool
 aC : List GExport
 Next : Int
 aD : List GQuestion
 dN : Int
 aN : List GQuestion
def iP (x : GLink) : Nat := dP jR x.aC + dP fO x.aD + dP fO x.aN
def bQ (x : GLink) : Int := (((((((0 + 1) + 1) + aK bD x.aC) + 1) + aK aQ x.aD) + 1) + aK aQ x.aN)
def jE (k : Int) (x : GLink) : GLink := ⟨k, (((k + 1)) % 3 == 0), mkS gU bD ((k + 1) + 1) x.aC, (((k + 1) + 1) + aK bD x.aC), mkS dV aQ ((((k + 1) + 1) + aK bD x.aC) + 1) x.aD, (((((k + 1) + 1) + aK bD x.aC) + 1) + aK aQ x.aD), mkS dV aQ ((((((k + 1) + 1) + aK bD x.aC) + 1) + aK aQ x.aD) + 1) x.aN⟩
theorem iV (x : GLink) : 0 ≤ bQ x := by
 have h2 := bN bD iA x.aC
 have h4 := bN aQ eB x.aD
 have h6 := bN aQ eB x.aN
 unfold bQ
 omega
theorem cnt_Link_le (x : GLink) : bQ x ≤ 20 + 20 * (iP x : Int) := by
 have h2 := dM bD jR cnt_Export_le x.aC
 have h4 := dM aQ fO cnt_Question_le x.aD
 have h6 := dM aQ fO cnt_Question_le x.aN
 unfold bQ iP
 omega
structure GWire where
 Kind : Int
 N : Int
def szn_Wire (_ : GWire) : Nat := 0
def aX (_ : GWire) : Int := ((0 + 1) + 1)
def iC (k : Int) (_ : GWire) : GWire := ⟨k, (k + 1)⟩
theorem gG (x : GWire) : 0 ≤ aX x := by
 unfold aX
 omega
theorem cnt_Wire_le (x : GWire) : aX x ≤ 20 + 20 * (szn_Wire x : Int) := by
 unfold aX szn_Wire
 omega
structure GMessage where
 Kind : Int
 Pos : Int
 Answer : Int
 Question : Int
 Name : ByteArray
 dG : List GWire
 Value : GWire
 Count : Int
 Tag : GTag
def jL (x : GMessage) : Nat := x.Name.size + dP szn_Wire x.dG
def bA (x : GMessage) : Int := ((((((((((((0 + 1) + 1) + 1) + 1) + 1) + aK aX x.dG) + 1) + 1) + 1) + 1) + 1) + 1)
def fT (k : Int) (x : GMessage) : GMessage := ⟨k, (k + 1), ((k + 1) + 1), (((k + 1) + 1) + 1), mtx (((((k + 1) + 1) + 1) + 1)), mkS iC aX (((((k + 1) + 1) + 1) + 1) + 1) x.dG, ⟨((((((k + 1) + 1) + 1) + 1) + 1) + aK aX x.dG), (((((((k + 1) + 1) + 1) + 1) + 1) + aK aX x.dG) + 1)⟩, ((((((((k + 1) + 1) + 1) + 1) + 1) + aK aX x.dG) + 1) + 1), ⟨(((((((((k + 1) + 1) + 1) + 1) + 1) + aK aX x.dG) + 1) + 1) + 1), ((((((((((k + 1) + 1) + 1) + 1) + 1) + aK aX x.dG) + 1) + 1) + 1) + 1), (((((((((((k + 1) + 1) + 1) + 1) + 1) + aK aX x.dG) + 1) + 1) + 1) + 1) + 1)⟩⟩
theorem gJ (x : GMessage) : 0 ≤ bA x := by
 have h5 := bN aX gG x.dG
 unfold bA
 omega
theorem cnt_Message_le (x : GMessage) : bA x ≤ 20 + 20 * (jL x : Int) := by
 have h5 := dM aX szn_Wire cnt_Wire_le x.dG
 unfold bA jL
 omega
structure GOutgoing where
 To : Int
 Message : GMessage
def kG (x : GOutgoing) : Nat := jL x.Message
def aV (x : GOutgoing) : Int := (((((((((((((0 + 1) + 1) + 1) + 1) + 1) + 1) + aK aX x.Message.dG) + 1) + 1) + 1) + 1) + 1) + 1)
def fH (k : Int) (x : GOutgoing) : GOutgoing := ⟨k, ⟨(k + 1), ((k + 1) + 1), (((k + 1) + 1) + 1), ((((k + 1) + 1) + 1) + 1), mtx ((((((k + 1) + 1) + 1) + 1) + 1)), mkS iC aX ((((((k + 1) + 1) + 1) + 1) + 1) + 1) x.Message.dG, ⟨(((((((k + 1) + 1) + 1) + 1) + 1) + 1) + aK aX x.Message.dG), ((((((((k + 1) + 1) + 1) + 1) + 1) + 1) + aK aX x.Message.dG) + 1)⟩, (((((((((k + 1) + 1) + 1) + 1) + 1) + 1) + aK aX x.Message.dG) + 1) + 1), ⟨((((((((((k + 1) + 1) + 1) + 1) + 1) + 1) + aK aX x.Message.dG) + 1) + 1) + 1), (((((((((((k + 1) + 1) + 1) + 1) + 1) + 1) + aK aX x.Message.dG) + 1) + 1) + 1) + 1), ((((((((((((k + 1) + 1) + 1) + 1) + 1) + 1) + aK aX x.Message.dG) + 1) + 1) + 1) + 1) + 1)⟩⟩⟩
theorem fU (x : GOutgoing) : 0 ≤ aV x := by
 have h6 := bN aX gG x.Message.dG
 unfold aV
 omega
theorem cnt_Outgoing_le (x : GOutgoing) : aV x ≤ 20 + 20 * (kG x : Int) := by
 have h6 := dM aX szn_Wire cnt_Wire_le x.Message.dG
 unfold aV kG jL
 omega
structure GVat where
 Id : Int
 dH : List GEntity
 Loop : List GSent
 gK : List GLink
 Out : List GOutgoing
def szn_Vat (x : GVat) : Nat := dP szn_Entity x.dH + dP szn_Sent x.Loop + dP iP x.gK + dP kG x.Out
def dB (x : GVat) : Int := (((((0 + 1) + aK bG x.dH) + aK bC x.Loop) + aK bQ x.gK) + aK aV x.Out)
def mk_Vat (k : Int) (x : GVat) : GVat := ⟨k, mkS gT bG (k + 1) x.dH, mkS iB bC ((k + 1) + aK bG x.dH) x.Loop, mkS jE bQ (((k + 1) + aK bG x.dH) + aK bC x.Loop) x.gK, mkS fH aV ((((k + 1) + aK bG x.dH) + aK bC x.Loop) + aK bQ x.gK) x.Out⟩
theorem jJ (x : GVat) : 0 ≤ dB x := by
 have h1 := bN bG gZ x.dH
 have h2 := bN bC gF x.Loop
 have h3 := bN bQ iV x.gK
 have h4 := bN aV fU x.Out
 unfold dB
 omega
theorem cnt_Vat_le (x : GVat) : dB x ≤ 20 + 20 * (szn_Vat x : Int) := by
 have h1 := dM bG szn_Entity cnt_Entity_le x.dH
 have h2 := dM bC szn_Sent cnt_Sent_le x.Loop
 have h3 := dM bQ iP cnt_Link_le x.gK
 have h4 := dM aV kG cnt_Outgoing_le x.Out
 unfold dB szn_Vat
 omega
structure GChannel where
 From : Int
 To : Int
 List : List GMessage
def jZ (x : GChannel) : Nat := dP jL x.List
def bE (x : GChannel) : Int := (((0 + 1) + 1) + aK bA x.List)
def gL (k : Int) (x : GChannel) : GChannel := ⟨k, (k + 1), mkS fT bA ((k + 1) + 1) x.List⟩
theorem gM (x : GChannel) : 0 ≤ bE x := by
 have h2 := bN bA gJ x.List
 unfold bE
 omega
theorem cnt_Channel_le (x : GChannel) : bE x ≤ 20 + 20 * (jZ x : Int) := by
 have h2 := dM bA jL cnt_Message_le x.List
 unfold bE jZ
 omega
structure GNote where
 Kind : Int
 Vat : Int
 Entity : Int
 Tag : GTag
def szn_Note (_ : GNote) : Nat := 0
def bV (_ : GNote) : Int := ((((((0 + 1) + 1) + 1) + 1) + 1) + 1)
def jM (k : Int) (_ : GNote) : GNote := ⟨k, (k + 1), ((k + 1) + 1), ⟨(((k + 1) + 1) + 1), ((((k + 1) + 1) + 1) + 1), (((((k + 1) + 1) + 1) + 1) + 1)⟩⟩
theorem iW (x : GNote) : 0 ≤ bV x := by
 unfold bV
 omega
theorem cnt_Note_le (x : GNote) : bV x ≤ 20 + 20 * (szn_Note x : Int) := by
 unfold bV szn_Note
 omega
structure GWorld where
 eY : List GScript
 Vats : List GVat
 eH : List GChannel
 jD : List GNote
 Strays : Int
def szn_World (x : GWorld) : Nat := dP bP x.eY + dP szn_Vat x.Vats + dP jZ x.eH + dP szn_Note x.jD
def cZ (x : GWorld) : Int := ((((0 + aK aW x.eY) + aK dB x.Vats) + aK bE x.eH) + aK bV x.jD)
def iZ (k : Int) (x : GWorld) : GWorld := ⟨mkS fG aW k x.eY, mkS mk_Vat dB (k + aK aW x.eY) x.Vats, mkS gL bE ((k + aK aW x.eY) + aK dB x.Vats) x.eH, mkS jM bV (((k + aK aW x.eY) + aK dB x.Vats) + aK bE x.eH) x.jD, x.Strays⟩
end Go.Proofs.YtfnedoiplblldaaGreatT
namespace Go.Proofs.YtfnedoiplblldaaGreatK
open Go.RowKit Go.Proofs.YtfnedoiplblldaaGreatSep Go.Proofs.YtfnedoiplblldaaGreatT
def iE : Kn GInstr := Kn.iso (Kn.pair Kn.int (Kn.pair Kn.int (Kn.pair Kn.int (Kn.pair Kn.int (Kn.pair Kn.int Kn.string))))) (fun x => (x.Op, x.A, x.B, x.C, x.D, x.Name))
theorem kl_Instr_K {w : World} {x : GInstr} {cs : List Value} (h : iE.K w x cs) : cs = [.int .i64 x.Op, .int .i64 x.A, .int .i64 x.B, .int .i64 x.C, .int .i64 x.D, .string x.Name] := by
 obtain ⟨_, _, rfl, rfl, ⟨_, _, rfl, rfl, ⟨_, _, rfl, rfl, ⟨_, _, rfl, rfl, ⟨_, _, rfl, rfl, rfl⟩⟩⟩⟩⟩ := h
 exact rfl
theorem kl_Instr_at {w : World} {A : Option Addr} {l : List GInstr} (h : C iE w A l) (i : Nat) (hi : i < l.length) : ∃ (ad : Addr), A = some ad ∧ w.cell? (ad.add (i * 6)) = some (.int .i64 l[i].Op) ∧ w.cell? ⟨(ad.add (i * 6)).block, (ad.add (i * 6)).off + 1, none⟩ = some (.int .i64 l[i].A) ∧ w.cell? ⟨(ad.add (i * 6)).block, (ad.add (i * 6)).off + 2, none⟩ = some (.int .i64 l[i].B) ∧ w.cell? ⟨(ad.add (i * 6)).block, (ad.add (i * 6)).off + 3, none⟩ = some (.int .i64 l[i].C) ∧ w.cell? ⟨(ad.add (i * 6)).block, (ad.add (i * 6)).off + 4, none⟩ = some (.int .i64 l[i].D) ∧ w.cell? ⟨(ad.add (i * 6)).block, (ad.add (i * 6)).off + 5, none⟩ = some (.string l[i].Name) := by
 obtain ⟨ad, c, h1, h2, h3, h4⟩ := C_at h i hi
 obtain rfl := kl_Instr_K h2
 exact ⟨ad, h1, h3 _ rfl, h4 0 _ rfl, h4 1 _ rfl, h4 2 _ rfl, h4 3 _ rfl, h4 4 _ rfl⟩
def dF : Kn GInstr := Kn.iso (Kn.pair Kn.int (Kn.pair Kn.int (Kn.pair Kn.int (Kn.pair Kn.int (Kn.pair Kn.int Kn.string))))) (fun x => (x.Op, x.A, x.B, x.C, x.D, x.Name))
theorem ki_Instr_K {w : World} {x : GInstr} {cs : List Value} (h : dF.K w x cs) : cs = [.int .i64 x.Op, .int .i64 x.A, .int .i64 x.B, .int .i64 x.C, .int .i64 x.D, .string x.Name] := by
 obtain ⟨_, _, rfl, rfl, ⟨_, _, rfl, rfl, ⟨_, _, rfl, rfl, ⟨_, _, rfl, rfl, ⟨_, _, rfl, rfl, rfl⟩⟩⟩⟩⟩ := h
 exact rfl
theorem ki_Instr_at {w : World} {A : Option Addr} {l : List GInstr} (h : C dF w A l) (i : Nat) (hi : i < l.length) : ∃ (ad : Addr), A = some ad ∧ w.cell? (ad.add (i * 6)) = some (.int .i64 l[i].Op) ∧ w.cell? ⟨(ad.add (i * 6)).block, (ad.add (i * 6)).off + 1, none⟩ = some (.int .i64 l[i].A) ∧ w.cell? ⟨(ad.add (i * 6)).block, (ad.add (i * 6)).off + 2, none⟩ = some (.int .i64 l[i].B) ∧ w.cell? ⟨(ad.add (i * 6)).block, (ad.add (i * 6)).off + 3, none⟩ = some (.int .i64 l[i].C) ∧ w.cell? ⟨(ad.add (i * 6)).block, (ad.add (i * 6)).off + 4, none⟩ = some (.int .i64 l[i].D) ∧ w.cell? ⟨(ad.add (i * 6)).block, (ad.add (i * 6)).off + 5, none⟩ = some (.string l[i].Name) := by
 obtain ⟨ad, c, h1, h2, h3, h4⟩ := C_at h i hi
 obtain rfl := ki_Instr_K h2
 exact ⟨ad, h1, h3 _ rfl, h4 0 _ rfl, h4 1 _ rfl, h4 2 _ rfl, h4 3 _ rfl, h4 4 _ rfl⟩
theorem ki_Instr_M {w : World} {F : Nat → Prop} {x : GInstr} {cs : List Value} (h : dF.M w F x cs) : cs = [.int .i64 x.Op, .int .i64 x.A, .int .i64 x.B, .int .i64 x.C, .int .i64 x.D, .string x.Name] := by
 exact ki_Instr_K (dF.eT h)
theorem kX (w : World) (F : Nat → Prop) (x : GInstr) : dF.M w F x [.int .i64 x.Op, .int .i64 x.A, .int .i64 x.B, .int .i64 x.C, .int .i64 x.D, .string x.Name] :=
 ⟨[_], [_, _, _, _, _], No, No, rfl, rfl, ⟨[_], [_, _, _, _], No, No, rfl, rfl, ⟨[_], [_, _, _], No, No, rfl, rfl, ⟨[_], [_, _], No, No, rfl, rfl, ⟨[_], [_], No, No, rfl, rfl, rfl, fun _ h => h.elim, fun _ h => h.elim, fun _ h => h.elim⟩, fun _ h => h.elim, fun _ h => h.elim, fun _ h => h.elim⟩, fun _ h => h.elim, fun _ h => h.elim, fun _ h => h.elim⟩, fun _ h => h.elim, fun _ h => h.elim, fun _ h => h.elim⟩, fun _ h => h.elim, fun _ h => h.elim, fun _ h => h.elim⟩
theorem lC : (Tryz.prog.info? 274).map (fun i => (i.zero, i.size, i.bytes)) = some (some (.agg #[.int .i64 0, .int .i64 0, .int .i64 0, .int .i64 0, .int .i64 0, .string ⟨#[]⟩]), 6, 56) := by kernel_rfl
theorem ki_Instr_zero (w : World) : dF.M w No zInstr [.int .i64 0, .int .i64 0, .int .i64 0, .int .i64 0, .int .i64 0, .string ⟨#[]⟩] := kX w No zInstr
def gH : Kn GMethod := Kn.iso (Kn.pair Kn.string (Kn.slice 313 iE)) (fun x => (x.Name, x.Code))
theorem kl_Method_K {w : World} {x : GMethod} {cs : List Value} (h : gH.K w x cs) : ∃ (A1 : Option Addr) (c1 : Nat), cs = [.string x.Name, .slice A1 x.Code.length c1] ∧ x.Code.length ≤ c1 ∧ C iE w A1 x.Code := by
 obtain ⟨_, _, rfl, rfl, ⟨A1, c1, rfl, hl1, hC1⟩⟩ := h
 exact ⟨A1, c1, rfl, hl1, hC1⟩
theorem kl_Method_at {w : World} {A : Option Addr} {l : List GMethod} (h : C gH w A l) (i : Nat) (hi : i < l.length) : ∃ (ad : Addr) (A1 : Option Addr) (c1 : Nat), A = some ad ∧ w.cell? (ad.add (i * 2)) = some (.string l[i].Name) ∧ w.cell? ⟨(ad.add (i * 2)).block, (ad.add (i * 2)).off + 1, none⟩ = some (.slice A1 l[i].Code.length c1) ∧ l[i].Code.length ≤ c1 ∧ C iE w A1 l[i].Code := by
 obtain ⟨ad, c, h1, h2, h3, h4⟩ := C_at h i hi
 obtain ⟨A1, c1, rfl, hl1, hC1⟩ := kl_Method_K h2
 exact ⟨ad, A1, c1, h1, h3 _ rfl, h4 0 _ rfl, hl1, hC1⟩
def bS : Kn GMethod := Kn.iso (Kn.pair Kn.string (Kn.slice 274 dF)) (fun x => (x.Name, x.Code))
theorem j3 {w : World} {x : GMethod} {cs : List Value} (h : bS.K w x cs) : ∃ (A1 : Option Addr) (c1 : Nat), cs = [.string x.Name, .slice A1 x.Code.length c1] ∧ x.Code.length ≤ c1 ∧ C dF w A1 x.Code := by
 obtain ⟨_, _, rfl, rfl, ⟨A1, c1, rfl, hl1, hC1⟩⟩ := h
 exact ⟨A1, c1, rfl, hl1, hC1⟩
theorem jN {w : World} {A : Option Addr} {l : List GMethod} (h : C bS w A l) (i : Nat) (hi : i < l.length) : ∃ (ad : Addr) (A1 : Option Addr) (c1 : Nat), A = some ad ∧ w.cell? (ad.add (i * 2)) = some (.string l[i].Name) ∧ w.cell? ⟨(ad.add (i * 2)).block, (ad.add (i * 2)).off + 1, none⟩ = some (.slice A1 l[i].Code.length c1) ∧ l[i].Code.length ≤ c1 ∧ C dF w A1 l[i].Code := by
 obtain ⟨ad, c, h1, h2, h3, h4⟩ := C_at h i hi
 obtain ⟨A1, c1, rfl, hl1, hC1⟩ := j3 h2
 exact ⟨ad, A1, c1, h1, h3 _ rfl, h4 0 _ rfl, hl1, hC1⟩
theorem j4 {w : World} {F : Nat → Prop} {x : GMethod} {cs : List Value} (h : bS.M w F x cs) : ∃ (v1 : Value) (P1 : Nat → Prop), cs = [.string x.Name, v1] ∧ R dF 274 w P1 v1 x.Code ∧ (∀ k, P1 k → F k) := by
 obtain ⟨_, _, F0, G0, rfl, rfl, ⟨v1, rfl, hR1⟩, a0, b0, d0⟩ := h
 exact ⟨v1, G0, rfl, hR1, fun k hk => (b0 k hk)⟩
theorem jA (w : World) (F : Nat → Prop) (x : GMethod) {v1 : Value} {P1 : Nat → Prop} (h1 : R dF 274 w P1 v1 x.Code) (i1 : ∀ k, P1 k → F k) : bS.M w F x [.string x.Name, v1] :=
 ⟨[_], [_], No, P1, rfl, rfl, ⟨_, rfl, h1⟩, fun _ h => h.elim, i1, fun _ h => h.elim⟩
theorem kM : (Tryz.prog.info? 210).map (fun i => (i.zero, i.size, i.bytes)) = some (some (.agg #[.string ⟨#[]⟩, .slice none 0 0]), 2, 40) := by kernel_rfl
theorem ki_Method_zero (w : World) : bS.M w No zMethod [.string ⟨#[]⟩, .slice none 0 0] := jA w No zMethod (P1 := No) fP (fun _ h => h)
def jB : Kn GScript := Kn.iso (Kn.pair Kn.string (Kn.slice 269 gH)) (fun x => (x.Name, x.Methods))
theorem kl_Script_K {w : World} {x : GScript} {cs : List Value} (h : jB.K w x cs) : ∃ (A1 : Option Addr) (c1 : Nat), cs = [.string x.Name, .slice A1 x.Methods.length c1] ∧ x.Methods.length ≤ c1 ∧ C gH w A1 x.Methods := by
 obtain ⟨_, _, rfl, rfl, ⟨A1, c1, rfl, hl1, hC1⟩⟩ := h
 exact ⟨A1, c1, rfl, hl1, hC1⟩
theorem kl_Script_at {w : World} {A : Option Addr} {l : List GScript} (h : C jB w A l) (i : Nat) (hi : i < l.length) : ∃ (ad : Addr) (A1 : Option Addr) (c1 : Nat), A = some ad ∧ w.cell? (ad.add (i * 2)) = some (.string l[i].Name) ∧ w.cell? ⟨(ad.add (i * 2)).block, (ad.add (i * 2)).off + 1, none⟩ = some (.slice A1 l[i].Methods.length c1) ∧ l[i].Methods.length ≤ c1 ∧ C gH w A1 l[i].Methods := by
 obtain ⟨ad, c, h1, h2, h3, h4⟩ := C_at h i hi
 obtain ⟨A1, c1, rfl, hl1, hC1⟩ := kl_Script_K h2
 exact ⟨ad, A1, c1, h1, h3 _ rfl, h4 0 _ rfl, hl1, hC1⟩
def aR : Kn GScript := Kn.iso (Kn.pair Kn.string (Kn.slice 210 bS)) (fun x => (x.Name, x.Methods))
theorem kY {w : World} {x : GScript} {cs : List Value} (h : aR.K w x cs) : ∃ (A1 : Option Addr) (c1 : Nat), cs = [.string x.Name, .slice A1 x.Methods.length c1] ∧ x.Methods.length ≤ c1 ∧ C bS w A1 x.Methods := by
 obtain ⟨_, _, rfl, rfl, ⟨A1, c1, rfl, hl1, hC1⟩⟩ := h
 exact ⟨A1, c1, rfl, hl1, hC1⟩
theorem jO {w : World} {A : Option Addr} {l : List GScript} (h : C aR w A l) (i : Nat) (hi : i < l.length) : ∃ (ad : Addr) (A1 : Option Addr) (c1 : Nat), A = some ad ∧ w.cell? (ad.add (i * 2)) = some (.string l[i].Name) ∧ w.cell? ⟨(ad.add (i * 2)).block, (ad.add (i * 2)).off + 1, none⟩ = some (.slice A1 l[i].Methods.length c1) ∧ l[i].Methods.length ≤ c1 ∧ C bS w A1 l[i].Methods := by
 obtain ⟨ad, c, h1, h2, h3, h4⟩ := C_at h i hi
 obtain ⟨A1, c1, rfl, hl1, hC1⟩ := kY h2
 exact ⟨ad, A1, c1, h1, h3 _ rfl, h4 0 _ rfl, hl1, hC1⟩
theorem kZ {w : World} {F : Nat → Prop} {x : GScript} {cs : List Value} (h : aR.M w F x cs) : ∃ (v1 : Value) (P1 : Nat → Prop), cs = [.string x.Name, v1] ∧ R bS 210 w P1 v1 x.Methods ∧ (∀ k, P1 k → F k) := by
 obtain ⟨_, _, F0, G0, rfl, rfl, ⟨v1, rfl, hR1⟩, a0, b0, d0⟩ := h
 exact ⟨v1, G0, rfl, hR1, fun k hk => (b0 k hk)⟩
theorem jC (w : World) (F : Nat → Prop) (x : GScript) {v1 : Value} {P1 : Nat → Prop} (h1 : R bS 210 w P1 v1 x.Methods) (i1 : ∀ k, P1 k → F k) : aR.M w F x [.string x.Name, v1] :=
 ⟨[_], [_], No, P1, rfl, rfl, ⟨_, rfl, h1⟩, fun _ h => h.elim, i1, fun _ h => h.elim⟩
theorem kN : (Tryz.prog.info? 133).map (fun i => (i.zero, i.size, i.bytes)) = some (some (.agg #[.string ⟨#[]⟩, .slice none 0 0]), 2, 40) := by kernel_rfl
theorem ki_Script_zero (w : World) : aR.M w No zScript [.string ⟨#[]⟩, .slice none 0 0] := jC w No zScript (P1 := No) fP (fun _ h => h)
def bF : Kn GValue := Kn.iso (Kn.pair Kn.int Kn.int) (fun x => (x.Kind, x.N))
theorem kP {w : World} {x : GValue} {cs : List Value} (h : bF.K w x cs) : cs = [.int .i64 x.Kind, .int .i64 x.N] := by
 obtain ⟨_, _, rfl, rfl, rfl⟩ := h
 exact rfl
theorem ki_Value_at {w : World} {A : Option Addr} {l : List GValue} (h : C bF w A l) (i : Nat) (hi : i < l.length) : ∃ (ad : Addr), A = some ad ∧ w.cell? (ad.add (i * 2)) = some (.int .i64 l[i].Kind) ∧ w.cell? ⟨(ad.add (i * 2)).block, (ad.add (i * 2)).off + 1, none⟩ = some (.int .i64 l[i].N) := by
 obtain ⟨ad, c, h1, h2, h3, h4⟩ := C_at h i hi
 obtain rfl := kP h2
 exact ⟨ad, h1, h3 _ rfl, h4 0 _ rfl⟩
theorem ki_Value_M {w : World} {F : Nat → Prop} {x : GValue} {cs : List Value} (h : bF.M w F x cs) : cs = [.int .i64 x.Kind, .int .i64 x.N] := by
 exact kP (bF.eT h)
theorem ki_Value_mk (w : World) (F : Nat → Prop) (x : GValue) : bF.M w F x [.int .i64 x.Kind, .int .i64 x.N] :=
 ⟨[_], [_], No, No, rfl, rfl, rfl, fun _ h => h.elim, fun _ h => h.elim, fun _ h => h.elim⟩
theorem ki_Value_info : (Tryz.prog.info? 95).map (fun i => (i.zero, i.size, i.bytes)) = some (some (.agg #[.int .i64 0, .int .i64 0]), 2, 16) := by kernel_rfl
def ki_Tag : Kn GTag := Kn.iso (Kn.pair Kn.int (Kn.pair Kn.int Kn.int)) (fun x => (x.Vat, x.Entity, x.Seq))
theorem ki_Tag_K {w : World} {x : GTag} {cs : List Value} (h : ki_Tag.K w x cs) : cs = [.int .i64 x.Vat, .int .i64 x.Entity, .int .i64 x.Seq] := by
 obtain ⟨_, _, rfl, rfl, ⟨_, _, rfl, rfl, rfl⟩⟩ := h
 exact rfl
theorem ki_Tag_M {w : World} {F : Nat → Prop} {x : GTag} {cs : List Value} (h : ki_Tag.M w F x cs) : cs = [.int .i64 x.Vat, .int .i64 x.Entity, .int .i64 x.Seq] := by
 exact ki_Tag_K (ki_Tag.eT h)
theorem ki_Tag_mk (w : World) (F : Nat → Prop) (x : GTag) : ki_Tag.M w F x [.int .i64 x.Vat, .int .i64 x.Entity, .int .i64 x.Seq] :=
 ⟨[_], [_, _], No, No, rfl, rfl, ⟨[_], [_], No, No, rfl, rfl, rfl, fun _ h => h.elim, fun _ h => h.elim, fun _ h => h.elim⟩, fun _ h => h.elim, fun _ h => h.elim, fun _ h => h.elim⟩
def bR : Kn GSent := Kn.iso (Kn.pair Kn.int (Kn.pair Kn.string (Kn.pair (Kn.slice 95 bF) (Kn.pair Kn.int ki_Tag)))) (fun x => (x.Target, x.Name, x.dG, x.Result, x.Tag))
theorem ki_Sent_K {w : World} {x : GSent} {cs : List Value} (h : bR.K w x cs) : ∃ (A2 : Option Addr) (c2 : Nat), cs = [.int .i64 x.Target, .string x.Name, .slice A2 x.dG.length c2, .int .i64 x.Result, .int .i64 x.Tag.Vat, .int .i64 x.Tag.Entity, .int .i64 x.Tag.Seq] ∧ x.dG.length ≤ c2 ∧ C bF w A2 x.dG := by
 obtain ⟨_, _, rfl, rfl, ⟨_, _, rfl, rfl, ⟨_, _, rfl, ⟨A2, c2, rfl, hl2, hC2⟩, ⟨_, _, rfl, rfl, s_Tag⟩⟩⟩⟩ := h
 obtain rfl := ki_Tag_K s_Tag
 exact ⟨A2, c2, rfl, hl2, hC2⟩
theorem ki_Sent_at {w : World} {A : Option Addr} {l : List GSent} (h : C bR w A l) (i : Nat) (hi : i < l.length) : ∃ (ad : Addr) (A2 : Option Addr) (c2 : Nat), A = some ad ∧ w.cell? (ad.add (i * 7)) = some (.int .i64 l[i].Target) ∧ w.cell? ⟨(ad.add (i * 7)).block, (ad.add (i * 7)).off + 1, none⟩ = some (.string l[i].Name) ∧ w.cell? ⟨(ad.add (i * 7)).block, (ad.add (i * 7)).off + 2, none⟩ = some (.slice A2 l[i].dG.length c2) ∧ w.cell? ⟨(ad.add (i * 7)).block, (ad.add (i * 7)).off + 3, none⟩ = some (.int .i64 l[i].Result) ∧ w.cell? ⟨(ad.add (i * 7)).block, (ad.add (i * 7)).off + 4, none⟩ = some (.int .i64 l[i].Tag.Vat) ∧ w.cell? ⟨(ad.add (i * 7)).block, (ad.add (i * 7)).off + 5, none⟩ = some (.int .i64 l[i].Tag.Entity) ∧ w.cell? ⟨(ad.add (i * 7)).block, (ad.add (i * 7)).off + 6, none⟩ = some (.int .i64 l[i].Tag.Seq) ∧ l[i].dG.length ≤ c2 ∧ C bF w A2 l[i].dG := by
 obtain ⟨ad, c, h1, h2, h3, h4⟩ := C_at h i hi
 obtain ⟨A2, c2, rfl, hl2, hC2⟩ := ki_Sent_K h2
 exact ⟨ad, A2, c2, h1, h3 _ rfl, h4 0 _ rfl, h4 1 _ rfl, h4 2 _ rfl, h4 3 _ rfl, h4 4 _ rfl, h4 5 _ rfl, hl2, hC2⟩
theorem ki_Sent_M {w : World} {F : Nat → Prop} {x : GSent} {cs : List Value} (h : bR.M w F x cs) : ∃ (v2 : Value) (P2 : Nat → Prop), cs = [.int .i64 x.Target, .string x.Name, v2, .int .i64 x.Result, .int .i64 x.Tag.Vat, .int .i64 x.Tag.Entity, .int .i64 x.Tag.Seq] ∧ R bF 95 w P2 v2 x.dG ∧ (∀ k, P2 k → F k) := by
 obtain ⟨_, _, F0, G0, rfl, rfl, ⟨_, _, F1, G1, rfl, rfl, ⟨_, _, F2, G2, rfl, ⟨v2, rfl, hR2⟩, ⟨_, _, F3, G3, rfl, rfl, s4, a3, b3, d3⟩, a2, b2, d2⟩, a1, b1, d1⟩, a0, b0, d0⟩ := h
 obtain rfl := ki_Tag_M s4
 exact ⟨v2, F2, rfl, hR2, fun k hk => (b0 k (b1 k (a2 k hk)))⟩
theorem ki_Sent_mk (w : World) (F : Nat → Prop) (x : GSent) {v2 : Value} {P2 : Nat → Prop} (h2 : R bF 95 w P2 v2 x.dG) (i2 : ∀ k, P2 k → F k) : bR.M w F x [.int .i64 x.Target, .string x.Name, v2, .int .i64 x.Result, .int .i64 x.Tag.Vat, .int .i64 x.Tag.Entity, .int .i64 x.Tag.Seq] :=
 ⟨[_], [_, _, _, _, _, _], No, P2, rfl, rfl, ⟨[_], [_, _, _, _, _], No, P2, rfl, rfl, ⟨[_], [_, _, _, _], P2, No, rfl, ⟨_, rfl, h2⟩, ⟨[_], [_, _, _], No, No, rfl, rfl, (ki_Tag_mk w No _), fun _ h => h.elim, fun _ h => h.elim, fun _ h => h.elim⟩, fun _ h => h, fun _ h => h.elim, fun _ _ h => h.elim⟩, fun _ h => h.elim, fun _ h => h, fun _ h => h.elim⟩, fun _ h => h.elim, i2, fun _ h => h.elim⟩
def cK : Kn GAsker := Kn.iso (Kn.pair Kn.int Kn.int) (fun x => (x.dW, x.Question))
theorem ki_Asker_K {w : World} {x : GAsker} {cs : List Value} (h : cK.K w x cs) : cs = [.int .i64 x.dW, .int .i64 x.Question] := by
 obtain ⟨_, _, rfl, rfl, rfl⟩ := h
 exact rfl
theorem ki_Asker_at {w : World} {A : Option Addr} {l : List GAsker} (h : C cK w A l) (i : Nat) (hi : i < l.length) : ∃ (ad : Addr), A = some ad ∧ w.cell? (ad.add (i * 2)) = some (.int .i64 l[i].dW) ∧ w.cell? ⟨(ad.add (i * 2)).block, (ad.add (i * 2)).off + 1, none⟩ = some (.int .i64 l[i].Question) := by
 obtain ⟨ad, c, h1, h2, h3, h4⟩ := C_at h i hi
 obtain rfl := ki_Asker_K h2
 exact ⟨ad, h1, h3 _ rfl, h4 0 _ rfl⟩
theorem ki_Asker_M {w : World} {F : Nat → Prop} {x : GAsker} {cs : List Value} (h : cK.M w F x cs) : cs = [.int .i64 x.dW, .int .i64 x.Question] := by
 exact ki_Asker_K (cK.eT h)
theorem ki_Asker_mk (w : World) (F : Nat → Prop) (x : GAsker) : cK.M w F x [.int .i64 x.dW, .int .i64 x.Question] :=
 ⟨[_], [_], No, No, rfl, rfl, rfl, fun _ h => h.elim, fun _ h => h.elim, fun _ h => h.elim⟩
def aS : Kn GEntity := Kn.iso (Kn.pair Kn.int (Kn.pair Kn.int (Kn.pair (Kn.slice 95 bF) (Kn.pair Kn.int (Kn.pair bF (Kn.pair (Kn.slice 235 bR) (Kn.pair (Kn.slice 285 cK) (Kn.pair Kn.int (Kn.pair Kn.int (Kn.pair Kn.int Kn.int)))))))))) (fun x => (x.Kind, x.Script, x.fF, x.State, x.Value, x.Queue, x.eF, x.dW, x.Pos, x.Count, x.Sent))
theorem ki_Entity_K {w : World} {x : GEntity} {cs : List Value} (h : aS.K w x cs) : ∃ (A2 : Option Addr) (c2 : Nat) (A6 : Option Addr) (c6 : Nat) (A7 : Option Addr) (c7 : Nat), cs = [.int .i64 x.Kind, .int .i64 x.Script, .slice A2 x.fF.length c2, .int .i64 x.State, .int .i64 x.Value.Kind, .int .i64 x.Value.N, .slice A6 x.Queue.length c6, .slice A7 x.eF.length c7, .int .i64 x.dW, .int .i64 x.Pos, .int .i64 x.Count, .int .i64 x.Sent] ∧ x.fF.length ≤ c2 ∧ C bF w A2 x.fF ∧ x.Queue.length ≤ c6 ∧ C bR w A6 x.Queue ∧ x.eF.length ≤ c7 ∧ C cK w A7 x.eF := by
 obtain ⟨_, _, rfl, rfl, ⟨_, _, rfl, rfl, ⟨_, _, rfl, ⟨A2, c2, rfl, hl2, hC2⟩, ⟨_, _, rfl, rfl, ⟨_, _, rfl, s_Value, ⟨_, _, rfl, ⟨A6, c6, rfl, hl6, hC6⟩, ⟨_, _, rfl, ⟨A7, c7, rfl, hl7, hC7⟩, ⟨_, _, rfl, rfl, ⟨_, _, rfl, rfl, ⟨_, _, rfl, rfl, rfl⟩⟩⟩⟩⟩⟩⟩⟩⟩⟩ := h
 obtain rfl := kP s_Value
 exact ⟨A2, c2, A6, c6, A7, c7, rfl, hl2, hC2, hl6, hC6, hl7, hC7⟩
theorem ki_Entity_at {w : World} {A : Option Addr} {l : List GEntity} (h : C aS w A l) (i : Nat) (hi : i < l.length) : ∃ (ad : Addr) (A2 : Option Addr) (c2 : Nat) (A6 : Option Addr) (c6 : Nat) (A7 : Option Addr) (c7 : Nat), A = some ad ∧ w.cell? (ad.add (i * 12)) = some (.int .i64 l[i].Kind) ∧ w.cell? ⟨(ad.add (i * 12)).block, (ad.add (i * 12)).off + 1, none⟩ = some (.int .i64 l[i].Script) ∧ w.cell? ⟨(ad.add (i * 12)).block, (ad.add (i * 12)).off + 2, none⟩ = some (.slice A2 l[i].fF.length c2) ∧ w.cell? ⟨(ad.add (i * 12)).block, (ad.add (i * 12)).off + 3, none⟩ = some (.int .i64 l[i].State) ∧ w.cell? ⟨(ad.add (i * 12)).block, (ad.add (i * 12)).off + 4, none⟩ = some (.int .i64 l[i].Value.Kind) ∧ w.cell? ⟨(ad.add (i * 12)).block, (ad.add (i * 12)).off + 5, none⟩ = some (.int .i64 l[i].Value.N) ∧ w.cell? ⟨(ad.add (i * 12)).block, (ad.add (i * 12)).off + 6, none⟩ = some (.slice A6 l[i].Queue.length c6) ∧ w.cell? ⟨(ad.add (i * 12)).block, (ad.add (i * 12)).off + 7, none⟩ = some (.slice A7 l[i].eF.length c7) ∧ w.cell? ⟨(ad.add (i * 12)).block, (ad.add (i * 12)).off + 8, none⟩ = some (.int .i64 l[i].dW) ∧ w.cell? ⟨(ad.add (i * 12)).block, (ad.add (i * 12)).off + 9, none⟩ = some (.int .i64 l[i].Pos) ∧ w.cell? ⟨(ad.add (i * 12)).block, (ad.add (i * 12)).off + 10, none⟩ = some (.int .i64 l[i].Count) ∧ w.cell? ⟨(ad.add (i * 12)).block, (ad.add (i * 12)).off + 11, none⟩ = some (.int .i64 l[i].Sent) ∧ l[i].fF.length ≤ c2 ∧ C bF w A2 l[i].fF ∧ l[i].Queue.length ≤ c6 ∧ C bR w A6 l[i].Queue ∧ l[i].eF.length ≤ c7 ∧ C cK w A7 l[i].eF := by
 obtain ⟨ad, c, h1, h2, h3, h4⟩ := C_at h i hi
 obtain ⟨A2, c2, A6, c6, A7, c7, rfl, hl2, hC2, hl6, hC6, hl7, hC7⟩ := ki_Entity_K h2
 exact ⟨ad, A2, c2, A6, c6, A7, c7, h1, h3 _ rfl, h4 0 _ rfl, h4 1 _ rfl, h4 2 _ rfl, h4 3 _ rfl, h4 4 _ rfl, h4 5 _ rfl, h4 6 _ rfl, h4 7 _ rfl, h4 8 _ rfl, h4 9 _ rfl, h4 10 _ rfl, hl2, hC2, hl6, hC6, hl7, hC7⟩
theorem ki_Entity_M {w : World} {F : Nat → Prop} {x : GEntity} {cs : List Value} (h : aS.M w F x cs) : ∃ (v2 : Value) (P2 : Nat → Prop) (v6 : Value) (P6 : Nat → Prop) (v7 : Value) (P7 : Nat → Prop), cs = [.int .i64 x.Kind, .int .i64 x.Script, v2, .int .i64 x.State, .int .i64 x.Value.Kind, .int .i64 x.Value.N, v6, v7, .int .i64 x.dW, .int .i64 x.Pos, .int .i64 x.Count, .int .i64 x.Sent] ∧ R bF 95 w P2 v2 x.fF ∧ R bR 235 w P6 v6 x.Queue ∧ R cK 285 w P7 v7 x.eF ∧ (∀ k, P2 k → F k) ∧ (∀ k, P6 k → F k) ∧ (∀ k, P7 k → F k) ∧ (∀ k, P2 k → ¬ P6 k) ∧ (∀ k, P2 k → ¬ P7 k) ∧ (∀ k, P6 k → ¬ P7 k) := by
 obtain ⟨_, _, F0, G0, rfl, rfl, ⟨_, _, F1, G1, rfl, rfl, ⟨_, _, F2, G2, rfl, ⟨v2, rfl, hR2⟩, ⟨_, _, F3, G3, rfl, rfl, ⟨_, _, F4, G4, rfl, s4, ⟨_, _, F5, G5, rfl, ⟨v6, rfl, hR6⟩, ⟨_, _, F6, G6, rfl, ⟨v7, rfl, hR7⟩, ⟨_, _, F7, G7, rfl, rfl, ⟨_, _, F8, G8, rfl, rfl, ⟨_, _, F9, G9, rfl, rfl, rfl, a9, b9, d9⟩, a8, b8, d8⟩, a7, b7, d7⟩, a6, b6, d6⟩, a5, b5, d5⟩, a4, b4, d4⟩, a3, b3, d3⟩, a2, b2, d2⟩, a1, b1, d1⟩, a0, b0, d0⟩ := h
 obtain rfl := ki_Value_M s4
 exact ⟨v2, F2, v6, F5, v7, F6, rfl, hR2, hR6, hR7, fun k hk => (b0 k (b1 k (a2 k hk))), fun k hk => (b0 k (b1 k (b2 k (b3 k (b4 k (a5 k hk)))))), fun k hk => (b0 k (b1 k (b2 k (b3 k (b4 k (b5 k (a6 k hk))))))), fun k hk hk' => d2 k hk (b3 k (b4 k (a5 k hk'))), fun k hk hk' => d2 k hk (b3 k (b4 k (b5 k (a6 k hk')))), fun k hk hk' => d5 k hk (a6 k hk')⟩
theorem ki_Entity_mk (w : World) (F : Nat → Prop) (x : GEntity) {v2 : Value} {P2 : Nat → Prop} (h2 : R bF 95 w P2 v2 x.fF) {v6 : Value} {P6 : Nat → Prop} (h6 : R bR 235 w P6 v6 x.Queue) {v7 : Value} {P7 : Nat → Prop} (h7 : R cK 285 w P7 v7 x.eF) (i2 : ∀ k, P2 k → F k) (i6 : ∀ k, P6 k → F k) (i7 : ∀ k, P7 k → F k) (d2_6 : ∀ k, P2 k → ¬ P6 k) (d2_7 : ∀ k, P2 k → ¬ P7 k) (d6_7 : ∀ k, P6 k → ¬ P7 k) : aS.M w F x [.int .i64 x.Kind, .int .i64 x.Script, v2, .int .i64 x.State, .int .i64 x.Value.Kind, .int .i64 x.Value.N, v6, v7, .int .i64 x.dW, .int .i64 x.Pos, .int .i64 x.Count, .int .i64 x.Sent] :=
 ⟨[_], [_, _, _, _, _, _, _, _, _, _, _], No, (fun k => P2 k ∨ P6 k ∨ P7 k), rfl, rfl, ⟨[_], [_, _, _, _, _, _, _, _, _, _], No, (fun k => P2 k ∨ P6 k ∨ P7 k), rfl, rfl, ⟨[_], [_, _, _, _, _, _, _, _, _], P2, (fun k => P6 k ∨ P7 k), rfl, ⟨_, rfl, h2⟩, ⟨[_], [_, _, _, _, _, _, _, _], No, (fun k => P6 k ∨ P7 k), rfl, rfl, ⟨[_, _], [_, _, _, _, _, _], No, (fun k => P6 k ∨ P7 k), rfl, (ki_Value_mk w No _), ⟨[_], [_, _, _, _, _], P6, P7, rfl, ⟨_, rfl, h6⟩, ⟨[_], [_, _, _, _], P7, No, rfl, ⟨_, rfl, h7⟩, ⟨[_], [_, _, _], No, No, rfl, rfl, ⟨[_], [_, _], No, No, rfl, rfl, ⟨[_], [_], No, No, rfl, rfl, rfl, fun _ h => h.elim, fun _ h => h.elim, fun _ h => h.elim⟩, fun _ h => h.elim, fun _ h => h.elim, fun _ h => h.elim⟩, fun _ h => h.elim, fun _ h => h.elim, fun _ h => h.elim⟩, fun _ h => h, fun _ h => h.elim, fun _ _ h => h.elim⟩, fun k h => by first | exact h | exact Or.inl h | exact Or.inr h, fun k h => by first | exact h | exact Or.inl h | exact Or.inr h, fun k h h' => by exact d6_7 k h h'⟩, fun _ h => h.elim, fun k h => by first | exact h | exact Or.inl h | exact Or.inr h, fun _ h => h.elim⟩, fun _ h => h.elim, fun k h => by first | exact h | exact Or.inl h | exact Or.inr h, fun _ h => h.elim⟩, fun k h => by first | exact h | exact Or.inl h | exact Or.inr h, fun k h => by first | exact h | exact Or.inl h | exact Or.inr h, fun k h h' => by rcases h' with h' | h' <;> first | exact d2_6 k h h' | exact d2_7 k h h'⟩, fun _ h => h.elim, fun k h => by first | exact h | exact Or.inl h | exact Or.inr h, fun _ h => h.elim⟩, fun _ h => h.elim, fun k h => by rcases h with h | h | h <;> first | exact i2 k h | exact i6 k h | exact i7 k h, fun _ h => h.elim⟩
theorem ki_Entity_info : (Tryz.prog.info? 171).map (fun i => (i.zero, i.size, i.bytes)) = some (some (.agg #[.int .i64 0, .int .i64 0, .slice none 0 0, .int .i64 0, .int .i64 0, .int .i64 0, .slice none 0 0, .slice none 0 0, .int .i64 0, .int .i64 0, .int .i64 0, .int .i64 0]), 12, 144) := by kernel_rfl
def aL : Kn GExport := Kn.iso (Kn.pair Kn.int (Kn.pair Kn.int Kn.int)) (fun x => (x.Pos, x.Entity, x.Count))
theorem iG {w : World} {x : GExport} {cs : List Value} (h : aL.K w x cs) : cs = [.int .i64 x.Pos, .int .i64 x.Entity, .int .i64 x.Count] := by
 obtain ⟨_, _, rfl, rfl, ⟨_, _, rfl, rfl, rfl⟩⟩ := h
 exact rfl
theorem kH {w : World} {A : Option Addr} {l : List GExport} (h : C aL w A l) (i : Nat) (hi : i < l.length) : ∃ (ad : Addr), A = some ad ∧ w.cell? (ad.add (i * 3)) = some (.int .i64 l[i].Pos) ∧ w.cell? ⟨(ad.add (i * 3)).block, (ad.add (i * 3)).off + 1, none⟩ = some (.int .i64 l[i].Entity) ∧ w.cell? ⟨(ad.add (i * 3)).block, (ad.add (i * 3)).off + 2, none⟩ = some (.int .i64 l[i].Count) := by
 obtain ⟨ad, c, h1, h2, h3, h4⟩ := C_at h i hi
 obtain rfl := iG h2
 exact ⟨ad, h1, h3 _ rfl, h4 0 _ rfl, h4 1 _ rfl⟩
theorem ki_Export_M {w : World} {F : Nat → Prop} {x : GExport} {cs : List Value} (h : aL.M w F x cs) : cs = [.int .i64 x.Pos, .int .i64 x.Entity, .int .i64 x.Count] := by
 exact iG (aL.eT h)
theorem jP (w : World) (F : Nat → Prop) (x : GExport) : aL.M w F x [.int .i64 x.Pos, .int .i64 x.Entity, .int .i64 x.Count] :=
 ⟨[_], [_, _], No, No, rfl, rfl, ⟨[_], [_], No, No, rfl, rfl, rfl, fun _ h => h.elim, fun _ h => h.elim, fun _ h => h.elim⟩, fun _ h => h.elim, fun _ h => h.elim, fun _ h => h.elim⟩
theorem kQ : (Tryz.prog.info? 256).map (fun i => (i.zero, i.size, i.bytes)) = some (some (.agg #[.int .i64 0, .int .i64 0, .int .i64 0]), 3, 24) := by kernel_rfl
def aJ : Kn GQuestion := Kn.iso (Kn.pair Kn.int Kn.int) (fun x => (x.Id, x.Promise))
theorem jT {w : World} {x : GQuestion} {cs : List Value} (h : aJ.K w x cs) : cs = [.int .i64 x.Id, .int .i64 x.Promise] := by
 obtain ⟨_, _, rfl, rfl, rfl⟩ := h
 exact rfl
theorem kT {w : World} {A : Option Addr} {l : List GQuestion} (h : C aJ w A l) (i : Nat) (hi : i < l.length) : ∃ (ad : Addr), A = some ad ∧ w.cell? (ad.add (i * 2)) = some (.int .i64 l[i].Id) ∧ w.cell? ⟨(ad.add (i * 2)).block, (ad.add (i * 2)).off + 1, none⟩ = some (.int .i64 l[i].Promise) := by
 obtain ⟨ad, c, h1, h2, h3, h4⟩ := C_at h i hi
 obtain rfl := jT h2
 exact ⟨ad, h1, h3 _ rfl, h4 0 _ rfl⟩
theorem ki_Question_M {w : World} {F : Nat → Prop} {x : GQuestion} {cs : List Value} (h : aJ.M w F x cs) : cs = [.int .i64 x.Id, .int .i64 x.Promise] := by
 exact jT (aJ.eT h)
theorem ki_Question_mk (w : World) (F : Nat → Prop) (x : GQuestion) : aJ.M w F x [.int .i64 x.Id, .int .i64 x.Promise] :=
 ⟨[_], [_], No, No, rfl, rfl, rfl, fun _ h => h.elim, fun _ h => h.elim, fun _ h => h.elim⟩
theorem ki_Question_info : (Tryz.prog.info? 289).map (fun i => (i.zero, i.size, i.bytes)) = some (some (.agg #[.int .i64 0, .int .i64 0]), 2, 16) := by kernel_rfl
def bB : Kn GLink := Kn.iso (Kn.pair Kn.int (Kn.pair Kn.bool (Kn.pair (Kn.slice 256 aL) (Kn.pair Kn.int (Kn.pair (Kn.slice 289 aJ) (Kn.pair Kn.int (Kn.slice 289 aJ))))))) (fun x => (x.dW, x.Up, x.aC, x.Next, x.aD, x.dN, x.aN))
theorem ki_Link_K {w : World} {x : GLink} {cs : List Value} (h : bB.K w x cs) : ∃ (A2 : Option Addr) (c2 : Nat) (A4 : Option Addr) (c4 : Nat) (A6 : Option Addr) (c6 : Nat), cs = [.int .i64 x.dW, .bool x.Up, .slice A2 x.aC.length c2, .int .i64 x.Next, .slice A4 x.aD.length c4, .int .i64 x.dN, .slice A6 x.aN.length c6] ∧ x.aC.length ≤ c2 ∧ C aL w A2 x.aC ∧ x.aD.length ≤ c4 ∧ C aJ w A4 x.aD ∧ x.aN.length ≤ c6 ∧ C aJ w A6 x.aN := by
 obtain ⟨_, _, rfl, rfl, ⟨_, _, rfl, rfl, ⟨_, _, rfl, ⟨A2, c2, rfl, hl2, hC2⟩, ⟨_, _, rfl, rfl, ⟨_, _, rfl, ⟨A4, c4, rfl, hl4, hC4⟩, ⟨_, _, rfl, rfl, ⟨A6, c6, rfl, hl6, hC6⟩⟩⟩⟩⟩⟩⟩ := h
 exact ⟨A2, c2, A4, c4, A6, c6, rfl, hl2, hC2, hl4, hC4, hl6, hC6⟩
theorem ki_Link_at {w : World} {A : Option Addr} {l : List GLink} (h : C bB w A l) (i : Nat) (hi : i < l.length) : ∃ (ad : Addr) (A2 : Option Addr) (c2 : Nat) (A4 : Option Addr) (c4 : Nat) (A6 : Option Addr) (c6 : Nat), A = some ad ∧ w.cell? (ad.add (i * 7)) = some (.int .i64 l[i].dW) ∧ w.cell? ⟨(ad.add (i * 7)).block, (ad.add (i * 7)).off + 1, none⟩ = some (.bool l[i].Up) ∧ w.cell? ⟨(ad.add (i * 7)).block, (ad.add (i * 7)).off + 2, none⟩ = some (.slice A2 l[i].aC.length c2) ∧ w.cell? ⟨(ad.add (i * 7)).block, (ad.add (i * 7)).off + 3, none⟩ = some (.int .i64 l[i].Next) ∧ w.cell? ⟨(ad.add (i * 7)).block, (ad.add (i * 7)).off + 4, none⟩ = some (.slice A4 l[i].aD.length c4) ∧ w.cell? ⟨(ad.add (i * 7)).block, (ad.add (i * 7)).off + 5, none⟩ = some (.int .i64 l[i].dN) ∧ w.cell? ⟨(ad.add (i * 7)).block, (ad.add (i * 7)).off + 6, none⟩ = some (.slice A6 l[i].aN.length c6) ∧ l[i].aC.length ≤ c2 ∧ C aL w A2 l[i].aC ∧ l[i].aD.length ≤ c4 ∧ C aJ w A4 l[i].aD ∧ l[i].aN.length ≤ c6 ∧ C aJ w A6 l[i].aN := by
 obtain ⟨ad, c, h1, h2, h3, h4⟩ := C_at h i hi
 obtain ⟨A2, c2, A4, c4, A6, c6, rfl, hl2, hC2, hl4, hC4, hl6, hC6⟩ := ki_Link_K h2
 exact ⟨ad, A2, c2, A4, c4, A6, c6, h1, h3 _ rfl, h4 0 _ rfl, h4 1 _ rfl, h4 2 _ rfl, h4 3 _ rfl, h4 4 _ rfl, h4 5 _ rfl, hl2, hC2, hl4, hC4, hl6, hC6⟩
theorem ki_Link_M {w : World} {F : Nat → Prop} {x : GLink} {cs : List Value} (h : bB.M w F x cs) : ∃ (v2 : Value) (P2 : Nat → Prop) (v4 : Value) (P4 : Nat → Prop) (v6 : Value) (P6 : Nat → Prop), cs = [.int .i64 x.dW, .bool x.Up, v2, .int .i64 x.Next, v4, .int .i64 x.dN, v6] ∧ R aL 256 w P2 v2 x.aC ∧ R aJ 289 w P4 v4 x.aD ∧ R aJ 289 w P6 v6 x.aN ∧ (∀ k, P2 k → F k) ∧ (∀ k, P4 k → F k) ∧ (∀ k, P6 k → F k) ∧ (∀ k, P2 k → ¬ P4 k) ∧ (∀ k, P2 k → ¬ P6 k) ∧ (∀ k, P4 k → ¬ P6 k) := by
 obtain ⟨_, _, F0, G0, rfl, rfl, ⟨_, _, F1, G1, rfl, rfl, ⟨_, _, F2, G2, rfl, ⟨v2, rfl, hR2⟩, ⟨_, _, F3, G3, rfl, rfl, ⟨_, _, F4, G4, rfl, ⟨v4, rfl, hR4⟩, ⟨_, _, F5, G5, rfl, rfl, ⟨v6, rfl, hR6⟩, a5, b5, d5⟩, a4, b4, d4⟩, a3, b3, d3⟩, a2, b2, d2⟩, a1, b1, d1⟩, a0, b0, d0⟩ := h
 exact ⟨v2, F2, v4, F4, v6, G5, rfl, hR2, hR4, hR6, fun k hk => (b0 k (b1 k (a2 k hk))), fun k hk => (b0 k (b1 k (b2 k (b3 k (a4 k hk))))), fun k hk => (b0 k (b1 k (b2 k (b3 k (b4 k (b5 k hk)))))), fun k hk hk' => d2 k hk (b3 k (a4 k hk')), fun k hk hk' => d2 k hk (b3 k (b4 k (b5 k hk'))), fun k hk hk' => d4 k hk (b5 k hk')⟩
theorem ki_Link_mk (w : World) (F : Nat → Prop) (x : GLink) {v2 : Value} {P2 : Nat → Prop} (h2 : R aL 256 w P2 v2 x.aC) {v4 : Value} {P4 : Nat → Prop} (h4 : R aJ 289 w P4 v4 x.aD) {v6 : Value} {P6 : Nat → Prop} (h6 : R aJ 289 w P6 v6 x.aN) (i2 : ∀ k, P2 k → F k) (i4 : ∀ k, P4 k → F k) (i6 : ∀ k, P6 k → F k) (d2_4 : ∀ k, P2 k → ¬ P4 k) (d2_6 : ∀ k, P2 k → ¬ P6 k) (d4_6 : ∀ k, P4 k → ¬ P6 k) : bB.M w F x [.int .i64 x.dW, .bool x.Up, v2, .int .i64 x.Next, v4, .int .i64 x.dN, v6] :=
 ⟨[_], [_, _, _, _, _, _], No, (fun k => P2 k ∨ P4 k ∨ P6 k), rfl, rfl, ⟨[_], [_, _, _, _, _], No, (fun k => P2 k ∨ P4 k ∨ P6 k), rfl, rfl, ⟨[_], [_, _, _, _], P2, (fun k => P4 k ∨ P6 k), rfl, ⟨_, rfl, h2⟩, ⟨[_], [_, _, _], No, (fun k => P4 k ∨ P6 k), rfl, rfl, ⟨[_], [_, _], P4, P6, rfl, ⟨_, rfl, h4⟩, ⟨[_], [_], No, P6, rfl, rfl, ⟨_, rfl, h6⟩, fun _ h => h.elim, fun _ h => h, fun _ h => h.elim⟩, fun k h => by first | exact h | exact Or.inl h | exact Or.inr h, fun k h => by first | exact h | exact Or.inl h | exact Or.inr h, fun k h h' => by exact d4_6 k h h'⟩, fun _ h => h.elim, fun k h => by first | exact h | exact Or.inl h | exact Or.inr h, fun _ h => h.elim⟩, fun k h => by first | exact h | exact Or.inl h | exact Or.inr h, fun k h => by first | exact h | exact Or.inl h | exact Or.inr h, fun k h h' => by rcases h' with h' | h' <;> first | exact d2_4 k h h' | exact d2_6 k h h'⟩, fun _ h => h.elim, fun k h => by first | exact h | exact Or.inl h | exact Or.inr h, fun _ h => h.elim⟩, fun _ h => h.elim, fun k h => by rcases h with h | h | h <;> first | exact i2 k h | exact i4 k h | exact i6 k h, fun _ h => h.elim⟩
theorem ki_Link_info : (Tryz.prog.info? 178).map (fun i => (i.zero, i.size, i.bytes)) = some (some (.agg #[.int .i64 0, .bool false, .slice none 0 0, .int .i64 0, .slice none 0 0, .int .i64 0, .slice none 0 0]), 7, 104) := by kernel_rfl
def eP : Kn GWire := Kn.iso (Kn.pair Kn.int Kn.int) (fun x => (x.Kind, x.N))
theorem ki_Wire_K {w : World} {x : GWire} {cs : List Value} (h : eP.K w x cs) : cs = [.int .i64 x.Kind, .int .i64 x.N] := by
 obtain ⟨_, _, rfl, rfl, rfl⟩ := h
 exact rfl
theorem ki_Wire_at {w : World} {A : Option Addr} {l : List GWire} (h : C eP w A l) (i : Nat) (hi : i < l.length) : ∃ (ad : Addr), A = some ad ∧ w.cell? (ad.add (i * 2)) = some (.int .i64 l[i].Kind) ∧ w.cell? ⟨(ad.add (i * 2)).block, (ad.add (i * 2)).off + 1, none⟩ = some (.int .i64 l[i].N) := by
 obtain ⟨ad, c, h1, h2, h3, h4⟩ := C_at h i hi
 obtain rfl := ki_Wire_K h2
 exact ⟨ad, h1, h3 _ rfl, h4 0 _ rfl⟩
theorem ki_Wire_M {w : World} {F : Nat → Prop} {x : GWire} {cs : List Value} (h : eP.M w F x cs) : cs = [.int .i64 x.Kind, .int .i64 x.N] := by
 exact ki_Wire_K (eP.eT h)
theorem ki_Wire_mk (w : World) (F : Nat → Prop) (x : GWire) : eP.M w F x [.int .i64 x.Kind, .int .i64 x.N] :=
 ⟨[_], [_], No, No, rfl, rfl, rfl, fun _ h => h.elim, fun _ h => h.elim, fun _ h => h.elim⟩
def dA : Kn GMessage := Kn.iso (Kn.pair Kn.int (Kn.pair Kn.int (Kn.pair Kn.int (Kn.pair Kn.int (Kn.pair Kn.string (Kn.pair (Kn.slice 72 eP) (Kn.pair eP (Kn.pair Kn.int ki_Tag)))))))) (fun x => (x.Kind, x.Pos, x.Answer, x.Question, x.Name, x.dG, x.Value, x.Count, x.Tag))
theorem kI {w : World} {x : GMessage} {cs : List Value} (h : dA.K w x cs) : ∃ (A5 : Option Addr) (c5 : Nat), cs = [.int .i64 x.Kind, .int .i64 x.Pos, .int .i64 x.Answer, .int .i64 x.Question, .string x.Name, .slice A5 x.dG.length c5, .int .i64 x.Value.Kind, .int .i64 x.Value.N, .int .i64 x.Count, .int .i64 x.Tag.Vat, .int .i64 x.Tag.Entity, .int .i64 x.Tag.Seq] ∧ x.dG.length ≤ c5 ∧ C eP w A5 x.dG := by
 obtain ⟨_, _, rfl, rfl, ⟨_, _, rfl, rfl, ⟨_, _, rfl, rfl, ⟨_, _, rfl, rfl, ⟨_, _, rfl, rfl, ⟨_, _, rfl, ⟨A5, c5, rfl, hl5, hC5⟩, ⟨_, _, rfl, s_Value, ⟨_, _, rfl, rfl, s_Tag⟩⟩⟩⟩⟩⟩⟩⟩ := h
 obtain rfl := ki_Wire_K s_Value
 obtain rfl := ki_Tag_K s_Tag
 exact ⟨A5, c5, rfl, hl5, hC5⟩
theorem lD {w : World} {A : Option Addr} {l : List GMessage} (h : C dA w A l) (i : Nat) (hi : i < l.length) : ∃ (ad : Addr) (A5 : Option Addr) (c5 : Nat), A = some ad ∧ w.cell? (ad.add (i * 12)) = some (.int .i64 l[i].Kind) ∧ w.cell? ⟨(ad.add (i * 12)).block, (ad.add (i * 12)).off + 1, none⟩ = some (.int .i64 l[i].Pos) ∧ w.cell? ⟨(ad.add (i * 12)).block, (ad.add (i * 12)).off + 2, none⟩ = some (.int .i64 l[i].Answer) ∧ w.cell? ⟨(ad.add (i * 12)).block, (ad.add (i * 12)).off + 3, none⟩ = some (.int .i64 l[i].Question) ∧ w.cell? ⟨(ad.add (i * 12)).block, (ad.add (i * 12)).off + 4, none⟩ = some (.string l[i].Name) ∧ w.cell? ⟨(ad.add (i * 12)).block, (ad.add (i * 12)).off + 5, none⟩ = some (.slice A5 l[i].dG.length c5) ∧ w.cell? ⟨(ad.add (i * 12)).block, (ad.add (i * 12)).off + 6, none⟩ = some (.int .i64 l[i].Value.Kind) ∧ w.cell? ⟨(ad.add (i * 12)).block, (ad.add (i * 12)).off + 7, none⟩ = some (.int .i64 l[i].Value.N) ∧ w.cell? ⟨(ad.add (i * 12)).block, (ad.add (i * 12)).off + 8, none⟩ = some (.int .i64 l[i].Count) ∧ w.cell? ⟨(ad.add (i * 12)).block, (ad.add (i * 12)).off + 9, none⟩ = some (.int .i64 l[i].Tag.Vat) ∧ w.cell? ⟨(ad.add (i * 12)).block, (ad.add (i * 12)).off + 10, none⟩ = some (.int .i64 l[i].Tag.Entity) ∧ w.cell? ⟨(ad.add (i * 12)).block, (ad.add (i * 12)).off + 11, none⟩ = some (.int .i64 l[i].Tag.Seq) ∧ l[i].dG.length ≤ c5 ∧ C eP w A5 l[i].dG := by
 obtain ⟨ad, c, h1, h2, h3, h4⟩ := C_at h i hi
 obtain ⟨A5, c5, rfl, hl5, hC5⟩ := kI h2
 exact ⟨ad, A5, c5, h1, h3 _ rfl, h4 0 _ rfl, h4 1 _ rfl, h4 2 _ rfl, h4 3 _ rfl, h4 4 _ rfl, h4 5 _ rfl, h4 6 _ rfl, h4 7 _ rfl, h4 8 _ rfl, h4 9 _ rfl, h4 10 _ rfl, hl5, hC5⟩
theorem ki_Message_M {w : World} {F : Nat → Prop} {x : GMessage} {cs : List Value} (h : dA.M w F x cs) : ∃ (v5 : Value) (P5 : Nat → Prop), cs = [.int .i64 x.Kind, .int .i64 x.Pos, .int .i64 x.Answer, .int .i64 x.Question, .string x.Name, v5, .int .i64 x.Value.Kind, .int .i64 x.Value.N, .int .i64 x.Count, .int .i64 x.Tag.Vat, .int .i64 x.Tag.Entity, .int .i64 x.Tag.Seq] ∧ R eP 72 w P5 v5 x.dG ∧ (∀ k, P5 k → F k) := by
 obtain ⟨_, _, F0, G0, rfl, rfl, ⟨_, _, F1, G1, rfl, rfl, ⟨_, _, F2, G2, rfl, rfl, ⟨_, _, F3, G3, rfl, rfl, ⟨_, _, F4, G4, rfl, rfl, ⟨_, _, F5, G5, rfl, ⟨v5, rfl, hR5⟩, ⟨_, _, F6, G6, rfl, s6, ⟨_, _, F7, G7, rfl, rfl, s8, a7, b7, d7⟩, a6, b6, d6⟩, a5, b5, d5⟩, a4, b4, d4⟩, a3, b3, d3⟩, a2, b2, d2⟩, a1, b1, d1⟩, a0, b0, d0⟩ := h
 obtain rfl := ki_Wire_M s6
 obtain rfl := ki_Tag_M s8
 exact ⟨v5, F5, rfl, hR5, fun k hk => (b0 k (b1 k (b2 k (b3 k (b4 k (a5 k hk))))))⟩
theorem ki_Message_mk (w : World) (F : Nat → Prop) (x : GMessage) {v5 : Value} {P5 : Nat → Prop} (h5 : R eP 72 w P5 v5 x.dG) (i5 : ∀ k, P5 k → F k) : dA.M w F x [.int .i64 x.Kind, .int .i64 x.Pos, .int .i64 x.Answer, .int .i64 x.Question, .string x.Name, v5, .int .i64 x.Value.Kind, .int .i64 x.Value.N, .int .i64 x.Count, .int .i64 x.Tag.Vat, .int .i64 x.Tag.Entity, .int .i64 x.Tag.Seq] :=
 ⟨[_], [_, _, _, _, _, _, _, _, _, _, _], No, P5, rfl, rfl, ⟨[_], [_, _, _, _, _, _, _, _, _, _], No, P5, rfl, rfl, ⟨[_], [_, _, _, _, _, _, _, _, _], No, P5, rfl, rfl, ⟨[_], [_, _, _, _, _, _, _, _], No, P5, rfl, rfl, ⟨[_], [_, _, _, _, _, _, _], No, P5, rfl, rfl, ⟨[_], [_, _, _, _, _, _], P5, No, rfl, ⟨_, rfl, h5⟩, ⟨[_, _], [_, _, _, _], No, No, rfl, (ki_Wire_mk w No _), ⟨[_], [_, _, _], No, No, rfl, rfl, (ki_Tag_mk w No _), fun _ h => h.elim, fun _ h => h.elim, fun _ h => h.elim⟩, fun _ h => h.elim, fun _ h => h.elim, fun _ h => h.elim⟩, fun _ h => h, fun _ h => h.elim, fun _ _ h => h.elim⟩, fun _ h => h.elim, fun _ h => h, fun _ h => h.elim⟩, fun _ h => h.elim, fun _ h => h, fun _ h => h.elim⟩, fun _ h => h.elim, fun _ h => h, fun _ h => h.elim⟩, fun _ h => h.elim, fun _ h => h, fun _ h => h.elim⟩, fun _ h => h.elim, i5, fun _ h => h.elim⟩
def cO : Kn GOutgoing := Kn.iso (Kn.pair Kn.int dA) (fun x => (x.To, x.Message))
theorem lF {w : World} {x : GOutgoing} {cs : List Value} (h : cO.K w x cs) : ∃ (A6 : Option Addr) (c6 : Nat), cs = [.int .i64 x.To, .int .i64 x.Message.Kind, .int .i64 x.Message.Pos, .int .i64 x.Message.Answer, .int .i64 x.Message.Question, .string x.Message.Name, .slice A6 x.Message.dG.length c6, .int .i64 x.Message.Value.Kind, .int .i64 x.Message.Value.N, .int .i64 x.Message.Count, .int .i64 x.Message.Tag.Vat, .int .i64 x.Message.Tag.Entity, .int .i64 x.Message.Tag.Seq] ∧ x.Message.dG.length ≤ c6 ∧ C eP w A6 x.Message.dG := by
 obtain ⟨_, _, rfl, rfl, s_Message⟩ := h
 obtain ⟨A6, c6, rfl, hl6, hC6⟩ := kI s_Message
 exact ⟨A6, c6, rfl, hl6, hC6⟩
theorem kU {w : World} {A : Option Addr} {l : List GOutgoing} (h : C cO w A l) (i : Nat) (hi : i < l.length) : ∃ (ad : Addr) (A6 : Option Addr) (c6 : Nat), A = some ad ∧ w.cell? (ad.add (i * 13)) = some (.int .i64 l[i].To) ∧ w.cell? ⟨(ad.add (i * 13)).block, (ad.add (i * 13)).off + 1, none⟩ = some (.int .i64 l[i].Message.Kind) ∧ w.cell? ⟨(ad.add (i * 13)).block, (ad.add (i * 13)).off + 2, none⟩ = some (.int .i64 l[i].Message.Pos) ∧ w.cell? ⟨(ad.add (i * 13)).block, (ad.add (i * 13)).off + 3, none⟩ = some (.int .i64 l[i].Message.Answer) ∧ w.cell? ⟨(ad.add (i * 13)).block, (ad.add (i * 13)).off + 4, none⟩ = some (.int .i64 l[i].Message.Question) ∧ w.cell? ⟨(ad.add (i * 13)).block, (ad.add (i * 13)).off + 5, none⟩ = some (.string l[i].Message.Name) ∧ w.cell? ⟨(ad.add (i * 13)).block, (ad.add (i * 13)).off + 6, none⟩ = some (.slice A6 l[i].Message.dG.length c6) ∧ w.cell? ⟨(ad.add (i * 13)).block, (ad.add (i * 13)).off + 7, none⟩ = some (.int .i64 l[i].Message.Value.Kind) ∧ w.cell? ⟨(ad.add (i * 13)).block, (ad.add (i * 13)).off + 8, none⟩ = some (.int .i64 l[i].Message.Value.N) ∧ w.cell? ⟨(ad.add (i * 13)).block, (ad.add (i * 13)).off + 9, none⟩ = some (.int .i64 l[i].Message.Count) ∧ w.cell? ⟨(ad.add (i * 13)).block, (ad.add (i * 13)).off + 10, none⟩ = some (.int .i64 l[i].Message.Tag.Vat) ∧ w.cell? ⟨(ad.add (i * 13)).block, (ad.add (i * 13)).off + 11, none⟩ = some (.int .i64 l[i].Message.Tag.Entity) ∧ w.cell? ⟨(ad.add (i * 13)).block, (ad.add (i * 13)).off + 12, none⟩ = some (.int .i64 l[i].Message.Tag.Seq) ∧ l[i].Message.dG.length ≤ c6 ∧ C eP w A6 l[i].Message.dG := by
 obtain ⟨ad, c, h1, h2, h3, h4⟩ := C_at h i hi
 obtain ⟨A6, c6, rfl, hl6, hC6⟩ := lF h2
 exact ⟨ad, A6, c6, h1, h3 _ rfl, h4 0 _ rfl, h4 1 _ rfl, h4 2 _ rfl, h4 3 _ rfl, h4 4 _ rfl, h4 5 _ rfl, h4 6 _ rfl, h4 7 _ rfl, h4 8 _ rfl, h4 9 _ rfl, h4 10 _ rfl, h4 11 _ rfl, hl6, hC6⟩
theorem ki_Outgoing_M {w : World} {F : Nat → Prop} {x : GOutgoing} {cs : List Value} (h : cO.M w F x cs) : ∃ (v6 : Value) (P6 : Nat → Prop), cs = [.int .i64 x.To, .int .i64 x.Message.Kind, .int .i64 x.Message.Pos, .int .i64 x.Message.Answer, .int .i64 x.Message.Question, .string x.Message.Name, v6, .int .i64 x.Message.Value.Kind, .int .i64 x.Message.Value.N, .int .i64 x.Message.Count, .int .i64 x.Message.Tag.Vat, .int .i64 x.Message.Tag.Entity, .int .i64 x.Message.Tag.Seq] ∧ R eP 72 w P6 v6 x.Message.dG ∧ (∀ k, P6 k → F k) := by
 obtain ⟨_, _, F0, G0, rfl, rfl, s1, a0, b0, d0⟩ := h
 obtain ⟨v6, P6, rfl, hR6, i6⟩ := ki_Message_M s1
 exact ⟨v6, P6, rfl, hR6, fun k hk => (b0 k (i6 k hk))⟩
theorem ki_Outgoing_mk (w : World) (F : Nat → Prop) (x : GOutgoing) {v6 : Value} {P6 : Nat → Prop} (h6 : R eP 72 w P6 v6 x.Message.dG) (i6 : ∀ k, P6 k → F k) : cO.M w F x [.int .i64 x.To, .int .i64 x.Message.Kind, .int .i64 x.Message.Pos, .int .i64 x.Message.Answer, .int .i64 x.Message.Question, .string x.Message.Name, v6, .int .i64 x.Message.Value.Kind, .int .i64 x.Message.Value.N, .int .i64 x.Message.Count, .int .i64 x.Message.Tag.Vat, .int .i64 x.Message.Tag.Entity, .int .i64 x.Message.Tag.Seq] :=
 ⟨[_], [_, _, _, _, _, _, _, _, _, _, _, _], No, P6, rfl, rfl, (ki_Message_mk w P6 _ h6 (fun _ h => h)), fun _ h => h.elim, i6, fun _ h => h.elim⟩
def dK : Kn GVat := Kn.iso (Kn.pair Kn.int (Kn.pair (Kn.slice 171 aS) (Kn.pair (Kn.slice 235 bR) (Kn.pair (Kn.slice 178 bB) (Kn.slice 147 cO))))) (fun x => (x.Id, x.dH, x.Loop, x.gK, x.Out))
theorem ki_Vat_K {w : World} {x : GVat} {cs : List Value} (h : dK.K w x cs) : ∃ (A1 : Option Addr) (c1 : Nat) (A2 : Option Addr) (c2 : Nat) (A3 : Option Addr) (c3 : Nat) (A4 : Option Addr) (c4 : Nat), cs = [.int .i64 x.Id, .slice A1 x.dH.length c1, .slice A2 x.Loop.length c2, .slice A3 x.gK.length c3, .slice A4 x.Out.length c4] ∧ x.dH.length ≤ c1 ∧ C aS w A1 x.dH ∧ x.Loop.length ≤ c2 ∧ C bR w A2 x.Loop ∧ x.gK.length ≤ c3 ∧ C bB w A3 x.gK ∧ x.Out.length ≤ c4 ∧ C cO w A4 x.Out := by
 obtain ⟨_, _, rfl, rfl, ⟨_, _, rfl, ⟨A1, c1, rfl, hl1, hC1⟩, ⟨_, _, rfl, ⟨A2, c2, rfl, hl2, hC2⟩, ⟨_, _, rfl, ⟨A3, c3, rfl, hl3, hC3⟩, ⟨A4, c4, rfl, hl4, hC4⟩⟩⟩⟩⟩ := h
 exact ⟨A1, c1, A2, c2, A3, c3, A4, c4, rfl, hl1, hC1, hl2, hC2, hl3, hC3, hl4, hC4⟩
theorem ki_Vat_at {w : World} {A : Option Addr} {l : List GVat} (h : C dK w A l) (i : Nat) (hi : i < l.length) : ∃ (ad : Addr) (A1 : Option Addr) (c1 : Nat) (A2 : Option Addr) (c2 : Nat) (A3 : Option Addr) (c3 : Nat) (A4 : Option Addr) (c4 : Nat), A = some ad ∧ w.cell? (ad.add (i * 5)) = some (.int .i64 l[i].Id) ∧ w.cell? ⟨(ad.add (i * 5)).block, (ad.add (i * 5)).off + 1, none⟩ = some (.slice A1 l[i].dH.length c1) ∧ w.cell? ⟨(ad.add (i * 5)).block, (ad.add (i * 5)).off + 2, none⟩ = some (.slice A2 l[i].Loop.length c2) ∧ w.cell? ⟨(ad.add (i * 5)).block, (ad.add (i * 5)).off + 3, none⟩ = some (.slice A3 l[i].gK.length c3) ∧ w.cell? ⟨(ad.add (i * 5)).block, (ad.add (i * 5)).off + 4, none⟩ = some (.slice A4 l[i].Out.length c4) ∧ l[i].dH.length ≤ c1 ∧ C aS w A1 l[i].dH ∧ l[i].Loop.length ≤ c2 ∧ C bR w A2 l[i].Loop ∧ l[i].gK.length ≤ c3 ∧ C bB w A3 l[i].gK ∧ l[i].Out.length ≤ c4 ∧ C cO w A4 l[i].Out := by
 obtain ⟨ad, c, h1, h2, h3, h4⟩ := C_at h i hi
 obtain ⟨A1, c1, A2, c2, A3, c3, A4, c4, rfl, hl1, hC1, hl2, hC2, hl3, hC3, hl4, hC4⟩ := ki_Vat_K h2
 exact ⟨ad, A1, c1, A2, c2, A3, c3, A4, c4, h1, h3 _ rfl, h4 0 _ rfl, h4 1 _ rfl, h4 2 _ rfl, h4 3 _ rfl, hl1, hC1, hl2, hC2, hl3, hC3, hl4, hC4⟩
theorem ki_Vat_M {w : World} {F : Nat → Prop} {x : GVat} {cs : List Value} (h : dK.M w F x cs) : ∃ (v1 : Value) (P1 : Nat → Prop) (v2 : Value) (P2 : Nat → Prop) (v3 : Value) (P3 : Nat → Prop) (v4 : Value) (P4 : Nat → Prop), cs = [.int .i64 x.Id, v1, v2, v3, v4] ∧ R aS 171 w P1 v1 x.dH ∧ R bR 235 w P2 v2 x.Loop ∧ R bB 178 w P3 v3 x.gK ∧ R cO 147 w P4 v4 x.Out ∧ (∀ k, P1 k → F k) ∧ (∀ k, P2 k → F k) ∧ (∀ k, P3 k → F k) ∧ (∀ k, P4 k → F k) ∧ (∀ k, P1 k → ¬ P2 k) ∧ (∀ k, P1 k → ¬ P3 k) ∧ (∀ k, P1 k → ¬ P4 k) ∧ (∀ k, P2 k → ¬ P3 k) ∧ (∀ k, P2 k → ¬ P4 k) ∧ (∀ k, P3 k → ¬ P4 k) := by
 obtain ⟨_, _, F0, G0, rfl, rfl, ⟨_, _, F1, G1, rfl, ⟨v1, rfl, hR1⟩, ⟨_, _, F2, G2, rfl, ⟨v2, rfl, hR2⟩, ⟨_, _, F3, G3, rfl, ⟨v3, rfl, hR3⟩, ⟨v4, rfl, hR4⟩, a3, b3, d3⟩, a2, b2, d2⟩, a1, b1, d1⟩, a0, b0, d0⟩ := h
 exact ⟨v1, F1, v2, F2, v3, F3, v4, G3, rfl, hR1, hR2, hR3, hR4, fun k hk => (b0 k (a1 k hk)), fun k hk => (b0 k (b1 k (a2 k hk))), fun k hk => (b0 k (b1 k (b2 k (a3 k hk)))), fun k hk => (b0 k (b1 k (b2 k (b3 k hk)))), fun k hk hk' => d1 k hk (a2 k hk'), fun k hk hk' => d1 k hk (b2 k (a3 k hk')), fun k hk hk' => d1 k hk (b2 k (b3 k hk')), fun k hk hk' => d2 k hk (a3 k hk'), fun k hk hk' => d2 k hk (b3 k hk'), fun k hk hk' => d3 k hk hk'⟩
theorem ki_Vat_mk (w : World) (F : Nat → Prop) (x : GVat) {v1 : Value} {P1 : Nat → Prop} (h1 : R aS 171 w P1 v1 x.dH) {v2 : Value} {P2 : Nat → Prop} (h2 : R bR 235 w P2 v2 x.Loop) {v3 : Value} {P3 : Nat → Prop} (h3 : R bB 178 w P3 v3 x.gK) {v4 : Value} {P4 : Nat → Prop} (h4 : R cO 147 w P4 v4 x.Out) (i1 : ∀ k, P1 k → F k) (i2 : ∀ k, P2 k → F k) (i3 : ∀ k, P3 k → F k) (i4 : ∀ k, P4 k → F k) (d1_2 : ∀ k, P1 k → ¬ P2 k) (d1_3 : ∀ k, P1 k → ¬ P3 k) (d1_4 : ∀ k, P1 k → ¬ P4 k) (d2_3 : ∀ k, P2 k → ¬ P3 k) (d2_4 : ∀ k, P2 k → ¬ P4 k) (d3_4 : ∀ k, P3 k → ¬ P4 k) : dK.M w F x [.int .i64 x.Id, v1, v2, v3, v4] :=
 ⟨[_], [_, _, _, _], No, (fun k => P1 k ∨ P2 k ∨ P3 k ∨ P4 k), rfl, rfl, ⟨[_], [_, _, _], P1, (fun k => P2 k ∨ P3 k ∨ P4 k), rfl, ⟨_, rfl, h1⟩, ⟨[_], [_, _], P2, (fun k => P3 k ∨ P4 k), rfl, ⟨_, rfl, h2⟩, ⟨[_], [_], P3, P4, rfl, ⟨_, rfl, h3⟩, ⟨_, rfl, h4⟩, fun k h => by first | exact h | exact Or.inl h | exact Or.inr h, fun k h => by first | exact h | exact Or.inl h | exact Or.inr h, fun k h h' => by exact d3_4 k h h'⟩, fun k h => by first | exact h | exact Or.inl h | exact Or.inr h, fun k h => by first | exact h | exact Or.inl h | exact Or.inr h, fun k h h' => by rcases h' with h' | h' <;> first | exact d2_3 k h h' | exact d2_4 k h h'⟩, fun k h => by first | exact h | exact Or.inl h | exact Or.inr h, fun k h => by first | exact h | exact Or.inl h | exact Or.inr h, fun k h h' => by rcases h' with h' | h' | h' <;> first | exact d1_2 k h h' | exact d1_3 k h h' | exact d1_4 k h h'⟩, fun _ h => h.elim, fun k h => by rcases h with h | h | h | h <;> first | exact i1 k h | exact i2 k h | exact i3 k h | exact i4 k h, fun _ h => h.elim⟩
theorem ki_Vat_info : (Tryz.prog.info? 68).map (fun i => (i.zero, i.size, i.bytes)) = some (some (.agg #[.int .i64 0, .slice none 0 0, .slice none 0 0, .slice none 0 0, .slice none 0 0]), 5, 104) := by kernel_rfl
def aT : Kn GChannel := Kn.iso (Kn.pair Kn.int (Kn.pair Kn.int (Kn.slice 74 dA))) (fun x => (x.From, x.To, x.List))
theorem ki_Channel_K {w : World} {x : GChannel} {cs : List Value} (h : aT.K w x cs) : ∃ (A2 : Option Addr) (c2 : Nat), cs = [.int .i64 x.From, .int .i64 x.To, .slice A2 x.List.length c2] ∧ x.List.length ≤ c2 ∧ C dA w A2 x.List := by
 obtain ⟨_, _, rfl, rfl, ⟨_, _, rfl, rfl, ⟨A2, c2, rfl, hl2, hC2⟩⟩⟩ := h
 exact ⟨A2, c2, rfl, hl2, hC2⟩
theorem lG {w : World} {A : Option Addr} {l : List GChannel} (h : C aT w A l) (i : Nat) (hi : i < l.length) : ∃ (ad : Addr) (A2 : Option Addr) (c2 : Nat), A = some ad ∧ w.cell? (ad.add (i * 3)) = some (.int .i64 l[i].From) ∧ w.cell? ⟨(ad.add (i * 3)).block, (ad.add (i * 3)).off + 1, none⟩ = some (.int .i64 l[i].To) ∧ w.cell? ⟨(ad.add (i * 3)).block, (ad.add (i * 3)).off + 2, none⟩ = some (.slice A2 l[i].List.length c2) ∧ l[i].List.length ≤ c2 ∧ C dA w A2 l[i].List := by
 obtain ⟨ad, c, h1, h2, h3, h4⟩ := C_at h i hi
 obtain ⟨A2, c2, rfl, hl2, hC2⟩ := ki_Channel_K h2
 exact ⟨ad, A2, c2, h1, h3 _ rfl, h4 0 _ rfl, h4 1 _ rfl, hl2, hC2⟩
theorem ki_Channel_M {w : World} {F : Nat → Prop} {x : GChannel} {cs : List Value} (h : aT.M w F x cs) : ∃ (v2 : Value) (P2 : Nat → Prop), cs = [.int .i64 x.From, .int .i64 x.To, v2] ∧ R dA 74 w P2 v2 x.List ∧ (∀ k, P2 k → F k) := by
 obtain ⟨_, _, F0, G0, rfl, rfl, ⟨_, _, F1, G1, rfl, rfl, ⟨v2, rfl, hR2⟩, a1, b1, d1⟩, a0, b0, d0⟩ := h
 exact ⟨v2, G1, rfl, hR2, fun k hk => (b0 k (b1 k hk))⟩
theorem ki_Channel_mk (w : World) (F : Nat → Prop) (x : GChannel) {v2 : Value} {P2 : Nat → Prop} (h2 : R dA 74 w P2 v2 x.List) (i2 : ∀ k, P2 k → F k) : aT.M w F x [.int .i64 x.From, .int .i64 x.To, v2] :=
 ⟨[_], [_, _], No, P2, rfl, rfl, ⟨[_], [_], No, P2, rfl, rfl, ⟨_, rfl, h2⟩, fun _ h => h.elim, fun _ h => h, fun _ h => h.elim⟩, fun _ h => h.elim, i2, fun _ h => h.elim⟩
theorem ki_Channel_info : (Tryz.prog.info? 196).map (fun i => (i.zero, i.size, i.bytes)) = some (some (.agg #[.int .i64 0, .int .i64 0, .slice none 0 0]), 3, 40) := by kernel_rfl
def eG : Kn GNote := Kn.iso (Kn.pair Kn.int (Kn.pair Kn.int (Kn.pair Kn.int ki_Tag))) (fun x => (x.Kind, x.Vat, x.Entity, x.Tag))
theorem ki_Note_K {w : World} {x : GNote} {cs : List Value} (h : eG.K w x cs) : cs = [.int .i64 x.Kind, .int .i64 x.Vat, .int .i64 x.Entity, .int .i64 x.Tag.Vat, .int .i64 x.Tag.Entity, .int .i64 x.Tag.Seq] := by
 obtain ⟨_, _, rfl, rfl, ⟨_, _, rfl, rfl, ⟨_, _, rfl, rfl, s_Tag⟩⟩⟩ := h
 obtain rfl := ki_Tag_K s_Tag
 exact rfl
theorem ki_Note_at {w : World} {A : Option Addr} {l : List GNote} (h : C eG w A l) (i : Nat) (hi : i < l.length) : ∃ (ad : Addr), A = some ad ∧ w.cell? (ad.add (i * 6)) = some (.int .i64 l[i].Kind) ∧ w.cell? ⟨(ad.add (i * 6)).block, (ad.add (i * 6)).off + 1, none⟩ = some (.int .i64 l[i].Vat) ∧ w.cell? ⟨(ad.add (i * 6)).block, (ad.add (i * 6)).off + 2, none⟩ = some (.int .i64 l[i].Entity) ∧ w.cell? ⟨(ad.add (i * 6)).block, (ad.add (i * 6)).off + 3, none⟩ = some (.int .i64 l[i].Tag.Vat) ∧ w.cell? ⟨(ad.add (i * 6)).block, (ad.add (i * 6)).off + 4, none⟩ = some (.int .i64 l[i].Tag.Entity) ∧ w.cell? ⟨(ad.add (i * 6)).block, (ad.add (i * 6)).off + 5, none⟩ = some (.int .i64 l[i].Tag.Seq) := by
 obtain ⟨ad, c, h1, h2, h3, h4⟩ := C_at h i hi
 obtain rfl := ki_Note_K h2
 exact ⟨ad, h1, h3 _ rfl, h4 0 _ rfl, h4 1 _ rfl, h4 2 _ rfl, h4 3 _ rfl, h4 4 _ rfl⟩
theorem ki_Note_M {w : World} {F : Nat → Prop} {x : GNote} {cs : List Value} (h : eG.M w F x cs) : cs = [.int .i64 x.Kind, .int .i64 x.Vat, .int .i64 x.Entity, .int .i64 x.Tag.Vat, .int .i64 x.Tag.Entity, .int .i64 x.Tag.Seq] := by
 exact ki_Note_K (eG.eT h)
theorem ki_Note_mk (w : World) (F : Nat → Prop) (x : GNote) : eG.M w F x [.int .i64 x.Kind, .int .i64 x.Vat, .int .i64 x.Entity, .int .i64 x.Tag.Vat, .int .i64 x.Tag.Entity, .int .i64 x.Tag.Seq] :=
 ⟨[_], [_, _, _, _, _], No, No, rfl, rfl, ⟨[_], [_, _, _, _], No, No, rfl, rfl, ⟨[_], [_, _, _], No, No, rfl, rfl, (ki_Tag_mk w No _), fun _ h => h.elim, fun _ h => h.elim, fun _ h => h.elim⟩, fun _ h => h.elim, fun _ h => h.elim, fun _ h => h.elim⟩, fun _ h => h.elim, fun _ h => h.elim, fun _ h => h.elim⟩
def dI : Kn GWorld := Kn.iso (Kn.pair (Kn.slice 133 aR) (Kn.pair (Kn.slice 68 dK) (Kn.pair (Kn.slice 196 aT) (Kn.pair (Kn.slice 110 eG) Kn.int)))) (fun x => (x.eY, x.Vats, x.eH, x.jD, x.Strays))
theorem ki_World_K {w : World} {x : GWorld} {cs : List Value} (h : dI.K w x cs) : ∃ (A0 : Option Addr) (c0 : Nat) (A1 : Option Addr) (c1 : Nat) (A2 : Option Addr) (c2 : Nat) (A3 : Option Addr) (c3 : Nat), cs = [.slice A0 x.eY.length c0, .slice A1 x.Vats.length c1, .slice A2 x.eH.length c2, .slice A3 x.jD.length c3, .int .i64 x.Strays] ∧ x.eY.length ≤ c0 ∧ C aR w A0 x.eY ∧ x.Vats.length ≤ c1 ∧ C dK w A1 x.Vats ∧ x.eH.length ≤ c2 ∧ C aT w A2 x.eH ∧ x.jD.length ≤ c3 ∧ C eG w A3 x.jD := by
 obtain ⟨_, _, rfl, ⟨A0, c0, rfl, hl0, hC0⟩, ⟨_, _, rfl, ⟨A1, c1, rfl, hl1, hC1⟩, ⟨_, _, rfl, ⟨A2, c2, rfl, hl2, hC2⟩, ⟨_, _, rfl, ⟨A3, c3, rfl, hl3, hC3⟩, rfl⟩⟩⟩⟩ := h
 exact ⟨A0, c0, A1, c1, A2, c2, A3, c3, rfl, hl0, hC0, hl1, hC1, hl2, hC2, hl3, hC3⟩
theorem ki_World_M {w : World} {F : Nat → Prop} {x : GWorld} {cs : List Value} (h : dI.M w F x cs) : ∃ (v0 : Value) (P0 : Nat → Prop) (v1 : Value) (P1 : Nat → Prop) (v2 : Value) (P2 : Nat → Prop) (v3 : Value) (P3 : Nat → Prop), cs = [v0, v1, v2, v3, .int .i64 x.Strays] ∧ R aR 133 w P0 v0 x.eY ∧ R dK 68 w P1 v1 x.Vats ∧ R aT 196 w P2 v2 x.eH ∧ R eG 110 w P3 v3 x.jD ∧ (∀ k, P0 k → F k) ∧ (∀ k, P1 k → F k) ∧ (∀ k, P2 k → F k) ∧ (∀ k, P3 k → F k) ∧ (∀ k, P0 k → ¬ P1 k) ∧ (∀ k, P0 k → ¬ P2 k) ∧ (∀ k, P0 k → ¬ P3 k) ∧ (∀ k, P1 k → ¬ P2 k) ∧ (∀ k, P1 k → ¬ P3 k) ∧ (∀ k, P2 k → ¬ P3 k) := by
 obtain ⟨_, _, F0, G0, rfl, ⟨v0, rfl, hR0⟩, ⟨_, _, F1, G1, rfl, ⟨v1, rfl, hR1⟩, ⟨_, _, F2, G2, rfl, ⟨v2, rfl, hR2⟩, ⟨_, _, F3, G3, rfl, ⟨v3, rfl, hR3⟩, rfl, a3, b3, d3⟩, a2, b2, d2⟩, a1, b1, d1⟩, a0, b0, d0⟩ := h
 exact ⟨v0, F0, v1, F1, v2, F2, v3, F3, rfl, hR0, hR1, hR2, hR3, fun k hk => (a0 k hk), fun k hk => (b0 k (a1 k hk)), fun k hk => (b0 k (b1 k (a2 k hk))), fun k hk => (b0 k (b1 k (b2 k (a3 k hk)))), fun k hk hk' => d0 k hk (a1 k hk'), fun k hk hk' => d0 k hk (b1 k (a2 k hk')), fun k hk hk' => d0 k hk (b1 k (b2 k (a3 k hk'))), fun k hk hk' => d1 k hk (a2 k hk'), fun k hk hk' => d1 k hk (b2 k (a3 k hk')), fun k hk hk' => d2 k hk (a3 k hk')⟩
theorem ki_World_mk (w : World) (F : Nat → Prop) (x : GWorld) {v0 : Value} {P0 : Nat → Prop} (h0 : R aR 133 w P0 v0 x.eY) {v1 : Value} {P1 : Nat → Prop} (h1 : R dK 68 w P1 v1 x.Vats) {v2 : Value} {P2 : Nat → Prop} (h2 : R aT 196 w P2 v2 x.eH) {v3 : Value} {P3 : Nat → Prop} (h3 : R eG 110 w P3 v3 x.jD) (i0 : ∀ k, P0 k → F k) (i1 : ∀ k, P1 k → F k) (i2 : ∀ k, P2 k → F k) (i3 : ∀ k, P3 k → F k) (d0_1 : ∀ k, P0 k → ¬ P1 k) (d0_2 : ∀ k, P0 k → ¬ P2 k) (d0_3 : ∀ k, P0 k → ¬ P3 k) (d1_2 : ∀ k, P1 k → ¬ P2 k) (d1_3 : ∀ k, P1 k → ¬ P3 k) (d2_3 : ∀ k, P2 k → ¬ P3 k) : dI.M w F x [v0, v1, v2, v3, .int .i64 x.Strays] :=
 ⟨[_], [_, _, _, _], P0, (fun k => P1 k ∨ P2 k ∨ P3 k), rfl, ⟨_, rfl, h0⟩, ⟨[_], [_, _, _], P1, (fun k => P2 k ∨ P3 k), rfl, ⟨_, rfl, h1⟩, ⟨[_], [_, _], P2, P3, rfl, ⟨_, rfl, h2⟩, ⟨[_], [_], P3, No, rfl, ⟨_, rfl, h3⟩, rfl, fun _ h => h, fun _ h => h.elim, fun _ _ h => h.elim⟩, fun k h => by first | exact h | exact Or.inl h | exact Or.inr h, fun k h => by first | exact h | exact Or.inl h | exact Or.inr h, fun k h h' => by exact d2_3 k h h'⟩, fun k h => by first | exact h | exact Or.inl h | exact Or.inr h, fun k h => by first | exact h | exact Or.inl h | exact Or.inr h, fun k h h' => by rcases h' with h' | h' <;> first | exact d1_2 k h h' | exact d1_3 k h h'⟩, i0, fun k h => by rcases h with h | h | h <;> first | exact i1 k h | exact i2 k h | exact i3 k h, fun k h h' => by rcases h' with h' | h' | h' <;> first | exact d0_1 k h h' | exact d0_2 k h h' | exact d0_3 k h h'⟩
end Go.Proofs.YtfnedoiplblldaaGreatK
namespace Go.Proofs.YtfnedoiplblldaaGreatT
open Go.RowKit Go.Proofs.YtfnedoiplblldaaGreatSep Go.Proofs.YtfnedoiplblldaaGreatK
theorem fA {W : World} {x : GEntity} {cs : List Value} (h : aS.K W x cs) : cs.length = 12 := aS.K_len h
theorem jU {W : World} {x : GEntity} {cs : List Value} (h : aS.K W x cs) : ∀ u ∈ (List.toArray cs).toList, u.oneCell' = true := aS.K_one h
theorem jF {W : World} {F : Nat → Prop} {x : GEntity} {v2 : Value} {v6 : Value} {v7 : Value} (h : Star [hR bF 95 v2 x.fF, hR bR 235 v6 x.Queue, hR cK 285 v7 x.eF] W F) : aS.M W F x [.int .i64 x.Kind, .int .i64 x.Script, v2, .int .i64 x.State, .int .i64 x.Value.Kind, .int .i64 x.Value.N, v6, v7, .int .i64 x.dW, .int .i64 x.Pos, .int .i64 x.Count, .int .i64 x.Sent] := by
 obtain ⟨Fs, h1, h2, h3⟩ := h
 exact ki_Entity_mk W F x (h3 0 _ rfl) (h3 1 _ rfl) (h3 2 _ rfl) (h1 0) (h1 1) (h1 2) (fun k p q => absurd (h2 0 1 k p q) kD) (fun k p q => absurd (h2 0 2 k p q) kD) (fun k p q => absurd (h2 1 2 k p q) kD)
theorem ki_Export_len {W : World} {x : GExport} {cs : List Value} (h : aL.K W x cs) : cs.length = 3 := aL.K_len h
theorem ki_Export_one {W : World} {x : GExport} {cs : List Value} (h : aL.K W x cs) : ∀ u ∈ (List.toArray cs).toList, u.oneCell' = true := aL.K_one h
theorem j5 {W : World} {x : GLink} {cs : List Value} (h : bB.K W x cs) : cs.length = 7 := bB.K_len h
theorem ki_Link_one {W : World} {x : GLink} {cs : List Value} (h : bB.K W x cs) : ∀ u ∈ (List.toArray cs).toList, u.oneCell' = true := bB.K_one h
theorem jV {W : World} {F : Nat → Prop} {x : GLink} {v2 : Value} {v4 : Value} {v6 : Value} (h : Star [hR aL 256 v2 x.aC, hR aJ 289 v4 x.aD, hR aJ 289 v6 x.aN] W F) : bB.M W F x [.int .i64 x.dW, .bool x.Up, v2, .int .i64 x.Next, v4, .int .i64 x.dN, v6] := by
 obtain ⟨Fs, h1, h2, h3⟩ := h
 exact ki_Link_mk W F x (h3 0 _ rfl) (h3 1 _ rfl) (h3 2 _ rfl) (h1 0) (h1 1) (h1 2) (fun k p q => absurd (h2 0 1 k p q) kD) (fun k p q => absurd (h2 0 2 k p q) kD) (fun k p q => absurd (h2 1 2 k p q) kD)
theorem ki_Link_open {W : World} {F : Nat → Prop} {x : GLink} {cs : List Value} (h : bB.M W F x cs) : ∃ (A2 : Option Addr) (c2 : Nat) (A4 : Option Addr) (c4 : Nat) (A6 : Option Addr) (c6 : Nat), cs = [.int .i64 x.dW, .bool x.Up, .slice A2 x.aC.length c2, .int .i64 x.Next, .slice A4 x.aD.length c4, .int .i64 x.dN, .slice A6 x.aN.length c6] ∧ Star [hR aL 256 (.slice A2 x.aC.length c2) x.aC, hR aJ 289 (.slice A4 x.aD.length c4) x.aD, hR aJ 289 (.slice A6 x.aN.length c6) x.aN] W F := by
 obtain ⟨v2, P2, v4, P4, v6, P6, rfl, r2, r4, r6, i2, i4, i6, d2_4, d2_6, d4_6⟩ := ki_Link_M h
 obtain ⟨A2, c2, rfl⟩ := bK r2
 obtain ⟨A4, c4, rfl⟩ := bK r4
 obtain ⟨A6, c6, rfl⟩ := bK r6
 exact ⟨A2, c2, A4, c4, A6, c6, rfl, (Star.cons P2 (fun b => P4 b ∨ P6 b) r2 (Star.cons P4 (fun b => P6 b) r4 (Star.cons P6 (fun b => False) r6 Star.nil (fun b h => h) (fun b h => h.elim) (fun b p h => h.elim)) (fun b h => .inl h) (fun b h => .inr h) (fun b p h => (by exact d4_6 b p h))) i2 (fun b h => (by rcases h with h | h; exact i4 b h; exact i6 b h)) (fun b p h => (by rcases h with h | h; exact d2_4 b p h; exact d2_6 b p h)))⟩
theorem ki_Vat_len {W : World} {x : GVat} {cs : List Value} (h : dK.K W x cs) : cs.length = 5 := dK.K_len h
theorem ki_Vat_close {W : World} {F : Nat → Prop} {x : GVat} {v1 : Value} {v2 : Value} {v3 : Value} {v4 : Value} (h : Star [hR aS 171 v1 x.dH, hR bR 235 v2 x.Loop, hR bB 178 v3 x.gK, hR cO 147 v4 x.Out] W F) : dK.M W F x [.int .i64 x.Id, v1, v2, v3, v4] := by
 obtain ⟨Fs, h1, h2, h3⟩ := h
 exact ki_Vat_mk W F x (h3 0 _ rfl) (h3 1 _ rfl) (h3 2 _ rfl) (h3 3 _ rfl) (h1 0) (h1 1) (h1 2) (h1 3) (fun k p q => absurd (h2 0 1 k p q) kD) (fun k p q => absurd (h2 0 2 k p q) kD) (fun k p q => absurd (h2 0 3 k p q) kD) (fun k p q => absurd (h2 1 2 k p q) kD) (fun k p q => absurd (h2 1 3 k p q) kD) (fun k p q => absurd (h2 2 3 k p q) kD)
theorem ki_Channel_close {W : World} {F : Nat → Prop} {x : GChannel} {v2 : Value} (h : Star [hR dA 74 v2 x.List] W F) : aT.M W F x [.int .i64 x.From, .int .i64 x.To, v2] := by
 obtain ⟨Fs, h1, h2, h3⟩ := h
 exact ki_Channel_mk W F x (h3 0 _ rfl) (h1 0)
theorem eX {W : World} {x : GWorld} {cs : List Value} (h : dI.K W x cs) : cs.length = 5 := dI.K_len h
theorem ki_World_one {W : World} {x : GWorld} {cs : List Value} (h : dI.K W x cs) : ∀ u ∈ (List.toArray cs).toList, u.oneCell' = true := dI.K_one h
theorem ki_World_close {W : World} {F : Nat → Prop} {x : GWorld} {v0 : Value} {v1 : Value} {v2 : Value} {v3 : Value} (h : Star [hR aR 133 v0 x.eY, hR dK 68 v1 x.Vats, hR aT 196 v2 x.eH, hR eG 110 v3 x.jD] W F) : dI.M W F x [v0, v1, v2, v3, .int .i64 x.Strays] := by
 obtain ⟨Fs, h1, h2, h3⟩ := h
 exact ki_World_mk W F x (h3 0 _ rfl) (h3 1 _ rfl) (h3 2 _ rfl) (h3 3 _ rfl) (h1 0) (h1 1) (h1 2) (h1 3) (fun k p q => absurd (h2 0 1 k p q) kD) (fun k p q => absurd (h2 0 2 k p q) kD) (fun k p q => absurd (h2 0 3 k p q) kD) (fun k p q => absurd (h2 1 2 k p q) kD) (fun k p q => absurd (h2 1 3 k p q) kD) (fun k p q => absurd (h2 2 3 k p q) kD)
end Go.Proofs.YtfnedoiplblldaaGreatT
namespace Go.Proofs.YtfnedoiplblldaaGreatSep
open Go.ChangeShapes Go.WideShapes Go.RowKit
section
variable {α : Type}
def EP (d : Kn α) (e g cap i : Nat) (ce : List Value) (xs : List α) (W : World) (F : Nat → Prop) : Prop :=
 ∃ (cur : Array Value) (Fs : Nat → Nat → Prop), F g ∧ Blk W g e cur ∧ (xs.length ≤ cap ∧ cap ≤ 9223372036854775807 ∧ cur.size = cap * d.sz) ∧ (∀ j b, Fs j b → F b ∧ b ≠ g) ∧ (∀ j k b, Fs j b → Fs k b → j = k) ∧ (∀ j x, j ≠ i → xs[j]? = some x → d.M W (Fs j) x (piece d.sz cur.toList j)) ∧ piece d.sz cur.toList i = ce ∧ i < xs.length
def hE (d : Kn α) (e g cap i : Nat) (ce : List Value) (xs : List α) : HP where
 p := EP d e g cap i ce xs
 same := by
  rintro W W' F h ⟨cur, Fs, h1, h2, h3, h4, h5, h6, h7, h8⟩
  exact ⟨cur, Fs, h1, (h g h1).trans h2, h3, h4, h5, fun j x hj hx => d.gX (fun b hb => h b (h4 j b hb).1) (h6 j x hj hx), h7, h8⟩
 lt := by
  rintro W F ⟨cur, Fs, h1, h2, h3, h4, h5, h6, h7, h8⟩
  exact ⟨cur, fun j b => Fs j b ∧ b < W.heap.size, ⟨h1, Blk.lt h2⟩, h2, h3, fun j b hb => ⟨⟨(h4 j b hb.1).1, hb.2⟩, (h4 j b hb.1).2⟩, fun j k b hj hk => h5 j k b hj.1 hk.1, fun j x hj hx => d.M_lt (h6 j x hj hx), h7, h8⟩
 mono := by
  rintro W F F' h ⟨cur, Fs, h1, h2, h3, h4, h5, h6, h7, h8⟩
  exact ⟨cur, Fs, h g h1, h2, h3, fun j b hb => ⟨h b (h4 j b hb).1, (h4 j b hb).2⟩, h5, h6, h7, h8⟩
variable {d : Kn α} {e g cap i : Nat} {ce : List Value} {xs : List α} {l : List HP} {W w : World} {F F0 : Nat → Prop} {v : Value}
theorem R_openE (h : R d e W F v xs) (hi : i < xs.length) : ∃ g cap ce, v = .slice (some ⟨g, 0, none⟩) xs.length cap ∧ Star [hE d e g cap i ce xs, hM d xs[i] ce] W F := by
 rcases h with ⟨_, rfl⟩ | ⟨g, cap, cur, Fs, h1, h2, h3, h4, h5, h6, h7, h8, h9⟩
 ·simp at hi
 refine ⟨g, cap, _, h1, Star.cons (fun b => F b ∧ ¬ Fs i b) (Fs i) ⟨cur, fun j b => j ≠ i ∧ Fs j b, ⟨h3, fun q => (h7 i g q).2 rfl⟩, h2, ⟨h4, h5, h6⟩, fun j b hb => ⟨⟨(h7 j b hb.2).1, fun q => hb.1 (h8 j i b hb.2 q)⟩, (h7 j b hb.2).2⟩, fun j k b hj hk => h8 j k b hj.2 hk.2, fun j x hj hx => d.gI (fun _ q => ⟨hj, q⟩) (h9 j x hx), rfl, hi⟩ (Star.one (h9 i xs[i] (List.getElem?_eq_getElem hi))) (fun _ q => q.1) (fun b q => (h7 i b q).1) (fun b q q' => q.2 q')⟩
theorem R_closeE {y : α} (h : Star [hE d e g cap i ce xs, hM d y ce] W F) : R d e W F (.slice (some ⟨g, 0, none⟩) xs.length cap) (xs.set i y) := by
 obtain ⟨F1, F2, ⟨cur, Fs, h1, h2, ⟨h3, h3b, h3c⟩, h4, h5, h6, h7, h8⟩, a2, a3, a4, a5⟩ := h.uncons
 obtain ⟨Fp, F4, d1, _, d3, _, _⟩ := a2.uncons
 refine .inr ⟨g, cap, cur, fun j b => if j = i then Fp b else Fs j b, by rw [List.length_set], h2, a3 g h1, by rw [List.length_set]; exact h3, h3b, h3c, fun j b hb => ?_, fun j k b hj hk => ?_, fun j x hx => ?_⟩
 ·by_cases c : j = i
  ·simp only [c, if_true] at hb
   exact ⟨a4 b (d3 b hb), fun q => a5 g h1 (q ▸ d3 b hb)⟩
  ·simp only [c, if_false] at hb
   exact ⟨a3 b (h4 j b hb).1, (h4 j b hb).2⟩
 ·by_cases c : j = i <;> by_cases c' : k = i
  ·omega
  ·simp only [c, c', if_true, if_false] at hj hk
   exact absurd (d3 b hj) (a5 b (h4 k b hk).1)
  ·simp only [c, c', if_true, if_false] at hj hk
   exact absurd (d3 b hk) (a5 b (h4 j b hj).1)
  ·simp only [c, c', if_false] at hj hk
   exact h5 j k b hj hk
 ·rw [List.getElem?_set] at hx
  by_cases c : i = j
  ·subst c
   rw [if_pos rfl, if_pos h8] at hx
   obtain rfl := Option.some.inj hx
   simp only [if_true]
   rw [h7]
   exact d1
  ·rw [if_neg c] at hx
   simp only [show ¬ j = i from fun q => c q.symm, if_false]
   exact h6 j x (fun q => c q.symm) hx
theorem St.unM {q : HP} (H : St w F0 (q :: l) W) : ∃ F1 : Nat → Prop, q.p W F1 ∧ ∀ l', Star l' W F1 → St w F0 (l' ++ l) W := by
 obtain ⟨F1, F2, a1, a2, a3, a4, a5⟩ := H.2.uncons
 exact ⟨F1, a1, fun l' h => ⟨H.1, Star.append F1 F2 h a2 a3 a4 a5⟩⟩
theorem St.openE (H : St w F0 (hR d e v xs :: l) W) (hi : i < xs.length) : ∃ g cap ce, v = .slice (some ⟨g, 0, none⟩) xs.length cap ∧ St w F0 (hE d e g cap i ce xs :: hM d xs[i] ce :: l) W := by
 obtain ⟨F1, h1, h2⟩ := H.unM
 obtain ⟨g, cap, ce, e', hs⟩ := R_openE h1 hi
 exact ⟨g, cap, ce, e', h2 _ hs⟩
theorem St.closeE {y : α} (H : St w F0 (hE d e g cap i ce xs :: hM d y ce :: l) W) : St w F0 (hR d e (.slice (some ⟨g, 0, none⟩) xs.length cap) (xs.set i y) :: l) W :=
 St.swap (l0 := [hE d e g cap i ce xs, hM d y ce]) (l' := [hR d e (.slice (some ⟨g, 0, none⟩) xs.length cap) (xs.set i y)]) H (fun _ h => Star.one (R_closeE h))
theorem EP.cat (h : EP d e g cap i ce xs W F) : Cat W (Addr.add ⟨g, 0, none⟩ (i * d.sz)) ce := by
 obtain ⟨cur, Fs, h1, h2, h3, h4, h5, h6, h7, h8⟩ := h
 intro j u hu
 rw [← h7] at hu
 rw [add_add', add_plain, h2.cell]
 simp only [piece, List.getElem?_take, List.getElem?_drop] at hu
 split at hu
 ·simpa using hu
 ·cases hu
theorem St.catE (H : St w F0 l W) (q : Nat) (hq : l[q]? = some (hE d e g cap i ce xs)) : Cat W (Addr.add ⟨g, 0, none⟩ (i * d.sz)) ce := by
 obtain ⟨F, hF⟩ := H.get q hq
 exact EP.cat hF
theorem EP.set (h : EP d e g cap i ce xs W F) (k : Nat) (vs : List Value) (hk : k + vs.length ≤ ce.length) (h1 : ∀ u ∈ vs, u.oneCell' = true) (P : Program) :
 ∃ W', (storeCells ⟨g, i * d.sz + k, none⟩ vs 0).run P W = .ok () W' ∧ Upd (fun b => b = g) W W' ∧ EP d e g cap i (ce.take k ++ vs ++ ce.drop (k + vs.length)) xs W' F := by
 obtain ⟨cur, Fs, a1, a2, ⟨a3, a3b, a3c⟩, a4, a5, a6, a7, a8⟩ := h
 have hcl : ce.length ≤ d.sz := by rw [← a7]; simp [piece]; omega
 have hsz : i * d.sz + d.sz ≤ cur.size := by rw [a3c, ← Nat.succ_mul]; exact Nat.mul_le_mul_right _ kO
 have hst := run_storeCells_at P g (i * d.sz + k) e vs 0 cur W a2 kO h1
 simp only [Nat.add_zero] at hst
 refine ⟨_, hst, ?_, ?_⟩
 ·refine ⟨rfl, rfl, rfl, by simp [World.setRow], fun b hb' hF => ?_⟩
  simp only [World.setRow, Array.getElem?_modify]
  rw [if_neg (fun e => hF e.symm)]
 ·have hget : ∀ p, (cur.toList.take (i * d.sz + k) ++ vs ++ cur.toList.drop (i * d.sz + k + vs.length))[p]? = if p < i * d.sz + k then cur.toList[p]? else if p < i * d.sz + k + vs.length then vs[p - (i * d.sz + k)]? else cur.toList[p]? := by
   intro p
   have hlen : (cur.toList.take (i * d.sz + k)).length = i * d.sz + k := by simp; omega
   by_cases c1 : p < i * d.sz + k
   ·rw [List.append_assoc, List.getElem?_append_left kO, List.getElem?_take, if_pos c1, if_pos c1]
   ·rw [if_neg c1]
    by_cases c2 : p < i * d.sz + k + vs.length
    ·rw [if_pos c2, List.append_assoc, List.getElem?_append_right kO, hlen, List.getElem?_append_left kO]
    ·rw [if_neg c2, List.getElem?_append_right (by simp; omega), List.getElem?_drop]
     congr 1
     simp
     omega
  have hp : ∀ j q, (piece d.sz (cur.toList.take (i * d.sz + k) ++ vs ++ cur.toList.drop (i * d.sz + k + vs.length)) j)[q]? = if q < d.sz then (if j * d.sz + q < i * d.sz + k then cur.toList[j * d.sz + q]? else if j * d.sz + q < i * d.sz + k + vs.length then vs[j * d.sz + q - (i * d.sz + k)]? else cur.toList[j * d.sz + q]?) else none := by
   intro j q
   unfold piece
   rw [List.getElem?_take]
   by_cases hq : q < d.sz
   ·rw [if_pos hq, if_pos hq, List.getElem?_drop, hget]
   ·rw [if_neg hq, if_neg hq]
  refine ⟨_, Fs, a1, setRow_heap W g cur _ e (0, 0) a2, ⟨a3, a3b, ?_⟩, a4, a5, fun j x hj hx => ?_, ?_, a8⟩
  ·rw [← a3c]
   simp
   omega
  ·have hpc : piece d.sz (cur.toList.take (i * d.sz + k) ++ vs ++ cur.toList.drop (i * d.sz + k + vs.length)) j = piece d.sz cur.toList j := by
    apply List.ext_getElem?
    intro q
    rw [hp j q]
    unfold piece
    rw [List.getElem?_take]
    by_cases hq : q < d.sz
    ·rw [if_pos hq, if_pos hq, List.getElem?_drop]
     rcases Nat.lt_or_gt_of_ne hj with c | c
     ·have : j * d.sz + d.sz ≤ i * d.sz := by rw [← Nat.succ_mul]; exact Nat.mul_le_mul_right _ c
      rw [if_pos kO]
     ·have : i * d.sz + d.sz ≤ j * d.sz := by rw [← Nat.succ_mul]; exact Nat.mul_le_mul_right _ c
      rw [if_neg kO, if_neg kO]
    ·rw [if_neg hq, if_neg hq]
   have e' : (cur.toList.take (i * d.sz + k) ++ vs ++ cur.toList.drop (i * d.sz + k + vs.length)).toArray.toList = cur.toList.take (i * d.sz + k) ++ vs ++ cur.toList.drop (i * d.sz + k + vs.length) := rfl
   rw [e', hpc]
   refine d.gX (fun b hb => setRow_other W g b _ (a4 j b hb).2) (a6 j x hj hx)
  ·have e' : (cur.toList.take (i * d.sz + k) ++ vs ++ cur.toList.drop (i * d.sz + k + vs.length)).toArray.toList = cur.toList.take (i * d.sz + k) ++ vs ++ cur.toList.drop (i * d.sz + k + vs.length) := rfl
   rw [e']
   apply List.ext_getElem?
   intro q
   rw [hp i q]
   have hce : ∀ q, ce[q]? = if q < d.sz then cur.toList[i * d.sz + q]? else none := by
    intro q
    rw [← a7]
    unfold piece
    rw [List.getElem?_take]
    by_cases hq : q < d.sz
    ·rw [if_pos hq, if_pos hq, List.getElem?_drop]
    ·rw [if_neg hq, if_neg hq]
   have hlen : (ce.take k).length = k := by simp; omega
   by_cases c1 : q < k
   ·rw [List.append_assoc, List.getElem?_append_left kO, List.getElem?_take, if_pos c1, hce, if_pos kO, if_pos kO]
    rw [if_pos kO]
   ·by_cases c2 : q < k + vs.length
    ·rw [List.append_assoc, List.getElem?_append_right kO, hlen, List.getElem?_append_left kO, if_pos kO, if_neg kO, if_pos kO]
     congr 1
     omega
    ·rw [List.getElem?_append_right (by simp; omega), List.getElem?_drop, hce]
     have e2 : k + vs.length + (q - (ce.take k ++ vs).length) = q := by simp; omega
     rw [e2]
     by_cases c3 : q < d.sz
     ·rw [if_pos c3, if_pos c3, if_neg kO, if_neg kO]
     ·rw [if_neg c3, if_neg c3]
end
section
variable {α : Type} {P : Program} {ops : Array Oper} {Q : Exit → Act → World → Prop} {K : Act → World → Prop} {n i d ty : Nat} {x : Nat → Value} {live : List (Nat × Value)} {W w : World} {F0 : Nat → Prop} {l : List HP} {pos : String} {aft : Array Edge} {v : Value} {y z : Operand}
theorem rn_makeFunc {dst : Option Nat} {fn : Fn} {ys zs : Array Operand} {us vs : Array Value} (hy : ys.toList.map (evl n live) = us.toList.map some) (hz : zs.toList.map (evl n live) = vs.toList.map some) : Rn P ⟨dst, .makeFunc fn ys zs, ty, pos, aft, none⟩ (aZ n x live) W (.func fn us vs) := by
 unfold Rn
 simp [execOp, Instr.makeFunc, evls_ok hy, evls_ok hz]
theorem retb {f : FuncId} {vs : Array Value} {b c : Bool} {W0 : World} (h : Calls P f vs W (dD b W0)) (e : b = c) : Calls P f vs W (dD c W0) := e ▸ h
theorem op_storeE {dk : Kn α} {t e g cap q k m : Nat} {ce ce' : List Value} {xs : List α} {a : Addr} (ho : ops[i]? = some ⟨none, .store t y z, ty, pos, aft, none⟩) (hS : ∀ w, (sizeOf t).run P w = .ok m w) (hx : evl n live y = some (.pointer (some a))) (ha : a = Addr.add (Addr.add ⟨g, 0, none⟩ (q * dk.sz)) k) (hz : evl n live z = some v) (hm : v.cells.size = m) (hk : k + m ≤ ce.length) (h1 : ∀ u ∈ v.cells.toList, u.oneCell' = true) (hce : ce.take k ++ v.cells.toList ++ ce.drop (k + m) = ce') (H : St w F0 (hE dk e g cap q ce xs :: l) W) (h : ∀ W', Upd (fun b => b = g) W W' → St w F0 (hE dk e g cap q ce' xs :: l) W' → K (aZ n x live) W') : wpOp P ops Q i K (aZ n x live) W := by
 subst hm
 refine op_ok ho rfl ?_
 obtain ⟨F1, a1, a2, a3⟩ := H.turn
 obtain ⟨W', hst, hu, hE'⟩ := EP.set a1 k v.cells.toList (by simpa using hk) h1 P
 rw [add_add', add_plain] at ha
 subst ha
 have hrun : (execOp (aZ n x live).eval ⟨none, .store t y z, ty, pos, aft, none⟩).run P W = .ok .skip W' := by
  simp only [execOp, dQ hx, dQ hz, Instr.storeAt, Instr.sureAddr, storeVar, Sem.run_bind, Sem.run_pure, Result.andThen_ok, hS, ne_eq, not_true, if_false]
  rw [hst]
  rfl
 unfold Oper.wp
 rw [hrun]
 simp only [Oper.upon]
 refine h W' hu ?_
 rw [← hce]
 have hl : v.cells.toList.length = v.cells.size := by simp
 rw [← hl]
 have hg : F1 g := by
  obtain ⟨cur, Fs, b1, _⟩ := a1
  exact b1
 exact a3 (hE dk e g cap q (ce.take k ++ v.cells.toList ++ ce.drop (k + v.cells.toList.length)) xs) W' (hu.mono (fun b _ e' => e' ▸ hg)) ((hE dk e g cap q _ xs).mono (fun _ q => .inl q) hE')
end
end Go.Proofs.YtfnedoiplblldaaGreatSep
namespace Go.Proofs.YtfnedoiplblldaaGreatFam
open Go.RowKit Go.Proofs.YtfnedoiplblldaaGreatSep Go.Proofs.YtfnedoiplblldaaGreatT Go.Proofs.YtfnedoiplblldaaGreatK
set_option linter.unusedVariables false
set_option linter.unusedSimpArgs false
set_option maxHeartbeats 1000000
set_option maxRecDepth 100000
theorem dgs_zero : dgs 0 = [] := by rw [dgs]; simp
theorem dgs_pos (n : Nat) (h : 0 < n) : dgs n = dgs (n / 10) ++ [UInt8.ofNat (48 + n % 10)] := by rw [dgs, if_neg kO]
theorem dgs_len (j : Nat) : ∀ n : Nat, n < 10 ^ j → (dgs n).length ≤ j := by
 induction j with
 | zero => intro n h; rw [show n = 0 by omega, dgs_zero]; simp
 | succ j ih =>
  intro n h
  rcases Nat.eq_zero_or_pos n with rfl | hp
  ·rw [dgs_zero]; simp
  ·rw [dgs_pos n hp, List.length_append]
   have := ih (n / 10) (by rw [Nat.pow_succ] at h; omega)
   simp only [List.length_singleton]
   omega
theorem ba_ext {a b : ByteArray} (h : a.data.toList = b.data.toList) : a = b := by
 cases a; cases b
 congr 1
 exact Array.toList_inj.1 h
theorem run_one_byte {src dst e : TypeId} (hs : Tryz.prog.underlying src = some (.slice e)) (he : Tryz.prog.underlying e = some (.int .u8)) (hd : Tryz.prog.underlying dst = some .string) (W : World) (v : Int) :
 (convert src dst (.slice (some ⟨W.heap.size, 0, none⟩) 1 1)).run Tryz.prog (W.alloc (.cells #[.int .u8 v] e)) = .ok (.string ⟨#[UInt8.ofNat v.toNat]⟩) (W.alloc (.cells #[.int .u8 v] e)) := by
 have h := run_loadCells_list (P := Tryz.prog) (W.alloc (.cells #[.int .u8 v] e)) ⟨W.heap.size, 0, none⟩ [.int .u8 v] (fun j u hj => by
  rw [add_plain, cell_of_row _ _ _ _ _ _ (heap_alloc_new W (.cells #[.int .u8 v] e))]
  simpa using hj)
 rw [run_convert_bytes_string _ _ _ e _ _ _ hs he hd, run_bytesToString _ _ 1 1 [v] h]
 rfl
theorem fV (k : Int) (w : World) (h0 : 0 ≤ k) (h1 : k ≤ 4611686018427387904) : Calls Tryz.prog 83 #[.int .i64 k] w (RetString (mtx k) w) := by
 obtain ⟨n, rfl⟩ := Int.eq_ofNat_of_zero_le h0
 rcases Nat.eq_zero_or_pos n with rfl | hn
 ·have hm : Sd (mtx ((0 : Nat) : Int) = ⟨#[109, 48]⟩) := ⟨by simp [YtfnedoiplblldaaGreatT.mtx]⟩
  go_enter Tryz.func83, Tryz.ntmps83
  go_wp2
  go_ret
  exact ⟨congrArg (fun z => Ending.returned (.string z)) hm.out.symm, Upd.refl _ _⟩
 ·have hm : Sd (mtx (n : Int) = ⟨⟨109 :: dgs n⟩⟩) := ⟨by simp only [YtfnedoiplblldaaGreatT.mtx, Int.toNat_natCast]; rw [if_neg kO]⟩
  have hdl : (dgs n).length ≤ 19 := dgs_len 19 n (by have : (10 : Nat) ^ 19 = 10000000000000000000 := kD; omega)
  have hcv := run_one_byte Tryz.underlying213 Tryz.underlying5 Tryz.underlying9
  go_enter Tryz.func83, Tryz.ntmps83
  go_wp2
  go_loopg [0, 3] n (fun r a b wr => ∃ (m : Nat) (s : ByteArray), m ≤ r ∧ m ≤ n ∧ a = .int .i64 m ∧ b = .string s ∧ Sd (dgs m ++ s.data.toList = dgs n) ∧ Sd (Upd No w wr))
  case atStart => exact ⟨n, ⟨#[]⟩, Nat.le_refl _, Nat.le_refl _, rfl, rfl, ⟨by simp⟩, ⟨Upd.refl _ _⟩⟩
  case round =>
   obtain ⟨m, s, hm', hmn, rfl, rfl, HD, HU⟩ := hrel
   have hsz : s.size ≤ 19 := by
    have h2 := congrArg List.length HD.out
    rw [List.length_append] at h2
    have h3 : s.data.toList.length = s.size := by rw [Array.length_toList]; rfl
    omega
   by_cases hp : 0 < m
   ·have hd := Sd.mk (dgs_pos m hp)
    go_wp2
    go_roundg (gk - 1)
    case measure => omega
    case rel =>
     refine ⟨m / 10, _, by omega, by omega, by go_num, rfl, ⟨?_⟩, ⟨HU.out.alloc _⟩⟩
     have h2 := HD.out
     rw [hd.out] at h2
     rw [← h2]
     have h3 : (48 + (m : Int) % 10).toNat = 48 + m % 10 := by omega
     simp [ByteArray.data_append, h3]
   ·go_wp2
    go_ret
    have h2 := HD.out
    rw [show m = 0 by omega, dgs_zero] at h2
    have h3 : (({ data := #[109] } : ByteArray) ++ s) = ⟨⟨109 :: dgs n⟩⟩ := ba_ext (by rw [← h2]; simp [ByteArray.data_append])
    exact ⟨congrArg (fun z => Ending.returned (.string z)) (h3.trans hm.out.symm), HU.out⟩
theorem lH (w : World) (x : GExport) : aL.K w x [.int .i64 x.Pos, .int .i64 x.Entity, .int .i64 x.Count] := ⟨[_], [_, _], rfl, rfl, ⟨[_], [_], rfl, rfl, rfl⟩⟩
theorem eq_Export (x : GExport) (cs cs' : List Value) (w : World) (h : aL.K w x cs) (h' : aL.K w x cs') : Calls Tryz.prog 231 #[.agg cs.toArray, .agg cs'.toArray] w (dD true w) := by
 obtain rfl := iG h
 obtain rfl := iG h'
 go_enter Tryz.func231, Tryz.ntmps231
 go_wp2
 go_ret
 exact ⟨rfl, kA⟩
theorem eqS_Export (l : List GExport) (A A' : Option Addr) (c c' : Nat) (w : World) (h : C aL w A l) (h' : C aL w A' l) : Calls Tryz.prog 215 #[.slice A l.length c, .slice A' l.length c'] w (dD true w) := by
 have hn := h.1
 have H := Sd.mk h
 have H' := Sd.mk h'
 clear h h'
 go_enter Tryz.func215, Tryz.ntmps215
 go_wp2
 go_loopg [5] l.length (fun k v wr => ∃ i : Nat, i + k = l.length ∧ v = .int .i64 i ∧ Sd (Upd No w wr))
 case atStart => exact ⟨0, by omega, rfl, ⟨Upd.refl _ _⟩⟩
 case round =>
  obtain ⟨i, hi, rfl, HU⟩ := hrel
  by_cases hlt : i < l.length
  ·obtain ⟨ad, rfl, a0, a1, a2⟩ := kH (aO HU.out H.out) i hlt
   obtain ⟨ad', rfl, z0, z1, z2⟩ := kH (aO HU.out H'.out) i hlt
   go_wp2_with fail
   go_still_tail 8, kR
   change wpList _ _ _ _ _ wr.drew
   have HW : Sd (Upd No wr wr.drew) := ⟨(Upd.refl _ _).drew⟩
   have HU2 : Sd (Upd No w wr.drew) := ⟨HU.out.drew⟩
   generalize wr.drew = w2 at *
   go_wp2_with (go_at_call 231; (with_reducible refine (eq_Export l[i] _ _ _ (lH _ _) (lH _ _)).mono ?_); rintro e w' ⟨rfl, hu⟩)
   have HU3 := Sd.mk (HU2.out.then hu)
   clear HU2 hu
   go_wp2
   go_roundg (gk - 1)
   case measure => omega
   case rel => exact ⟨i + 1, by omega, by go_num, HU3⟩
  ·go_wp2
   go_ret
   exact ⟨rfl, HU.out⟩
theorem markS_Export (l : List GExport) (k : Int) (F : Nat → Prop) (v : Value) (w : World) (h : R aL 256 w F v l) (hk : 0 ≤ k) (hb : k + aK bD l ≤ 4611686018427387904) : Calls Tryz.prog 174 #[v, .int .i64 k] w (Marks aL 256 F v (k + aK bD l) (mkS gU bD k l) w) := by
 obtain ⟨A, c, rfl⟩ := bK h
 have hn := R_len h
 have H := Sd.mk h
 clear h
 go_enter Tryz.func174, Tryz.ntmps174
 go_wp2
 go_loopg [1, 5] l.length (fun r u v wr => ∃ i : Nat, i + r = l.length ∧ u = .int .i64 (k + aK bD (l.take i)) ∧ v = .int .i64 i ∧ Sd (R aL 256 wr F (.slice A l.length c) (upTo (mkS gU bD k l) l i)) ∧ Sd (Upd F w wr))
 case atStart => exact ⟨0, by omega, by simp [aK], rfl, ⟨by rw [eD]; exact H.out⟩, ⟨Upd.refl _ _⟩⟩
 case round =>
  obtain ⟨i, hi, rfl, rfl, HR, HU⟩ := hrel
  by_cases hlt : i < l.length
  ·have hle := bL bD iA l i
   have hst := cB bD l i hlt
   have hle2 := bL bD iA l (i + 1)
   rw [hst] at hle2
   have HST := Sd.mk hst
   clear hst
   have HMA := Sd.mk (eO gU bD l k i hlt)
   obtain ⟨g, cap, cur, ce, Fi, hv, hcap, hat, hM, hg, hFi, hFg, close⟩ := iH HR.out 3 l.length rfl (fC (aM _ _ _ _) kO) i l[i] (gB (aM _ _ _ _) hlt)
   cases hv
   obtain rfl := ki_Export_M hM
   have HCN : Sd (bD l[i] = bD l[i]) := ⟨rfl⟩
   simp only [bD] at hle2
   generalize hq : k + aK bD (l.take i) = q at *
   have HQ := Sd.mk hq
   have hq0 : 0 ≤ q := by omega
   have hqb : q + (((0 + 1) + 1) + 1) ≤ 4611686018427387904 := by omega
   clear hq hle hle2 hb
   have HAT := Sd.mk hat
   have x0_s := hat.cell0 _ rfl
   have x1_s := hat.cell 1 _ rfl
   have x2_s := hat.cell 2 _ rfl
   have f0_s := hat.free (i * 3)
   have f1_s := hat.free (i * 3 + 1)
   have f2_s := hat.free (i * 3 + 2)
   have CL := Sd.mk close
   clear hat close hM HR
   go_wp2
   have HA := (((HAT.out.set0 kD (.int .i64 (q))).set 1 kD (.int .i64 ((q + 1)))).set 2 kD (.int .i64 (((q + 1) + 1))))
   have hy : (⟨q, (q + 1), ((q + 1) + 1)⟩ : GExport) = (mkS gU bD k l)[i]'(by rw [aM]; exact hlt) := by rw [HMA.out]; simp only [gU]
   have HRowB := CL.out _ _ (⟨q, (q + 1), ((q + 1) + 1)⟩ : GExport) Fi F HA (jP _ Fi (⟨q, (q + 1), ((q + 1) + 1)⟩ : GExport)) (fun _ hb => .inl hb) (fun _ hb => hb) hFi
   rw [hy, fD (aM _ _ _ _) hlt] at HRowB
   go_roundg (gk - 1)
   case measure => omega
   case rel => exact ⟨i + 1, by omega, by rw [HST.out]; simp only [bD]; have := HQ.out; exact congrArg (Value.int .i64) kO, by go_num, ⟨HRowB⟩, ⟨HU.out.trans HA.upd (fun _ _ hb => hb) (fun b _ hb => by rcases hb with rfl | hb; exact hg; exact hFi b hb)⟩⟩
  ·go_wp2
   go_ret
   have HRowB := HR.out
   rw [fB (aM _ _ _ _) kO] at HRowB
   have e : l.take i = l := List.take_of_length_le kO
   exact ⟨dL (by rw [e]), HRowB, HU.out⟩
theorem heldS_Export (l : List GExport) (k : Int) (A : Option Addr) (c : Nat) (w : World) (h : C aL w A (mkS gU bD k l)) (hk : 0 ≤ k) (hb : k + aK bD l ≤ 4611686018427387904) : Calls Tryz.prog 178 #[.slice A l.length c, .int .i64 k] w (gN (k + aK bD l) w) := by
 have hn := h.1
 rw [aM] at hn
 have H := Sd.mk h
 clear h
 go_enter Tryz.func178, Tryz.ntmps178
 go_wp2
 go_loopg [1, 5] l.length (fun r u v wr => ∃ i : Nat, i + r = l.length ∧ u = .int .i64 (k + aK bD (l.take i)) ∧ v = .int .i64 i ∧ Sd (Upd No w wr))
 case atStart => exact ⟨0, by omega, by simp [aK], rfl, ⟨Upd.refl _ _⟩⟩
 case round =>
  obtain ⟨i, hi, rfl, rfl, HU⟩ := hrel
  by_cases hlt : i < l.length
  ·have hle := bL bD iA l i
   have hst := cB bD l i hlt
   have hle2 := bL bD iA l (i + 1)
   rw [hst] at hle2
   have HST := Sd.mk hst
   clear hst
   obtain ⟨ad, rfl, a0, a1, a2⟩ := kH (aO HU.out H.out) i (by rw [aM]; exact hlt)
   rw [eO gU bD l k i hlt] at a0 a1 a2
   simp only [gU] at a0 a1 a2
   simp only [bD] at hle2
   generalize hq : k + aK bD (l.take i) = q at *
   have HQ := Sd.mk hq
   have hq0 : 0 ≤ q := by omega
   have hqb : q + (((0 + 1) + 1) + 1) ≤ 4611686018427387904 := by omega
   clear hq hle hle2 hb
   have HX := Sd.mk (Upd.refl No wr)
   go_wp2
   go_roundg (gk - 1)
   case measure => omega
   case rel => exact ⟨i + 1, by omega, by rw [HST.out]; simp only [bD]; have := HQ.out; exact congrArg (Value.int .i64) kO, by go_num, ⟨HU.out.then HX.out⟩⟩
  ·go_wp2
   go_ret
   have e : l.take i = l := List.take_of_length_le kO
   exact ⟨dL (by rw [e]), HU.out⟩
theorem exF_idx (q0 : Value) (p : GExport → Bool) (l : List GExport) (A : Option Addr) (c : Nat) (w : World) (h : C aL w A l) (hf : ∀ (x : GExport) (cs : List Value) (w' : World), Upd No w w' → aL.K w' x cs → Calls Tryz.prog 225 #[.agg cs.toArray, q0] w' (dD (p x) w')) : Calls Tryz.prog 224 #[.slice A l.length c, .func (.func 225) #[] #[q0]] w (gN (fidx p 0 l) w) := by
 have hn := h.1
 have H := Sd.mk h
 have HF := Sd.mk hf
 clear h hf
 go_enter Tryz.func224, Tryz.ntmps224
 go_wp2_with fail
 go_loopg [8] l.length (fun r v wr => ∃ i : Nat, i + r = l.length ∧ v = .int .i64 i ∧ Sd (fidx p 0 l = fidx p i (l.drop i)) ∧ Sd (Upd No w wr))
 case atStart => exact ⟨0, by omega, rfl, ⟨rfl⟩, ⟨Upd.refl _ _⟩⟩
 case round =>
  obtain ⟨i, hi, rfl, HE, HU⟩ := hrel
  by_cases hlt : i < l.length
  ·obtain ⟨ad, rfl, a0, a1, a2⟩ := kH (aO HU.out H.out) i hlt
   go_wp2_with fail
   with_reducible refine (HF.out l[i] _ _ HU.out (lH _ _)).mono ?_
   rintro e w1 ⟨rfl, hu⟩
   have HU1 := Sd.mk (HU.out.then hu)
   clear hu HU
   have hy := Sd.mk (fidx_yes p l i hlt)
   have hno := Sd.mk (fidx_no p l i hlt)
   cases hb : p l[i]
   ·have HBB := Sd.mk hb
    clear hb
    go_wp2_with fail
    go_roundg (gk - 1)
    case measure => omega
    case rel => exact ⟨i + 1, by omega, by go_num, ⟨HE.out.trans (hno.out HBB.out)⟩, HU1⟩
   ·have HBB := Sd.mk hb
    clear hb
    go_wp2_with fail
    go_ret
    exact ⟨dL (by rw [HE.out, hy.out HBB.out]), HU1.out⟩
  ·go_wp2_with fail
   go_ret
   exact ⟨dL (by rw [HE.out, fidx_end p l i kO]), HU.out⟩
end Go.Proofs.YtfnedoiplblldaaGreatFam
namespace Go.Proofs.YtfnedoiplblldaaGreatSep
open Go.ChangeShapes Go.WideShapes Go.RowKit
section
variable {α : Type} {P : Program} {ops : Array Oper} {Q : Exit → Act → World → Prop} {K : Act → World → Prop} {n i d ty : Nat} {x : Nat → Value} {live : List (Nat × Value)} {W w : World} {F0 : Nat → Prop} {l : List HP} {pos : String} {aft : Array Edge} {v : Value} {y z : Operand} {dk : Kn α} {e : Nat} {xs ys : List α}
theorem rn_int {o : Oper} {a : Act} {p q : Int} (e : p = q) (h : Rn P o a W (.int .i64 p)) : Rn P o a W (.int .i64 q) := e ▸ h
theorem St.openS {A : Option Addr} {m c q : Nat} (H : St w F0 (hR dk e (.slice A m c) xs :: l) W) (hi : q < xs.length) : ∃ g, A = some ⟨g, 0, none⟩ := by
 obtain ⟨g, cap, ce, he, _⟩ := H.openE hi
 cases he
 exact ⟨g, rfl⟩
theorem St.openG {g m c q : Nat} (H : St w F0 (hR dk e (.slice (some ⟨g, 0, none⟩) m c) xs :: l) W) (hi : q < xs.length) : ∃ ce, m = xs.length ∧ St w F0 (hE dk e g c q ce xs :: hM dk xs[q] ce :: l) W := by
 obtain ⟨g', cap, ce, he, H'⟩ := H.openE hi
 cases he
 exact ⟨ce, rfl, H'⟩
theorem St.closeG {g m c q : Nat} {ce : List Value} {u : α} (H : St w F0 (hE dk e g c q ce xs :: hM dk u ce :: l) W) (hy : xs.set q u = ys) (hm : m = ys.length) : St w F0 (hR dk e (.slice (some ⟨g, 0, none⟩) m c) ys :: l) W := by
 subst hm
 have h := H.closeE
 rw [← hy, List.length_set]
 exact h
theorem R_box {g : Nat} {cs : Array Value} {u : α} {F : Nat → Prop} (h : Star [hB g e cs, hM dk u cs.toList] W F) (hsz : cs.size = dk.sz) : R dk e W F (.slice (some ⟨g, 0, none⟩) 1 1) [u] := by
 obtain ⟨F1, F2, ⟨h1, h2⟩, a2, a3, a4, a5⟩ := h.uncons
 obtain ⟨Fp, F4, d1, _, d3, _, _⟩ := a2.uncons
 refine .inr ⟨g, 1, cs, fun j b => j = 0 ∧ Fp b, rfl, h2, a3 g h1, Nat.le_refl _, by omega, by omega, fun j b hb => ⟨a4 b (d3 b hb.2), fun q => a5 g h1 (q ▸ d3 b hb.2)⟩, fun j k b hj hk => by omega, fun j x hx => ?_⟩
 obtain ⟨hj, hx'⟩ := List.getElem?_eq_some_iff.1 hx
 have hj0 : j = 0 := by simpa using hj
 subst hj0
 have hu : u = x := by simpa using hx'
 subst hu
 have hp : piece dk.sz cs.toList 0 = cs.toList := by
  unfold piece
  rw [Nat.zero_mul, List.drop_zero, List.take_of_length_le (by rw [← hsz]; simp)]
 rw [hp]
 exact dk.gI (fun _ q => ⟨rfl, q⟩) d1
theorem St.boxrow {g : Nat} {cs : Array Value} {u : α} (H : St w F0 (hB g e cs :: hM dk u cs.toList :: l) W) (hsz : cs.size = dk.sz) : St w F0 (hR dk e (.slice (some ⟨g, 0, none⟩) 1 1) [u] :: l) W :=
 St.swap (l0 := [hB g e cs, hM dk u cs.toList]) (l' := [hR dk e (.slice (some ⟨g, 0, none⟩) 1 1) [u]]) H (fun _ h => Star.one (R_box h hsz))
end
end Go.Proofs.YtfnedoiplblldaaGreatSep
namespace Go.Proofs.YtfnedoiplblldaaGreatFam
open Go.RowKit Go.Proofs.YtfnedoiplblldaaGreatSep Go.Proofs.YtfnedoiplblldaaGreatT Go.Proofs.YtfnedoiplblldaaGreatK
set_option linter.unusedVariables false
set_option linter.unusedSimpArgs false
set_option maxHeartbeats 1000000
set_option maxRecDepth 100000
theorem jQ (w : World) (x : GValue) : bF.K w x [.int .i64 x.Kind, .int .i64 x.N] := ⟨[_], [_], rfl, rfl, rfl⟩
theorem eq_Value (x : GValue) (cs cs' : List Value) (w : World) (h : bF.K w x cs) (h' : bF.K w x cs') : Calls Tryz.prog 123 #[.agg cs.toArray, .agg cs'.toArray] w (dD true w) := by
 obtain rfl := kP h
 obtain rfl := kP h'
 go_enter Tryz.func123, Tryz.ntmps123
 go_wp2
 go_ret
 exact ⟨rfl, kA⟩
theorem eqS_Value (l : List GValue) (A A' : Option Addr) (c c' : Nat) (w : World) (h : C bF w A l) (h' : C bF w A' l) : Calls Tryz.prog 39 #[.slice A l.length c, .slice A' l.length c'] w (dD true w) := by
 have hn := h.1
 have H := Sd.mk h
 have H' := Sd.mk h'
 clear h h'
 go_enter Tryz.func39, Tryz.ntmps39
 go_wp2
 go_loopg [5] l.length (fun k v wr => ∃ i : Nat, i + k = l.length ∧ v = .int .i64 i ∧ Sd (Upd No w wr))
 case atStart => exact ⟨0, by omega, rfl, ⟨Upd.refl _ _⟩⟩
 case round =>
  obtain ⟨i, hi, rfl, HU⟩ := hrel
  by_cases hlt : i < l.length
  ·obtain ⟨ad, rfl, a0, a1⟩ := ki_Value_at (aO HU.out H.out) i hlt
   obtain ⟨ad', rfl, z0, z1⟩ := ki_Value_at (aO HU.out H'.out) i hlt
   go_wp2_with fail
   go_still_tail 8, kR
   change wpList _ _ _ _ _ wr.drew
   have HW : Sd (Upd No wr wr.drew) := ⟨(Upd.refl _ _).drew⟩
   have HU2 : Sd (Upd No w wr.drew) := ⟨HU.out.drew⟩
   generalize wr.drew = w2 at *
   go_wp2_with (go_at_call 123; (with_reducible refine (eq_Value l[i] _ _ _ (jQ _ _) (jQ _ _)).mono ?_); rintro e w' ⟨rfl, hu⟩)
   have HU3 := Sd.mk (HU2.out.then hu)
   clear HU2 hu
   go_wp2
   go_roundg (gk - 1)
   case measure => omega
   case rel => exact ⟨i + 1, by omega, by go_num, HU3⟩
  ·go_wp2
   go_ret
   exact ⟨rfl, HU.out⟩
theorem markS_Value (l : List GValue) (k : Int) (F : Nat → Prop) (v : Value) (w : World) (h : R bF 95 w F v l) (hk : 0 ≤ k) (hb : k + aK aU l ≤ 4611686018427387904) : Calls Tryz.prog 40 #[v, .int .i64 k] w (Marks bF 95 F v (k + aK aU l) (mkS fZ aU k l) w) := by
 obtain ⟨A, c, rfl⟩ := bK h
 have hn := R_len h
 have H := Sd.mk h
 clear h
 go_enter Tryz.func40, Tryz.ntmps40
 go_wp2
 go_loopg [1, 5] l.length (fun r u v wr => ∃ i : Nat, i + r = l.length ∧ u = .int .i64 (k + aK aU (l.take i)) ∧ v = .int .i64 i ∧ Sd (R bF 95 wr F (.slice A l.length c) (upTo (mkS fZ aU k l) l i)) ∧ Sd (Upd F w wr))
 case atStart => exact ⟨0, by omega, by simp [aK], rfl, ⟨by rw [eD]; exact H.out⟩, ⟨Upd.refl _ _⟩⟩
 case round =>
  obtain ⟨i, hi, rfl, rfl, HR, HU⟩ := hrel
  by_cases hlt : i < l.length
  ·have hle := bL aU fM l i
   have hst := cB aU l i hlt
   have hle2 := bL aU fM l (i + 1)
   rw [hst] at hle2
   have HST := Sd.mk hst
   clear hst
   have HMA := Sd.mk (eO fZ aU l k i hlt)
   obtain ⟨g, cap, cur, ce, Fi, hv, hcap, hat, hM, hg, hFi, hFg, close⟩ := iH HR.out 2 l.length rfl (fC (aM _ _ _ _) kO) i l[i] (gB (aM _ _ _ _) hlt)
   cases hv
   obtain rfl := ki_Value_M hM
   have HCN : Sd (aU l[i] = aU l[i]) := ⟨rfl⟩
   simp only [aU] at hle2
   generalize hq : k + aK aU (l.take i) = q at *
   have HQ := Sd.mk hq
   have hq0 : 0 ≤ q := by omega
   have hqb : q + ((0 + 1) + 1) ≤ 4611686018427387904 := by omega
   clear hq hle hle2 hb
   have HAT := Sd.mk hat
   have x0_s := hat.cell0 _ rfl
   have x1_s := hat.cell 1 _ rfl
   have f0_s := hat.free (i * 2)
   have f1_s := hat.free (i * 2 + 1)
   have CL := Sd.mk close
   clear hat close hM HR
   go_wp2
   have HA := ((HAT.out.set0 kD (.int .i64 (q))).set 1 kD (.int .i64 ((q + 1))))
   have hy : (⟨q, (q + 1)⟩ : GValue) = (mkS fZ aU k l)[i]'(by rw [aM]; exact hlt) := by rw [HMA.out]; simp only [fZ]
   have HRowB := CL.out _ _ (⟨q, (q + 1)⟩ : GValue) Fi F HA (ki_Value_mk _ Fi (⟨q, (q + 1)⟩ : GValue)) (fun _ hb => .inl hb) (fun _ hb => hb) hFi
   rw [hy, fD (aM _ _ _ _) hlt] at HRowB
   go_roundg (gk - 1)
   case measure => omega
   case rel => exact ⟨i + 1, by omega, by rw [HST.out]; simp only [aU]; have := HQ.out; exact congrArg (Value.int .i64) kO, by go_num, ⟨HRowB⟩, ⟨HU.out.trans HA.upd (fun _ _ hb => hb) (fun b _ hb => by rcases hb with rfl | hb; exact hg; exact hFi b hb)⟩⟩
  ·go_wp2
   go_ret
   have HRowB := HR.out
   rw [fB (aM _ _ _ _) kO] at HRowB
   have e : l.take i = l := List.take_of_length_le kO
   exact ⟨dL (by rw [e]), HRowB, HU.out⟩
theorem heldS_Value (l : List GValue) (k : Int) (A : Option Addr) (c : Nat) (w : World) (h : C bF w A (mkS fZ aU k l)) (hk : 0 ≤ k) (hb : k + aK aU l ≤ 4611686018427387904) : Calls Tryz.prog 176 #[.slice A l.length c, .int .i64 k] w (gN (k + aK aU l) w) := by
 have hn := h.1
 rw [aM] at hn
 have H := Sd.mk h
 clear h
 go_enter Tryz.func176, Tryz.ntmps176
 go_wp2
 go_loopg [1, 5] l.length (fun r u v wr => ∃ i : Nat, i + r = l.length ∧ u = .int .i64 (k + aK aU (l.take i)) ∧ v = .int .i64 i ∧ Sd (Upd No w wr))
 case atStart => exact ⟨0, by omega, by simp [aK], rfl, ⟨Upd.refl _ _⟩⟩
 case round =>
  obtain ⟨i, hi, rfl, rfl, HU⟩ := hrel
  by_cases hlt : i < l.length
  ·have hle := bL aU fM l i
   have hst := cB aU l i hlt
   have hle2 := bL aU fM l (i + 1)
   rw [hst] at hle2
   have HST := Sd.mk hst
   clear hst
   obtain ⟨ad, rfl, a0, a1⟩ := ki_Value_at (aO HU.out H.out) i (by rw [aM]; exact hlt)
   rw [eO fZ aU l k i hlt] at a0 a1
   simp only [fZ] at a0 a1
   simp only [aU] at hle2
   generalize hq : k + aK aU (l.take i) = q at *
   have HQ := Sd.mk hq
   have hq0 : 0 ≤ q := by omega
   have hqb : q + ((0 + 1) + 1) ≤ 4611686018427387904 := by omega
   clear hq hle hle2 hb
   have HX := Sd.mk (Upd.refl No wr)
   go_wp2
   go_roundg (gk - 1)
   case measure => omega
   case rel => exact ⟨i + 1, by omega, by rw [HST.out]; simp only [aU]; have := HQ.out; exact congrArg (Value.int .i64) kO, by go_num, ⟨HU.out.then HX.out⟩⟩
  ·go_wp2
   go_ret
   have e : l.take i = l := List.take_of_length_le kO
   exact ⟨dL (by rw [e]), HU.out⟩
theorem iK (w : World) (x : GTag) : ki_Tag.K w x [.int .i64 x.Vat, .int .i64 x.Entity, .int .i64 x.Seq] := ⟨[_], [_, _], rfl, rfl, ⟨[_], [_], rfl, rfl, rfl⟩⟩
theorem eq_Tag (x : GTag) (cs cs' : List Value) (w : World) (h : ki_Tag.K w x cs) (h' : ki_Tag.K w x cs') : Calls Tryz.prog 106 #[.agg cs.toArray, .agg cs'.toArray] w (dD true w) := by
 obtain rfl := ki_Tag_K h
 obtain rfl := ki_Tag_K h'
 go_enter Tryz.func106, Tryz.ntmps106
 go_wp2
 go_ret
 exact ⟨rfl, kA⟩
theorem ki_Sent_Kmk (w : World) (x : GSent) {A2 : Option Addr} {c2 : Nat} (hl2 : x.dG.length ≤ c2) (hC2 : C bF w A2 x.dG) : bR.K w x [.int .i64 x.Target, .string x.Name, .slice A2 x.dG.length c2, .int .i64 x.Result, .int .i64 x.Tag.Vat, .int .i64 x.Tag.Entity, .int .i64 x.Tag.Seq] := ⟨[_], [_, _, _, _, _, _], rfl, rfl, ⟨[_], [_, _, _, _, _], rfl, rfl, ⟨[_], [_, _, _, _], rfl, ⟨A2, c2, rfl, hl2, hC2⟩, ⟨[_], [_, _, _], rfl, rfl, (iK w _)⟩⟩⟩⟩
theorem eq_Sent (x : GSent) (cs cs' : List Value) (w : World) (h : bR.K w x cs) (h' : bR.K w x cs') : Calls Tryz.prog 170 #[.agg cs.toArray, .agg cs'.toArray] w (dD true w) := by
 obtain ⟨A2, c2, rfl, hl2, hC2⟩ := ki_Sent_K h
 have HC2 := Sd.mk hC2
 clear hC2
 obtain ⟨B2, b2, rfl, hm2, hD2⟩ := ki_Sent_K h'
 have HD2 := Sd.mk hD2
 clear hD2
 go_enter Tryz.func170, Tryz.ntmps170
 go_wp2_with fail
 with_reducible refine (eqS_Value x.dG _ _ _ _ _ ?hc_Args ?hd_Args).mono ?_
 case hc_Args => exact aO kA HC2.out
 case hd_Args => exact aO kA HD2.out
 rintro e w_Args ⟨rfl, hu⟩
 have HB_Args : Sd (Upd No w w_Args) := Sd.mk (Upd.then kA hu)
 have cc0_Args := fun o => hu.bJ (b := w.heap.size) kB (fun q => q) o
 have cc1_Args := fun o => hu.bJ (b := w.heap.size + 1) kB (fun q => q) o
 have hz_Args : w.heap.size + 1 + 1 ≤ w_Args.heap.size := by have := hu.size; (try simp at this); omega
 clear hu
 go_wp2_with fail
 with_reducible refine (eq_Tag x.Tag _ _ _ (iK _ _) (iK _ _)).mono ?_
 rintro e w_Tag ⟨rfl, hu⟩
 have HB_Tag : Sd (Upd No w w_Tag) := Sd.mk (Upd.then (by repeat (with_reducible first | exact HB_Args.out | apply Upd.bZ | apply Upd.bY | apply Upd.bW | apply Upd.alloc | apply Upd.drewN | apply Upd.drew)) hu)
 have cc0_Tag := fun o => hu.bJ (b := w.heap.size) kB (fun q => q) o
 have cc1_Tag := fun o => hu.bJ (b := w.heap.size + 1) kB (fun q => q) o
 have hz_Tag : w.heap.size + 1 + 1 ≤ w_Tag.heap.size := by have := hu.size; (try simp at this); omega
 clear hu
 go_wp2
 go_ret
 exact ⟨rfl, (by repeat (with_reducible first | exact HB_Tag.out | apply Upd.bZ | apply Upd.bY | apply Upd.bW | apply Upd.alloc | apply Upd.drewN | apply Upd.drew))⟩
theorem eqS_Sent (l : List GSent) (A A' : Option Addr) (c c' : Nat) (w : World) (h : C bR w A l) (h' : C bR w A' l) : Calls Tryz.prog 103 #[.slice A l.length c, .slice A' l.length c'] w (dD true w) := by
 have hn := h.1
 have H := Sd.mk h
 have H' := Sd.mk h'
 clear h h'
 go_enter Tryz.func103, Tryz.ntmps103
 go_wp2
 go_loopg [5] l.length (fun k v wr => ∃ i : Nat, i + k = l.length ∧ v = .int .i64 i ∧ Sd (Upd No w wr))
 case atStart => exact ⟨0, by omega, rfl, ⟨Upd.refl _ _⟩⟩
 case round =>
  obtain ⟨i, hi, rfl, HU⟩ := hrel
  by_cases hlt : i < l.length
  ·obtain ⟨ad, A2, c2, rfl, a0, a1, a2, a3, a4, a5, a6, hl2, hC2⟩ := ki_Sent_at (aO HU.out H.out) i hlt
   obtain ⟨ad', B2, b2, rfl, z0, z1, z2, z3, z4, z5, z6, hm2, hD2⟩ := ki_Sent_at (aO HU.out H'.out) i hlt
   have HC2 := Sd.mk hC2
   have HD2 := Sd.mk hD2
   clear hC2 hD2
   go_wp2_with fail
   go_still_tail 8, kR
   change wpList _ _ _ _ _ wr.drew
   have HW : Sd (Upd No wr wr.drew) := ⟨(Upd.refl _ _).drew⟩
   have HU2 : Sd (Upd No w wr.drew) := ⟨HU.out.drew⟩
   generalize wr.drew = w2 at *
   go_wp2_with (go_at_call 170; (with_reducible refine (eq_Sent l[i] _ _ _ (ki_Sent_Kmk _ _ hl2 (aO HW.out HC2.out)) (ki_Sent_Kmk _ _ hm2 (aO HW.out HD2.out))).mono ?_); rintro e w' ⟨rfl, hu⟩)
   have HU3 := Sd.mk (HU2.out.then hu)
   clear HU2 hu
   go_wp2
   go_roundg (gk - 1)
   case measure => omega
   case rel => exact ⟨i + 1, by omega, by go_num, HU3⟩
  ·go_wp2
   go_ret
   exact ⟨rfl, HU.out⟩
theorem markS_Sent (l : List GSent) (k : Int) (F : Nat → Prop) (v : Value) (w : World) (h : R bR 235 w F v l) (hk : 0 ≤ k) (hb : k + aK bC l ≤ 4611686018427387904) : Calls Tryz.prog 108 #[v, .int .i64 k] w (Marks bR 235 F v (k + aK bC l) (mkS iB bC k l) w) := by
 obtain ⟨A, c, rfl⟩ := bK h
 have hn := R_len h
 have H := Sd.mk h
 clear h
 go_enter Tryz.func108, Tryz.ntmps108
 go_wp2
 go_loopg [1, 5] l.length (fun r u v wr => ∃ i : Nat, i + r = l.length ∧ u = .int .i64 (k + aK bC (l.take i)) ∧ v = .int .i64 i ∧ Sd (R bR 235 wr F (.slice A l.length c) (upTo (mkS iB bC k l) l i)) ∧ Sd (Upd F w wr))
 case atStart => exact ⟨0, by omega, by simp [aK], rfl, ⟨by rw [eD]; exact H.out⟩, ⟨Upd.refl _ _⟩⟩
 case round =>
  obtain ⟨i, hi, rfl, rfl, HR, HU⟩ := hrel
  by_cases hlt : i < l.length
  ·have hle := bL bC gF l i
   have hst := cB bC l i hlt
   have hle2 := bL bC gF l (i + 1)
   rw [hst] at hle2
   have HST := Sd.mk hst
   clear hst
   have HMA := Sd.mk (eO iB bC l k i hlt)
   obtain ⟨g, cap, cur, ce, Fi, hv, hcap, hat, hM, hg, hFi, hFg, close⟩ := iH HR.out 7 l.length rfl (fC (aM _ _ _ _) kO) i l[i] (gB (aM _ _ _ _) hlt)
   cases hv
   obtain ⟨v2, P2, rfl, hR2, i2⟩ := ki_Sent_M hM
   obtain ⟨B2, b2, rfl⟩ := bK hR2
   have HR2 := Sd.mk hR2
   have I2 := Sd.mk i2
   have N2 : ¬ P2 g := fun q => hFg (i2 g q)
   clear hR2 i2
   have nn2 := bN aU fM l[i].dG
   have HCN : Sd (bC l[i] = bC l[i]) := ⟨rfl⟩
   simp only [bC] at hle2
   generalize hq : k + aK bC (l.take i) = q at *
   have HQ := Sd.mk hq
   have hq0 : 0 ≤ q := by omega
   have hqb : q + (((((((0 + 1) + 1) + aK aU l[i].dG) + 1) + 1) + 1) + 1) ≤ 4611686018427387904 := by omega
   clear hq hle hle2 hb
   generalize hcn2 : aK aU l[i].dG = cn2 at *
   have HC2 := Sd.mk hcn2
   clear hcn2
   have HAT := Sd.mk hat
   have x0_s := hat.cell0 _ rfl
   have x1_s := hat.cell 1 _ rfl
   have x2_s := hat.cell 2 _ rfl
   have x3_s := hat.cell 3 _ rfl
   have x4_s := hat.cell 4 _ rfl
   have x5_s := hat.cell 5 _ rfl
   have x6_s := hat.cell 6 _ rfl
   have f0_s := hat.free (i * 7)
   have f1_s := hat.free (i * 7 + 1)
   have f2_s := hat.free (i * 7 + 2)
   have f3_s := hat.free (i * 7 + 3)
   have f4_s := hat.free (i * 7 + 4)
   have f5_s := hat.free (i * 7 + 5)
   have f6_s := hat.free (i * 7 + 6)
   have CL := Sd.mk close
   clear hat close hM HR
   go_wp2_with fail
   with_reducible refine (fV _ _ kO kO).mono ?_
   rintro e w_Name ⟨rfl, hu⟩
   replace HR2 := Sd.mk (bH hu (fun _ _ q => q) (bH (G := fun b => b = g) kC (fun b hb hg' => N2 (hg' ▸ hb)) HR2.out))
   replace HAT := Sd.mk ((HAT.out.set0 kD (.int .i64 (q))).call hu (fun _ q => q.elim) hFg)
   clear hu x0_s f0_s x1_s f1_s x2_s f2_s x3_s f3_s x4_s f4_s x5_s f5_s x6_s f6_s
   have x0_Name := HAT.out.cell0 _ rfl
   have x1_Name := HAT.out.cell 1 _ rfl
   have x2_Name := HAT.out.cell 2 _ rfl
   have x3_Name := HAT.out.cell 3 _ rfl
   have x4_Name := HAT.out.cell 4 _ rfl
   have x5_Name := HAT.out.cell 5 _ rfl
   have x6_Name := HAT.out.cell 6 _ rfl
   have f0_Name := HAT.out.free (i * 7)
   have f1_Name := HAT.out.free (i * 7 + 1)
   have f2_Name := HAT.out.free (i * 7 + 2)
   have f3_Name := HAT.out.free (i * 7 + 3)
   have f4_Name := HAT.out.free (i * 7 + 4)
   have f5_Name := HAT.out.free (i * 7 + 5)
   have f6_Name := HAT.out.free (i * 7 + 6)
   go_wp2_with fail
   with_reducible refine (markS_Value l[i].dG _ P2 _ _ ?hr_Args kO (by rw [HC2.out]; omega)).mono ?_
   case hr_Args => exact (bH (G := fun b => b = g) kC (fun b hb hg' => N2 (hg' ▸ hb)) HR2.out)
   rintro e w_Args ⟨rfl, hR2, hu⟩
   rw [HC2.out]
   replace HR2 := Sd.mk hR2
   replace HAT := Sd.mk ((HAT.out.set 1 kD (.string (mtx ((q + 1))))).call hu I2.out hFg)
   clear hR2
   clear hu x0_Name f0_Name x1_Name f1_Name x2_Name f2_Name x3_Name f3_Name x4_Name f4_Name x5_Name f5_Name x6_Name f6_Name
   have x0_Args := HAT.out.cell0 _ rfl
   have x1_Args := HAT.out.cell 1 _ rfl
   have x2_Args := HAT.out.cell 2 _ rfl
   have x3_Args := HAT.out.cell 3 _ rfl
   have x4_Args := HAT.out.cell 4 _ rfl
   have x5_Args := HAT.out.cell 5 _ rfl
   have x6_Args := HAT.out.cell 6 _ rfl
   have f0_Args := HAT.out.free (i * 7)
   have f1_Args := HAT.out.free (i * 7 + 1)
   have f2_Args := HAT.out.free (i * 7 + 2)
   have f3_Args := HAT.out.free (i * 7 + 3)
   have f4_Args := HAT.out.free (i * 7 + 4)
   have f5_Args := HAT.out.free (i * 7 + 5)
   have f6_Args := HAT.out.free (i * 7 + 6)
   go_wp2
   have HA := ((((HAT.out.set 3 kD (.int .i64 ((((q + 1) + 1) + cn2)))).set 4 kD (.int .i64 (((((q + 1) + 1) + cn2) + 1)))).set 5 kD (.int .i64 ((((((q + 1) + 1) + cn2) + 1) + 1)))).set 6 kD (.int .i64 (((((((q + 1) + 1) + cn2) + 1) + 1) + 1))))
   have hy : (⟨q, mtx ((q + 1)), mkS fZ aU ((q + 1) + 1) l[i].dG, (((q + 1) + 1) + cn2), ⟨((((q + 1) + 1) + cn2) + 1), (((((q + 1) + 1) + cn2) + 1) + 1), ((((((q + 1) + 1) + cn2) + 1) + 1) + 1)⟩⟩ : GSent) = (mkS iB bC k l)[i]'(by rw [aM]; exact hlt) := by rw [HMA.out]; simp only [iB, HC2.out]
   have HRowB := CL.out _ _ (⟨q, mtx ((q + 1)), mkS fZ aU ((q + 1) + 1) l[i].dG, (((q + 1) + 1) + cn2), ⟨((((q + 1) + 1) + cn2) + 1), (((((q + 1) + 1) + cn2) + 1) + 1), ((((((q + 1) + 1) + cn2) + 1) + 1) + 1)⟩⟩ : GSent) Fi F HA (ki_Sent_mk _ Fi (⟨q, mtx ((q + 1)), mkS fZ aU ((q + 1) + 1) l[i].dG, (((q + 1) + 1) + cn2), ⟨((((q + 1) + 1) + cn2) + 1), (((((q + 1) + 1) + cn2) + 1) + 1), ((((((q + 1) + 1) + cn2) + 1) + 1) + 1)⟩⟩ : GSent) (bH (G := fun b => b = g) kC (fun b hb hg' => N2 (hg' ▸ hb)) HR2.out) I2.out) (fun _ hb => .inl hb) (fun _ hb => hb) hFi
   rw [hy, fD (aM _ _ _ _) hlt] at HRowB
   go_roundg (gk - 1)
   case measure => omega
   case rel => exact ⟨i + 1, by omega, by rw [HST.out]; simp only [bC]; have := HQ.out; have := HC2.out; exact congrArg (Value.int .i64) kO, by go_num, ⟨HRowB⟩, ⟨HU.out.trans HA.upd (fun _ _ hb => hb) (fun b _ hb => by rcases hb with rfl | hb; exact hg; exact hFi b hb)⟩⟩
  ·go_wp2
   go_ret
   have HRowB := HR.out
   rw [fB (aM _ _ _ _) kO] at HRowB
   have e : l.take i = l := List.take_of_length_le kO
   exact ⟨dL (by rw [e]), HRowB, HU.out⟩
theorem heldS_Sent (l : List GSent) (k : Int) (A : Option Addr) (c : Nat) (w : World) (h : C bR w A (mkS iB bC k l)) (hk : 0 ≤ k) (hb : k + aK bC l ≤ 4611686018427387904) : Calls Tryz.prog 112 #[.slice A l.length c, .int .i64 k] w (gN (k + aK bC l) w) := by
 have hn := h.1
 rw [aM] at hn
 have H := Sd.mk h
 clear h
 go_enter Tryz.func112, Tryz.ntmps112
 go_wp2
 go_loopg [1, 5] l.length (fun r u v wr => ∃ i : Nat, i + r = l.length ∧ u = .int .i64 (k + aK bC (l.take i)) ∧ v = .int .i64 i ∧ Sd (Upd No w wr))
 case atStart => exact ⟨0, by omega, by simp [aK], rfl, ⟨Upd.refl _ _⟩⟩
 case round =>
  obtain ⟨i, hi, rfl, rfl, HU⟩ := hrel
  by_cases hlt : i < l.length
  ·have hle := bL bC gF l i
   have hst := cB bC l i hlt
   have hle2 := bL bC gF l (i + 1)
   rw [hst] at hle2
   have HST := Sd.mk hst
   clear hst
   obtain ⟨ad, A2, c2, rfl, a0, a1, a2, a3, a4, a5, a6, hl2, hC2⟩ := ki_Sent_at (aO HU.out H.out) i (by rw [aM]; exact hlt)
   rw [eO iB bC l k i hlt] at a0 a1 a2 a3 a4 a5 a6 hl2 hC2
   simp only [iB, aM] at a0 a1 a2 a3 a4 a5 a6 hl2 hC2
   have nn2 := bN aU fM l[i].dG
   simp only [bC] at hle2
   generalize hq : k + aK bC (l.take i) = q at *
   have HQ := Sd.mk hq
   have hq0 : 0 ≤ q := by omega
   have hqb : q + (((((((0 + 1) + 1) + aK aU l[i].dG) + 1) + 1) + 1) + 1) ≤ 4611686018427387904 := by omega
   clear hq hle hle2 hb
   generalize hcn2 : aK aU l[i].dG = cn2 at *
   have HN2 := Sd.mk hcn2
   clear hcn2
   have HC2 := Sd.mk hC2
   clear hC2
   have HX := Sd.mk (Upd.refl No wr)
   go_wp2_with fail
   go_region_held3 (fun w' => w'.cell? ⟨(ad.add (i * 7)).block, (ad.add (i * 7)).off + 1, none⟩ = some (.string (mtx (q + 1)))) (first | exact a1 | exact hu_Name.read a1) (first | (go_at_call 83; (with_reducible refine (fV _ _ kO kO).mono ?_); rintro e w_Name ⟨rfl, hu_Name⟩))
   rename_i hH_Name
   clear hH_Name
   have HY : Sd (Upd No wr w_Name) := Sd.mk ((Upd.refl _ _).drew.then hu_Name)
   clear hu_Name
   replace a0 := HY.out.read a0
   replace a1 := HY.out.read a1
   replace a2 := HY.out.read a2
   replace a3 := HY.out.read a3
   replace a4 := HY.out.read a4
   replace a5 := HY.out.read a5
   replace a6 := HY.out.read a6
   replace HC2 := Sd.mk (aO HY.out HC2.out)
   replace HX := Sd.mk (HX.out.then HY.out)
   clear HY
   go_wp2_with fail
   with_reducible refine (heldS_Value l[i].dG _ _ _ _ ?hc_Args kO (by rw [HN2.out]; omega)).mono ?_
   case hc_Args => exact HC2.out
   rintro e w_Args ⟨rfl, hu⟩
   rw [HN2.out]
   replace a0 := hu.read a0
   replace a1 := hu.read a1
   replace a2 := hu.read a2
   replace a3 := hu.read a3
   replace a4 := hu.read a4
   replace a5 := hu.read a5
   replace a6 := hu.read a6
   replace HC2 := Sd.mk (aO hu HC2.out)
   replace HX := Sd.mk (HX.out.then hu)
   clear hu
   go_wp2
   go_roundg (gk - 1)
   case measure => omega
   case rel => exact ⟨i + 1, by omega, by rw [HST.out]; simp only [bC]; have := HQ.out; have := HN2.out; exact congrArg (Value.int .i64) kO, by go_num, ⟨HU.out.then HX.out⟩⟩
  ·go_wp2
   go_ret
   have e : l.take i = l := List.take_of_length_le kO
   exact ⟨dL (by rw [e]), HU.out⟩
end Go.Proofs.YtfnedoiplblldaaGreatFam

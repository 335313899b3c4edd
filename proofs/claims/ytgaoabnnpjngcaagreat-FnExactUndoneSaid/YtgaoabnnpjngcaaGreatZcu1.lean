/- What the row needs, packed. No conditions beyond those that each law names. -/
import Derived.WalkKit
import Derived.Below
import Derived.OwnWalk
import Derived.Laws.AppendOwn
import Derived.Deep.Slices
import Derived.Deep.Draws
import Derived.Laws.Rows
import Derived.ChangeArms
import Derived.WideShapes
import Derived.Laws.MakeOwn
import Derived.Maps.AppendAt
import Derived.Deep.AppendLies
import Derived.WalkSpells
import Derived.Deep.RegionHeld3
import Derived.OrdersHeld
import Derived.Deep.LoopGhost
import Derived.Laws.CopyRow
import Derived.KernelRfl
import Derived.IntWalk
import Derived.Test.YtgaoabnnpjngcaaGreatProg
import Derived.Laws.StructEq
import Derived.RowKit3
import Derived.Deep.QuietTactic
import Derived.BigQuiet
import Derived.StillTailTactics
namespace Go.Proofs.YtgaoabnnpjngcaaGreatSep
theorem kA {p : Prop} (h : p := by repeat (with_reducible first | exact Upd.refl _ _ | apply Upd.aT | apply Upd.aS | apply Upd.aP | apply Upd.alloc | apply Upd.drewN | apply Upd.drew)) : p := h
theorem kB {p : Prop} (h : p := by first | omega | (simp; done) | (simp; omega)) : p := h
theorem kC {p : Prop} (h : p := by repeat (with_reducible first | exact Upd.refl _ _ | apply Upd.gM)) : p := h
theorem kR {p : Prop} (h : p := by kernel_rfl) : p := h
theorem kD {p : Prop} (h : p := by decide) : p := h
theorem kO {p : Prop} (h : p := by omega) : p := h
theorem kS {p : Prop} (h : p := by simp [Value.oneCell']) : p := h
end Go.Proofs.YtgaoabnnpjngcaaGreatSep
namespace Go.Proofs.YtgaoabnnpjngcaaGreatSep
open Go.ChangeShapes Go.WideShapes Go.RowKit
structure Sd (p : Prop) : Prop where mk :: (out : p)
structure Upd (F : Nat → Prop) (w w' : World) : Prop where
 os : w'.os = w.os
 tape : w'.tape = w.tape
 output : w'.output = w.output
 size : w.heap.size ≤ w'.heap.size
 block : ∀ b, b < w.heap.size → ¬ F b → w'.heap[b]? = w.heap[b]?
def No : Nat → Prop := fun _ => False
theorem Upd.refl (F : Nat → Prop) (w : World) : Upd F w w := ⟨rfl, rfl, rfl, Nat.le_refl _, fun _ _ _ => rfl⟩
theorem Upd.trans {F G H : Nat → Prop} {w w1 w2 : World} (h : Upd F w w1) (k : Upd G w1 w2) (hF : ∀ b, b < w.heap.size → F b → H b) (hG : ∀ b, b < w.heap.size → G b → H b) : Upd H w w2 :=
 ⟨k.os.trans h.os, k.tape.trans h.tape, k.output.trans h.output, Nat.le_trans h.size k.size, fun b hb hH => (k.block b (Nat.lt_of_lt_of_le hb h.size) (fun q => hH (hG b hb q))).trans (h.block b hb (fun q => hH (hF b hb q)))⟩
theorem Upd.mono {F G : Nat → Prop} {w w' : World} (h : Upd F w w') (hF : ∀ b, b < w.heap.size → F b → G b) : Upd G w w' := ⟨h.os, h.tape, h.output, h.size, fun b hb hG => h.block b hb (fun q => hG (hF b hb q))⟩
theorem Upd.then {w w1 w2 : World} (h : Upd No w w1) (k : Upd No w1 w2) : Upd No w w2 := h.trans k (fun _ _ q => q) (fun _ _ q => q)
theorem Upd.alloc {F : Nat → Prop} {w w1 : World} (h : Upd F w w1) (o : Obj) : Upd F w (w1.alloc o) :=
 ⟨h.os, h.tape, h.output, Nat.le_trans h.size (by simp), fun b hb hF => by rw [← h.block b hb hF]; exact heap_alloc_old w1 o (Nat.lt_of_lt_of_le hb h.size)⟩
theorem Upd.drewN {F : Nat → Prop} {w w1 : World} (h : Upd F w w1) (n : Nat) : Upd F w (w1.drewN n) := ⟨h.os, h.tape, h.output, h.size, h.block⟩
theorem Upd.drew {F : Nat → Prop} {w w1 : World} (h : Upd F w w1) : Upd F w w1.drew := ⟨h.os, h.tape, h.output, h.size, h.block⟩
theorem Upd.set {F : Nat → Prop} {w w1 : World} (h : Upd F w w1) (p : Addr) (u : Value) (hp : w.heap.size ≤ p.block ∨ F p.block) : Upd F w (w1.setCell p u) := by
 have hb : ∀ b, b ≠ p.block → (w1.setCell p u).heap[b]? = w1.heap[b]? := fun b hb => Below.heap_setCell w1 p u b hb
 have hs : (w1.setCell p u).heap.size = w1.heap.size := by simp [World.setCell]
 exact ⟨h.os, h.tape, h.output, by rw [hs]; exact h.size, fun b hb' hF => (hb b (by rintro rfl; rcases hp with hp | hp; omega; exact hF hp)).trans (h.block b hb' hF)⟩
theorem Upd.below {w w' : World} (h : Upd No w w') : Below w.heap.size w w' := ⟨h.os, h.tape, h.output, h.size, fun b hb => h.block b hb (fun q => q)⟩
theorem Upd.of_grown {w w' : World} {row : Option Nat} (h : w.grownBy w' row) : Upd (fun b => some b = row) w w' := ⟨h.os, h.tape, h.output, h.size, fun b hb hF => h.block b hb hF⟩
theorem Upd.cells {w w' : World} (h : Upd No w w') : (∀ b o, b < w.heap.size → w'.cell? ⟨b, o, none⟩ = w.cell? ⟨b, o, none⟩) ∧ (∀ b o, b < w.heap.size → w'.frozen? ⟨b, o, none⟩ = w.frozen? ⟨b, o, none⟩) :=
 ⟨fun b o hb => h.below.cell (p := ⟨b, o, none⟩) hb, fun b o hb => h.below.frozen (p := ⟨b, o, none⟩) hb⟩
theorem Upd.aI {F : Nat → Prop} {w w' : World} (h : Upd F w w') {b : Nat} (hb : b < w.heap.size) (hF : ¬ F b) (o : Nat) : w'.cell? ⟨b, o, none⟩ = w.cell? ⟨b, o, none⟩ := by
 simp [World.cell?, h.block b hb hF]
theorem Upd.bP {F : Nat → Prop} {w w' : World} (h : Upd F w w') {b : Nat} (hb : b < w.heap.size) (hF : ¬ F b) (o : Nat) : w'.frozen? ⟨b, o, none⟩ = w.frozen? ⟨b, o, none⟩ := by
 simp [World.frozen?, h.block b hb hF]
theorem blk_set {w : World} {g : Nat} {t : TypeId} {cs : Array Value} (h : w.heap[g]? = some (.cells cs t (0, 0))) (i : Nat) (u : Value) : (w.setCell ⟨g, i, none⟩ u).heap[g]? = some (.cells (cs.setIfInBounds i u) t (0, 0)) := by
 simp [World.setCell, Array.getElem?_modify, h]
structure Kn (α : Type) where
 sz : Nat
 K : World → α → List Value → Prop
 M : World → (Nat → Prop) → α → List Value → Prop
 K_len : ∀ {w x cs}, K w x cs → cs.length = sz
 K_one : ∀ {w x cs}, K w x cs → ∀ u ∈ cs, u.oneCell' = true
 K_stay : ∀ {w w' : World} {x cs}, (∀ b, b < w.heap.size → w'.heap[b]? = w.heap[b]?) → K w x cs → K w' x cs
 jT : ∀ {w F x cs}, M w F x cs → K w x cs
 M_mono : ∀ {w F F' x cs}, (∀ b, F b → F' b) → M w F x cs → M w F' x cs
 M_lt : ∀ {w : World} {F x cs}, M w F x cs → M w (fun b => F b ∧ b < w.heap.size) x cs
 lU : ∀ {w w' : World} {F x cs}, (∀ b, F b → w'.heap[b]? = w.heap[b]?) → M w F x cs → M w' F x cs
section
variable {α : Type} (d : Kn α)
def piece (sz : Nat) (l : List Value) (i : Nat) : List Value := (l.drop (i * sz)).take sz
def C (w : World) (A : Option Addr) (xs : List α) : Prop :=
 xs.length ≤ 9223372036854775807 ∧ (0 < xs.length → ∃ ad, A = some ad ∧ ∀ j p, xs[j]? = some p → ∃ c, d.K w p c ∧ ∀ i u, c[i]? = some u → w.cell? (ad.add (j * d.sz + i)) = some u)
def R (e : Nat) (w : World) (F : Nat → Prop) (v : Value) (xs : List α) : Prop :=
 (v = .slice none 0 0 ∧ xs = []) ∨
 ∃ (g cap : Nat) (cur : Array Value) (Fs : Nat → Nat → Prop), v = .slice (some ⟨g, 0, none⟩) xs.length cap ∧ w.heap[g]? = some (.cells cur e (0, 0)) ∧ F g ∧ xs.length ≤ cap ∧ cap ≤ 9223372036854775807 ∧ cur.size = cap * d.sz ∧
  (∀ i b, Fs i b → F b ∧ b ≠ g) ∧ (∀ i j b, Fs i b → Fs j b → i = j) ∧ ∀ i x, xs[i]? = some x → d.M w (Fs i) x (piece d.sz cur.toList i)
variable {d} {e : Nat} {w w' : World} {F F' : Nat → Prop} {v : Value} {xs : List α}
theorem R_nil : R d e w F (.slice none 0 0) [] := .inl ⟨rfl, rfl⟩
theorem R_mono (hF : ∀ b, F b → F' b) (h : R d e w F v xs) : R d e w F' v xs := by
 rcases h with h | ⟨g, cap, cur, Fs, h1, h2, h3, h4, h5, h6, h7, h8, h9⟩
 ·exact .inl h
 ·exact .inr ⟨g, cap, cur, Fs, h1, h2, hF _ h3, h4, h5, h6, fun i b hb => ⟨hF _ (h7 i b hb).1, (h7 i b hb).2⟩, h8, h9⟩
theorem heap_lt {w : World} {g : Nat} {o : Obj} (h : w.heap[g]? = some o) : g < w.heap.size := (Array.getElem?_eq_some_iff.1 h).1
theorem R_lt (h : R d e w F v xs) : R d e w (fun b => F b ∧ b < w.heap.size) v xs := by
 rcases h with h | ⟨g, cap, cur, Fs, h1, h2, h3, h4, h5, h6, h7, h8, h9⟩
 ·exact .inl h
 ·refine .inr ⟨g, cap, cur, fun i b => Fs i b ∧ b < w.heap.size, h1, h2, ⟨h3, heap_lt h2⟩, h4, h5, h6, fun i b hb => ⟨⟨(h7 i b hb.1).1, hb.2⟩, (h7 i b hb.1).2⟩, fun i j b hi hj => h8 i j b hi.1 hj.1, fun i x hx => d.M_lt (h9 i x hx)⟩
theorem R_same (hF : ∀ b, F b → w'.heap[b]? = w.heap[b]?) (h : R d e w F v xs) : R d e w' F v xs := by
 rcases h with h | ⟨g, cap, cur, Fs, h1, h2, h3, h4, h5, h6, h7, h8, h9⟩
 ·exact .inl h
 ·exact .inr ⟨g, cap, cur, Fs, h1, (hF _ h3).trans h2, h3, h4, h5, h6, h7, h8, fun i x hx => d.lU (fun b hb => hF b (h7 i b hb).1) (h9 i x hx)⟩
theorem R_reads (h : R d e w F v xs) : ∃ A c, v = .slice A xs.length c ∧ xs.length ≤ c ∧ C d w A xs := by
 rcases h with ⟨rfl, rfl⟩ | ⟨g, cap, cur, Fs, h1, h2, h3, h4, h5, h6, h7, h8, h9⟩
 ·exact ⟨none, 0, rfl, Nat.le_refl _, by simp, fun h => absurd h (Nat.lt_irrefl 0)⟩
 ·refine ⟨_, cap, h1, h4, by omega, fun _ => ⟨_, rfl, fun j p hp => ⟨_, d.jT (h9 j p hp), fun i u hu => ?_⟩⟩⟩
  have hi : i < d.sz := by have := (List.getElem?_eq_some_iff.1 hu).1; simp [piece] at this; omega
  have : cur[j * d.sz + i]? = some u := by
   simp [piece, hi] at hu
   exact hu
  rw [show (⟨g, 0, none⟩ : Addr).add (j * d.sz + i) = ⟨g, j * d.sz + i, none⟩ by unfold Addr.add; split <;> simp_all]
  rw [cell_of_row w g _ cur e (0, 0) h2]
  exact this
theorem C_stay {A : Option Addr} (h : ∀ b, b < w.heap.size → w'.heap[b]? = w.heap[b]?) (hc : C d w A xs) : C d w' A xs := by
 refine ⟨hc.1, fun hp => ?_⟩
 obtain ⟨ad, rfl, k⟩ := hc.2 hp
 refine ⟨ad, rfl, fun j p hj => ?_⟩
 obtain ⟨c, k1, k2⟩ := k j p hj
 refine ⟨c, d.K_stay h k1, fun i u hu => ?_⟩
 have := k2 i u hu
 have hb := World.block_lt_of_cell? w _ this
 rw [← this]
 simp only [World.cell?, h _ hb]
end
namespace Kn
def scalar {α : Type} (enc : α → Value) (h1 : ∀ x, (enc x).oneCell' = true) : Kn α where
 sz := 1
 K := fun _ x cs => cs = [enc x]
 M := fun _ _ x cs => cs = [enc x]
 K_len := fun h => by rw [h]; rfl
 K_one := fun h u hu => by rw [h] at hu; rw [List.mem_singleton.1 hu]; exact h1 _
 K_stay := fun _ h => h
 jT := fun h => h
 M_mono := fun _ h => h
 M_lt := fun h => h
 lU := fun _ h => h
def int : Kn Int := scalar (Value.int .i64) (fun _ => rfl)
def bool : Kn Bool := scalar Value.bool (fun _ => rfl)
def string : Kn ByteArray := scalar Value.string (fun _ => rfl)
def slice {α : Type} (e : Nat) (d : Kn α) : Kn (List α) where
 sz := 1
 K := fun w xs cs => ∃ A c, cs = [.slice A xs.length c] ∧ xs.length ≤ c ∧ C d w A xs
 M := fun w F xs cs => ∃ v, cs = [v] ∧ R d e w F v xs
 K_len := by rintro w x cs ⟨A, c, rfl, _⟩; rfl
 K_one := by rintro w x cs ⟨A, c, rfl, _⟩ u hu; rw [List.mem_singleton.1 hu]; rfl
 K_stay := by rintro w w' x cs h ⟨A, c, rfl, hl, hr⟩; exact ⟨A, c, rfl, hl, C_stay h hr⟩
 jT := by rintro w F x cs ⟨v, rfl, h⟩; obtain ⟨A, c, rfl, hl, hr⟩ := R_reads h; exact ⟨A, c, rfl, hl, hr⟩
 M_mono := by rintro w F F' x cs hF ⟨v, rfl, h⟩; exact ⟨v, rfl, R_mono hF h⟩
 M_lt := by rintro w F x cs ⟨v, rfl, h⟩; exact ⟨v, rfl, R_lt h⟩
 lU := by rintro w w' F x cs hF ⟨v, rfl, h⟩; exact ⟨v, rfl, R_same hF h⟩
def pair {α β : Type} (a : Kn α) (b : Kn β) : Kn (α × β) where
 sz := a.sz + b.sz
 K := fun w x cs => ∃ c0 c1, cs = c0 ++ c1 ∧ a.K w x.1 c0 ∧ b.K w x.2 c1
 M := fun w F x cs => ∃ c0 c1 F0 F1, cs = c0 ++ c1 ∧ a.M w F0 x.1 c0 ∧ b.M w F1 x.2 c1 ∧ (∀ k, F0 k → F k) ∧ (∀ k, F1 k → F k) ∧ ∀ k, F0 k → ¬ F1 k
 K_len := by rintro w x cs ⟨c0, c1, rfl, h0, h1⟩; rw [List.length_append, a.K_len h0, b.K_len h1]
 K_one := by
  rintro w x cs ⟨c0, c1, rfl, h0, h1⟩ u hu
  rcases List.mem_append.1 hu with hu | hu
  ·exact a.K_one h0 u hu
  ·exact b.K_one h1 u hu
 K_stay := by rintro w w' x cs h ⟨c0, c1, rfl, h0, h1⟩; exact ⟨c0, c1, rfl, a.K_stay h h0, b.K_stay h h1⟩
 jT := by rintro w F x cs ⟨c0, c1, F0, F1, rfl, h0, h1, _⟩; exact ⟨c0, c1, rfl, a.jT h0, b.jT h1⟩
 M_mono := by rintro w F F' x cs hF ⟨c0, c1, F0, F1, rfl, h0, h1, k0, k1, k2⟩; exact ⟨c0, c1, F0, F1, rfl, h0, h1, fun k hk => hF k (k0 k hk), fun k hk => hF k (k1 k hk), k2⟩
 M_lt := by
  rintro w F x cs ⟨c0, c1, F0, F1, rfl, h0, h1, k0, k1, k2⟩
  exact ⟨c0, c1, _, _, rfl, a.M_lt h0, b.M_lt h1, fun k hk => ⟨k0 k hk.1, hk.2⟩, fun k hk => ⟨k1 k hk.1, hk.2⟩, fun k hk hk' => k2 k hk.1 hk'.1⟩
 lU := by
  rintro w w' F x cs hF ⟨c0, c1, F0, F1, rfl, h0, h1, k0, k1, k2⟩
  exact ⟨c0, c1, F0, F1, rfl, a.lU (fun b hb => hF b (k0 b hb)) h0, b.lU (fun b hb => hF b (k1 b hb)) h1, k0, k1, k2⟩
def iso {α β : Type} (d : Kn α) (f : β → α) : Kn β where
 sz := d.sz
 K := fun w x cs => d.K w (f x) cs
 M := fun w F x cs => d.M w F (f x) cs
 K_len := d.K_len
 K_one := d.K_one
 K_stay := d.K_stay
 jT := d.jT
 M_mono := d.M_mono
 M_lt := d.M_lt
 lU := d.lU
end Kn
section
variable {α : Type} {d : Kn α} {e : Nat} {w w' : World} {F F' : Nat → Prop} {v : Value} {xs : List α} {x : α} {cs : List Value}
theorem K_upd (h : Upd No w w') (k : d.K w x cs) : d.K w' x cs := d.K_stay (fun b hb => h.block b hb (fun q => q)) k
theorem aM {A : Option Addr} (h : Upd No w w') (k : C d w A xs) : C d w' A xs := C_stay (fun b hb => h.block b hb (fun q => q)) k
theorem aO {G : Nat → Prop} (h : Upd G w w') (hG : ∀ b, F b → ¬ G b) (k : R d e w F v xs) : R d e w' F v xs := R_mono (fun _ q => q.1) (R_same (fun b hb => h.block b hb.2 (hG b hb.1)) (R_lt k))
theorem aV (h : R d e w F v xs) : ∃ A c, v = .slice A xs.length c := by
 obtain ⟨A, c, h, _⟩ := R_reads h
 exact ⟨A, c, h⟩
theorem R_len (h : R d e w F v xs) : xs.length ≤ 9223372036854775807 := by
 obtain ⟨A, c, _, _, h⟩ := R_reads h
 exact h.1
theorem C_get {A : Option Addr} (h : C d w A xs) (i : Nat) (hi : i < xs.length) : ∃ ad c, A = some ad ∧ c.length = d.sz ∧ d.K w xs[i] c ∧ ∀ j u, c[j]? = some u → w.cell? (ad.add (i * d.sz + j)) = some u := by
 obtain ⟨ad, rfl, k⟩ := h.2 kO
 obtain ⟨c, h1, h2⟩ := k i xs[i] (List.getElem?_eq_getElem hi)
 exact ⟨ad, c, rfl, d.K_len h1, h1, h2⟩
theorem add_field (ad : Addr) (m j : Nat) (hj : 0 < j) : ad.add (m + j) = ⟨(ad.add m).block, (ad.add m).off + j, none⟩ := by
 unfold Addr.add
 by_cases hm : m = 0
 ·subst hm
  simp [Nat.ne_of_gt hj]
 ·have : m + j ≠ 0 := by omega
  simp [hm, Nat.add_assoc]
theorem C_at {A : Option Addr} (h : C d w A xs) (i : Nat) (hi : i < xs.length) : ∃ ad c, A = some ad ∧ d.K w xs[i] c ∧ (∀ u, c[0]? = some u → w.cell? (ad.add (i * d.sz)) = some u) ∧
 ∀ j u, c[j + 1]? = some u → w.cell? ⟨(ad.add (i * d.sz)).block, (ad.add (i * d.sz)).off + (j + 1), none⟩ = some u := by
 obtain ⟨ad, c, h1, _, h3, h4⟩ := C_get h i hi
 exact ⟨ad, c, h1, h3, fun u hu => h4 0 u hu, fun j u hu => by rw [← add_field _ _ (j + 1) kO]; exact h4 (j + 1) u hu⟩
end
def upTo {α : Type} (a b : List α) (i : Nat) : List α := a.take i ++ b.drop i
section
variable {α : Type} {a b : List α} {i : Nat}
theorem bX : upTo a b 0 = b := by simp [upTo]
theorem dG (h : a.length = b.length) (hi : b.length ≤ i) : upTo a b i = a := by simp [upTo, List.take_of_length_le (h ▸ hi), hi]
theorem dH (h : a.length = b.length) (hi : i ≤ b.length) : (upTo a b i).length = b.length := by simp [upTo]; omega
theorem eP (h : a.length = b.length) (hi : i < b.length) : (upTo a b i)[i]? = some b[i] := by
 unfold upTo
 rw [List.getElem?_append_right (by simp; omega)]
 simp [show i - min i a.length = 0 by omega, hi]
theorem dI (h : a.length = b.length) (hi : i < b.length) : (upTo a b i).set i (a[i]'(h ▸ hi)) = upTo a b (i + 1) := by
 have hi' : i < a.length := h ▸ hi
 unfold upTo
 rw [List.set_append_right _ _ (by simp; omega)]
 have e : i - (a.take i).length = 0 := by simp; omega
 rw [e, List.drop_eq_getElem_cons hi, List.set_cons_zero, List.take_succ_eq_append_getElem hi', List.append_assoc]
 rfl
end
structure At (w0 w : World) (g o n e : Nat) (cur0 : Array Value) (ce : List Value) (Fi : Nat → Prop) : Prop where
 row : ∃ cur, w.heap[g]? = some (.cells cur e (0, 0)) ∧ cur.size = cur0.size ∧ (∀ p, p < o ∨ o + n ≤ p → cur[p]? = cur0[p]?) ∧ (cur.toList.drop o).take n = ce
 upd : Upd (fun b => b = g ∨ Fi b) w0 w
 len : ce.length = n
section
variable {w0 w w' : World} {g o n e : Nat} {cur0 : Array Value} {ce : List Value} {Fi : Nat → Prop}
theorem At.room (h : At w0 w g o n e cur0 ce Fi) : ∀ j, j < n → o + j < cur0.size := by
 obtain ⟨cur, _, h2, _, h4⟩ := h.row
 intro j hj
 have := h.len
 rw [← h4, List.length_take, List.length_drop, Array.length_toList] at this
 omega
theorem At.cell (h : At w0 w g o n e cur0 ce Fi) (j : Nat) (u : Value) (hu : ce[j]? = some u) : w.cell? ⟨g, o + j, none⟩ = some u := by
 obtain ⟨cur, h1, h2, _, h4⟩ := h.row
 rw [cell_of_row w g _ cur e (0, 0) h1]
 have hj : j < n := by rw [← h.len]; exact (List.getElem?_eq_some_iff.1 hu).1
 rw [← h4, List.getElem?_take, if_pos hj, List.getElem?_drop] at hu
 simpa using hu
theorem At.cell0 (h : At w0 w g o n e cur0 ce Fi) (u : Value) (hu : ce[0]? = some u) : w.cell? ⟨g, o, none⟩ = some u := h.cell 0 u hu
theorem At.free (h : At w0 w g o n e cur0 ce Fi) (j : Nat) : w.frozen? ⟨g, j, none⟩ = false := by
 obtain ⟨cur, h1, _⟩ := h.row
 simp [World.frozen?, h1]
theorem At.set (h : At w0 w g o n e cur0 ce Fi) (j : Nat) (hj : j < n) (u : Value) : At w0 (w.setCell ⟨g, o + j, none⟩ u) g o n e cur0 (ce.set j u) Fi := by
 obtain ⟨cur, h1, h2, h3, h4⟩ := h.row
 refine ⟨⟨cur.setIfInBounds (o + j) u, blk_set h1 (o + j) u, by simpa using h2, fun p hp => ?_, ?_⟩, h.upd.set _ _ (.inr (.inl rfl)), by simpa using h.len⟩
 ·rw [Array.getElem?_setIfInBounds_ne kO]
  exact h3 p hp
 ·rw [← h4]
  apply List.ext_getElem?
  intro i
  simp only [List.getElem?_take, List.getElem?_drop, List.getElem?_set, Array.toList_setIfInBounds]
  by_cases hi : i < n
  ·have : o + j < cur.toList.length := by rw [Array.length_toList, h2]; exact h.room j hj
   by_cases e : j = i
   ·subst e
    have t2 : o + j < cur.size := by simpa using this
    simp [hj, t2]
    omega
   ·simp [hi, e]
  ·simp [hi]
   omega
theorem At.set0 (h : At w0 w g o n e cur0 ce Fi) (hj : 0 < n) (u : Value) : At w0 (w.setCell ⟨g, o, none⟩ u) g o n e cur0 (ce.set 0 u) Fi := h.set 0 hj u
theorem At.call (h : At w0 w g o n e cur0 ce Fi) {G : Nat → Prop} (k : Upd G w w') (hG : ∀ b, G b → Fi b) (hg : ¬ Fi g) : At w0 w' g o n e cur0 ce Fi := by
 obtain ⟨cur, h1, h2, h3, h4⟩ := h.row
 exact ⟨⟨cur, (k.block g (heap_lt h1) (fun q => hg (hG g q))).trans h1, h2, h3, h4⟩, h.upd.trans k (fun _ _ q => q) (fun b _ q => .inr (hG b q)), h.len⟩
variable {α : Type} {d : Kn α} {F : Nat → Prop} {v : Value} {xs : List α}
theorem fV (h : R d e w F v xs) (sz m : Nat) (hs : d.sz = sz) (hm : xs.length = m) (i : Nat) (x : α) (hx : xs[i]? = some x) : ∃ (g cap : Nat) (cur : Array Value) (ce : List Value) (Fi : Nat → Prop), v = .slice (some ⟨g, 0, none⟩) m cap ∧ m ≤ cap ∧ At w w g (i * sz) sz e cur ce Fi ∧ d.M w Fi x ce ∧ F g ∧ (∀ b, Fi b → F b) ∧ ¬ Fi g ∧
 ∀ (w' : World) (ce' : List Value) (x' : α) (Fi' F' : Nat → Prop), At w w' g (i * sz) sz e cur ce' Fi → d.M w' Fi' x' ce' → (∀ b, Fi' b → Fi b ∨ ¬ F b) → (∀ b, F b → F' b) → (∀ b, Fi' b → F' b) → R d e w' F' v (xs.set i x') := by
 subst hs
 subst hm
 obtain ⟨hi, rfl⟩ := List.getElem?_eq_some_iff.1 hx
 clear hx
 rcases h with ⟨_, rfl⟩ | ⟨g, cap, cur, Fs, h1, h2, h3, h4, h5, h6, h7, h8, h9⟩
 ·simp at hi
 have hx := h9 i xs[i] (List.getElem?_eq_getElem hi)
 have hsz : ∀ k, k < xs.length → k * d.sz + d.sz ≤ cur.size := fun k hk => by rw [h6, ← Nat.succ_mul]; exact Nat.mul_le_mul_right _ kO
 refine ⟨g, cap, cur, _, Fs i, h1, h4, ⟨⟨cur, h2, rfl, fun _ _ => rfl, rfl⟩, Upd.refl _ _, ?_⟩, hx, h3, fun b hb => (h7 i b hb).1, fun hb => (h7 i g hb).2 rfl, ?_⟩
 ·rw [List.length_take, List.length_drop, Array.length_toList]
  have := hsz i hi
  omega
 ·intro w' ce' x' Fi' F' hat hm hF1 hF2 hF3
  obtain ⟨cur', k1, k2, k3, k4⟩ := hat.row
  have hng : ∀ b, Fi' b → b ≠ g := fun b hb e => by
   subst e
   rcases hF1 b hb with hb | hb
   ·exact (h7 i b hb).2 rfl
   ·exact hb h3
  refine .inr ⟨g, cap, cur', fun j b => if j = i then Fi' b else Fs j b, by rw [List.length_set]; exact h1, k1, hF2 _ h3, by rw [List.length_set]; exact h4, h5, by rw [k2]; exact h6, fun j b hb => ?_, fun j j' b hb hb' => ?_, fun j x hx' => ?_⟩
  ·by_cases e : j = i
   ·simp only [e, if_true] at hb
    exact ⟨hF3 b hb, hng b hb⟩
   ·simp only [e, if_false] at hb
    exact ⟨hF2 b (h7 j b hb).1, (h7 j b hb).2⟩
  ·by_cases e : j = i <;> by_cases e' : j' = i
   ·omega
   ·simp only [e, e', if_true, if_false] at hb hb'
    rcases hF1 b hb with q | q
    ·exact absurd (h8 i j' b q hb') kO
    ·exact absurd (h7 j' b hb').1 q
   ·simp only [e, e', if_true, if_false] at hb hb'
    rcases hF1 b hb' with q | q
    ·exact absurd (h8 i j b q hb) kO
    ·exact absurd (h7 j b hb).1 q
   ·simp only [e, e', if_false] at hb hb'
    exact h8 j j' b hb hb'
  ·rw [List.getElem?_set] at hx'
   by_cases e : j = i
   ·subst e
    simp only [if_true, hi] at hx'
    obtain rfl := Option.some.inj hx'
    simp only [if_true]
    rw [show piece d.sz cur'.toList j = ce' from k4]
    exact hm
   ·rw [if_neg (fun q => e q.symm)] at hx'
    simp only [e, if_false]
    have hj : j < xs.length := (List.getElem?_eq_some_iff.1 hx').1
    have hp : piece d.sz cur'.toList j = piece d.sz cur.toList j := by
     apply List.ext_getElem?
     intro q
     simp only [piece, List.getElem?_take, List.getElem?_drop]
     by_cases hq : q < d.sz
     ·simp only [if_pos hq]
      have := k3 (j * d.sz + q) (by
       rcases Nat.lt_or_gt_of_ne e with e | e
       ·left
        have : j * d.sz + d.sz ≤ i * d.sz := by rw [← Nat.succ_mul]; exact Nat.mul_le_mul_right _ e
        omega
       ·right
        have : i * d.sz + d.sz ≤ j * d.sz := by rw [← Nat.succ_mul]; exact Nat.mul_le_mul_right _ e
        omega)
      simpa using this
     ·simp only [if_neg hq]
    rw [hp]
    refine d.M_mono (fun _ q => q.1) (d.lU (fun b hb => hat.upd.block b hb.2 ?_) (d.M_lt (h9 j x hx')))
    rintro (q | q)
    ·exact (h7 j b hb.1).2 q
    ·exact e (h8 j i b hb.1 q)
end
def RetInt (n : Int) (w : World) (e : Ending) (w' : World) : Prop := e = .returned (.int .i64 n) ∧ Upd No w w'
def bU (b : Bool) (w : World) (e : Ending) (w' : World) : Prop := e = .returned (.bool b) ∧ Upd No w w'
def RetString (s : ByteArray) (w : World) (e : Ending) (w' : World) : Prop := e = .returned (.string s) ∧ Upd No w w'
def New (w : World) : Nat → Prop := fun b => w.heap.size ≤ b
def jH {α : Type} (d : Kn α) (ty : Nat) (xs : List α) (w : World) (e : Ending) (w' : World) : Prop := ∃ v, e = .returned v ∧ R d ty w' (New w) v xs ∧ Upd No w w'
def jU {α : Type} (d : Kn α) (x : α) (w : World) (e : Ending) (w' : World) : Prop := ∃ cs, e = .returned (.agg cs.toArray) ∧ d.M w' (New w) x cs ∧ Upd No w w'
def jA (s : Nat) (n : Int) (w : World) (e : Ending) (w' : World) : Prop := ∃ r : Int, e = .returned (.int .i64 r) ∧ (((s : Int) ≤ n ∧ r = n - s) ∨ (n < s ∧ r = -1)) ∧ Upd No w w'
def Marks {α : Type} (d : Kn α) (ty : Nat) (F : Nat → Prop) (v : Value) (n : Int) (xs : List α) (w : World) (e : Ending) (w' : World) : Prop := e = .returned (.int .i64 n) ∧ R d ty w' F v xs ∧ Upd F w w'
def MarksV {α : Type} (d : Kn α) (F : Nat → Prop) (cs : List Value) (n : Int) (y : α) (w : World) (e : Ending) (w' : World) : Prop := e = .returned (.int .i64 n) ∧ d.M w' F y cs ∧ Upd F w w'
theorem Upd.aP {w w1 : World} (h : Upd No w w1) (o : Nat) (u : Value) : Upd No w (w1.setCell ⟨w.heap.size, o, none⟩ u) := h.set _ _ (.inl (Nat.le_refl _))
theorem Upd.aS {w w1 : World} (h : Upd No w w1) (o : Nat) (u : Value) : Upd No w (w1.setCell ⟨w.heap.size + 1, o, none⟩ u) := h.set _ _ (.inl (Nat.le_succ _))
theorem Upd.aT {w w1 : World} (h : Upd No w w1) (o : Nat) (u : Value) : Upd No w (w1.setCell ⟨w.heap.size + 1 + 1, o, none⟩ u) := h.set _ _ (.inl (by dsimp only; omega))
theorem Upd.eT {P : Nat → Prop} {w w1 : World} {g : Nat} (hn : ¬ P g) (h : Upd (fun b => ¬ P b) w w1) (o : Nat) (u : Value) : Upd (fun b => ¬ P b) w (w1.setCell ⟨g, o, none⟩ u) := h.set _ _ (.inr hn)
theorem Upd.gM {w w1 : World} {g : Nat} (h : Upd (fun b => b = g) w w1) (o : Nat) (u : Value) : Upd (fun b => b = g) w (w1.setCell ⟨g, o, none⟩ u) := h.set _ _ (.inr rfl)
theorem Upd.read {w w1 : World} (h : Upd No w w1) {a : Addr} {v : Value} (hc : w.cell? a = some v) : w1.cell? a = some v := (h.below.cell (World.block_lt_of_cell? w a hc)).trans hc
section
variable {α : Type} {d : Kn α} {e : Nat} {w w' : World} {F : Nat → Prop} {v : Value} {xs : List α}
theorem add_plain (g j : Nat) : (⟨g, 0, none⟩ : Addr).add j = ⟨g, j, none⟩ := by unfold Addr.add; split <;> simp_all
theorem piece_take {sz : Nat} {l : List Value} {n i : Nat} (h : i < n) : piece sz (l.take (n * sz)) i = piece sz l i := by
 have h1 : i * sz + sz ≤ n * sz := by rw [← Nat.succ_mul]; exact Nat.mul_le_mul_right _ h
 apply List.ext_getElem?
 intro q
 simp only [piece, List.getElem?_take, List.getElem?_drop]
 by_cases hq : q < sz
 ·simp only [if_pos hq]
  rw [if_pos kO]
 ·simp only [if_neg hq]
theorem R_of_owns {base : Nat} {inner : List Value} (h : w.ownsRow base e d.sz v xs.length inner) (hF : ∀ g, v.ownBlock = some g → F g) (Fs : Nat → Nat → Prop)
 (h1 : ∀ i b, Fs i b → F b ∧ v.ownBlock ≠ some b) (h2 : ∀ i j b, Fs i b → Fs j b → i = j) (h3 : ∀ i x, xs[i]? = some x → d.M w (Fs i) x (piece d.sz inner i)) : R d e w F v xs := by
 rcases h.2 with ⟨rfl, hn⟩ | ⟨g, cap, cur, rfl, _, k2, k3, k4, k5, k6⟩
 ·exact .inl ⟨rfl, List.eq_nil_of_length_eq_zero hn⟩
 ·refine .inr ⟨g, cap, cur, Fs, rfl, k2, hF g rfl, k3, by simpa [maxLen] using k4, k5, fun i b hb => ⟨(h1 i b hb).1, fun q => (h1 i b hb).2 (by rw [q]; rfl)⟩, h2, fun i x hx => ?_⟩
  have := h3 i x hx
  rw [← k6, piece_take (List.getElem?_eq_some_iff.1 hx).1] at this
  exact this
theorem owns_of_R (h : R d e w F v xs) : ∃ (inner : List Value) (Fs : Nat → Nat → Prop), w.ownsRow 0 e d.sz v xs.length inner ∧ (∀ g, v.ownBlock = some g → F g) ∧ (∀ i b, Fs i b → F b ∧ v.ownBlock ≠ some b) ∧ (∀ i j b, Fs i b → Fs j b → i = j) ∧ ∀ i x, xs[i]? = some x → d.M w (Fs i) x (piece d.sz inner i) := by
 rcases h with ⟨rfl, rfl⟩ | ⟨g, cap, cur, Fs, rfl, h2, h3, h4, h5, h6, h7, h8, h9⟩
 ·exact ⟨[], fun _ _ => False, ⟨by simp, .inl ⟨rfl, rfl⟩⟩, fun g hg => by simp [Value.ownBlock] at hg, fun _ _ h => h.elim, fun _ _ _ h => h.elim, fun i x h => by simp at h⟩
 ·refine ⟨cur.toList.take (xs.length * d.sz), Fs, ⟨?_, .inr ⟨g, cap, cur, rfl, Nat.zero_le _, h2, h4, by simpa [maxLen] using h5, h6, rfl⟩⟩, fun b hb => (show g = b by simpa [Value.ownBlock] using hb) ▸ h3, fun i b hb => ⟨(h7 i b hb).1, fun q => (h7 i b hb).2 (by simpa [Value.ownBlock] using q.symm)⟩, h8, fun i x hx => ?_⟩
  ·have q1 := Nat.mul_le_mul_right d.sz h4
   have q2 : cur.toList.length = cap * d.sz := by simpa using h6
   rw [List.length_take, q2, Nat.min_eq_left q1]
  ·rw [piece_take (List.getElem?_eq_some_iff.1 hx).1]
   exact h9 i x hx
theorem eH (h : R d e w F v xs) (hU : Upd (fun b => ¬ F b) w w') : R d e w' F v xs := aO hU (fun _ hb q => q hb) h
theorem R_C {A : Option Addr} {n c : Nat} (h : R d e w F (.slice A n c) xs) : C d w A xs := by
 obtain ⟨A', c', he, _, hC⟩ := R_reads h
 cases he
 exact hC
theorem fP {W w1 : World} (h : R d e w1 (New W) v xs) (n : Nat) (hn : n ≤ W.heap.size) : ∃ P : Nat → Prop, R d e w1 P v xs ∧ (∀ b, P b → n ≤ b) ∧ ∀ b, P b → b < w1.heap.size :=
 ⟨fun b => New W b ∧ b < w1.heap.size, R_lt h, fun _ hb => Nat.le_trans hn hb.1, fun _ hb => hb.2⟩
def eD (z : Value) (n : Nat) (e : Nat) : Obj := .cells (madeCells z.cells n) e
theorem iB {P : Program} {t : TypeId} (z : Value) (sz bytes : Nat) (ht : P.underlying t = some (.slice e)) (hinfo : (P.info? e).map (fun i => (i.zero, i.size, i.bytes)) = some (some z, sz, bytes)) (n : Nat) (hn : n ≤ 1048576) (hb : bytes ≤ 4096) :
 ∀ W : World, (Instr.makeSlice t (.int .i64 (n : Int)) (.int .i64 (n : Int))).run P W = .ok (.slice (some ⟨W.heap.size, 0, none⟩) n n) (W.alloc (eD z (n * sz) e)) := by
 intro W
 obtain ⟨i0, hi, hzz⟩ := Option.map_eq_some_iff.1 hinfo
 simp only [Prod.mk.injEq] at hzz
 obtain ⟨hz0, hz1, hz2⟩ := hzz
 have hr := run_make (P := P) W t e i0 z ht hi hz0 .i64 .i64 (n : Int) (n : Int) kO kO
  (by
   have h3 : i0.bytes * n ≤ 4096 * 1048576 := Nat.mul_le_mul kO hn
   have h4 : ((i0.bytes * n : Nat) : Int) ≤ 281474976710656 := by omega
   rwa [Int.natCast_mul] at h4) kO
 simp only [Int.toNat_natCast] at hr
 rw [hz1] at hr
 exact hr
theorem kL (W : World) (z : Value) (zx : α) (hz : z.cells.size = d.sz) (hs : 0 < d.sz) (h0 : ∀ W, d.M W No zx z.cells.toList) (n : Nat) (hn : n ≤ 1048576) :
 R d e (W.alloc (eD z (n * d.sz) e)) (New W) (.slice (some ⟨W.heap.size, 0, none⟩) n n) (List.replicate n zx) := by
 refine .inr ⟨W.heap.size, n, madeCells z.cells (n * d.sz), fun _ _ => False, by simp, heap_alloc_new W _, Nat.le_refl _, by simp, by omega, size_madeCells _ _, fun _ _ h => h.elim, fun _ _ _ h => h.elim, fun i x hx => ?_⟩
 obtain ⟨hil, hx'⟩ := List.getElem?_eq_some_iff.1 hx
 have him : i < n := by simpa using hil
 have : zx = x := by simpa using hx'
 subst this
 have hle : i * d.sz + d.sz ≤ n * d.sz := by rw [← Nat.succ_mul]; exact Nat.mul_le_mul_right _ him
 have : piece d.sz (madeCells z.cells (n * d.sz)).toList i = z.cells.toList := by
  apply List.ext_getElem
  ·simp [piece, size_madeCells, hz]
   omega
  ·intro j h1 h2
   have hj : j < d.sz := by rw [Array.length_toList, hz] at h2; exact h2
   have hmod : (i * d.sz + j) % d.sz = j := by
    rw [Nat.mul_comm, Nat.mul_add_mod]
    exact Nat.mod_eq_of_lt hj
   simp [piece, madeCells, hz, hmod]
   rw [getElem!_pos z.cells j kO]
 rw [this]
 exact d.M_mono (fun _ h => h) (h0 _)
end
section
variable {α : Type} {d : Kn α} {e : Nat} {F : Nat → Prop} {v : Value} {xs : List α} {P : Program} {ops : Array Oper} {rest : List Oper} {o : Oper} {a : Act} {Q : Exit → Act → World → Prop}
end
section
variable {α : Type} {d : Kn α} {e : Nat} {w w' : World} {F : Nat → Prop} {v : Value} {xs ys : List α}
def CM (d : Kn α) (w : World) (A : Option Addr) (xs : List α) (Fs : Nat → Nat → Prop) : Prop :=
 xs.length ≤ 9223372036854775807 ∧ (0 < xs.length → ∃ ad, A = some ad ∧ ∀ j p, xs[j]? = some p → ∃ c, d.M w (Fs j) p c ∧ ∀ i u, c[i]? = some u → w.cell? (ad.add (j * d.sz + i)) = some u)
theorem CM_news {ad : Addr} {Fs : Nat → Nat → Prop} (k : ∀ j p, xs[j]? = some p → ∃ c, d.M w (Fs j) p c ∧ ∀ i u, c[i]? = some u → w.cell? (ad.add (j * d.sz + i)) = some u) (n : Nat) (hn : n ≤ xs.length) :
 ∃ news : List Value, news.length = n * d.sz ∧ (∀ j u, news[j]? = some u → w.cell? (ad.add j) = some u ∧ u.oneCell' = true) ∧ ∀ i x, i < n → xs[i]? = some x → d.M w (Fs i) x (piece d.sz news i) := by
 induction n with
 | zero => exact ⟨[], by simp, fun j u h => by simp at h, fun i x h => by omega⟩
 | succ n ih =>
  obtain ⟨news, h1, h2, h3⟩ := ih kO
  obtain ⟨c, k1, k2⟩ := k n xs[n] (List.getElem?_eq_getElem kO)
  have hc := d.jT k1
  have hl := d.K_len hc
  refine ⟨news ++ c, by rw [List.length_append, h1, hl, Nat.succ_mul], fun j u hj => ?_, fun i x hi hx => ?_⟩
  ·rcases Nat.lt_or_ge j news.length with hjl | hjl
   ·rw [List.getElem?_append_left hjl] at hj
    exact h2 j u hj
   ·rw [List.getElem?_append_right hjl] at hj
    have := k2 _ u hj
    rw [show n * d.sz + (j - news.length) = j by rw [← h1]; omega] at this
    exact ⟨this, d.K_one hc u (List.mem_of_getElem? hj)⟩
  ·rcases Nat.lt_or_ge i n with hin | hin
   ·have hp : piece d.sz (news ++ c) i = piece d.sz news i := by
     have h4 : i * d.sz + d.sz ≤ news.length := by rw [h1, ← Nat.succ_mul]; exact Nat.mul_le_mul_right _ hin
     unfold piece
     rw [List.drop_append_of_le_length kO, List.take_append_of_le_length (by rw [List.length_drop]; omega)]
    rw [hp]
    exact h3 i x hin hx
   ·obtain rfl : i = n := by omega
    have hx2 : xs[i] = x := by rw [List.getElem?_eq_getElem kO] at hx; exact Option.some.inj hx
    have hp : piece d.sz (news ++ c) i = c := by
     unfold piece
     rw [← h1, List.drop_left, List.take_of_length_le kO]
    rw [hp, ← hx2]
    exact k1
end
section
variable {α : Type} {d : Kn α} {e : Nat} {F : Nat → Prop} {v : Value} {xs ys : List α} {P : Program} {ops : Array Oper} {rest : List Oper} {o : Oper} {a : Act} {Q : Exit → Act → World → Prop}
end
section
variable {α β : Type} {d : Kn α} {e : Nat}
end
end Go.Proofs.YtgaoabnnpjngcaaGreatSep
namespace Go.Proofs.YtgaoabnnpjngcaaGreatSep
theorem gX {a b : Int} (h : a = b) : Ending.returned (.int .i64 a) = .returned (.int .i64 b) := by rw [h]
theorem ret_bool {a b : Bool} (h : a = b) : Ending.returned (.bool a) = .returned (.bool b) := by rw [h]
def mkS {α : Type} (m : Int → α → α) (c : α → Int) : Int → List α → List α
 | _, [] => []
 | k, x :: l => m k x :: mkS m c (k + c x) l
def aQ {α : Type} (c : α → Int) : List α → Int
 | [] => 0
 | x :: l => c x + aQ c l
def eZ {α : Type} (s : α → Nat) : List α → Nat
 | [] => 0
 | x :: l => s x + eZ s l
def bB {α : Type} (s : α → Nat) (l : List α) : Nat := l.length + eZ s l
section
variable {α : Type} (m : Int → α → α) (c : α → Int) (s : α → Nat)
theorem aR : ∀ (l : List α) (k : Int), (mkS m c k l).length = l.length
 | [], _ => rfl
 | _ :: l, k => by simp [mkS, aR l]
theorem jI : ∀ (l : List α) (k : Int) (i : Nat) (h : i < l.length), (mkS m c k l)[i]'(by rw [aR]; exact h) = m (k + aQ c (l.take i)) l[i]
 | [], _, i, h => by simp at h
 | x :: l, k, 0, h => by simp [mkS, aQ]
 | x :: l, k, i + 1, h => by
  simp only [mkS, List.getElem_cons_succ, List.take_succ_cons, aQ]
  rw [jI l (k + c x) i (by simpa using h)]
  congr 1
  omega
theorem fQ : ∀ (l : List α) (i : Nat) (h : i < l.length), aQ c (l.take (i + 1)) = aQ c (l.take i) + c l[i]
 | [], i, h => by simp at h
 | x :: l, 0, h => by simp [aQ]
 | x :: l, i + 1, h => by
  simp only [List.take_succ_cons, aQ, List.getElem_cons_succ]
  rw [fQ l i (by simpa using h)]
  omega
theorem dJ (hc : ∀ x, 0 ≤ c x) : ∀ (l : List α) (i : Nat), 0 ≤ aQ c (l.take i) ∧ aQ c (l.take i) ≤ aQ c l
 | [], i => by simp [aQ]
 | x :: l, 0 => by
  have := dJ hc l l.length
  rw [List.take_length] at this
  have := hc x
  simp [aQ]
  omega
 | x :: l, i + 1 => by
  have := dJ hc l i
  have := hc x
  simp only [List.take_succ_cons, aQ]
  omega
theorem dB (hc : ∀ x, 0 ≤ c x) (l : List α) : 0 ≤ aQ c l := by
 have := dJ c hc l l.length
 rw [List.take_length] at this
 exact this.1
theorem dU (h : ∀ x, c x ≤ 20 + 20 * (s x : Int)) : ∀ l : List α, aQ c l ≤ 20 * (bB s l : Int)
 | [] => by simp [aQ, bB, eZ]
 | x :: l => by
  have h1 := h x
  have h2 := dU h l
  simp only [aQ, bB, eZ, List.length_cons] at *
  omega
theorem iD : ∀ (l : List α) (i : Nat) (h : i < l.length), eZ s (l.take (i + 1)) = eZ s (l.take i) + s l[i]
 | [], i, h => by simp at h
 | x :: l, 0, h => by simp [eZ]
 | x :: l, i + 1, h => by
  simp only [List.take_succ_cons, eZ, List.getElem_cons_succ]
  rw [iD l i (by simpa using h)]
  omega
theorem sumS_le : ∀ (l : List α) (i : Nat), eZ s (l.take i) ≤ eZ s l
 | [], i => by simp [eZ]
 | x :: l, 0 => by simp [eZ]
 | x :: l, i + 1 => by
  have := sumS_le l i
  simp only [List.take_succ_cons, eZ]
  omega
theorem iZ (l : List α) (i : Nat) (h : i < l.length) : s l[i] ≤ eZ s l := by
 have h1 := iD s l i h
 have h2 := sumS_le s l (i + 1)
 omega
theorem jS (l : List α) (i : Nat) (h : i < l.length) : eZ s (l.take i) + s l[i] ≤ eZ s l := by
 have h1 := iD s l i h
 have h2 := sumS_le s l (i + 1)
 omega
end
def fidx {α : Type} (p : α → Bool) : Int → List α → Int
 | _, [] => -1
 | k, x :: l => if p x then k else fidx p (k + 1) l
theorem fidx_any {α : Type} (p : α → Bool) : ∀ (l : List α) (k : Int), 0 ≤ k → decide (0 ≤ fidx p k l) = l.any p
 | [], k, _ => by simp [fidx]
 | x :: l, k, h => by
  by_cases c : p x = true
  ·simp [fidx, c, h]
  ·simp [fidx, c, fidx_any p l (k + 1) kO]
theorem fidx_yes {α : Type} (p : α → Bool) (l : List α) (i : Nat) (h : i < l.length) (hp : p l[i] = true) : fidx p i (l.drop i) = i := by
 rw [List.drop_eq_getElem_cons h]; simp [fidx, hp]
theorem fidx_no {α : Type} (p : α → Bool) (l : List α) (i : Nat) (h : i < l.length) (hp : p l[i] = false) : fidx p i (l.drop i) = fidx p ((i + 1 : Nat) : Int) (l.drop (i + 1)) := by
 rw [List.drop_eq_getElem_cons h]; simp [fidx, hp]
theorem fidx_end {α : Type} (p : α → Bool) (l : List α) (i : Nat) (h : l.length ≤ i) (k : Int) : fidx p k (l.drop i) = -1 := by
 rw [List.drop_eq_nil_of_le h]; rfl
end Go.Proofs.YtgaoabnnpjngcaaGreatSep
namespace Go.Proofs.YtgaoabnnpjngcaaGreatSep
open Go.ChangeShapes Go.WideShapes Go.RowKit
def Blk (w : World) (g t : Nat) (cs : Array Value) : Prop := w.heap[g]? = some (.cells cs t (0, 0))
section
variable {w w' : World} {g g' t : Nat} {cs : Array Value} {F : Nat → Prop}
theorem Blk.cell (h : Blk w g t cs) (o : Nat) : w.cell? ⟨g, o, none⟩ = cs[o]? := by rw [cell_of_row w g _ cs t (0, 0) h]
theorem Blk.at (h : Blk w g t cs) (o : Nat) {v : Value} (hv : cs[o]? = some v) : w.cell? ⟨g, o, none⟩ = some v := (h.cell o).trans hv
theorem Blk.free (h : Blk w g t cs) (o : Nat) : w.frozen? ⟨g, o, none⟩ = false := by unfold Blk at h; simp [World.frozen?, h]
theorem Blk.lt (h : Blk w g t cs) : g < w.heap.size := heap_lt h
theorem Blk.new (w : World) (t : Nat) (cs : Array Value) : Blk (w.alloc (.cells cs t)) w.heap.size t cs := heap_alloc_new w (.cells cs t)
theorem Blk.alloc (h : Blk w g t cs) (o : Obj) : Blk (w.alloc o) g t cs := (heap_alloc_old w o (Blk.lt h)).trans h
theorem Blk.drew (h : Blk w g t cs) : Blk w.drew g t cs := h
theorem Blk.drewN (h : Blk w g t cs) (n : Nat) : Blk (w.drewN n) g t cs := h
theorem Blk.same (h : Blk w g t cs) (i : Nat) (u : Value) : Blk (w.setCell ⟨g, i, none⟩ u) g t (cs.setIfInBounds i u) := blk_set h i u
theorem Blk.upd (h : Blk w g t cs) (hu : Upd F w w') (hF : ¬ F g) : Blk w' g t cs := (hu.block g (Blk.lt h) hF).trans h
theorem Blk.no (h : Blk w g t cs) (hu : Upd No w w') : Blk w' g t cs := h.upd hu (fun q => q)
end
section
variable {α : Type} {d : Kn α} {e : Nat} {F : Nat → Prop} {v : Value} {xs ys : List α} {P : Program} {ops : Array Oper} {rest : List Oper} {o : Oper} {a : Act} {Q : Exit → Act → World → Prop}
theorem run_appRow (W : World) (t ty : TypeId) (z : Value) (bytes : Nat)
 (ht : P.underlying t = some (.slice e)) (hinfo : (P.info? e).map (fun i => (i.zero, i.size, i.bytes)) = some (some z, d.sz, bytes)) (hz : z.cells.size = d.sz) (hs0 : 0 < d.sz) (hb0 : 0 < bytes)
 (ad : Addr) (c : Nat) (Gs : Nat → Nat → Prop) (HR : R d e W F v xs)
 (HC : ∀ j p, ys[j]? = some p → ∃ c, d.M W (Gs j) p c ∧ ∀ i u, c[i]? = some u → W.cell? (ad.add (j * d.sz + i)) = some u) (hd : ∀ j b, Gs j b → ¬ F b) (hd2 : ∀ i j b, Gs i b → Gs j b → i = j) (hl : (xs.length + ys.length) * bytes ≤ 140737488355328) :
 ∃ v1 w1, (Builtin.append_ #[t, t] ty #[v, .slice (some ad) ys.length c]).run P W = .ok v1 w1 ∧ R d e w1 (fun b => F b ∨ (∃ j, j < ys.length ∧ Gs j b) ∨ W.heap.size ≤ b) v1 (xs ++ ys) ∧ Upd F W w1 := by
 obtain ⟨i0, hi, hzz⟩ := Option.map_eq_some_iff.1 hinfo
 simp only [Prod.mk.injEq] at hzz
 obtain ⟨hz0, hz1, hz2⟩ := hzz
 have hlen : xs.length + ys.length ≤ 140737488355328 := Nat.le_trans (Nat.le_mul_of_pos_right _ hb0) hl
 obtain ⟨inner, Fs, k1, k2, k3, k4, k5⟩ := owns_of_R (R_lt HR)
 obtain ⟨news, n1, n2, n3⟩ := CM_news (d := d) HC ys.length (Nat.le_refl _)
 obtain ⟨v1, w1, hr, hown, hg, _, hat⟩ := run_append_own_at (P := P) (w := W) 0 t ty e i0 z d.sz bytes ht hi hz0 hz1 hz2 hz hs0 v xs.length inner k1 ad ys.length c news n1 (fun j u hu => (n2 j u hu).1)
  (fun u hu => by obtain ⟨j, hj⟩ := List.mem_iff_getElem?.1 hu; exact (n2 j u hj).2) (by simp only [maxLen]; omega) hl (Nat.zero_le _)
 have hU : Upd F W w1 := (Upd.of_grown hg).mono (fun b hb q => by
  have hb' : v.ownBlock = some b := q.symm
  exact (k2 b hb').1)
 have hne : ∀ b, b < W.heap.size → v.ownBlock ≠ some b → v1.ownBlock ≠ some b := by
  intro b hb hv
  rcases hat with hat | hat
  ·rw [hat]; exact hv
  ·rw [hat]
   intro q
   injection q with q
   omega
 have hfr : ∀ b, b < W.heap.size → v.ownBlock ≠ some b → w1.heap[b]? = W.heap[b]? := fun b hb hv => hg.block b hb (fun q => hv q.symm)
 refine ⟨v1, w1, hr, R_of_owns (xs := xs ++ ys) (base := 0) (inner := inner ++ news) (by rw [List.length_append]; exact hown) (fun g hg' => ?_) (fun i b => if i < xs.length then Fs i b else i - xs.length < ys.length ∧ Gs (i - xs.length) b ∧ b < W.heap.size) (fun i b hb => ?_) (fun i j b hi' hj' => ?_) (fun i x' hx' => ?_), hU⟩
 ·rcases hat with hat | hat
  ·exact .inl (k2 g (hat ▸ hg')).1
  ·rw [hat] at hg'
   injection hg' with q
   exact .inr (.inr (by rw [← q]; exact Nat.le_refl _))
 ·by_cases c : i < xs.length
  ·simp only [c, if_true] at hb
   have := k3 i b hb
   exact ⟨.inl this.1.1, hne b this.1.2 this.2⟩
  ·simp only [c, if_false] at hb
   exact ⟨.inr (.inl ⟨_, hb.1, hb.2.1⟩), hne b hb.2.2 (fun q => hd _ b hb.2.1 (k2 b q).1)⟩
 ·by_cases c : i < xs.length <;> by_cases c' : j < xs.length
  ·simp only [c, c', if_true] at hi' hj'
   exact k4 i j b hi' hj'
  ·simp only [c, c', if_true, if_false] at hi' hj'
   exact absurd (k3 i b hi').1.1 (hd _ b hj'.2.1)
  ·simp only [c, c', if_true, if_false] at hi' hj'
   exact absurd (k3 j b hj').1.1 (hd _ b hi'.2.1)
  ·simp only [c, c', if_false] at hi' hj'
   have := hd2 _ _ b hi'.2.1 hj'.2.1
   omega
 ·by_cases c : i < xs.length
  ·simp only [c, if_true]
   rw [List.getElem?_append_left c] at hx'
   have hpc : piece d.sz (inner ++ news) i = piece d.sz inner i := by
    have h1 : i * d.sz + d.sz ≤ inner.length := by rw [k1.1, ← Nat.succ_mul]; exact Nat.mul_le_mul_right _ c
    unfold piece
    rw [List.drop_append_of_le_length kO, List.take_append_of_le_length (by rw [List.length_drop]; omega)]
   rw [hpc]
   exact d.M_mono (fun _ q => q.1) (d.lU (fun b hb => hfr b hb.2 (k3 i b hb.1).2) (d.M_lt (k5 i x' hx')))
  ·simp only [c, if_false]
   have hil := (List.getElem?_eq_some_iff.1 hx').1
   rw [List.getElem?_append_right kO] at hx'
   have hjl : i - xs.length < ys.length := (List.getElem?_eq_some_iff.1 hx').1
   have hpc : piece d.sz (inner ++ news) i = piece d.sz news (i - xs.length) := by
    have h1 : inner.length = xs.length * d.sz := k1.1
    have h2 : i * d.sz = inner.length + (i - xs.length) * d.sz := by rw [h1, ← Nat.add_mul]; congr 1; omega
    unfold piece
    rw [h2, List.drop_append, List.drop_eq_nil_of_le (Nat.le_add_right _ _), List.nil_append, Nat.add_sub_cancel_left]
   rw [hpc]
   exact d.M_mono (fun _ q => ⟨hjl, q.1, q.2⟩) (d.lU (fun b hb => hfr b hb.2 (fun q => hd _ b hb.1 (k2 b q).1)) (d.M_lt (n3 _ x' hjl hx')))
end
section
variable {α : Type} {d : Kn α} {e : Nat} {w w' : World} {F : Nat → Prop} {v : Value} {xs : List α} {x : α} {cs : List Value}
end
theorem add_add (ad : Addr) (m k : Nat) (hm : 0 < m) : (ad.add m).add k = ad.add (m + k) := by
 unfold Addr.add
 by_cases hk : k = 0
 ·subst hk; simp
 ·have h1 : m ≠ 0 := by omega
  have h2 : m + k ≠ 0 := by omega
  simp [hk, h1, Nat.add_assoc]
section
variable {P : Program} {c : Code} {Q : Exit → Act → World → Prop} {a : Act} {w : World} {t : Nat} {cs : Array Value}
end
section
variable {α : Type} {d : Kn α} {e : Nat} {F : Nat → Prop} {v : Value} {xs ys : List α} {P : Program} {ops : Array Oper} {rest : List Oper} {o : Oper} {a : Act} {Q : Exit → Act → World → Prop}
theorem run_appAny (W : World) (t ty : TypeId) (z : Value) (bytes : Nat)
 (ht : P.underlying t = some (.slice e)) (hinfo : (P.info? e).map (fun i => (i.zero, i.size, i.bytes)) = some (some z, d.sz, bytes)) (hz : z.cells.size = d.sz) (hs0 : 0 < d.sz) (hb0 : 0 < bytes)
 (A : Option Addr) (c : Nat) (Gs : Nat → Nat → Prop) (HR : R d e W F v xs) (HC : CM d W A ys Gs) (hd : ∀ j b, Gs j b → ¬ F b) (hd2 : ∀ i j b, Gs i b → Gs j b → i = j) (hl : (xs.length + ys.length) * bytes ≤ 140737488355328) :
 ∃ v1 w1, (Builtin.append_ #[t, t] ty #[v, .slice A ys.length c]).run P W = .ok v1 w1 ∧ R d e w1 (fun b => F b ∨ (∃ j, j < ys.length ∧ Gs j b) ∨ W.heap.size ≤ b) v1 (xs ++ ys) ∧ Upd F W w1 := by
 rcases A with _ | ad
 ·have h0 : ys = [] := by
   cases ys with
   | nil => rfl
   | cons x l => obtain ⟨ad, q, _⟩ := HC.2 (by simp); cases q
  subst h0
  obtain ⟨i0, hi, hzz⟩ := Option.map_eq_some_iff.1 hinfo
  refine ⟨v, W, ?_, by rw [List.append_nil]; exact R_mono (fun _ q => .inl q) HR, Upd.refl _ _⟩
  rcases HR with ⟨rfl, rfl⟩ | ⟨g, cap, cur, Fs, rfl, _, _, hnc, _⟩
  ·simp [Builtin.append_, run_underlying ht, sizeOf, typeInfo, hi, Builtin.lenOf, Builtin.firstCells]
  ·simp [Builtin.append_, run_underlying ht, sizeOf, typeInfo, hi, Builtin.lenOf, Builtin.firstCells, hnc, storeCells]
 ·refine run_appRow W t ty z bytes ht hinfo hz hs0 hb0 ad c Gs HR (fun j p hj => ?_) hd hd2 hl
  obtain ⟨ad', q, k⟩ := HC.2 (Nat.lt_of_le_of_lt (Nat.zero_le _) (List.getElem?_eq_some_iff.1 hj).1)
  cases q
  exact k j p hj
end
theorem Blk.put {w : World} {g t : Nat} {cs cs' : Array Value} (h : Blk w g t cs) (i : Nat) (u : Value) (hc : cs.setIfInBounds i u = cs') : Blk (w.setCell ⟨g, i, none⟩ u) g t cs' := hc ▸ h.same i u
theorem R_emptyB {α : Type} {d : Kn α} {e : Nat} {w : World} {g : Nat} (h : Blk w g e #[]) : R d e w (fun b => b = g) (.slice (some ⟨g, 0, none⟩) 0 0) [] :=
 .inr ⟨g, 0, #[], fun _ _ => False, rfl, h, rfl, Nat.le_refl _, by omega, by simp, fun _ _ h => h.elim, fun _ _ _ h => h.elim, fun i x hx => by simp at hx⟩
structure HP where
 p : World → (Nat → Prop) → Prop
 same : ∀ {W W' : World} {F : Nat → Prop}, (∀ b, F b → W'.heap[b]? = W.heap[b]?) → p W F → p W' F
 lt : ∀ {W : World} {F : Nat → Prop}, p W F → p W (fun b => F b ∧ b < W.heap.size)
 mono : ∀ {W : World} {F F' : Nat → Prop}, (∀ b, F b → F' b) → p W F → p W F'
def hR {α : Type} (d : Kn α) (e : Nat) (v : Value) (xs : List α) : HP := ⟨fun W F => R d e W F v xs, fun h => R_same h, fun h => R_lt h, fun h => R_mono h⟩
def hM {α : Type} (d : Kn α) (x : α) (cs : List Value) : HP := ⟨fun W F => d.M W F x cs, fun h => d.lU h, fun h => d.M_lt h, fun h => d.M_mono h⟩
def hB (g t : Nat) (cs : Array Value) : HP := ⟨fun W F => F g ∧ Blk W g t cs, fun h k => ⟨k.1, (h g k.1).trans k.2⟩, fun k => ⟨⟨k.1, Blk.lt k.2⟩, k.2⟩, fun h k => ⟨h g k.1, k.2⟩⟩
def Star (l : List HP) (W : World) (F : Nat → Prop) : Prop :=
 ∃ Fs : Nat → Nat → Prop, (∀ i b, Fs i b → F b) ∧ (∀ i j b, Fs i b → Fs j b → i = j) ∧ ∀ (i : Nat) (q : HP), l[i]? = some q → q.p W (Fs i)
section
variable {l l' l0 : List HP} {W W' w : World} {F F' F0 : Nat → Prop} {q : HP}
theorem Star.nil : Star [] W F := ⟨fun _ _ => False, fun _ _ h => h.elim, fun _ _ _ h => h.elim, fun i q h => by simp at h⟩
theorem Star.mono (h : Star l W F) (k : ∀ b, F b → F' b) : Star l W F' := by
 obtain ⟨Fs, h1, h2, h3⟩ := h
 exact ⟨Fs, fun i b hb => k b (h1 i b hb), h2, h3⟩
theorem Star.lt (h : Star l W F) : Star l W (fun b => F b ∧ b < W.heap.size) := by
 obtain ⟨Fs, h1, h2, h3⟩ := h
 exact ⟨fun i b => Fs i b ∧ b < W.heap.size, fun i b hb => ⟨h1 i b hb.1, hb.2⟩, fun i j b hi hj => h2 i j b hi.1 hj.1, fun i q hq => q.lt (h3 i q hq)⟩
theorem Star.same (h : Star l W F) (k : ∀ b, F b → W'.heap[b]? = W.heap[b]?) : Star l W' F := by
 obtain ⟨Fs, h1, h2, h3⟩ := h
 exact ⟨Fs, h1, h2, fun i q hq => q.same (fun b hb => k b (h1 i b hb)) (h3 i q hq)⟩
theorem Star.one (h : q.p W F) : Star [q] W F := by
 refine ⟨fun i b => i = 0 ∧ F b, fun i b hb => hb.2, fun i j b hi hj => hi.1.trans hj.1.symm, fun i q' hq => ?_⟩
 rcases i with _ | i
 ·simp only [List.getElem?_cons_zero, Option.some.injEq] at hq
  subst hq
  exact q.mono (fun b hb => ⟨rfl, hb⟩) h
 ·simp at hq
theorem Star.cons (F1 F2 : Nat → Prop) (h : q.p W F1) (k : Star l W F2) (h1 : ∀ b, F1 b → F b) (h2 : ∀ b, F2 b → F b) (hd : ∀ b, F1 b → ¬ F2 b) : Star (q :: l) W F := by
 obtain ⟨Fs, k1, k2, k3⟩ := k
 refine ⟨fun i b => match i with | 0 => F1 b | i + 1 => Fs i b, fun i b hb => ?_, fun i j b hi hj => ?_, fun i q' hq => ?_⟩
 ·rcases i with _ | i
  ·exact h1 b hb
  ·exact h2 b (k1 i b hb)
 ·rcases i with _ | i <;> rcases j with _ | j
  ·rfl
  ·exact absurd (k1 j b hj) (hd b hi)
  ·exact absurd (k1 i b hi) (hd b hj)
  ·exact congrArg (· + 1) (k2 i j b hi hj)
 ·rcases i with _ | i
  ·simp only [List.getElem?_cons_zero, Option.some.injEq] at hq
   subst hq
   exact h
  ·exact k3 i q' (by simpa using hq)
theorem Star.uncons (h : Star (q :: l) W F) : ∃ F1 F2, q.p W F1 ∧ Star l W F2 ∧ (∀ b, F1 b → F b) ∧ (∀ b, F2 b → F b) ∧ ∀ b, F1 b → ¬ F2 b := by
 obtain ⟨Fs, h1, h2, h3⟩ := h
 refine ⟨Fs 0, fun b => ∃ i, Fs (i + 1) b, h3 0 q rfl, ⟨fun i b => Fs (i + 1) b, fun i b hb => ⟨i, hb⟩, fun i j b hi hj => by have := h2 _ _ b hi hj; omega, fun i q' hq => h3 (i + 1) q' (by simpa using hq)⟩, h1 0, fun b ⟨i, hb⟩ => h1 _ b hb, fun b hb ⟨i, hi⟩ => by have := h2 _ _ b hb hi; omega⟩
theorem Star.pick (h : Star l W F) (ix : List Nat) (hn : ix.Nodup) (hl : ix.map (fun k => l[k]?) = l'.map some) : Star l' W F := by
 obtain ⟨Fs, h1, h2, h3⟩ := h
 refine ⟨fun i b => ∃ k, ix[i]? = some k ∧ Fs k b, fun i b ⟨k, _, hb⟩ => h1 k b hb, fun i j b ⟨k, hk, hb⟩ ⟨k', hk', hb'⟩ => ?_, fun i q hq => ?_⟩
 ·have e := h2 _ _ b hb hb'
  subst e
  exact (List.getElem?_inj (List.getElem?_eq_some_iff.1 hk).1 hn).1 (hk.trans hk'.symm)
 ·have e : (ix.map (fun k => l[k]?))[i]? = some (some q) := by rw [hl, List.getElem?_map, hq]; rfl
  rw [List.getElem?_map] at e
  obtain ⟨k, hk, hk2⟩ := Option.map_eq_some_iff.1 e
  exact q.mono (fun b hb => ⟨k, hk, hb⟩) (h3 k q hk2)
theorem Star.append (F1 F2 : Nat → Prop) (h : Star l0 W F1) (k : Star l W F2) (h1 : ∀ b, F1 b → F b) (h2 : ∀ b, F2 b → F b) (hd : ∀ b, F1 b → ¬ F2 b) : Star (l0 ++ l) W F := by
 induction l0 generalizing F F1 with
 | nil => exact k.mono h2
 | cons q l0 ih =>
  obtain ⟨G1, G2, a1, a2, a3, a4, a5⟩ := h.uncons
  refine Star.cons (l := l0 ++ l) G1 (fun b => G2 b ∨ F2 b) a1 (ih (F := fun b => G2 b ∨ F2 b) G2 a2 (fun b hb => .inl hb) (fun b hb => .inr hb) (fun b hb => hd b (a4 b hb))) (fun b hb => h1 b (a3 b hb)) (fun b hb => hb.elim (fun q => h1 b (a4 b q)) (h2 b)) (fun b hb q => ?_)
  rcases q with q | q
  ·exact a5 b hb q
  ·exact hd b (a3 b hb) q
theorem Star.split (h : Star (l0 ++ l) W F) : ∃ F1 F2, Star l0 W F1 ∧ Star l W F2 ∧ (∀ b, F1 b → F b) ∧ (∀ b, F2 b → F b) ∧ ∀ b, F1 b → ¬ F2 b := by
 obtain ⟨Fs, h1, h2, h3⟩ := h
 refine ⟨fun b => ∃ i, i < l0.length ∧ Fs i b, fun b => ∃ i, Fs (l0.length + i) b, ⟨fun i b => i < l0.length ∧ Fs i b, fun i b hb => ⟨i, hb⟩, fun i j b hi hj => h2 i j b hi.2 hj.2, fun i q hq => ?_⟩, ⟨fun i b => Fs (l0.length + i) b, fun i b hb => ⟨i, hb⟩, fun i j b hi hj => by have := h2 _ _ b hi hj; omega, fun i q hq => ?_⟩, fun b ⟨i, _, hb⟩ => h1 i b hb, fun b ⟨i, hb⟩ => h1 _ b hb, fun b ⟨i, hi, hb⟩ ⟨j, hj⟩ => by have := h2 _ _ b hb hj; omega⟩
 ·have hi := (List.getElem?_eq_some_iff.1 hq).1
  exact q.mono (fun b hb => ⟨hi, hb⟩) (h3 i q (by rw [List.getElem?_append_left hi]; exact hq))
 ·exact h3 _ q (by rw [List.getElem?_append_right (Nat.le_add_right _ _), Nat.add_sub_cancel_left]; exact hq)
def St (w : World) (F0 : Nat → Prop) (l : List HP) (W : World) : Prop := Upd F0 w W ∧ Star l W (fun b => F0 b ∨ w.heap.size ≤ b)
theorem St.enter : St w No [] w := ⟨Upd.refl _ _, Star.nil⟩
theorem St.pick (h : St w F0 l W) (ix : List Nat) (hn : ix.Nodup) (hl : ix.map (fun k => l[k]?) = l'.map some) : St w F0 l' W := ⟨h.1, h.2.pick ix hn hl⟩
theorem St.get (h : St w F0 l W) (i : Nat) (hq : l[i]? = some q) : ∃ F, q.p W F := by
 obtain ⟨_, Fs, _, _, h3⟩ := h
 exact ⟨_, h3 i q hq⟩
theorem St.blk (h : St w F0 l W) (i : Nat) {g t : Nat} {cs : Array Value} (hq : l[i]? = some (hB g t cs)) : Blk W g t cs := by
 obtain ⟨F, hF⟩ := h.get i hq
 exact hF.2
theorem St.size (h : St w F0 l W) : w.heap.size ≤ W.heap.size := h.1.size
theorem St.frame (h : St w F0 (l0 ++ l) W) : ∃ F1 : Nat → Prop, Star l0 W F1 ∧ (∀ b, F1 b → (F0 b ∨ w.heap.size ≤ b) ∧ b < W.heap.size) ∧ ∀ l' W', St W F1 l' W' → St w F0 (l' ++ l) W' := by
 obtain ⟨F1, F2, a1, a2, a3, a4, a5⟩ := h.2.split
 refine ⟨fun b => F1 b ∧ b < W.heap.size, a1.lt, fun b hb => ⟨a3 b hb.1, hb.2⟩, fun l' W' h' => ⟨Upd.trans h.1 h'.1 (fun _ _ q => q) (fun b hb q => (a3 b q.1).resolve_right kO), ?_⟩⟩
 have hs := h.1.size
 refine Star.append _ (fun b => F2 b ∧ b < W.heap.size) h'.2 (a2.lt.same (fun b hb => h'.1.block b hb.2 (fun q => a5 b q.1 hb.1))) (fun b hb => ?_) (fun b hb => a4 b hb.1) (fun b hb q => ?_)
 ·rcases hb with hb | hb
  ·exact a3 b hb.1
  ·right; omega
 ·rcases hb with hb | hb
  ·exact a5 b hb.1 q.1
  ·have := q.2; omega
theorem St.call (h : St w F0 l W) (k : St W No l' W') : St w F0 (l' ++ l) W' := by
 have h2 : St w F0 ([] ++ l) W := h
 obtain ⟨F1, _, _, h3⟩ := h2.frame
 exact h3 l' W' ⟨k.1.mono (fun _ _ q => q.elim), k.2.mono (fun b hb => hb.elim (fun q => q.elim) .inr)⟩
theorem St.no (h : St w F0 l W) (hu : Upd No W W') : St w F0 l W' := h.call (l' := []) ⟨hu, Star.nil⟩
theorem St.new (h : St w F0 l W) (hu : Upd No W W') (hq : q.p W' (New W)) : St w F0 (q :: l) W' := h.call (l' := [q]) ⟨hu, (Star.one hq).mono fun _ hb => .inr hb⟩
theorem St.news (h : St w F0 l W) (hu : Upd No W W') (hq : Star l' W' (New W)) : St w F0 (l' ++ l) W' := h.call ⟨hu, hq.mono fun _ hb => .inr hb⟩
theorem St.drew (h : St w F0 l W) : St w F0 l W.drew := h.no (Upd.refl _ _).drew
theorem St.alloc (h : St w F0 l W) (t : Nat) (cs : Array Value) : St w F0 (hB W.heap.size t cs :: l) (W.alloc (.cells cs t)) := h.new ((Upd.refl _ _).alloc _) ⟨Nat.le_refl _, Blk.new _ _ _⟩
theorem St.turn (h : St w F0 (q :: l) W) : ∃ F1 : Nat → Prop, q.p W F1 ∧ (∀ b, F1 b → (F0 b ∨ w.heap.size ≤ b) ∧ b < W.heap.size) ∧ ∀ q' W', Upd F1 W W' → q'.p W' (fun b => F1 b ∨ W.heap.size ≤ b) → St w F0 (q' :: l) W' := by
 obtain ⟨F1, a1, a2, a3⟩ := St.frame (l0 := [q]) (l := l) h
 refine ⟨F1, ?_, a2, fun q' W' hu hq => a3 [q'] W' ⟨hu, Star.one hq⟩⟩
 obtain ⟨Fs, b1, _, b3⟩ := a1
 exact q.mono (b1 0) (b3 0 q rfl)
theorem St.fin1 (h : St w No [q] W) : q.p W (New w) ∧ Upd No w W := by
 obtain ⟨h1, Fs, b1, _, b3⟩ := h
 exact ⟨q.mono (fun b hb => (b1 0 b hb).resolve_left (fun z => z)) (b3 0 q rfl), h1⟩
end
def Cat (W : World) (a : Addr) (cs : List Value) : Prop := ∀ j u, cs[j]? = some u → W.cell? (a.add j) = some u
theorem add_add' (a : Addr) (m k : Nat) : (a.add m).add k = a.add (m + k) := by
 unfold Addr.add
 by_cases hm : m = 0 <;> by_cases hk : k = 0 <;> simp [hm, hk, Nat.add_assoc]
theorem Blk.at' {W : World} {g t : Nat} {cs : Array Value} (h : Blk W g t cs) : Cat W ⟨g, 0, none⟩ cs.toList := fun j u hu => by
 rw [add_plain, h.cell]
 simpa using hu
theorem Cat.cell {W : World} {a : Addr} {cs : List Value} (h : Cat W a cs) (k : Nat) {v : Value} (hv : cs[k]? = some v) : W.cell? (a.add k) = some v := h k v hv
theorem Cat.sub {W : World} {a : Addr} {cs sub : List Value} (h : Cat W a cs) (k m : Nat) (hs : (cs.drop k).take m = sub) : Cat W (a.add k) sub := fun j u hu => by
 subst hs
 rw [add_add']
 refine h (k + j) u ?_
 rw [List.getElem?_take] at hu
 split at hu
 ·rwa [List.getElem?_drop] at hu
 ·simp at hu
theorem Cat.upd {W W' : World} {a : Addr} {cs : List Value} (h : Cat W a cs) (hu : Upd No W W') : Cat W' a cs := fun j u hj => hu.read (h j u hj)
theorem C_elem {α : Type} {d : Kn α} {W : World} {A : Option Addr} {xs : List α} (h : C d W A xs) (i : Nat) (hi : i < xs.length) : ∃ ad cs, A = some ad ∧ d.K W xs[i] cs ∧ Cat W (ad.add (i * d.sz)) cs := by
 obtain ⟨ad, c, h1, _, h3, h4⟩ := C_get h i hi
 exact ⟨ad, c, h1, h3, fun j u hu => by rw [add_add']; exact h4 j u hu⟩
def aX (n : Nat) (x : Nat → Value) (live : List (Nat × Value)) : Act := ⟨((List.range n).map fun i => (live.lookup i).getD (x i)).toArray, []⟩
def evl (n : Nat) (live : List (Nat × Value)) : Operand → Option Value
 | .tmp t => if t < n then live.lookup t else none
 | .const v => some v
 | .func f => some (.func (.func f) #[] #[])
 | .global g => some (.pointer (some ⟨g, 0, none⟩))
section
variable {n : Nat} {x : Nat → Value} {live live' : List (Nat × Value)}
theorem dM {y : Operand} {v : Value} (h : evl n live y = some v) : (aX n x live).eval y = v := by
 cases y with
 | tmp t =>
  simp only [evl] at h
  split at h
  ·rename_i ht
   simp [Act.eval, aX, ht, h]
  ·cases h
 | const u => exact Option.some.inj h
 | func f => exact Option.some.inj h
 | global g => exact Option.some.inj h
theorem evls_list : ∀ (a : List Operand) (b : List Value), a.map (evl n live) = b.map some → a.map (aX n x live).eval = b
 | [], [], _ => rfl
 | [], _ :: _, q => by cases q
 | _ :: _, [], q => by cases q
 | y :: a, u :: b, q => by
  simp only [List.map_cons, List.cons.injEq] at q
  rw [List.map_cons, evls_list a b q.2, dM q.1]
theorem evls_ok {ys : Array Operand} {vs : Array Value} (h : ys.toList.map (evl n live) = vs.toList.map some) : ys.map (aX n x live).eval = vs := by
 rw [← Array.toList_inj, Array.toList_map]
 exact evls_list _ _ h
theorem iE {d : Nat} (_hd : d < n) (v : Value) : (aX n x live).put (some d) v = aX n x ((d, v) :: live) := by
 unfold Act.put aX
 simp only [Act.mk.injEq, and_true]
 apply Array.ext
 ·simp
 ·intro i h1 h2
  simp only [Array.size_setIfInBounds, List.size_toArray, List.length_map, List.length_range] at h1
  simp only [List.getElem_toArray, List.getElem_map, List.getElem_range, List.lookup_cons]
  by_cases e : d = i
  ·subst e
   simp
  ·simp [e, show (i == d) = false from by simp; omega]
theorem actOf_drop (h : ∀ k v, (k, v) ∈ live' → live.lookup k = some v) : ∃ x', aX n x live = aX n x' live' := by
 refine ⟨fun i => (live.lookup i).getD (x i), ?_⟩
 unfold aX
 congr 3
 funext i
 cases e : live'.lookup i with
 | none => rfl
 | some v =>
  have : (i, v) ∈ live' := by
   clear h
   induction live' with
   | nil => cases e
   | cons p l ih =>
    obtain ⟨k, u⟩ := p
    rw [List.lookup_cons] at e
    by_cases hk : i = k
    ·subst hk
     simp at e
     subst e
     exact List.mem_cons_self
    ·have hk' : (i == k) = false := by simp [hk]
     rw [hk'] at e
     exact List.mem_cons_of_mem _ (ih e)
  rw [h i v this]
  rfl
end
section
variable {P : Program} {ops : Array Oper} {Q : Exit → Act → World → Prop} {K : Act → World → Prop} {n i d ty : Nat} {x : Nat → Value} {live : List (Nat × Value)} {W w : World} {F0 : Nat → Prop} {l l' : List HP} {pos : String} {aft : Array Edge} {v : Value} {y z : Operand}
theorem op_ok {o : Oper} {a : Act} (ho : ops[i]? = some o) (hg : o.guard = none) (h : o.wp P a W K Q) : wpOp P ops Q i K a W := by
 unfold wpOp
 simp only [ho]
 rw [if_pos (by simp [Region.wanted, hg])]
 exact .inl h
def Rn (P : Program) (o : Oper) (a : Act) (W : World) (v : Value) : Prop := (execOp a.eval o).run P W = .ok (.value v) W
theorem aC {dst : Option Nat} {op : Op} (ho : ops[i]? = some ⟨dst, op, ty, pos, aft, none⟩) (hr : Rn P ⟨dst, op, ty, pos, aft, none⟩ (aX n x live) W v) (hd : dst = some d) (hdn : decide (d < n) = true) (h : K (aX n x ((d, v) :: live)) W) : wpOp P ops Q i K (aX n x live) W := by
 subst hd
 refine op_ok ho rfl ?_
 unfold Oper.wp
 rw [hr]
 simp only [Oper.upon]
 rw [iE (of_decide_eq_true hdn)]
 exact h
theorem aH {dst : Option Nat} (hx : evl n live y = some v) : Rn P ⟨dst, .move y, ty, pos, aft, none⟩ (aX n x live) W v := by
 unfold Rn
 simp [execOp, dM hx]
theorem aN {dst : Option Nat} (hx : evl n live y = some v) : Rn P ⟨dst, .assign y, ty, pos, aft, none⟩ (aX n x live) W v := by
 unfold Rn
 simp [execOp, dM hx]
def FieldAt (P : Program) (s f off : Nat) : Prop := ∀ (a : Addr) (W : World), (Instr.fieldAt s (.pointer (some a)) f).run P W = .ok (.pointer (some (a.add off))) W
theorem aZ {dst : Option Nat} {s f off : Nat} {a : Addr} (hf : FieldAt P s f off) (hx : evl n live y = some (.pointer (some a))) : Rn P ⟨dst, .fieldAddr s y f, ty, pos, aft, none⟩ (aX n x live) W (.pointer (some (a.add off))) := by
 unfold Rn
 simp [execOp, dM hx, hf a W]
theorem rn_load {dst : Option Nat} {t : Nat} {a : Addr} (hA : ∀ w, (isAgg t).run P w = .ok false w) (hx : evl n live y = some (.pointer (some a))) (hc : W.cell? a = some v) : Rn P ⟨dst, .load t y, ty, pos, aft, none⟩ (aX n x live) W v := by
 unfold Rn
 simp [execOp, dM hx, Instr.loadAt, Instr.sureAddr, loadVar, hA, run_load, hc]
theorem lD {dst : Option Nat} {t m : Nat} {a : Addr} {cs : List Value} (hA : ∀ w, (isAgg t).run P w = .ok true w) (hS : ∀ w, (sizeOf t).run P w = .ok m w) (hx : evl n live y = some (.pointer (some a))) (hc : Cat W a cs) (hm : cs.length = m) : Rn P ⟨dst, .load t y, ty, pos, aft, none⟩ (aX n x live) W (.agg cs.toArray) := by
 subst hm
 unfold Rn
 simp [execOp, dM hx, Instr.loadAt, Instr.sureAddr, loadVar, hA, hS, run_loadCells_list (P := P) W a cs hc]
theorem rn_index {dst : Option Nat} {t e sz k len cap : Nat} {ad : Addr} (hu : ∀ w, (underlying t).run P w = .ok (.slice e) w) (hS : ∀ w, (sizeOf e).run P w = .ok sz w) (hx : evl n live y = some (.slice (some ad) len cap)) (hz : evl n live z = some (.int .i64 k)) (hk : k < len) : Rn P ⟨dst, .indexAddr t y z, ty, pos, aft, none⟩ (aX n x live) W (.pointer (some (ad.add (k * sz)))) := by
 unfold Rn
 have h1 : (0 : Int) ≤ (k : Int) ∧ (k : Int) < (len : Int) := by omega
 simp [execOp, dM hx, dM hz, Instr.indexAt, asIntOf, hu, hS, h1]
 intro hle
 omega
theorem rn_len {dst : Option Nat} {t e len cap : Nat} {A : Option Addr} (hu : ∀ w, (underlying t).run P w = .ok (.slice e) w) (hx : evl n live y = some (.slice A len cap)) : Rn P ⟨dst, .call { callee := .builtin .len, args := #[y], argTypes := #[t] }, ty, pos, aft, none⟩ (aX n x live) W (.int .i64 len) := by
 unfold Rn
 simp [execOp, dM hx, resolve, invoke, builtin, Builtin.len_, hu, goInt]
theorem rn_cmp {dst : Option Nat} {b : Bool} {op : BinOp} {xt yt : Nat} {p q : Int} (hx : evl n live y = some (.int .i64 p)) (hz : evl n live z = some (.int .i64 q)) (hb : binOp op xt (.int .i64 p) (.int .i64 q) = pure (.bool b)) : Rn P ⟨dst, .binOp op xt y z yt, ty, pos, aft, none⟩ (aX n x live) W (.bool b) := by
 unfold Rn
 simp [execOp, dM hx, dM hz, eqGuard_at_int, hb]
theorem rn_arith {dst : Option Nat} {op : BinOp} {xt yt : Nat} {p q r : Int} (hx : evl n live y = some (.int .i64 p)) (hz : evl n live z = some (.int .i64 q)) (hb : binOp op xt (.int .i64 p) (.int .i64 q) = pure (.int .i64 r)) : Rn P ⟨dst, .binOp op xt y z yt, ty, pos, aft, none⟩ (aX n x live) W (.int .i64 r) := by
 unfold Rn
 simp [execOp, dM hx, dM hz, eqGuard_at_int, hb]
theorem rn_not {dst : Option Nat} {b : Bool} {xt : Nat} (hx : evl n live y = some (.bool b)) : Rn P ⟨dst, .unOp .not xt y, ty, pos, aft, none⟩ (aX n x live) W (.bool (!b)) := by
 unfold Rn
 simp [execOp, dM hx, Op.unary]
theorem rn_nilCheck {dst : Option Nat} {a : Addr} (hx : evl n live y = some (.pointer (some a))) : Rn P ⟨dst, .nilCheck y, ty, pos, aft, none⟩ (aX n x live) W (.pointer (some a)) := by
 unfold Rn
 simp [execOp, dM hx]
theorem eF {dst : Option Nat} {f : FuncId} {ys : Array Operand} {tys : Array Nat} {vs : Array Value} {R : Ending → World → Prop} (ho : ops[i]? = some ⟨dst, .call { callee := .value (.func f), args := ys, argTypes := tys }, ty, pos, aft, none⟩) (hf : ∀ us w, (callFunc f us).run P w = .ok (.enter f us) w) (hv : ys.toList.map (evl n live) = vs.toList.map some) (hd : dst = some d) (hdn : decide (d < n) = true) (hc : Calls P f vs W R) (h : ∀ e W', R e W' → ∃ v, e = .returned v ∧ K (aX n x ((d, v) :: live)) W') : wpOp P ops Q i K (aX n x live) W := by
 subst hd
 refine op_ok ho rfl ?_
 have e : ys.map (aX n x live).eval = vs := evls_ok hv
 have hrun : (execOp (aX n x live).eval ⟨some d, .call { callee := .value (.func f), args := ys, argTypes := tys }, ty, pos, aft, none⟩).run P W = .ok (.enter f vs) W := by
  simp [execOp, resolve, Act.eval, Deferred.ofValue, invoke, e, hf]
 unfold Oper.wp
 rw [hrun]
 simp only [Oper.upon]
 refine hc.mono fun e' W' hR => ?_
 obtain ⟨u, rfl, hk⟩ := h e' W' hR
 show K ((aX n x live).put (some d) u) W'
 rw [iE (of_decide_eq_true hdn)]
 exact hk
theorem nI {dst : Option Nat} {t : Nat} {z : Value} (ho : ops[i]? = some ⟨dst, .alloc t, ty, pos, aft, none⟩) (hz : ∀ w, (zeroValue t).run P w = .ok z w) (hd : dst = some d) (hdn : decide (d < n) = true) (H : St w F0 l W) (h : ∀ g W', Upd No W W' → St w F0 (hB g t z.cells :: l) W' → K (aX n x ((d, .pointer (some ⟨g, 0, none⟩)) :: live)) W') : wpOp P ops Q i K (aX n x live) W := by
 subst hd
 refine op_ok ho rfl ?_
 have hrun : (execOp (aX n x live).eval ⟨some d, .alloc t, ty, pos, aft, none⟩).run P W = .ok (.value (.pointer (some ⟨W.heap.size, 0, none⟩))) (W.alloc (.cells z.cells t)) := by
  simp [execOp, Instr.alloc, hz, newVar, newRow]
 unfold Oper.wp
 rw [hrun]
 simp only [Oper.upon]
 rw [iE (of_decide_eq_true hdn)]
 exact h _ _ ((Upd.refl _ _).alloc _) (H.alloc t z.cells)
theorem op_box {dst : Option Nat} {t : Nat} (ho : ops[i]? = some ⟨dst, .box t y, ty, pos, aft, none⟩) (hx : evl n live y = some v) (hd : dst = some d) (hdn : decide (d < n) = true) (H : St w F0 l W) (h : ∀ g W', Upd No W W' → St w F0 (hB g t v.cells :: l) W' → K (aX n x ((d, .pointer (some ⟨g, 0, none⟩)) :: live)) W') : wpOp P ops Q i K (aX n x live) W := by
 subst hd
 refine op_ok ho rfl ?_
 have hrun : (execOp (aX n x live).eval ⟨some d, .box t y, ty, pos, aft, none⟩).run P W = .ok (.value (.pointer (some ⟨W.heap.size, 0, none⟩))) (W.alloc (.cells v.cells t)) := by
  simp [execOp, dM hx, Instr.box, newVar, newRow]
 unfold Oper.wp
 rw [hrun]
 simp only [Oper.upon]
 rw [iE (of_decide_eq_true hdn)]
 exact h _ _ ((Upd.refl _ _).alloc _) (H.alloc t v.cells)
def put (cs : Array Value) (k : Nat) (vs : List Value) : Array Value := (cs.toList.take k ++ vs ++ cs.toList.drop (k + vs.length)).toArray
theorem op_store {t g tb k m : Nat} {cs : Array Value} (ho : ops[i]? = some ⟨none, .store t y z, ty, pos, aft, none⟩) (hS : ∀ w, (sizeOf t).run P w = .ok m w) (hx : evl n live y = some (.pointer (some (Addr.add ⟨g, 0, none⟩ k)))) (hz : evl n live z = some v) (hm : v.cells.size = m) (hk : k + m ≤ cs.size) (h1 : ∀ u ∈ v.cells.toList, u.oneCell' = true) (H : St w F0 (hB g tb cs :: l) W) (h : ∀ W', Upd (fun b => b = g) W W' → St w F0 (hB g tb (put cs k v.cells.toList) :: l) W' → K (aX n x live) W') : wpOp P ops Q i K (aX n x live) W := by
 have hb : Blk W g tb cs := H.blk 0 rfl
 refine op_ok ho rfl ?_
 subst hm
 have hst := run_storeCells_at P g k tb v.cells.toList 0 cs W hb (by simp; omega) h1
 rw [add_plain] at hx
 have hrun : (execOp (aX n x live).eval ⟨none, .store t y z, ty, pos, aft, none⟩).run P W = .ok .skip (W.setRow g (put cs k v.cells.toList)) := by
  simp only [execOp, dM hx, dM hz, Instr.storeAt, Instr.sureAddr, storeVar, Sem.run_bind, Sem.run_pure, Result.andThen_ok, hS, ne_eq, not_true, if_false]
  have := hst
  simp only [Nat.add_zero] at this
  rw [this]
  rfl
 unfold Oper.wp
 rw [hrun]
 simp only [Oper.upon]
 have hB' : Blk (W.setRow g (put cs k v.cells.toList)) g tb (put cs k v.cells.toList) := setRow_heap W g cs _ tb (0, 0) hb
 have hU : Upd (fun b => b = g) W (W.setRow g (put cs k v.cells.toList)) := by
  refine ⟨rfl, rfl, rfl, by simp [World.setRow], fun b hb' hF => ?_⟩
  simp only [World.setRow, Array.getElem?_modify]
  rw [if_neg (fun e => hF e.symm)]
 refine h _ hU ?_
 obtain ⟨F1, a1, a2, a3⟩ := H.turn
 exact a3 _ _ (hU.mono (fun b _ e => e ▸ a1.1)) ⟨.inl a1.1, hB'⟩
theorem op_store0 {t g tb m : Nat} {cs : Array Value} (ho : ops[i]? = some ⟨none, .store t y z, ty, pos, aft, none⟩) (hS : ∀ w, (sizeOf t).run P w = .ok m w) (hx : evl n live y = some (.pointer (some ⟨g, 0, none⟩))) (hz : evl n live z = some v) (hm : v.cells.size = m) (hk : m ≤ cs.size) (h1 : ∀ u ∈ v.cells.toList, u.oneCell' = true) (H : St w F0 (hB g tb cs :: l) W) (h : ∀ W', Upd (fun b => b = g) W W' → St w F0 (hB g tb (put cs 0 v.cells.toList) :: l) W' → K (aX n x live) W') : wpOp P ops Q i K (aX n x live) W :=
 op_store (k := 0) ho hS hx hz hm kO h1 H h
theorem aL {id : Nat} {a : Act} (is : List Nat) (hl : List.range ops.size = is) (h : wpOps P ops Q is a W) : (Code.region id ops false).wp P Q a W := wp_region (hl ▸ h)
theorem aA {a : Act} {rest : List Nat} (h : wpOp P ops Q i (wpOps P ops Q rest) a W) : wpOps P ops Q (i :: rest) a W := by
 rw [wpOps_cons]
 exact h
theorem aJ {a : Act} (h : Q .normal a W) : wpOps P ops Q [] a W := h
theorem aG {a : Act} (h : K a W) : Exit.then K Q .normal a W := h
theorem inB_n {a : Act} {id : Nat} (h : Q .normal a W) : Exit.inBlock id Q .normal a W := h
theorem inB_x {a : Act} {id : Nat} (h : Q .normal a W) : Exit.inBlock id Q (.exit id) a W := by
 show (if id = id then Q .normal a W else Q (.exit id) a W)
 rw [if_pos rfl]
 exact h
theorem jP {c1 c2 : Code} {p : Prop} [Decidable p] (hc : evl n live y = some (.bool (decide p))) (ht : p → c1.wp P Q (aX n x live) W) (hf : ¬ p → c2.wp P Q (aX n x live) W) : (Code.cond y c1 c2).wp P Q (aX n x live) W := by
 by_cases hp : p
 ·exact wp_cond_true (by rw [dM hc, decide_eq_true hp]) (ht hp)
 ·exact wp_cond_false (by rw [dM hc, decide_eq_false hp]) (hf hp)
theorem cond_t {c1 c2 : Code} (hc : evl n live y = some (.bool true)) (ht : c1.wp P Q (aX n x live) W) : (Code.cond y c1 c2).wp P Q (aX n x live) W := wp_cond_true (dM hc) ht
theorem iY {c1 c2 : Code} (hc : evl n live y = some (.bool false)) (ht : c2.wp P Q (aX n x live) W) : (Code.cond y c1 c2).wp P Q (aX n x live) W := wp_cond_false (dM hc) ht
theorem enter {f : FuncId} {fn : Func} {c : Code} {args : Array Value} {R : Ending → World → Prop} (n : Nat) (live : List (Nat × Value)) (hf : P.funcs[f]? = some fn) (hb : fn.body = some c) (ha : (⟨args ++ Array.replicate (fn.ntmps - args.size) undef, []⟩ : Act) = aX n (fun _ => undef) live) (h : ∀ x, c.wp P (bodyPost P fn R) (aX n x live) w) : Calls P f args w R :=
 calls_of_wp hf hb (ha ▸ h _)
theorem gJ {fn : Func} {e : Exit} {t : Nat} {R : Ending → World → Prop} (he : e = .ret ∨ e = .normal) (hr : fn.results = #[.tmp t]) (hx : evl n live (.tmp t) = some v) (h : R (.returned v) W) : bodyPost P fn R e (aX n x live) W := by
 have e2 : (aX n x live).tmps.getD t undef = v := dM (y := .tmp t) hx
 have hrun : (results fn (aX n x live).tmps).run P W = .ok v W := by
  simp only [results, hr]
  simp at e2
  simp [e2]
 rcases he with rfl | rfl <;> exact ⟨rfl, v, hrun, h⟩
end
section
variable {P : Program} {ops : Array Oper} {Q : Exit → Act → World → Prop} {md : Region.Mode} {S : World → Prop} {t : Nat}
def wpAnyS (P : Program) (md : Region.Mode) (ops : Array Oper) (Q : Exit → Act → World → Prop) (S : World → Prop) (t : Nat) : Nat → Array Bool → Act → World → Prop
 | 0, listed, a, w => Region.ready md ops listed = [] ∧ Q .normal a w
 | fuel + 1, listed, a, w =>
  (Region.ready md ops listed = [] → Q .normal a w) ∧
  ∀ i ∈ Region.ready md ops listed, wpOp P ops Q i (fun a' w' => ((listed.setIfInBounds i true).getD t false = false → S w') ∧ wpAnyS P md ops Q S t fuel (listed.setIfInBounds i true) a' w') a w
theorem wpAny_of_S : ∀ (fuel : Nat) (listed : Array Bool) (a : Act) (w : World), wpAnyS P md ops Q S t fuel listed a w → wpAny P md ops Q fuel listed a w
 | 0, _, _, _, h => h
 | fuel + 1, _, _, _, h => ⟨h.1, fun i hi => wpOp_mono (fun a' w' h' => wpAny_of_S fuel _ a' w' h'.2) (h.2 i hi)⟩
def waits (md : Region.Mode) (ops : Array Oper) (t i : Nat) : Bool := i != t && (match ops[t]? with | none => true | some o => o.after.any fun e => Region.binds md e && e.on == i)
theorem anyS_first {i : Nat} {oi : Oper} {v : Value} (hi : ops[i]? = some oi) (hsel : ∀ (j : Nat) (o : Oper) cs b, ops[j]? = some o → o.op ≠ .select cs b) (hw : waits md ops t i = true)
 (hQ : ∀ c a w, Q (.panic c) (a.put oi.dst v) w → Q (.panic c) a w) :
 ∀ (fuel : Nat) (listed : Array Bool) (a : Act) (w : World),
  (∀ j oj, ops[j]? = some oj → j ≠ i → listed.getD j true = false → (∀ e ∈ oj.after, Region.binds md e = true → e.on ≠ i) → oi.apart ops oj = true) →
  i ∈ Region.ready md ops listed → YieldsIf P ops S oi v a → S w → listed.getD t false = false →
  wpAnyS P md ops Q S t fuel (listed.setIfInBounds i true) (a.put oi.dst v) w → wpAnyS P md ops Q S t (fuel + 1) listed a w := by
 simp only [waits, Bool.and_eq_true, bne_iff_ne, ne_eq] at hw
 obtain ⟨hit, hw⟩ := hw
 intro fuel
 induction fuel with
 | zero =>
  intro listed a w _ hr hy hS ht H
  refine ⟨fun h => (by rw [h] at hr; cases hr), fun j hj => ?_⟩
  by_cases hji : j = i
  ·subst hji; exact hy.wpOp hi hS ⟨fun _ => hS, H⟩
  ·have := ready_mono hj hji
   rw [H.1] at this
   cases this
 | succ fuel ih =>
  intro listed a w hfree hr hy hS ht H
  refine ⟨fun h => (by rw [h] at hr; cases hr), fun j hj => ?_⟩
  by_cases hji : j = i
  ·subst hji; exact hy.wpOp hi hS ⟨fun _ => hS, H⟩
  ·have h1 := H.2 j (ready_mono hj hji)
   obtain ⟨hjun, oj, hoj, hall⟩ := mem_ready.1 hj
   have hnot : ∀ e ∈ oj.after, Region.binds md e = true → e.on ≠ i := fun e he hb heq => by
    have h1 := hall e he hb
    have h0 := (mem_ready.1 hr).1
    rw [heq] at h1
    rcases Nat.lt_or_ge i listed.size with h' | h'
    ·simp [h'] at h0 h1; rw [h0] at h1; cases h1
    ·simp [Array.getElem?_eq_none h'] at h1
   have hjt : j ≠ t := by
    rintro rfl
    rw [hoj] at hw
    obtain ⟨e, he, hb⟩ := Array.any_eq_true'.1 hw
    simp only [Bool.and_eq_true, beq_iff_eq] at hb
    exact hnot e he hb.1 hb.2
   have ht' : (listed.setIfInBounds j true).getD t false = false := by rw [getD_set_ne false hjt]; exact ht
   have h2 := wpOp_putIf hoj (hfree j oj hoj hji hjun hnot) (fun cs b => hsel i oi cs b hi) (fun cs b => hsel j oj cs b hoj) hQ hy h1
   have hfree' : ∀ k ok, ops[k]? = some ok → k ≠ i → (listed.setIfInBounds j true).getD k true = false →
    (∀ e ∈ ok.after, Region.binds md e = true → e.on ≠ i) → oi.apart ops ok = true := fun k ok hk hki hun hno => by
    refine hfree k ok hk hki ?_ hno
    by_cases hjk : j = k
    ·subst hjk; exact hjun
    ·rw [getD_set_ne true hjk] at hun; exact hun
   have ht2 : ((listed.setIfInBounds i true).setIfInBounds j true).getD t false = false := by rw [getD_set_ne false hjt, getD_set_ne false hit]; exact ht
   refine wpOp_mono (fun a' w' h3 => ⟨fun _ => h3.2.1 ht2, ih (listed.setIfInBounds j true) a' w' hfree' (ready_mono hr (Ne.symm hji)) h3.1 (h3.2.1 ht2) ht' ?_⟩) h2
   rw [Array.setIfInBounds_comm _ _ hji]
   exact h3.2.2
theorem aD {i d n : Nat} {x : Nat → Value} {live : List (Nat × Value)} {dst : Option Nat} {op : Op} {ty : Nat} {pos : String} {aft : Array Edge} {v : Value} {fuel : Nat} {listed : Array Bool} {w : World} (hi : ops[i]? = some ⟨dst, op, ty, pos, aft, none⟩)
 (hs : Region.noSelect ops = true) (hf : Region.free md ops listed i = true) (hr : (Region.ready md ops listed).contains i = true) (hw : waits md ops t i = true) (ht : listed.getD t false = false)
 (hQ : ∀ c a w, Q (.panic c) (a.put dst v) w → Q (.panic c) a w) (hd : dst = some d) (hdn : decide (d < n) = true) (hS : S w) (hy : ∀ W, S W → Rn P ⟨dst, op, ty, pos, aft, none⟩ (aX n x live) W v)
 (h : wpAnyS P md ops Q S t fuel (listed.setIfInBounds i true) (aX n x ((d, v) :: live)) w) : wpAnyS P md ops Q S t (fuel + 1) listed (aX n x live) w := by
 subst hd
 exact anyS_first hi (Region.noSelect_spec hs) hw hQ fuel listed _ w (Region.free_spec hi hf) (by simpa using hr) (.inl ⟨rfl, hy⟩) hS ht (by rw [iE (of_decide_eq_true hdn)]; exact h)
theorem jB {i : Nat} {fuel : Nat} {listed : Array Bool} {a : Act} {w : World} (hr : Region.ready md ops listed = [i])
 (h : wpOp P ops Q i (fun a' w' => ((listed.setIfInBounds i true).getD t false = false → S w') ∧ wpAnyS P md ops Q S t fuel (listed.setIfInBounds i true) a' w') a w) : wpAnyS P md ops Q S t (fuel + 1) listed a w :=
 ⟨fun h0 => (by rw [hr] at h0; cases h0), fun j hj => (by rw [hr] at hj; rw [List.mem_singleton.1 hj]; exact h)⟩
theorem gF {listed : Array Bool} {a : Act} {w : World} (hr : Region.ready md ops listed = []) (h : Q .normal a w) : ∀ fuel, wpAnyS P md ops Q S t fuel listed a w
 | 0 => ⟨hr, h⟩
 | _ + 1 => ⟨fun _ => h, by rw [hr]; simp⟩
theorem gV {id : Nat} {a : Act} {w : World} (S : World → Prop) (t : Nat) (hm : P.follows .mixedOrders = true) (h : wpAnyS P .any ops Q S t ops.size (Array.replicate ops.size false) a w.drew) : (Code.region id ops true).wp P Q a w :=
 wp_region_any hm (wpAny_of_S _ _ _ _ h)
end
section
variable {P : Program} {ops : Array Oper} {Q : Exit → Act → World → Prop} {K : Act → World → Prop} {n i d ty : Nat} {x : Nat → Value} {live : List (Nat × Value)} {W w : World} {F0 : Nat → Prop} {l l' : List HP} {pos : String} {aft : Array Edge} {v : Value} {y z : Operand}
section
variable {dst : Option Nat} {xt yt : Nat} {p q : Int} (hx : evl n live y = some (.int .i64 p)) (hz : evl n live z = some (.int .i64 q))
include hx hz
theorem lV : Rn P ⟨dst, .binOp .lss xt y z yt, ty, pos, aft, none⟩ (aX n x live) W (.bool (decide (p < q))) := rn_cmp hx hz (by simp [binOp, Op.intCmp])
theorem jC : Rn P ⟨dst, .binOp .eql xt y z yt, ty, pos, aft, none⟩ (aX n x live) W (.bool (decide (p = q))) := rn_cmp hx hz (by
 by_cases e : p = q
 ·simp [binOp, Op.intCmp, e]
 ·have e' : (p == q) = false := beq_eq_false_iff_ne.2 e
  simp [binOp, Op.intCmp, e', e])
theorem rn_neq : Rn P ⟨dst, .binOp .neq xt y z yt, ty, pos, aft, none⟩ (aX n x live) W (.bool (decide (¬ p = q))) := rn_cmp hx hz (by
 by_cases e : p = q
 ·simp [binOp, Op.intCmp, e]
 ·have e' : (p == q) = false := beq_eq_false_iff_ne.2 e
  simp [binOp, Op.intCmp, bne, e', e])
theorem rn_addW : Rn P ⟨dst, .binOp .add xt y z yt, ty, pos, aft, none⟩ (aX n x live) W (.int .i64 (IntKind.i64.wrap (p + q))) := rn_arith hx hz (by simp [binOp, Op.intArith])
end
theorem wrap_id {p : Int} (h : -9223372036854775808 ≤ p ∧ p ≤ 9223372036854775807) : IntKind.i64.wrap p = p := (IntWalk.i64_left p).trans (IntWalk.wrap64_in _ h)
theorem rn_add {dst : Option Nat} {xt yt : Nat} {p q : Int} (hx : evl n live y = some (.int .i64 p)) (hz : evl n live z = some (.int .i64 q)) (hb : -9223372036854775808 ≤ p + q ∧ p + q ≤ 9223372036854775807) : Rn P ⟨dst, .binOp .add xt y z yt, ty, pos, aft, none⟩ (aX n x live) W (.int .i64 (p + q)) := by
 have := rn_addW (P := P) (dst := dst) (ty := ty) (pos := pos) (aft := aft) (x := x) (W := W) (xt := xt) (yt := yt) hx hz
 rwa [wrap_id hb] at this
theorem jJ {dst : Option Nat} {xt yt k : Nat} (hx : evl n live y = some (.int .i64 (k : Int))) (hz : evl n live z = some (.int .i64 1)) (hb : k < 9223372036854775807) : Rn P ⟨dst, .binOp .add xt y z yt, ty, pos, aft, none⟩ (aX n x live) W (.int .i64 ((k + 1 : Nat) : Int)) := by
 have := rn_add (P := P) (dst := dst) (ty := ty) (pos := pos) (aft := aft) (x := x) (W := W) (xt := xt) (yt := yt) hx hz kO
 simpa using this
theorem fZ {dst : Option Nat} {c : Operand} {b : Bool} {u1 u2 : Value} (hc : evl n live c = some (.bool b)) (hx : evl n live y = some u1) (hz : evl n live z = some u2) (hv : v = if b then u1 else u2) : Rn P ⟨dst, .pick c y z, ty, pos, aft, none⟩ (aX n x live) W v := by
 unfold Rn
 subst hv
 cases b <;> simp [execOp, dM hc, dM hx, dM hz, asBool]
theorem fill_all (vs cs : Array Value) (h : vs.size = cs.size) : vs.zipIdx.foldl (fun cs (c, j) => cs.setIfInBounds (0 + j) c) cs = vs := by
 have key : ∀ (l : List Value) (k : Nat) (cs : Array Value), k + l.length = cs.size → (l.zipIdx k).foldl (fun cs (p : Value × Nat) => cs.setIfInBounds (0 + p.2) p.1) cs = (cs.toList.take k ++ l).toArray := by
  intro l
  induction l with
  | nil =>
   intro k cs hk
   simp only [List.zipIdx_nil, List.foldl_nil, List.append_nil]
   rw [List.take_of_length_le (by simp at hk ⊢; omega)]
  | cons a l ih =>
   intro k cs hk
   rw [List.zipIdx_cons, List.foldl_cons, ih (k + 1) _ (by simp at hk ⊢; omega)]
   congr 1
   simp only [Nat.zero_add, Array.toList_setIfInBounds]
   apply List.ext_getElem?
   intro j
   simp only [List.length_cons] at hk
   have hkc : k < cs.toList.length := by simp; omega
   rcases Nat.lt_trichotomy j k with hj | hj | hj
   ·rw [List.getElem?_append_left (by simp; omega), List.getElem?_append_left (by simp; omega), List.getElem?_take, List.getElem?_take, if_pos kO, if_pos hj, List.getElem?_set, if_neg kO]
   ·subst hj
    rw [List.getElem?_append_left (by simp; omega), List.getElem?_append_right (by simp; omega), List.getElem?_take, if_pos kO, List.getElem?_set, if_pos rfl, if_pos hkc]
    simp [show j - min j cs.size = 0 by omega]
   ·rw [List.getElem?_append_right (by simp; omega), List.getElem?_append_right (by simp; omega)]
    simp only [List.length_take, List.length_set, Array.length_toList]
    rw [show j - min (k + 1) cs.size = j - (k + 1) by omega, show j - min k cs.size = (j - (k + 1)) + 1 by omega, List.getElem?_cons_succ]
 have := key vs.toList 0 cs (by simpa using h)
 simp only [List.take_zero, List.nil_append, Array.toArray_toList] at this
 rw [← Array.foldl_toList, Array.toList_zipIdx]
 exact this
theorem op_slice1 {dst : Option Nat} {t e m : Nat} {z0 : Value} (ho : ops[i]? = some ⟨dst, .buildSlice t 1 #[(0, y)], ty, pos, aft, none⟩) (hu : ∀ w, (underlying t).run P w = .ok (.slice e) w) (hS : ∀ w, (sizeOf e).run P w = .ok m w) (hm : 0 < m ∧ m ≤ 4096) (hz : ∀ w, (zeroValue e).run P w = .ok z0 w) (hx : evl n live y = some v) (hv : v.cells.size = m) (hd : dst = some d) (hdn : decide (d < n) = true) (H : St w F0 l W) (h : ∀ g W', Upd No W W' → St w F0 (hB g e v.cells :: l) W' → K (aX n x ((d, .slice (some ⟨g, 0, none⟩) 1 1) :: live)) W') : wpOp P ops Q i K (aX n x live) W := by
 subst hd
 refine op_ok ho rfl ?_
 have h0 : ¬ (1 * m > 2 ^ 24) := by omega
 have h1 : ¬ (1 * m = 0) := by omega
 have hf : Instr.fill (fun i => some (i * m, m)) ((Array.range (1 * m)).map (fun k => z0.cells[k % z0.cells.size]!)) [(0, v)] = some v.cells := by
  simp only [Instr.fill, Nat.zero_mul, Nat.zero_add, hv, ne_eq, not_true, Nat.one_mul, Array.size_map, Array.size_range, gt_iff_lt, Nat.lt_irrefl]
  have := fill_all v.cells ((Array.range m).map (fun k => z0.cells[k % z0.cells.size]!)) (by simp [hv])
  simp only [Nat.zero_add] at this
  rw [this]
  simp
 have hrun : (execOp (aX n x live).eval ⟨some d, .buildSlice t 1 #[(0, y)], ty, pos, aft, none⟩).run P W = .ok (.value (.slice (some ⟨W.heap.size, 0, none⟩) 1 1)) (W.alloc (.cells v.cells e)) := by
  simp only [execOp, List.map_toArray, List.map_cons, List.map_nil, dM hx, Instr.buildSlice, Sem.run_bind, hu, hS, Result.andThen_ok, h0, if_false, h1, hz, Sem.run_pure, hf]
  simp [newRow]
 unfold Oper.wp
 rw [hrun]
 simp only [Oper.upon]
 rw [iE (of_decide_eq_true hdn)]
 exact h _ _ ((Upd.refl _ _).alloc _) (H.alloc e v.cells)
theorem op_slice0 {α : Type} {dk : Kn α} {dst : Option Nat} {t e m : Nat} (ho : ops[i]? = some ⟨dst, .buildSlice t 0 #[], ty, pos, aft, none⟩) (hu : ∀ w, (underlying t).run P w = .ok (.slice e) w) (hS : ∀ w, (sizeOf e).run P w = .ok m w) (hd : dst = some d) (hdn : decide (d < n) = true) (H : St w F0 l W) (h : ∀ A W', Upd No W W' → St w F0 (hR dk e (.slice A 0 0) [] :: l) W' → K (aX n x ((d, .slice A 0 0) :: live)) W') : wpOp P ops Q i K (aX n x live) W := by
 subst hd
 refine op_ok ho rfl ?_
 have hrun : (execOp (aX n x live).eval ⟨some d, .buildSlice t 0 #[], ty, pos, aft, none⟩).run P W = .ok (.value (.slice (some ⟨W.heap.size, 0, none⟩) 0 0)) (W.alloc (.cells #[] e)) := by
  simp [execOp, Instr.buildSlice, hu, hS, Instr.fill, newRow, Array.range_zero']
 unfold Oper.wp
 rw [hrun]
 simp only [Oper.upon]
 rw [iE (of_decide_eq_true hdn)]
 exact h _ _ ((Upd.refl _ _).alloc _) (H.new ((Upd.refl _ _).alloc _) (R_mono (F' := New W) (fun b hb => by subst hb; exact Nat.le_refl _) (R_emptyB (Blk.new _ _ _))))
theorem Rn_append {t e bytes c : Nat} {α : Type} {dk : Kn α} {F : Nat → Prop} {z0 : Value} {xs ys : List α} {A : Option Addr} {Gs : Nat → Nat → Prop} {dst : Option Nat}
 (ht : P.underlying t = some (.slice e)) (hinfo : (P.info? e).map (fun i => (i.zero, i.size, i.bytes)) = some (some z0, dk.sz, bytes)) (hz : z0.cells.size = dk.sz) (hs0 : 0 < dk.sz) (hb0 : 0 < bytes)
 (hx : evl n live y = some v) (hy : evl n live z = some (.slice A ys.length c)) (HR : R dk e W F v xs) (HC : CM dk W A ys Gs) (hd : ∀ j b, Gs j b → ¬ F b) (hd2 : ∀ i j b, Gs i b → Gs j b → i = j) (hl : (xs.length + ys.length) * bytes ≤ 140737488355328) :
 ∃ B c' W', (execOp (aX n x live).eval ⟨dst, .call { callee := .builtin .append, args := #[y, z], argTypes := #[t, t] }, ty, pos, aft, none⟩).run P W = .ok (.value (.slice B (xs.length + ys.length) c')) W' ∧ R dk e W' (fun b => F b ∨ (∃ j, j < ys.length ∧ Gs j b) ∨ W.heap.size ≤ b) (.slice B (xs.length + ys.length) c') (xs ++ ys) ∧ Upd F W W' := by
 obtain ⟨v1, w1, hrun, h1, h2⟩ := run_appAny (P := P) W t ty z0 bytes ht hinfo hz hs0 hb0 A c Gs HR HC hd hd2 hl
 obtain ⟨B, c', e'⟩ := aV h1
 rw [List.length_append] at e'
 subst e'
 exact ⟨B, c', w1, by simp [execOp, resolve, invoke, builtin, dM hx, dM hy, hrun], h1, h2⟩
theorem op_appendA {t e bytes c : Nat} {α : Type} {dk : Kn α} {z0 : Value} {xs ys : List α} {A : Option Addr} {l0 : List HP} {dst : Option Nat}
 (ho : ops[i]? = some ⟨dst, .call { callee := .builtin .append, args := #[y, z], argTypes := #[t, t] }, ty, pos, aft, none⟩)
 (ht : P.underlying t = some (.slice e)) (hinfo : (P.info? e).map (fun i => (i.zero, i.size, i.bytes)) = some (some z0, dk.sz, bytes)) (hz : z0.cells.size = dk.sz) (hs0 : 0 < dk.sz) (hb0 : 0 < bytes)
 (hx : evl n live y = some v) (hy : evl n live z = some (.slice A ys.length c)) (hl : (xs.length + ys.length) * bytes ≤ 140737488355328) (hd : dst = some d) (hdn : decide (d < n) = true)
 (H : St w F0 ((hR dk e v xs :: l0) ++ l) W) (HC : ∀ F, Star l0 W F → ∃ Gs, CM dk W A ys Gs ∧ (∀ j b, Gs j b → F b) ∧ ∀ i j b, Gs i b → Gs j b → i = j)
 (h : ∀ B c W', St w F0 (hR dk e (.slice B (xs.length + ys.length) c) (xs ++ ys) :: l) W' → K (aX n x ((d, .slice B (xs.length + ys.length) c) :: live)) W') : wpOp P ops Q i K (aX n x live) W := by
 subst hd
 refine op_ok ho rfl ?_
 obtain ⟨F1, a1, _, a3⟩ := H.frame
 obtain ⟨FR, F2, b1, b2, b3, b4, b5⟩ := a1.uncons
 obtain ⟨Gs, g1, g2, g3⟩ := HC F2 b2
 obtain ⟨B, c', W', hrun, h1, h2⟩ := Rn_append (P := P) (ty := ty) (pos := pos) (aft := aft) (x := x) (dst := some d) ht hinfo hz hs0 hb0 hx hy b1 g1 (fun j b hb q => b5 b q (g2 j b hb)) g3 hl
 unfold Oper.wp
 rw [hrun]
 simp only [Oper.upon]
 rw [iE (of_decide_eq_true hdn)]
 refine h B c' W' (a3 [hR dk e (.slice B (xs.length + ys.length) c') (xs ++ ys)] W' ⟨h2.mono (fun b _ q => b3 b q), Star.one (R_mono (fun b q => ?_) h1)⟩)
 rcases q with q | ⟨j, _, q⟩ | q
 ·exact .inl (b3 b q)
 ·exact .inl (b4 b (g2 j b q))
 ·exact .inr q
theorem CM_one {α : Type} {dk : Kn α} {g e : Nat} {p : α} {cs : Array Value} {Fp : Nat → Prop} (hB : Blk W g e cs) (hp : dk.M W Fp p cs.toList) : CM dk W (some ⟨g, 0, none⟩) [p] (fun j b => j = 0 ∧ Fp b) := by
 refine ⟨by simp, fun _ => ⟨_, rfl, fun j q hj => ?_⟩⟩
 rcases j with _ | j
 ·simp only [List.getElem?_cons_zero, Option.some.injEq] at hj
  subst hj
  exact ⟨cs.toList, dk.M_mono (fun _ q => ⟨rfl, q⟩) hp, fun k u hu => by rw [Nat.zero_mul, Nat.zero_add]; exact hB.at' k u hu⟩
 ·simp at hj
theorem op_append1f {t e bytes g : Nat} {α : Type} {dk : Kn α} {z0 : Value} {xs : List α} {p : α} {cs : Array Value} {dst : Option Nat}
 (ho : ops[i]? = some ⟨dst, .call { callee := .builtin .append, args := #[y, z], argTypes := #[t, t] }, ty, pos, aft, none⟩)
 (ht : P.underlying t = some (.slice e)) (hinfo : (P.info? e).map (fun i => (i.zero, i.size, i.bytes)) = some (some z0, dk.sz, bytes)) (hz : z0.cells.size = dk.sz) (hs0 : 0 < dk.sz) (hb0 : 0 < bytes)
 (hx : evl n live y = some v) (hy : evl n live z = some (.slice (some ⟨g, 0, none⟩) 1 1)) (hp : dk.M W No p cs.toList) (hl : (xs.length + 1) * bytes ≤ 140737488355328) (hd : dst = some d) (hdn : decide (d < n) = true)
 (H : St w F0 (hR dk e v xs :: hB g e cs :: l) W)
 (h : ∀ B c W', St w F0 (hR dk e (.slice B (xs.length + 1) c) (xs ++ [p]) :: l) W' → K (aX n x ((d, .slice B (xs.length + 1) c) :: live)) W') : wpOp P ops Q i K (aX n x live) W :=
 op_appendA (ys := [p]) (l0 := [hB g e cs]) ho ht hinfo hz hs0 hb0 hx hy hl hd hdn H (fun F hF => by
  obtain ⟨Fg, F3, c1, _, c3, _, _⟩ := hF.uncons
  exact ⟨_, CM_one c1.2 hp, fun j b hb => hb.2.elim, fun i j b hi hj => hi.1.trans hj.1.symm⟩) h
theorem lW {t g tb m : Nat} {old cs : Array Value} (ho : ops[i]? = some ⟨none, .store t y z, ty, pos, aft, none⟩) (hS : ∀ w, (sizeOf t).run P w = .ok m w) (hx : evl n live y = some (.pointer (some ⟨g, 0, none⟩))) (hz : evl n live z = some (.agg cs)) (hm : cs.size = m) (hk : old.size = m) (h1 : ∀ u ∈ cs.toList, u.oneCell' = true) (H : St w F0 (hB g tb old :: l) W) (h : ∀ W', Upd (fun b => b = g) W W' → St w F0 (hB g tb cs :: l) W' → K (aX n x live) W') : wpOp P ops Q i K (aX n x live) W := by
 refine op_store0 ho hS hx hz hm kO h1 H (fun W' hu H' => h W' hu ?_)
 have e : put old 0 (Value.agg cs).cells.toList = cs := by
  simp only [put, Value.cells, List.take_zero, List.nil_append, Nat.zero_add]
  rw [List.drop_eq_nil_of_le (by simp; omega), List.append_nil, Array.toArray_toList]
 rw [← e]
 exact H'
theorem gN {dst : Option Nat} {t m g tb : Nat} {cs : Array Value} (hA : ∀ w, (isAgg t).run P w = .ok true w) (hS : ∀ w, (sizeOf t).run P w = .ok m w) (hx : evl n live y = some (.pointer (some ⟨g, 0, none⟩))) (hb : Blk W g tb cs) (hm : cs.size = m) : Rn P ⟨dst, .load t y, ty, pos, aft, none⟩ (aX n x live) W (.agg cs) := lD hA hS hx hb.at' (by simpa using hm)
theorem eG {dst : Option Nat} {t k g tb : Nat} {cs : Array Value} (hA : ∀ w, (isAgg t).run P w = .ok false w) (hx : evl n live y = some (.pointer (some (Addr.add ⟨g, 0, none⟩ k)))) (hb : Blk W g tb cs) (hv : cs[k]? = some v) : Rn P ⟨dst, .load t y, ty, pos, aft, none⟩ (aX n x live) W v := rn_load hA hx (hb.at'.cell k (by simpa using hv))
theorem iI {dst : Option Nat} {t k m g tb : Nat} {cs sub : Array Value} (hA : ∀ w, (isAgg t).run P w = .ok true w) (hS : ∀ w, (sizeOf t).run P w = .ok m w) (hx : evl n live y = some (.pointer (some (Addr.add ⟨g, 0, none⟩ k)))) (hb : Blk W g tb cs) (hs : (cs.toList.drop k).take m = sub.toList) (hm : sub.size = m) : Rn P ⟨dst, .load t y, ty, pos, aft, none⟩ (aX n x live) W (.agg sub) := lD hA hS hx (hb.at'.sub k m hs) (by simpa using hm)
theorem kM {dst : Option Nat} {t k : Nat} {a : Addr} {cs : List Value} (hA : ∀ w, (isAgg t).run P w = .ok false w) (hx : evl n live y = some (.pointer (some (a.add k)))) (hc : Cat W a cs) (hv : cs[k]? = some v) : Rn P ⟨dst, .load t y, ty, pos, aft, none⟩ (aX n x live) W v := rn_load hA hx (hc.cell k hv)
theorem lX {dst : Option Nat} {t k m : Nat} {a : Addr} {cs sub : List Value} (hA : ∀ w, (isAgg t).run P w = .ok true w) (hS : ∀ w, (sizeOf t).run P w = .ok m w) (hx : evl n live y = some (.pointer (some (a.add k)))) (hc : Cat W a cs) (hs : (cs.drop k).take m = sub) (hm : sub.length = m) : Rn P ⟨dst, .load t y, ty, pos, aft, none⟩ (aX n x live) W (.agg sub.toArray) := lD hA hS hx (hc.sub k m hs) hm
theorem fI {dst : Option Nat} {t e sz k len cap : Nat} {A : Option Addr} {ad : Addr} (hu : ∀ w, (underlying t).run P w = .ok (.slice e) w) (hS : ∀ w, (sizeOf e).run P w = .ok sz w) (hx : evl n live y = some (.slice A len cap)) (hz : evl n live z = some (.int .i64 (k : Int))) (hA : A = some ad) (hk : k < len) : Rn P ⟨dst, .indexAddr t y z, ty, pos, aft, none⟩ (aX n x live) W (.pointer (some (ad.add (k * sz)))) := by
 subst hA
 exact rn_index hu hS hx hz hk
theorem Cat.cell0 {W : World} {a : Addr} {cs : List Value} {v : Value} (h : Cat W a cs) (hv : cs[0]? = some v) : W.cell? a = some v := h 0 v hv
theorem St.rowC {α : Type} {dk : Kn α} {e m c : Nat} {A : Option Addr} {xs : List α} (h : St w F0 l W) (i : Nat) (hq : l[i]? = some (hR dk e (.slice A m c) xs)) : C dk W A xs := by
 obtain ⟨F, hF⟩ := h.get i hq
 exact R_C hF
theorem St.kn {α : Type} {dk : Kn α} {p : α} {cs : List Value} (h : St w F0 l W) (i : Nat) (hq : l[i]? = some (hM dk p cs)) : dk.K W p cs := by
 obtain ⟨F, hF⟩ := h.get i hq
 exact dk.jT hF
theorem jK {a : Act} (h : Q .ret a W) : Exit.then K Q .ret a W := h
theorem inB_r {a : Act} {id : Nat} (h : Q .ret a W) : Exit.inBlock id Q .ret a W := h
theorem jV {a : Act} {id : Nat} (h : Q (.exit id) a W) : Exit.then K Q (.exit id) a W := h
theorem wanted_G {o oj : Oper} {j dj : Nat} {want b : Bool} (hg : o.guard = some (j, want)) (hj : ops[j]? = some oj) (hdj : oj.dst = some dj) (hv : evl n live (.tmp dj) = some (.bool b)) : Region.wanted o (yielded ops (aX n x live).tmps) = (b == want) := by
 have e2 := dM (x := x) hv
 simp only [Act.eval, Array.getD_eq_getD_getElem?] at e2
 unfold Region.wanted yielded
 simp only [hg, hj, Option.bind_some, hdj]
 cases e : (aX n x live).tmps[dj]? with
 | none => rw [e] at e2; cases e2
 | some u =>
  rw [e] at e2
  simp only [Option.getD_some] at e2
  subst e2
  simp
theorem op_G {dst : Option Nat} {op : Op} {j dj : Nat} {want : Bool} {oj : Oper} (ho : ops[i]? = some ⟨dst, op, ty, pos, aft, some (j, want)⟩) (hj : ops[j]? = some oj) (hdj : oj.dst = some dj) (hv : evl n live (.tmp dj) = some (.bool want)) (h : ∀ ops' : Array Oper, ops'[i]? = some ⟨dst, op, ty, pos, aft, none⟩ → wpOp P ops' Q i K (aX n x live) W) : wpOp P ops Q i K (aX n x live) W := by
 have hi : i < ops.size := (Array.getElem?_eq_some_iff.1 ho).1
 have h1 := h (ops.setIfInBounds i ⟨dst, op, ty, pos, aft, none⟩) (by simp [hi])
 unfold wpOp at h1 ⊢
 rw [show (ops.setIfInBounds i ⟨dst, op, ty, pos, aft, none⟩)[i]? = some ⟨dst, op, ty, pos, aft, none⟩ by simp [hi]] at h1
 simp only [ho] at h1 ⊢
 have hw : Region.wanted ⟨dst, op, ty, pos, aft, some (j, want)⟩ (yielded ops (aX n x live).tmps) = true := by
  rw [wanted_G rfl hj hdj hv]
  simp
 rw [if_pos hw]
 rw [if_pos (show Region.wanted _ _ = true from rfl)] at h1
 exact h1
theorem lF {dst : Option Nat} {op : Op} {j dj : Nat} {want b : Bool} {oj : Oper} (ho : ops[i]? = some ⟨dst, op, ty, pos, aft, some (j, want)⟩) (hj : ops[j]? = some oj) (hdj : oj.dst = some dj) (hv : evl n live (.tmp dj) = some (.bool b)) (hb : (b == want) = false) (hd : dst = some d) (hdn : decide (d < n) = true) (h : K (aX n x ((d, undef) :: live)) W) : wpOp P ops Q i K (aX n x live) W := by
 subst hd
 unfold wpOp
 simp only [ho]
 have hw : Region.wanted ⟨some d, op, ty, pos, aft, some (j, want)⟩ (yielded ops (aX n x live).tmps) = false := by
  rw [wanted_G rfl hj hdj hv, hb]
 rw [hw]
 simp only [Bool.false_eq_true, if_false]
 rw [iE (of_decide_eq_true hdn)]
 exact h
theorem op_append1f' {t e bytes g n' : Nat} {α : Type} {dk : Kn α} {z0 : Value} {xs ys : List α} {p : α} {cs : Array Value} {dst : Option Nat}
 (ho : ops[i]? = some ⟨dst, .call { callee := .builtin .append, args := #[y, z], argTypes := #[t, t] }, ty, pos, aft, none⟩)
 (ht : P.underlying t = some (.slice e)) (hinfo : (P.info? e).map (fun i => (i.zero, i.size, i.bytes)) = some (some z0, dk.sz, bytes)) (hz : z0.cells.size = dk.sz) (hs0 : 0 < dk.sz) (hb0 : 0 < bytes)
 (hx : evl n live y = some v) (hy : evl n live z = some (.slice (some ⟨g, 0, none⟩) 1 1)) (hp : dk.M W No p cs.toList) (hl : (xs.length + 1) * bytes ≤ 140737488355328) (hn : xs.length + 1 = n') (hys : xs ++ [p] = ys) (hd : dst = some d) (hdn : decide (d < n) = true)
 (H : St w F0 (hR dk e v xs :: hB g e cs :: l) W)
 (h : ∀ B c W', St w F0 (hR dk e (.slice B n' c) ys :: l) W' → K (aX n x ((d, .slice B n' c) :: live)) W') : wpOp P ops Q i K (aX n x live) W := by
 subst hn hys
 exact op_append1f ho ht hinfo hz hs0 hb0 hx hy hp hl hd hdn H h
theorem j5 {o : Oper} {a : Act} {p : Prop} [Decidable p] (hn : ¬ p) (h : Rn P o a W (.bool (decide p))) : Rn P o a W (.bool false) := by
 rw [decide_eq_false hn] at h
 exact h
theorem j6 {o : Oper} {a : Act} {p : Prop} [Decidable p] (hn : p) (h : Rn P o a W (.bool (decide p))) : Rn P o a W (.bool true) := by
 rw [decide_eq_true hn] at h
 exact h
theorem rn_neqB {dst : Option Nat} {xt yt : Nat} {b : Bool} (hu : ∀ w, (underlying xt).run P w = .ok .bool w) (hx : evl n live y = some (.bool b)) (hz : evl n live z = some (.bool b)) : Rn P ⟨dst, .binOp .neq xt y z yt, ty, pos, aft, none⟩ (aX n x live) W (.bool false) := by
 unfold Rn
 have e : Op.equal xt (.bool b) (.bool b) = Op.equalIn (9999 + 1) xt (.bool b) (.bool b) := rfl
 have e2 : (Op.equal xt (.bool b) (.bool b)).run P W = .ok true W := by
  rw [e, Op.equalIn]
  simp [hu]
 simp [execOp, dM hx, dM hz, eqGuard_at_bool, binOp, e2]
theorem bT {n : Nat} {x : Nat → Value} {live : List (Nat × Value)} (live' : List (Nat × Value)) (h2 : live'.map (fun p => some p.2) = live'.map (fun p => live.lookup p.1)) : ∃ x', aX n x live = aX n x' live' := actOf_drop (fun _ _ hm => (List.map_inj_left.1 h2 _ hm).symm)
end
end Go.Proofs.YtgaoabnnpjngcaaGreatSep
namespace Go.Proofs.YtgaoabnnpjngcaaGreatT
open Go.RowKit Go.Proofs.YtgaoabnnpjngcaaGreatSep
theorem gY : FieldAt Tryz.prog 35 3 3 := fun a W => by simp [Instr.fieldAt, Tryz.runUnderlying35, Instr.sureAddr, fieldPlace, Tryz.sizeOf33]
theorem iT : FieldAt Tryz.prog 52 0 0 := fun a W => by simp [Instr.fieldAt, Tryz.runUnderlying52, Instr.sureAddr, fieldPlace, Tryz.sizeOf3]
theorem gU : FieldAt Tryz.prog 52 3 3 := fun a W => by simp [Instr.fieldAt, Tryz.runUnderlying52, Instr.sureAddr, fieldPlace, Tryz.sizeOf50]
end Go.Proofs.YtgaoabnnpjngcaaGreatT
namespace Go.Proofs.YtgaoabnnpjngcaaGreatT
open Go.Proofs.YtgaoabnnpjngcaaGreatSep
def dgs (n : Nat) : List UInt8 := if n = 0 then [] else dgs (n / 10) ++ [UInt8.ofNat (48 + n % 10)]
termination_by n
def mtx (k : Int) : ByteArray := ⟨⟨109 :: (if k ≤ 0 then [48] else dgs k.toNat)⟩⟩
structure GInstr where
 Op : Int
 A : Int
 B : Int
 C : Int
 D : Int
 Name : ByteArray
def zInstr : GInstr := ⟨0, 0, 0, 0, 0, ⟨#[]⟩⟩
def fT (x : GInstr) : Nat := x.Name.size
def Bd_Instr (x : GInstr) : Prop := x.Name.size ≤ 9223372036854775807
def Gd_Instr (x : GInstr) : Prop := (Lit.int .i64 x.Op).wf = true ∧ (Lit.int .i64 x.A).wf = true ∧ (Lit.int .i64 x.B).wf = true ∧ (Lit.int .i64 x.C).wf = true ∧ (Lit.int .i64 x.D).wf = true ∧ x.Name.size ≤ 9223372036854775807
theorem Bd_of_Instr {x : GInstr} (h : Gd_Instr x) : Bd_Instr x := by
 obtain ⟨g0, g1, g2, g3, g4, g5⟩ := h
 exact g5
def dD (_ : GInstr) : Int := ((((((0 + 1) + 1) + 1) + 1) + 1) + 1)
def lG (k : Int) (_ : GInstr) : GInstr := ⟨k, (k + 1), ((k + 1) + 1), (((k + 1) + 1) + 1), ((((k + 1) + 1) + 1) + 1), mtx ((((((k + 1) + 1) + 1) + 1) + 1))⟩
theorem mU (x : GInstr) : 0 ≤ dD x := by
 unfold dD
 omega
theorem cnt_Instr_le (x : GInstr) : dD x ≤ 20 + 20 * (fT x : Int) := by
 unfold dD fT
 omega
structure GMethod where
 Name : ByteArray
 Code : List GInstr
def zMethod : GMethod := ⟨⟨#[]⟩, []⟩
def dZ (x : GMethod) : Nat := x.Name.size + bB fT x.Code
def Bd_Method (x : GMethod) : Prop := x.Name.size ≤ 9223372036854775807 ∧ (∀ y ∈ x.Code, Bd_Instr y)
def Gd_Method (x : GMethod) : Prop := x.Name.size ≤ 9223372036854775807 ∧ (x.Code.length ≤ 9223372036854775807 ∧ ∀ y ∈ x.Code, Gd_Instr y)
theorem Bd_of_Method {x : GMethod} (h : Gd_Method x) : Bd_Method x := by
 obtain ⟨g0, g1⟩ := h
 exact ⟨g0, (fun y hy => Bd_of_Instr (g1.2 y hy))⟩
def bV (x : GMethod) : Int := ((0 + 1) + aQ dD x.Code)
def kE (k : Int) (x : GMethod) : GMethod := ⟨mtx (k), mkS lG dD (k + 1) x.Code⟩
theorem mF (x : GMethod) : 0 ≤ bV x := by
 have h1 := dB dD mU x.Code
 unfold bV
 omega
theorem cnt_Method_le (x : GMethod) : bV x ≤ 20 + 20 * (dZ x : Int) := by
 have h1 := dU dD fT cnt_Instr_le x.Code
 unfold bV dZ
 omega
structure GScript where
 Name : ByteArray
 Methods : List GMethod
def zScript : GScript := ⟨⟨#[]⟩, []⟩
def eB (x : GScript) : Nat := x.Name.size + bB dZ x.Methods
def Bd_Script (x : GScript) : Prop := x.Name.size ≤ 9223372036854775807 ∧ (∀ y ∈ x.Methods, Bd_Method y)
def Gd_Script (x : GScript) : Prop := x.Name.size ≤ 9223372036854775807 ∧ (x.Methods.length ≤ 9223372036854775807 ∧ ∀ y ∈ x.Methods, Gd_Method y)
theorem Bd_of_Script {x : GScript} (h : Gd_Script x) : Bd_Script x := by
 obtain ⟨g0, g1⟩ := h
 exact ⟨g0, (fun y hy => Bd_of_Method (g1.2 y hy))⟩
def bR (x : GScript) : Int := ((0 + 1) + aQ bV x.Methods)
def kV (k : Int) (x : GScript) : GScript := ⟨mtx (k), mkS kE bV (k + 1) x.Methods⟩
theorem mG (x : GScript) : 0 ≤ bR x := by
 have h1 := dB bV mF x.Methods
 unfold bR
 omega
theorem cnt_Script_le (x : GScript) : bR x ≤ 20 + 20 * (eB x : Int) := by
 have h1 := dU bV dZ cnt_Method_le x.Methods
 unfold bR eB
 omega
structure GValue where
 Kind : Int
 N : Int
def zValue : GValue := ⟨0, 0⟩
def gQ (_ : GValue) : Nat := 0
def gW (x : GValue) : Prop := (Lit.int .i64 x.Kind).wf = true ∧ (Lit.int .i64 x.N).wf = true
def aY (_ : GValue) : Int := ((0 + 1) + 1)
def jD (k : Int) (_ : GValue) : GValue := ⟨k, (k + 1)⟩
theorem kF (x : GValue) : 0 ≤ aY x := by
 unfold aY
 omega
theorem cnt_Value_le (x : GValue) : aY x ≤ 20 + 20 * (gQ x : Int) := by
 unfold aY gQ
 omega
structure GTag where
 Vat : Int
 Entity : Int
 Seq : Int
def zTag : GTag := ⟨0, 0, 0⟩
def mV (_ : GTag) : Nat := 0
def iN (x : GTag) : Prop := (Lit.int .i64 x.Vat).wf = true ∧ (Lit.int .i64 x.Entity).wf = true ∧ (Lit.int .i64 x.Seq).wf = true
def bS (_ : GTag) : Int := (((0 + 1) + 1) + 1)
def mk_Tag (k : Int) (_ : GTag) : GTag := ⟨k, (k + 1), ((k + 1) + 1)⟩
theorem nJ (x : GTag) : 0 ≤ bS x := by
 unfold bS
 omega
theorem cnt_Tag_le (x : GTag) : bS x ≤ 20 + 20 * (mV x : Int) := by
 unfold bS mV
 omega
structure GSent where
 Target : Int
 Name : ByteArray
 bK : List GValue
 Result : Int
 Tag : GTag
def zSent : GSent := ⟨0, ⟨#[]⟩, [], 0, zTag⟩
def fK (x : GSent) : Nat := x.Name.size + bB gQ x.bK
def Bd_Sent (x : GSent) : Prop := x.Name.size ≤ 9223372036854775807
def jL (x : GSent) : Prop := (Lit.int .i64 x.Target).wf = true ∧ x.Name.size ≤ 9223372036854775807 ∧ (x.bK.length ≤ 9223372036854775807 ∧ ∀ y ∈ x.bK, gW y) ∧ (Lit.int .i64 x.Result).wf = true ∧ iN x.Tag
theorem Bd_of_Sent {x : GSent} (h : jL x) : Bd_Sent x := by
 obtain ⟨g0, g1, g2, g3, g4⟩ := h
 exact g1
def bJ (x : GSent) : Int := (((((((0 + 1) + 1) + aQ aY x.bK) + 1) + 1) + 1) + 1)
def kG (k : Int) (x : GSent) : GSent := ⟨k, mtx ((k + 1)), mkS jD aY ((k + 1) + 1) x.bK, (((k + 1) + 1) + aQ aY x.bK), ⟨((((k + 1) + 1) + aQ aY x.bK) + 1), (((((k + 1) + 1) + aQ aY x.bK) + 1) + 1), ((((((k + 1) + 1) + aQ aY x.bK) + 1) + 1) + 1)⟩⟩
theorem kW (x : GSent) : 0 ≤ bJ x := by
 have h2 := dB aY kF x.bK
 unfold bJ
 omega
theorem cnt_Sent_le (x : GSent) : bJ x ≤ 20 + 20 * (fK x : Int) := by
 have h2 := dU aY gQ cnt_Value_le x.bK
 unfold bJ fK
 omega
structure GAsker where
 iU : Int
 Question : Int
def zAsker : GAsker := ⟨0, 0⟩
def iO (_ : GAsker) : Nat := 0
def kN (x : GAsker) : Prop := (Lit.int .i64 x.iU).wf = true ∧ (Lit.int .i64 x.Question).wf = true
def bY (_ : GAsker) : Int := ((0 + 1) + 1)
def lH (k : Int) (_ : GAsker) : GAsker := ⟨k, (k + 1)⟩
theorem mW (x : GAsker) : 0 ≤ bY x := by
 unfold bY
 omega
theorem cnt_Asker_le (x : GAsker) : bY x ≤ 20 + 20 * (iO x : Int) := by
 unfold bY iO
 omega
structure GEntity where
 Kind : Int
 Script : Int
 fF : List GValue
 State : Int
 Value : GValue
 Queue : List GSent
 dN : List GAsker
 iU : Int
 Pos : Int
 Count : Int
 Sent : Int
def zEntity : GEntity := ⟨0, 0, [], 0, zValue, [], [], 0, 0, 0, 0⟩
def dK (x : GEntity) : Nat := bB gQ x.fF + bB fK x.Queue + bB iO x.dN
def Bd_Entity (x : GEntity) : Prop := (∀ y ∈ x.Queue, Bd_Sent y)
def nG (x : GEntity) : Prop := (Lit.int .i64 x.Kind).wf = true ∧ (Lit.int .i64 x.Script).wf = true ∧ (x.fF.length ≤ 9223372036854775807 ∧ ∀ y ∈ x.fF, gW y) ∧ (Lit.int .i64 x.State).wf = true ∧ gW x.Value ∧ (x.Queue.length ≤ 9223372036854775807 ∧ ∀ y ∈ x.Queue, jL y) ∧ (x.dN.length ≤ 9223372036854775807 ∧ ∀ y ∈ x.dN, kN y) ∧ (Lit.int .i64 x.iU).wf = true ∧ (Lit.int .i64 x.Pos).wf = true ∧ (Lit.int .i64 x.Count).wf = true ∧ (Lit.int .i64 x.Sent).wf = true
theorem Bd_of_Entity {x : GEntity} (h : nG x) : Bd_Entity x := by
 obtain ⟨g0, g1, g2, g3, g4, g5, g6, g7, g8, g9, g10⟩ := h
 exact (fun y hy => Bd_of_Sent (g5.2 y hy))
def bN (x : GEntity) : Int := ((((((((((((0 + 1) + 1) + aQ aY x.fF) + 1) + 1) + 1) + aQ bJ x.Queue) + aQ bY x.dN) + 1) + 1) + 1) + 1)
def kH (k : Int) (x : GEntity) : GEntity := ⟨k, (k + 1), mkS jD aY ((k + 1) + 1) x.fF, (((k + 1) + 1) + aQ aY x.fF), ⟨((((k + 1) + 1) + aQ aY x.fF) + 1), (((((k + 1) + 1) + aQ aY x.fF) + 1) + 1)⟩, mkS kG bJ ((((((k + 1) + 1) + aQ aY x.fF) + 1) + 1) + 1) x.Queue, mkS lH bY (((((((k + 1) + 1) + aQ aY x.fF) + 1) + 1) + 1) + aQ bJ x.Queue) x.dN, ((((((((k + 1) + 1) + aQ aY x.fF) + 1) + 1) + 1) + aQ bJ x.Queue) + aQ bY x.dN), (((((((((k + 1) + 1) + aQ aY x.fF) + 1) + 1) + 1) + aQ bJ x.Queue) + aQ bY x.dN) + 1), ((((((((((k + 1) + 1) + aQ aY x.fF) + 1) + 1) + 1) + aQ bJ x.Queue) + aQ bY x.dN) + 1) + 1), (((((((((((k + 1) + 1) + aQ aY x.fF) + 1) + 1) + 1) + aQ bJ x.Queue) + aQ bY x.dN) + 1) + 1) + 1)⟩
theorem mH (x : GEntity) : 0 ≤ bN x := by
 have h2 := dB aY kF x.fF
 have h6 := dB bJ kW x.Queue
 have h7 := dB bY mW x.dN
 unfold bN
 omega
theorem cnt_Entity_le (x : GEntity) : bN x ≤ 20 + 20 * (dK x : Int) := by
 have h2 := dU aY gQ cnt_Value_le x.fF
 have h6 := dU bJ fK cnt_Sent_le x.Queue
 have h7 := dU bY iO cnt_Asker_le x.dN
 unfold bN dK
 omega
structure GExport where
 Pos : Int
 Entity : Int
 Count : Int
def zExport : GExport := ⟨0, 0, 0⟩
def gZ (_ : GExport) : Nat := 0
def nH (x : GExport) : Prop := (Lit.int .i64 x.Pos).wf = true ∧ (Lit.int .i64 x.Entity).wf = true ∧ (Lit.int .i64 x.Count).wf = true
def bL (_ : GExport) : Int := (((0 + 1) + 1) + 1)
def kI (k : Int) (_ : GExport) : GExport := ⟨k, (k + 1), ((k + 1) + 1)⟩
theorem mI (x : GExport) : 0 ≤ bL x := by
 unfold bL
 omega
theorem cnt_Export_le (x : GExport) : bL x ≤ 20 + 20 * (gZ x : Int) := by
 unfold bL gZ
 omega
structure GQuestion where
 Id : Int
 Promise : Int
def kX : GQuestion := ⟨0, 0⟩
def fB (_ : GQuestion) : Nat := 0
def fJ (x : GQuestion) : Prop := (Lit.int .i64 x.Id).wf = true ∧ (Lit.int .i64 x.Promise).wf = true
def aU (_ : GQuestion) : Int := ((0 + 1) + 1)
def gK (k : Int) (_ : GQuestion) : GQuestion := ⟨k, (k + 1)⟩
theorem iP (x : GQuestion) : 0 ≤ aU x := by
 unfold aU
 omega
theorem cnt_Question_le (x : GQuestion) : aU x ≤ 20 + 20 * (fB x : Int) := by
 unfold aU fB
 omega
structure GLink where
 iU : Int
 Up : Bool
 bW : List GExport
 Next : Int
 bC : List GQuestion
 Asked : Int
 cO : List GQuestion
def zLink : GLink := ⟨0, false, [], 0, [], 0, []⟩
def fM (x : GLink) : Nat := bB gZ x.bW + bB fB x.bC + bB fB x.cO
def Gd_Link (x : GLink) : Prop := (Lit.int .i64 x.iU).wf = true ∧ True ∧ (x.bW.length ≤ 9223372036854775807 ∧ ∀ y ∈ x.bW, nH y) ∧ (Lit.int .i64 x.Next).wf = true ∧ (x.bC.length ≤ 9223372036854775807 ∧ ∀ y ∈ x.bC, fJ y) ∧ (Lit.int .i64 x.Asked).wf = true ∧ (x.cO.length ≤ 9223372036854775807 ∧ ∀ y ∈ x.cO, fJ y)
def dR (x : GLink) : Int := (((((((0 + 1) + 1) + aQ bL x.bW) + 1) + aQ aU x.bC) + 1) + aQ aU x.cO)
def mX (k : Int) (x : GLink) : GLink := ⟨k, (((k + 1)) % 3 == 0), mkS kI bL ((k + 1) + 1) x.bW, (((k + 1) + 1) + aQ bL x.bW), mkS gK aU ((((k + 1) + 1) + aQ bL x.bW) + 1) x.bC, (((((k + 1) + 1) + aQ bL x.bW) + 1) + aQ aU x.bC), mkS gK aU ((((((k + 1) + 1) + aQ bL x.bW) + 1) + aQ aU x.bC) + 1) x.cO⟩
theorem nQ (x : GLink) : 0 ≤ dR x := by
 have h2 := dB bL mI x.bW
 have h4 := dB aU iP x.bC
 have h6 := dB aU iP x.cO
 unfold dR
 omega
theorem cnt_Link_le (x : GLink) : dR x ≤ 20 + 20 * (fM x : Int) := by
 have h2 := dU bL gZ cnt_Export_le x.bW
 have h4 := dU aU fB cnt_Question_le x.bC
 have h6 := dU aU fB cnt_Question_le x.cO
 unfold dR fM
 omega
structure GWire where
 Kind : Int
 N : Int
def zWire : GWire := ⟨0, 0⟩
def iV (_ : GWire) : Nat := 0
def iL (x : GWire) : Prop := (Lit.int .i64 x.Kind).wf = true ∧ (Lit.int .i64 x.N).wf = true
def bE (_ : GWire) : Int := ((0 + 1) + 1)
def kJ (k : Int) (_ : GWire) : GWire := ⟨k, (k + 1)⟩
theorem kY (x : GWire) : 0 ≤ bE x := by
 unfold bE
 omega
theorem cnt_Wire_le (x : GWire) : bE x ≤ 20 + 20 * (iV x : Int) := by
 unfold bE iV
 omega
structure GMessage where
 Kind : Int
 Pos : Int
 iC : Int
 Question : Int
 Name : ByteArray
 bK : List GWire
 Value : GWire
 Count : Int
 Tag : GTag
def mO : GMessage := ⟨0, 0, 0, 0, ⟨#[]⟩, [], zWire, 0, zTag⟩
def cK (x : GMessage) : Nat := x.Name.size + bB iV x.bK
def lY (x : GMessage) : Prop := x.Name.size ≤ 9223372036854775807
def jM (x : GMessage) : Prop := (Lit.int .i64 x.Kind).wf = true ∧ (Lit.int .i64 x.Pos).wf = true ∧ (Lit.int .i64 x.iC).wf = true ∧ (Lit.int .i64 x.Question).wf = true ∧ x.Name.size ≤ 9223372036854775807 ∧ (x.bK.length ≤ 9223372036854775807 ∧ ∀ y ∈ x.bK, iL y) ∧ iL x.Value ∧ (Lit.int .i64 x.Count).wf = true ∧ iN x.Tag
theorem Bd_of_Message {x : GMessage} (h : jM x) : lY x := by
 obtain ⟨g0, g1, g2, g3, g4, g5, g6, g7, g8⟩ := h
 exact g4
def bM (x : GMessage) : Int := ((((((((((((0 + 1) + 1) + 1) + 1) + 1) + aQ bE x.bK) + 1) + 1) + 1) + 1) + 1) + 1)
def jN (k : Int) (x : GMessage) : GMessage := ⟨k, (k + 1), ((k + 1) + 1), (((k + 1) + 1) + 1), mtx (((((k + 1) + 1) + 1) + 1)), mkS kJ bE (((((k + 1) + 1) + 1) + 1) + 1) x.bK, ⟨((((((k + 1) + 1) + 1) + 1) + 1) + aQ bE x.bK), (((((((k + 1) + 1) + 1) + 1) + 1) + aQ bE x.bK) + 1)⟩, ((((((((k + 1) + 1) + 1) + 1) + 1) + aQ bE x.bK) + 1) + 1), ⟨(((((((((k + 1) + 1) + 1) + 1) + 1) + aQ bE x.bK) + 1) + 1) + 1), ((((((((((k + 1) + 1) + 1) + 1) + 1) + aQ bE x.bK) + 1) + 1) + 1) + 1), (((((((((((k + 1) + 1) + 1) + 1) + 1) + aQ bE x.bK) + 1) + 1) + 1) + 1) + 1)⟩⟩
theorem lI (x : GMessage) : 0 ≤ bM x := by
 have h5 := dB bE kY x.bK
 unfold bM
 omega
theorem cnt_Message_le (x : GMessage) : bM x ≤ 20 + 20 * (cK x : Int) := by
 have h5 := dU bE iV cnt_Wire_le x.bK
 unfold bM cK
 omega
structure GOutgoing where
 To : Int
 Message : GMessage
def lZ : GOutgoing := ⟨0, mO⟩
def dF (x : GOutgoing) : Nat := cK x.Message
def mP (x : GOutgoing) : Prop := lY x.Message
def jG (x : GOutgoing) : Prop := (Lit.int .i64 x.To).wf = true ∧ jM x.Message
theorem Bd_of_Outgoing {x : GOutgoing} (h : jG x) : mP x := by
 obtain ⟨g0, g1⟩ := h
 exact Bd_of_Message g1
def bF (x : GOutgoing) : Int := (((((((((((((0 + 1) + 1) + 1) + 1) + 1) + 1) + aQ bE x.Message.bK) + 1) + 1) + 1) + 1) + 1) + 1)
def iW (k : Int) (x : GOutgoing) : GOutgoing := ⟨k, ⟨(k + 1), ((k + 1) + 1), (((k + 1) + 1) + 1), ((((k + 1) + 1) + 1) + 1), mtx ((((((k + 1) + 1) + 1) + 1) + 1)), mkS kJ bE ((((((k + 1) + 1) + 1) + 1) + 1) + 1) x.Message.bK, ⟨(((((((k + 1) + 1) + 1) + 1) + 1) + 1) + aQ bE x.Message.bK), ((((((((k + 1) + 1) + 1) + 1) + 1) + 1) + aQ bE x.Message.bK) + 1)⟩, (((((((((k + 1) + 1) + 1) + 1) + 1) + 1) + aQ bE x.Message.bK) + 1) + 1), ⟨((((((((((k + 1) + 1) + 1) + 1) + 1) + 1) + aQ bE x.Message.bK) + 1) + 1) + 1), (((((((((((k + 1) + 1) + 1) + 1) + 1) + 1) + aQ bE x.Message.bK) + 1) + 1) + 1) + 1), ((((((((((((k + 1) + 1) + 1) + 1) + 1) + 1) + aQ bE x.Message.bK) + 1) + 1) + 1) + 1) + 1)⟩⟩⟩
theorem kT (x : GOutgoing) : 0 ≤ bF x := by
 have h6 := dB bE kY x.Message.bK
 unfold bF
 omega
theorem cnt_Outgoing_le (x : GOutgoing) : bF x ≤ 20 + 20 * (dF x : Int) := by
 have h6 := dU bE iV cnt_Wire_le x.Message.bK
 unfold bF dF cK
 omega
structure GVat where
 Id : Int
 bH : List GEntity
 Loop : List GSent
 gB : List GLink
 Out : List GOutgoing
def zVat : GVat := ⟨0, [], [], [], []⟩
def gD (x : GVat) : Nat := bB dK x.bH + bB fK x.Loop + bB fM x.gB + bB dF x.Out
def Bd_Vat (x : GVat) : Prop := (∀ y ∈ x.bH, Bd_Entity y) ∧ (∀ y ∈ x.Loop, Bd_Sent y) ∧ (∀ y ∈ x.Out, mP y)
def Gd_Vat (x : GVat) : Prop := (Lit.int .i64 x.Id).wf = true ∧ (x.bH.length ≤ 9223372036854775807 ∧ ∀ y ∈ x.bH, nG y) ∧ (x.Loop.length ≤ 9223372036854775807 ∧ ∀ y ∈ x.Loop, jL y) ∧ (x.gB.length ≤ 9223372036854775807 ∧ ∀ y ∈ x.gB, Gd_Link y) ∧ (x.Out.length ≤ 9223372036854775807 ∧ ∀ y ∈ x.Out, jG y)
theorem Bd_of_Vat {x : GVat} (h : Gd_Vat x) : Bd_Vat x := by
 obtain ⟨g0, g1, g2, g3, g4⟩ := h
 exact ⟨(fun y hy => Bd_of_Entity (g1.2 y hy)), (fun y hy => Bd_of_Sent (g2.2 y hy)), (fun y hy => Bd_of_Outgoing (g4.2 y hy))⟩
def fO (x : GVat) : Int := (((((0 + 1) + aQ bN x.bH) + aQ bJ x.Loop) + aQ dR x.gB) + aQ bF x.Out)
def mk_Vat (k : Int) (x : GVat) : GVat := ⟨k, mkS kH bN (k + 1) x.bH, mkS kG bJ ((k + 1) + aQ bN x.bH) x.Loop, mkS mX dR (((k + 1) + aQ bN x.bH) + aQ bJ x.Loop) x.gB, mkS iW bF ((((k + 1) + aQ bN x.bH) + aQ bJ x.Loop) + aQ dR x.gB) x.Out⟩
theorem cnt_Vat_nn (x : GVat) : 0 ≤ fO x := by
 have h1 := dB bN mH x.bH
 have h2 := dB bJ kW x.Loop
 have h3 := dB dR nQ x.gB
 have h4 := dB bF kT x.Out
 unfold fO
 omega
theorem cnt_Vat_le (x : GVat) : fO x ≤ 20 + 20 * (gD x : Int) := by
 have h1 := dU bN dK cnt_Entity_le x.bH
 have h2 := dU bJ fK cnt_Sent_le x.Loop
 have h3 := dU dR fM cnt_Link_le x.gB
 have h4 := dU bF dF cnt_Outgoing_le x.Out
 unfold fO gD
 omega
structure GChannel where
 From : Int
 To : Int
 List : List GMessage
def nK : GChannel := ⟨0, 0, []⟩
def dQ (x : GChannel) : Nat := bB cK x.List
def nL (x : GChannel) : Prop := (∀ y ∈ x.List, lY y)
def kU (x : GChannel) : Prop := (Lit.int .i64 x.From).wf = true ∧ (Lit.int .i64 x.To).wf = true ∧ (x.List.length ≤ 9223372036854775807 ∧ ∀ y ∈ x.List, jM y)
theorem Bd_of_Channel {x : GChannel} (h : kU x) : nL x := by
 obtain ⟨g0, g1, g2⟩ := h
 exact (fun y hy => Bd_of_Message (g2.2 y hy))
def bO (x : GChannel) : Int := (((0 + 1) + 1) + aQ bM x.List)
def jW (k : Int) (x : GChannel) : GChannel := ⟨k, (k + 1), mkS jN bM ((k + 1) + 1) x.List⟩
theorem lJ (x : GChannel) : 0 ≤ bO x := by
 have h2 := dB bM lI x.List
 unfold bO
 omega
theorem cnt_Channel_le (x : GChannel) : bO x ≤ 20 + 20 * (dQ x : Int) := by
 have h2 := dU bM cK cnt_Message_le x.List
 unfold bO dQ
 omega
structure GNote where
 Kind : Int
 Vat : Int
 Entity : Int
 Tag : GTag
def zNote : GNote := ⟨0, 0, 0, zTag⟩
def jQ (_ : GNote) : Nat := 0
def Gd_Note (x : GNote) : Prop := (Lit.int .i64 x.Kind).wf = true ∧ (Lit.int .i64 x.Vat).wf = true ∧ (Lit.int .i64 x.Entity).wf = true ∧ iN x.Tag
def eU (_ : GNote) : Int := ((((((0 + 1) + 1) + 1) + 1) + 1) + 1)
def mk_Note (k : Int) (_ : GNote) : GNote := ⟨k, (k + 1), ((k + 1) + 1), ⟨(((k + 1) + 1) + 1), ((((k + 1) + 1) + 1) + 1), (((((k + 1) + 1) + 1) + 1) + 1)⟩⟩
theorem nR (x : GNote) : 0 ≤ eU x := by
 unfold eU
 omega
theorem cnt_Note_le (x : GNote) : eU x ≤ 20 + 20 * (jQ x : Int) := by
 unfold eU jQ
 omega
structure GWorld where
 bG : List GScript
 gT : List GVat
 bA : List GChannel
 aB : List GNote
 fC : Int
def fU (x : GWorld) : Nat := bB eB x.bG + bB gD x.gT + bB dQ x.bA + bB jQ x.aB
def Bd_World (x : GWorld) : Prop := (∀ y ∈ x.bG, Bd_Script y) ∧ (∀ y ∈ x.gT, Bd_Vat y) ∧ (∀ y ∈ x.bA, nL y)
def Gd_World (x : GWorld) : Prop := (x.bG.length ≤ 9223372036854775807 ∧ ∀ y ∈ x.bG, Gd_Script y) ∧ (x.gT.length ≤ 9223372036854775807 ∧ ∀ y ∈ x.gT, Gd_Vat y) ∧ (x.bA.length ≤ 9223372036854775807 ∧ ∀ y ∈ x.bA, kU y) ∧ (x.aB.length ≤ 9223372036854775807 ∧ ∀ y ∈ x.aB, Gd_Note y) ∧ (Lit.int .i64 x.fC).wf = true
theorem Bd_of_World {x : GWorld} (h : Gd_World x) : Bd_World x := by
 obtain ⟨g0, g1, g2, g3, g4⟩ := h
 exact ⟨(fun y hy => Bd_of_Script (g0.2 y hy)), (fun y hy => Bd_of_Vat (g1.2 y hy)), (fun y hy => Bd_of_Channel (g2.2 y hy))⟩
def iA (x : GWorld) : Int := ((((0 + aQ bR x.bG) + aQ fO x.gT) + aQ bO x.bA) + aQ eU x.aB)
def kZ (k : Int) (x : GWorld) : GWorld := ⟨mkS kV bR k x.bG, mkS mk_Vat fO (k + aQ bR x.bG) x.gT, mkS jW bO ((k + aQ bR x.bG) + aQ fO x.gT) x.bA, mkS mk_Note eU (((k + aQ bR x.bG) + aQ fO x.gT) + aQ bO x.bA) x.aB, x.fC⟩
end Go.Proofs.YtgaoabnnpjngcaaGreatT
namespace Go.Proofs.YtgaoabnnpjngcaaGreatK
open Go.RowKit Go.Proofs.YtgaoabnnpjngcaaGreatSep Go.Proofs.YtgaoabnnpjngcaaGreatT
def jE : Kn GInstr := Kn.iso (Kn.pair Kn.int (Kn.pair Kn.int (Kn.pair Kn.int (Kn.pair Kn.int (Kn.pair Kn.int Kn.string))))) (fun x => (x.Op, x.A, x.B, x.C, x.D, x.Name))
theorem kl_Instr_K {w : World} {x : GInstr} {cs : List Value} (h : jE.K w x cs) : cs = [.int .i64 x.Op, .int .i64 x.A, .int .i64 x.B, .int .i64 x.C, .int .i64 x.D, .string x.Name] := by
 obtain ⟨_, _, rfl, rfl, ⟨_, _, rfl, rfl, ⟨_, _, rfl, rfl, ⟨_, _, rfl, rfl, ⟨_, _, rfl, rfl, rfl⟩⟩⟩⟩⟩ := h
 exact rfl
theorem kl_Instr_at {w : World} {A : Option Addr} {l : List GInstr} (h : C jE w A l) (i : Nat) (hi : i < l.length) : ∃ (ad : Addr), A = some ad ∧ w.cell? (ad.add (i * 6)) = some (.int .i64 l[i].Op) ∧ w.cell? ⟨(ad.add (i * 6)).block, (ad.add (i * 6)).off + 1, none⟩ = some (.int .i64 l[i].A) ∧ w.cell? ⟨(ad.add (i * 6)).block, (ad.add (i * 6)).off + 2, none⟩ = some (.int .i64 l[i].B) ∧ w.cell? ⟨(ad.add (i * 6)).block, (ad.add (i * 6)).off + 3, none⟩ = some (.int .i64 l[i].C) ∧ w.cell? ⟨(ad.add (i * 6)).block, (ad.add (i * 6)).off + 4, none⟩ = some (.int .i64 l[i].D) ∧ w.cell? ⟨(ad.add (i * 6)).block, (ad.add (i * 6)).off + 5, none⟩ = some (.string l[i].Name) := by
 obtain ⟨ad, c, h1, h2, h3, h4⟩ := C_at h i hi
 obtain rfl := kl_Instr_K h2
 exact ⟨ad, h1, h3 _ rfl, h4 0 _ rfl, h4 1 _ rfl, h4 2 _ rfl, h4 3 _ rfl, h4 4 _ rfl⟩
def fG : Kn GInstr := Kn.iso (Kn.pair Kn.int (Kn.pair Kn.int (Kn.pair Kn.int (Kn.pair Kn.int (Kn.pair Kn.int Kn.string))))) (fun x => (x.Op, x.A, x.B, x.C, x.D, x.Name))
theorem ki_Instr_K {w : World} {x : GInstr} {cs : List Value} (h : fG.K w x cs) : cs = [.int .i64 x.Op, .int .i64 x.A, .int .i64 x.B, .int .i64 x.C, .int .i64 x.D, .string x.Name] := by
 obtain ⟨_, _, rfl, rfl, ⟨_, _, rfl, rfl, ⟨_, _, rfl, rfl, ⟨_, _, rfl, rfl, ⟨_, _, rfl, rfl, rfl⟩⟩⟩⟩⟩ := h
 exact rfl
theorem ki_Instr_at {w : World} {A : Option Addr} {l : List GInstr} (h : C fG w A l) (i : Nat) (hi : i < l.length) : ∃ (ad : Addr), A = some ad ∧ w.cell? (ad.add (i * 6)) = some (.int .i64 l[i].Op) ∧ w.cell? ⟨(ad.add (i * 6)).block, (ad.add (i * 6)).off + 1, none⟩ = some (.int .i64 l[i].A) ∧ w.cell? ⟨(ad.add (i * 6)).block, (ad.add (i * 6)).off + 2, none⟩ = some (.int .i64 l[i].B) ∧ w.cell? ⟨(ad.add (i * 6)).block, (ad.add (i * 6)).off + 3, none⟩ = some (.int .i64 l[i].C) ∧ w.cell? ⟨(ad.add (i * 6)).block, (ad.add (i * 6)).off + 4, none⟩ = some (.int .i64 l[i].D) ∧ w.cell? ⟨(ad.add (i * 6)).block, (ad.add (i * 6)).off + 5, none⟩ = some (.string l[i].Name) := by
 obtain ⟨ad, c, h1, h2, h3, h4⟩ := C_at h i hi
 obtain rfl := ki_Instr_K h2
 exact ⟨ad, h1, h3 _ rfl, h4 0 _ rfl, h4 1 _ rfl, h4 2 _ rfl, h4 3 _ rfl, h4 4 _ rfl⟩
theorem ki_Instr_M {w : World} {F : Nat → Prop} {x : GInstr} {cs : List Value} (h : fG.M w F x cs) : cs = [.int .i64 x.Op, .int .i64 x.A, .int .i64 x.B, .int .i64 x.C, .int .i64 x.D, .string x.Name] := by
 exact ki_Instr_K (fG.jT h)
theorem nS (w : World) (F : Nat → Prop) (x : GInstr) : fG.M w F x [.int .i64 x.Op, .int .i64 x.A, .int .i64 x.B, .int .i64 x.C, .int .i64 x.D, .string x.Name] :=
 ⟨[_], [_, _, _, _, _], No, No, rfl, rfl, ⟨[_], [_, _, _, _], No, No, rfl, rfl, ⟨[_], [_, _, _], No, No, rfl, rfl, ⟨[_], [_, _], No, No, rfl, rfl, ⟨[_], [_], No, No, rfl, rfl, rfl, fun _ h => h.elim, fun _ h => h.elim, fun _ h => h.elim⟩, fun _ h => h.elim, fun _ h => h.elim, fun _ h => h.elim⟩, fun _ h => h.elim, fun _ h => h.elim, fun _ h => h.elim⟩, fun _ h => h.elim, fun _ h => h.elim, fun _ h => h.elim⟩, fun _ h => h.elim, fun _ h => h.elim, fun _ h => h.elim⟩
theorem ki_Instr_info : (Tryz.prog.info? 124).map (fun i => (i.zero, i.size, i.bytes)) = some (some (.agg #[.int .i64 0, .int .i64 0, .int .i64 0, .int .i64 0, .int .i64 0, .string ⟨#[]⟩]), 6, 56) := by kernel_rfl
theorem ki_Instr_zero (w : World) : fG.M w No zInstr [.int .i64 0, .int .i64 0, .int .i64 0, .int .i64 0, .int .i64 0, .string ⟨#[]⟩] := nS w No zInstr
def iF : Kn GMethod := Kn.iso (Kn.pair Kn.string (Kn.slice 244 jE)) (fun x => (x.Name, x.Code))
theorem kl_Method_K {w : World} {x : GMethod} {cs : List Value} (h : iF.K w x cs) : ∃ (A1 : Option Addr) (c1 : Nat), cs = [.string x.Name, .slice A1 x.Code.length c1] ∧ x.Code.length ≤ c1 ∧ C jE w A1 x.Code := by
 obtain ⟨_, _, rfl, rfl, ⟨A1, c1, rfl, hl1, hC1⟩⟩ := h
 exact ⟨A1, c1, rfl, hl1, hC1⟩
theorem kl_Method_at {w : World} {A : Option Addr} {l : List GMethod} (h : C iF w A l) (i : Nat) (hi : i < l.length) : ∃ (ad : Addr) (A1 : Option Addr) (c1 : Nat), A = some ad ∧ w.cell? (ad.add (i * 2)) = some (.string l[i].Name) ∧ w.cell? ⟨(ad.add (i * 2)).block, (ad.add (i * 2)).off + 1, none⟩ = some (.slice A1 l[i].Code.length c1) ∧ l[i].Code.length ≤ c1 ∧ C jE w A1 l[i].Code := by
 obtain ⟨ad, c, h1, h2, h3, h4⟩ := C_at h i hi
 obtain ⟨A1, c1, rfl, hl1, hC1⟩ := kl_Method_K h2
 exact ⟨ad, A1, c1, h1, h3 _ rfl, h4 0 _ rfl, hl1, hC1⟩
def dV : Kn GMethod := Kn.iso (Kn.pair Kn.string (Kn.slice 124 fG)) (fun x => (x.Name, x.Code))
theorem ki_Method_K {w : World} {x : GMethod} {cs : List Value} (h : dV.K w x cs) : ∃ (A1 : Option Addr) (c1 : Nat), cs = [.string x.Name, .slice A1 x.Code.length c1] ∧ x.Code.length ≤ c1 ∧ C fG w A1 x.Code := by
 obtain ⟨_, _, rfl, rfl, ⟨A1, c1, rfl, hl1, hC1⟩⟩ := h
 exact ⟨A1, c1, rfl, hl1, hC1⟩
theorem ki_Method_at {w : World} {A : Option Addr} {l : List GMethod} (h : C dV w A l) (i : Nat) (hi : i < l.length) : ∃ (ad : Addr) (A1 : Option Addr) (c1 : Nat), A = some ad ∧ w.cell? (ad.add (i * 2)) = some (.string l[i].Name) ∧ w.cell? ⟨(ad.add (i * 2)).block, (ad.add (i * 2)).off + 1, none⟩ = some (.slice A1 l[i].Code.length c1) ∧ l[i].Code.length ≤ c1 ∧ C fG w A1 l[i].Code := by
 obtain ⟨ad, c, h1, h2, h3, h4⟩ := C_at h i hi
 obtain ⟨A1, c1, rfl, hl1, hC1⟩ := ki_Method_K h2
 exact ⟨ad, A1, c1, h1, h3 _ rfl, h4 0 _ rfl, hl1, hC1⟩
theorem ki_Method_M {w : World} {F : Nat → Prop} {x : GMethod} {cs : List Value} (h : dV.M w F x cs) : ∃ (v1 : Value) (P1 : Nat → Prop), cs = [.string x.Name, v1] ∧ R fG 124 w P1 v1 x.Code ∧ (∀ k, P1 k → F k) := by
 obtain ⟨_, _, F0, G0, rfl, rfl, ⟨v1, rfl, hR1⟩, a0, b0, d0⟩ := h
 exact ⟨v1, G0, rfl, hR1, fun k hk => (b0 k hk)⟩
theorem mY (w : World) (F : Nat → Prop) (x : GMethod) {v1 : Value} {P1 : Nat → Prop} (h1 : R fG 124 w P1 v1 x.Code) (i1 : ∀ k, P1 k → F k) : dV.M w F x [.string x.Name, v1] :=
 ⟨[_], [_], No, P1, rfl, rfl, ⟨_, rfl, h1⟩, fun _ h => h.elim, i1, fun _ h => h.elim⟩
theorem ki_Method_info : (Tryz.prog.info? 122).map (fun i => (i.zero, i.size, i.bytes)) = some (some (.agg #[.string ⟨#[]⟩, .slice none 0 0]), 2, 40) := by kernel_rfl
theorem ki_Method_zero (w : World) : dV.M w No zMethod [.string ⟨#[]⟩, .slice none 0 0] := mY w No zMethod (P1 := No) R_nil (fun _ h => h)
def jF : Kn GScript := Kn.iso (Kn.pair Kn.string (Kn.slice 198 iF)) (fun x => (x.Name, x.Methods))
theorem kl_Script_K {w : World} {x : GScript} {cs : List Value} (h : jF.K w x cs) : ∃ (A1 : Option Addr) (c1 : Nat), cs = [.string x.Name, .slice A1 x.Methods.length c1] ∧ x.Methods.length ≤ c1 ∧ C iF w A1 x.Methods := by
 obtain ⟨_, _, rfl, rfl, ⟨A1, c1, rfl, hl1, hC1⟩⟩ := h
 exact ⟨A1, c1, rfl, hl1, hC1⟩
theorem kl_Script_at {w : World} {A : Option Addr} {l : List GScript} (h : C jF w A l) (i : Nat) (hi : i < l.length) : ∃ (ad : Addr) (A1 : Option Addr) (c1 : Nat), A = some ad ∧ w.cell? (ad.add (i * 2)) = some (.string l[i].Name) ∧ w.cell? ⟨(ad.add (i * 2)).block, (ad.add (i * 2)).off + 1, none⟩ = some (.slice A1 l[i].Methods.length c1) ∧ l[i].Methods.length ≤ c1 ∧ C iF w A1 l[i].Methods := by
 obtain ⟨ad, c, h1, h2, h3, h4⟩ := C_at h i hi
 obtain ⟨A1, c1, rfl, hl1, hC1⟩ := kl_Script_K h2
 exact ⟨ad, A1, c1, h1, h3 _ rfl, h4 0 _ rfl, hl1, hC1⟩
def eX : Kn GScript := Kn.iso (Kn.pair Kn.string (Kn.slice 122 dV)) (fun x => (x.Name, x.Methods))
theorem ki_Script_K {w : World} {x : GScript} {cs : List Value} (h : eX.K w x cs) : ∃ (A1 : Option Addr) (c1 : Nat), cs = [.string x.Name, .slice A1 x.Methods.length c1] ∧ x.Methods.length ≤ c1 ∧ C dV w A1 x.Methods := by
 obtain ⟨_, _, rfl, rfl, ⟨A1, c1, rfl, hl1, hC1⟩⟩ := h
 exact ⟨A1, c1, rfl, hl1, hC1⟩
theorem ki_Script_at {w : World} {A : Option Addr} {l : List GScript} (h : C eX w A l) (i : Nat) (hi : i < l.length) : ∃ (ad : Addr) (A1 : Option Addr) (c1 : Nat), A = some ad ∧ w.cell? (ad.add (i * 2)) = some (.string l[i].Name) ∧ w.cell? ⟨(ad.add (i * 2)).block, (ad.add (i * 2)).off + 1, none⟩ = some (.slice A1 l[i].Methods.length c1) ∧ l[i].Methods.length ≤ c1 ∧ C dV w A1 l[i].Methods := by
 obtain ⟨ad, c, h1, h2, h3, h4⟩ := C_at h i hi
 obtain ⟨A1, c1, rfl, hl1, hC1⟩ := ki_Script_K h2
 exact ⟨ad, A1, c1, h1, h3 _ rfl, h4 0 _ rfl, hl1, hC1⟩
theorem ki_Script_M {w : World} {F : Nat → Prop} {x : GScript} {cs : List Value} (h : eX.M w F x cs) : ∃ (v1 : Value) (P1 : Nat → Prop), cs = [.string x.Name, v1] ∧ R dV 122 w P1 v1 x.Methods ∧ (∀ k, P1 k → F k) := by
 obtain ⟨_, _, F0, G0, rfl, rfl, ⟨v1, rfl, hR1⟩, a0, b0, d0⟩ := h
 exact ⟨v1, G0, rfl, hR1, fun k hk => (b0 k hk)⟩
theorem mZ (w : World) (F : Nat → Prop) (x : GScript) {v1 : Value} {P1 : Nat → Prop} (h1 : R dV 122 w P1 v1 x.Methods) (i1 : ∀ k, P1 k → F k) : eX.M w F x [.string x.Name, v1] :=
 ⟨[_], [_], No, P1, rfl, rfl, ⟨_, rfl, h1⟩, fun _ h => h.elim, i1, fun _ h => h.elim⟩
theorem ki_Script_info : (Tryz.prog.info? 73).map (fun i => (i.zero, i.size, i.bytes)) = some (some (.agg #[.string ⟨#[]⟩, .slice none 0 0]), 2, 40) := by kernel_rfl
theorem ki_Script_zero (w : World) : eX.M w No zScript [.string ⟨#[]⟩, .slice none 0 0] := mZ w No zScript (P1 := No) R_nil (fun _ h => h)
def gP : Kn GValue := Kn.iso (Kn.pair Kn.int Kn.int) (fun x => (x.Kind, x.N))
theorem kl_Value_K {w : World} {x : GValue} {cs : List Value} (h : gP.K w x cs) : cs = [.int .i64 x.Kind, .int .i64 x.N] := by
 obtain ⟨_, _, rfl, rfl, rfl⟩ := h
 exact rfl
theorem kl_Value_at {w : World} {A : Option Addr} {l : List GValue} (h : C gP w A l) (i : Nat) (hi : i < l.length) : ∃ (ad : Addr), A = some ad ∧ w.cell? (ad.add (i * 2)) = some (.int .i64 l[i].Kind) ∧ w.cell? ⟨(ad.add (i * 2)).block, (ad.add (i * 2)).off + 1, none⟩ = some (.int .i64 l[i].N) := by
 obtain ⟨ad, c, h1, h2, h3, h4⟩ := C_at h i hi
 obtain rfl := kl_Value_K h2
 exact ⟨ad, h1, h3 _ rfl, h4 0 _ rfl⟩
def dL : Kn GValue := Kn.iso (Kn.pair Kn.int Kn.int) (fun x => (x.Kind, x.N))
theorem nM {w : World} {x : GValue} {cs : List Value} (h : dL.K w x cs) : cs = [.int .i64 x.Kind, .int .i64 x.N] := by
 obtain ⟨_, _, rfl, rfl, rfl⟩ := h
 exact rfl
theorem ki_Value_at {w : World} {A : Option Addr} {l : List GValue} (h : C dL w A l) (i : Nat) (hi : i < l.length) : ∃ (ad : Addr), A = some ad ∧ w.cell? (ad.add (i * 2)) = some (.int .i64 l[i].Kind) ∧ w.cell? ⟨(ad.add (i * 2)).block, (ad.add (i * 2)).off + 1, none⟩ = some (.int .i64 l[i].N) := by
 obtain ⟨ad, c, h1, h2, h3, h4⟩ := C_at h i hi
 obtain rfl := nM h2
 exact ⟨ad, h1, h3 _ rfl, h4 0 _ rfl⟩
theorem nN {w : World} {F : Nat → Prop} {x : GValue} {cs : List Value} (h : dL.M w F x cs) : cs = [.int .i64 x.Kind, .int .i64 x.N] := by
 exact nM (dL.jT h)
theorem mQ (w : World) (F : Nat → Prop) (x : GValue) : dL.M w F x [.int .i64 x.Kind, .int .i64 x.N] :=
 ⟨[_], [_], No, No, rfl, rfl, rfl, fun _ h => h.elim, fun _ h => h.elim, fun _ h => h.elim⟩
theorem ki_Value_info : (Tryz.prog.info? 129).map (fun i => (i.zero, i.size, i.bytes)) = some (some (.agg #[.int .i64 0, .int .i64 0]), 2, 16) := by kernel_rfl
theorem ki_Value_zero (w : World) : dL.M w No zValue [.int .i64 0, .int .i64 0] := mQ w No zValue
def kl_Tag : Kn GTag := Kn.iso (Kn.pair Kn.int (Kn.pair Kn.int Kn.int)) (fun x => (x.Vat, x.Entity, x.Seq))
theorem kl_Tag_K {w : World} {x : GTag} {cs : List Value} (h : kl_Tag.K w x cs) : cs = [.int .i64 x.Vat, .int .i64 x.Entity, .int .i64 x.Seq] := by
 obtain ⟨_, _, rfl, rfl, ⟨_, _, rfl, rfl, rfl⟩⟩ := h
 exact rfl
def cZ : Kn GTag := Kn.iso (Kn.pair Kn.int (Kn.pair Kn.int Kn.int)) (fun x => (x.Vat, x.Entity, x.Seq))
theorem jX {w : World} {x : GTag} {cs : List Value} (h : cZ.K w x cs) : cs = [.int .i64 x.Vat, .int .i64 x.Entity, .int .i64 x.Seq] := by
 obtain ⟨_, _, rfl, rfl, ⟨_, _, rfl, rfl, rfl⟩⟩ := h
 exact rfl
theorem ki_Tag_at {w : World} {A : Option Addr} {l : List GTag} (h : C cZ w A l) (i : Nat) (hi : i < l.length) : ∃ (ad : Addr), A = some ad ∧ w.cell? (ad.add (i * 3)) = some (.int .i64 l[i].Vat) ∧ w.cell? ⟨(ad.add (i * 3)).block, (ad.add (i * 3)).off + 1, none⟩ = some (.int .i64 l[i].Entity) ∧ w.cell? ⟨(ad.add (i * 3)).block, (ad.add (i * 3)).off + 2, none⟩ = some (.int .i64 l[i].Seq) := by
 obtain ⟨ad, c, h1, h2, h3, h4⟩ := C_at h i hi
 obtain rfl := jX h2
 exact ⟨ad, h1, h3 _ rfl, h4 0 _ rfl, h4 1 _ rfl⟩
theorem ki_Tag_M {w : World} {F : Nat → Prop} {x : GTag} {cs : List Value} (h : cZ.M w F x cs) : cs = [.int .i64 x.Vat, .int .i64 x.Entity, .int .i64 x.Seq] := by
 exact jX (cZ.jT h)
theorem lC (w : World) (F : Nat → Prop) (x : GTag) : cZ.M w F x [.int .i64 x.Vat, .int .i64 x.Entity, .int .i64 x.Seq] :=
 ⟨[_], [_, _], No, No, rfl, rfl, ⟨[_], [_], No, No, rfl, rfl, rfl, fun _ h => h.elim, fun _ h => h.elim, fun _ h => h.elim⟩, fun _ h => h.elim, fun _ h => h.elim, fun _ h => h.elim⟩
theorem ki_Tag_info : (Tryz.prog.info? 50).map (fun i => (i.zero, i.size, i.bytes)) = some (some (.agg #[.int .i64 0, .int .i64 0, .int .i64 0]), 3, 24) := by kernel_rfl
def iM : Kn GSent := Kn.iso (Kn.pair Kn.int (Kn.pair Kn.string (Kn.pair (Kn.slice 201 gP) (Kn.pair Kn.int kl_Tag)))) (fun x => (x.Target, x.Name, x.bK, x.Result, x.Tag))
theorem kl_Sent_K {w : World} {x : GSent} {cs : List Value} (h : iM.K w x cs) : ∃ (A2 : Option Addr) (c2 : Nat), cs = [.int .i64 x.Target, .string x.Name, .slice A2 x.bK.length c2, .int .i64 x.Result, .int .i64 x.Tag.Vat, .int .i64 x.Tag.Entity, .int .i64 x.Tag.Seq] ∧ x.bK.length ≤ c2 ∧ C gP w A2 x.bK := by
 obtain ⟨_, _, rfl, rfl, ⟨_, _, rfl, rfl, ⟨_, _, rfl, ⟨A2, c2, rfl, hl2, hC2⟩, ⟨_, _, rfl, rfl, s_Tag⟩⟩⟩⟩ := h
 obtain rfl := kl_Tag_K s_Tag
 exact ⟨A2, c2, rfl, hl2, hC2⟩
theorem kl_Sent_at {w : World} {A : Option Addr} {l : List GSent} (h : C iM w A l) (i : Nat) (hi : i < l.length) : ∃ (ad : Addr) (A2 : Option Addr) (c2 : Nat), A = some ad ∧ w.cell? (ad.add (i * 7)) = some (.int .i64 l[i].Target) ∧ w.cell? ⟨(ad.add (i * 7)).block, (ad.add (i * 7)).off + 1, none⟩ = some (.string l[i].Name) ∧ w.cell? ⟨(ad.add (i * 7)).block, (ad.add (i * 7)).off + 2, none⟩ = some (.slice A2 l[i].bK.length c2) ∧ w.cell? ⟨(ad.add (i * 7)).block, (ad.add (i * 7)).off + 3, none⟩ = some (.int .i64 l[i].Result) ∧ w.cell? ⟨(ad.add (i * 7)).block, (ad.add (i * 7)).off + 4, none⟩ = some (.int .i64 l[i].Tag.Vat) ∧ w.cell? ⟨(ad.add (i * 7)).block, (ad.add (i * 7)).off + 5, none⟩ = some (.int .i64 l[i].Tag.Entity) ∧ w.cell? ⟨(ad.add (i * 7)).block, (ad.add (i * 7)).off + 6, none⟩ = some (.int .i64 l[i].Tag.Seq) ∧ l[i].bK.length ≤ c2 ∧ C gP w A2 l[i].bK := by
 obtain ⟨ad, c, h1, h2, h3, h4⟩ := C_at h i hi
 obtain ⟨A2, c2, rfl, hl2, hC2⟩ := kl_Sent_K h2
 exact ⟨ad, A2, c2, h1, h3 _ rfl, h4 0 _ rfl, h4 1 _ rfl, h4 2 _ rfl, h4 3 _ rfl, h4 4 _ rfl, h4 5 _ rfl, hl2, hC2⟩
def fD : Kn GSent := Kn.iso (Kn.pair Kn.int (Kn.pair Kn.string (Kn.pair (Kn.slice 129 dL) (Kn.pair Kn.int cZ)))) (fun x => (x.Target, x.Name, x.bK, x.Result, x.Tag))
theorem ki_Sent_K {w : World} {x : GSent} {cs : List Value} (h : fD.K w x cs) : ∃ (A2 : Option Addr) (c2 : Nat), cs = [.int .i64 x.Target, .string x.Name, .slice A2 x.bK.length c2, .int .i64 x.Result, .int .i64 x.Tag.Vat, .int .i64 x.Tag.Entity, .int .i64 x.Tag.Seq] ∧ x.bK.length ≤ c2 ∧ C dL w A2 x.bK := by
 obtain ⟨_, _, rfl, rfl, ⟨_, _, rfl, rfl, ⟨_, _, rfl, ⟨A2, c2, rfl, hl2, hC2⟩, ⟨_, _, rfl, rfl, s_Tag⟩⟩⟩⟩ := h
 obtain rfl := jX s_Tag
 exact ⟨A2, c2, rfl, hl2, hC2⟩
theorem ki_Sent_at {w : World} {A : Option Addr} {l : List GSent} (h : C fD w A l) (i : Nat) (hi : i < l.length) : ∃ (ad : Addr) (A2 : Option Addr) (c2 : Nat), A = some ad ∧ w.cell? (ad.add (i * 7)) = some (.int .i64 l[i].Target) ∧ w.cell? ⟨(ad.add (i * 7)).block, (ad.add (i * 7)).off + 1, none⟩ = some (.string l[i].Name) ∧ w.cell? ⟨(ad.add (i * 7)).block, (ad.add (i * 7)).off + 2, none⟩ = some (.slice A2 l[i].bK.length c2) ∧ w.cell? ⟨(ad.add (i * 7)).block, (ad.add (i * 7)).off + 3, none⟩ = some (.int .i64 l[i].Result) ∧ w.cell? ⟨(ad.add (i * 7)).block, (ad.add (i * 7)).off + 4, none⟩ = some (.int .i64 l[i].Tag.Vat) ∧ w.cell? ⟨(ad.add (i * 7)).block, (ad.add (i * 7)).off + 5, none⟩ = some (.int .i64 l[i].Tag.Entity) ∧ w.cell? ⟨(ad.add (i * 7)).block, (ad.add (i * 7)).off + 6, none⟩ = some (.int .i64 l[i].Tag.Seq) ∧ l[i].bK.length ≤ c2 ∧ C dL w A2 l[i].bK := by
 obtain ⟨ad, c, h1, h2, h3, h4⟩ := C_at h i hi
 obtain ⟨A2, c2, rfl, hl2, hC2⟩ := ki_Sent_K h2
 exact ⟨ad, A2, c2, h1, h3 _ rfl, h4 0 _ rfl, h4 1 _ rfl, h4 2 _ rfl, h4 3 _ rfl, h4 4 _ rfl, h4 5 _ rfl, hl2, hC2⟩
theorem ki_Sent_M {w : World} {F : Nat → Prop} {x : GSent} {cs : List Value} (h : fD.M w F x cs) : ∃ (v2 : Value) (P2 : Nat → Prop), cs = [.int .i64 x.Target, .string x.Name, v2, .int .i64 x.Result, .int .i64 x.Tag.Vat, .int .i64 x.Tag.Entity, .int .i64 x.Tag.Seq] ∧ R dL 129 w P2 v2 x.bK ∧ (∀ k, P2 k → F k) := by
 obtain ⟨_, _, F0, G0, rfl, rfl, ⟨_, _, F1, G1, rfl, rfl, ⟨_, _, F2, G2, rfl, ⟨v2, rfl, hR2⟩, ⟨_, _, F3, G3, rfl, rfl, s4, a3, b3, d3⟩, a2, b2, d2⟩, a1, b1, d1⟩, a0, b0, d0⟩ := h
 obtain rfl := ki_Tag_M s4
 exact ⟨v2, F2, rfl, hR2, fun k hk => (b0 k (b1 k (a2 k hk)))⟩
theorem ki_Sent_mk (w : World) (F : Nat → Prop) (x : GSent) {v2 : Value} {P2 : Nat → Prop} (h2 : R dL 129 w P2 v2 x.bK) (i2 : ∀ k, P2 k → F k) : fD.M w F x [.int .i64 x.Target, .string x.Name, v2, .int .i64 x.Result, .int .i64 x.Tag.Vat, .int .i64 x.Tag.Entity, .int .i64 x.Tag.Seq] :=
 ⟨[_], [_, _, _, _, _, _], No, P2, rfl, rfl, ⟨[_], [_, _, _, _, _], No, P2, rfl, rfl, ⟨[_], [_, _, _, _], P2, No, rfl, ⟨_, rfl, h2⟩, ⟨[_], [_, _, _], No, No, rfl, rfl, (lC w No _), fun _ h => h.elim, fun _ h => h.elim, fun _ h => h.elim⟩, fun _ h => h, fun _ h => h.elim, fun _ _ h => h.elim⟩, fun _ h => h.elim, fun _ h => h, fun _ h => h.elim⟩, fun _ h => h.elim, i2, fun _ h => h.elim⟩
theorem ki_Sent_info : (Tryz.prog.info? 178).map (fun i => (i.zero, i.size, i.bytes)) = some (some (.agg #[.int .i64 0, .string ⟨#[]⟩, .slice none 0 0, .int .i64 0, .int .i64 0, .int .i64 0, .int .i64 0]), 7, 80) := by kernel_rfl
theorem ki_Sent_zero (w : World) : fD.M w No zSent [.int .i64 0, .string ⟨#[]⟩, .slice none 0 0, .int .i64 0, .int .i64 0, .int .i64 0, .int .i64 0] := ki_Sent_mk w No zSent (P2 := No) R_nil (fun _ h => h)
def jR : Kn GAsker := Kn.iso (Kn.pair Kn.int Kn.int) (fun x => (x.iU, x.Question))
theorem kl_Asker_K {w : World} {x : GAsker} {cs : List Value} (h : jR.K w x cs) : cs = [.int .i64 x.iU, .int .i64 x.Question] := by
 obtain ⟨_, _, rfl, rfl, rfl⟩ := h
 exact rfl
theorem kl_Asker_at {w : World} {A : Option Addr} {l : List GAsker} (h : C jR w A l) (i : Nat) (hi : i < l.length) : ∃ (ad : Addr), A = some ad ∧ w.cell? (ad.add (i * 2)) = some (.int .i64 l[i].iU) ∧ w.cell? ⟨(ad.add (i * 2)).block, (ad.add (i * 2)).off + 1, none⟩ = some (.int .i64 l[i].Question) := by
 obtain ⟨ad, c, h1, h2, h3, h4⟩ := C_at h i hi
 obtain rfl := kl_Asker_K h2
 exact ⟨ad, h1, h3 _ rfl, h4 0 _ rfl⟩
def fH : Kn GAsker := Kn.iso (Kn.pair Kn.int Kn.int) (fun x => (x.iU, x.Question))
theorem ki_Asker_K {w : World} {x : GAsker} {cs : List Value} (h : fH.K w x cs) : cs = [.int .i64 x.iU, .int .i64 x.Question] := by
 obtain ⟨_, _, rfl, rfl, rfl⟩ := h
 exact rfl
theorem ki_Asker_at {w : World} {A : Option Addr} {l : List GAsker} (h : C fH w A l) (i : Nat) (hi : i < l.length) : ∃ (ad : Addr), A = some ad ∧ w.cell? (ad.add (i * 2)) = some (.int .i64 l[i].iU) ∧ w.cell? ⟨(ad.add (i * 2)).block, (ad.add (i * 2)).off + 1, none⟩ = some (.int .i64 l[i].Question) := by
 obtain ⟨ad, c, h1, h2, h3, h4⟩ := C_at h i hi
 obtain rfl := ki_Asker_K h2
 exact ⟨ad, h1, h3 _ rfl, h4 0 _ rfl⟩
theorem ki_Asker_M {w : World} {F : Nat → Prop} {x : GAsker} {cs : List Value} (h : fH.M w F x cs) : cs = [.int .i64 x.iU, .int .i64 x.Question] := by
 exact ki_Asker_K (fH.jT h)
theorem nT (w : World) (F : Nat → Prop) (x : GAsker) : fH.M w F x [.int .i64 x.iU, .int .i64 x.Question] :=
 ⟨[_], [_], No, No, rfl, rfl, rfl, fun _ h => h.elim, fun _ h => h.elim, fun _ h => h.elim⟩
theorem ki_Asker_info : (Tryz.prog.info? 184).map (fun i => (i.zero, i.size, i.bytes)) = some (some (.agg #[.int .i64 0, .int .i64 0]), 2, 16) := by kernel_rfl
theorem ki_Asker_zero (w : World) : fH.M w No zAsker [.int .i64 0, .int .i64 0] := nT w No zAsker
def iG : Kn GEntity := Kn.iso (Kn.pair Kn.int (Kn.pair Kn.int (Kn.pair (Kn.slice 201 gP) (Kn.pair Kn.int (Kn.pair gP (Kn.pair (Kn.slice 207 iM) (Kn.pair (Kn.slice 247 jR) (Kn.pair Kn.int (Kn.pair Kn.int (Kn.pair Kn.int Kn.int)))))))))) (fun x => (x.Kind, x.Script, x.fF, x.State, x.Value, x.Queue, x.dN, x.iU, x.Pos, x.Count, x.Sent))
theorem kl_Entity_K {w : World} {x : GEntity} {cs : List Value} (h : iG.K w x cs) : ∃ (A2 : Option Addr) (c2 : Nat) (A6 : Option Addr) (c6 : Nat) (A7 : Option Addr) (c7 : Nat), cs = [.int .i64 x.Kind, .int .i64 x.Script, .slice A2 x.fF.length c2, .int .i64 x.State, .int .i64 x.Value.Kind, .int .i64 x.Value.N, .slice A6 x.Queue.length c6, .slice A7 x.dN.length c7, .int .i64 x.iU, .int .i64 x.Pos, .int .i64 x.Count, .int .i64 x.Sent] ∧ x.fF.length ≤ c2 ∧ C gP w A2 x.fF ∧ x.Queue.length ≤ c6 ∧ C iM w A6 x.Queue ∧ x.dN.length ≤ c7 ∧ C jR w A7 x.dN := by
 obtain ⟨_, _, rfl, rfl, ⟨_, _, rfl, rfl, ⟨_, _, rfl, ⟨A2, c2, rfl, hl2, hC2⟩, ⟨_, _, rfl, rfl, ⟨_, _, rfl, s_Value, ⟨_, _, rfl, ⟨A6, c6, rfl, hl6, hC6⟩, ⟨_, _, rfl, ⟨A7, c7, rfl, hl7, hC7⟩, ⟨_, _, rfl, rfl, ⟨_, _, rfl, rfl, ⟨_, _, rfl, rfl, rfl⟩⟩⟩⟩⟩⟩⟩⟩⟩⟩ := h
 obtain rfl := kl_Value_K s_Value
 exact ⟨A2, c2, A6, c6, A7, c7, rfl, hl2, hC2, hl6, hC6, hl7, hC7⟩
theorem kl_Entity_at {w : World} {A : Option Addr} {l : List GEntity} (h : C iG w A l) (i : Nat) (hi : i < l.length) : ∃ (ad : Addr) (A2 : Option Addr) (c2 : Nat) (A6 : Option Addr) (c6 : Nat) (A7 : Option Addr) (c7 : Nat), A = some ad ∧ w.cell? (ad.add (i * 12)) = some (.int .i64 l[i].Kind) ∧ w.cell? ⟨(ad.add (i * 12)).block, (ad.add (i * 12)).off + 1, none⟩ = some (.int .i64 l[i].Script) ∧ w.cell? ⟨(ad.add (i * 12)).block, (ad.add (i * 12)).off + 2, none⟩ = some (.slice A2 l[i].fF.length c2) ∧ w.cell? ⟨(ad.add (i * 12)).block, (ad.add (i * 12)).off + 3, none⟩ = some (.int .i64 l[i].State) ∧ w.cell? ⟨(ad.add (i * 12)).block, (ad.add (i * 12)).off + 4, none⟩ = some (.int .i64 l[i].Value.Kind) ∧ w.cell? ⟨(ad.add (i * 12)).block, (ad.add (i * 12)).off + 5, none⟩ = some (.int .i64 l[i].Value.N) ∧ w.cell? ⟨(ad.add (i * 12)).block, (ad.add (i * 12)).off + 6, none⟩ = some (.slice A6 l[i].Queue.length c6) ∧ w.cell? ⟨(ad.add (i * 12)).block, (ad.add (i * 12)).off + 7, none⟩ = some (.slice A7 l[i].dN.length c7) ∧ w.cell? ⟨(ad.add (i * 12)).block, (ad.add (i * 12)).off + 8, none⟩ = some (.int .i64 l[i].iU) ∧ w.cell? ⟨(ad.add (i * 12)).block, (ad.add (i * 12)).off + 9, none⟩ = some (.int .i64 l[i].Pos) ∧ w.cell? ⟨(ad.add (i * 12)).block, (ad.add (i * 12)).off + 10, none⟩ = some (.int .i64 l[i].Count) ∧ w.cell? ⟨(ad.add (i * 12)).block, (ad.add (i * 12)).off + 11, none⟩ = some (.int .i64 l[i].Sent) ∧ l[i].fF.length ≤ c2 ∧ C gP w A2 l[i].fF ∧ l[i].Queue.length ≤ c6 ∧ C iM w A6 l[i].Queue ∧ l[i].dN.length ≤ c7 ∧ C jR w A7 l[i].dN := by
 obtain ⟨ad, c, h1, h2, h3, h4⟩ := C_at h i hi
 obtain ⟨A2, c2, A6, c6, A7, c7, rfl, hl2, hC2, hl6, hC6, hl7, hC7⟩ := kl_Entity_K h2
 exact ⟨ad, A2, c2, A6, c6, A7, c7, h1, h3 _ rfl, h4 0 _ rfl, h4 1 _ rfl, h4 2 _ rfl, h4 3 _ rfl, h4 4 _ rfl, h4 5 _ rfl, h4 6 _ rfl, h4 7 _ rfl, h4 8 _ rfl, h4 9 _ rfl, h4 10 _ rfl, hl2, hC2, hl6, hC6, hl7, hC7⟩
def dW : Kn GEntity := Kn.iso (Kn.pair Kn.int (Kn.pair Kn.int (Kn.pair (Kn.slice 129 dL) (Kn.pair Kn.int (Kn.pair dL (Kn.pair (Kn.slice 178 fD) (Kn.pair (Kn.slice 184 fH) (Kn.pair Kn.int (Kn.pair Kn.int (Kn.pair Kn.int Kn.int)))))))))) (fun x => (x.Kind, x.Script, x.fF, x.State, x.Value, x.Queue, x.dN, x.iU, x.Pos, x.Count, x.Sent))
theorem ki_Entity_K {w : World} {x : GEntity} {cs : List Value} (h : dW.K w x cs) : ∃ (A2 : Option Addr) (c2 : Nat) (A6 : Option Addr) (c6 : Nat) (A7 : Option Addr) (c7 : Nat), cs = [.int .i64 x.Kind, .int .i64 x.Script, .slice A2 x.fF.length c2, .int .i64 x.State, .int .i64 x.Value.Kind, .int .i64 x.Value.N, .slice A6 x.Queue.length c6, .slice A7 x.dN.length c7, .int .i64 x.iU, .int .i64 x.Pos, .int .i64 x.Count, .int .i64 x.Sent] ∧ x.fF.length ≤ c2 ∧ C dL w A2 x.fF ∧ x.Queue.length ≤ c6 ∧ C fD w A6 x.Queue ∧ x.dN.length ≤ c7 ∧ C fH w A7 x.dN := by
 obtain ⟨_, _, rfl, rfl, ⟨_, _, rfl, rfl, ⟨_, _, rfl, ⟨A2, c2, rfl, hl2, hC2⟩, ⟨_, _, rfl, rfl, ⟨_, _, rfl, s_Value, ⟨_, _, rfl, ⟨A6, c6, rfl, hl6, hC6⟩, ⟨_, _, rfl, ⟨A7, c7, rfl, hl7, hC7⟩, ⟨_, _, rfl, rfl, ⟨_, _, rfl, rfl, ⟨_, _, rfl, rfl, rfl⟩⟩⟩⟩⟩⟩⟩⟩⟩⟩ := h
 obtain rfl := nM s_Value
 exact ⟨A2, c2, A6, c6, A7, c7, rfl, hl2, hC2, hl6, hC6, hl7, hC7⟩
theorem ki_Entity_at {w : World} {A : Option Addr} {l : List GEntity} (h : C dW w A l) (i : Nat) (hi : i < l.length) : ∃ (ad : Addr) (A2 : Option Addr) (c2 : Nat) (A6 : Option Addr) (c6 : Nat) (A7 : Option Addr) (c7 : Nat), A = some ad ∧ w.cell? (ad.add (i * 12)) = some (.int .i64 l[i].Kind) ∧ w.cell? ⟨(ad.add (i * 12)).block, (ad.add (i * 12)).off + 1, none⟩ = some (.int .i64 l[i].Script) ∧ w.cell? ⟨(ad.add (i * 12)).block, (ad.add (i * 12)).off + 2, none⟩ = some (.slice A2 l[i].fF.length c2) ∧ w.cell? ⟨(ad.add (i * 12)).block, (ad.add (i * 12)).off + 3, none⟩ = some (.int .i64 l[i].State) ∧ w.cell? ⟨(ad.add (i * 12)).block, (ad.add (i * 12)).off + 4, none⟩ = some (.int .i64 l[i].Value.Kind) ∧ w.cell? ⟨(ad.add (i * 12)).block, (ad.add (i * 12)).off + 5, none⟩ = some (.int .i64 l[i].Value.N) ∧ w.cell? ⟨(ad.add (i * 12)).block, (ad.add (i * 12)).off + 6, none⟩ = some (.slice A6 l[i].Queue.length c6) ∧ w.cell? ⟨(ad.add (i * 12)).block, (ad.add (i * 12)).off + 7, none⟩ = some (.slice A7 l[i].dN.length c7) ∧ w.cell? ⟨(ad.add (i * 12)).block, (ad.add (i * 12)).off + 8, none⟩ = some (.int .i64 l[i].iU) ∧ w.cell? ⟨(ad.add (i * 12)).block, (ad.add (i * 12)).off + 9, none⟩ = some (.int .i64 l[i].Pos) ∧ w.cell? ⟨(ad.add (i * 12)).block, (ad.add (i * 12)).off + 10, none⟩ = some (.int .i64 l[i].Count) ∧ w.cell? ⟨(ad.add (i * 12)).block, (ad.add (i * 12)).off + 11, none⟩ = some (.int .i64 l[i].Sent) ∧ l[i].fF.length ≤ c2 ∧ C dL w A2 l[i].fF ∧ l[i].Queue.length ≤ c6 ∧ C fD w A6 l[i].Queue ∧ l[i].dN.length ≤ c7 ∧ C fH w A7 l[i].dN := by
 obtain ⟨ad, c, h1, h2, h3, h4⟩ := C_at h i hi
 obtain ⟨A2, c2, A6, c6, A7, c7, rfl, hl2, hC2, hl6, hC6, hl7, hC7⟩ := ki_Entity_K h2
 exact ⟨ad, A2, c2, A6, c6, A7, c7, h1, h3 _ rfl, h4 0 _ rfl, h4 1 _ rfl, h4 2 _ rfl, h4 3 _ rfl, h4 4 _ rfl, h4 5 _ rfl, h4 6 _ rfl, h4 7 _ rfl, h4 8 _ rfl, h4 9 _ rfl, h4 10 _ rfl, hl2, hC2, hl6, hC6, hl7, hC7⟩
theorem ki_Entity_M {w : World} {F : Nat → Prop} {x : GEntity} {cs : List Value} (h : dW.M w F x cs) : ∃ (v2 : Value) (P2 : Nat → Prop) (v6 : Value) (P6 : Nat → Prop) (v7 : Value) (P7 : Nat → Prop), cs = [.int .i64 x.Kind, .int .i64 x.Script, v2, .int .i64 x.State, .int .i64 x.Value.Kind, .int .i64 x.Value.N, v6, v7, .int .i64 x.iU, .int .i64 x.Pos, .int .i64 x.Count, .int .i64 x.Sent] ∧ R dL 129 w P2 v2 x.fF ∧ R fD 178 w P6 v6 x.Queue ∧ R fH 184 w P7 v7 x.dN ∧ (∀ k, P2 k → F k) ∧ (∀ k, P6 k → F k) ∧ (∀ k, P7 k → F k) ∧ (∀ k, P2 k → ¬ P6 k) ∧ (∀ k, P2 k → ¬ P7 k) ∧ (∀ k, P6 k → ¬ P7 k) := by
 obtain ⟨_, _, F0, G0, rfl, rfl, ⟨_, _, F1, G1, rfl, rfl, ⟨_, _, F2, G2, rfl, ⟨v2, rfl, hR2⟩, ⟨_, _, F3, G3, rfl, rfl, ⟨_, _, F4, G4, rfl, s4, ⟨_, _, F5, G5, rfl, ⟨v6, rfl, hR6⟩, ⟨_, _, F6, G6, rfl, ⟨v7, rfl, hR7⟩, ⟨_, _, F7, G7, rfl, rfl, ⟨_, _, F8, G8, rfl, rfl, ⟨_, _, F9, G9, rfl, rfl, rfl, a9, b9, d9⟩, a8, b8, d8⟩, a7, b7, d7⟩, a6, b6, d6⟩, a5, b5, d5⟩, a4, b4, d4⟩, a3, b3, d3⟩, a2, b2, d2⟩, a1, b1, d1⟩, a0, b0, d0⟩ := h
 obtain rfl := nN s4
 exact ⟨v2, F2, v6, F5, v7, F6, rfl, hR2, hR6, hR7, fun k hk => (b0 k (b1 k (a2 k hk))), fun k hk => (b0 k (b1 k (b2 k (b3 k (b4 k (a5 k hk)))))), fun k hk => (b0 k (b1 k (b2 k (b3 k (b4 k (b5 k (a6 k hk))))))), fun k hk hk' => d2 k hk (b3 k (b4 k (a5 k hk'))), fun k hk hk' => d2 k hk (b3 k (b4 k (b5 k (a6 k hk')))), fun k hk hk' => d5 k hk (a6 k hk')⟩
theorem nA (w : World) (F : Nat → Prop) (x : GEntity) {v2 : Value} {P2 : Nat → Prop} (h2 : R dL 129 w P2 v2 x.fF) {v6 : Value} {P6 : Nat → Prop} (h6 : R fD 178 w P6 v6 x.Queue) {v7 : Value} {P7 : Nat → Prop} (h7 : R fH 184 w P7 v7 x.dN) (i2 : ∀ k, P2 k → F k) (i6 : ∀ k, P6 k → F k) (i7 : ∀ k, P7 k → F k) (d2_6 : ∀ k, P2 k → ¬ P6 k) (d2_7 : ∀ k, P2 k → ¬ P7 k) (d6_7 : ∀ k, P6 k → ¬ P7 k) : dW.M w F x [.int .i64 x.Kind, .int .i64 x.Script, v2, .int .i64 x.State, .int .i64 x.Value.Kind, .int .i64 x.Value.N, v6, v7, .int .i64 x.iU, .int .i64 x.Pos, .int .i64 x.Count, .int .i64 x.Sent] :=
 ⟨[_], [_, _, _, _, _, _, _, _, _, _, _], No, (fun k => P2 k ∨ P6 k ∨ P7 k), rfl, rfl, ⟨[_], [_, _, _, _, _, _, _, _, _, _], No, (fun k => P2 k ∨ P6 k ∨ P7 k), rfl, rfl, ⟨[_], [_, _, _, _, _, _, _, _, _], P2, (fun k => P6 k ∨ P7 k), rfl, ⟨_, rfl, h2⟩, ⟨[_], [_, _, _, _, _, _, _, _], No, (fun k => P6 k ∨ P7 k), rfl, rfl, ⟨[_, _], [_, _, _, _, _, _], No, (fun k => P6 k ∨ P7 k), rfl, (mQ w No _), ⟨[_], [_, _, _, _, _], P6, P7, rfl, ⟨_, rfl, h6⟩, ⟨[_], [_, _, _, _], P7, No, rfl, ⟨_, rfl, h7⟩, ⟨[_], [_, _, _], No, No, rfl, rfl, ⟨[_], [_, _], No, No, rfl, rfl, ⟨[_], [_], No, No, rfl, rfl, rfl, fun _ h => h.elim, fun _ h => h.elim, fun _ h => h.elim⟩, fun _ h => h.elim, fun _ h => h.elim, fun _ h => h.elim⟩, fun _ h => h.elim, fun _ h => h.elim, fun _ h => h.elim⟩, fun _ h => h, fun _ h => h.elim, fun _ _ h => h.elim⟩, fun k h => by first | exact h | exact Or.inl h | exact Or.inr h, fun k h => by first | exact h | exact Or.inl h | exact Or.inr h, fun k h h' => by exact d6_7 k h h'⟩, fun _ h => h.elim, fun k h => by first | exact h | exact Or.inl h | exact Or.inr h, fun _ h => h.elim⟩, fun _ h => h.elim, fun k h => by first | exact h | exact Or.inl h | exact Or.inr h, fun _ h => h.elim⟩, fun k h => by first | exact h | exact Or.inl h | exact Or.inr h, fun k h => by first | exact h | exact Or.inl h | exact Or.inr h, fun k h h' => by rcases h' with h' | h' <;> first | exact d2_6 k h h' | exact d2_7 k h h'⟩, fun _ h => h.elim, fun k h => by first | exact h | exact Or.inl h | exact Or.inr h, fun _ h => h.elim⟩, fun _ h => h.elim, fun k h => by rcases h with h | h | h <;> first | exact i2 k h | exact i6 k h | exact i7 k h, fun _ h => h.elim⟩
theorem ki_Entity_info : (Tryz.prog.info? 132).map (fun i => (i.zero, i.size, i.bytes)) = some (some (.agg #[.int .i64 0, .int .i64 0, .slice none 0 0, .int .i64 0, .int .i64 0, .int .i64 0, .slice none 0 0, .slice none 0 0, .int .i64 0, .int .i64 0, .int .i64 0, .int .i64 0]), 12, 144) := by kernel_rfl
theorem ki_Entity_zero (w : World) : dW.M w No zEntity [.int .i64 0, .int .i64 0, .slice none 0 0, .int .i64 0, .int .i64 0, .int .i64 0, .slice none 0 0, .slice none 0 0, .int .i64 0, .int .i64 0, .int .i64 0, .int .i64 0] := nA w No zEntity (P2 := No) R_nil (P6 := No) R_nil (P7 := No) R_nil (fun _ h => h) (fun _ h => h) (fun _ h => h) (fun _ h => h.elim) (fun _ h => h.elim) (fun _ h => h.elim)
def iQ : Kn GExport := Kn.iso (Kn.pair Kn.int (Kn.pair Kn.int Kn.int)) (fun x => (x.Pos, x.Entity, x.Count))
theorem kl_Export_K {w : World} {x : GExport} {cs : List Value} (h : iQ.K w x cs) : cs = [.int .i64 x.Pos, .int .i64 x.Entity, .int .i64 x.Count] := by
 obtain ⟨_, _, rfl, rfl, ⟨_, _, rfl, rfl, rfl⟩⟩ := h
 exact rfl
theorem kl_Export_at {w : World} {A : Option Addr} {l : List GExport} (h : C iQ w A l) (i : Nat) (hi : i < l.length) : ∃ (ad : Addr), A = some ad ∧ w.cell? (ad.add (i * 3)) = some (.int .i64 l[i].Pos) ∧ w.cell? ⟨(ad.add (i * 3)).block, (ad.add (i * 3)).off + 1, none⟩ = some (.int .i64 l[i].Entity) ∧ w.cell? ⟨(ad.add (i * 3)).block, (ad.add (i * 3)).off + 2, none⟩ = some (.int .i64 l[i].Count) := by
 obtain ⟨ad, c, h1, h2, h3, h4⟩ := C_at h i hi
 obtain rfl := kl_Export_K h2
 exact ⟨ad, h1, h3 _ rfl, h4 0 _ rfl, h4 1 _ rfl⟩
def dX : Kn GExport := Kn.iso (Kn.pair Kn.int (Kn.pair Kn.int Kn.int)) (fun x => (x.Pos, x.Entity, x.Count))
theorem nU {w : World} {x : GExport} {cs : List Value} (h : dX.K w x cs) : cs = [.int .i64 x.Pos, .int .i64 x.Entity, .int .i64 x.Count] := by
 obtain ⟨_, _, rfl, rfl, ⟨_, _, rfl, rfl, rfl⟩⟩ := h
 exact rfl
theorem ki_Export_at {w : World} {A : Option Addr} {l : List GExport} (h : C dX w A l) (i : Nat) (hi : i < l.length) : ∃ (ad : Addr), A = some ad ∧ w.cell? (ad.add (i * 3)) = some (.int .i64 l[i].Pos) ∧ w.cell? ⟨(ad.add (i * 3)).block, (ad.add (i * 3)).off + 1, none⟩ = some (.int .i64 l[i].Entity) ∧ w.cell? ⟨(ad.add (i * 3)).block, (ad.add (i * 3)).off + 2, none⟩ = some (.int .i64 l[i].Count) := by
 obtain ⟨ad, c, h1, h2, h3, h4⟩ := C_at h i hi
 obtain rfl := nU h2
 exact ⟨ad, h1, h3 _ rfl, h4 0 _ rfl, h4 1 _ rfl⟩
theorem ki_Export_M {w : World} {F : Nat → Prop} {x : GExport} {cs : List Value} (h : dX.M w F x cs) : cs = [.int .i64 x.Pos, .int .i64 x.Entity, .int .i64 x.Count] := by
 exact nU (dX.jT h)
theorem nC (w : World) (F : Nat → Prop) (x : GExport) : dX.M w F x [.int .i64 x.Pos, .int .i64 x.Entity, .int .i64 x.Count] :=
 ⟨[_], [_, _], No, No, rfl, rfl, ⟨[_], [_], No, No, rfl, rfl, rfl, fun _ h => h.elim, fun _ h => h.elim, fun _ h => h.elim⟩, fun _ h => h.elim, fun _ h => h.elim, fun _ h => h.elim⟩
theorem ki_Export_info : (Tryz.prog.info? 186).map (fun i => (i.zero, i.size, i.bytes)) = some (some (.agg #[.int .i64 0, .int .i64 0, .int .i64 0]), 3, 24) := by kernel_rfl
theorem ki_Export_zero (w : World) : dX.M w No zExport [.int .i64 0, .int .i64 0, .int .i64 0] := nC w No zExport
def fA : Kn GQuestion := Kn.iso (Kn.pair Kn.int Kn.int) (fun x => (x.Id, x.Promise))
theorem kl_Question_K {w : World} {x : GQuestion} {cs : List Value} (h : fA.K w x cs) : cs = [.int .i64 x.Id, .int .i64 x.Promise] := by
 obtain ⟨_, _, rfl, rfl, rfl⟩ := h
 exact rfl
theorem kl_Question_at {w : World} {A : Option Addr} {l : List GQuestion} (h : C fA w A l) (i : Nat) (hi : i < l.length) : ∃ (ad : Addr), A = some ad ∧ w.cell? (ad.add (i * 2)) = some (.int .i64 l[i].Id) ∧ w.cell? ⟨(ad.add (i * 2)).block, (ad.add (i * 2)).off + 1, none⟩ = some (.int .i64 l[i].Promise) := by
 obtain ⟨ad, c, h1, h2, h3, h4⟩ := C_at h i hi
 obtain rfl := kl_Question_K h2
 exact ⟨ad, h1, h3 _ rfl, h4 0 _ rfl⟩
def bI : Kn GQuestion := Kn.iso (Kn.pair Kn.int Kn.int) (fun x => (x.Id, x.Promise))
theorem mJ {w : World} {x : GQuestion} {cs : List Value} (h : bI.K w x cs) : cs = [.int .i64 x.Id, .int .i64 x.Promise] := by
 obtain ⟨_, _, rfl, rfl, rfl⟩ := h
 exact rfl
theorem ki_Question_at {w : World} {A : Option Addr} {l : List GQuestion} (h : C bI w A l) (i : Nat) (hi : i < l.length) : ∃ (ad : Addr), A = some ad ∧ w.cell? (ad.add (i * 2)) = some (.int .i64 l[i].Id) ∧ w.cell? ⟨(ad.add (i * 2)).block, (ad.add (i * 2)).off + 1, none⟩ = some (.int .i64 l[i].Promise) := by
 obtain ⟨ad, c, h1, h2, h3, h4⟩ := C_at h i hi
 obtain rfl := mJ h2
 exact ⟨ad, h1, h3 _ rfl, h4 0 _ rfl⟩
theorem nV {w : World} {F : Nat → Prop} {x : GQuestion} {cs : List Value} (h : bI.M w F x cs) : cs = [.int .i64 x.Id, .int .i64 x.Promise] := by
 exact mJ (bI.jT h)
theorem lK (w : World) (F : Nat → Prop) (x : GQuestion) : bI.M w F x [.int .i64 x.Id, .int .i64 x.Promise] :=
 ⟨[_], [_], No, No, rfl, rfl, rfl, fun _ h => h.elim, fun _ h => h.elim, fun _ h => h.elim⟩
theorem ki_Question_info : (Tryz.prog.info? 193).map (fun i => (i.zero, i.size, i.bytes)) = some (some (.agg #[.int .i64 0, .int .i64 0]), 2, 16) := by kernel_rfl
theorem ki_Question_zero (w : World) : bI.M w No kX [.int .i64 0, .int .i64 0] := lK w No kX
def kK : Kn GLink := Kn.iso (Kn.pair Kn.int (Kn.pair Kn.bool (Kn.pair (Kn.slice 249 iQ) (Kn.pair Kn.int (Kn.pair (Kn.slice 251 fA) (Kn.pair Kn.int (Kn.slice 251 fA))))))) (fun x => (x.iU, x.Up, x.bW, x.Next, x.bC, x.Asked, x.cO))
theorem kl_Link_K {w : World} {x : GLink} {cs : List Value} (h : kK.K w x cs) : ∃ (A2 : Option Addr) (c2 : Nat) (A4 : Option Addr) (c4 : Nat) (A6 : Option Addr) (c6 : Nat), cs = [.int .i64 x.iU, .bool x.Up, .slice A2 x.bW.length c2, .int .i64 x.Next, .slice A4 x.bC.length c4, .int .i64 x.Asked, .slice A6 x.cO.length c6] ∧ x.bW.length ≤ c2 ∧ C iQ w A2 x.bW ∧ x.bC.length ≤ c4 ∧ C fA w A4 x.bC ∧ x.cO.length ≤ c6 ∧ C fA w A6 x.cO := by
 obtain ⟨_, _, rfl, rfl, ⟨_, _, rfl, rfl, ⟨_, _, rfl, ⟨A2, c2, rfl, hl2, hC2⟩, ⟨_, _, rfl, rfl, ⟨_, _, rfl, ⟨A4, c4, rfl, hl4, hC4⟩, ⟨_, _, rfl, rfl, ⟨A6, c6, rfl, hl6, hC6⟩⟩⟩⟩⟩⟩⟩ := h
 exact ⟨A2, c2, A4, c4, A6, c6, rfl, hl2, hC2, hl4, hC4, hl6, hC6⟩
theorem kl_Link_at {w : World} {A : Option Addr} {l : List GLink} (h : C kK w A l) (i : Nat) (hi : i < l.length) : ∃ (ad : Addr) (A2 : Option Addr) (c2 : Nat) (A4 : Option Addr) (c4 : Nat) (A6 : Option Addr) (c6 : Nat), A = some ad ∧ w.cell? (ad.add (i * 7)) = some (.int .i64 l[i].iU) ∧ w.cell? ⟨(ad.add (i * 7)).block, (ad.add (i * 7)).off + 1, none⟩ = some (.bool l[i].Up) ∧ w.cell? ⟨(ad.add (i * 7)).block, (ad.add (i * 7)).off + 2, none⟩ = some (.slice A2 l[i].bW.length c2) ∧ w.cell? ⟨(ad.add (i * 7)).block, (ad.add (i * 7)).off + 3, none⟩ = some (.int .i64 l[i].Next) ∧ w.cell? ⟨(ad.add (i * 7)).block, (ad.add (i * 7)).off + 4, none⟩ = some (.slice A4 l[i].bC.length c4) ∧ w.cell? ⟨(ad.add (i * 7)).block, (ad.add (i * 7)).off + 5, none⟩ = some (.int .i64 l[i].Asked) ∧ w.cell? ⟨(ad.add (i * 7)).block, (ad.add (i * 7)).off + 6, none⟩ = some (.slice A6 l[i].cO.length c6) ∧ l[i].bW.length ≤ c2 ∧ C iQ w A2 l[i].bW ∧ l[i].bC.length ≤ c4 ∧ C fA w A4 l[i].bC ∧ l[i].cO.length ≤ c6 ∧ C fA w A6 l[i].cO := by
 obtain ⟨ad, c, h1, h2, h3, h4⟩ := C_at h i hi
 obtain ⟨A2, c2, A4, c4, A6, c6, rfl, hl2, hC2, hl4, hC4, hl6, hC6⟩ := kl_Link_K h2
 exact ⟨ad, A2, c2, A4, c4, A6, c6, h1, h3 _ rfl, h4 0 _ rfl, h4 1 _ rfl, h4 2 _ rfl, h4 3 _ rfl, h4 4 _ rfl, h4 5 _ rfl, hl2, hC2, hl4, hC4, hl6, hC6⟩
def gH : Kn GLink := Kn.iso (Kn.pair Kn.int (Kn.pair Kn.bool (Kn.pair (Kn.slice 186 dX) (Kn.pair Kn.int (Kn.pair (Kn.slice 193 bI) (Kn.pair Kn.int (Kn.slice 193 bI))))))) (fun x => (x.iU, x.Up, x.bW, x.Next, x.bC, x.Asked, x.cO))
theorem ki_Link_K {w : World} {x : GLink} {cs : List Value} (h : gH.K w x cs) : ∃ (A2 : Option Addr) (c2 : Nat) (A4 : Option Addr) (c4 : Nat) (A6 : Option Addr) (c6 : Nat), cs = [.int .i64 x.iU, .bool x.Up, .slice A2 x.bW.length c2, .int .i64 x.Next, .slice A4 x.bC.length c4, .int .i64 x.Asked, .slice A6 x.cO.length c6] ∧ x.bW.length ≤ c2 ∧ C dX w A2 x.bW ∧ x.bC.length ≤ c4 ∧ C bI w A4 x.bC ∧ x.cO.length ≤ c6 ∧ C bI w A6 x.cO := by
 obtain ⟨_, _, rfl, rfl, ⟨_, _, rfl, rfl, ⟨_, _, rfl, ⟨A2, c2, rfl, hl2, hC2⟩, ⟨_, _, rfl, rfl, ⟨_, _, rfl, ⟨A4, c4, rfl, hl4, hC4⟩, ⟨_, _, rfl, rfl, ⟨A6, c6, rfl, hl6, hC6⟩⟩⟩⟩⟩⟩⟩ := h
 exact ⟨A2, c2, A4, c4, A6, c6, rfl, hl2, hC2, hl4, hC4, hl6, hC6⟩
theorem ki_Link_at {w : World} {A : Option Addr} {l : List GLink} (h : C gH w A l) (i : Nat) (hi : i < l.length) : ∃ (ad : Addr) (A2 : Option Addr) (c2 : Nat) (A4 : Option Addr) (c4 : Nat) (A6 : Option Addr) (c6 : Nat), A = some ad ∧ w.cell? (ad.add (i * 7)) = some (.int .i64 l[i].iU) ∧ w.cell? ⟨(ad.add (i * 7)).block, (ad.add (i * 7)).off + 1, none⟩ = some (.bool l[i].Up) ∧ w.cell? ⟨(ad.add (i * 7)).block, (ad.add (i * 7)).off + 2, none⟩ = some (.slice A2 l[i].bW.length c2) ∧ w.cell? ⟨(ad.add (i * 7)).block, (ad.add (i * 7)).off + 3, none⟩ = some (.int .i64 l[i].Next) ∧ w.cell? ⟨(ad.add (i * 7)).block, (ad.add (i * 7)).off + 4, none⟩ = some (.slice A4 l[i].bC.length c4) ∧ w.cell? ⟨(ad.add (i * 7)).block, (ad.add (i * 7)).off + 5, none⟩ = some (.int .i64 l[i].Asked) ∧ w.cell? ⟨(ad.add (i * 7)).block, (ad.add (i * 7)).off + 6, none⟩ = some (.slice A6 l[i].cO.length c6) ∧ l[i].bW.length ≤ c2 ∧ C dX w A2 l[i].bW ∧ l[i].bC.length ≤ c4 ∧ C bI w A4 l[i].bC ∧ l[i].cO.length ≤ c6 ∧ C bI w A6 l[i].cO := by
 obtain ⟨ad, c, h1, h2, h3, h4⟩ := C_at h i hi
 obtain ⟨A2, c2, A4, c4, A6, c6, rfl, hl2, hC2, hl4, hC4, hl6, hC6⟩ := ki_Link_K h2
 exact ⟨ad, A2, c2, A4, c4, A6, c6, h1, h3 _ rfl, h4 0 _ rfl, h4 1 _ rfl, h4 2 _ rfl, h4 3 _ rfl, h4 4 _ rfl, h4 5 _ rfl, hl2, hC2, hl4, hC4, hl6, hC6⟩
theorem ki_Link_M {w : World} {F : Nat → Prop} {x : GLink} {cs : List Value} (h : gH.M w F x cs) : ∃ (v2 : Value) (P2 : Nat → Prop) (v4 : Value) (P4 : Nat → Prop) (v6 : Value) (P6 : Nat → Prop), cs = [.int .i64 x.iU, .bool x.Up, v2, .int .i64 x.Next, v4, .int .i64 x.Asked, v6] ∧ R dX 186 w P2 v2 x.bW ∧ R bI 193 w P4 v4 x.bC ∧ R bI 193 w P6 v6 x.cO ∧ (∀ k, P2 k → F k) ∧ (∀ k, P4 k → F k) ∧ (∀ k, P6 k → F k) ∧ (∀ k, P2 k → ¬ P4 k) ∧ (∀ k, P2 k → ¬ P6 k) ∧ (∀ k, P4 k → ¬ P6 k) := by
 obtain ⟨_, _, F0, G0, rfl, rfl, ⟨_, _, F1, G1, rfl, rfl, ⟨_, _, F2, G2, rfl, ⟨v2, rfl, hR2⟩, ⟨_, _, F3, G3, rfl, rfl, ⟨_, _, F4, G4, rfl, ⟨v4, rfl, hR4⟩, ⟨_, _, F5, G5, rfl, rfl, ⟨v6, rfl, hR6⟩, a5, b5, d5⟩, a4, b4, d4⟩, a3, b3, d3⟩, a2, b2, d2⟩, a1, b1, d1⟩, a0, b0, d0⟩ := h
 exact ⟨v2, F2, v4, F4, v6, G5, rfl, hR2, hR4, hR6, fun k hk => (b0 k (b1 k (a2 k hk))), fun k hk => (b0 k (b1 k (b2 k (b3 k (a4 k hk))))), fun k hk => (b0 k (b1 k (b2 k (b3 k (b4 k (b5 k hk)))))), fun k hk hk' => d2 k hk (b3 k (a4 k hk')), fun k hk hk' => d2 k hk (b3 k (b4 k (b5 k hk'))), fun k hk hk' => d4 k hk (b5 k hk')⟩
theorem ki_Link_mk (w : World) (F : Nat → Prop) (x : GLink) {v2 : Value} {P2 : Nat → Prop} (h2 : R dX 186 w P2 v2 x.bW) {v4 : Value} {P4 : Nat → Prop} (h4 : R bI 193 w P4 v4 x.bC) {v6 : Value} {P6 : Nat → Prop} (h6 : R bI 193 w P6 v6 x.cO) (i2 : ∀ k, P2 k → F k) (i4 : ∀ k, P4 k → F k) (i6 : ∀ k, P6 k → F k) (d2_4 : ∀ k, P2 k → ¬ P4 k) (d2_6 : ∀ k, P2 k → ¬ P6 k) (d4_6 : ∀ k, P4 k → ¬ P6 k) : gH.M w F x [.int .i64 x.iU, .bool x.Up, v2, .int .i64 x.Next, v4, .int .i64 x.Asked, v6] :=
 ⟨[_], [_, _, _, _, _, _], No, (fun k => P2 k ∨ P4 k ∨ P6 k), rfl, rfl, ⟨[_], [_, _, _, _, _], No, (fun k => P2 k ∨ P4 k ∨ P6 k), rfl, rfl, ⟨[_], [_, _, _, _], P2, (fun k => P4 k ∨ P6 k), rfl, ⟨_, rfl, h2⟩, ⟨[_], [_, _, _], No, (fun k => P4 k ∨ P6 k), rfl, rfl, ⟨[_], [_, _], P4, P6, rfl, ⟨_, rfl, h4⟩, ⟨[_], [_], No, P6, rfl, rfl, ⟨_, rfl, h6⟩, fun _ h => h.elim, fun _ h => h, fun _ h => h.elim⟩, fun k h => by first | exact h | exact Or.inl h | exact Or.inr h, fun k h => by first | exact h | exact Or.inl h | exact Or.inr h, fun k h h' => by exact d4_6 k h h'⟩, fun _ h => h.elim, fun k h => by first | exact h | exact Or.inl h | exact Or.inr h, fun _ h => h.elim⟩, fun k h => by first | exact h | exact Or.inl h | exact Or.inr h, fun k h => by first | exact h | exact Or.inl h | exact Or.inr h, fun k h h' => by rcases h' with h' | h' <;> first | exact d2_4 k h h' | exact d2_6 k h h'⟩, fun _ h => h.elim, fun k h => by first | exact h | exact Or.inl h | exact Or.inr h, fun _ h => h.elim⟩, fun _ h => h.elim, fun k h => by rcases h with h | h | h <;> first | exact i2 k h | exact i4 k h | exact i6 k h, fun _ h => h.elim⟩
theorem ki_Link_info : (Tryz.prog.info? 137).map (fun i => (i.zero, i.size, i.bytes)) = some (some (.agg #[.int .i64 0, .bool false, .slice none 0 0, .int .i64 0, .slice none 0 0, .int .i64 0, .slice none 0 0]), 7, 104) := by kernel_rfl
theorem ki_Link_zero (w : World) : gH.M w No zLink [.int .i64 0, .bool false, .slice none 0 0, .int .i64 0, .slice none 0 0, .int .i64 0, .slice none 0 0] := ki_Link_mk w No zLink (P2 := No) R_nil (P4 := No) R_nil (P6 := No) R_nil (fun _ h => h) (fun _ h => h) (fun _ h => h) (fun _ h => h.elim) (fun _ h => h.elim) (fun _ h => h.elim)
def iX : Kn GWire := Kn.iso (Kn.pair Kn.int Kn.int) (fun x => (x.Kind, x.N))
theorem kl_Wire_K {w : World} {x : GWire} {cs : List Value} (h : iX.K w x cs) : cs = [.int .i64 x.Kind, .int .i64 x.N] := by
 obtain ⟨_, _, rfl, rfl, rfl⟩ := h
 exact rfl
theorem kl_Wire_at {w : World} {A : Option Addr} {l : List GWire} (h : C iX w A l) (i : Nat) (hi : i < l.length) : ∃ (ad : Addr), A = some ad ∧ w.cell? (ad.add (i * 2)) = some (.int .i64 l[i].Kind) ∧ w.cell? ⟨(ad.add (i * 2)).block, (ad.add (i * 2)).off + 1, none⟩ = some (.int .i64 l[i].N) := by
 obtain ⟨ad, c, h1, h2, h3, h4⟩ := C_at h i hi
 obtain rfl := kl_Wire_K h2
 exact ⟨ad, h1, h3 _ rfl, h4 0 _ rfl⟩
def fE : Kn GWire := Kn.iso (Kn.pair Kn.int Kn.int) (fun x => (x.Kind, x.N))
theorem ki_Wire_K {w : World} {x : GWire} {cs : List Value} (h : fE.K w x cs) : cs = [.int .i64 x.Kind, .int .i64 x.N] := by
 obtain ⟨_, _, rfl, rfl, rfl⟩ := h
 exact rfl
theorem ki_Wire_at {w : World} {A : Option Addr} {l : List GWire} (h : C fE w A l) (i : Nat) (hi : i < l.length) : ∃ (ad : Addr), A = some ad ∧ w.cell? (ad.add (i * 2)) = some (.int .i64 l[i].Kind) ∧ w.cell? ⟨(ad.add (i * 2)).block, (ad.add (i * 2)).off + 1, none⟩ = some (.int .i64 l[i].N) := by
 obtain ⟨ad, c, h1, h2, h3, h4⟩ := C_at h i hi
 obtain rfl := ki_Wire_K h2
 exact ⟨ad, h1, h3 _ rfl, h4 0 _ rfl⟩
theorem ki_Wire_M {w : World} {F : Nat → Prop} {x : GWire} {cs : List Value} (h : fE.M w F x cs) : cs = [.int .i64 x.Kind, .int .i64 x.N] := by
 exact ki_Wire_K (fE.jT h)
theorem nO (w : World) (F : Nat → Prop) (x : GWire) : fE.M w F x [.int .i64 x.Kind, .int .i64 x.N] :=
 ⟨[_], [_], No, No, rfl, rfl, rfl, fun _ h => h.elim, fun _ h => h.elim, fun _ h => h.elim⟩
theorem ki_Wire_info : (Tryz.prog.info? 139).map (fun i => (i.zero, i.size, i.bytes)) = some (some (.agg #[.int .i64 0, .int .i64 0]), 2, 16) := by kernel_rfl
theorem ki_Wire_zero (w : World) : fE.M w No zWire [.int .i64 0, .int .i64 0] := nO w No zWire
def gI : Kn GMessage := Kn.iso (Kn.pair Kn.int (Kn.pair Kn.int (Kn.pair Kn.int (Kn.pair Kn.int (Kn.pair Kn.string (Kn.pair (Kn.slice 215 iX) (Kn.pair iX (Kn.pair Kn.int kl_Tag)))))))) (fun x => (x.Kind, x.Pos, x.iC, x.Question, x.Name, x.bK, x.Value, x.Count, x.Tag))
theorem nD {w : World} {x : GMessage} {cs : List Value} (h : gI.K w x cs) : ∃ (A5 : Option Addr) (c5 : Nat), cs = [.int .i64 x.Kind, .int .i64 x.Pos, .int .i64 x.iC, .int .i64 x.Question, .string x.Name, .slice A5 x.bK.length c5, .int .i64 x.Value.Kind, .int .i64 x.Value.N, .int .i64 x.Count, .int .i64 x.Tag.Vat, .int .i64 x.Tag.Entity, .int .i64 x.Tag.Seq] ∧ x.bK.length ≤ c5 ∧ C iX w A5 x.bK := by
 obtain ⟨_, _, rfl, rfl, ⟨_, _, rfl, rfl, ⟨_, _, rfl, rfl, ⟨_, _, rfl, rfl, ⟨_, _, rfl, rfl, ⟨_, _, rfl, ⟨A5, c5, rfl, hl5, hC5⟩, ⟨_, _, rfl, s_Value, ⟨_, _, rfl, rfl, s_Tag⟩⟩⟩⟩⟩⟩⟩⟩ := h
 obtain rfl := kl_Wire_K s_Value
 obtain rfl := kl_Tag_K s_Tag
 exact ⟨A5, c5, rfl, hl5, hC5⟩
theorem kl_Message_at {w : World} {A : Option Addr} {l : List GMessage} (h : C gI w A l) (i : Nat) (hi : i < l.length) : ∃ (ad : Addr) (A5 : Option Addr) (c5 : Nat), A = some ad ∧ w.cell? (ad.add (i * 12)) = some (.int .i64 l[i].Kind) ∧ w.cell? ⟨(ad.add (i * 12)).block, (ad.add (i * 12)).off + 1, none⟩ = some (.int .i64 l[i].Pos) ∧ w.cell? ⟨(ad.add (i * 12)).block, (ad.add (i * 12)).off + 2, none⟩ = some (.int .i64 l[i].iC) ∧ w.cell? ⟨(ad.add (i * 12)).block, (ad.add (i * 12)).off + 3, none⟩ = some (.int .i64 l[i].Question) ∧ w.cell? ⟨(ad.add (i * 12)).block, (ad.add (i * 12)).off + 4, none⟩ = some (.string l[i].Name) ∧ w.cell? ⟨(ad.add (i * 12)).block, (ad.add (i * 12)).off + 5, none⟩ = some (.slice A5 l[i].bK.length c5) ∧ w.cell? ⟨(ad.add (i * 12)).block, (ad.add (i * 12)).off + 6, none⟩ = some (.int .i64 l[i].Value.Kind) ∧ w.cell? ⟨(ad.add (i * 12)).block, (ad.add (i * 12)).off + 7, none⟩ = some (.int .i64 l[i].Value.N) ∧ w.cell? ⟨(ad.add (i * 12)).block, (ad.add (i * 12)).off + 8, none⟩ = some (.int .i64 l[i].Count) ∧ w.cell? ⟨(ad.add (i * 12)).block, (ad.add (i * 12)).off + 9, none⟩ = some (.int .i64 l[i].Tag.Vat) ∧ w.cell? ⟨(ad.add (i * 12)).block, (ad.add (i * 12)).off + 10, none⟩ = some (.int .i64 l[i].Tag.Entity) ∧ w.cell? ⟨(ad.add (i * 12)).block, (ad.add (i * 12)).off + 11, none⟩ = some (.int .i64 l[i].Tag.Seq) ∧ l[i].bK.length ≤ c5 ∧ C iX w A5 l[i].bK := by
 obtain ⟨ad, c, h1, h2, h3, h4⟩ := C_at h i hi
 obtain ⟨A5, c5, rfl, hl5, hC5⟩ := nD h2
 exact ⟨ad, A5, c5, h1, h3 _ rfl, h4 0 _ rfl, h4 1 _ rfl, h4 2 _ rfl, h4 3 _ rfl, h4 4 _ rfl, h4 5 _ rfl, h4 6 _ rfl, h4 7 _ rfl, h4 8 _ rfl, h4 9 _ rfl, h4 10 _ rfl, hl5, hC5⟩
def dA : Kn GMessage := Kn.iso (Kn.pair Kn.int (Kn.pair Kn.int (Kn.pair Kn.int (Kn.pair Kn.int (Kn.pair Kn.string (Kn.pair (Kn.slice 139 fE) (Kn.pair fE (Kn.pair Kn.int cZ)))))))) (fun x => (x.Kind, x.Pos, x.iC, x.Question, x.Name, x.bK, x.Value, x.Count, x.Tag))
theorem nE {w : World} {x : GMessage} {cs : List Value} (h : dA.K w x cs) : ∃ (A5 : Option Addr) (c5 : Nat), cs = [.int .i64 x.Kind, .int .i64 x.Pos, .int .i64 x.iC, .int .i64 x.Question, .string x.Name, .slice A5 x.bK.length c5, .int .i64 x.Value.Kind, .int .i64 x.Value.N, .int .i64 x.Count, .int .i64 x.Tag.Vat, .int .i64 x.Tag.Entity, .int .i64 x.Tag.Seq] ∧ x.bK.length ≤ c5 ∧ C fE w A5 x.bK := by
 obtain ⟨_, _, rfl, rfl, ⟨_, _, rfl, rfl, ⟨_, _, rfl, rfl, ⟨_, _, rfl, rfl, ⟨_, _, rfl, rfl, ⟨_, _, rfl, ⟨A5, c5, rfl, hl5, hC5⟩, ⟨_, _, rfl, s_Value, ⟨_, _, rfl, rfl, s_Tag⟩⟩⟩⟩⟩⟩⟩⟩ := h
 obtain rfl := ki_Wire_K s_Value
 obtain rfl := jX s_Tag
 exact ⟨A5, c5, rfl, hl5, hC5⟩
theorem ki_Message_at {w : World} {A : Option Addr} {l : List GMessage} (h : C dA w A l) (i : Nat) (hi : i < l.length) : ∃ (ad : Addr) (A5 : Option Addr) (c5 : Nat), A = some ad ∧ w.cell? (ad.add (i * 12)) = some (.int .i64 l[i].Kind) ∧ w.cell? ⟨(ad.add (i * 12)).block, (ad.add (i * 12)).off + 1, none⟩ = some (.int .i64 l[i].Pos) ∧ w.cell? ⟨(ad.add (i * 12)).block, (ad.add (i * 12)).off + 2, none⟩ = some (.int .i64 l[i].iC) ∧ w.cell? ⟨(ad.add (i * 12)).block, (ad.add (i * 12)).off + 3, none⟩ = some (.int .i64 l[i].Question) ∧ w.cell? ⟨(ad.add (i * 12)).block, (ad.add (i * 12)).off + 4, none⟩ = some (.string l[i].Name) ∧ w.cell? ⟨(ad.add (i * 12)).block, (ad.add (i * 12)).off + 5, none⟩ = some (.slice A5 l[i].bK.length c5) ∧ w.cell? ⟨(ad.add (i * 12)).block, (ad.add (i * 12)).off + 6, none⟩ = some (.int .i64 l[i].Value.Kind) ∧ w.cell? ⟨(ad.add (i * 12)).block, (ad.add (i * 12)).off + 7, none⟩ = some (.int .i64 l[i].Value.N) ∧ w.cell? ⟨(ad.add (i * 12)).block, (ad.add (i * 12)).off + 8, none⟩ = some (.int .i64 l[i].Count) ∧ w.cell? ⟨(ad.add (i * 12)).block, (ad.add (i * 12)).off + 9, none⟩ = some (.int .i64 l[i].Tag.Vat) ∧ w.cell? ⟨(ad.add (i * 12)).block, (ad.add (i * 12)).off + 10, none⟩ = some (.int .i64 l[i].Tag.Entity) ∧ w.cell? ⟨(ad.add (i * 12)).block, (ad.add (i * 12)).off + 11, none⟩ = some (.int .i64 l[i].Tag.Seq) ∧ l[i].bK.length ≤ c5 ∧ C fE w A5 l[i].bK := by
 obtain ⟨ad, c, h1, h2, h3, h4⟩ := C_at h i hi
 obtain ⟨A5, c5, rfl, hl5, hC5⟩ := nE h2
 exact ⟨ad, A5, c5, h1, h3 _ rfl, h4 0 _ rfl, h4 1 _ rfl, h4 2 _ rfl, h4 3 _ rfl, h4 4 _ rfl, h4 5 _ rfl, h4 6 _ rfl, h4 7 _ rfl, h4 8 _ rfl, h4 9 _ rfl, h4 10 _ rfl, hl5, hC5⟩
theorem lM {w : World} {F : Nat → Prop} {x : GMessage} {cs : List Value} (h : dA.M w F x cs) : ∃ (v5 : Value) (P5 : Nat → Prop), cs = [.int .i64 x.Kind, .int .i64 x.Pos, .int .i64 x.iC, .int .i64 x.Question, .string x.Name, v5, .int .i64 x.Value.Kind, .int .i64 x.Value.N, .int .i64 x.Count, .int .i64 x.Tag.Vat, .int .i64 x.Tag.Entity, .int .i64 x.Tag.Seq] ∧ R fE 139 w P5 v5 x.bK ∧ (∀ k, P5 k → F k) := by
 obtain ⟨_, _, F0, G0, rfl, rfl, ⟨_, _, F1, G1, rfl, rfl, ⟨_, _, F2, G2, rfl, rfl, ⟨_, _, F3, G3, rfl, rfl, ⟨_, _, F4, G4, rfl, rfl, ⟨_, _, F5, G5, rfl, ⟨v5, rfl, hR5⟩, ⟨_, _, F6, G6, rfl, s6, ⟨_, _, F7, G7, rfl, rfl, s8, a7, b7, d7⟩, a6, b6, d6⟩, a5, b5, d5⟩, a4, b4, d4⟩, a3, b3, d3⟩, a2, b2, d2⟩, a1, b1, d1⟩, a0, b0, d0⟩ := h
 obtain rfl := ki_Wire_M s6
 obtain rfl := ki_Tag_M s8
 exact ⟨v5, F5, rfl, hR5, fun k hk => (b0 k (b1 k (b2 k (b3 k (b4 k (a5 k hk))))))⟩
theorem kP (w : World) (F : Nat → Prop) (x : GMessage) {v5 : Value} {P5 : Nat → Prop} (h5 : R fE 139 w P5 v5 x.bK) (i5 : ∀ k, P5 k → F k) : dA.M w F x [.int .i64 x.Kind, .int .i64 x.Pos, .int .i64 x.iC, .int .i64 x.Question, .string x.Name, v5, .int .i64 x.Value.Kind, .int .i64 x.Value.N, .int .i64 x.Count, .int .i64 x.Tag.Vat, .int .i64 x.Tag.Entity, .int .i64 x.Tag.Seq] :=
 ⟨[_], [_, _, _, _, _, _, _, _, _, _, _], No, P5, rfl, rfl, ⟨[_], [_, _, _, _, _, _, _, _, _, _], No, P5, rfl, rfl, ⟨[_], [_, _, _, _, _, _, _, _, _], No, P5, rfl, rfl, ⟨[_], [_, _, _, _, _, _, _, _], No, P5, rfl, rfl, ⟨[_], [_, _, _, _, _, _, _], No, P5, rfl, rfl, ⟨[_], [_, _, _, _, _, _], P5, No, rfl, ⟨_, rfl, h5⟩, ⟨[_, _], [_, _, _, _], No, No, rfl, (nO w No _), ⟨[_], [_, _, _], No, No, rfl, rfl, (lC w No _), fun _ h => h.elim, fun _ h => h.elim, fun _ h => h.elim⟩, fun _ h => h.elim, fun _ h => h.elim, fun _ h => h.elim⟩, fun _ h => h, fun _ h => h.elim, fun _ _ h => h.elim⟩, fun _ h => h.elim, fun _ h => h, fun _ h => h.elim⟩, fun _ h => h.elim, fun _ h => h, fun _ h => h.elim⟩, fun _ h => h.elim, fun _ h => h, fun _ h => h.elim⟩, fun _ h => h.elim, fun _ h => h, fun _ h => h.elim⟩, fun _ h => h.elim, i5, fun _ h => h.elim⟩
theorem ki_Message_info : (Tryz.prog.info? 141).map (fun i => (i.zero, i.size, i.bytes)) = some (some (.agg #[.int .i64 0, .int .i64 0, .int .i64 0, .int .i64 0, .string ⟨#[]⟩, .slice none 0 0, .int .i64 0, .int .i64 0, .int .i64 0, .int .i64 0, .int .i64 0, .int .i64 0]), 12, 120) := by kernel_rfl
theorem ki_Message_zero (w : World) : dA.M w No mO [.int .i64 0, .int .i64 0, .int .i64 0, .int .i64 0, .string ⟨#[]⟩, .slice none 0 0, .int .i64 0, .int .i64 0, .int .i64 0, .int .i64 0, .int .i64 0, .int .i64 0] := kP w No mO (P5 := No) R_nil (fun _ h => h)
def gL : Kn GOutgoing := Kn.iso (Kn.pair Kn.int gI) (fun x => (x.To, x.Message))
theorem nW {w : World} {x : GOutgoing} {cs : List Value} (h : gL.K w x cs) : ∃ (A6 : Option Addr) (c6 : Nat), cs = [.int .i64 x.To, .int .i64 x.Message.Kind, .int .i64 x.Message.Pos, .int .i64 x.Message.iC, .int .i64 x.Message.Question, .string x.Message.Name, .slice A6 x.Message.bK.length c6, .int .i64 x.Message.Value.Kind, .int .i64 x.Message.Value.N, .int .i64 x.Message.Count, .int .i64 x.Message.Tag.Vat, .int .i64 x.Message.Tag.Entity, .int .i64 x.Message.Tag.Seq] ∧ x.Message.bK.length ≤ c6 ∧ C iX w A6 x.Message.bK := by
 obtain ⟨_, _, rfl, rfl, s_Message⟩ := h
 obtain ⟨A6, c6, rfl, hl6, hC6⟩ := nD s_Message
 exact ⟨A6, c6, rfl, hl6, hC6⟩
theorem kl_Outgoing_at {w : World} {A : Option Addr} {l : List GOutgoing} (h : C gL w A l) (i : Nat) (hi : i < l.length) : ∃ (ad : Addr) (A6 : Option Addr) (c6 : Nat), A = some ad ∧ w.cell? (ad.add (i * 13)) = some (.int .i64 l[i].To) ∧ w.cell? ⟨(ad.add (i * 13)).block, (ad.add (i * 13)).off + 1, none⟩ = some (.int .i64 l[i].Message.Kind) ∧ w.cell? ⟨(ad.add (i * 13)).block, (ad.add (i * 13)).off + 2, none⟩ = some (.int .i64 l[i].Message.Pos) ∧ w.cell? ⟨(ad.add (i * 13)).block, (ad.add (i * 13)).off + 3, none⟩ = some (.int .i64 l[i].Message.iC) ∧ w.cell? ⟨(ad.add (i * 13)).block, (ad.add (i * 13)).off + 4, none⟩ = some (.int .i64 l[i].Message.Question) ∧ w.cell? ⟨(ad.add (i * 13)).block, (ad.add (i * 13)).off + 5, none⟩ = some (.string l[i].Message.Name) ∧ w.cell? ⟨(ad.add (i * 13)).block, (ad.add (i * 13)).off + 6, none⟩ = some (.slice A6 l[i].Message.bK.length c6) ∧ w.cell? ⟨(ad.add (i * 13)).block, (ad.add (i * 13)).off + 7, none⟩ = some (.int .i64 l[i].Message.Value.Kind) ∧ w.cell? ⟨(ad.add (i * 13)).block, (ad.add (i * 13)).off + 8, none⟩ = some (.int .i64 l[i].Message.Value.N) ∧ w.cell? ⟨(ad.add (i * 13)).block, (ad.add (i * 13)).off + 9, none⟩ = some (.int .i64 l[i].Message.Count) ∧ w.cell? ⟨(ad.add (i * 13)).block, (ad.add (i * 13)).off + 10, none⟩ = some (.int .i64 l[i].Message.Tag.Vat) ∧ w.cell? ⟨(ad.add (i * 13)).block, (ad.add (i * 13)).off + 11, none⟩ = some (.int .i64 l[i].Message.Tag.Entity) ∧ w.cell? ⟨(ad.add (i * 13)).block, (ad.add (i * 13)).off + 12, none⟩ = some (.int .i64 l[i].Message.Tag.Seq) ∧ l[i].Message.bK.length ≤ c6 ∧ C iX w A6 l[i].Message.bK := by
 obtain ⟨ad, c, h1, h2, h3, h4⟩ := C_at h i hi
 obtain ⟨A6, c6, rfl, hl6, hC6⟩ := nW h2
 exact ⟨ad, A6, c6, h1, h3 _ rfl, h4 0 _ rfl, h4 1 _ rfl, h4 2 _ rfl, h4 3 _ rfl, h4 4 _ rfl, h4 5 _ rfl, h4 6 _ rfl, h4 7 _ rfl, h4 8 _ rfl, h4 9 _ rfl, h4 10 _ rfl, h4 11 _ rfl, hl6, hC6⟩
def bZ : Kn GOutgoing := Kn.iso (Kn.pair Kn.int dA) (fun x => (x.To, x.Message))
theorem nX {w : World} {x : GOutgoing} {cs : List Value} (h : bZ.K w x cs) : ∃ (A6 : Option Addr) (c6 : Nat), cs = [.int .i64 x.To, .int .i64 x.Message.Kind, .int .i64 x.Message.Pos, .int .i64 x.Message.iC, .int .i64 x.Message.Question, .string x.Message.Name, .slice A6 x.Message.bK.length c6, .int .i64 x.Message.Value.Kind, .int .i64 x.Message.Value.N, .int .i64 x.Message.Count, .int .i64 x.Message.Tag.Vat, .int .i64 x.Message.Tag.Entity, .int .i64 x.Message.Tag.Seq] ∧ x.Message.bK.length ≤ c6 ∧ C fE w A6 x.Message.bK := by
 obtain ⟨_, _, rfl, rfl, s_Message⟩ := h
 obtain ⟨A6, c6, rfl, hl6, hC6⟩ := nE s_Message
 exact ⟨A6, c6, rfl, hl6, hC6⟩
theorem ki_Outgoing_at {w : World} {A : Option Addr} {l : List GOutgoing} (h : C bZ w A l) (i : Nat) (hi : i < l.length) : ∃ (ad : Addr) (A6 : Option Addr) (c6 : Nat), A = some ad ∧ w.cell? (ad.add (i * 13)) = some (.int .i64 l[i].To) ∧ w.cell? ⟨(ad.add (i * 13)).block, (ad.add (i * 13)).off + 1, none⟩ = some (.int .i64 l[i].Message.Kind) ∧ w.cell? ⟨(ad.add (i * 13)).block, (ad.add (i * 13)).off + 2, none⟩ = some (.int .i64 l[i].Message.Pos) ∧ w.cell? ⟨(ad.add (i * 13)).block, (ad.add (i * 13)).off + 3, none⟩ = some (.int .i64 l[i].Message.iC) ∧ w.cell? ⟨(ad.add (i * 13)).block, (ad.add (i * 13)).off + 4, none⟩ = some (.int .i64 l[i].Message.Question) ∧ w.cell? ⟨(ad.add (i * 13)).block, (ad.add (i * 13)).off + 5, none⟩ = some (.string l[i].Message.Name) ∧ w.cell? ⟨(ad.add (i * 13)).block, (ad.add (i * 13)).off + 6, none⟩ = some (.slice A6 l[i].Message.bK.length c6) ∧ w.cell? ⟨(ad.add (i * 13)).block, (ad.add (i * 13)).off + 7, none⟩ = some (.int .i64 l[i].Message.Value.Kind) ∧ w.cell? ⟨(ad.add (i * 13)).block, (ad.add (i * 13)).off + 8, none⟩ = some (.int .i64 l[i].Message.Value.N) ∧ w.cell? ⟨(ad.add (i * 13)).block, (ad.add (i * 13)).off + 9, none⟩ = some (.int .i64 l[i].Message.Count) ∧ w.cell? ⟨(ad.add (i * 13)).block, (ad.add (i * 13)).off + 10, none⟩ = some (.int .i64 l[i].Message.Tag.Vat) ∧ w.cell? ⟨(ad.add (i * 13)).block, (ad.add (i * 13)).off + 11, none⟩ = some (.int .i64 l[i].Message.Tag.Entity) ∧ w.cell? ⟨(ad.add (i * 13)).block, (ad.add (i * 13)).off + 12, none⟩ = some (.int .i64 l[i].Message.Tag.Seq) ∧ l[i].Message.bK.length ≤ c6 ∧ C fE w A6 l[i].Message.bK := by
 obtain ⟨ad, c, h1, h2, h3, h4⟩ := C_at h i hi
 obtain ⟨A6, c6, rfl, hl6, hC6⟩ := nX h2
 exact ⟨ad, A6, c6, h1, h3 _ rfl, h4 0 _ rfl, h4 1 _ rfl, h4 2 _ rfl, h4 3 _ rfl, h4 4 _ rfl, h4 5 _ rfl, h4 6 _ rfl, h4 7 _ rfl, h4 8 _ rfl, h4 9 _ rfl, h4 10 _ rfl, h4 11 _ rfl, hl6, hC6⟩
theorem nY {w : World} {F : Nat → Prop} {x : GOutgoing} {cs : List Value} (h : bZ.M w F x cs) : ∃ (v6 : Value) (P6 : Nat → Prop), cs = [.int .i64 x.To, .int .i64 x.Message.Kind, .int .i64 x.Message.Pos, .int .i64 x.Message.iC, .int .i64 x.Message.Question, .string x.Message.Name, v6, .int .i64 x.Message.Value.Kind, .int .i64 x.Message.Value.N, .int .i64 x.Message.Count, .int .i64 x.Message.Tag.Vat, .int .i64 x.Message.Tag.Entity, .int .i64 x.Message.Tag.Seq] ∧ R fE 139 w P6 v6 x.Message.bK ∧ (∀ k, P6 k → F k) := by
 obtain ⟨_, _, F0, G0, rfl, rfl, s1, a0, b0, d0⟩ := h
 obtain ⟨v6, P6, rfl, hR6, i6⟩ := lM s1
 exact ⟨v6, P6, rfl, hR6, fun k hk => (b0 k (i6 k hk))⟩
theorem lN (w : World) (F : Nat → Prop) (x : GOutgoing) {v6 : Value} {P6 : Nat → Prop} (h6 : R fE 139 w P6 v6 x.Message.bK) (i6 : ∀ k, P6 k → F k) : bZ.M w F x [.int .i64 x.To, .int .i64 x.Message.Kind, .int .i64 x.Message.Pos, .int .i64 x.Message.iC, .int .i64 x.Message.Question, .string x.Message.Name, v6, .int .i64 x.Message.Value.Kind, .int .i64 x.Message.Value.N, .int .i64 x.Message.Count, .int .i64 x.Message.Tag.Vat, .int .i64 x.Message.Tag.Entity, .int .i64 x.Message.Tag.Seq] :=
 ⟨[_], [_, _, _, _, _, _, _, _, _, _, _, _], No, P6, rfl, rfl, (kP w P6 _ h6 (fun _ h => h)), fun _ h => h.elim, i6, fun _ h => h.elim⟩
theorem ki_Outgoing_info : (Tryz.prog.info? 143).map (fun i => (i.zero, i.size, i.bytes)) = some (some (.agg #[.int .i64 0, .int .i64 0, .int .i64 0, .int .i64 0, .int .i64 0, .string ⟨#[]⟩, .slice none 0 0, .int .i64 0, .int .i64 0, .int .i64 0, .int .i64 0, .int .i64 0, .int .i64 0]), 13, 128) := by kernel_rfl
theorem ki_Outgoing_zero (w : World) : bZ.M w No lZ [.int .i64 0, .int .i64 0, .int .i64 0, .int .i64 0, .int .i64 0, .string ⟨#[]⟩, .slice none 0 0, .int .i64 0, .int .i64 0, .int .i64 0, .int .i64 0, .int .i64 0, .int .i64 0] := lN w No lZ (P6 := No) R_nil (fun _ h => h)
def kl_Vat : Kn GVat := Kn.iso (Kn.pair Kn.int (Kn.pair (Kn.slice 204 iG) (Kn.pair (Kn.slice 207 iM) (Kn.pair (Kn.slice 212 kK) (Kn.slice 219 gL))))) (fun x => (x.Id, x.bH, x.Loop, x.gB, x.Out))
theorem kl_Vat_K {w : World} {x : GVat} {cs : List Value} (h : kl_Vat.K w x cs) : ∃ (A1 : Option Addr) (c1 : Nat) (A2 : Option Addr) (c2 : Nat) (A3 : Option Addr) (c3 : Nat) (A4 : Option Addr) (c4 : Nat), cs = [.int .i64 x.Id, .slice A1 x.bH.length c1, .slice A2 x.Loop.length c2, .slice A3 x.gB.length c3, .slice A4 x.Out.length c4] ∧ x.bH.length ≤ c1 ∧ C iG w A1 x.bH ∧ x.Loop.length ≤ c2 ∧ C iM w A2 x.Loop ∧ x.gB.length ≤ c3 ∧ C kK w A3 x.gB ∧ x.Out.length ≤ c4 ∧ C gL w A4 x.Out := by
 obtain ⟨_, _, rfl, rfl, ⟨_, _, rfl, ⟨A1, c1, rfl, hl1, hC1⟩, ⟨_, _, rfl, ⟨A2, c2, rfl, hl2, hC2⟩, ⟨_, _, rfl, ⟨A3, c3, rfl, hl3, hC3⟩, ⟨A4, c4, rfl, hl4, hC4⟩⟩⟩⟩⟩ := h
 exact ⟨A1, c1, A2, c2, A3, c3, A4, c4, rfl, hl1, hC1, hl2, hC2, hl3, hC3, hl4, hC4⟩
theorem kl_Vat_at {w : World} {A : Option Addr} {l : List GVat} (h : C kl_Vat w A l) (i : Nat) (hi : i < l.length) : ∃ (ad : Addr) (A1 : Option Addr) (c1 : Nat) (A2 : Option Addr) (c2 : Nat) (A3 : Option Addr) (c3 : Nat) (A4 : Option Addr) (c4 : Nat), A = some ad ∧ w.cell? (ad.add (i * 5)) = some (.int .i64 l[i].Id) ∧ w.cell? ⟨(ad.add (i * 5)).block, (ad.add (i * 5)).off + 1, none⟩ = some (.slice A1 l[i].bH.length c1) ∧ w.cell? ⟨(ad.add (i * 5)).block, (ad.add (i * 5)).off + 2, none⟩ = some (.slice A2 l[i].Loop.length c2) ∧ w.cell? ⟨(ad.add (i * 5)).block, (ad.add (i * 5)).off + 3, none⟩ = some (.slice A3 l[i].gB.length c3) ∧ w.cell? ⟨(ad.add (i * 5)).block, (ad.add (i * 5)).off + 4, none⟩ = some (.slice A4 l[i].Out.length c4) ∧ l[i].bH.length ≤ c1 ∧ C iG w A1 l[i].bH ∧ l[i].Loop.length ≤ c2 ∧ C iM w A2 l[i].Loop ∧ l[i].gB.length ≤ c3 ∧ C kK w A3 l[i].gB ∧ l[i].Out.length ≤ c4 ∧ C gL w A4 l[i].Out := by
 obtain ⟨ad, c, h1, h2, h3, h4⟩ := C_at h i hi
 obtain ⟨A1, c1, A2, c2, A3, c3, A4, c4, rfl, hl1, hC1, hl2, hC2, hl3, hC3, hl4, hC4⟩ := kl_Vat_K h2
 exact ⟨ad, A1, c1, A2, c2, A3, c3, A4, c4, h1, h3 _ rfl, h4 0 _ rfl, h4 1 _ rfl, h4 2 _ rfl, h4 3 _ rfl, hl1, hC1, hl2, hC2, hl3, hC3, hl4, hC4⟩
def iJ : Kn GVat := Kn.iso (Kn.pair Kn.int (Kn.pair (Kn.slice 132 dW) (Kn.pair (Kn.slice 178 fD) (Kn.pair (Kn.slice 137 gH) (Kn.slice 143 bZ))))) (fun x => (x.Id, x.bH, x.Loop, x.gB, x.Out))
theorem ki_Vat_K {w : World} {x : GVat} {cs : List Value} (h : iJ.K w x cs) : ∃ (A1 : Option Addr) (c1 : Nat) (A2 : Option Addr) (c2 : Nat) (A3 : Option Addr) (c3 : Nat) (A4 : Option Addr) (c4 : Nat), cs = [.int .i64 x.Id, .slice A1 x.bH.length c1, .slice A2 x.Loop.length c2, .slice A3 x.gB.length c3, .slice A4 x.Out.length c4] ∧ x.bH.length ≤ c1 ∧ C dW w A1 x.bH ∧ x.Loop.length ≤ c2 ∧ C fD w A2 x.Loop ∧ x.gB.length ≤ c3 ∧ C gH w A3 x.gB ∧ x.Out.length ≤ c4 ∧ C bZ w A4 x.Out := by
 obtain ⟨_, _, rfl, rfl, ⟨_, _, rfl, ⟨A1, c1, rfl, hl1, hC1⟩, ⟨_, _, rfl, ⟨A2, c2, rfl, hl2, hC2⟩, ⟨_, _, rfl, ⟨A3, c3, rfl, hl3, hC3⟩, ⟨A4, c4, rfl, hl4, hC4⟩⟩⟩⟩⟩ := h
 exact ⟨A1, c1, A2, c2, A3, c3, A4, c4, rfl, hl1, hC1, hl2, hC2, hl3, hC3, hl4, hC4⟩
theorem ki_Vat_at {w : World} {A : Option Addr} {l : List GVat} (h : C iJ w A l) (i : Nat) (hi : i < l.length) : ∃ (ad : Addr) (A1 : Option Addr) (c1 : Nat) (A2 : Option Addr) (c2 : Nat) (A3 : Option Addr) (c3 : Nat) (A4 : Option Addr) (c4 : Nat), A = some ad ∧ w.cell? (ad.add (i * 5)) = some (.int .i64 l[i].Id) ∧ w.cell? ⟨(ad.add (i * 5)).block, (ad.add (i * 5)).off + 1, none⟩ = some (.slice A1 l[i].bH.length c1) ∧ w.cell? ⟨(ad.add (i * 5)).block, (ad.add (i * 5)).off + 2, none⟩ = some (.slice A2 l[i].Loop.length c2) ∧ w.cell? ⟨(ad.add (i * 5)).block, (ad.add (i * 5)).off + 3, none⟩ = some (.slice A3 l[i].gB.length c3) ∧ w.cell? ⟨(ad.add (i * 5)).block, (ad.add (i * 5)).off + 4, none⟩ = some (.slice A4 l[i].Out.length c4) ∧ l[i].bH.length ≤ c1 ∧ C dW w A1 l[i].bH ∧ l[i].Loop.length ≤ c2 ∧ C fD w A2 l[i].Loop ∧ l[i].gB.length ≤ c3 ∧ C gH w A3 l[i].gB ∧ l[i].Out.length ≤ c4 ∧ C bZ w A4 l[i].Out := by
 obtain ⟨ad, c, h1, h2, h3, h4⟩ := C_at h i hi
 obtain ⟨A1, c1, A2, c2, A3, c3, A4, c4, rfl, hl1, hC1, hl2, hC2, hl3, hC3, hl4, hC4⟩ := ki_Vat_K h2
 exact ⟨ad, A1, c1, A2, c2, A3, c3, A4, c4, h1, h3 _ rfl, h4 0 _ rfl, h4 1 _ rfl, h4 2 _ rfl, h4 3 _ rfl, hl1, hC1, hl2, hC2, hl3, hC3, hl4, hC4⟩
theorem ki_Vat_M {w : World} {F : Nat → Prop} {x : GVat} {cs : List Value} (h : iJ.M w F x cs) : ∃ (v1 : Value) (P1 : Nat → Prop) (v2 : Value) (P2 : Nat → Prop) (v3 : Value) (P3 : Nat → Prop) (v4 : Value) (P4 : Nat → Prop), cs = [.int .i64 x.Id, v1, v2, v3, v4] ∧ R dW 132 w P1 v1 x.bH ∧ R fD 178 w P2 v2 x.Loop ∧ R gH 137 w P3 v3 x.gB ∧ R bZ 143 w P4 v4 x.Out ∧ (∀ k, P1 k → F k) ∧ (∀ k, P2 k → F k) ∧ (∀ k, P3 k → F k) ∧ (∀ k, P4 k → F k) ∧ (∀ k, P1 k → ¬ P2 k) ∧ (∀ k, P1 k → ¬ P3 k) ∧ (∀ k, P1 k → ¬ P4 k) ∧ (∀ k, P2 k → ¬ P3 k) ∧ (∀ k, P2 k → ¬ P4 k) ∧ (∀ k, P3 k → ¬ P4 k) := by
 obtain ⟨_, _, F0, G0, rfl, rfl, ⟨_, _, F1, G1, rfl, ⟨v1, rfl, hR1⟩, ⟨_, _, F2, G2, rfl, ⟨v2, rfl, hR2⟩, ⟨_, _, F3, G3, rfl, ⟨v3, rfl, hR3⟩, ⟨v4, rfl, hR4⟩, a3, b3, d3⟩, a2, b2, d2⟩, a1, b1, d1⟩, a0, b0, d0⟩ := h
 exact ⟨v1, F1, v2, F2, v3, F3, v4, G3, rfl, hR1, hR2, hR3, hR4, fun k hk => (b0 k (a1 k hk)), fun k hk => (b0 k (b1 k (a2 k hk))), fun k hk => (b0 k (b1 k (b2 k (a3 k hk)))), fun k hk => (b0 k (b1 k (b2 k (b3 k hk)))), fun k hk hk' => d1 k hk (a2 k hk'), fun k hk hk' => d1 k hk (b2 k (a3 k hk')), fun k hk hk' => d1 k hk (b2 k (b3 k hk')), fun k hk hk' => d2 k hk (a3 k hk'), fun k hk hk' => d2 k hk (b3 k hk'), fun k hk hk' => d3 k hk hk'⟩
theorem ki_Vat_mk (w : World) (F : Nat → Prop) (x : GVat) {v1 : Value} {P1 : Nat → Prop} (h1 : R dW 132 w P1 v1 x.bH) {v2 : Value} {P2 : Nat → Prop} (h2 : R fD 178 w P2 v2 x.Loop) {v3 : Value} {P3 : Nat → Prop} (h3 : R gH 137 w P3 v3 x.gB) {v4 : Value} {P4 : Nat → Prop} (h4 : R bZ 143 w P4 v4 x.Out) (i1 : ∀ k, P1 k → F k) (i2 : ∀ k, P2 k → F k) (i3 : ∀ k, P3 k → F k) (i4 : ∀ k, P4 k → F k) (d1_2 : ∀ k, P1 k → ¬ P2 k) (d1_3 : ∀ k, P1 k → ¬ P3 k) (d1_4 : ∀ k, P1 k → ¬ P4 k) (d2_3 : ∀ k, P2 k → ¬ P3 k) (d2_4 : ∀ k, P2 k → ¬ P4 k) (d3_4 : ∀ k, P3 k → ¬ P4 k) : iJ.M w F x [.int .i64 x.Id, v1, v2, v3, v4] :=
 ⟨[_], [_, _, _, _], No, (fun k => P1 k ∨ P2 k ∨ P3 k ∨ P4 k), rfl, rfl, ⟨[_], [_, _, _], P1, (fun k => P2 k ∨ P3 k ∨ P4 k), rfl, ⟨_, rfl, h1⟩, ⟨[_], [_, _], P2, (fun k => P3 k ∨ P4 k), rfl, ⟨_, rfl, h2⟩, ⟨[_], [_], P3, P4, rfl, ⟨_, rfl, h3⟩, ⟨_, rfl, h4⟩, fun k h => by first | exact h | exact Or.inl h | exact Or.inr h, fun k h => by first | exact h | exact Or.inl h | exact Or.inr h, fun k h h' => by exact d3_4 k h h'⟩, fun k h => by first | exact h | exact Or.inl h | exact Or.inr h, fun k h => by first | exact h | exact Or.inl h | exact Or.inr h, fun k h h' => by rcases h' with h' | h' <;> first | exact d2_3 k h h' | exact d2_4 k h h'⟩, fun k h => by first | exact h | exact Or.inl h | exact Or.inr h, fun k h => by first | exact h | exact Or.inl h | exact Or.inr h, fun k h h' => by rcases h' with h' | h' | h' <;> first | exact d1_2 k h h' | exact d1_3 k h h' | exact d1_4 k h h'⟩, fun _ h => h.elim, fun k h => by rcases h with h | h | h | h <;> first | exact i1 k h | exact i2 k h | exact i3 k h | exact i4 k h, fun _ h => h.elim⟩
theorem ki_Vat_info : (Tryz.prog.info? 80).map (fun i => (i.zero, i.size, i.bytes)) = some (some (.agg #[.int .i64 0, .slice none 0 0, .slice none 0 0, .slice none 0 0, .slice none 0 0]), 5, 104) := by kernel_rfl
theorem ki_Vat_zero (w : World) : iJ.M w No zVat [.int .i64 0, .slice none 0 0, .slice none 0 0, .slice none 0 0, .slice none 0 0] := ki_Vat_mk w No zVat (P1 := No) R_nil (P2 := No) R_nil (P3 := No) R_nil (P4 := No) R_nil (fun _ h => h) (fun _ h => h) (fun _ h => h) (fun _ h => h) (fun _ h => h.elim) (fun _ h => h.elim) (fun _ h => h.elim) (fun _ h => h.elim) (fun _ h => h.elim) (fun _ h => h.elim)
def iK : Kn GChannel := Kn.iso (Kn.pair Kn.int (Kn.pair Kn.int (Kn.slice 217 gI))) (fun x => (x.From, x.To, x.List))
theorem kl_Channel_K {w : World} {x : GChannel} {cs : List Value} (h : iK.K w x cs) : ∃ (A2 : Option Addr) (c2 : Nat), cs = [.int .i64 x.From, .int .i64 x.To, .slice A2 x.List.length c2] ∧ x.List.length ≤ c2 ∧ C gI w A2 x.List := by
 obtain ⟨_, _, rfl, rfl, ⟨_, _, rfl, rfl, ⟨A2, c2, rfl, hl2, hC2⟩⟩⟩ := h
 exact ⟨A2, c2, rfl, hl2, hC2⟩
theorem kl_Channel_at {w : World} {A : Option Addr} {l : List GChannel} (h : C iK w A l) (i : Nat) (hi : i < l.length) : ∃ (ad : Addr) (A2 : Option Addr) (c2 : Nat), A = some ad ∧ w.cell? (ad.add (i * 3)) = some (.int .i64 l[i].From) ∧ w.cell? ⟨(ad.add (i * 3)).block, (ad.add (i * 3)).off + 1, none⟩ = some (.int .i64 l[i].To) ∧ w.cell? ⟨(ad.add (i * 3)).block, (ad.add (i * 3)).off + 2, none⟩ = some (.slice A2 l[i].List.length c2) ∧ l[i].List.length ≤ c2 ∧ C gI w A2 l[i].List := by
 obtain ⟨ad, c, h1, h2, h3, h4⟩ := C_at h i hi
 obtain ⟨A2, c2, rfl, hl2, hC2⟩ := kl_Channel_K h2
 exact ⟨ad, A2, c2, h1, h3 _ rfl, h4 0 _ rfl, h4 1 _ rfl, hl2, hC2⟩
def dO : Kn GChannel := Kn.iso (Kn.pair Kn.int (Kn.pair Kn.int (Kn.slice 141 dA))) (fun x => (x.From, x.To, x.List))
theorem ki_Channel_K {w : World} {x : GChannel} {cs : List Value} (h : dO.K w x cs) : ∃ (A2 : Option Addr) (c2 : Nat), cs = [.int .i64 x.From, .int .i64 x.To, .slice A2 x.List.length c2] ∧ x.List.length ≤ c2 ∧ C dA w A2 x.List := by
 obtain ⟨_, _, rfl, rfl, ⟨_, _, rfl, rfl, ⟨A2, c2, rfl, hl2, hC2⟩⟩⟩ := h
 exact ⟨A2, c2, rfl, hl2, hC2⟩
theorem ki_Channel_at {w : World} {A : Option Addr} {l : List GChannel} (h : C dO w A l) (i : Nat) (hi : i < l.length) : ∃ (ad : Addr) (A2 : Option Addr) (c2 : Nat), A = some ad ∧ w.cell? (ad.add (i * 3)) = some (.int .i64 l[i].From) ∧ w.cell? ⟨(ad.add (i * 3)).block, (ad.add (i * 3)).off + 1, none⟩ = some (.int .i64 l[i].To) ∧ w.cell? ⟨(ad.add (i * 3)).block, (ad.add (i * 3)).off + 2, none⟩ = some (.slice A2 l[i].List.length c2) ∧ l[i].List.length ≤ c2 ∧ C dA w A2 l[i].List := by
 obtain ⟨ad, c, h1, h2, h3, h4⟩ := C_at h i hi
 obtain ⟨A2, c2, rfl, hl2, hC2⟩ := ki_Channel_K h2
 exact ⟨ad, A2, c2, h1, h3 _ rfl, h4 0 _ rfl, h4 1 _ rfl, hl2, hC2⟩
theorem ki_Channel_M {w : World} {F : Nat → Prop} {x : GChannel} {cs : List Value} (h : dO.M w F x cs) : ∃ (v2 : Value) (P2 : Nat → Prop), cs = [.int .i64 x.From, .int .i64 x.To, v2] ∧ R dA 141 w P2 v2 x.List ∧ (∀ k, P2 k → F k) := by
 obtain ⟨_, _, F0, G0, rfl, rfl, ⟨_, _, F1, G1, rfl, rfl, ⟨v2, rfl, hR2⟩, a1, b1, d1⟩, a0, b0, d0⟩ := h
 exact ⟨v2, G1, rfl, hR2, fun k hk => (b0 k (b1 k hk))⟩
theorem mK (w : World) (F : Nat → Prop) (x : GChannel) {v2 : Value} {P2 : Nat → Prop} (h2 : R dA 141 w P2 v2 x.List) (i2 : ∀ k, P2 k → F k) : dO.M w F x [.int .i64 x.From, .int .i64 x.To, v2] :=
 ⟨[_], [_, _], No, P2, rfl, rfl, ⟨[_], [_], No, P2, rfl, rfl, ⟨_, rfl, h2⟩, fun _ h => h.elim, fun _ h => h, fun _ h => h.elim⟩, fun _ h => h.elim, i2, fun _ h => h.elim⟩
theorem ki_Channel_info : (Tryz.prog.info? 102).map (fun i => (i.zero, i.size, i.bytes)) = some (some (.agg #[.int .i64 0, .int .i64 0, .slice none 0 0]), 3, 40) := by kernel_rfl
theorem ki_Channel_zero (w : World) : dO.M w No nK [.int .i64 0, .int .i64 0, .slice none 0 0] := mK w No nK (P2 := No) R_nil (fun _ h => h)
def mM : Kn GNote := Kn.iso (Kn.pair Kn.int (Kn.pair Kn.int (Kn.pair Kn.int kl_Tag))) (fun x => (x.Kind, x.Vat, x.Entity, x.Tag))
theorem kl_Note_K {w : World} {x : GNote} {cs : List Value} (h : mM.K w x cs) : cs = [.int .i64 x.Kind, .int .i64 x.Vat, .int .i64 x.Entity, .int .i64 x.Tag.Vat, .int .i64 x.Tag.Entity, .int .i64 x.Tag.Seq] := by
 obtain ⟨_, _, rfl, rfl, ⟨_, _, rfl, rfl, ⟨_, _, rfl, rfl, s_Tag⟩⟩⟩ := h
 obtain rfl := kl_Tag_K s_Tag
 exact rfl
theorem kl_Note_at {w : World} {A : Option Addr} {l : List GNote} (h : C mM w A l) (i : Nat) (hi : i < l.length) : ∃ (ad : Addr), A = some ad ∧ w.cell? (ad.add (i * 6)) = some (.int .i64 l[i].Kind) ∧ w.cell? ⟨(ad.add (i * 6)).block, (ad.add (i * 6)).off + 1, none⟩ = some (.int .i64 l[i].Vat) ∧ w.cell? ⟨(ad.add (i * 6)).block, (ad.add (i * 6)).off + 2, none⟩ = some (.int .i64 l[i].Entity) ∧ w.cell? ⟨(ad.add (i * 6)).block, (ad.add (i * 6)).off + 3, none⟩ = some (.int .i64 l[i].Tag.Vat) ∧ w.cell? ⟨(ad.add (i * 6)).block, (ad.add (i * 6)).off + 4, none⟩ = some (.int .i64 l[i].Tag.Entity) ∧ w.cell? ⟨(ad.add (i * 6)).block, (ad.add (i * 6)).off + 5, none⟩ = some (.int .i64 l[i].Tag.Seq) := by
 obtain ⟨ad, c, h1, h2, h3, h4⟩ := C_at h i hi
 obtain rfl := kl_Note_K h2
 exact ⟨ad, h1, h3 _ rfl, h4 0 _ rfl, h4 1 _ rfl, h4 2 _ rfl, h4 3 _ rfl, h4 4 _ rfl⟩
def dS : Kn GNote := Kn.iso (Kn.pair Kn.int (Kn.pair Kn.int (Kn.pair Kn.int cZ))) (fun x => (x.Kind, x.Vat, x.Entity, x.Tag))
theorem iR {w : World} {x : GNote} {cs : List Value} (h : dS.K w x cs) : cs = [.int .i64 x.Kind, .int .i64 x.Vat, .int .i64 x.Entity, .int .i64 x.Tag.Vat, .int .i64 x.Tag.Entity, .int .i64 x.Tag.Seq] := by
 obtain ⟨_, _, rfl, rfl, ⟨_, _, rfl, rfl, ⟨_, _, rfl, rfl, s_Tag⟩⟩⟩ := h
 obtain rfl := jX s_Tag
 exact rfl
theorem ki_Note_at {w : World} {A : Option Addr} {l : List GNote} (h : C dS w A l) (i : Nat) (hi : i < l.length) : ∃ (ad : Addr), A = some ad ∧ w.cell? (ad.add (i * 6)) = some (.int .i64 l[i].Kind) ∧ w.cell? ⟨(ad.add (i * 6)).block, (ad.add (i * 6)).off + 1, none⟩ = some (.int .i64 l[i].Vat) ∧ w.cell? ⟨(ad.add (i * 6)).block, (ad.add (i * 6)).off + 2, none⟩ = some (.int .i64 l[i].Entity) ∧ w.cell? ⟨(ad.add (i * 6)).block, (ad.add (i * 6)).off + 3, none⟩ = some (.int .i64 l[i].Tag.Vat) ∧ w.cell? ⟨(ad.add (i * 6)).block, (ad.add (i * 6)).off + 4, none⟩ = some (.int .i64 l[i].Tag.Entity) ∧ w.cell? ⟨(ad.add (i * 6)).block, (ad.add (i * 6)).off + 5, none⟩ = some (.int .i64 l[i].Tag.Seq) := by
 obtain ⟨ad, c, h1, h2, h3, h4⟩ := C_at h i hi
 obtain rfl := iR h2
 exact ⟨ad, h1, h3 _ rfl, h4 0 _ rfl, h4 1 _ rfl, h4 2 _ rfl, h4 3 _ rfl, h4 4 _ rfl⟩
theorem ki_Note_M {w : World} {F : Nat → Prop} {x : GNote} {cs : List Value} (h : dS.M w F x cs) : cs = [.int .i64 x.Kind, .int .i64 x.Vat, .int .i64 x.Entity, .int .i64 x.Tag.Vat, .int .i64 x.Tag.Entity, .int .i64 x.Tag.Seq] := by
 exact iR (dS.jT h)
theorem ki_Note_mk (w : World) (F : Nat → Prop) (x : GNote) : dS.M w F x [.int .i64 x.Kind, .int .i64 x.Vat, .int .i64 x.Entity, .int .i64 x.Tag.Vat, .int .i64 x.Tag.Entity, .int .i64 x.Tag.Seq] :=
 ⟨[_], [_, _, _, _, _], No, No, rfl, rfl, ⟨[_], [_, _, _, _], No, No, rfl, rfl, ⟨[_], [_, _, _], No, No, rfl, rfl, (lC w No _), fun _ h => h.elim, fun _ h => h.elim, fun _ h => h.elim⟩, fun _ h => h.elim, fun _ h => h.elim, fun _ h => h.elim⟩, fun _ h => h.elim, fun _ h => h.elim, fun _ h => h.elim⟩
theorem ki_Note_info : (Tryz.prog.info? 52).map (fun i => (i.zero, i.size, i.bytes)) = some (some (.agg #[.int .i64 0, .int .i64 0, .int .i64 0, .int .i64 0, .int .i64 0, .int .i64 0]), 6, 48) := by kernel_rfl
theorem ki_Note_zero (w : World) : dS.M w No zNote [.int .i64 0, .int .i64 0, .int .i64 0, .int .i64 0, .int .i64 0, .int .i64 0] := ki_Note_mk w No zNote
def kQ : Kn GWorld := Kn.iso (Kn.pair (Kn.slice 86 jF) (Kn.pair (Kn.slice 93 kl_Vat) (Kn.pair (Kn.slice 97 iK) (Kn.pair (Kn.slice 107 mM) Kn.int)))) (fun x => (x.bG, x.gT, x.bA, x.aB, x.fC))
theorem kl_World_K {w : World} {x : GWorld} {cs : List Value} (h : kQ.K w x cs) : ∃ (A0 : Option Addr) (c0 : Nat) (A1 : Option Addr) (c1 : Nat) (A2 : Option Addr) (c2 : Nat) (A3 : Option Addr) (c3 : Nat), cs = [.slice A0 x.bG.length c0, .slice A1 x.gT.length c1, .slice A2 x.bA.length c2, .slice A3 x.aB.length c3, .int .i64 x.fC] ∧ x.bG.length ≤ c0 ∧ C jF w A0 x.bG ∧ x.gT.length ≤ c1 ∧ C kl_Vat w A1 x.gT ∧ x.bA.length ≤ c2 ∧ C iK w A2 x.bA ∧ x.aB.length ≤ c3 ∧ C mM w A3 x.aB := by
 obtain ⟨_, _, rfl, ⟨A0, c0, rfl, hl0, hC0⟩, ⟨_, _, rfl, ⟨A1, c1, rfl, hl1, hC1⟩, ⟨_, _, rfl, ⟨A2, c2, rfl, hl2, hC2⟩, ⟨_, _, rfl, ⟨A3, c3, rfl, hl3, hC3⟩, rfl⟩⟩⟩⟩ := h
 exact ⟨A0, c0, A1, c1, A2, c2, A3, c3, rfl, hl0, hC0, hl1, hC1, hl2, hC2, hl3, hC3⟩
def cB : Kn GWorld := Kn.iso (Kn.pair (Kn.slice 73 eX) (Kn.pair (Kn.slice 80 iJ) (Kn.pair (Kn.slice 102 dO) (Kn.pair (Kn.slice 52 dS) Kn.int)))) (fun x => (x.bG, x.gT, x.bA, x.aB, x.fC))
theorem l8 {w : World} {x : GWorld} {cs : List Value} (h : cB.K w x cs) : ∃ (A0 : Option Addr) (c0 : Nat) (A1 : Option Addr) (c1 : Nat) (A2 : Option Addr) (c2 : Nat) (A3 : Option Addr) (c3 : Nat), cs = [.slice A0 x.bG.length c0, .slice A1 x.gT.length c1, .slice A2 x.bA.length c2, .slice A3 x.aB.length c3, .int .i64 x.fC] ∧ x.bG.length ≤ c0 ∧ C eX w A0 x.bG ∧ x.gT.length ≤ c1 ∧ C iJ w A1 x.gT ∧ x.bA.length ≤ c2 ∧ C dO w A2 x.bA ∧ x.aB.length ≤ c3 ∧ C dS w A3 x.aB := by
 obtain ⟨_, _, rfl, ⟨A0, c0, rfl, hl0, hC0⟩, ⟨_, _, rfl, ⟨A1, c1, rfl, hl1, hC1⟩, ⟨_, _, rfl, ⟨A2, c2, rfl, hl2, hC2⟩, ⟨_, _, rfl, ⟨A3, c3, rfl, hl3, hC3⟩, rfl⟩⟩⟩⟩ := h
 exact ⟨A0, c0, A1, c1, A2, c2, A3, c3, rfl, hl0, hC0, hl1, hC1, hl2, hC2, hl3, hC3⟩
theorem ki_World_M {w : World} {F : Nat → Prop} {x : GWorld} {cs : List Value} (h : cB.M w F x cs) : ∃ (v0 : Value) (P0 : Nat → Prop) (v1 : Value) (P1 : Nat → Prop) (v2 : Value) (P2 : Nat → Prop) (v3 : Value) (P3 : Nat → Prop), cs = [v0, v1, v2, v3, .int .i64 x.fC] ∧ R eX 73 w P0 v0 x.bG ∧ R iJ 80 w P1 v1 x.gT ∧ R dO 102 w P2 v2 x.bA ∧ R dS 52 w P3 v3 x.aB ∧ (∀ k, P0 k → F k) ∧ (∀ k, P1 k → F k) ∧ (∀ k, P2 k → F k) ∧ (∀ k, P3 k → F k) ∧ (∀ k, P0 k → ¬ P1 k) ∧ (∀ k, P0 k → ¬ P2 k) ∧ (∀ k, P0 k → ¬ P3 k) ∧ (∀ k, P1 k → ¬ P2 k) ∧ (∀ k, P1 k → ¬ P3 k) ∧ (∀ k, P2 k → ¬ P3 k) := by
 obtain ⟨_, _, F0, G0, rfl, ⟨v0, rfl, hR0⟩, ⟨_, _, F1, G1, rfl, ⟨v1, rfl, hR1⟩, ⟨_, _, F2, G2, rfl, ⟨v2, rfl, hR2⟩, ⟨_, _, F3, G3, rfl, ⟨v3, rfl, hR3⟩, rfl, a3, b3, d3⟩, a2, b2, d2⟩, a1, b1, d1⟩, a0, b0, d0⟩ := h
 exact ⟨v0, F0, v1, F1, v2, F2, v3, F3, rfl, hR0, hR1, hR2, hR3, fun k hk => (a0 k hk), fun k hk => (b0 k (a1 k hk)), fun k hk => (b0 k (b1 k (a2 k hk))), fun k hk => (b0 k (b1 k (b2 k (a3 k hk)))), fun k hk hk' => d0 k hk (a1 k hk'), fun k hk hk' => d0 k hk (b1 k (a2 k hk')), fun k hk hk' => d0 k hk (b1 k (b2 k (a3 k hk'))), fun k hk hk' => d1 k hk (a2 k hk'), fun k hk hk' => d1 k hk (b2 k (a3 k hk')), fun k hk hk' => d2 k hk (a3 k hk')⟩
theorem ki_World_mk (w : World) (F : Nat → Prop) (x : GWorld) {v0 : Value} {P0 : Nat → Prop} (h0 : R eX 73 w P0 v0 x.bG) {v1 : Value} {P1 : Nat → Prop} (h1 : R iJ 80 w P1 v1 x.gT) {v2 : Value} {P2 : Nat → Prop} (h2 : R dO 102 w P2 v2 x.bA) {v3 : Value} {P3 : Nat → Prop} (h3 : R dS 52 w P3 v3 x.aB) (i0 : ∀ k, P0 k → F k) (i1 : ∀ k, P1 k → F k) (i2 : ∀ k, P2 k → F k) (i3 : ∀ k, P3 k → F k) (d0_1 : ∀ k, P0 k → ¬ P1 k) (d0_2 : ∀ k, P0 k → ¬ P2 k) (d0_3 : ∀ k, P0 k → ¬ P3 k) (d1_2 : ∀ k, P1 k → ¬ P2 k) (d1_3 : ∀ k, P1 k → ¬ P3 k) (d2_3 : ∀ k, P2 k → ¬ P3 k) : cB.M w F x [v0, v1, v2, v3, .int .i64 x.fC] :=
 ⟨[_], [_, _, _, _], P0, (fun k => P1 k ∨ P2 k ∨ P3 k), rfl, ⟨_, rfl, h0⟩, ⟨[_], [_, _, _], P1, (fun k => P2 k ∨ P3 k), rfl, ⟨_, rfl, h1⟩, ⟨[_], [_, _], P2, P3, rfl, ⟨_, rfl, h2⟩, ⟨[_], [_], P3, No, rfl, ⟨_, rfl, h3⟩, rfl, fun _ h => h, fun _ h => h.elim, fun _ _ h => h.elim⟩, fun k h => by first | exact h | exact Or.inl h | exact Or.inr h, fun k h => by first | exact h | exact Or.inl h | exact Or.inr h, fun k h h' => by exact d2_3 k h h'⟩, fun k h => by first | exact h | exact Or.inl h | exact Or.inr h, fun k h => by first | exact h | exact Or.inl h | exact Or.inr h, fun k h h' => by rcases h' with h' | h' <;> first | exact d1_2 k h h' | exact d1_3 k h h'⟩, i0, fun k h => by rcases h with h | h | h <;> first | exact i1 k h | exact i2 k h | exact i3 k h, fun k h h' => by rcases h' with h' | h' | h' <;> first | exact d0_1 k h h' | exact d0_2 k h h' | exact d0_3 k h h'⟩
end Go.Proofs.YtgaoabnnpjngcaaGreatK
namespace Go.Proofs.YtgaoabnnpjngcaaGreatT
open Go.RowKit Go.Proofs.YtgaoabnnpjngcaaGreatSep Go.Proofs.YtgaoabnnpjngcaaGreatK
theorem jY {W : World} {x : GNote} {cs : List Value} (h : dS.K W x cs) : cs.length = 6 := dS.K_len h
theorem jZ {W : World} {x : GNote} {cs : List Value} (h : dS.K W x cs) : ∀ u ∈ (List.toArray cs).toList, u.oneCell' = true := dS.K_one h
theorem jO {W : World} {x : GWorld} {cs : List Value} (h : cB.K W x cs) : cs.length = 5 := cB.K_len h
theorem ki_World_one {W : World} {x : GWorld} {cs : List Value} (h : cB.K W x cs) : ∀ u ∈ (List.toArray cs).toList, u.oneCell' = true := cB.K_one h
end Go.Proofs.YtgaoabnnpjngcaaGreatT
namespace Go.Proofs.YtgaoabnnpjngcaaGreatSep
open Go.ChangeShapes Go.WideShapes Go.RowKit
section
variable {α : Type}
def EP (d : Kn α) (e g cap i : Nat) (ce : List Value) (xs : List α) (W : World) (F : Nat → Prop) : Prop :=
 ∃ (cur : Array Value) (Fs : Nat → Nat → Prop), F g ∧ Blk W g e cur ∧ (xs.length ≤ cap ∧ cap ≤ 9223372036854775807 ∧ cur.size = cap * d.sz) ∧ (∀ j b, Fs j b → F b ∧ b ≠ g) ∧ (∀ j k b, Fs j b → Fs k b → j = k) ∧ (∀ j x, j ≠ i → xs[j]? = some x → d.M W (Fs j) x (piece d.sz cur.toList j)) ∧ piece d.sz cur.toList i = ce ∧ i < xs.length
variable {d : Kn α} {e g cap i : Nat} {ce : List Value} {xs : List α} {l : List HP} {W w : World} {F F0 : Nat → Prop} {v : Value}
theorem EP.set (h : EP d e g cap i ce xs W F) (k : Nat) (vs : List Value) (hk : k + vs.length ≤ ce.length) (h1 : ∀ u ∈ vs, u.oneCell' = true) (P : Program) :
 ∃ W', (storeCells ⟨g, i * d.sz + k, none⟩ vs 0).run P W = .ok () W' ∧ Upd (fun b => b = g) W W' ∧ EP d e g cap i (ce.take k ++ vs ++ ce.drop (k + vs.length)) xs W' F := by
 obtain ⟨cur, Fs, a1, a2, ⟨a3, a3b, a3c⟩, a4, a5, a6, a7, a8⟩ := h
 have hcl : ce.length ≤ d.sz := by rw [← a7]; simp [piece]; omega
 have hsz : i * d.sz + d.sz ≤ cur.size := by rw [a3c, ← Nat.succ_mul]; exact Nat.mul_le_mul_right _ kO
 have hst := run_storeCells_at P g (i * d.sz + k) e vs 0 cur W a2 kO h1
 simp only [Nat.add_zero] at hst
 refine ⟨_, hst, ?_, ?_⟩
 ·refine ⟨rfl, rfl, rfl, by simp [World.setRow], fun b hb' hF => ?_⟩
  simp only [World.setRow, Array.getElem?_modify]
  rw [if_neg (fun e => hF e.symm)]
 ·have hget : ∀ p, (cur.toList.take (i * d.sz + k) ++ vs ++ cur.toList.drop (i * d.sz + k + vs.length))[p]? = if p < i * d.sz + k then cur.toList[p]? else if p < i * d.sz + k + vs.length then vs[p - (i * d.sz + k)]? else cur.toList[p]? := by
   intro p
   have hlen : (cur.toList.take (i * d.sz + k)).length = i * d.sz + k := by simp; omega
   by_cases c1 : p < i * d.sz + k
   ·rw [List.append_assoc, List.getElem?_append_left kO, List.getElem?_take, if_pos c1, if_pos c1]
   ·rw [if_neg c1]
    by_cases c2 : p < i * d.sz + k + vs.length
    ·rw [if_pos c2, List.append_assoc, List.getElem?_append_right kO, hlen, List.getElem?_append_left kO]
    ·rw [if_neg c2, List.getElem?_append_right (by simp; omega), List.getElem?_drop]
     congr 1
     simp
     omega
  have hp : ∀ j q, (piece d.sz (cur.toList.take (i * d.sz + k) ++ vs ++ cur.toList.drop (i * d.sz + k + vs.length)) j)[q]? = if q < d.sz then (if j * d.sz + q < i * d.sz + k then cur.toList[j * d.sz + q]? else if j * d.sz + q < i * d.sz + k + vs.length then vs[j * d.sz + q - (i * d.sz + k)]? else cur.toList[j * d.sz + q]?) else none := by
   intro j q
   unfold piece
   rw [List.getElem?_take]
   by_cases hq : q < d.sz
   ·rw [if_pos hq, if_pos hq, List.getElem?_drop, hget]
   ·rw [if_neg hq, if_neg hq]
  refine ⟨_, Fs, a1, setRow_heap W g cur _ e (0, 0) a2, ⟨a3, a3b, ?_⟩, a4, a5, fun j x hj hx => ?_, ?_, a8⟩
  ·rw [← a3c]
   simp
   omega
  ·have hpc : piece d.sz (cur.toList.take (i * d.sz + k) ++ vs ++ cur.toList.drop (i * d.sz + k + vs.length)) j = piece d.sz cur.toList j := by
    apply List.ext_getElem?
    intro q
    rw [hp j q]
    unfold piece
    rw [List.getElem?_take]
    by_cases hq : q < d.sz
    ·rw [if_pos hq, if_pos hq, List.getElem?_drop]
     rcases Nat.lt_or_gt_of_ne hj with c | c
     ·have : j * d.sz + d.sz ≤ i * d.sz := by rw [← Nat.succ_mul]; exact Nat.mul_le_mul_right _ c
      rw [if_pos kO]
     ·have : i * d.sz + d.sz ≤ j * d.sz := by rw [← Nat.succ_mul]; exact Nat.mul_le_mul_right _ c
      rw [if_neg kO, if_neg kO]
    ·rw [if_neg hq, if_neg hq]
   have e' : (cur.toList.take (i * d.sz + k) ++ vs ++ cur.toList.drop (i * d.sz + k + vs.length)).toArray.toList = cur.toList.take (i * d.sz + k) ++ vs ++ cur.toList.drop (i * d.sz + k + vs.length) := rfl
   rw [e', hpc]
   refine d.lU (fun b hb => setRow_other W g b _ (a4 j b hb).2) (a6 j x hj hx)
  ·have e' : (cur.toList.take (i * d.sz + k) ++ vs ++ cur.toList.drop (i * d.sz + k + vs.length)).toArray.toList = cur.toList.take (i * d.sz + k) ++ vs ++ cur.toList.drop (i * d.sz + k + vs.length) := rfl
   rw [e']
   apply List.ext_getElem?
   intro q
   rw [hp i q]
   have hce : ∀ q, ce[q]? = if q < d.sz then cur.toList[i * d.sz + q]? else none := by
    intro q
    rw [← a7]
    unfold piece
    rw [List.getElem?_take]
    by_cases hq : q < d.sz
    ·rw [if_pos hq, if_pos hq, List.getElem?_drop]
    ·rw [if_neg hq, if_neg hq]
   have hlen : (ce.take k).length = k := by simp; omega
   by_cases c1 : q < k
   ·rw [List.append_assoc, List.getElem?_append_left kO, List.getElem?_take, if_pos c1, hce, if_pos kO, if_pos kO]
    rw [if_pos kO]
   ·by_cases c2 : q < k + vs.length
    ·rw [List.append_assoc, List.getElem?_append_right kO, hlen, List.getElem?_append_left kO, if_pos kO, if_neg kO, if_pos kO]
     congr 1
     omega
    ·rw [List.getElem?_append_right (by simp; omega), List.getElem?_drop, hce]
     have e2 : k + vs.length + (q - (ce.take k ++ vs).length) = q := by simp; omega
     rw [e2]
     by_cases c3 : q < d.sz
     ·rw [if_pos c3, if_pos c3, if_neg kO, if_neg kO]
     ·rw [if_neg c3, if_neg c3]
end
section
variable {α : Type} {P : Program} {ops : Array Oper} {Q : Exit → Act → World → Prop} {K : Act → World → Prop} {n i d ty : Nat} {x : Nat → Value} {live : List (Nat × Value)} {W w : World} {F0 : Nat → Prop} {l : List HP} {pos : String} {aft : Array Edge} {v : Value} {y z : Operand}
theorem rn_makeFunc {dst : Option Nat} {fn : Fn} {ys zs : Array Operand} {us vs : Array Value} (hy : ys.toList.map (evl n live) = us.toList.map some) (hz : zs.toList.map (evl n live) = vs.toList.map some) : Rn P ⟨dst, .makeFunc fn ys zs, ty, pos, aft, none⟩ (aX n x live) W (.func fn us vs) := by
 unfold Rn
 simp [execOp, Instr.makeFunc, evls_ok hy, evls_ok hz]
theorem lQ {o : Oper} {a : Act} {b c : Bool} (e : b = c) (h : Rn P o a W (.bool b)) : Rn P o a W (.bool c) := e ▸ h
theorem retb {f : FuncId} {vs : Array Value} {b c : Bool} {W0 : World} (h : Calls P f vs W (bU b W0)) (e : b = c) : Calls P f vs W (bU c W0) := e ▸ h
end
end Go.Proofs.YtgaoabnnpjngcaaGreatSep
namespace Go.Proofs.YtgaoabnnpjngcaaGreatSep
theorem any_no {α : Type} (f : α → Bool) (l : List α) (i : Nat) (h : i < l.length) (hf : f l[i] = false) : (l.drop i).any f = (l.drop (i + 1)).any f := by
 rw [List.drop_eq_getElem_cons h, List.any_cons, hf, Bool.false_or]
theorem any_yes {α : Type} (f : α → Bool) (l : List α) (i : Nat) (h : i < l.length) (hf : f l[i] = true) : (l.drop i).any f = true := by
 rw [List.drop_eq_getElem_cons h, List.any_cons, hf, Bool.true_or]
theorem any_end {α : Type} (f : α → Bool) (l : List α) (i : Nat) (h : l.length ≤ i) : (l.drop i).any f = false := by
 rw [List.drop_eq_nil_of_le h]; rfl
end Go.Proofs.YtgaoabnnpjngcaaGreatSep
namespace Go.Proofs.YtgaoabnnpjngcaaGreatT
open Go.Proofs.YtgaoabnnpjngcaaGreatSep
section
variable {α : Type} (f : α → α → Bool)
end
def bQ (x y : GTag) : Bool := (x.Vat == y.Vat) && (x.Entity == y.Entity) && (x.Seq == y.Seq)
end Go.Proofs.YtgaoabnnpjngcaaGreatT
namespace Go.Proofs.YtgaoabnnpjngcaaGreatSep
open Go.ChangeShapes Go.WideShapes Go.RowKit
section
variable {P : Program} {ops : Array Oper} {Q : Exit → Act → World → Prop} {K : Act → World → Prop} {n i d ty : Nat} {x : Nat → Value} {live : List (Nat × Value)} {W w : World} {pos : String} {aft : Array Edge} {v : Value} {y z : Operand}
theorem rn_eqlA {dst : Option Nat} {t t2 : Nat} {xs ys : Array Value} {b : Bool} (hg : P.eqGuardType P.depth t = false) (hx : evl n live y = some (.agg xs)) (hz : evl n live z = some (.agg ys)) (h : (Op.equalIn 10000 t (.agg xs) (.agg ys)).run P W = .ok b W) : Rn P ⟨dst, .binOp .eql t y z t2, ty, pos, aft, none⟩ (aX n x live) W (.bool b) := by
 unfold Rn
 simp [execOp, dM hx, dM hz, run_eqGuard_agg (P := P) W .eql t _ _ xs ys hg, run_eql_struct, h, Result.andThen]
end
end Go.Proofs.YtgaoabnnpjngcaaGreatSep
namespace Go.Proofs.YtgaoabnnpjngcaaGreatFam
open Go.ChangeShapes Go.WideShapes Go.RowKit Go.Proofs.YtgaoabnnpjngcaaGreatSep Go.Proofs.YtgaoabnnpjngcaaGreatT Go.Proofs.YtgaoabnnpjngcaaGreatK
set_option linter.unusedVariables false
set_option linter.unusedSimpArgs false
attribute [local irreducible] wpOps wpOp
theorem eqr_Tag (x y : GTag) (W : World) (k : Nat) : (Op.equalIn (k + 2) 50 (.agg #[.int .i64 (x.Vat), .int .i64 (x.Entity), .int .i64 (x.Seq)]) (.agg #[.int .i64 (y.Vat), .int .i64 (y.Entity), .int .i64 (y.Seq)])).run Tryz.prog W = .ok (bQ x y) W := by
 rw [show k + 2 = (k + 1) + 1 from rfl, run_equalIn_struct (P := Tryz.prog) W _ 50 _ _ (by simp [Program.fieldsOf, Tryz.underlying50]) Tryz.stoodInHeld50]
 simp [Program.fieldsOf, Tryz.underlying50, Op.eqFields, part, Tryz.isAgg9, Tryz.sizeOf9, Tryz.isAgg50, Tryz.sizeOf50, Tryz.isAgg3, Tryz.sizeOf3, Tryz.isAgg4, Tryz.sizeOf4, Tryz.underlying3, Tryz.underlying4, Tryz.underlying9, run_equalIn_int, run_equalIn_string, run_equalIn_bool', Sem.run_pure, bQ, Result.andThen]
 (repeat' split) <;> simp [*]
end Go.Proofs.YtgaoabnnpjngcaaGreatFam
namespace Go.Proofs.YtgaoabnnpjngcaaGreatFam
open Go.RowKit Go.Proofs.YtgaoabnnpjngcaaGreatSep Go.Proofs.YtgaoabnnpjngcaaGreatT Go.Proofs.YtgaoabnnpjngcaaGreatK
set_option linter.unusedVariables false
set_option linter.unusedSimpArgs false
set_option maxHeartbeats 1000000
set_option maxRecDepth 100000
theorem dgs_zero : dgs 0 = [] := by rw [dgs]; simp
theorem dgs_pos (n : Nat) (h : 0 < n) : dgs n = dgs (n / 10) ++ [UInt8.ofNat (48 + n % 10)] := by rw [dgs, if_neg kO]
theorem dgs_len (j : Nat) : ∀ n : Nat, n < 10 ^ j → (dgs n).length ≤ j := by
 induction j with
 | zero => intro n h; rw [show n = 0 by omega, dgs_zero]; simp
 | succ j ih =>
  intro n h
  rcases Nat.eq_zero_or_pos n with rfl | hp
  ·rw [dgs_zero]; simp
  ·rw [dgs_pos n hp, List.length_append]
   have := ih (n / 10) (by rw [Nat.pow_succ] at h; omega)
   simp only [List.length_singleton]
   omega
theorem ba_ext {a b : ByteArray} (h : a.data.toList = b.data.toList) : a = b := by
 cases a; cases b
 congr 1
 exact Array.toList_inj.1 h
theorem run_one_byte {src dst e : TypeId} (hs : Tryz.prog.underlying src = some (.slice e)) (he : Tryz.prog.underlying e = some (.int .u8)) (hd : Tryz.prog.underlying dst = some .string) (W : World) (v : Int) :
 (convert src dst (.slice (some ⟨W.heap.size, 0, none⟩) 1 1)).run Tryz.prog (W.alloc (.cells #[.int .u8 v] e)) = .ok (.string ⟨#[UInt8.ofNat v.toNat]⟩) (W.alloc (.cells #[.int .u8 v] e)) := by
 have h := run_loadCells_list (P := Tryz.prog) (W.alloc (.cells #[.int .u8 v] e)) ⟨W.heap.size, 0, none⟩ [.int .u8 v] (fun j u hj => by
  rw [add_plain, cell_of_row _ _ _ _ _ _ (heap_alloc_new W (.cells #[.int .u8 v] e))]
  simpa using hj)
 rw [run_convert_bytes_string _ _ _ e _ _ _ hs he hd, run_bytesToString _ _ 1 1 [v] h]
 rfl
theorem l9 (k : Int) (w : World) (h0 : 0 ≤ k) (h1 : k ≤ 4611686018427387904) : Calls Tryz.prog 62 #[.int .i64 k] w (RetString (mtx k) w) := by
 obtain ⟨n, rfl⟩ := Int.eq_ofNat_of_zero_le h0
 rcases Nat.eq_zero_or_pos n with rfl | hn
 ·have hm : Sd (mtx ((0 : Nat) : Int) = ⟨#[109, 48]⟩) := ⟨by simp [YtgaoabnnpjngcaaGreatT.mtx]⟩
  go_enter Tryz.func62, Tryz.ntmps62
  go_wp2
  go_ret
  exact ⟨congrArg (fun z => Ending.returned (.string z)) hm.out.symm, Upd.refl _ _⟩
 ·have hm : Sd (mtx (n : Int) = ⟨⟨109 :: dgs n⟩⟩) := ⟨by simp only [YtgaoabnnpjngcaaGreatT.mtx, Int.toNat_natCast]; rw [if_neg kO]⟩
  have hdl : (dgs n).length ≤ 19 := dgs_len 19 n (by have : (10 : Nat) ^ 19 = 10000000000000000000 := kD; omega)
  have hcv := run_one_byte Tryz.underlying173 Tryz.underlying5 Tryz.underlying9
  go_enter Tryz.func62, Tryz.ntmps62
  go_wp2
  go_loopg [0, 3] n (fun r a b wr => ∃ (m : Nat) (s : ByteArray), m ≤ r ∧ m ≤ n ∧ a = .int .i64 m ∧ b = .string s ∧ Sd (dgs m ++ s.data.toList = dgs n) ∧ Sd (Upd No w wr))
  case atStart => exact ⟨n, ⟨#[]⟩, Nat.le_refl _, Nat.le_refl _, rfl, rfl, ⟨by simp⟩, ⟨Upd.refl _ _⟩⟩
  case round =>
   obtain ⟨m, s, hm', hmn, rfl, rfl, HD, HU⟩ := hrel
   have hsz : s.size ≤ 19 := by
    have h2 := congrArg List.length HD.out
    rw [List.length_append] at h2
    have h3 : s.data.toList.length = s.size := by rw [Array.length_toList]; rfl
    omega
   by_cases hp : 0 < m
   ·have hd := Sd.mk (dgs_pos m hp)
    go_wp2
    go_roundg (gk - 1)
    case measure => omega
    case rel =>
     refine ⟨m / 10, _, by omega, by omega, by go_num, rfl, ⟨?_⟩, ⟨HU.out.alloc _⟩⟩
     have h2 := HD.out
     rw [hd.out] at h2
     rw [← h2]
     have h3 : (48 + (m : Int) % 10).toNat = 48 + m % 10 := by omega
     simp [ByteArray.data_append, h3]
   ·go_wp2
    go_ret
    have h2 := HD.out
    rw [show m = 0 by omega, dgs_zero] at h2
    have h3 : (({ data := #[109] } : ByteArray) ++ s) = ⟨⟨109 :: dgs n⟩⟩ := ba_ext (by rw [← h2]; simp [ByteArray.data_append])
    exact ⟨congrArg (fun z => Ending.returned (.string z)) (h3.trans hm.out.symm), HU.out⟩
theorem kl_Instr_Kmk (w : World) (x : GInstr) : jE.K w x [.int .i64 x.Op, .int .i64 x.A, .int .i64 x.B, .int .i64 x.C, .int .i64 x.D, .string x.Name] := ⟨[_], [_, _, _, _, _], rfl, rfl, ⟨[_], [_, _, _, _], rfl, rfl, ⟨[_], [_, _, _], rfl, rfl, ⟨[_], [_, _], rfl, rfl, ⟨[_], [_], rfl, rfl, rfl⟩⟩⟩⟩⟩
theorem ki_Instr_Kmk (w : World) (x : GInstr) : fG.K w x [.int .i64 x.Op, .int .i64 x.A, .int .i64 x.B, .int .i64 x.C, .int .i64 x.D, .string x.Name] := ⟨[_], [_, _, _, _, _], rfl, rfl, ⟨[_], [_, _, _, _], rfl, rfl, ⟨[_], [_, _, _], rfl, rfl, ⟨[_], [_, _], rfl, rfl, ⟨[_], [_], rfl, rfl, rfl⟩⟩⟩⟩⟩
theorem to_Instr (x : GInstr) (cs : List Value) (w : World) (h : jE.K w x cs) (hs : fT x ≤ 1048576) : Calls Tryz.prog 163 #[.agg cs.toArray] w (jU fG x w) := by
 obtain rfl := kl_Instr_K h
 clear hs
 go_enter Tryz.func163, Tryz.ntmps163
 go_wp2
 refine bodyPost_ret (v := .agg #[.int .i64 x.Op, .int .i64 x.A, .int .i64 x.B, .int .i64 x.C, .int .i64 x.D, .string x.Name]) (by simp [results, Tryz.results163, go_sem]) rfl ⟨_, rfl, ?_, kA⟩
 exact nS _ _ _
theorem toS_Instr (l : List GInstr) (A : Option Addr) (c : Nat) (w : World) (h : C jE w A l) (hs : bB fT l ≤ 1048576) : Calls Tryz.prog 146 #[.slice A l.length c] w (jH fG 124 l w) := by
 have hn : l.length ≤ 1048576 := by unfold bB at hs; omega
 have hmk := iB (P := Tryz.prog) _ _ _ Tryz.underlying120 ki_Instr_info l.length hn kD
 have H := Sd.mk h
 have HS := Sd.mk hs
 clear h hs
 go_enter Tryz.func146, Tryz.ntmps146
 go_wp2
 clear hmk
 have HR : Sd (R fG 124 (w.alloc (eD (.agg #[.int .i64 0, .int .i64 0, .int .i64 0, .int .i64 0, .int .i64 0, .string ⟨#[]⟩]) (l.length * 6) 124)) (New w) (.slice (some ⟨w.heap.size, 0, none⟩) l.length l.length) (List.replicate l.length zInstr)) := Sd.mk (kL (d := fG) (e := 124) w (.agg #[.int .i64 0, .int .i64 0, .int .i64 0, .int .i64 0, .int .i64 0, .string ⟨#[]⟩]) zInstr rfl kD ki_Instr_zero l.length hn)
 have HU := Sd.mk ((Upd.refl No w).alloc (eD (.agg #[.int .i64 0, .int .i64 0, .int .i64 0, .int .i64 0, .int .i64 0, .string ⟨#[]⟩]) (l.length * 6) 124))
 go_loopg [4] l.length (fun k v wr => ∃ i : Nat, i + k = l.length ∧ v = .int .i64 i ∧ Sd (R fG 124 wr (New w) (.slice (some ⟨w.heap.size, 0, none⟩) l.length l.length) (upTo l (List.replicate l.length zInstr) i)) ∧ Sd (Upd No w wr))
 case atStart => exact ⟨0, by omega, rfl, ⟨by rw [bX]; exact HR.out⟩, HU⟩
 case round =>
  clear HR HU
  obtain ⟨i, hi, rfl, HR, HU⟩ := hrel
  by_cases hlt : i < l.length
  ·obtain ⟨ad, rfl, a0, a1, a2, a3, a4, a5⟩ := kl_Instr_at (aM HU.out H.out) i hlt
   have hsi : fT l[i] ≤ 1048576 := by have := HS.out; have := iZ fT l i hlt; unfold bB at *; omega
   go_wp2_with fail
   with_reducible refine (to_Instr l[i] _ _ (kl_Instr_Kmk _ _) hsi).mono ?_
   rintro e w1 ⟨cs, rfl, hM, hu⟩
   obtain rfl := ki_Instr_M hM
   have HRowA := aO hu (fun _ _ q => q) (R_lt HR.out)
   have HU1 := Sd.mk (HU.out.then hu)
   have hzw := HU.out.size
   clear HR HU hM hu
   obtain ⟨g, cap, cur, ce, Fi, hv, hcap, hat, hM, hg, hFi, hFg, close⟩ := fV HRowA 6 l.length rfl (by rw [dH (by simp) (by simp; omega)]; simp) i zInstr (by rw [eP (by simp) (by simpa using hlt)]; simp)
   cases hv
   obtain rfl := ki_Instr_M hM
   have HAT := Sd.mk hat
   have x0 := hat.cell0 _ rfl
   have x1 := hat.cell 1 _ rfl
   have x2 := hat.cell 2 _ rfl
   have x3 := hat.cell 3 _ rfl
   have x4 := hat.cell 4 _ rfl
   have x5 := hat.cell 5 _ rfl
   have f0 := hat.free (i * 6)
   have f1 := hat.free (i * 6 + 1)
   have f2 := hat.free (i * 6 + 2)
   have f3 := hat.free (i * 6 + 3)
   have f4 := hat.free (i * 6 + 4)
   have f5 := hat.free (i * 6 + 5)
   have CL := Sd.mk close
   clear hat close hM HRowA
   go_wp2
   have HA := (((((HAT.out.set0 kD (.int .i64 l[i].Op)).set 1 kD (.int .i64 l[i].A)).set 2 kD (.int .i64 l[i].B)).set 3 kD (.int .i64 l[i].C)).set 4 kD (.int .i64 l[i].D)).set 5 kD (.string l[i].Name)
   have HRowB := CL.out _ _ l[i] No (New w) HA (nS _ _ _) (fun _ q => q.elim) (fun _ q => q.1) (fun _ q => q.elim)
   rw [dI (by simp) (by simpa using hlt)] at HRowB
   go_roundg (gk - 1)
   case measure => omega
   case rel => exact ⟨i + 1, by omega, by go_num, ⟨HRowB⟩, ⟨by repeat (with_reducible first | exact HU1.out | apply Upd.aP)⟩⟩
  ·go_wp2
   go_ret
   have HRowB := HR.out
   rw [dG (by simp) (by simp; omega)] at HRowB
   exact ⟨_, rfl, HRowB, HU.out⟩
theorem sz_Instr (x : GInstr) (cs : List Value) (n : Int) (w : World) (h : jE.K w x cs) (hb : Bd_Instr x) (h0 : 0 ≤ n) (h1 : n ≤ 1048576) : Calls Tryz.prog 162 #[.agg cs.toArray, .int .i64 n] w (jA (fT x) n w) := by
 obtain rfl := kl_Instr_K h
 have b_Name := hb
 unfold Bd_Instr at b_Name
 go_enter Tryz.func162, Tryz.ntmps162
 by_cases q_Name : ((x.Name.size : Nat) : Int) ≤ n
 case neg =>
  go_wp2
  go_ret
  exact ⟨_, rfl, .inr ⟨by unfold fT; omega, rfl⟩, kA⟩
 go_wp2
 go_ret
 exact ⟨_, rfl, .inl ⟨by unfold fT; omega, by unfold fT; omega⟩, kA⟩
theorem szS_Instr (l : List GInstr) (A : Option Addr) (c : Nat) (n : Int) (w : World) (h : C jE w A l) (hb : ∀ y ∈ l, Bd_Instr y) (h0 : 0 ≤ n) (h1 : n ≤ 1048576) : Calls Tryz.prog 140 #[.slice A l.length c, .int .i64 n] w (jA (bB fT l) n w) := by
 have hn := h.1
 have H := Sd.mk h
 clear h
 have HBD := Sd.mk hb
 clear hb
 go_enter Tryz.func140, Tryz.ntmps140
 by_cases q0 : (l.length : Int) ≤ n
 case neg =>
  go_wp2
  go_ret
  exact ⟨_, rfl, .inr ⟨by unfold bB; omega, rfl⟩, Upd.refl _ _⟩
 go_wp2
 go_loopg [1, 5] l.length (fun k u v wr => ∃ i : Nat, i + k = l.length ∧ (eZ fT (l.take i) : Int) ≤ n - l.length ∧ u = .int .i64 (n - l.length - eZ fT (l.take i)) ∧ v = .int .i64 i ∧ Sd (Upd No w wr))
 case atStart => exact ⟨0, by omega, by simp [eZ]; omega, by simp [eZ], rfl, ⟨Upd.refl _ _⟩⟩
 case round =>
  obtain ⟨i, hi, hle, rfl, rfl, HU⟩ := hrel
  by_cases hlt : i < l.length
  ·obtain ⟨ad, rfl, a0, a1, a2, a3, a4, a5⟩ := kl_Instr_at (aM HU.out H.out) i hlt
   have hst := jS fT l i hlt
   have HST := Sd.mk (iD fT l i hlt)
   generalize hs : eZ fT (l.take i) = s at *
   have HS := Sd.mk hs
   clear hs
   go_wp2_with fail
   with_reducible refine (sz_Instr l[i] _ _ _ (kl_Instr_Kmk _ _) (HBD.out _ (List.getElem_mem hlt)) kO kO).mono ?_
   rintro e w1 ⟨r, rfl, hr, hu⟩
   have HU1 := Sd.mk (HU.out.then hu)
   clear hu HU
   rcases hr with ⟨q, rfl⟩ | ⟨q, rfl⟩
   ·go_wp2
    go_roundg (gk - 1)
    case measure => omega
    case rel => exact ⟨i + 1, by omega, by rw [HST.out]; omega, by rw [HST.out]; exact congrArg (Value.int .i64) kO, by go_num, HU1⟩
   ·go_wp2
    go_ret
    exact ⟨_, rfl, .inr ⟨by unfold bB; omega, rfl⟩, HU1.out⟩
  ·go_wp2
   go_ret
   have e : l.take i = l := List.take_of_length_le kO
   rw [e] at hle
   exact ⟨_, rfl, .inl ⟨by unfold bB; omega, by rw [e]; unfold bB; omega⟩, HU.out⟩
theorem eq_Instr (x : GInstr) (cs cs' : List Value) (w : World) (h : fG.K w x cs) (h' : fG.K w x cs') : Calls Tryz.prog 167 #[.agg cs.toArray, .agg cs'.toArray] w (bU true w) := by
 obtain rfl := ki_Instr_K h
 obtain rfl := ki_Instr_K h'
 go_enter Tryz.func167, Tryz.ntmps167
 go_wp2
 go_ret
 exact ⟨rfl, kA⟩
theorem eqS_Instr (l : List GInstr) (A A' : Option Addr) (c c' : Nat) (w : World) (h : C fG w A l) (h' : C fG w A' l) : Calls Tryz.prog 154 #[.slice A l.length c, .slice A' l.length c'] w (bU true w) := by
 have hn := h.1
 have H := Sd.mk h
 have H' := Sd.mk h'
 clear h h'
 go_enter Tryz.func154, Tryz.ntmps154
 go_wp2
 go_loopg [5] l.length (fun k v wr => ∃ i : Nat, i + k = l.length ∧ v = .int .i64 i ∧ Sd (Upd No w wr))
 case atStart => exact ⟨0, by omega, rfl, ⟨Upd.refl _ _⟩⟩
 case round =>
  obtain ⟨i, hi, rfl, HU⟩ := hrel
  by_cases hlt : i < l.length
  ·obtain ⟨ad, rfl, a0, a1, a2, a3, a4, a5⟩ := ki_Instr_at (aM HU.out H.out) i hlt
   obtain ⟨ad', rfl, z0, z1, z2, z3, z4, z5⟩ := ki_Instr_at (aM HU.out H'.out) i hlt
   go_wp2_with fail
   go_still_tail 8, kR
   change wpList _ _ _ _ _ wr.drew
   have HW : Sd (Upd No wr wr.drew) := ⟨(Upd.refl _ _).drew⟩
   have HU2 : Sd (Upd No w wr.drew) := ⟨HU.out.drew⟩
   generalize wr.drew = w2 at *
   go_wp2_with (go_at_call 167; (with_reducible refine (eq_Instr l[i] _ _ _ (ki_Instr_Kmk _ _) (ki_Instr_Kmk _ _)).mono ?_); rintro e w' ⟨rfl, hu⟩)
   have HU3 := Sd.mk (HU2.out.then hu)
   clear HU2 hu
   go_wp2
   go_roundg (gk - 1)
   case measure => omega
   case rel => exact ⟨i + 1, by omega, by go_num, HU3⟩
  ·go_wp2
   go_ret
   exact ⟨rfl, HU.out⟩
theorem markS_Instr (l : List GInstr) (k : Int) (F : Nat → Prop) (v : Value) (w : World) (h : R fG 124 w F v l) (hk : 0 ≤ k) (hb : k + aQ dD l ≤ 4611686018427387904) : Calls Tryz.prog 107 #[v, .int .i64 k] w (Marks fG 124 F v (k + aQ dD l) (mkS lG dD k l) w) := by
 obtain ⟨A, c, rfl⟩ := aV h
 have hn := R_len h
 have H := Sd.mk h
 clear h
 go_enter Tryz.func107, Tryz.ntmps107
 go_wp2
 go_loopg [1, 5] l.length (fun r u v wr => ∃ i : Nat, i + r = l.length ∧ u = .int .i64 (k + aQ dD (l.take i)) ∧ v = .int .i64 i ∧ Sd (R fG 124 wr F (.slice A l.length c) (upTo (mkS lG dD k l) l i)) ∧ Sd (Upd F w wr))
 case atStart => exact ⟨0, by omega, by simp [aQ], rfl, ⟨by rw [bX]; exact H.out⟩, ⟨Upd.refl _ _⟩⟩
 case round =>
  obtain ⟨i, hi, rfl, rfl, HR, HU⟩ := hrel
  by_cases hlt : i < l.length
  ·have hle := dJ dD mU l i
   have hst := fQ dD l i hlt
   have hle2 := dJ dD mU l (i + 1)
   rw [hst] at hle2
   have HST := Sd.mk hst
   clear hst
   have HMA := Sd.mk (jI lG dD l k i hlt)
   obtain ⟨g, cap, cur, ce, Fi, hv, hcap, hat, hM, hg, hFi, hFg, close⟩ := fV HR.out 6 l.length rfl (dH (aR _ _ _ _) kO) i l[i] (eP (aR _ _ _ _) hlt)
   cases hv
   obtain rfl := ki_Instr_M hM
   have HCN : Sd (dD l[i] = dD l[i]) := ⟨rfl⟩
   simp only [dD] at hle2
   generalize hq : k + aQ dD (l.take i) = q at *
   have HQ := Sd.mk hq
   have hq0 : 0 ≤ q := by omega
   have hqb : q + ((((((0 + 1) + 1) + 1) + 1) + 1) + 1) ≤ 4611686018427387904 := by omega
   clear hq hle hle2 hb
   have HAT := Sd.mk hat
   have x0_s := hat.cell0 _ rfl
   have x1_s := hat.cell 1 _ rfl
   have x2_s := hat.cell 2 _ rfl
   have x3_s := hat.cell 3 _ rfl
   have x4_s := hat.cell 4 _ rfl
   have x5_s := hat.cell 5 _ rfl
   have f0_s := hat.free (i * 6)
   have f1_s := hat.free (i * 6 + 1)
   have f2_s := hat.free (i * 6 + 2)
   have f3_s := hat.free (i * 6 + 3)
   have f4_s := hat.free (i * 6 + 4)
   have f5_s := hat.free (i * 6 + 5)
   have CL := Sd.mk close
   clear hat close hM HR
   go_wp2_with fail
   with_reducible refine (l9 _ _ kO kO).mono ?_
   rintro e w_Name ⟨rfl, hu⟩
   replace HAT := Sd.mk ((((((HAT.out.set0 kD (.int .i64 (q))).set 1 kD (.int .i64 ((q + 1)))).set 2 kD (.int .i64 (((q + 1) + 1)))).set 3 kD (.int .i64 ((((q + 1) + 1) + 1)))).set 4 kD (.int .i64 (((((q + 1) + 1) + 1) + 1)))).call hu (fun _ q => q.elim) hFg)
   clear hu x0_s f0_s x1_s f1_s x2_s f2_s x3_s f3_s x4_s f4_s x5_s f5_s
   have x0_Name := HAT.out.cell0 _ rfl
   have x1_Name := HAT.out.cell 1 _ rfl
   have x2_Name := HAT.out.cell 2 _ rfl
   have x3_Name := HAT.out.cell 3 _ rfl
   have x4_Name := HAT.out.cell 4 _ rfl
   have x5_Name := HAT.out.cell 5 _ rfl
   have f0_Name := HAT.out.free (i * 6)
   have f1_Name := HAT.out.free (i * 6 + 1)
   have f2_Name := HAT.out.free (i * 6 + 2)
   have f3_Name := HAT.out.free (i * 6 + 3)
   have f4_Name := HAT.out.free (i * 6 + 4)
   have f5_Name := HAT.out.free (i * 6 + 5)
   go_wp2
   have HA := (HAT.out.set 5 kD (.string (mtx ((((((q + 1) + 1) + 1) + 1) + 1)))))
   have hy : (⟨q, (q + 1), ((q + 1) + 1), (((q + 1) + 1) + 1), ((((q + 1) + 1) + 1) + 1), mtx ((((((q + 1) + 1) + 1) + 1) + 1))⟩ : GInstr) = (mkS lG dD k l)[i]'(by rw [aR]; exact hlt) := by rw [HMA.out]; simp only [lG]
   have HRowB := CL.out _ _ (⟨q, (q + 1), ((q + 1) + 1), (((q + 1) + 1) + 1), ((((q + 1) + 1) + 1) + 1), mtx ((((((q + 1) + 1) + 1) + 1) + 1))⟩ : GInstr) Fi F HA (nS _ Fi (⟨q, (q + 1), ((q + 1) + 1), (((q + 1) + 1) + 1), ((((q + 1) + 1) + 1) + 1), mtx ((((((q + 1) + 1) + 1) + 1) + 1))⟩ : GInstr)) (fun _ hb => .inl hb) (fun _ hb => hb) hFi
   rw [hy, dI (aR _ _ _ _) hlt] at HRowB
   go_roundg (gk - 1)
   case measure => omega
   case rel => exact ⟨i + 1, by omega, by rw [HST.out]; simp only [dD]; have := HQ.out; exact congrArg (Value.int .i64) kO, by go_num, ⟨HRowB⟩, ⟨HU.out.trans HA.upd (fun _ _ hb => hb) (fun b _ hb => by rcases hb with rfl | hb; exact hg; exact hFi b hb)⟩⟩
  ·go_wp2
   go_ret
   have HRowB := HR.out
   rw [dG (aR _ _ _ _) kO] at HRowB
   have e : l.take i = l := List.take_of_length_le kO
   exact ⟨gX (by rw [e]), HRowB, HU.out⟩
theorem kl_Method_Kmk (w : World) (x : GMethod) {A1 : Option Addr} {c1 : Nat} (hl1 : x.Code.length ≤ c1) (hC1 : C jE w A1 x.Code) : iF.K w x [.string x.Name, .slice A1 x.Code.length c1] := ⟨[_], [_], rfl, rfl, ⟨A1, c1, rfl, hl1, hC1⟩⟩
theorem ki_Method_Kmk (w : World) (x : GMethod) {A1 : Option Addr} {c1 : Nat} (hl1 : x.Code.length ≤ c1) (hC1 : C fG w A1 x.Code) : dV.K w x [.string x.Name, .slice A1 x.Code.length c1] := ⟨[_], [_], rfl, rfl, ⟨A1, c1, rfl, hl1, hC1⟩⟩
theorem to_Method (x : GMethod) (cs : List Value) (w : World) (h : iF.K w x cs) (hs : dZ x ≤ 1048576) : Calls Tryz.prog 128 #[.agg cs.toArray] w (jU dV x w) := by
 obtain ⟨A1, c1, rfl, hl1, hC1⟩ := kl_Method_K h
 have HC1 := Sd.mk hC1
 clear hC1
 have s_Code : bB fT x.Code ≤ 1048576 := by unfold dZ at hs; omega
 clear hs
 go_enter Tryz.func128, Tryz.ntmps128
 go_wp2_with fail
 with_reducible refine (toS_Instr x.Code _ _ _ ?hc_Code s_Code).mono ?_
 case hc_Code => exact aM kA HC1.out
 rintro e w_Code ⟨v1, rfl, hR1, hu⟩
 obtain ⟨B1, b1, rfl⟩ := aV hR1
 obtain ⟨P1, hR1', g1, l1⟩ := fP hR1 (w.heap.size + 1 + 1 + 1) kB
 have ge1 : ∀ b, P1 b → w.heap.size + 1 + 1 < b := fun b hb => by have := g1 b hb; omega
 have n1_1 : ¬ P1 (w.heap.size + 1) := fun q => by have := ge1 _ q; omega
 have n2_1 : ¬ P1 (w.heap.size + 1 + 1) := fun q => by have := ge1 _ q; omega
 have HR1 := Sd.mk hR1'
 have GE1 := Sd.mk ge1
 have LT1 := Sd.mk l1
 have GP1 := Sd.mk g1
 clear hR1 hR1' ge1 l1 g1
 have HB_Code : Sd (Upd No w w_Code) := Sd.mk (Upd.then kA hu)
 have cc0_Code := fun o => hu.aI (b := w.heap.size) kB (fun q => q) o
 have cc1_Code := fun o => hu.aI (b := w.heap.size + 1) kB (fun q => q) o
 have cf1_Code := fun o => hu.bP (b := w.heap.size + 1) kB (fun q => q) o
 have cc2_Code := fun o => hu.aI (b := w.heap.size + 1 + 1) kB (fun q => q) o
 have cf2_Code := fun o => hu.bP (b := w.heap.size + 1 + 1) kB (fun q => q) o
 have hz_Code : w.heap.size + 1 + 1 + 1 ≤ w_Code.heap.size := by have := hu.size; (try simp at this); omega
 clear hu
 go_wp2
 refine bodyPost_ret (v := .agg #[.string x.Name, .slice B1 x.Code.length b1]) (by simp [results, Tryz.results128, go_sem, cc1_Code]) rfl ⟨_, rfl, ?_, (by repeat (with_reducible first | exact HB_Code.out | apply Upd.aT | apply Upd.aS | apply Upd.aP | apply Upd.alloc | apply Upd.drewN | apply Upd.drew))⟩
 exact mY _ _ _ (eH HR1.out (by repeat (with_reducible first | exact Upd.refl _ _ | apply Upd.eT n1_1 | apply Upd.eT n2_1 | apply Upd.alloc))) (fun k hk => by have := GE1.out k hk; simp only [New]; omega)
theorem toS_Method (l : List GMethod) (A : Option Addr) (c : Nat) (w : World) (h : C iF w A l) (hs : bB dZ l ≤ 1048576) : Calls Tryz.prog 93 #[.slice A l.length c] w (jH dV 122 l w) := by
 have hn : l.length ≤ 1048576 := by unfold bB at hs; omega
 have hmk := iB (P := Tryz.prog) _ _ _ Tryz.underlying71 ki_Method_info l.length hn kD
 have H := Sd.mk h
 have HS := Sd.mk hs
 clear h hs
 go_enter Tryz.func93, Tryz.ntmps93
 go_wp2
 clear hmk
 have HR : Sd (R dV 122 (w.alloc (eD (.agg #[.string ⟨#[]⟩, .slice none 0 0]) (l.length * 2) 122)) (New w) (.slice (some ⟨w.heap.size, 0, none⟩) l.length l.length) (List.replicate l.length zMethod)) := Sd.mk (kL (d := dV) (e := 122) w (.agg #[.string ⟨#[]⟩, .slice none 0 0]) zMethod rfl kD ki_Method_zero l.length hn)
 have HU := Sd.mk ((Upd.refl No w).alloc (eD (.agg #[.string ⟨#[]⟩, .slice none 0 0]) (l.length * 2) 122))
 go_loopg [4] l.length (fun k v wr => ∃ i : Nat, i + k = l.length ∧ v = .int .i64 i ∧ Sd (R dV 122 wr (New w) (.slice (some ⟨w.heap.size, 0, none⟩) l.length l.length) (upTo l (List.replicate l.length zMethod) i)) ∧ Sd (Upd No w wr))
 case atStart => exact ⟨0, by omega, rfl, ⟨by rw [bX]; exact HR.out⟩, HU⟩
 case round =>
  clear HR HU
  obtain ⟨i, hi, rfl, HR, HU⟩ := hrel
  by_cases hlt : i < l.length
  ·obtain ⟨ad, A1, c1, rfl, a0, a1, hl1, hC1⟩ := kl_Method_at (aM HU.out H.out) i hlt
   have HC1 := Sd.mk hC1
   clear hC1
   have hsi : dZ l[i] ≤ 1048576 := by have := HS.out; have := iZ dZ l i hlt; unfold bB at *; omega
   go_wp2_with fail
   with_reducible refine (to_Method l[i] _ _ (kl_Method_Kmk _ _ hl1 HC1.out) hsi).mono ?_
   rintro e w1 ⟨cs, rfl, hM, hu⟩
   obtain ⟨v1, P1, rfl, hR1, i1⟩ := ki_Method_M (dV.M_lt hM)
   obtain ⟨D1, d1, rfl⟩ := aV hR1
   have HRowA := aO hu (fun _ _ q => q) (R_lt HR.out)
   have HU1 := Sd.mk (HU.out.then hu)
   have hzw := HU.out.size
   have HR1 := Sd.mk hR1
   have I1 := Sd.mk i1
   clear HR HU hM hu hR1 i1
   obtain ⟨g, cap, cur, ce, Fi, hv, hcap, hat, hM, hg, hFi, hFg, close⟩ := fV HRowA 2 l.length rfl (by rw [dH (by simp) (by simp; omega)]; simp) i zMethod (by rw [eP (by simp) (by simpa using hlt)]; simp)
   cases hv
   obtain ⟨y1, _, rfl, -⟩ := ki_Method_M hM
   have HAT := Sd.mk hat
   have x0 := hat.cell0 _ rfl
   have x1 := hat.cell 1 _ rfl
   have f0 := hat.free (i * 2)
   have f1 := hat.free (i * 2 + 1)
   have CL := Sd.mk close
   clear hat close hM HRowA
   go_wp2
   have HA := (HAT.out.set0 kD (.string l[i].Name)).set 1 kD (.slice D1 l[i].Code.length d1)
   have hD1 : ∀ b, P1 b → ¬ (b = w.heap.size ∨ Fi b) := by
    intro b hb q
    have h1 := (I1.out b hb).1
    simp only [New] at h1
    rcases q with rfl | q
    ·exact absurd hg.2 kO
    ·have h2 := (hFi b q).2
     omega
   have HM := mY _ (fun b => P1 b) l[i] (aO HA.upd hD1 HR1.out) (fun k hk => hk)
   have hP1 : ∀ b, (P1 b) → New wr b := by
    intro b hb
    exact (I1.out b hb).1
   have HRowB := CL.out _ _ l[i] _ (New w) HA HM (fun b hb => .inr (fun q => by have h1 := hP1 b hb; have h2 := q.2; simp only [New] at h1; omega)) (fun _ q => q.1) (fun b hb => by have h1 := hP1 b hb; simp only [New] at h1 ⊢; omega)
   rw [dI (by simp) (by simpa using hlt)] at HRowB
   go_roundg (gk - 1)
   case measure => omega
   case rel => exact ⟨i + 1, by omega, by go_num, ⟨HRowB⟩, ⟨by repeat (with_reducible first | exact HU1.out | apply Upd.aP)⟩⟩
  ·go_wp2
   go_ret
   have HRowB := HR.out
   rw [dG (by simp) (by simp; omega)] at HRowB
   exact ⟨_, rfl, HRowB, HU.out⟩
theorem sz_Method (x : GMethod) (cs : List Value) (n : Int) (w : World) (h : iF.K w x cs) (hb : Bd_Method x) (h0 : 0 ≤ n) (h1 : n ≤ 1048576) : Calls Tryz.prog 122 #[.agg cs.toArray, .int .i64 n] w (jA (dZ x) n w) := by
 obtain ⟨A1, c1, rfl, hl1, hC1⟩ := kl_Method_K h
 have HC1 := Sd.mk hC1
 clear hC1
 obtain ⟨b_Name, b_Code⟩ := hb
 have B_Code := Sd.mk b_Code
 clear b_Code
 go_enter Tryz.func122, Tryz.ntmps122
 by_cases q_Name : ((x.Name.size : Nat) : Int) ≤ n
 case neg =>
  go_wp2
  go_ret
  exact ⟨_, rfl, .inr ⟨by unfold dZ; omega, rfl⟩, kA⟩
 go_wp2_with fail
 with_reducible refine (szS_Instr x.Code _ _ _ _ ?hc_Code B_Code.out kO kO).mono ?_
 case hc_Code => exact aM kA HC1.out
 rintro e w_Code ⟨r_Code, rfl, hr_Code, hu⟩
 have HB_Code : Sd (Upd No w w_Code) := Sd.mk (Upd.then kA hu)
 have cc0_Code := fun o => hu.aI (b := w.heap.size) kB (fun q => q) o
 have hz_Code : w.heap.size + 1 ≤ w_Code.heap.size := by have := hu.size; (try simp at this); omega
 clear hu
 rcases hr_Code with ⟨q_Code, rfl⟩ | ⟨q_Code, rfl⟩
 case inr =>
  go_wp2
  go_ret
  exact ⟨_, rfl, .inr ⟨by unfold dZ; omega, rfl⟩, (by repeat (with_reducible first | exact HB_Code.out | apply Upd.aT | apply Upd.aS | apply Upd.aP | apply Upd.alloc | apply Upd.drewN | apply Upd.drew))⟩
 go_wp2
 go_ret
 exact ⟨_, rfl, .inl ⟨by unfold dZ; omega, by unfold dZ; omega⟩, (by repeat (with_reducible first | exact HB_Code.out | apply Upd.aT | apply Upd.aS | apply Upd.aP | apply Upd.alloc | apply Upd.drewN | apply Upd.drew))⟩
theorem szS_Method (l : List GMethod) (A : Option Addr) (c : Nat) (n : Int) (w : World) (h : C iF w A l) (hb : ∀ y ∈ l, Bd_Method y) (h0 : 0 ≤ n) (h1 : n ≤ 1048576) : Calls Tryz.prog 87 #[.slice A l.length c, .int .i64 n] w (jA (bB dZ l) n w) := by
 have hn := h.1
 have H := Sd.mk h
 clear h
 have HBD := Sd.mk hb
 clear hb
 go_enter Tryz.func87, Tryz.ntmps87
 by_cases q0 : (l.length : Int) ≤ n
 case neg =>
  go_wp2
  go_ret
  exact ⟨_, rfl, .inr ⟨by unfold bB; omega, rfl⟩, Upd.refl _ _⟩
 go_wp2
 go_loopg [1, 5] l.length (fun k u v wr => ∃ i : Nat, i + k = l.length ∧ (eZ dZ (l.take i) : Int) ≤ n - l.length ∧ u = .int .i64 (n - l.length - eZ dZ (l.take i)) ∧ v = .int .i64 i ∧ Sd (Upd No w wr))
 case atStart => exact ⟨0, by omega, by simp [eZ]; omega, by simp [eZ], rfl, ⟨Upd.refl _ _⟩⟩
 case round =>
  obtain ⟨i, hi, hle, rfl, rfl, HU⟩ := hrel
  by_cases hlt : i < l.length
  ·obtain ⟨ad, A1, c1, rfl, a0, a1, hl1, hC1⟩ := kl_Method_at (aM HU.out H.out) i hlt
   have HC1 := Sd.mk hC1
   clear hC1
   have hst := jS dZ l i hlt
   have HST := Sd.mk (iD dZ l i hlt)
   generalize hs : eZ dZ (l.take i) = s at *
   have HS := Sd.mk hs
   clear hs
   go_wp2_with fail
   with_reducible refine (sz_Method l[i] _ _ _ (kl_Method_Kmk _ _ hl1 HC1.out) (HBD.out _ (List.getElem_mem hlt)) kO kO).mono ?_
   rintro e w1 ⟨r, rfl, hr, hu⟩
   have HU1 := Sd.mk (HU.out.then hu)
   clear hu HU
   rcases hr with ⟨q, rfl⟩ | ⟨q, rfl⟩
   ·go_wp2
    go_roundg (gk - 1)
    case measure => omega
    case rel => exact ⟨i + 1, by omega, by rw [HST.out]; omega, by rw [HST.out]; exact congrArg (Value.int .i64) kO, by go_num, HU1⟩
   ·go_wp2
    go_ret
    exact ⟨_, rfl, .inr ⟨by unfold bB; omega, rfl⟩, HU1.out⟩
  ·go_wp2
   go_ret
   have e : l.take i = l := List.take_of_length_le kO
   rw [e] at hle
   exact ⟨_, rfl, .inl ⟨by unfold bB; omega, by rw [e]; unfold bB; omega⟩, HU.out⟩
theorem eq_Method (x : GMethod) (cs cs' : List Value) (w : World) (h : dV.K w x cs) (h' : dV.K w x cs') : Calls Tryz.prog 134 #[.agg cs.toArray, .agg cs'.toArray] w (bU true w) := by
 obtain ⟨A1, c1, rfl, hl1, hC1⟩ := ki_Method_K h
 have HC1 := Sd.mk hC1
 clear hC1
 obtain ⟨B1, b1, rfl, hm1, hD1⟩ := ki_Method_K h'
 have HD1 := Sd.mk hD1
 clear hD1
 go_enter Tryz.func134, Tryz.ntmps134
 go_wp2_with fail
 with_reducible refine (eqS_Instr x.Code _ _ _ _ _ ?hc_Code ?hd_Code).mono ?_
 case hc_Code => exact aM kA HC1.out
 case hd_Code => exact aM kA HD1.out
 rintro e w_Code ⟨rfl, hu⟩
 have HB_Code : Sd (Upd No w w_Code) := Sd.mk (Upd.then kA hu)
 have cc0_Code := fun o => hu.aI (b := w.heap.size) kB (fun q => q) o
 have cc1_Code := fun o => hu.aI (b := w.heap.size + 1) kB (fun q => q) o
 have hz_Code : w.heap.size + 1 + 1 ≤ w_Code.heap.size := by have := hu.size; (try simp at this); omega
 clear hu
 go_wp2
 go_ret
 exact ⟨rfl, (by repeat (with_reducible first | exact HB_Code.out | apply Upd.aT | apply Upd.aS | apply Upd.aP | apply Upd.alloc | apply Upd.drewN | apply Upd.drew))⟩
theorem eqS_Method (l : List GMethod) (A A' : Option Addr) (c c' : Nat) (w : World) (h : C dV w A l) (h' : C dV w A' l) : Calls Tryz.prog 101 #[.slice A l.length c, .slice A' l.length c'] w (bU true w) := by
 have hn := h.1
 have H := Sd.mk h
 have H' := Sd.mk h'
 clear h h'
 go_enter Tryz.func101, Tryz.ntmps101
 go_wp2
 go_loopg [5] l.length (fun k v wr => ∃ i : Nat, i + k = l.length ∧ v = .int .i64 i ∧ Sd (Upd No w wr))
 case atStart => exact ⟨0, by omega, rfl, ⟨Upd.refl _ _⟩⟩
 case round =>
  obtain ⟨i, hi, rfl, HU⟩ := hrel
  by_cases hlt : i < l.length
  ·obtain ⟨ad, A1, c1, rfl, a0, a1, hl1, hC1⟩ := ki_Method_at (aM HU.out H.out) i hlt
   obtain ⟨ad', B1, b1, rfl, z0, z1, hm1, hD1⟩ := ki_Method_at (aM HU.out H'.out) i hlt
   have HC1 := Sd.mk hC1
   have HD1 := Sd.mk hD1
   clear hC1 hD1
   go_wp2_with fail
   go_still_tail 8, kR
   change wpList _ _ _ _ _ wr.drew
   have HW : Sd (Upd No wr wr.drew) := ⟨(Upd.refl _ _).drew⟩
   have HU2 : Sd (Upd No w wr.drew) := ⟨HU.out.drew⟩
   generalize wr.drew = w2 at *
   go_wp2_with (go_at_call 134; (with_reducible refine (eq_Method l[i] _ _ _ (ki_Method_Kmk _ _ hl1 (aM HW.out HC1.out)) (ki_Method_Kmk _ _ hm1 (aM HW.out HD1.out))).mono ?_); rintro e w' ⟨rfl, hu⟩)
   have HU3 := Sd.mk (HU2.out.then hu)
   clear HU2 hu
   go_wp2
   go_roundg (gk - 1)
   case measure => omega
   case rel => exact ⟨i + 1, by omega, by go_num, HU3⟩
  ·go_wp2
   go_ret
   exact ⟨rfl, HU.out⟩
theorem markS_Method (l : List GMethod) (k : Int) (F : Nat → Prop) (v : Value) (w : World) (h : R dV 122 w F v l) (hk : 0 ≤ k) (hb : k + aQ bV l ≤ 4611686018427387904) : Calls Tryz.prog 63 #[v, .int .i64 k] w (Marks dV 122 F v (k + aQ bV l) (mkS kE bV k l) w) := by
 obtain ⟨A, c, rfl⟩ := aV h
 have hn := R_len h
 have H := Sd.mk h
 clear h
 go_enter Tryz.func63, Tryz.ntmps63
 go_wp2
 go_loopg [1, 5] l.length (fun r u v wr => ∃ i : Nat, i + r = l.length ∧ u = .int .i64 (k + aQ bV (l.take i)) ∧ v = .int .i64 i ∧ Sd (R dV 122 wr F (.slice A l.length c) (upTo (mkS kE bV k l) l i)) ∧ Sd (Upd F w wr))
 case atStart => exact ⟨0, by omega, by simp [aQ], rfl, ⟨by rw [bX]; exact H.out⟩, ⟨Upd.refl _ _⟩⟩
 case round =>
  obtain ⟨i, hi, rfl, rfl, HR, HU⟩ := hrel
  by_cases hlt : i < l.length
  ·have hle := dJ bV mF l i
   have hst := fQ bV l i hlt
   have hle2 := dJ bV mF l (i + 1)
   rw [hst] at hle2
   have HST := Sd.mk hst
   clear hst
   have HMA := Sd.mk (jI kE bV l k i hlt)
   obtain ⟨g, cap, cur, ce, Fi, hv, hcap, hat, hM, hg, hFi, hFg, close⟩ := fV HR.out 2 l.length rfl (dH (aR _ _ _ _) kO) i l[i] (eP (aR _ _ _ _) hlt)
   cases hv
   obtain ⟨v1, P1, rfl, hR1, i1⟩ := ki_Method_M hM
   obtain ⟨B1, b1, rfl⟩ := aV hR1
   have HR1 := Sd.mk hR1
   have I1 := Sd.mk i1
   have N1 : ¬ P1 g := fun q => hFg (i1 g q)
   clear hR1 i1
   have nn1 := dB dD mU l[i].Code
   have HCN : Sd (bV l[i] = bV l[i]) := ⟨rfl⟩
   simp only [bV] at hle2
   generalize hq : k + aQ bV (l.take i) = q at *
   have HQ := Sd.mk hq
   have hq0 : 0 ≤ q := by omega
   have hqb : q + ((0 + 1) + aQ dD l[i].Code) ≤ 4611686018427387904 := by omega
   clear hq hle hle2 hb
   generalize hcn1 : aQ dD l[i].Code = cn1 at *
   have HC1 := Sd.mk hcn1
   clear hcn1
   have HAT := Sd.mk hat
   have x0_s := hat.cell0 _ rfl
   have x1_s := hat.cell 1 _ rfl
   have f0_s := hat.free (i * 2)
   have f1_s := hat.free (i * 2 + 1)
   have CL := Sd.mk close
   clear hat close hM HR
   go_wp2_with fail
   with_reducible refine (l9 _ _ kO kO).mono ?_
   rintro e w_Name ⟨rfl, hu⟩
   replace HR1 := Sd.mk (aO hu (fun _ _ q => q) (aO (G := fun b => b = g) kC (fun b hb hg' => N1 (hg' ▸ hb)) HR1.out))
   replace HAT := Sd.mk (HAT.out.call hu (fun _ q => q.elim) hFg)
   clear hu x0_s f0_s x1_s f1_s
   have x0_Name := HAT.out.cell0 _ rfl
   have x1_Name := HAT.out.cell 1 _ rfl
   have f0_Name := HAT.out.free (i * 2)
   have f1_Name := HAT.out.free (i * 2 + 1)
   go_wp2_with fail
   with_reducible refine (markS_Instr l[i].Code _ P1 _ _ ?hr_Code kO (by rw [HC1.out]; omega)).mono ?_
   case hr_Code => exact (aO (G := fun b => b = g) kC (fun b hb hg' => N1 (hg' ▸ hb)) HR1.out)
   rintro e w_Code ⟨rfl, hR1, hu⟩
   rw [HC1.out]
   replace HR1 := Sd.mk hR1
   replace HAT := Sd.mk ((HAT.out.set0 kD (.string (mtx (q)))).call hu I1.out hFg)
   clear hR1
   clear hu x0_Name f0_Name x1_Name f1_Name
   have x0_Code := HAT.out.cell0 _ rfl
   have x1_Code := HAT.out.cell 1 _ rfl
   have f0_Code := HAT.out.free (i * 2)
   have f1_Code := HAT.out.free (i * 2 + 1)
   go_wp2
   have HA := HAT.out
   have hy : (⟨mtx (q), mkS lG dD (q + 1) l[i].Code⟩ : GMethod) = (mkS kE bV k l)[i]'(by rw [aR]; exact hlt) := by rw [HMA.out]; simp only [kE, HC1.out]
   have HRowB := CL.out _ _ (⟨mtx (q), mkS lG dD (q + 1) l[i].Code⟩ : GMethod) Fi F HA (mY _ Fi (⟨mtx (q), mkS lG dD (q + 1) l[i].Code⟩ : GMethod) (aO (G := fun b => b = g) kC (fun b hb hg' => N1 (hg' ▸ hb)) HR1.out) I1.out) (fun _ hb => .inl hb) (fun _ hb => hb) hFi
   rw [hy, dI (aR _ _ _ _) hlt] at HRowB
   go_roundg (gk - 1)
   case measure => omega
   case rel => exact ⟨i + 1, by omega, by rw [HST.out]; simp only [bV]; have := HQ.out; have := HC1.out; exact congrArg (Value.int .i64) kO, by go_num, ⟨HRowB⟩, ⟨HU.out.trans HA.upd (fun _ _ hb => hb) (fun b _ hb => by rcases hb with rfl | hb; exact hg; exact hFi b hb)⟩⟩
  ·go_wp2
   go_ret
   have HRowB := HR.out
   rw [dG (aR _ _ _ _) kO] at HRowB
   have e : l.take i = l := List.take_of_length_le kO
   exact ⟨gX (by rw [e]), HRowB, HU.out⟩
end Go.Proofs.YtgaoabnnpjngcaaGreatFam

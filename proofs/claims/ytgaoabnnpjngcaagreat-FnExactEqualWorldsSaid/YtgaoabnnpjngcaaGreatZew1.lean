/- What the row needs, packed. No conditions beyond those that each law names. -/
import Derived.WalkKit
import Derived.Below
import Derived.OwnWalk
import Derived.Laws.AppendOwn
import Derived.Deep.Slices
import Derived.Deep.Draws
import Derived.Laws.Rows
import Derived.ChangeArms
import Derived.WideShapes
import Derived.Laws.MakeOwn
import Derived.Maps.AppendAt
import Derived.Deep.AppendLies
import Derived.WalkSpells
import Derived.Deep.RegionHeld3
import Derived.OrdersHeld
import Derived.Deep.LoopGhost
import Derived.Laws.CopyRow
import Derived.KernelRfl
import Derived.IntWalk
import Derived.Test.YtgaoabnnpjngcaaGreatProg
import Derived.Laws.StructEq
import Derived.RowKit3
import Derived.Deep.QuietTactic
import Derived.BigQuiet
import Derived.StillTailTactics
namespace Go.Proofs.YtgaoabnnpjngcaaGreatSep
theorem kA {p : Prop} (h : p := by repeat (with_reducible first | exact Upd.refl _ _ | apply Upd.bM | apply Upd.bL | apply Upd.bI | apply Upd.alloc | apply Upd.drewN | apply Upd.drew)) : p := h
theorem kB {p : Prop} (h : p := by first | omega | (simp; done) | (simp; omega)) : p := h
theorem kC {p : Prop} (h : p := by repeat (with_reducible first | exact Upd.refl _ _ | apply Upd.setg)) : p := h
theorem kR {p : Prop} (h : p := by kernel_rfl) : p := h
theorem kD {p : Prop} (h : p := by decide) : p := h
theorem kO {p : Prop} (h : p := by omega) : p := h
theorem kS {p : Prop} (h : p := by simp [Value.oneCell']) : p := h
end Go.Proofs.YtgaoabnnpjngcaaGreatSep
namespace Go.Proofs.YtgaoabnnpjngcaaGreatSep
open Go.ChangeShapes Go.WideShapes Go.RowKit
structure Sd (p : Prop) : Prop where mk :: (out : p)
structure Upd (F : Nat → Prop) (w w' : World) : Prop where
 os : w'.os = w.os
 tape : w'.tape = w.tape
 output : w'.output = w.output
 size : w.heap.size ≤ w'.heap.size
 block : ∀ b, b < w.heap.size → ¬ F b → w'.heap[b]? = w.heap[b]?
def No : Nat → Prop := fun _ => False
theorem Upd.refl (F : Nat → Prop) (w : World) : Upd F w w := ⟨rfl, rfl, rfl, Nat.le_refl _, fun _ _ _ => rfl⟩
theorem Upd.trans {F G H : Nat → Prop} {w w1 w2 : World} (h : Upd F w w1) (k : Upd G w1 w2) (hF : ∀ b, b < w.heap.size → F b → H b) (hG : ∀ b, b < w.heap.size → G b → H b) : Upd H w w2 :=
 ⟨k.os.trans h.os, k.tape.trans h.tape, k.output.trans h.output, Nat.le_trans h.size k.size, fun b hb hH => (k.block b (Nat.lt_of_lt_of_le hb h.size) (fun q => hH (hG b hb q))).trans (h.block b hb (fun q => hH (hF b hb q)))⟩
theorem Upd.mono {F G : Nat → Prop} {w w' : World} (h : Upd F w w') (hF : ∀ b, b < w.heap.size → F b → G b) : Upd G w w' := ⟨h.os, h.tape, h.output, h.size, fun b hb hG => h.block b hb (fun q => hG (hF b hb q))⟩
theorem Upd.then {w w1 w2 : World} (h : Upd No w w1) (k : Upd No w1 w2) : Upd No w w2 := h.trans k (fun _ _ q => q) (fun _ _ q => q)
theorem Upd.alloc {F : Nat → Prop} {w w1 : World} (h : Upd F w w1) (o : Obj) : Upd F w (w1.alloc o) :=
 ⟨h.os, h.tape, h.output, Nat.le_trans h.size (by simp), fun b hb hF => by rw [← h.block b hb hF]; exact heap_alloc_old w1 o (Nat.lt_of_lt_of_le hb h.size)⟩
theorem Upd.drewN {F : Nat → Prop} {w w1 : World} (h : Upd F w w1) (n : Nat) : Upd F w (w1.drewN n) := ⟨h.os, h.tape, h.output, h.size, h.block⟩
theorem Upd.drew {F : Nat → Prop} {w w1 : World} (h : Upd F w w1) : Upd F w w1.drew := ⟨h.os, h.tape, h.output, h.size, h.block⟩
theorem Upd.set {F : Nat → Prop} {w w1 : World} (h : Upd F w w1) (p : Addr) (u : Value) (hp : w.heap.size ≤ p.block ∨ F p.block) : Upd F w (w1.setCell p u) := by
 have hb : ∀ b, b ≠ p.block → (w1.setCell p u).heap[b]? = w1.heap[b]? := fun b hb => Below.heap_setCell w1 p u b hb
 have hs : (w1.setCell p u).heap.size = w1.heap.size := by simp [World.setCell]
 exact ⟨h.os, h.tape, h.output, by rw [hs]; exact h.size, fun b hb' hF => (hb b (by rintro rfl; rcases hp with hp | hp; omega; exact hF hp)).trans (h.block b hb' hF)⟩
theorem Upd.below {w w' : World} (h : Upd No w w') : Below w.heap.size w w' := ⟨h.os, h.tape, h.output, h.size, fun b hb => h.block b hb (fun q => q)⟩
theorem Upd.cells {w w' : World} (h : Upd No w w') : (∀ b o, b < w.heap.size → w'.cell? ⟨b, o, none⟩ = w.cell? ⟨b, o, none⟩) ∧ (∀ b o, b < w.heap.size → w'.frozen? ⟨b, o, none⟩ = w.frozen? ⟨b, o, none⟩) :=
 ⟨fun b o hb => h.below.cell (p := ⟨b, o, none⟩) hb, fun b o hb => h.below.frozen (p := ⟨b, o, none⟩) hb⟩
theorem Upd.bB {F : Nat → Prop} {w w' : World} (h : Upd F w w') {b : Nat} (hb : b < w.heap.size) (hF : ¬ F b) (o : Nat) : w'.cell? ⟨b, o, none⟩ = w.cell? ⟨b, o, none⟩ := by
 simp [World.cell?, h.block b hb hF]
theorem Upd.dR {F : Nat → Prop} {w w' : World} (h : Upd F w w') {b : Nat} (hb : b < w.heap.size) (hF : ¬ F b) (o : Nat) : w'.frozen? ⟨b, o, none⟩ = w.frozen? ⟨b, o, none⟩ := by
 simp [World.frozen?, h.block b hb hF]
theorem blk_set {w : World} {g : Nat} {t : TypeId} {cs : Array Value} (h : w.heap[g]? = some (.cells cs t (0, 0))) (i : Nat) (u : Value) : (w.setCell ⟨g, i, none⟩ u).heap[g]? = some (.cells (cs.setIfInBounds i u) t (0, 0)) := by
 simp [World.setCell, Array.getElem?_modify, h]
structure Kn (α : Type) where
 sz : Nat
 K : World → α → List Value → Prop
 M : World → (Nat → Prop) → α → List Value → Prop
 jR : ∀ {w x cs}, K w x cs → cs.length = sz
 jW : ∀ {w x cs}, K w x cs → ∀ u ∈ cs, u.oneCell' = true
 K_stay : ∀ {w w' : World} {x cs}, (∀ b, b < w.heap.size → w'.heap[b]? = w.heap[b]?) → K w x cs → K w' x cs
 kL : ∀ {w F x cs}, M w F x cs → K w x cs
 M_mono : ∀ {w F F' x cs}, (∀ b, F b → F' b) → M w F x cs → M w F' x cs
 M_lt : ∀ {w : World} {F x cs}, M w F x cs → M w (fun b => F b ∧ b < w.heap.size) x cs
 M_same : ∀ {w w' : World} {F x cs}, (∀ b, F b → w'.heap[b]? = w.heap[b]?) → M w F x cs → M w' F x cs
section
variable {α : Type} (d : Kn α)
def piece (sz : Nat) (l : List Value) (i : Nat) : List Value := (l.drop (i * sz)).take sz
def C (w : World) (A : Option Addr) (xs : List α) : Prop :=
 xs.length ≤ 9223372036854775807 ∧ (0 < xs.length → ∃ ad, A = some ad ∧ ∀ j p, xs[j]? = some p → ∃ c, d.K w p c ∧ ∀ i u, c[i]? = some u → w.cell? (ad.add (j * d.sz + i)) = some u)
def R (e : Nat) (w : World) (F : Nat → Prop) (v : Value) (xs : List α) : Prop :=
 (v = .slice none 0 0 ∧ xs = []) ∨
 ∃ (g cap : Nat) (cur : Array Value) (Fs : Nat → Nat → Prop), v = .slice (some ⟨g, 0, none⟩) xs.length cap ∧ w.heap[g]? = some (.cells cur e (0, 0)) ∧ F g ∧ xs.length ≤ cap ∧ cap ≤ 9223372036854775807 ∧ cur.size = cap * d.sz ∧
  (∀ i b, Fs i b → F b ∧ b ≠ g) ∧ (∀ i j b, Fs i b → Fs j b → i = j) ∧ ∀ i x, xs[i]? = some x → d.M w (Fs i) x (piece d.sz cur.toList i)
variable {d} {e : Nat} {w w' : World} {F F' : Nat → Prop} {v : Value} {xs : List α}
theorem R_nil : R d e w F (.slice none 0 0) [] := .inl ⟨rfl, rfl⟩
theorem R_mono (hF : ∀ b, F b → F' b) (h : R d e w F v xs) : R d e w F' v xs := by
 rcases h with h | ⟨g, cap, cur, Fs, h1, h2, h3, h4, h5, h6, h7, h8, h9⟩
 ·exact .inl h
 ·exact .inr ⟨g, cap, cur, Fs, h1, h2, hF _ h3, h4, h5, h6, fun i b hb => ⟨hF _ (h7 i b hb).1, (h7 i b hb).2⟩, h8, h9⟩
theorem heap_lt {w : World} {g : Nat} {o : Obj} (h : w.heap[g]? = some o) : g < w.heap.size := (Array.getElem?_eq_some_iff.1 h).1
theorem R_lt (h : R d e w F v xs) : R d e w (fun b => F b ∧ b < w.heap.size) v xs := by
 rcases h with h | ⟨g, cap, cur, Fs, h1, h2, h3, h4, h5, h6, h7, h8, h9⟩
 ·exact .inl h
 ·refine .inr ⟨g, cap, cur, fun i b => Fs i b ∧ b < w.heap.size, h1, h2, ⟨h3, heap_lt h2⟩, h4, h5, h6, fun i b hb => ⟨⟨(h7 i b hb.1).1, hb.2⟩, (h7 i b hb.1).2⟩, fun i j b hi hj => h8 i j b hi.1 hj.1, fun i x hx => d.M_lt (h9 i x hx)⟩
theorem R_same (hF : ∀ b, F b → w'.heap[b]? = w.heap[b]?) (h : R d e w F v xs) : R d e w' F v xs := by
 rcases h with h | ⟨g, cap, cur, Fs, h1, h2, h3, h4, h5, h6, h7, h8, h9⟩
 ·exact .inl h
 ·exact .inr ⟨g, cap, cur, Fs, h1, (hF _ h3).trans h2, h3, h4, h5, h6, h7, h8, fun i x hx => d.M_same (fun b hb => hF b (h7 i b hb).1) (h9 i x hx)⟩
theorem R_reads (h : R d e w F v xs) : ∃ A c, v = .slice A xs.length c ∧ xs.length ≤ c ∧ C d w A xs := by
 rcases h with ⟨rfl, rfl⟩ | ⟨g, cap, cur, Fs, h1, h2, h3, h4, h5, h6, h7, h8, h9⟩
 ·exact ⟨none, 0, rfl, Nat.le_refl _, by simp, fun h => absurd h (Nat.lt_irrefl 0)⟩
 ·refine ⟨_, cap, h1, h4, by omega, fun _ => ⟨_, rfl, fun j p hp => ⟨_, d.kL (h9 j p hp), fun i u hu => ?_⟩⟩⟩
  have hi : i < d.sz := by have := (List.getElem?_eq_some_iff.1 hu).1; simp [piece] at this; omega
  have : cur[j * d.sz + i]? = some u := by
   simp [piece, hi] at hu
   exact hu
  rw [show (⟨g, 0, none⟩ : Addr).add (j * d.sz + i) = ⟨g, j * d.sz + i, none⟩ by unfold Addr.add; split <;> simp_all]
  rw [cell_of_row w g _ cur e (0, 0) h2]
  exact this
theorem C_stay {A : Option Addr} (h : ∀ b, b < w.heap.size → w'.heap[b]? = w.heap[b]?) (hc : C d w A xs) : C d w' A xs := by
 refine ⟨hc.1, fun hp => ?_⟩
 obtain ⟨ad, rfl, k⟩ := hc.2 hp
 refine ⟨ad, rfl, fun j p hj => ?_⟩
 obtain ⟨c, k1, k2⟩ := k j p hj
 refine ⟨c, d.K_stay h k1, fun i u hu => ?_⟩
 have := k2 i u hu
 have hb := World.block_lt_of_cell? w _ this
 rw [← this]
 simp only [World.cell?, h _ hb]
end
namespace Kn
def scalar {α : Type} (enc : α → Value) (h1 : ∀ x, (enc x).oneCell' = true) : Kn α where
 sz := 1
 K := fun _ x cs => cs = [enc x]
 M := fun _ _ x cs => cs = [enc x]
 jR := fun h => by rw [h]; rfl
 jW := fun h u hu => by rw [h] at hu; rw [List.mem_singleton.1 hu]; exact h1 _
 K_stay := fun _ h => h
 kL := fun h => h
 M_mono := fun _ h => h
 M_lt := fun h => h
 M_same := fun _ h => h
def int : Kn Int := scalar (Value.int .i64) (fun _ => rfl)
def bool : Kn Bool := scalar Value.bool (fun _ => rfl)
def string : Kn ByteArray := scalar Value.string (fun _ => rfl)
def slice {α : Type} (e : Nat) (d : Kn α) : Kn (List α) where
 sz := 1
 K := fun w xs cs => ∃ A c, cs = [.slice A xs.length c] ∧ xs.length ≤ c ∧ C d w A xs
 M := fun w F xs cs => ∃ v, cs = [v] ∧ R d e w F v xs
 jR := by rintro w x cs ⟨A, c, rfl, _⟩; rfl
 jW := by rintro w x cs ⟨A, c, rfl, _⟩ u hu; rw [List.mem_singleton.1 hu]; rfl
 K_stay := by rintro w w' x cs h ⟨A, c, rfl, hl, hr⟩; exact ⟨A, c, rfl, hl, C_stay h hr⟩
 kL := by rintro w F x cs ⟨v, rfl, h⟩; obtain ⟨A, c, rfl, hl, hr⟩ := R_reads h; exact ⟨A, c, rfl, hl, hr⟩
 M_mono := by rintro w F F' x cs hF ⟨v, rfl, h⟩; exact ⟨v, rfl, R_mono hF h⟩
 M_lt := by rintro w F x cs ⟨v, rfl, h⟩; exact ⟨v, rfl, R_lt h⟩
 M_same := by rintro w w' F x cs hF ⟨v, rfl, h⟩; exact ⟨v, rfl, R_same hF h⟩
def pair {α β : Type} (a : Kn α) (b : Kn β) : Kn (α × β) where
 sz := a.sz + b.sz
 K := fun w x cs => ∃ c0 c1, cs = c0 ++ c1 ∧ a.K w x.1 c0 ∧ b.K w x.2 c1
 M := fun w F x cs => ∃ c0 c1 F0 F1, cs = c0 ++ c1 ∧ a.M w F0 x.1 c0 ∧ b.M w F1 x.2 c1 ∧ (∀ k, F0 k → F k) ∧ (∀ k, F1 k → F k) ∧ ∀ k, F0 k → ¬ F1 k
 jR := by rintro w x cs ⟨c0, c1, rfl, h0, h1⟩; rw [List.length_append, a.jR h0, b.jR h1]
 jW := by
  rintro w x cs ⟨c0, c1, rfl, h0, h1⟩ u hu
  rcases List.mem_append.1 hu with hu | hu
  ·exact a.jW h0 u hu
  ·exact b.jW h1 u hu
 K_stay := by rintro w w' x cs h ⟨c0, c1, rfl, h0, h1⟩; exact ⟨c0, c1, rfl, a.K_stay h h0, b.K_stay h h1⟩
 kL := by rintro w F x cs ⟨c0, c1, F0, F1, rfl, h0, h1, _⟩; exact ⟨c0, c1, rfl, a.kL h0, b.kL h1⟩
 M_mono := by rintro w F F' x cs hF ⟨c0, c1, F0, F1, rfl, h0, h1, k0, k1, k2⟩; exact ⟨c0, c1, F0, F1, rfl, h0, h1, fun k hk => hF k (k0 k hk), fun k hk => hF k (k1 k hk), k2⟩
 M_lt := by
  rintro w F x cs ⟨c0, c1, F0, F1, rfl, h0, h1, k0, k1, k2⟩
  exact ⟨c0, c1, _, _, rfl, a.M_lt h0, b.M_lt h1, fun k hk => ⟨k0 k hk.1, hk.2⟩, fun k hk => ⟨k1 k hk.1, hk.2⟩, fun k hk hk' => k2 k hk.1 hk'.1⟩
 M_same := by
  rintro w w' F x cs hF ⟨c0, c1, F0, F1, rfl, h0, h1, k0, k1, k2⟩
  exact ⟨c0, c1, F0, F1, rfl, a.M_same (fun b hb => hF b (k0 b hb)) h0, b.M_same (fun b hb => hF b (k1 b hb)) h1, k0, k1, k2⟩
def iso {α β : Type} (d : Kn α) (f : β → α) : Kn β where
 sz := d.sz
 K := fun w x cs => d.K w (f x) cs
 M := fun w F x cs => d.M w F (f x) cs
 jR := d.jR
 jW := d.jW
 K_stay := d.K_stay
 kL := d.kL
 M_mono := d.M_mono
 M_lt := d.M_lt
 M_same := d.M_same
end Kn
section
variable {α : Type} {d : Kn α} {e : Nat} {w w' : World} {F F' : Nat → Prop} {v : Value} {xs : List α} {x : α} {cs : List Value}
theorem fE (h : Upd No w w') (k : d.K w x cs) : d.K w' x cs := d.K_stay (fun b hb => h.block b hb (fun q => q)) k
theorem aS {A : Option Addr} (h : Upd No w w') (k : C d w A xs) : C d w' A xs := C_stay (fun b hb => h.block b hb (fun q => q)) k
theorem gH {G : Nat → Prop} (h : Upd G w w') (hG : ∀ b, F b → ¬ G b) (k : R d e w F v xs) : R d e w' F v xs := R_mono (fun _ q => q.1) (R_same (fun b hb => h.block b hb.2 (hG b hb.1)) (R_lt k))
theorem fI (h : R d e w F v xs) : ∃ A c, v = .slice A xs.length c := by
 obtain ⟨A, c, h, _⟩ := R_reads h
 exact ⟨A, c, h⟩
theorem C_get {A : Option Addr} (h : C d w A xs) (i : Nat) (hi : i < xs.length) : ∃ ad c, A = some ad ∧ c.length = d.sz ∧ d.K w xs[i] c ∧ ∀ j u, c[j]? = some u → w.cell? (ad.add (i * d.sz + j)) = some u := by
 obtain ⟨ad, rfl, k⟩ := h.2 kO
 obtain ⟨c, h1, h2⟩ := k i xs[i] (List.getElem?_eq_getElem hi)
 exact ⟨ad, c, rfl, d.jR h1, h1, h2⟩
theorem add_field (ad : Addr) (m j : Nat) (hj : 0 < j) : ad.add (m + j) = ⟨(ad.add m).block, (ad.add m).off + j, none⟩ := by
 unfold Addr.add
 by_cases hm : m = 0
 ·subst hm
  simp [Nat.ne_of_gt hj]
 ·have : m + j ≠ 0 := by omega
  simp [hm, Nat.add_assoc]
theorem C_at {A : Option Addr} (h : C d w A xs) (i : Nat) (hi : i < xs.length) : ∃ ad c, A = some ad ∧ d.K w xs[i] c ∧ (∀ u, c[0]? = some u → w.cell? (ad.add (i * d.sz)) = some u) ∧
 ∀ j u, c[j + 1]? = some u → w.cell? ⟨(ad.add (i * d.sz)).block, (ad.add (i * d.sz)).off + (j + 1), none⟩ = some u := by
 obtain ⟨ad, c, h1, _, h3, h4⟩ := C_get h i hi
 exact ⟨ad, c, h1, h3, fun u hu => h4 0 u hu, fun j u hu => by rw [← add_field _ _ (j + 1) kO]; exact h4 (j + 1) u hu⟩
end
def upTo {α : Type} (a b : List α) (i : Nat) : List α := a.take i ++ b.drop i
section
variable {α : Type} {a b : List α} {i : Nat}
theorem iM : upTo a b 0 = b := by simp [upTo]
theorem iT (h : a.length = b.length) (hi : b.length ≤ i) : upTo a b i = a := by simp [upTo, List.take_of_length_le (h ▸ hi), hi]
theorem iU (h : a.length = b.length) (hi : i ≤ b.length) : (upTo a b i).length = b.length := by simp [upTo]; omega
theorem jP (h : a.length = b.length) (hi : i < b.length) : (upTo a b i)[i]? = some b[i] := by
 unfold upTo
 rw [List.getElem?_append_right (by simp; omega)]
 simp [show i - min i a.length = 0 by omega, hi]
theorem iV (h : a.length = b.length) (hi : i < b.length) : (upTo a b i).set i (a[i]'(h ▸ hi)) = upTo a b (i + 1) := by
 have hi' : i < a.length := h ▸ hi
 unfold upTo
 rw [List.set_append_right _ _ (by simp; omega)]
 have e : i - (a.take i).length = 0 := by simp; omega
 rw [e, List.drop_eq_getElem_cons hi, List.set_cons_zero, List.take_succ_eq_append_getElem hi', List.append_assoc]
 rfl
end
structure At (w0 w : World) (g o n e : Nat) (cur0 : Array Value) (ce : List Value) (Fi : Nat → Prop) : Prop where
 row : ∃ cur, w.heap[g]? = some (.cells cur e (0, 0)) ∧ cur.size = cur0.size ∧ (∀ p, p < o ∨ o + n ≤ p → cur[p]? = cur0[p]?) ∧ (cur.toList.drop o).take n = ce
 upd : Upd (fun b => b = g ∨ Fi b) w0 w
 len : ce.length = n
section
variable {w0 w w' : World} {g o n e : Nat} {cur0 : Array Value} {ce : List Value} {Fi : Nat → Prop}
theorem At.room (h : At w0 w g o n e cur0 ce Fi) : ∀ j, j < n → o + j < cur0.size := by
 obtain ⟨cur, _, h2, _, h4⟩ := h.row
 intro j hj
 have := h.len
 rw [← h4, List.length_take, List.length_drop, Array.length_toList] at this
 omega
theorem At.cell (h : At w0 w g o n e cur0 ce Fi) (j : Nat) (u : Value) (hu : ce[j]? = some u) : w.cell? ⟨g, o + j, none⟩ = some u := by
 obtain ⟨cur, h1, h2, _, h4⟩ := h.row
 rw [cell_of_row w g _ cur e (0, 0) h1]
 have hj : j < n := by rw [← h.len]; exact (List.getElem?_eq_some_iff.1 hu).1
 rw [← h4, List.getElem?_take, if_pos hj, List.getElem?_drop] at hu
 simpa using hu
theorem At.cell0 (h : At w0 w g o n e cur0 ce Fi) (u : Value) (hu : ce[0]? = some u) : w.cell? ⟨g, o, none⟩ = some u := h.cell 0 u hu
theorem At.free (h : At w0 w g o n e cur0 ce Fi) (j : Nat) : w.frozen? ⟨g, j, none⟩ = false := by
 obtain ⟨cur, h1, _⟩ := h.row
 simp [World.frozen?, h1]
theorem At.set (h : At w0 w g o n e cur0 ce Fi) (j : Nat) (hj : j < n) (u : Value) : At w0 (w.setCell ⟨g, o + j, none⟩ u) g o n e cur0 (ce.set j u) Fi := by
 obtain ⟨cur, h1, h2, h3, h4⟩ := h.row
 refine ⟨⟨cur.setIfInBounds (o + j) u, blk_set h1 (o + j) u, by simpa using h2, fun p hp => ?_, ?_⟩, h.upd.set _ _ (.inr (.inl rfl)), by simpa using h.len⟩
 ·rw [Array.getElem?_setIfInBounds_ne kO]
  exact h3 p hp
 ·rw [← h4]
  apply List.ext_getElem?
  intro i
  simp only [List.getElem?_take, List.getElem?_drop, List.getElem?_set, Array.toList_setIfInBounds]
  by_cases hi : i < n
  ·have : o + j < cur.toList.length := by rw [Array.length_toList, h2]; exact h.room j hj
   by_cases e : j = i
   ·subst e
    have t2 : o + j < cur.size := by simpa using this
    simp [hj, t2]
    omega
   ·simp [hi, e]
  ·simp [hi]
   omega
theorem At.set0 (h : At w0 w g o n e cur0 ce Fi) (hj : 0 < n) (u : Value) : At w0 (w.setCell ⟨g, o, none⟩ u) g o n e cur0 (ce.set 0 u) Fi := h.set 0 hj u
theorem At.call (h : At w0 w g o n e cur0 ce Fi) {G : Nat → Prop} (k : Upd G w w') (hG : ∀ b, G b → Fi b) (hg : ¬ Fi g) : At w0 w' g o n e cur0 ce Fi := by
 obtain ⟨cur, h1, h2, h3, h4⟩ := h.row
 exact ⟨⟨cur, (k.block g (heap_lt h1) (fun q => hg (hG g q))).trans h1, h2, h3, h4⟩, h.upd.trans k (fun _ _ q => q) (fun b _ q => .inr (hG b q)), h.len⟩
variable {α : Type} {d : Kn α} {F : Nat → Prop} {v : Value} {xs : List α}
theorem lD (h : R d e w F v xs) (sz m : Nat) (hs : d.sz = sz) (hm : xs.length = m) (i : Nat) (x : α) (hx : xs[i]? = some x) : ∃ (g cap : Nat) (cur : Array Value) (ce : List Value) (Fi : Nat → Prop), v = .slice (some ⟨g, 0, none⟩) m cap ∧ m ≤ cap ∧ At w w g (i * sz) sz e cur ce Fi ∧ d.M w Fi x ce ∧ F g ∧ (∀ b, Fi b → F b) ∧ ¬ Fi g ∧
 ∀ (w' : World) (ce' : List Value) (x' : α) (Fi' F' : Nat → Prop), At w w' g (i * sz) sz e cur ce' Fi → d.M w' Fi' x' ce' → (∀ b, Fi' b → Fi b ∨ ¬ F b) → (∀ b, F b → F' b) → (∀ b, Fi' b → F' b) → R d e w' F' v (xs.set i x') := by
 subst hs
 subst hm
 obtain ⟨hi, rfl⟩ := List.getElem?_eq_some_iff.1 hx
 clear hx
 rcases h with ⟨_, rfl⟩ | ⟨g, cap, cur, Fs, h1, h2, h3, h4, h5, h6, h7, h8, h9⟩
 ·simp at hi
 have hx := h9 i xs[i] (List.getElem?_eq_getElem hi)
 have hsz : ∀ k, k < xs.length → k * d.sz + d.sz ≤ cur.size := fun k hk => by rw [h6, ← Nat.succ_mul]; exact Nat.mul_le_mul_right _ kO
 refine ⟨g, cap, cur, _, Fs i, h1, h4, ⟨⟨cur, h2, rfl, fun _ _ => rfl, rfl⟩, Upd.refl _ _, ?_⟩, hx, h3, fun b hb => (h7 i b hb).1, fun hb => (h7 i g hb).2 rfl, ?_⟩
 ·rw [List.length_take, List.length_drop, Array.length_toList]
  have := hsz i hi
  omega
 ·intro w' ce' x' Fi' F' hat hm hF1 hF2 hF3
  obtain ⟨cur', k1, k2, k3, k4⟩ := hat.row
  have hng : ∀ b, Fi' b → b ≠ g := fun b hb e => by
   subst e
   rcases hF1 b hb with hb | hb
   ·exact (h7 i b hb).2 rfl
   ·exact hb h3
  refine .inr ⟨g, cap, cur', fun j b => if j = i then Fi' b else Fs j b, by rw [List.length_set]; exact h1, k1, hF2 _ h3, by rw [List.length_set]; exact h4, h5, by rw [k2]; exact h6, fun j b hb => ?_, fun j j' b hb hb' => ?_, fun j x hx' => ?_⟩
  ·by_cases e : j = i
   ·simp only [e, if_true] at hb
    exact ⟨hF3 b hb, hng b hb⟩
   ·simp only [e, if_false] at hb
    exact ⟨hF2 b (h7 j b hb).1, (h7 j b hb).2⟩
  ·by_cases e : j = i <;> by_cases e' : j' = i
   ·omega
   ·simp only [e, e', if_true, if_false] at hb hb'
    rcases hF1 b hb with q | q
    ·exact absurd (h8 i j' b q hb') kO
    ·exact absurd (h7 j' b hb').1 q
   ·simp only [e, e', if_true, if_false] at hb hb'
    rcases hF1 b hb' with q | q
    ·exact absurd (h8 i j b q hb) kO
    ·exact absurd (h7 j b hb).1 q
   ·simp only [e, e', if_false] at hb hb'
    exact h8 j j' b hb hb'
  ·rw [List.getElem?_set] at hx'
   by_cases e : j = i
   ·subst e
    simp only [if_true, hi] at hx'
    obtain rfl := Option.some.inj hx'
    simp only [if_true]
    rw [show piece d.sz cur'.toList j = ce' from k4]
    exact hm
   ·rw [if_neg (fun q => e q.symm)] at hx'
    simp only [e, if_false]
    have hj : j < xs.length := (List.getElem?_eq_some_iff.1 hx').1
    have hp : piece d.sz cur'.toList j = piece d.sz cur.toList j := by
     apply List.ext_getElem?
     intro q
     simp only [piece, List.getElem?_take, List.getElem?_drop]
     by_cases hq : q < d.sz
     ·simp only [if_pos hq]
      have := k3 (j * d.sz + q) (by
       rcases Nat.lt_or_gt_of_ne e with e | e
       ·left
        have : j * d.sz + d.sz ≤ i * d.sz := by rw [← Nat.succ_mul]; exact Nat.mul_le_mul_right _ e
        omega
       ·right
        have : i * d.sz + d.sz ≤ j * d.sz := by rw [← Nat.succ_mul]; exact Nat.mul_le_mul_right _ e
        omega)
      simpa using this
     ·simp only [if_neg hq]
    rw [hp]
    refine d.M_mono (fun _ q => q.1) (d.M_same (fun b hb => hat.upd.block b hb.2 ?_) (d.M_lt (h9 j x hx')))
    rintro (q | q)
    ·exact (h7 j b hb.1).2 q
    ·exact e (h8 j i b hb.1 q)
end
def bW (b : Bool) (w : World) (e : Ending) (w' : World) : Prop := e = .returned (.bool b) ∧ Upd No w w'
def New (w : World) : Nat → Prop := fun b => w.heap.size ≤ b
def lF {α : Type} (d : Kn α) (ty : Nat) (xs : List α) (w : World) (e : Ending) (w' : World) : Prop := ∃ v, e = .returned v ∧ R d ty w' (New w) v xs ∧ Upd No w w'
def kK {α : Type} (d : Kn α) (x : α) (w : World) (e : Ending) (w' : World) : Prop := ∃ cs, e = .returned (.agg cs.toArray) ∧ d.M w' (New w) x cs ∧ Upd No w w'
def jS (s : Nat) (n : Int) (w : World) (e : Ending) (w' : World) : Prop := ∃ r : Int, e = .returned (.int .i64 r) ∧ (((s : Int) ≤ n ∧ r = n - s) ∨ (n < s ∧ r = -1)) ∧ Upd No w w'
theorem Upd.bI {w w1 : World} (h : Upd No w w1) (o : Nat) (u : Value) : Upd No w (w1.setCell ⟨w.heap.size, o, none⟩ u) := h.set _ _ (.inl (Nat.le_refl _))
theorem Upd.bL {w w1 : World} (h : Upd No w w1) (o : Nat) (u : Value) : Upd No w (w1.setCell ⟨w.heap.size + 1, o, none⟩ u) := h.set _ _ (.inl (Nat.le_succ _))
theorem Upd.bM {w w1 : World} (h : Upd No w w1) (o : Nat) (u : Value) : Upd No w (w1.setCell ⟨w.heap.size + 1 + 1, o, none⟩ u) := h.set _ _ (.inl (by dsimp only; omega))
theorem Upd.gG {P : Nat → Prop} {w w1 : World} {g : Nat} (hn : ¬ P g) (h : Upd (fun b => ¬ P b) w w1) (o : Nat) (u : Value) : Upd (fun b => ¬ P b) w (w1.setCell ⟨g, o, none⟩ u) := h.set _ _ (.inr hn)
theorem Upd.read {w w1 : World} (h : Upd No w w1) {a : Addr} {v : Value} (hc : w.cell? a = some v) : w1.cell? a = some v := (h.below.cell (World.block_lt_of_cell? w a hc)).trans hc
section
variable {α : Type} {d : Kn α} {e : Nat} {w w' : World} {F : Nat → Prop} {v : Value} {xs : List α}
theorem add_plain (g j : Nat) : (⟨g, 0, none⟩ : Addr).add j = ⟨g, j, none⟩ := by unfold Addr.add; split <;> simp_all
theorem gB (h : R d e w F v xs) (hU : Upd (fun b => ¬ F b) w w') : R d e w' F v xs := gH hU (fun _ hb q => q hb) h
theorem gV {W w1 : World} (h : R d e w1 (New W) v xs) (n : Nat) (hn : n ≤ W.heap.size) : ∃ P : Nat → Prop, R d e w1 P v xs ∧ (∀ b, P b → n ≤ b) ∧ ∀ b, P b → b < w1.heap.size :=
 ⟨fun b => New W b ∧ b < w1.heap.size, R_lt h, fun _ hb => Nat.le_trans hn hb.1, fun _ hb => hb.2⟩
def fQ (z : Value) (n : Nat) (e : Nat) : Obj := .cells (madeCells z.cells n) e
theorem iW {P : Program} {t : TypeId} (z : Value) (sz bytes : Nat) (ht : P.underlying t = some (.slice e)) (hinfo : (P.info? e).map (fun i => (i.zero, i.size, i.bytes)) = some (some z, sz, bytes)) (n : Nat) (hn : n ≤ 1048576) (hb : bytes ≤ 4096) :
 ∀ W : World, (Instr.makeSlice t (.int .i64 (n : Int)) (.int .i64 (n : Int))).run P W = .ok (.slice (some ⟨W.heap.size, 0, none⟩) n n) (W.alloc (fQ z (n * sz) e)) := by
 intro W
 obtain ⟨i0, hi, hzz⟩ := Option.map_eq_some_iff.1 hinfo
 simp only [Prod.mk.injEq] at hzz
 obtain ⟨hz0, hz1, hz2⟩ := hzz
 have hr := run_make (P := P) W t e i0 z ht hi hz0 .i64 .i64 (n : Int) (n : Int) kO kO
  (by
   have h3 : i0.bytes * n ≤ 4096 * 1048576 := Nat.mul_le_mul kO hn
   have h4 : ((i0.bytes * n : Nat) : Int) ≤ 281474976710656 := by omega
   rwa [Int.natCast_mul] at h4) kO
 simp only [Int.toNat_natCast] at hr
 rw [hz1] at hr
 exact hr
theorem lG (W : World) (z : Value) (zx : α) (hz : z.cells.size = d.sz) (hs : 0 < d.sz) (h0 : ∀ W, d.M W No zx z.cells.toList) (n : Nat) (hn : n ≤ 1048576) :
 R d e (W.alloc (fQ z (n * d.sz) e)) (New W) (.slice (some ⟨W.heap.size, 0, none⟩) n n) (List.replicate n zx) := by
 refine .inr ⟨W.heap.size, n, madeCells z.cells (n * d.sz), fun _ _ => False, by simp, heap_alloc_new W _, Nat.le_refl _, by simp, by omega, size_madeCells _ _, fun _ _ h => h.elim, fun _ _ _ h => h.elim, fun i x hx => ?_⟩
 obtain ⟨hil, hx'⟩ := List.getElem?_eq_some_iff.1 hx
 have him : i < n := by simpa using hil
 have : zx = x := by simpa using hx'
 subst this
 have hle : i * d.sz + d.sz ≤ n * d.sz := by rw [← Nat.succ_mul]; exact Nat.mul_le_mul_right _ him
 have : piece d.sz (madeCells z.cells (n * d.sz)).toList i = z.cells.toList := by
  apply List.ext_getElem
  ·simp [piece, size_madeCells, hz]
   omega
  ·intro j h1 h2
   have hj : j < d.sz := by rw [Array.length_toList, hz] at h2; exact h2
   have hmod : (i * d.sz + j) % d.sz = j := by
    rw [Nat.mul_comm, Nat.mul_add_mod]
    exact Nat.mod_eq_of_lt hj
   simp [piece, madeCells, hz, hmod]
   rw [getElem!_pos z.cells j kO]
 rw [this]
 exact d.M_mono (fun _ h => h) (h0 _)
end
section
variable {α : Type} {d : Kn α} {e : Nat} {F : Nat → Prop} {v : Value} {xs : List α} {P : Program} {ops : Array Oper} {rest : List Oper} {o : Oper} {a : Act} {Q : Exit → Act → World → Prop}
end
end Go.Proofs.YtgaoabnnpjngcaaGreatSep
namespace Go.Proofs.YtgaoabnnpjngcaaGreatSep
def gP {α : Type} (s : α → Nat) : List α → Nat
 | [] => 0
 | x :: l => s x + gP s l
def dF {α : Type} (s : α → Nat) (l : List α) : Nat := l.length + gP s l
section
variable {α : Type} (m : Int → α → α) (c : α → Int) (s : α → Nat)
theorem jB : ∀ (l : List α) (i : Nat) (h : i < l.length), gP s (l.take (i + 1)) = gP s (l.take i) + s l[i]
 | [], i, h => by simp at h
 | x :: l, 0, h => by simp [gP]
 | x :: l, i + 1, h => by
  simp only [List.take_succ_cons, gP, List.getElem_cons_succ]
  rw [jB l i (by simpa using h)]
  omega
theorem sumS_le : ∀ (l : List α) (i : Nat), gP s (l.take i) ≤ gP s l
 | [], i => by simp [gP]
 | x :: l, 0 => by simp [gP]
 | x :: l, i + 1 => by
  have := sumS_le l i
  simp only [List.take_succ_cons, gP]
  omega
theorem jQ (l : List α) (i : Nat) (h : i < l.length) : s l[i] ≤ gP s l := by
 have h1 := jB s l i h
 have h2 := sumS_le s l (i + 1)
 omega
theorem kI (l : List α) (i : Nat) (h : i < l.length) : gP s (l.take i) + s l[i] ≤ gP s l := by
 have h1 := jB s l i h
 have h2 := sumS_le s l (i + 1)
 omega
end
end Go.Proofs.YtgaoabnnpjngcaaGreatSep
namespace Go.Proofs.YtgaoabnnpjngcaaGreatSep
open Go.ChangeShapes Go.WideShapes Go.RowKit
def Blk (w : World) (g t : Nat) (cs : Array Value) : Prop := w.heap[g]? = some (.cells cs t (0, 0))
section
variable {w w' : World} {g g' t : Nat} {cs : Array Value} {F : Nat → Prop}
theorem Blk.cell (h : Blk w g t cs) (o : Nat) : w.cell? ⟨g, o, none⟩ = cs[o]? := by rw [cell_of_row w g _ cs t (0, 0) h]
theorem Blk.at (h : Blk w g t cs) (o : Nat) {v : Value} (hv : cs[o]? = some v) : w.cell? ⟨g, o, none⟩ = some v := (h.cell o).trans hv
theorem Blk.free (h : Blk w g t cs) (o : Nat) : w.frozen? ⟨g, o, none⟩ = false := by unfold Blk at h; simp [World.frozen?, h]
theorem Blk.lt (h : Blk w g t cs) : g < w.heap.size := heap_lt h
theorem Blk.new (w : World) (t : Nat) (cs : Array Value) : Blk (w.alloc (.cells cs t)) w.heap.size t cs := heap_alloc_new w (.cells cs t)
theorem Blk.alloc (h : Blk w g t cs) (o : Obj) : Blk (w.alloc o) g t cs := (heap_alloc_old w o (Blk.lt h)).trans h
theorem Blk.drew (h : Blk w g t cs) : Blk w.drew g t cs := h
theorem Blk.drewN (h : Blk w g t cs) (n : Nat) : Blk (w.drewN n) g t cs := h
theorem Blk.same (h : Blk w g t cs) (i : Nat) (u : Value) : Blk (w.setCell ⟨g, i, none⟩ u) g t (cs.setIfInBounds i u) := blk_set h i u
theorem Blk.upd (h : Blk w g t cs) (hu : Upd F w w') (hF : ¬ F g) : Blk w' g t cs := (hu.block g (Blk.lt h) hF).trans h
theorem Blk.no (h : Blk w g t cs) (hu : Upd No w w') : Blk w' g t cs := h.upd hu (fun q => q)
end
section
variable {α : Type} {d : Kn α} {e : Nat} {F : Nat → Prop} {v : Value} {xs ys : List α} {P : Program} {ops : Array Oper} {rest : List Oper} {o : Oper} {a : Act} {Q : Exit → Act → World → Prop}
end
section
variable {α : Type} {d : Kn α} {e : Nat} {w w' : World} {F : Nat → Prop} {v : Value} {xs : List α} {x : α} {cs : List Value}
end
theorem add_add (ad : Addr) (m k : Nat) (hm : 0 < m) : (ad.add m).add k = ad.add (m + k) := by
 unfold Addr.add
 by_cases hk : k = 0
 ·subst hk; simp
 ·have h1 : m ≠ 0 := by omega
  have h2 : m + k ≠ 0 := by omega
  simp [hk, h1, Nat.add_assoc]
section
variable {P : Program} {c : Code} {Q : Exit → Act → World → Prop} {a : Act} {w : World} {t : Nat} {cs : Array Value}
end
section
variable {α : Type} {d : Kn α} {e : Nat} {F : Nat → Prop} {v : Value} {xs ys : List α} {P : Program} {ops : Array Oper} {rest : List Oper} {o : Oper} {a : Act} {Q : Exit → Act → World → Prop}
end
theorem Blk.put {w : World} {g t : Nat} {cs cs' : Array Value} (h : Blk w g t cs) (i : Nat) (u : Value) (hc : cs.setIfInBounds i u = cs') : Blk (w.setCell ⟨g, i, none⟩ u) g t cs' := hc ▸ h.same i u
structure HP where
 p : World → (Nat → Prop) → Prop
 same : ∀ {W W' : World} {F : Nat → Prop}, (∀ b, F b → W'.heap[b]? = W.heap[b]?) → p W F → p W' F
 lt : ∀ {W : World} {F : Nat → Prop}, p W F → p W (fun b => F b ∧ b < W.heap.size)
 mono : ∀ {W : World} {F F' : Nat → Prop}, (∀ b, F b → F' b) → p W F → p W F'
def hR {α : Type} (d : Kn α) (e : Nat) (v : Value) (xs : List α) : HP := ⟨fun W F => R d e W F v xs, fun h => R_same h, fun h => R_lt h, fun h => R_mono h⟩
def hM {α : Type} (d : Kn α) (x : α) (cs : List Value) : HP := ⟨fun W F => d.M W F x cs, fun h => d.M_same h, fun h => d.M_lt h, fun h => d.M_mono h⟩
def hB (g t : Nat) (cs : Array Value) : HP := ⟨fun W F => F g ∧ Blk W g t cs, fun h k => ⟨k.1, (h g k.1).trans k.2⟩, fun k => ⟨⟨k.1, Blk.lt k.2⟩, k.2⟩, fun h k => ⟨h g k.1, k.2⟩⟩
def Star (l : List HP) (W : World) (F : Nat → Prop) : Prop :=
 ∃ Fs : Nat → Nat → Prop, (∀ i b, Fs i b → F b) ∧ (∀ i j b, Fs i b → Fs j b → i = j) ∧ ∀ (i : Nat) (q : HP), l[i]? = some q → q.p W (Fs i)
section
variable {l l' l0 : List HP} {W W' w : World} {F F' F0 : Nat → Prop} {q : HP}
theorem Star.nil : Star [] W F := ⟨fun _ _ => False, fun _ _ h => h.elim, fun _ _ _ h => h.elim, fun i q h => by simp at h⟩
theorem Star.mono (h : Star l W F) (k : ∀ b, F b → F' b) : Star l W F' := by
 obtain ⟨Fs, h1, h2, h3⟩ := h
 exact ⟨Fs, fun i b hb => k b (h1 i b hb), h2, h3⟩
theorem Star.lt (h : Star l W F) : Star l W (fun b => F b ∧ b < W.heap.size) := by
 obtain ⟨Fs, h1, h2, h3⟩ := h
 exact ⟨fun i b => Fs i b ∧ b < W.heap.size, fun i b hb => ⟨h1 i b hb.1, hb.2⟩, fun i j b hi hj => h2 i j b hi.1 hj.1, fun i q hq => q.lt (h3 i q hq)⟩
theorem Star.same (h : Star l W F) (k : ∀ b, F b → W'.heap[b]? = W.heap[b]?) : Star l W' F := by
 obtain ⟨Fs, h1, h2, h3⟩ := h
 exact ⟨Fs, h1, h2, fun i q hq => q.same (fun b hb => k b (h1 i b hb)) (h3 i q hq)⟩
theorem Star.one (h : q.p W F) : Star [q] W F := by
 refine ⟨fun i b => i = 0 ∧ F b, fun i b hb => hb.2, fun i j b hi hj => hi.1.trans hj.1.symm, fun i q' hq => ?_⟩
 rcases i with _ | i
 ·simp only [List.getElem?_cons_zero, Option.some.injEq] at hq
  subst hq
  exact q.mono (fun b hb => ⟨rfl, hb⟩) h
 ·simp at hq
theorem Star.cons (F1 F2 : Nat → Prop) (h : q.p W F1) (k : Star l W F2) (h1 : ∀ b, F1 b → F b) (h2 : ∀ b, F2 b → F b) (hd : ∀ b, F1 b → ¬ F2 b) : Star (q :: l) W F := by
 obtain ⟨Fs, k1, k2, k3⟩ := k
 refine ⟨fun i b => match i with | 0 => F1 b | i + 1 => Fs i b, fun i b hb => ?_, fun i j b hi hj => ?_, fun i q' hq => ?_⟩
 ·rcases i with _ | i
  ·exact h1 b hb
  ·exact h2 b (k1 i b hb)
 ·rcases i with _ | i <;> rcases j with _ | j
  ·rfl
  ·exact absurd (k1 j b hj) (hd b hi)
  ·exact absurd (k1 i b hi) (hd b hj)
  ·exact congrArg (· + 1) (k2 i j b hi hj)
 ·rcases i with _ | i
  ·simp only [List.getElem?_cons_zero, Option.some.injEq] at hq
   subst hq
   exact h
  ·exact k3 i q' (by simpa using hq)
theorem Star.uncons (h : Star (q :: l) W F) : ∃ F1 F2, q.p W F1 ∧ Star l W F2 ∧ (∀ b, F1 b → F b) ∧ (∀ b, F2 b → F b) ∧ ∀ b, F1 b → ¬ F2 b := by
 obtain ⟨Fs, h1, h2, h3⟩ := h
 refine ⟨Fs 0, fun b => ∃ i, Fs (i + 1) b, h3 0 q rfl, ⟨fun i b => Fs (i + 1) b, fun i b hb => ⟨i, hb⟩, fun i j b hi hj => by have := h2 _ _ b hi hj; omega, fun i q' hq => h3 (i + 1) q' (by simpa using hq)⟩, h1 0, fun b ⟨i, hb⟩ => h1 _ b hb, fun b hb ⟨i, hi⟩ => by have := h2 _ _ b hb hi; omega⟩
theorem Star.pick (h : Star l W F) (ix : List Nat) (hn : ix.Nodup) (hl : ix.map (fun k => l[k]?) = l'.map some) : Star l' W F := by
 obtain ⟨Fs, h1, h2, h3⟩ := h
 refine ⟨fun i b => ∃ k, ix[i]? = some k ∧ Fs k b, fun i b ⟨k, _, hb⟩ => h1 k b hb, fun i j b ⟨k, hk, hb⟩ ⟨k', hk', hb'⟩ => ?_, fun i q hq => ?_⟩
 ·have e := h2 _ _ b hb hb'
  subst e
  exact (List.getElem?_inj (List.getElem?_eq_some_iff.1 hk).1 hn).1 (hk.trans hk'.symm)
 ·have e : (ix.map (fun k => l[k]?))[i]? = some (some q) := by rw [hl, List.getElem?_map, hq]; rfl
  rw [List.getElem?_map] at e
  obtain ⟨k, hk, hk2⟩ := Option.map_eq_some_iff.1 e
  exact q.mono (fun b hb => ⟨k, hk, hb⟩) (h3 k q hk2)
theorem Star.append (F1 F2 : Nat → Prop) (h : Star l0 W F1) (k : Star l W F2) (h1 : ∀ b, F1 b → F b) (h2 : ∀ b, F2 b → F b) (hd : ∀ b, F1 b → ¬ F2 b) : Star (l0 ++ l) W F := by
 induction l0 generalizing F F1 with
 | nil => exact k.mono h2
 | cons q l0 ih =>
  obtain ⟨G1, G2, a1, a2, a3, a4, a5⟩ := h.uncons
  refine Star.cons (l := l0 ++ l) G1 (fun b => G2 b ∨ F2 b) a1 (ih (F := fun b => G2 b ∨ F2 b) G2 a2 (fun b hb => .inl hb) (fun b hb => .inr hb) (fun b hb => hd b (a4 b hb))) (fun b hb => h1 b (a3 b hb)) (fun b hb => hb.elim (fun q => h1 b (a4 b q)) (h2 b)) (fun b hb q => ?_)
  rcases q with q | q
  ·exact a5 b hb q
  ·exact hd b (a3 b hb) q
theorem Star.split (h : Star (l0 ++ l) W F) : ∃ F1 F2, Star l0 W F1 ∧ Star l W F2 ∧ (∀ b, F1 b → F b) ∧ (∀ b, F2 b → F b) ∧ ∀ b, F1 b → ¬ F2 b := by
 obtain ⟨Fs, h1, h2, h3⟩ := h
 refine ⟨fun b => ∃ i, i < l0.length ∧ Fs i b, fun b => ∃ i, Fs (l0.length + i) b, ⟨fun i b => i < l0.length ∧ Fs i b, fun i b hb => ⟨i, hb⟩, fun i j b hi hj => h2 i j b hi.2 hj.2, fun i q hq => ?_⟩, ⟨fun i b => Fs (l0.length + i) b, fun i b hb => ⟨i, hb⟩, fun i j b hi hj => by have := h2 _ _ b hi hj; omega, fun i q hq => ?_⟩, fun b ⟨i, _, hb⟩ => h1 i b hb, fun b ⟨i, hb⟩ => h1 _ b hb, fun b ⟨i, hi, hb⟩ ⟨j, hj⟩ => by have := h2 _ _ b hb hj; omega⟩
 ·have hi := (List.getElem?_eq_some_iff.1 hq).1
  exact q.mono (fun b hb => ⟨hi, hb⟩) (h3 i q (by rw [List.getElem?_append_left hi]; exact hq))
 ·exact h3 _ q (by rw [List.getElem?_append_right (Nat.le_add_right _ _), Nat.add_sub_cancel_left]; exact hq)
def St (w : World) (F0 : Nat → Prop) (l : List HP) (W : World) : Prop := Upd F0 w W ∧ Star l W (fun b => F0 b ∨ w.heap.size ≤ b)
theorem St.enter : St w No [] w := ⟨Upd.refl _ _, Star.nil⟩
theorem St.pick (h : St w F0 l W) (ix : List Nat) (hn : ix.Nodup) (hl : ix.map (fun k => l[k]?) = l'.map some) : St w F0 l' W := ⟨h.1, h.2.pick ix hn hl⟩
theorem St.get (h : St w F0 l W) (i : Nat) (hq : l[i]? = some q) : ∃ F, q.p W F := by
 obtain ⟨_, Fs, _, _, h3⟩ := h
 exact ⟨_, h3 i q hq⟩
theorem St.blk (h : St w F0 l W) (i : Nat) {g t : Nat} {cs : Array Value} (hq : l[i]? = some (hB g t cs)) : Blk W g t cs := by
 obtain ⟨F, hF⟩ := h.get i hq
 exact hF.2
theorem St.size (h : St w F0 l W) : w.heap.size ≤ W.heap.size := h.1.size
theorem St.frame (h : St w F0 (l0 ++ l) W) : ∃ F1 : Nat → Prop, Star l0 W F1 ∧ (∀ b, F1 b → (F0 b ∨ w.heap.size ≤ b) ∧ b < W.heap.size) ∧ ∀ l' W', St W F1 l' W' → St w F0 (l' ++ l) W' := by
 obtain ⟨F1, F2, a1, a2, a3, a4, a5⟩ := h.2.split
 refine ⟨fun b => F1 b ∧ b < W.heap.size, a1.lt, fun b hb => ⟨a3 b hb.1, hb.2⟩, fun l' W' h' => ⟨Upd.trans h.1 h'.1 (fun _ _ q => q) (fun b hb q => (a3 b q.1).resolve_right kO), ?_⟩⟩
 have hs := h.1.size
 refine Star.append _ (fun b => F2 b ∧ b < W.heap.size) h'.2 (a2.lt.same (fun b hb => h'.1.block b hb.2 (fun q => a5 b q.1 hb.1))) (fun b hb => ?_) (fun b hb => a4 b hb.1) (fun b hb q => ?_)
 ·rcases hb with hb | hb
  ·exact a3 b hb.1
  ·right; omega
 ·rcases hb with hb | hb
  ·exact a5 b hb.1 q.1
  ·have := q.2; omega
theorem St.call (h : St w F0 l W) (k : St W No l' W') : St w F0 (l' ++ l) W' := by
 have h2 : St w F0 ([] ++ l) W := h
 obtain ⟨F1, _, _, h3⟩ := h2.frame
 exact h3 l' W' ⟨k.1.mono (fun _ _ q => q.elim), k.2.mono (fun b hb => hb.elim (fun q => q.elim) .inr)⟩
theorem St.no (h : St w F0 l W) (hu : Upd No W W') : St w F0 l W' := h.call (l' := []) ⟨hu, Star.nil⟩
theorem St.new (h : St w F0 l W) (hu : Upd No W W') (hq : q.p W' (New W)) : St w F0 (q :: l) W' := h.call (l' := [q]) ⟨hu, (Star.one hq).mono fun _ hb => .inr hb⟩
theorem St.drew (h : St w F0 l W) : St w F0 l W.drew := h.no (Upd.refl _ _).drew
theorem St.alloc (h : St w F0 l W) (t : Nat) (cs : Array Value) : St w F0 (hB W.heap.size t cs :: l) (W.alloc (.cells cs t)) := h.new ((Upd.refl _ _).alloc _) ⟨Nat.le_refl _, Blk.new _ _ _⟩
theorem St.turn (h : St w F0 (q :: l) W) : ∃ F1 : Nat → Prop, q.p W F1 ∧ (∀ b, F1 b → (F0 b ∨ w.heap.size ≤ b) ∧ b < W.heap.size) ∧ ∀ q' W', Upd F1 W W' → q'.p W' (fun b => F1 b ∨ W.heap.size ≤ b) → St w F0 (q' :: l) W' := by
 obtain ⟨F1, a1, a2, a3⟩ := St.frame (l0 := [q]) (l := l) h
 refine ⟨F1, ?_, a2, fun q' W' hu hq => a3 [q'] W' ⟨hu, Star.one hq⟩⟩
 obtain ⟨Fs, b1, _, b3⟩ := a1
 exact q.mono (b1 0) (b3 0 q rfl)
end
def Cat (W : World) (a : Addr) (cs : List Value) : Prop := ∀ j u, cs[j]? = some u → W.cell? (a.add j) = some u
theorem add_add' (a : Addr) (m k : Nat) : (a.add m).add k = a.add (m + k) := by
 unfold Addr.add
 by_cases hm : m = 0 <;> by_cases hk : k = 0 <;> simp [hm, hk, Nat.add_assoc]
theorem Blk.at' {W : World} {g t : Nat} {cs : Array Value} (h : Blk W g t cs) : Cat W ⟨g, 0, none⟩ cs.toList := fun j u hu => by
 rw [add_plain, h.cell]
 simpa using hu
theorem Cat.cell {W : World} {a : Addr} {cs : List Value} (h : Cat W a cs) (k : Nat) {v : Value} (hv : cs[k]? = some v) : W.cell? (a.add k) = some v := h k v hv
theorem Cat.sub {W : World} {a : Addr} {cs sub : List Value} (h : Cat W a cs) (k m : Nat) (hs : (cs.drop k).take m = sub) : Cat W (a.add k) sub := fun j u hu => by
 subst hs
 rw [add_add']
 refine h (k + j) u ?_
 rw [List.getElem?_take] at hu
 split at hu
 ·rwa [List.getElem?_drop] at hu
 ·simp at hu
theorem Cat.upd {W W' : World} {a : Addr} {cs : List Value} (h : Cat W a cs) (hu : Upd No W W') : Cat W' a cs := fun j u hj => hu.read (h j u hj)
theorem dO {α : Type} {d : Kn α} {W : World} {A : Option Addr} {xs : List α} (h : C d W A xs) (i : Nat) (hi : i < xs.length) : ∃ ad cs, A = some ad ∧ d.K W xs[i] cs ∧ Cat W (ad.add (i * d.sz)) cs := by
 obtain ⟨ad, c, h1, _, h3, h4⟩ := C_get h i hi
 exact ⟨ad, c, h1, h3, fun j u hu => by rw [add_add']; exact h4 j u hu⟩
def bT (n : Nat) (x : Nat → Value) (live : List (Nat × Value)) : Act := ⟨((List.range n).map fun i => (live.lookup i).getD (x i)).toArray, []⟩
def evl (n : Nat) (live : List (Nat × Value)) : Operand → Option Value
 | .tmp t => if t < n then live.lookup t else none
 | .const v => some v
 | .func f => some (.func (.func f) #[] #[])
 | .global g => some (.pointer (some ⟨g, 0, none⟩))
section
variable {n : Nat} {x : Nat → Value} {live live' : List (Nat × Value)}
theorem gI {y : Operand} {v : Value} (h : evl n live y = some v) : (bT n x live).eval y = v := by
 cases y with
 | tmp t =>
  simp only [evl] at h
  split at h
  ·rename_i ht
   simp [Act.eval, bT, ht, h]
  ·cases h
 | const u => exact Option.some.inj h
 | func f => exact Option.some.inj h
 | global g => exact Option.some.inj h
theorem evls_list : ∀ (a : List Operand) (b : List Value), a.map (evl n live) = b.map some → a.map (bT n x live).eval = b
 | [], [], _ => rfl
 | [], _ :: _, q => by cases q
 | _ :: _, [], q => by cases q
 | y :: a, u :: b, q => by
  simp only [List.map_cons, List.cons.injEq] at q
  rw [List.map_cons, evls_list a b q.2, gI q.1]
theorem evls_ok {ys : Array Operand} {vs : Array Value} (h : ys.toList.map (evl n live) = vs.toList.map some) : ys.map (bT n x live).eval = vs := by
 rw [← Array.toList_inj, Array.toList_map]
 exact evls_list _ _ h
theorem kW {d : Nat} (_hd : d < n) (v : Value) : (bT n x live).put (some d) v = bT n x ((d, v) :: live) := by
 unfold Act.put bT
 simp only [Act.mk.injEq, and_true]
 apply Array.ext
 ·simp
 ·intro i h1 h2
  simp only [Array.size_setIfInBounds, List.size_toArray, List.length_map, List.length_range] at h1
  simp only [List.getElem_toArray, List.getElem_map, List.getElem_range, List.lookup_cons]
  by_cases e : d = i
  ·subst e
   simp
  ·simp [e, show (i == d) = false from by simp; omega]
theorem actOf_drop (h : ∀ k v, (k, v) ∈ live' → live.lookup k = some v) : ∃ x', bT n x live = bT n x' live' := by
 refine ⟨fun i => (live.lookup i).getD (x i), ?_⟩
 unfold bT
 congr 3
 funext i
 cases e : live'.lookup i with
 | none => rfl
 | some v =>
  have : (i, v) ∈ live' := by
   clear h
   induction live' with
   | nil => cases e
   | cons p l ih =>
    obtain ⟨k, u⟩ := p
    rw [List.lookup_cons] at e
    by_cases hk : i = k
    ·subst hk
     simp at e
     subst e
     exact List.mem_cons_self
    ·have hk' : (i == k) = false := by simp [hk]
     rw [hk'] at e
     exact List.mem_cons_of_mem _ (ih e)
  rw [h i v this]
  rfl
end
section
variable {P : Program} {ops : Array Oper} {Q : Exit → Act → World → Prop} {K : Act → World → Prop} {n i d ty : Nat} {x : Nat → Value} {live : List (Nat × Value)} {W w : World} {F0 : Nat → Prop} {l l' : List HP} {pos : String} {aft : Array Edge} {v : Value} {y z : Operand}
theorem op_ok {o : Oper} {a : Act} (ho : ops[i]? = some o) (hg : o.guard = none) (h : o.wp P a W K Q) : wpOp P ops Q i K a W := by
 unfold wpOp
 simp only [ho]
 rw [if_pos (by simp [Region.wanted, hg])]
 exact .inl h
def Rn (P : Program) (o : Oper) (a : Act) (W : World) (v : Value) : Prop := (execOp a.eval o).run P W = .ok (.value v) W
theorem aB {dst : Option Nat} {op : Op} (ho : ops[i]? = some ⟨dst, op, ty, pos, aft, none⟩) (hr : Rn P ⟨dst, op, ty, pos, aft, none⟩ (bT n x live) W v) (hd : dst = some d) (hdn : decide (d < n) = true) (h : K (bT n x ((d, v) :: live)) W) : wpOp P ops Q i K (bT n x live) W := by
 subst hd
 refine op_ok ho rfl ?_
 unfold Oper.wp
 rw [hr]
 simp only [Oper.upon]
 rw [kW (of_decide_eq_true hdn)]
 exact h
theorem aF {dst : Option Nat} (hx : evl n live y = some v) : Rn P ⟨dst, .move y, ty, pos, aft, none⟩ (bT n x live) W v := by
 unfold Rn
 simp [execOp, gI hx]
theorem aJ {dst : Option Nat} (hx : evl n live y = some v) : Rn P ⟨dst, .assign y, ty, pos, aft, none⟩ (bT n x live) W v := by
 unfold Rn
 simp [execOp, gI hx]
def dN (P : Program) (s f off : Nat) : Prop := ∀ (a : Addr) (W : World), (Instr.fieldAt s (.pointer (some a)) f).run P W = .ok (.pointer (some (a.add off))) W
theorem aL {dst : Option Nat} {s f off : Nat} {a : Addr} (hf : dN P s f off) (hx : evl n live y = some (.pointer (some a))) : Rn P ⟨dst, .fieldAddr s y f, ty, pos, aft, none⟩ (bT n x live) W (.pointer (some (a.add off))) := by
 unfold Rn
 simp [execOp, gI hx, hf a W]
theorem rn_load {dst : Option Nat} {t : Nat} {a : Addr} (hA : ∀ w, (isAgg t).run P w = .ok false w) (hx : evl n live y = some (.pointer (some a))) (hc : W.cell? a = some v) : Rn P ⟨dst, .load t y, ty, pos, aft, none⟩ (bT n x live) W v := by
 unfold Rn
 simp [execOp, gI hx, Instr.loadAt, Instr.sureAddr, loadVar, hA, run_load, hc]
theorem aY {dst : Option Nat} {t m : Nat} {a : Addr} {cs : List Value} (hA : ∀ w, (isAgg t).run P w = .ok true w) (hS : ∀ w, (sizeOf t).run P w = .ok m w) (hx : evl n live y = some (.pointer (some a))) (hc : Cat W a cs) (hm : cs.length = m) : Rn P ⟨dst, .load t y, ty, pos, aft, none⟩ (bT n x live) W (.agg cs.toArray) := by
 subst hm
 unfold Rn
 simp [execOp, gI hx, Instr.loadAt, Instr.sureAddr, loadVar, hA, hS, run_loadCells_list (P := P) W a cs hc]
theorem rn_index {dst : Option Nat} {t e sz k len cap : Nat} {ad : Addr} (hu : ∀ w, (underlying t).run P w = .ok (.slice e) w) (hS : ∀ w, (sizeOf e).run P w = .ok sz w) (hx : evl n live y = some (.slice (some ad) len cap)) (hz : evl n live z = some (.int .i64 k)) (hk : k < len) : Rn P ⟨dst, .indexAddr t y z, ty, pos, aft, none⟩ (bT n x live) W (.pointer (some (ad.add (k * sz)))) := by
 unfold Rn
 have h1 : (0 : Int) ≤ (k : Int) ∧ (k : Int) < (len : Int) := by omega
 simp [execOp, gI hx, gI hz, Instr.indexAt, asIntOf, hu, hS, h1]
 intro hle
 omega
theorem bQ {dst : Option Nat} {t e len cap : Nat} {A : Option Addr} (hu : ∀ w, (underlying t).run P w = .ok (.slice e) w) (hx : evl n live y = some (.slice A len cap)) : Rn P ⟨dst, .call { callee := .builtin .len, args := #[y], argTypes := #[t] }, ty, pos, aft, none⟩ (bT n x live) W (.int .i64 len) := by
 unfold Rn
 simp [execOp, gI hx, resolve, invoke, builtin, Builtin.len_, hu, goInt]
theorem rn_cmp {dst : Option Nat} {b : Bool} {op : BinOp} {xt yt : Nat} {p q : Int} (hx : evl n live y = some (.int .i64 p)) (hz : evl n live z = some (.int .i64 q)) (hb : binOp op xt (.int .i64 p) (.int .i64 q) = pure (.bool b)) : Rn P ⟨dst, .binOp op xt y z yt, ty, pos, aft, none⟩ (bT n x live) W (.bool b) := by
 unfold Rn
 simp [execOp, gI hx, gI hz, eqGuard_at_int, hb]
theorem rn_arith {dst : Option Nat} {op : BinOp} {xt yt : Nat} {p q r : Int} (hx : evl n live y = some (.int .i64 p)) (hz : evl n live z = some (.int .i64 q)) (hb : binOp op xt (.int .i64 p) (.int .i64 q) = pure (.int .i64 r)) : Rn P ⟨dst, .binOp op xt y z yt, ty, pos, aft, none⟩ (bT n x live) W (.int .i64 r) := by
 unfold Rn
 simp [execOp, gI hx, gI hz, eqGuard_at_int, hb]
theorem gD {dst : Option Nat} {b : Bool} {xt : Nat} (hx : evl n live y = some (.bool b)) : Rn P ⟨dst, .unOp .not xt y, ty, pos, aft, none⟩ (bT n x live) W (.bool (!b)) := by
 unfold Rn
 simp [execOp, gI hx, Op.unary]
theorem bP {dst : Option Nat} {f : FuncId} {ys : Array Operand} {tys : Array Nat} {vs : Array Value} {R : Ending → World → Prop} (ho : ops[i]? = some ⟨dst, .call { callee := .value (.func f), args := ys, argTypes := tys }, ty, pos, aft, none⟩) (hf : ∀ us w, (callFunc f us).run P w = .ok (.enter f us) w) (hv : ys.toList.map (evl n live) = vs.toList.map some) (hd : dst = some d) (hdn : decide (d < n) = true) (hc : Calls P f vs W R) (h : ∀ e W', R e W' → ∃ v, e = .returned v ∧ K (bT n x ((d, v) :: live)) W') : wpOp P ops Q i K (bT n x live) W := by
 subst hd
 refine op_ok ho rfl ?_
 have e : ys.map (bT n x live).eval = vs := evls_ok hv
 have hrun : (execOp (bT n x live).eval ⟨some d, .call { callee := .value (.func f), args := ys, argTypes := tys }, ty, pos, aft, none⟩).run P W = .ok (.enter f vs) W := by
  simp [execOp, resolve, Act.eval, Deferred.ofValue, invoke, e, hf]
 unfold Oper.wp
 rw [hrun]
 simp only [Oper.upon]
 refine hc.mono fun e' W' hR => ?_
 obtain ⟨u, rfl, hk⟩ := h e' W' hR
 show K ((bT n x live).put (some d) u) W'
 rw [kW (of_decide_eq_true hdn)]
 exact hk
theorem gZ {dst : Option Nat} {t : Nat} {z : Value} (ho : ops[i]? = some ⟨dst, .alloc t, ty, pos, aft, none⟩) (hz : ∀ w, (zeroValue t).run P w = .ok z w) (hd : dst = some d) (hdn : decide (d < n) = true) (H : St w F0 l W) (h : ∀ g W', Upd No W W' → St w F0 (hB g t z.cells :: l) W' → K (bT n x ((d, .pointer (some ⟨g, 0, none⟩)) :: live)) W') : wpOp P ops Q i K (bT n x live) W := by
 subst hd
 refine op_ok ho rfl ?_
 have hrun : (execOp (bT n x live).eval ⟨some d, .alloc t, ty, pos, aft, none⟩).run P W = .ok (.value (.pointer (some ⟨W.heap.size, 0, none⟩))) (W.alloc (.cells z.cells t)) := by
  simp [execOp, Instr.alloc, hz, newVar, newRow]
 unfold Oper.wp
 rw [hrun]
 simp only [Oper.upon]
 rw [kW (of_decide_eq_true hdn)]
 exact h _ _ ((Upd.refl _ _).alloc _) (H.alloc t z.cells)
theorem gX {dst : Option Nat} {t : Nat} (ho : ops[i]? = some ⟨dst, .box t y, ty, pos, aft, none⟩) (hx : evl n live y = some v) (hd : dst = some d) (hdn : decide (d < n) = true) (H : St w F0 l W) (h : ∀ g W', Upd No W W' → St w F0 (hB g t v.cells :: l) W' → K (bT n x ((d, .pointer (some ⟨g, 0, none⟩)) :: live)) W') : wpOp P ops Q i K (bT n x live) W := by
 subst hd
 refine op_ok ho rfl ?_
 have hrun : (execOp (bT n x live).eval ⟨some d, .box t y, ty, pos, aft, none⟩).run P W = .ok (.value (.pointer (some ⟨W.heap.size, 0, none⟩))) (W.alloc (.cells v.cells t)) := by
  simp [execOp, gI hx, Instr.box, newVar, newRow]
 unfold Oper.wp
 rw [hrun]
 simp only [Oper.upon]
 rw [kW (of_decide_eq_true hdn)]
 exact h _ _ ((Upd.refl _ _).alloc _) (H.alloc t v.cells)
def put (cs : Array Value) (k : Nat) (vs : List Value) : Array Value := (cs.toList.take k ++ vs ++ cs.toList.drop (k + vs.length)).toArray
theorem op_store {t g tb k m : Nat} {cs : Array Value} (ho : ops[i]? = some ⟨none, .store t y z, ty, pos, aft, none⟩) (hS : ∀ w, (sizeOf t).run P w = .ok m w) (hx : evl n live y = some (.pointer (some (Addr.add ⟨g, 0, none⟩ k)))) (hz : evl n live z = some v) (hm : v.cells.size = m) (hk : k + m ≤ cs.size) (h1 : ∀ u ∈ v.cells.toList, u.oneCell' = true) (H : St w F0 (hB g tb cs :: l) W) (h : ∀ W', Upd (fun b => b = g) W W' → St w F0 (hB g tb (put cs k v.cells.toList) :: l) W' → K (bT n x live) W') : wpOp P ops Q i K (bT n x live) W := by
 have hb : Blk W g tb cs := H.blk 0 rfl
 refine op_ok ho rfl ?_
 subst hm
 have hst := run_storeCells_at P g k tb v.cells.toList 0 cs W hb (by simp; omega) h1
 rw [add_plain] at hx
 have hrun : (execOp (bT n x live).eval ⟨none, .store t y z, ty, pos, aft, none⟩).run P W = .ok .skip (W.setRow g (put cs k v.cells.toList)) := by
  simp only [execOp, gI hx, gI hz, Instr.storeAt, Instr.sureAddr, storeVar, Sem.run_bind, Sem.run_pure, Result.andThen_ok, hS, ne_eq, not_true, if_false]
  have := hst
  simp only [Nat.add_zero] at this
  rw [this]
  rfl
 unfold Oper.wp
 rw [hrun]
 simp only [Oper.upon]
 have hB' : Blk (W.setRow g (put cs k v.cells.toList)) g tb (put cs k v.cells.toList) := setRow_heap W g cs _ tb (0, 0) hb
 have hU : Upd (fun b => b = g) W (W.setRow g (put cs k v.cells.toList)) := by
  refine ⟨rfl, rfl, rfl, by simp [World.setRow], fun b hb' hF => ?_⟩
  simp only [World.setRow, Array.getElem?_modify]
  rw [if_neg (fun e => hF e.symm)]
 refine h _ hU ?_
 obtain ⟨F1, a1, a2, a3⟩ := H.turn
 exact a3 _ _ (hU.mono (fun b _ e => e ▸ a1.1)) ⟨.inl a1.1, hB'⟩
theorem op_store0 {t g tb m : Nat} {cs : Array Value} (ho : ops[i]? = some ⟨none, .store t y z, ty, pos, aft, none⟩) (hS : ∀ w, (sizeOf t).run P w = .ok m w) (hx : evl n live y = some (.pointer (some ⟨g, 0, none⟩))) (hz : evl n live z = some v) (hm : v.cells.size = m) (hk : m ≤ cs.size) (h1 : ∀ u ∈ v.cells.toList, u.oneCell' = true) (H : St w F0 (hB g tb cs :: l) W) (h : ∀ W', Upd (fun b => b = g) W W' → St w F0 (hB g tb (put cs 0 v.cells.toList) :: l) W' → K (bT n x live) W') : wpOp P ops Q i K (bT n x live) W :=
 op_store (k := 0) ho hS hx hz hm kO h1 H h
theorem aM {id : Nat} {a : Act} (is : List Nat) (hl : List.range ops.size = is) (h : wpOps P ops Q is a W) : (Code.region id ops false).wp P Q a W := wp_region (hl ▸ h)
theorem aA {a : Act} {rest : List Nat} (h : wpOp P ops Q i (wpOps P ops Q rest) a W) : wpOps P ops Q (i :: rest) a W := by
 rw [wpOps_cons]
 exact h
theorem aH {a : Act} (h : Q .normal a W) : wpOps P ops Q [] a W := h
theorem aG {a : Act} (h : K a W) : Exit.then K Q .normal a W := h
theorem iY {a : Act} {id : Nat} (h : Q .normal a W) : Exit.inBlock id Q .normal a W := h
theorem iZ {a : Act} {id : Nat} (h : Q .normal a W) : Exit.inBlock id Q (.exit id) a W := by
 show (if id = id then Q .normal a W else Q (.exit id) a W)
 rw [if_pos rfl]
 exact h
theorem eP {c1 c2 : Code} {p : Prop} [Decidable p] (hc : evl n live y = some (.bool (decide p))) (ht : p → c1.wp P Q (bT n x live) W) (hf : ¬ p → c2.wp P Q (bT n x live) W) : (Code.cond y c1 c2).wp P Q (bT n x live) W := by
 by_cases hp : p
 ·exact wp_cond_true (by rw [gI hc, decide_eq_true hp]) (ht hp)
 ·exact wp_cond_false (by rw [gI hc, decide_eq_false hp]) (hf hp)
theorem bX {c1 c2 : Code} (hc : evl n live y = some (.bool true)) (ht : c1.wp P Q (bT n x live) W) : (Code.cond y c1 c2).wp P Q (bT n x live) W := wp_cond_true (gI hc) ht
theorem dU {c1 c2 : Code} (hc : evl n live y = some (.bool false)) (ht : c2.wp P Q (bT n x live) W) : (Code.cond y c1 c2).wp P Q (bT n x live) W := wp_cond_false (gI hc) ht
theorem enter {f : FuncId} {fn : Func} {c : Code} {args : Array Value} {R : Ending → World → Prop} (n : Nat) (live : List (Nat × Value)) (hf : P.funcs[f]? = some fn) (hb : fn.body = some c) (ha : (⟨args ++ Array.replicate (fn.ntmps - args.size) undef, []⟩ : Act) = bT n (fun _ => undef) live) (h : ∀ x, c.wp P (bodyPost P fn R) (bT n x live) w) : Calls P f args w R :=
 calls_of_wp hf hb (ha ▸ h _)
theorem aQ {fn : Func} {e : Exit} {t : Nat} {R : Ending → World → Prop} (he : e = .ret ∨ e = .normal) (hr : fn.results = #[.tmp t]) (hx : evl n live (.tmp t) = some v) (h : R (.returned v) W) : bodyPost P fn R e (bT n x live) W := by
 have e2 : (bT n x live).tmps.getD t undef = v := gI (y := .tmp t) hx
 have hrun : (results fn (bT n x live).tmps).run P W = .ok v W := by
  simp only [results, hr]
  simp at e2
  simp [e2]
 rcases he with rfl | rfl <;> exact ⟨rfl, v, hrun, h⟩
end
section
variable {P : Program} {ops : Array Oper} {Q : Exit → Act → World → Prop} {md : Region.Mode} {S : World → Prop} {t : Nat}
def wpAnyS (P : Program) (md : Region.Mode) (ops : Array Oper) (Q : Exit → Act → World → Prop) (S : World → Prop) (t : Nat) : Nat → Array Bool → Act → World → Prop
 | 0, listed, a, w => Region.ready md ops listed = [] ∧ Q .normal a w
 | fuel + 1, listed, a, w =>
  (Region.ready md ops listed = [] → Q .normal a w) ∧
  ∀ i ∈ Region.ready md ops listed, wpOp P ops Q i (fun a' w' => ((listed.setIfInBounds i true).getD t false = false → S w') ∧ wpAnyS P md ops Q S t fuel (listed.setIfInBounds i true) a' w') a w
theorem wpAny_of_S : ∀ (fuel : Nat) (listed : Array Bool) (a : Act) (w : World), wpAnyS P md ops Q S t fuel listed a w → wpAny P md ops Q fuel listed a w
 | 0, _, _, _, h => h
 | fuel + 1, _, _, _, h => ⟨h.1, fun i hi => wpOp_mono (fun a' w' h' => wpAny_of_S fuel _ a' w' h'.2) (h.2 i hi)⟩
def waits (md : Region.Mode) (ops : Array Oper) (t i : Nat) : Bool := i != t && (match ops[t]? with | none => true | some o => o.after.any fun e => Region.binds md e && e.on == i)
theorem anyS_first {i : Nat} {oi : Oper} {v : Value} (hi : ops[i]? = some oi) (hsel : ∀ (j : Nat) (o : Oper) cs b, ops[j]? = some o → o.op ≠ .select cs b) (hw : waits md ops t i = true)
 (hQ : ∀ c a w, Q (.panic c) (a.put oi.dst v) w → Q (.panic c) a w) :
 ∀ (fuel : Nat) (listed : Array Bool) (a : Act) (w : World),
  (∀ j oj, ops[j]? = some oj → j ≠ i → listed.getD j true = false → (∀ e ∈ oj.after, Region.binds md e = true → e.on ≠ i) → oi.apart ops oj = true) →
  i ∈ Region.ready md ops listed → YieldsIf P ops S oi v a → S w → listed.getD t false = false →
  wpAnyS P md ops Q S t fuel (listed.setIfInBounds i true) (a.put oi.dst v) w → wpAnyS P md ops Q S t (fuel + 1) listed a w := by
 simp only [waits, Bool.and_eq_true, bne_iff_ne, ne_eq] at hw
 obtain ⟨hit, hw⟩ := hw
 intro fuel
 induction fuel with
 | zero =>
  intro listed a w _ hr hy hS ht H
  refine ⟨fun h => (by rw [h] at hr; cases hr), fun j hj => ?_⟩
  by_cases hji : j = i
  ·subst hji; exact hy.wpOp hi hS ⟨fun _ => hS, H⟩
  ·have := ready_mono hj hji
   rw [H.1] at this
   cases this
 | succ fuel ih =>
  intro listed a w hfree hr hy hS ht H
  refine ⟨fun h => (by rw [h] at hr; cases hr), fun j hj => ?_⟩
  by_cases hji : j = i
  ·subst hji; exact hy.wpOp hi hS ⟨fun _ => hS, H⟩
  ·have h1 := H.2 j (ready_mono hj hji)
   obtain ⟨hjun, oj, hoj, hall⟩ := mem_ready.1 hj
   have hnot : ∀ e ∈ oj.after, Region.binds md e = true → e.on ≠ i := fun e he hb heq => by
    have h1 := hall e he hb
    have h0 := (mem_ready.1 hr).1
    rw [heq] at h1
    rcases Nat.lt_or_ge i listed.size with h' | h'
    ·simp [h'] at h0 h1; rw [h0] at h1; cases h1
    ·simp [Array.getElem?_eq_none h'] at h1
   have hjt : j ≠ t := by
    rintro rfl
    rw [hoj] at hw
    obtain ⟨e, he, hb⟩ := Array.any_eq_true'.1 hw
    simp only [Bool.and_eq_true, beq_iff_eq] at hb
    exact hnot e he hb.1 hb.2
   have ht' : (listed.setIfInBounds j true).getD t false = false := by rw [getD_set_ne false hjt]; exact ht
   have h2 := wpOp_putIf hoj (hfree j oj hoj hji hjun hnot) (fun cs b => hsel i oi cs b hi) (fun cs b => hsel j oj cs b hoj) hQ hy h1
   have hfree' : ∀ k ok, ops[k]? = some ok → k ≠ i → (listed.setIfInBounds j true).getD k true = false →
    (∀ e ∈ ok.after, Region.binds md e = true → e.on ≠ i) → oi.apart ops ok = true := fun k ok hk hki hun hno => by
    refine hfree k ok hk hki ?_ hno
    by_cases hjk : j = k
    ·subst hjk; exact hjun
    ·rw [getD_set_ne true hjk] at hun; exact hun
   have ht2 : ((listed.setIfInBounds i true).setIfInBounds j true).getD t false = false := by rw [getD_set_ne false hjt, getD_set_ne false hit]; exact ht
   refine wpOp_mono (fun a' w' h3 => ⟨fun _ => h3.2.1 ht2, ih (listed.setIfInBounds j true) a' w' hfree' (ready_mono hr (Ne.symm hji)) h3.1 (h3.2.1 ht2) ht' ?_⟩) h2
   rw [Array.setIfInBounds_comm _ _ hji]
   exact h3.2.2
theorem aD {i d n : Nat} {x : Nat → Value} {live : List (Nat × Value)} {dst : Option Nat} {op : Op} {ty : Nat} {pos : String} {aft : Array Edge} {v : Value} {fuel : Nat} {listed : Array Bool} {w : World} (hi : ops[i]? = some ⟨dst, op, ty, pos, aft, none⟩)
 (hs : Region.noSelect ops = true) (hf : Region.free md ops listed i = true) (hr : (Region.ready md ops listed).contains i = true) (hw : waits md ops t i = true) (ht : listed.getD t false = false)
 (hQ : ∀ c a w, Q (.panic c) (a.put dst v) w → Q (.panic c) a w) (hd : dst = some d) (hdn : decide (d < n) = true) (hS : S w) (hy : ∀ W, S W → Rn P ⟨dst, op, ty, pos, aft, none⟩ (bT n x live) W v)
 (h : wpAnyS P md ops Q S t fuel (listed.setIfInBounds i true) (bT n x ((d, v) :: live)) w) : wpAnyS P md ops Q S t (fuel + 1) listed (bT n x live) w := by
 subst hd
 exact anyS_first hi (Region.noSelect_spec hs) hw hQ fuel listed _ w (Region.free_spec hi hf) (by simpa using hr) (.inl ⟨rfl, hy⟩) hS ht (by rw [kW (of_decide_eq_true hdn)]; exact h)
theorem gW {i : Nat} {fuel : Nat} {listed : Array Bool} {a : Act} {w : World} (hr : Region.ready md ops listed = [i])
 (h : wpOp P ops Q i (fun a' w' => ((listed.setIfInBounds i true).getD t false = false → S w') ∧ wpAnyS P md ops Q S t fuel (listed.setIfInBounds i true) a' w') a w) : wpAnyS P md ops Q S t (fuel + 1) listed a w :=
 ⟨fun h0 => (by rw [hr] at h0; cases h0), fun j hj => (by rw [hr] at hj; rw [List.mem_singleton.1 hj]; exact h)⟩
theorem bU {listed : Array Bool} {a : Act} {w : World} (hr : Region.ready md ops listed = []) (h : Q .normal a w) : ∀ fuel, wpAnyS P md ops Q S t fuel listed a w
 | 0 => ⟨hr, h⟩
 | _ + 1 => ⟨fun _ => h, by rw [hr]; simp⟩
theorem dD {id : Nat} {a : Act} {w : World} (S : World → Prop) (t : Nat) (hm : P.follows .mixedOrders = true) (h : wpAnyS P .any ops Q S t ops.size (Array.replicate ops.size false) a w.drew) : (Code.region id ops true).wp P Q a w :=
 wp_region_any hm (wpAny_of_S _ _ _ _ h)
end
section
variable {P : Program} {ops : Array Oper} {Q : Exit → Act → World → Prop} {K : Act → World → Prop} {n i d ty : Nat} {x : Nat → Value} {live : List (Nat × Value)} {W w : World} {F0 : Nat → Prop} {l l' : List HP} {pos : String} {aft : Array Edge} {v : Value} {y z : Operand}
section
variable {dst : Option Nat} {xt yt : Nat} {p q : Int} (hx : evl n live y = some (.int .i64 p)) (hz : evl n live z = some (.int .i64 q))
include hx hz
theorem gY : Rn P ⟨dst, .binOp .lss xt y z yt, ty, pos, aft, none⟩ (bT n x live) W (.bool (decide (p < q))) := rn_cmp hx hz (by simp [binOp, Op.intCmp])
theorem eH : Rn P ⟨dst, .binOp .eql xt y z yt, ty, pos, aft, none⟩ (bT n x live) W (.bool (decide (p = q))) := rn_cmp hx hz (by
 by_cases e : p = q
 ·simp [binOp, Op.intCmp, e]
 ·have e' : (p == q) = false := beq_eq_false_iff_ne.2 e
  simp [binOp, Op.intCmp, e', e])
theorem bN : Rn P ⟨dst, .binOp .neq xt y z yt, ty, pos, aft, none⟩ (bT n x live) W (.bool (decide (¬ p = q))) := rn_cmp hx hz (by
 by_cases e : p = q
 ·simp [binOp, Op.intCmp, e]
 ·have e' : (p == q) = false := beq_eq_false_iff_ne.2 e
  simp [binOp, Op.intCmp, bne, e', e])
theorem rn_addW : Rn P ⟨dst, .binOp .add xt y z yt, ty, pos, aft, none⟩ (bT n x live) W (.int .i64 (IntKind.i64.wrap (p + q))) := rn_arith hx hz (by simp [binOp, Op.intArith])
end
theorem wrap_id {p : Int} (h : -9223372036854775808 ≤ p ∧ p ≤ 9223372036854775807) : IntKind.i64.wrap p = p := (IntWalk.i64_left p).trans (IntWalk.wrap64_in _ h)
theorem rn_add {dst : Option Nat} {xt yt : Nat} {p q : Int} (hx : evl n live y = some (.int .i64 p)) (hz : evl n live z = some (.int .i64 q)) (hb : -9223372036854775808 ≤ p + q ∧ p + q ≤ 9223372036854775807) : Rn P ⟨dst, .binOp .add xt y z yt, ty, pos, aft, none⟩ (bT n x live) W (.int .i64 (p + q)) := by
 have := rn_addW (P := P) (dst := dst) (ty := ty) (pos := pos) (aft := aft) (x := x) (W := W) (xt := xt) (yt := yt) hx hz
 rwa [wrap_id hb] at this
theorem iB {dst : Option Nat} {xt yt k : Nat} (hx : evl n live y = some (.int .i64 (k : Int))) (hz : evl n live z = some (.int .i64 1)) (hb : k < 9223372036854775807) : Rn P ⟨dst, .binOp .add xt y z yt, ty, pos, aft, none⟩ (bT n x live) W (.int .i64 ((k + 1 : Nat) : Int)) := by
 have := rn_add (P := P) (dst := dst) (ty := ty) (pos := pos) (aft := aft) (x := x) (W := W) (xt := xt) (yt := yt) hx hz kO
 simpa using this
theorem lW {dst : Option Nat} {xt yt : Nat} {s t : ByteArray} (hx : evl n live y = some (.string s)) (hz : evl n live z = some (.string t)) : Rn P ⟨dst, .binOp .eql xt y z yt, ty, pos, aft, none⟩ (bT n x live) W (.bool (s.toList == t.toList)) := by
 unfold Rn
 simp [execOp, gI hx, gI hz, eqGuard_at_string, binOp, Op.stringOp]
theorem aI {dst : Option Nat} {c : Operand} {b : Bool} {u1 u2 : Value} (hc : evl n live c = some (.bool b)) (hx : evl n live y = some u1) (hz : evl n live z = some u2) (hv : v = if b then u1 else u2) : Rn P ⟨dst, .pick c y z, ty, pos, aft, none⟩ (bT n x live) W v := by
 unfold Rn
 subst hv
 cases b <;> simp [execOp, gI hc, gI hx, gI hz, asBool]
theorem gN {t g tb m : Nat} {old cs : Array Value} (ho : ops[i]? = some ⟨none, .store t y z, ty, pos, aft, none⟩) (hS : ∀ w, (sizeOf t).run P w = .ok m w) (hx : evl n live y = some (.pointer (some ⟨g, 0, none⟩))) (hz : evl n live z = some (.agg cs)) (hm : cs.size = m) (hk : old.size = m) (h1 : ∀ u ∈ cs.toList, u.oneCell' = true) (H : St w F0 (hB g tb old :: l) W) (h : ∀ W', Upd (fun b => b = g) W W' → St w F0 (hB g tb cs :: l) W' → K (bT n x live) W') : wpOp P ops Q i K (bT n x live) W := by
 refine op_store0 ho hS hx hz hm kO h1 H (fun W' hu H' => h W' hu ?_)
 have e : put old 0 (Value.agg cs).cells.toList = cs := by
  simp only [put, Value.cells, List.take_zero, List.nil_append, Nat.zero_add]
  rw [List.drop_eq_nil_of_le (by simp; omega), List.append_nil, Array.toArray_toList]
 rw [← e]
 exact H'
theorem fH {dst : Option Nat} {t m g tb : Nat} {cs : Array Value} (hA : ∀ w, (isAgg t).run P w = .ok true w) (hS : ∀ w, (sizeOf t).run P w = .ok m w) (hx : evl n live y = some (.pointer (some ⟨g, 0, none⟩))) (hb : Blk W g tb cs) (hm : cs.size = m) : Rn P ⟨dst, .load t y, ty, pos, aft, none⟩ (bT n x live) W (.agg cs) := aY hA hS hx hb.at' (by simpa using hm)
theorem aN {dst : Option Nat} {t k g tb : Nat} {cs : Array Value} (hA : ∀ w, (isAgg t).run P w = .ok false w) (hx : evl n live y = some (.pointer (some (Addr.add ⟨g, 0, none⟩ k)))) (hb : Blk W g tb cs) (hv : cs[k]? = some v) : Rn P ⟨dst, .load t y, ty, pos, aft, none⟩ (bT n x live) W v := rn_load hA hx (hb.at'.cell k (by simpa using hv))
theorem iX {dst : Option Nat} {t k m g tb : Nat} {cs sub : Array Value} (hA : ∀ w, (isAgg t).run P w = .ok true w) (hS : ∀ w, (sizeOf t).run P w = .ok m w) (hx : evl n live y = some (.pointer (some (Addr.add ⟨g, 0, none⟩ k)))) (hb : Blk W g tb cs) (hs : (cs.toList.drop k).take m = sub.toList) (hm : sub.size = m) : Rn P ⟨dst, .load t y, ty, pos, aft, none⟩ (bT n x live) W (.agg sub) := aY hA hS hx (hb.at'.sub k m hs) (by simpa using hm)
theorem bR {dst : Option Nat} {t k : Nat} {a : Addr} {cs : List Value} (hA : ∀ w, (isAgg t).run P w = .ok false w) (hx : evl n live y = some (.pointer (some (a.add k)))) (hc : Cat W a cs) (hv : cs[k]? = some v) : Rn P ⟨dst, .load t y, ty, pos, aft, none⟩ (bT n x live) W v := rn_load hA hx (hc.cell k hv)
theorem lX {dst : Option Nat} {t k m : Nat} {a : Addr} {cs sub : List Value} (hA : ∀ w, (isAgg t).run P w = .ok true w) (hS : ∀ w, (sizeOf t).run P w = .ok m w) (hx : evl n live y = some (.pointer (some (a.add k)))) (hc : Cat W a cs) (hs : (cs.drop k).take m = sub) (hm : sub.length = m) : Rn P ⟨dst, .load t y, ty, pos, aft, none⟩ (bT n x live) W (.agg sub.toArray) := aY hA hS hx (hc.sub k m hs) hm
theorem aP {dst : Option Nat} {t e sz k len cap : Nat} {A : Option Addr} {ad : Addr} (hu : ∀ w, (underlying t).run P w = .ok (.slice e) w) (hS : ∀ w, (sizeOf e).run P w = .ok sz w) (hx : evl n live y = some (.slice A len cap)) (hz : evl n live z = some (.int .i64 (k : Int))) (hA : A = some ad) (hk : k < len) : Rn P ⟨dst, .indexAddr t y z, ty, pos, aft, none⟩ (bT n x live) W (.pointer (some (ad.add (k * sz)))) := by
 subst hA
 exact rn_index hu hS hx hz hk
theorem Cat.cell0 {W : World} {a : Addr} {cs : List Value} {v : Value} (h : Cat W a cs) (hv : cs[0]? = some v) : W.cell? a = some v := h 0 v hv
theorem St.kn {α : Type} {dk : Kn α} {p : α} {cs : List Value} (h : St w F0 l W) (i : Nat) (hq : l[i]? = some (hM dk p cs)) : dk.K W p cs := by
 obtain ⟨F, hF⟩ := h.get i hq
 exact dk.kL hF
theorem aU {a : Act} (h : Q .ret a W) : Exit.then K Q .ret a W := h
theorem dS {a : Act} {id : Nat} (h : Q .ret a W) : Exit.inBlock id Q .ret a W := h
theorem dP {a : Act} {id : Nat} (h : Q (.exit id) a W) : Exit.then K Q (.exit id) a W := h
theorem wanted_G {o oj : Oper} {j dj : Nat} {want b : Bool} (hg : o.guard = some (j, want)) (hj : ops[j]? = some oj) (hdj : oj.dst = some dj) (hv : evl n live (.tmp dj) = some (.bool b)) : Region.wanted o (yielded ops (bT n x live).tmps) = (b == want) := by
 have e2 := gI (x := x) hv
 simp only [Act.eval, Array.getD_eq_getD_getElem?] at e2
 unfold Region.wanted yielded
 simp only [hg, hj, Option.bind_some, hdj]
 cases e : (bT n x live).tmps[dj]? with
 | none => rw [e] at e2; cases e2
 | some u =>
  rw [e] at e2
  simp only [Option.getD_some] at e2
  subst e2
  simp
theorem aR {dst : Option Nat} {op : Op} {j dj : Nat} {want : Bool} {oj : Oper} (ho : ops[i]? = some ⟨dst, op, ty, pos, aft, some (j, want)⟩) (hj : ops[j]? = some oj) (hdj : oj.dst = some dj) (hv : evl n live (.tmp dj) = some (.bool want)) (h : ∀ ops' : Array Oper, ops'[i]? = some ⟨dst, op, ty, pos, aft, none⟩ → wpOp P ops' Q i K (bT n x live) W) : wpOp P ops Q i K (bT n x live) W := by
 have hi : i < ops.size := (Array.getElem?_eq_some_iff.1 ho).1
 have h1 := h (ops.setIfInBounds i ⟨dst, op, ty, pos, aft, none⟩) (by simp [hi])
 unfold wpOp at h1 ⊢
 rw [show (ops.setIfInBounds i ⟨dst, op, ty, pos, aft, none⟩)[i]? = some ⟨dst, op, ty, pos, aft, none⟩ by simp [hi]] at h1
 simp only [ho] at h1 ⊢
 have hw : Region.wanted ⟨dst, op, ty, pos, aft, some (j, want)⟩ (yielded ops (bT n x live).tmps) = true := by
  rw [wanted_G rfl hj hdj hv]
  simp
 rw [if_pos hw]
 rw [if_pos (show Region.wanted _ _ = true from rfl)] at h1
 exact h1
theorem aC {dst : Option Nat} {op : Op} {j dj : Nat} {want b : Bool} {oj : Oper} (ho : ops[i]? = some ⟨dst, op, ty, pos, aft, some (j, want)⟩) (hj : ops[j]? = some oj) (hdj : oj.dst = some dj) (hv : evl n live (.tmp dj) = some (.bool b)) (hb : (b == want) = false) (hd : dst = some d) (hdn : decide (d < n) = true) (h : K (bT n x ((d, undef) :: live)) W) : wpOp P ops Q i K (bT n x live) W := by
 subst hd
 unfold wpOp
 simp only [ho]
 have hw : Region.wanted ⟨some d, op, ty, pos, aft, some (j, want)⟩ (yielded ops (bT n x live).tmps) = false := by
  rw [wanted_G rfl hj hdj hv, hb]
 rw [hw]
 simp only [Bool.false_eq_true, if_false]
 rw [kW (of_decide_eq_true hdn)]
 exact h
theorem bO {o : Oper} {a : Act} {p : Prop} [Decidable p] (hn : ¬ p) (h : Rn P o a W (.bool (decide p))) : Rn P o a W (.bool false) := by
 rw [decide_eq_false hn] at h
 exact h
theorem bV {o : Oper} {a : Act} {p : Prop} [Decidable p] (hn : p) (h : Rn P o a W (.bool (decide p))) : Rn P o a W (.bool true) := by
 rw [decide_eq_true hn] at h
 exact h
theorem rn_neqB {dst : Option Nat} {xt yt : Nat} {b : Bool} (hu : ∀ w, (underlying xt).run P w = .ok .bool w) (hx : evl n live y = some (.bool b)) (hz : evl n live z = some (.bool b)) : Rn P ⟨dst, .binOp .neq xt y z yt, ty, pos, aft, none⟩ (bT n x live) W (.bool false) := by
 unfold Rn
 have e : Op.equal xt (.bool b) (.bool b) = Op.equalIn (9999 + 1) xt (.bool b) (.bool b) := rfl
 have e2 : (Op.equal xt (.bool b) (.bool b)).run P W = .ok true W := by
  rw [e, Op.equalIn]
  simp [hu]
 simp [execOp, gI hx, gI hz, eqGuard_at_bool, binOp, e2]
theorem bA {n : Nat} {x : Nat → Value} {live : List (Nat × Value)} (live' : List (Nat × Value)) (h2 : live'.map (fun p => some p.2) = live'.map (fun p => live.lookup p.1)) : ∃ x', bT n x live = bT n x' live' := actOf_drop (fun _ _ hm => (List.map_inj_left.1 h2 _ hm).symm)
end
end Go.Proofs.YtgaoabnnpjngcaaGreatSep
namespace Go.Proofs.YtgaoabnnpjngcaaGreatT
open Go.RowKit Go.Proofs.YtgaoabnnpjngcaaGreatSep
theorem nR : dN Tryz.prog 35 0 0 := fun a W => by simp [Instr.fieldAt, Tryz.runUnderlying35, Instr.sureAddr, fieldPlace, Tryz.sizeOf30]
theorem nS : dN Tryz.prog 35 1 1 := fun a W => by simp [Instr.fieldAt, Tryz.runUnderlying35, Instr.sureAddr, fieldPlace, Tryz.sizeOf31]
theorem fa_35_2 : dN Tryz.prog 35 2 2 := fun a W => by simp [Instr.fieldAt, Tryz.runUnderlying35, Instr.sureAddr, fieldPlace, Tryz.sizeOf32]
theorem nT : dN Tryz.prog 35 3 3 := fun a W => by simp [Instr.fieldAt, Tryz.runUnderlying35, Instr.sureAddr, fieldPlace, Tryz.sizeOf33]
theorem fa_35_4 : dN Tryz.prog 35 4 4 := fun a W => by simp [Instr.fieldAt, Tryz.runUnderlying35, Instr.sureAddr, fieldPlace, Tryz.sizeOf3]
theorem fa_73_0 : dN Tryz.prog 73 0 0 := fun a W => by simp [Instr.fieldAt, Tryz.runUnderlying73, Instr.sureAddr, fieldPlace, Tryz.sizeOf9]
theorem fa_73_1 : dN Tryz.prog 73 1 1 := fun a W => by simp [Instr.fieldAt, Tryz.runUnderlying73, Instr.sureAddr, fieldPlace, Tryz.sizeOf71]
theorem fa_80_0 : dN Tryz.prog 80 0 0 := fun a W => by simp [Instr.fieldAt, Tryz.runUnderlying80, Instr.sureAddr, fieldPlace, Tryz.sizeOf3]
theorem nU : dN Tryz.prog 80 1 1 := fun a W => by simp [Instr.fieldAt, Tryz.runUnderlying80, Instr.sureAddr, fieldPlace, Tryz.sizeOf75]
theorem fa_80_2 : dN Tryz.prog 80 2 2 := fun a W => by simp [Instr.fieldAt, Tryz.runUnderlying80, Instr.sureAddr, fieldPlace, Tryz.sizeOf76]
theorem nV : dN Tryz.prog 80 3 3 := fun a W => by simp [Instr.fieldAt, Tryz.runUnderlying80, Instr.sureAddr, fieldPlace, Tryz.sizeOf77]
theorem jZ : dN Tryz.prog 80 4 4 := fun a W => by simp [Instr.fieldAt, Tryz.runUnderlying80, Instr.sureAddr, fieldPlace, Tryz.sizeOf78]
theorem lH : dN Tryz.prog 102 0 0 := fun a W => by simp [Instr.fieldAt, Tryz.runUnderlying102, Instr.sureAddr, fieldPlace, Tryz.sizeOf3]
theorem nK : dN Tryz.prog 102 1 1 := fun a W => by simp [Instr.fieldAt, Tryz.runUnderlying102, Instr.sureAddr, fieldPlace, Tryz.sizeOf3]
theorem kM : dN Tryz.prog 102 2 2 := fun a W => by simp [Instr.fieldAt, Tryz.runUnderlying102, Instr.sureAddr, fieldPlace, Tryz.sizeOf100]
theorem fa_122_0 : dN Tryz.prog 122 0 0 := fun a W => by simp [Instr.fieldAt, Tryz.runUnderlying122, Instr.sureAddr, fieldPlace, Tryz.sizeOf9]
theorem l9 : dN Tryz.prog 122 1 1 := fun a W => by simp [Instr.fieldAt, Tryz.runUnderlying122, Instr.sureAddr, fieldPlace, Tryz.sizeOf120]
theorem fa_132_0 : dN Tryz.prog 132 0 0 := fun a W => by simp [Instr.fieldAt, Tryz.runUnderlying132, Instr.sureAddr, fieldPlace, Tryz.sizeOf3]
theorem fa_132_1 : dN Tryz.prog 132 1 1 := fun a W => by simp [Instr.fieldAt, Tryz.runUnderlying132, Instr.sureAddr, fieldPlace, Tryz.sizeOf3]
theorem fa_132_2 : dN Tryz.prog 132 2 2 := fun a W => by simp [Instr.fieldAt, Tryz.runUnderlying132, Instr.sureAddr, fieldPlace, Tryz.sizeOf127]
theorem fa_132_3 : dN Tryz.prog 132 3 3 := fun a W => by simp [Instr.fieldAt, Tryz.runUnderlying132, Instr.sureAddr, fieldPlace, Tryz.sizeOf3]
theorem fa_132_4 : dN Tryz.prog 132 4 4 := fun a W => by simp [Instr.fieldAt, Tryz.runUnderlying132, Instr.sureAddr, fieldPlace, Tryz.sizeOf129]
theorem fa_132_5 : dN Tryz.prog 132 5 6 := fun a W => by simp [Instr.fieldAt, Tryz.runUnderlying132, Instr.sureAddr, fieldPlace, Tryz.sizeOf76]
theorem mD : dN Tryz.prog 132 6 7 := fun a W => by simp [Instr.fieldAt, Tryz.runUnderlying132, Instr.sureAddr, fieldPlace, Tryz.sizeOf130]
theorem fa_132_7 : dN Tryz.prog 132 7 8 := fun a W => by simp [Instr.fieldAt, Tryz.runUnderlying132, Instr.sureAddr, fieldPlace, Tryz.sizeOf3]
theorem fa_132_8 : dN Tryz.prog 132 8 9 := fun a W => by simp [Instr.fieldAt, Tryz.runUnderlying132, Instr.sureAddr, fieldPlace, Tryz.sizeOf3]
theorem fa_132_9 : dN Tryz.prog 132 9 10 := fun a W => by simp [Instr.fieldAt, Tryz.runUnderlying132, Instr.sureAddr, fieldPlace, Tryz.sizeOf3]
theorem fa_132_10 : dN Tryz.prog 132 10 11 := fun a W => by simp [Instr.fieldAt, Tryz.runUnderlying132, Instr.sureAddr, fieldPlace, Tryz.sizeOf3]
theorem fa_137_0 : dN Tryz.prog 137 0 0 := fun a W => by simp [Instr.fieldAt, Tryz.runUnderlying137, Instr.sureAddr, fieldPlace, Tryz.sizeOf3]
theorem fa_137_1 : dN Tryz.prog 137 1 1 := fun a W => by simp [Instr.fieldAt, Tryz.runUnderlying137, Instr.sureAddr, fieldPlace, Tryz.sizeOf4]
theorem mE : dN Tryz.prog 137 2 2 := fun a W => by simp [Instr.fieldAt, Tryz.runUnderlying137, Instr.sureAddr, fieldPlace, Tryz.sizeOf134]
theorem fa_137_3 : dN Tryz.prog 137 3 3 := fun a W => by simp [Instr.fieldAt, Tryz.runUnderlying137, Instr.sureAddr, fieldPlace, Tryz.sizeOf3]
theorem fa_137_4 : dN Tryz.prog 137 4 4 := fun a W => by simp [Instr.fieldAt, Tryz.runUnderlying137, Instr.sureAddr, fieldPlace, Tryz.sizeOf135]
theorem fa_137_5 : dN Tryz.prog 137 5 5 := fun a W => by simp [Instr.fieldAt, Tryz.runUnderlying137, Instr.sureAddr, fieldPlace, Tryz.sizeOf3]
theorem fa_137_6 : dN Tryz.prog 137 6 6 := fun a W => by simp [Instr.fieldAt, Tryz.runUnderlying137, Instr.sureAddr, fieldPlace, Tryz.sizeOf135]
theorem fa_141_0 : dN Tryz.prog 141 0 0 := fun a W => by simp [Instr.fieldAt, Tryz.runUnderlying141, Instr.sureAddr, fieldPlace, Tryz.sizeOf3]
theorem fa_141_1 : dN Tryz.prog 141 1 1 := fun a W => by simp [Instr.fieldAt, Tryz.runUnderlying141, Instr.sureAddr, fieldPlace, Tryz.sizeOf3]
theorem fa_141_2 : dN Tryz.prog 141 2 2 := fun a W => by simp [Instr.fieldAt, Tryz.runUnderlying141, Instr.sureAddr, fieldPlace, Tryz.sizeOf3]
theorem fa_141_3 : dN Tryz.prog 141 3 3 := fun a W => by simp [Instr.fieldAt, Tryz.runUnderlying141, Instr.sureAddr, fieldPlace, Tryz.sizeOf3]
theorem fa_141_4 : dN Tryz.prog 141 4 4 := fun a W => by simp [Instr.fieldAt, Tryz.runUnderlying141, Instr.sureAddr, fieldPlace, Tryz.sizeOf9]
theorem mF : dN Tryz.prog 141 5 5 := fun a W => by simp [Instr.fieldAt, Tryz.runUnderlying141, Instr.sureAddr, fieldPlace, Tryz.sizeOf138]
theorem fa_141_6 : dN Tryz.prog 141 6 6 := fun a W => by simp [Instr.fieldAt, Tryz.runUnderlying141, Instr.sureAddr, fieldPlace, Tryz.sizeOf139]
theorem fa_141_7 : dN Tryz.prog 141 7 8 := fun a W => by simp [Instr.fieldAt, Tryz.runUnderlying141, Instr.sureAddr, fieldPlace, Tryz.sizeOf3]
theorem fa_141_8 : dN Tryz.prog 141 8 9 := fun a W => by simp [Instr.fieldAt, Tryz.runUnderlying141, Instr.sureAddr, fieldPlace, Tryz.sizeOf50]
theorem nL : dN Tryz.prog 143 0 0 := fun a W => by simp [Instr.fieldAt, Tryz.runUnderlying143, Instr.sureAddr, fieldPlace, Tryz.sizeOf3]
theorem fa_143_1 : dN Tryz.prog 143 1 1 := fun a W => by simp [Instr.fieldAt, Tryz.runUnderlying143, Instr.sureAddr, fieldPlace, Tryz.sizeOf141]
theorem jK : dN Tryz.prog 178 0 0 := fun a W => by simp [Instr.fieldAt, Tryz.runUnderlying178, Instr.sureAddr, fieldPlace, Tryz.sizeOf3]
theorem kG : dN Tryz.prog 178 1 1 := fun a W => by simp [Instr.fieldAt, Tryz.runUnderlying178, Instr.sureAddr, fieldPlace, Tryz.sizeOf9]
theorem lI : dN Tryz.prog 178 2 2 := fun a W => by simp [Instr.fieldAt, Tryz.runUnderlying178, Instr.sureAddr, fieldPlace, Tryz.sizeOf127]
theorem nM : dN Tryz.prog 178 3 3 := fun a W => by simp [Instr.fieldAt, Tryz.runUnderlying178, Instr.sureAddr, fieldPlace, Tryz.sizeOf3]
theorem fa_178_4 : dN Tryz.prog 178 4 4 := fun a W => by simp [Instr.fieldAt, Tryz.runUnderlying178, Instr.sureAddr, fieldPlace, Tryz.sizeOf50]
end Go.Proofs.YtgaoabnnpjngcaaGreatT
namespace Go.Proofs.YtgaoabnnpjngcaaGreatT
open Go.Proofs.YtgaoabnnpjngcaaGreatSep
structure GInstr where
 Op : Int
 A : Int
 B : Int
 C : Int
 D : Int
 Name : ByteArray
def zInstr : GInstr := ⟨0, 0, 0, 0, 0, ⟨#[]⟩⟩
def iN (x : GInstr) : Nat := x.Name.size
def Bd_Instr (x : GInstr) : Prop := x.Name.size ≤ 9223372036854775807
def Gd_Instr (x : GInstr) : Prop := (Lit.int .i64 x.Op).wf = true ∧ (Lit.int .i64 x.A).wf = true ∧ (Lit.int .i64 x.B).wf = true ∧ (Lit.int .i64 x.C).wf = true ∧ (Lit.int .i64 x.D).wf = true ∧ x.Name.size ≤ 9223372036854775807
theorem Bd_of_Instr {x : GInstr} (h : Gd_Instr x) : Bd_Instr x := by
 obtain ⟨g0, g1, g2, g3, g4, g5⟩ := h
 exact g5
structure GMethod where
 Name : ByteArray
 Code : List GInstr
def zMethod : GMethod := ⟨⟨#[]⟩, []⟩
def gT (x : GMethod) : Nat := x.Name.size + dF iN x.Code
def Bd_Method (x : GMethod) : Prop := x.Name.size ≤ 9223372036854775807 ∧ (∀ y ∈ x.Code, Bd_Instr y)
def Gd_Method (x : GMethod) : Prop := x.Name.size ≤ 9223372036854775807 ∧ (x.Code.length ≤ 9223372036854775807 ∧ ∀ y ∈ x.Code, Gd_Instr y)
theorem Bd_of_Method {x : GMethod} (h : Gd_Method x) : Bd_Method x := by
 obtain ⟨g0, g1⟩ := h
 exact ⟨g0, (fun y hy => Bd_of_Instr (g1.2 y hy))⟩
structure GScript where
 Name : ByteArray
 Methods : List GMethod
def zScript : GScript := ⟨⟨#[]⟩, []⟩
def gU (x : GScript) : Nat := x.Name.size + dF gT x.Methods
def Bd_Script (x : GScript) : Prop := x.Name.size ≤ 9223372036854775807 ∧ (∀ y ∈ x.Methods, Bd_Method y)
def Gd_Script (x : GScript) : Prop := x.Name.size ≤ 9223372036854775807 ∧ (x.Methods.length ≤ 9223372036854775807 ∧ ∀ y ∈ x.Methods, Gd_Method y)
theorem Bd_of_Script {x : GScript} (h : Gd_Script x) : Bd_Script x := by
 obtain ⟨g0, g1⟩ := h
 exact ⟨g0, (fun y hy => Bd_of_Method (g1.2 y hy))⟩
structure GValue where
 Kind : Int
 N : Int
def zValue : GValue := ⟨0, 0⟩
def jI (_ : GValue) : Nat := 0
def iP (x : GValue) : Prop := (Lit.int .i64 x.Kind).wf = true ∧ (Lit.int .i64 x.N).wf = true
structure GTag where
 Vat : Int
 Entity : Int
 Seq : Int
def zTag : GTag := ⟨0, 0, 0⟩
def szn_Tag (_ : GTag) : Nat := 0
def jH (x : GTag) : Prop := (Lit.int .i64 x.Vat).wf = true ∧ (Lit.int .i64 x.Entity).wf = true ∧ (Lit.int .i64 x.Seq).wf = true
structure GSent where
 Target : Int
 Name : ByteArray
 bD : List GValue
 Result : Int
 Tag : GTag
def zSent : GSent := ⟨0, ⟨#[]⟩, [], 0, zTag⟩
def iF (x : GSent) : Nat := x.Name.size + dF jI x.bD
def Bd_Sent (x : GSent) : Prop := x.Name.size ≤ 9223372036854775807
def j3 (x : GSent) : Prop := (Lit.int .i64 x.Target).wf = true ∧ x.Name.size ≤ 9223372036854775807 ∧ (x.bD.length ≤ 9223372036854775807 ∧ ∀ y ∈ x.bD, iP y) ∧ (Lit.int .i64 x.Result).wf = true ∧ jH x.Tag
theorem Bd_of_Sent {x : GSent} (h : j3 x) : Bd_Sent x := by
 obtain ⟨g0, g1, g2, g3, g4⟩ := h
 exact g1
structure GAsker where
 dZ : Int
 Question : Int
def zAsker : GAsker := ⟨0, 0⟩
def kX (_ : GAsker) : Nat := 0
def lJ (x : GAsker) : Prop := (Lit.int .i64 x.dZ).wf = true ∧ (Lit.int .i64 x.Question).wf = true
structure GEntity where
 Kind : Int
 Script : Int
 eB : List GValue
 State : Int
 Value : GValue
 Queue : List GSent
 bJ : List GAsker
 dZ : Int
 Pos : Int
 Count : Int
 Sent : Int
def zEntity : GEntity := ⟨0, 0, [], 0, zValue, [], [], 0, 0, 0, 0⟩
def fP (x : GEntity) : Nat := dF jI x.eB + dF iF x.Queue + dF kX x.bJ
def Bd_Entity (x : GEntity) : Prop := (∀ y ∈ x.Queue, Bd_Sent y)
def oM (x : GEntity) : Prop := (Lit.int .i64 x.Kind).wf = true ∧ (Lit.int .i64 x.Script).wf = true ∧ (x.eB.length ≤ 9223372036854775807 ∧ ∀ y ∈ x.eB, iP y) ∧ (Lit.int .i64 x.State).wf = true ∧ iP x.Value ∧ (x.Queue.length ≤ 9223372036854775807 ∧ ∀ y ∈ x.Queue, j3 y) ∧ (x.bJ.length ≤ 9223372036854775807 ∧ ∀ y ∈ x.bJ, lJ y) ∧ (Lit.int .i64 x.dZ).wf = true ∧ (Lit.int .i64 x.Pos).wf = true ∧ (Lit.int .i64 x.Count).wf = true ∧ (Lit.int .i64 x.Sent).wf = true
theorem Bd_of_Entity {x : GEntity} (h : oM x) : Bd_Entity x := by
 obtain ⟨g0, g1, g2, g3, g4, g5, g6, g7, g8, g9, g10⟩ := h
 exact (fun y hy => Bd_of_Sent (g5.2 y hy))
structure GExport where
 Pos : Int
 Entity : Int
 Count : Int
def zExport : GExport := ⟨0, 0, 0⟩
def j4 (_ : GExport) : Nat := 0
def oN (x : GExport) : Prop := (Lit.int .i64 x.Pos).wf = true ∧ (Lit.int .i64 x.Entity).wf = true ∧ (Lit.int .i64 x.Count).wf = true
structure GQuestion where
 Id : Int
 Promise : Int
def lY : GQuestion := ⟨0, 0⟩
def iH (_ : GQuestion) : Nat := 0
def gQ (x : GQuestion) : Prop := (Lit.int .i64 x.Id).wf = true ∧ (Lit.int .i64 x.Promise).wf = true
structure GLink where
 dZ : Int
 Up : Bool
 aW : List GExport
 Next : Int
 bF : List GQuestion
 iO : Int
 cB : List GQuestion
def zLink : GLink := ⟨0, false, [], 0, [], 0, []⟩
def iC (x : GLink) : Nat := dF j4 x.aW + dF iH x.bF + dF iH x.cB
def Gd_Link (x : GLink) : Prop := (Lit.int .i64 x.dZ).wf = true ∧ True ∧ (x.aW.length ≤ 9223372036854775807 ∧ ∀ y ∈ x.aW, oN y) ∧ (Lit.int .i64 x.Next).wf = true ∧ (x.bF.length ≤ 9223372036854775807 ∧ ∀ y ∈ x.bF, gQ y) ∧ (Lit.int .i64 x.iO).wf = true ∧ (x.cB.length ≤ 9223372036854775807 ∧ ∀ y ∈ x.cB, gQ y)
structure GWire where
 Kind : Int
 N : Int
def zWire : GWire := ⟨0, 0⟩
def lK (_ : GWire) : Nat := 0
def jF (x : GWire) : Prop := (Lit.int .i64 x.Kind).wf = true ∧ (Lit.int .i64 x.N).wf = true
structure GMessage where
 Kind : Int
 Pos : Int
 dH : Int
 Question : Int
 Name : ByteArray
 bD : List GWire
 Value : GWire
 Count : Int
 Tag : GTag
def nN : GMessage := ⟨0, 0, 0, 0, ⟨#[]⟩, [], zWire, 0, zTag⟩
def fG (x : GMessage) : Nat := x.Name.size + dF lK x.bD
def mQ (x : GMessage) : Prop := x.Name.size ≤ 9223372036854775807
def j5 (x : GMessage) : Prop := (Lit.int .i64 x.Kind).wf = true ∧ (Lit.int .i64 x.Pos).wf = true ∧ (Lit.int .i64 x.dH).wf = true ∧ (Lit.int .i64 x.Question).wf = true ∧ x.Name.size ≤ 9223372036854775807 ∧ (x.bD.length ≤ 9223372036854775807 ∧ ∀ y ∈ x.bD, jF y) ∧ jF x.Value ∧ (Lit.int .i64 x.Count).wf = true ∧ jH x.Tag
theorem Bd_of_Message {x : GMessage} (h : j5 x) : mQ x := by
 obtain ⟨g0, g1, g2, g3, g4, g5, g6, g7, g8⟩ := h
 exact g4
structure GOutgoing where
 To : Int
 Message : GMessage
def mR : GOutgoing := ⟨0, nN⟩
def fM (x : GOutgoing) : Nat := fG x.Message
def nO (x : GOutgoing) : Prop := mQ x.Message
def jX (x : GOutgoing) : Prop := (Lit.int .i64 x.To).wf = true ∧ j5 x.Message
theorem Bd_of_Outgoing {x : GOutgoing} (h : jX x) : nO x := by
 obtain ⟨g0, g1⟩ := h
 exact Bd_of_Message g1
structure GVat where
 Id : Int
 aT : List GEntity
 Loop : List GSent
 bZ : List GLink
 Out : List GOutgoing
def zVat : GVat := ⟨0, [], [], [], []⟩
def iI (x : GVat) : Nat := dF fP x.aT + dF iF x.Loop + dF iC x.bZ + dF fM x.Out
def Bd_Vat (x : GVat) : Prop := (∀ y ∈ x.aT, Bd_Entity y) ∧ (∀ y ∈ x.Loop, Bd_Sent y) ∧ (∀ y ∈ x.Out, nO y)
def Gd_Vat (x : GVat) : Prop := (Lit.int .i64 x.Id).wf = true ∧ (x.aT.length ≤ 9223372036854775807 ∧ ∀ y ∈ x.aT, oM y) ∧ (x.Loop.length ≤ 9223372036854775807 ∧ ∀ y ∈ x.Loop, j3 y) ∧ (x.bZ.length ≤ 9223372036854775807 ∧ ∀ y ∈ x.bZ, Gd_Link y) ∧ (x.Out.length ≤ 9223372036854775807 ∧ ∀ y ∈ x.Out, jX y)
theorem Bd_of_Vat {x : GVat} (h : Gd_Vat x) : Bd_Vat x := by
 obtain ⟨g0, g1, g2, g3, g4⟩ := h
 exact ⟨(fun y hy => Bd_of_Entity (g1.2 y hy)), (fun y hy => Bd_of_Sent (g2.2 y hy)), (fun y hy => Bd_of_Outgoing (g4.2 y hy))⟩
structure GChannel where
 From : Int
 To : Int
 List : List GMessage
def oO : GChannel := ⟨0, 0, []⟩
def gL (x : GChannel) : Nat := dF fG x.List
def oP (x : GChannel) : Prop := (∀ y ∈ x.List, mQ y)
def lV (x : GChannel) : Prop := (Lit.int .i64 x.From).wf = true ∧ (Lit.int .i64 x.To).wf = true ∧ (x.List.length ≤ 9223372036854775807 ∧ ∀ y ∈ x.List, j5 y)
theorem Bd_of_Channel {x : GChannel} (h : lV x) : oP x := by
 obtain ⟨g0, g1, g2⟩ := h
 exact (fun y hy => Bd_of_Message (g2.2 y hy))
structure GNote where
 Kind : Int
 Vat : Int
 Entity : Int
 Tag : GTag
def zNote : GNote := ⟨0, 0, 0, zTag⟩
def mG (_ : GNote) : Nat := 0
def Gd_Note (x : GNote) : Prop := (Lit.int .i64 x.Kind).wf = true ∧ (Lit.int .i64 x.Vat).wf = true ∧ (Lit.int .i64 x.Entity).wf = true ∧ jH x.Tag
structure GWorld where
 bE : List GScript
 eT : List GVat
 bH : List GChannel
 bK : List GNote
 eO : Int
def iR (x : GWorld) : Nat := dF gU x.bE + dF iI x.eT + dF gL x.bH + dF mG x.bK
def Bd_World (x : GWorld) : Prop := (∀ y ∈ x.bE, Bd_Script y) ∧ (∀ y ∈ x.eT, Bd_Vat y) ∧ (∀ y ∈ x.bH, oP y)
def Gd_World (x : GWorld) : Prop := (x.bE.length ≤ 9223372036854775807 ∧ ∀ y ∈ x.bE, Gd_Script y) ∧ (x.eT.length ≤ 9223372036854775807 ∧ ∀ y ∈ x.eT, Gd_Vat y) ∧ (x.bH.length ≤ 9223372036854775807 ∧ ∀ y ∈ x.bH, lV y) ∧ (x.bK.length ≤ 9223372036854775807 ∧ ∀ y ∈ x.bK, Gd_Note y) ∧ (Lit.int .i64 x.eO).wf = true
theorem Bd_of_World {x : GWorld} (h : Gd_World x) : Bd_World x := by
 obtain ⟨g0, g1, g2, g3, g4⟩ := h
 exact ⟨(fun y hy => Bd_of_Script (g0.2 y hy)), (fun y hy => Bd_of_Vat (g1.2 y hy)), (fun y hy => Bd_of_Channel (g2.2 y hy))⟩
end Go.Proofs.YtgaoabnnpjngcaaGreatT
namespace Go.Proofs.YtgaoabnnpjngcaaGreatK
open Go.RowKit Go.Proofs.YtgaoabnnpjngcaaGreatSep Go.Proofs.YtgaoabnnpjngcaaGreatT
def jT : Kn GInstr := Kn.iso (Kn.pair Kn.int (Kn.pair Kn.int (Kn.pair Kn.int (Kn.pair Kn.int (Kn.pair Kn.int Kn.string))))) (fun x => (x.Op, x.A, x.B, x.C, x.D, x.Name))
theorem kl_Instr_K {w : World} {x : GInstr} {cs : List Value} (h : jT.K w x cs) : cs = [.int .i64 x.Op, .int .i64 x.A, .int .i64 x.B, .int .i64 x.C, .int .i64 x.D, .string x.Name] := by
 obtain ⟨_, _, rfl, rfl, ⟨_, _, rfl, rfl, ⟨_, _, rfl, rfl, ⟨_, _, rfl, rfl, ⟨_, _, rfl, rfl, rfl⟩⟩⟩⟩⟩ := h
 exact rfl
theorem kl_Instr_at {w : World} {A : Option Addr} {l : List GInstr} (h : C jT w A l) (i : Nat) (hi : i < l.length) : ∃ (ad : Addr), A = some ad ∧ w.cell? (ad.add (i * 6)) = some (.int .i64 l[i].Op) ∧ w.cell? ⟨(ad.add (i * 6)).block, (ad.add (i * 6)).off + 1, none⟩ = some (.int .i64 l[i].A) ∧ w.cell? ⟨(ad.add (i * 6)).block, (ad.add (i * 6)).off + 2, none⟩ = some (.int .i64 l[i].B) ∧ w.cell? ⟨(ad.add (i * 6)).block, (ad.add (i * 6)).off + 3, none⟩ = some (.int .i64 l[i].C) ∧ w.cell? ⟨(ad.add (i * 6)).block, (ad.add (i * 6)).off + 4, none⟩ = some (.int .i64 l[i].D) ∧ w.cell? ⟨(ad.add (i * 6)).block, (ad.add (i * 6)).off + 5, none⟩ = some (.string l[i].Name) := by
 obtain ⟨ad, c, h1, h2, h3, h4⟩ := C_at h i hi
 obtain rfl := kl_Instr_K h2
 exact ⟨ad, h1, h3 _ rfl, h4 0 _ rfl, h4 1 _ rfl, h4 2 _ rfl, h4 3 _ rfl, h4 4 _ rfl⟩
def fU : Kn GInstr := Kn.iso (Kn.pair Kn.int (Kn.pair Kn.int (Kn.pair Kn.int (Kn.pair Kn.int (Kn.pair Kn.int Kn.string))))) (fun x => (x.Op, x.A, x.B, x.C, x.D, x.Name))
theorem kN {w : World} {x : GInstr} {cs : List Value} (h : fU.K w x cs) : cs = [.int .i64 x.Op, .int .i64 x.A, .int .i64 x.B, .int .i64 x.C, .int .i64 x.D, .string x.Name] := by
 obtain ⟨_, _, rfl, rfl, ⟨_, _, rfl, rfl, ⟨_, _, rfl, rfl, ⟨_, _, rfl, rfl, ⟨_, _, rfl, rfl, rfl⟩⟩⟩⟩⟩ := h
 exact rfl
theorem ki_Instr_at {w : World} {A : Option Addr} {l : List GInstr} (h : C fU w A l) (i : Nat) (hi : i < l.length) : ∃ (ad : Addr), A = some ad ∧ w.cell? (ad.add (i * 6)) = some (.int .i64 l[i].Op) ∧ w.cell? ⟨(ad.add (i * 6)).block, (ad.add (i * 6)).off + 1, none⟩ = some (.int .i64 l[i].A) ∧ w.cell? ⟨(ad.add (i * 6)).block, (ad.add (i * 6)).off + 2, none⟩ = some (.int .i64 l[i].B) ∧ w.cell? ⟨(ad.add (i * 6)).block, (ad.add (i * 6)).off + 3, none⟩ = some (.int .i64 l[i].C) ∧ w.cell? ⟨(ad.add (i * 6)).block, (ad.add (i * 6)).off + 4, none⟩ = some (.int .i64 l[i].D) ∧ w.cell? ⟨(ad.add (i * 6)).block, (ad.add (i * 6)).off + 5, none⟩ = some (.string l[i].Name) := by
 obtain ⟨ad, c, h1, h2, h3, h4⟩ := C_at h i hi
 obtain rfl := kN h2
 exact ⟨ad, h1, h3 _ rfl, h4 0 _ rfl, h4 1 _ rfl, h4 2 _ rfl, h4 3 _ rfl, h4 4 _ rfl⟩
theorem ki_Instr_M {w : World} {F : Nat → Prop} {x : GInstr} {cs : List Value} (h : fU.M w F x cs) : cs = [.int .i64 x.Op, .int .i64 x.A, .int .i64 x.B, .int .i64 x.C, .int .i64 x.D, .string x.Name] := by
 exact kN (fU.kL h)
theorem ki_Instr_mk (w : World) (F : Nat → Prop) (x : GInstr) : fU.M w F x [.int .i64 x.Op, .int .i64 x.A, .int .i64 x.B, .int .i64 x.C, .int .i64 x.D, .string x.Name] :=
 ⟨[_], [_, _, _, _, _], No, No, rfl, rfl, ⟨[_], [_, _, _, _], No, No, rfl, rfl, ⟨[_], [_, _, _], No, No, rfl, rfl, ⟨[_], [_, _], No, No, rfl, rfl, ⟨[_], [_], No, No, rfl, rfl, rfl, fun _ h => h.elim, fun _ h => h.elim, fun _ h => h.elim⟩, fun _ h => h.elim, fun _ h => h.elim, fun _ h => h.elim⟩, fun _ h => h.elim, fun _ h => h.elim, fun _ h => h.elim⟩, fun _ h => h.elim, fun _ h => h.elim, fun _ h => h.elim⟩, fun _ h => h.elim, fun _ h => h.elim, fun _ h => h.elim⟩
theorem ki_Instr_info : (Tryz.prog.info? 124).map (fun i => (i.zero, i.size, i.bytes)) = some (some (.agg #[.int .i64 0, .int .i64 0, .int .i64 0, .int .i64 0, .int .i64 0, .string ⟨#[]⟩]), 6, 56) := by kernel_rfl
theorem ki_Instr_zero (w : World) : fU.M w No zInstr [.int .i64 0, .int .i64 0, .int .i64 0, .int .i64 0, .int .i64 0, .string ⟨#[]⟩] := ki_Instr_mk w No zInstr
def jC : Kn GMethod := Kn.iso (Kn.pair Kn.string (Kn.slice 244 jT)) (fun x => (x.Name, x.Code))
theorem kl_Method_K {w : World} {x : GMethod} {cs : List Value} (h : jC.K w x cs) : ∃ (A1 : Option Addr) (c1 : Nat), cs = [.string x.Name, .slice A1 x.Code.length c1] ∧ x.Code.length ≤ c1 ∧ C jT w A1 x.Code := by
 obtain ⟨_, _, rfl, rfl, ⟨A1, c1, rfl, hl1, hC1⟩⟩ := h
 exact ⟨A1, c1, rfl, hl1, hC1⟩
theorem kl_Method_at {w : World} {A : Option Addr} {l : List GMethod} (h : C jC w A l) (i : Nat) (hi : i < l.length) : ∃ (ad : Addr) (A1 : Option Addr) (c1 : Nat), A = some ad ∧ w.cell? (ad.add (i * 2)) = some (.string l[i].Name) ∧ w.cell? ⟨(ad.add (i * 2)).block, (ad.add (i * 2)).off + 1, none⟩ = some (.slice A1 l[i].Code.length c1) ∧ l[i].Code.length ≤ c1 ∧ C jT w A1 l[i].Code := by
 obtain ⟨ad, c, h1, h2, h3, h4⟩ := C_at h i hi
 obtain ⟨A1, c1, rfl, hl1, hC1⟩ := kl_Method_K h2
 exact ⟨ad, A1, c1, h1, h3 _ rfl, h4 0 _ rfl, hl1, hC1⟩
def eD : Kn GMethod := Kn.iso (Kn.pair Kn.string (Kn.slice 124 fU)) (fun x => (x.Name, x.Code))
theorem kP {w : World} {x : GMethod} {cs : List Value} (h : eD.K w x cs) : ∃ (A1 : Option Addr) (c1 : Nat), cs = [.string x.Name, .slice A1 x.Code.length c1] ∧ x.Code.length ≤ c1 ∧ C fU w A1 x.Code := by
 obtain ⟨_, _, rfl, rfl, ⟨A1, c1, rfl, hl1, hC1⟩⟩ := h
 exact ⟨A1, c1, rfl, hl1, hC1⟩
theorem ki_Method_at {w : World} {A : Option Addr} {l : List GMethod} (h : C eD w A l) (i : Nat) (hi : i < l.length) : ∃ (ad : Addr) (A1 : Option Addr) (c1 : Nat), A = some ad ∧ w.cell? (ad.add (i * 2)) = some (.string l[i].Name) ∧ w.cell? ⟨(ad.add (i * 2)).block, (ad.add (i * 2)).off + 1, none⟩ = some (.slice A1 l[i].Code.length c1) ∧ l[i].Code.length ≤ c1 ∧ C fU w A1 l[i].Code := by
 obtain ⟨ad, c, h1, h2, h3, h4⟩ := C_at h i hi
 obtain ⟨A1, c1, rfl, hl1, hC1⟩ := kP h2
 exact ⟨ad, A1, c1, h1, h3 _ rfl, h4 0 _ rfl, hl1, hC1⟩
theorem ki_Method_M {w : World} {F : Nat → Prop} {x : GMethod} {cs : List Value} (h : eD.M w F x cs) : ∃ (v1 : Value) (P1 : Nat → Prop), cs = [.string x.Name, v1] ∧ R fU 124 w P1 v1 x.Code ∧ (∀ k, P1 k → F k) := by
 obtain ⟨_, _, F0, G0, rfl, rfl, ⟨v1, rfl, hR1⟩, a0, b0, d0⟩ := h
 exact ⟨v1, G0, rfl, hR1, fun k hk => (b0 k hk)⟩
theorem ki_Method_mk (w : World) (F : Nat → Prop) (x : GMethod) {v1 : Value} {P1 : Nat → Prop} (h1 : R fU 124 w P1 v1 x.Code) (i1 : ∀ k, P1 k → F k) : eD.M w F x [.string x.Name, v1] :=
 ⟨[_], [_], No, P1, rfl, rfl, ⟨_, rfl, h1⟩, fun _ h => h.elim, i1, fun _ h => h.elim⟩
theorem ki_Method_info : (Tryz.prog.info? 122).map (fun i => (i.zero, i.size, i.bytes)) = some (some (.agg #[.string ⟨#[]⟩, .slice none 0 0]), 2, 40) := by kernel_rfl
theorem ki_Method_zero (w : World) : eD.M w No zMethod [.string ⟨#[]⟩, .slice none 0 0] := ki_Method_mk w No zMethod (P1 := No) R_nil (fun _ h => h)
def jU : Kn GScript := Kn.iso (Kn.pair Kn.string (Kn.slice 198 jC)) (fun x => (x.Name, x.Methods))
theorem kl_Script_K {w : World} {x : GScript} {cs : List Value} (h : jU.K w x cs) : ∃ (A1 : Option Addr) (c1 : Nat), cs = [.string x.Name, .slice A1 x.Methods.length c1] ∧ x.Methods.length ≤ c1 ∧ C jC w A1 x.Methods := by
 obtain ⟨_, _, rfl, rfl, ⟨A1, c1, rfl, hl1, hC1⟩⟩ := h
 exact ⟨A1, c1, rfl, hl1, hC1⟩
theorem kl_Script_at {w : World} {A : Option Addr} {l : List GScript} (h : C jU w A l) (i : Nat) (hi : i < l.length) : ∃ (ad : Addr) (A1 : Option Addr) (c1 : Nat), A = some ad ∧ w.cell? (ad.add (i * 2)) = some (.string l[i].Name) ∧ w.cell? ⟨(ad.add (i * 2)).block, (ad.add (i * 2)).off + 1, none⟩ = some (.slice A1 l[i].Methods.length c1) ∧ l[i].Methods.length ≤ c1 ∧ C jC w A1 l[i].Methods := by
 obtain ⟨ad, c, h1, h2, h3, h4⟩ := C_at h i hi
 obtain ⟨A1, c1, rfl, hl1, hC1⟩ := kl_Script_K h2
 exact ⟨ad, A1, c1, h1, h3 _ rfl, h4 0 _ rfl, hl1, hC1⟩
def eU : Kn GScript := Kn.iso (Kn.pair Kn.string (Kn.slice 122 eD)) (fun x => (x.Name, x.Methods))
theorem kQ {w : World} {x : GScript} {cs : List Value} (h : eU.K w x cs) : ∃ (A1 : Option Addr) (c1 : Nat), cs = [.string x.Name, .slice A1 x.Methods.length c1] ∧ x.Methods.length ≤ c1 ∧ C eD w A1 x.Methods := by
 obtain ⟨_, _, rfl, rfl, ⟨A1, c1, rfl, hl1, hC1⟩⟩ := h
 exact ⟨A1, c1, rfl, hl1, hC1⟩
theorem ki_Script_at {w : World} {A : Option Addr} {l : List GScript} (h : C eU w A l) (i : Nat) (hi : i < l.length) : ∃ (ad : Addr) (A1 : Option Addr) (c1 : Nat), A = some ad ∧ w.cell? (ad.add (i * 2)) = some (.string l[i].Name) ∧ w.cell? ⟨(ad.add (i * 2)).block, (ad.add (i * 2)).off + 1, none⟩ = some (.slice A1 l[i].Methods.length c1) ∧ l[i].Methods.length ≤ c1 ∧ C eD w A1 l[i].Methods := by
 obtain ⟨ad, c, h1, h2, h3, h4⟩ := C_at h i hi
 obtain ⟨A1, c1, rfl, hl1, hC1⟩ := kQ h2
 exact ⟨ad, A1, c1, h1, h3 _ rfl, h4 0 _ rfl, hl1, hC1⟩
theorem ki_Script_M {w : World} {F : Nat → Prop} {x : GScript} {cs : List Value} (h : eU.M w F x cs) : ∃ (v1 : Value) (P1 : Nat → Prop), cs = [.string x.Name, v1] ∧ R eD 122 w P1 v1 x.Methods ∧ (∀ k, P1 k → F k) := by
 obtain ⟨_, _, F0, G0, rfl, rfl, ⟨v1, rfl, hR1⟩, a0, b0, d0⟩ := h
 exact ⟨v1, G0, rfl, hR1, fun k hk => (b0 k hk)⟩
theorem ki_Script_mk (w : World) (F : Nat → Prop) (x : GScript) {v1 : Value} {P1 : Nat → Prop} (h1 : R eD 122 w P1 v1 x.Methods) (i1 : ∀ k, P1 k → F k) : eU.M w F x [.string x.Name, v1] :=
 ⟨[_], [_], No, P1, rfl, rfl, ⟨_, rfl, h1⟩, fun _ h => h.elim, i1, fun _ h => h.elim⟩
theorem ki_Script_info : (Tryz.prog.info? 73).map (fun i => (i.zero, i.size, i.bytes)) = some (some (.agg #[.string ⟨#[]⟩, .slice none 0 0]), 2, 40) := by kernel_rfl
theorem ki_Script_zero (w : World) : eU.M w No zScript [.string ⟨#[]⟩, .slice none 0 0] := ki_Script_mk w No zScript (P1 := No) R_nil (fun _ h => h)
def iJ : Kn GValue := Kn.iso (Kn.pair Kn.int Kn.int) (fun x => (x.Kind, x.N))
theorem kl_Value_K {w : World} {x : GValue} {cs : List Value} (h : iJ.K w x cs) : cs = [.int .i64 x.Kind, .int .i64 x.N] := by
 obtain ⟨_, _, rfl, rfl, rfl⟩ := h
 exact rfl
theorem kl_Value_at {w : World} {A : Option Addr} {l : List GValue} (h : C iJ w A l) (i : Nat) (hi : i < l.length) : ∃ (ad : Addr), A = some ad ∧ w.cell? (ad.add (i * 2)) = some (.int .i64 l[i].Kind) ∧ w.cell? ⟨(ad.add (i * 2)).block, (ad.add (i * 2)).off + 1, none⟩ = some (.int .i64 l[i].N) := by
 obtain ⟨ad, c, h1, h2, h3, h4⟩ := C_at h i hi
 obtain rfl := kl_Value_K h2
 exact ⟨ad, h1, h3 _ rfl, h4 0 _ rfl⟩
def dY : Kn GValue := Kn.iso (Kn.pair Kn.int Kn.int) (fun x => (x.Kind, x.N))
theorem j6 {w : World} {x : GValue} {cs : List Value} (h : dY.K w x cs) : cs = [.int .i64 x.Kind, .int .i64 x.N] := by
 obtain ⟨_, _, rfl, rfl, rfl⟩ := h
 exact rfl
theorem ki_Value_at {w : World} {A : Option Addr} {l : List GValue} (h : C dY w A l) (i : Nat) (hi : i < l.length) : ∃ (ad : Addr), A = some ad ∧ w.cell? (ad.add (i * 2)) = some (.int .i64 l[i].Kind) ∧ w.cell? ⟨(ad.add (i * 2)).block, (ad.add (i * 2)).off + 1, none⟩ = some (.int .i64 l[i].N) := by
 obtain ⟨ad, c, h1, h2, h3, h4⟩ := C_at h i hi
 obtain rfl := j6 h2
 exact ⟨ad, h1, h3 _ rfl, h4 0 _ rfl⟩
theorem ki_Value_M {w : World} {F : Nat → Prop} {x : GValue} {cs : List Value} (h : dY.M w F x cs) : cs = [.int .i64 x.Kind, .int .i64 x.N] := by
 exact j6 (dY.kL h)
theorem oW (w : World) (F : Nat → Prop) (x : GValue) : dY.M w F x [.int .i64 x.Kind, .int .i64 x.N] :=
 ⟨[_], [_], No, No, rfl, rfl, rfl, fun _ h => h.elim, fun _ h => h.elim, fun _ h => h.elim⟩
theorem ki_Value_info : (Tryz.prog.info? 129).map (fun i => (i.zero, i.size, i.bytes)) = some (some (.agg #[.int .i64 0, .int .i64 0]), 2, 16) := by kernel_rfl
theorem ki_Value_zero (w : World) : dY.M w No zValue [.int .i64 0, .int .i64 0] := oW w No zValue
def kl_Tag : Kn GTag := Kn.iso (Kn.pair Kn.int (Kn.pair Kn.int Kn.int)) (fun x => (x.Vat, x.Entity, x.Seq))
theorem kl_Tag_K {w : World} {x : GTag} {cs : List Value} (h : kl_Tag.K w x cs) : cs = [.int .i64 x.Vat, .int .i64 x.Entity, .int .i64 x.Seq] := by
 obtain ⟨_, _, rfl, rfl, ⟨_, _, rfl, rfl, rfl⟩⟩ := h
 exact rfl
def ki_Tag : Kn GTag := Kn.iso (Kn.pair Kn.int (Kn.pair Kn.int Kn.int)) (fun x => (x.Vat, x.Entity, x.Seq))
theorem ki_Tag_K {w : World} {x : GTag} {cs : List Value} (h : ki_Tag.K w x cs) : cs = [.int .i64 x.Vat, .int .i64 x.Entity, .int .i64 x.Seq] := by
 obtain ⟨_, _, rfl, rfl, ⟨_, _, rfl, rfl, rfl⟩⟩ := h
 exact rfl
theorem ki_Tag_M {w : World} {F : Nat → Prop} {x : GTag} {cs : List Value} (h : ki_Tag.M w F x cs) : cs = [.int .i64 x.Vat, .int .i64 x.Entity, .int .i64 x.Seq] := by
 exact ki_Tag_K (ki_Tag.kL h)
theorem ki_Tag_mk (w : World) (F : Nat → Prop) (x : GTag) : ki_Tag.M w F x [.int .i64 x.Vat, .int .i64 x.Entity, .int .i64 x.Seq] :=
 ⟨[_], [_, _], No, No, rfl, rfl, ⟨[_], [_], No, No, rfl, rfl, rfl, fun _ h => h.elim, fun _ h => h.elim, fun _ h => h.elim⟩, fun _ h => h.elim, fun _ h => h.elim, fun _ h => h.elim⟩
def jG : Kn GSent := Kn.iso (Kn.pair Kn.int (Kn.pair Kn.string (Kn.pair (Kn.slice 201 iJ) (Kn.pair Kn.int kl_Tag)))) (fun x => (x.Target, x.Name, x.bD, x.Result, x.Tag))
theorem kl_Sent_K {w : World} {x : GSent} {cs : List Value} (h : jG.K w x cs) : ∃ (A2 : Option Addr) (c2 : Nat), cs = [.int .i64 x.Target, .string x.Name, .slice A2 x.bD.length c2, .int .i64 x.Result, .int .i64 x.Tag.Vat, .int .i64 x.Tag.Entity, .int .i64 x.Tag.Seq] ∧ x.bD.length ≤ c2 ∧ C iJ w A2 x.bD := by
 obtain ⟨_, _, rfl, rfl, ⟨_, _, rfl, rfl, ⟨_, _, rfl, ⟨A2, c2, rfl, hl2, hC2⟩, ⟨_, _, rfl, rfl, s_Tag⟩⟩⟩⟩ := h
 obtain rfl := kl_Tag_K s_Tag
 exact ⟨A2, c2, rfl, hl2, hC2⟩
theorem kl_Sent_at {w : World} {A : Option Addr} {l : List GSent} (h : C jG w A l) (i : Nat) (hi : i < l.length) : ∃ (ad : Addr) (A2 : Option Addr) (c2 : Nat), A = some ad ∧ w.cell? (ad.add (i * 7)) = some (.int .i64 l[i].Target) ∧ w.cell? ⟨(ad.add (i * 7)).block, (ad.add (i * 7)).off + 1, none⟩ = some (.string l[i].Name) ∧ w.cell? ⟨(ad.add (i * 7)).block, (ad.add (i * 7)).off + 2, none⟩ = some (.slice A2 l[i].bD.length c2) ∧ w.cell? ⟨(ad.add (i * 7)).block, (ad.add (i * 7)).off + 3, none⟩ = some (.int .i64 l[i].Result) ∧ w.cell? ⟨(ad.add (i * 7)).block, (ad.add (i * 7)).off + 4, none⟩ = some (.int .i64 l[i].Tag.Vat) ∧ w.cell? ⟨(ad.add (i * 7)).block, (ad.add (i * 7)).off + 5, none⟩ = some (.int .i64 l[i].Tag.Entity) ∧ w.cell? ⟨(ad.add (i * 7)).block, (ad.add (i * 7)).off + 6, none⟩ = some (.int .i64 l[i].Tag.Seq) ∧ l[i].bD.length ≤ c2 ∧ C iJ w A2 l[i].bD := by
 obtain ⟨ad, c, h1, h2, h3, h4⟩ := C_at h i hi
 obtain ⟨A2, c2, rfl, hl2, hC2⟩ := kl_Sent_K h2
 exact ⟨ad, A2, c2, h1, h3 _ rfl, h4 0 _ rfl, h4 1 _ rfl, h4 2 _ rfl, h4 3 _ rfl, h4 4 _ rfl, h4 5 _ rfl, hl2, hC2⟩
def eX : Kn GSent := Kn.iso (Kn.pair Kn.int (Kn.pair Kn.string (Kn.pair (Kn.slice 129 dY) (Kn.pair Kn.int ki_Tag)))) (fun x => (x.Target, x.Name, x.bD, x.Result, x.Tag))
theorem mU {w : World} {x : GSent} {cs : List Value} (h : eX.K w x cs) : ∃ (A2 : Option Addr) (c2 : Nat), cs = [.int .i64 x.Target, .string x.Name, .slice A2 x.bD.length c2, .int .i64 x.Result, .int .i64 x.Tag.Vat, .int .i64 x.Tag.Entity, .int .i64 x.Tag.Seq] ∧ x.bD.length ≤ c2 ∧ C dY w A2 x.bD := by
 obtain ⟨_, _, rfl, rfl, ⟨_, _, rfl, rfl, ⟨_, _, rfl, ⟨A2, c2, rfl, hl2, hC2⟩, ⟨_, _, rfl, rfl, s_Tag⟩⟩⟩⟩ := h
 obtain rfl := ki_Tag_K s_Tag
 exact ⟨A2, c2, rfl, hl2, hC2⟩
theorem ki_Sent_at {w : World} {A : Option Addr} {l : List GSent} (h : C eX w A l) (i : Nat) (hi : i < l.length) : ∃ (ad : Addr) (A2 : Option Addr) (c2 : Nat), A = some ad ∧ w.cell? (ad.add (i * 7)) = some (.int .i64 l[i].Target) ∧ w.cell? ⟨(ad.add (i * 7)).block, (ad.add (i * 7)).off + 1, none⟩ = some (.string l[i].Name) ∧ w.cell? ⟨(ad.add (i * 7)).block, (ad.add (i * 7)).off + 2, none⟩ = some (.slice A2 l[i].bD.length c2) ∧ w.cell? ⟨(ad.add (i * 7)).block, (ad.add (i * 7)).off + 3, none⟩ = some (.int .i64 l[i].Result) ∧ w.cell? ⟨(ad.add (i * 7)).block, (ad.add (i * 7)).off + 4, none⟩ = some (.int .i64 l[i].Tag.Vat) ∧ w.cell? ⟨(ad.add (i * 7)).block, (ad.add (i * 7)).off + 5, none⟩ = some (.int .i64 l[i].Tag.Entity) ∧ w.cell? ⟨(ad.add (i * 7)).block, (ad.add (i * 7)).off + 6, none⟩ = some (.int .i64 l[i].Tag.Seq) ∧ l[i].bD.length ≤ c2 ∧ C dY w A2 l[i].bD := by
 obtain ⟨ad, c, h1, h2, h3, h4⟩ := C_at h i hi
 obtain ⟨A2, c2, rfl, hl2, hC2⟩ := mU h2
 exact ⟨ad, A2, c2, h1, h3 _ rfl, h4 0 _ rfl, h4 1 _ rfl, h4 2 _ rfl, h4 3 _ rfl, h4 4 _ rfl, h4 5 _ rfl, hl2, hC2⟩
theorem ki_Sent_M {w : World} {F : Nat → Prop} {x : GSent} {cs : List Value} (h : eX.M w F x cs) : ∃ (v2 : Value) (P2 : Nat → Prop), cs = [.int .i64 x.Target, .string x.Name, v2, .int .i64 x.Result, .int .i64 x.Tag.Vat, .int .i64 x.Tag.Entity, .int .i64 x.Tag.Seq] ∧ R dY 129 w P2 v2 x.bD ∧ (∀ k, P2 k → F k) := by
 obtain ⟨_, _, F0, G0, rfl, rfl, ⟨_, _, F1, G1, rfl, rfl, ⟨_, _, F2, G2, rfl, ⟨v2, rfl, hR2⟩, ⟨_, _, F3, G3, rfl, rfl, s4, a3, b3, d3⟩, a2, b2, d2⟩, a1, b1, d1⟩, a0, b0, d0⟩ := h
 obtain rfl := ki_Tag_M s4
 exact ⟨v2, F2, rfl, hR2, fun k hk => (b0 k (b1 k (a2 k hk)))⟩
theorem ki_Sent_mk (w : World) (F : Nat → Prop) (x : GSent) {v2 : Value} {P2 : Nat → Prop} (h2 : R dY 129 w P2 v2 x.bD) (i2 : ∀ k, P2 k → F k) : eX.M w F x [.int .i64 x.Target, .string x.Name, v2, .int .i64 x.Result, .int .i64 x.Tag.Vat, .int .i64 x.Tag.Entity, .int .i64 x.Tag.Seq] :=
 ⟨[_], [_, _, _, _, _, _], No, P2, rfl, rfl, ⟨[_], [_, _, _, _, _], No, P2, rfl, rfl, ⟨[_], [_, _, _, _], P2, No, rfl, ⟨_, rfl, h2⟩, ⟨[_], [_, _, _], No, No, rfl, rfl, (ki_Tag_mk w No _), fun _ h => h.elim, fun _ h => h.elim, fun _ h => h.elim⟩, fun _ h => h, fun _ h => h.elim, fun _ _ h => h.elim⟩, fun _ h => h.elim, fun _ h => h, fun _ h => h.elim⟩, fun _ h => h.elim, i2, fun _ h => h.elim⟩
theorem ki_Sent_info : (Tryz.prog.info? 178).map (fun i => (i.zero, i.size, i.bytes)) = some (some (.agg #[.int .i64 0, .string ⟨#[]⟩, .slice none 0 0, .int .i64 0, .int .i64 0, .int .i64 0, .int .i64 0]), 7, 80) := by kernel_rfl
theorem ki_Sent_zero (w : World) : eX.M w No zSent [.int .i64 0, .string ⟨#[]⟩, .slice none 0 0, .int .i64 0, .int .i64 0, .int .i64 0, .int .i64 0] := ki_Sent_mk w No zSent (P2 := No) R_nil (fun _ h => h)
def kH : Kn GAsker := Kn.iso (Kn.pair Kn.int Kn.int) (fun x => (x.dZ, x.Question))
theorem kl_Asker_K {w : World} {x : GAsker} {cs : List Value} (h : kH.K w x cs) : cs = [.int .i64 x.dZ, .int .i64 x.Question] := by
 obtain ⟨_, _, rfl, rfl, rfl⟩ := h
 exact rfl
theorem kl_Asker_at {w : World} {A : Option Addr} {l : List GAsker} (h : C kH w A l) (i : Nat) (hi : i < l.length) : ∃ (ad : Addr), A = some ad ∧ w.cell? (ad.add (i * 2)) = some (.int .i64 l[i].dZ) ∧ w.cell? ⟨(ad.add (i * 2)).block, (ad.add (i * 2)).off + 1, none⟩ = some (.int .i64 l[i].Question) := by
 obtain ⟨ad, c, h1, h2, h3, h4⟩ := C_at h i hi
 obtain rfl := kl_Asker_K h2
 exact ⟨ad, h1, h3 _ rfl, h4 0 _ rfl⟩
def fV : Kn GAsker := Kn.iso (Kn.pair Kn.int Kn.int) (fun x => (x.dZ, x.Question))
theorem kT {w : World} {x : GAsker} {cs : List Value} (h : fV.K w x cs) : cs = [.int .i64 x.dZ, .int .i64 x.Question] := by
 obtain ⟨_, _, rfl, rfl, rfl⟩ := h
 exact rfl
theorem ki_Asker_at {w : World} {A : Option Addr} {l : List GAsker} (h : C fV w A l) (i : Nat) (hi : i < l.length) : ∃ (ad : Addr), A = some ad ∧ w.cell? (ad.add (i * 2)) = some (.int .i64 l[i].dZ) ∧ w.cell? ⟨(ad.add (i * 2)).block, (ad.add (i * 2)).off + 1, none⟩ = some (.int .i64 l[i].Question) := by
 obtain ⟨ad, c, h1, h2, h3, h4⟩ := C_at h i hi
 obtain rfl := kT h2
 exact ⟨ad, h1, h3 _ rfl, h4 0 _ rfl⟩
theorem ki_Asker_M {w : World} {F : Nat → Prop} {x : GAsker} {cs : List Value} (h : fV.M w F x cs) : cs = [.int .i64 x.dZ, .int .i64 x.Question] := by
 exact kT (fV.kL h)
theorem ki_Asker_mk (w : World) (F : Nat → Prop) (x : GAsker) : fV.M w F x [.int .i64 x.dZ, .int .i64 x.Question] :=
 ⟨[_], [_], No, No, rfl, rfl, rfl, fun _ h => h.elim, fun _ h => h.elim, fun _ h => h.elim⟩
theorem ki_Asker_info : (Tryz.prog.info? 184).map (fun i => (i.zero, i.size, i.bytes)) = some (some (.agg #[.int .i64 0, .int .i64 0]), 2, 16) := by kernel_rfl
theorem ki_Asker_zero (w : World) : fV.M w No zAsker [.int .i64 0, .int .i64 0] := ki_Asker_mk w No zAsker
def jD : Kn GEntity := Kn.iso (Kn.pair Kn.int (Kn.pair Kn.int (Kn.pair (Kn.slice 201 iJ) (Kn.pair Kn.int (Kn.pair iJ (Kn.pair (Kn.slice 207 jG) (Kn.pair (Kn.slice 247 kH) (Kn.pair Kn.int (Kn.pair Kn.int (Kn.pair Kn.int Kn.int)))))))))) (fun x => (x.Kind, x.Script, x.eB, x.State, x.Value, x.Queue, x.bJ, x.dZ, x.Pos, x.Count, x.Sent))
theorem kl_Entity_K {w : World} {x : GEntity} {cs : List Value} (h : jD.K w x cs) : ∃ (A2 : Option Addr) (c2 : Nat) (A6 : Option Addr) (c6 : Nat) (A7 : Option Addr) (c7 : Nat), cs = [.int .i64 x.Kind, .int .i64 x.Script, .slice A2 x.eB.length c2, .int .i64 x.State, .int .i64 x.Value.Kind, .int .i64 x.Value.N, .slice A6 x.Queue.length c6, .slice A7 x.bJ.length c7, .int .i64 x.dZ, .int .i64 x.Pos, .int .i64 x.Count, .int .i64 x.Sent] ∧ x.eB.length ≤ c2 ∧ C iJ w A2 x.eB ∧ x.Queue.length ≤ c6 ∧ C jG w A6 x.Queue ∧ x.bJ.length ≤ c7 ∧ C kH w A7 x.bJ := by
 obtain ⟨_, _, rfl, rfl, ⟨_, _, rfl, rfl, ⟨_, _, rfl, ⟨A2, c2, rfl, hl2, hC2⟩, ⟨_, _, rfl, rfl, ⟨_, _, rfl, s_Value, ⟨_, _, rfl, ⟨A6, c6, rfl, hl6, hC6⟩, ⟨_, _, rfl, ⟨A7, c7, rfl, hl7, hC7⟩, ⟨_, _, rfl, rfl, ⟨_, _, rfl, rfl, ⟨_, _, rfl, rfl, rfl⟩⟩⟩⟩⟩⟩⟩⟩⟩⟩ := h
 obtain rfl := kl_Value_K s_Value
 exact ⟨A2, c2, A6, c6, A7, c7, rfl, hl2, hC2, hl6, hC6, hl7, hC7⟩
theorem kl_Entity_at {w : World} {A : Option Addr} {l : List GEntity} (h : C jD w A l) (i : Nat) (hi : i < l.length) : ∃ (ad : Addr) (A2 : Option Addr) (c2 : Nat) (A6 : Option Addr) (c6 : Nat) (A7 : Option Addr) (c7 : Nat), A = some ad ∧ w.cell? (ad.add (i * 12)) = some (.int .i64 l[i].Kind) ∧ w.cell? ⟨(ad.add (i * 12)).block, (ad.add (i * 12)).off + 1, none⟩ = some (.int .i64 l[i].Script) ∧ w.cell? ⟨(ad.add (i * 12)).block, (ad.add (i * 12)).off + 2, none⟩ = some (.slice A2 l[i].eB.length c2) ∧ w.cell? ⟨(ad.add (i * 12)).block, (ad.add (i * 12)).off + 3, none⟩ = some (.int .i64 l[i].State) ∧ w.cell? ⟨(ad.add (i * 12)).block, (ad.add (i * 12)).off + 4, none⟩ = some (.int .i64 l[i].Value.Kind) ∧ w.cell? ⟨(ad.add (i * 12)).block, (ad.add (i * 12)).off + 5, none⟩ = some (.int .i64 l[i].Value.N) ∧ w.cell? ⟨(ad.add (i * 12)).block, (ad.add (i * 12)).off + 6, none⟩ = some (.slice A6 l[i].Queue.length c6) ∧ w.cell? ⟨(ad.add (i * 12)).block, (ad.add (i * 12)).off + 7, none⟩ = some (.slice A7 l[i].bJ.length c7) ∧ w.cell? ⟨(ad.add (i * 12)).block, (ad.add (i * 12)).off + 8, none⟩ = some (.int .i64 l[i].dZ) ∧ w.cell? ⟨(ad.add (i * 12)).block, (ad.add (i * 12)).off + 9, none⟩ = some (.int .i64 l[i].Pos) ∧ w.cell? ⟨(ad.add (i * 12)).block, (ad.add (i * 12)).off + 10, none⟩ = some (.int .i64 l[i].Count) ∧ w.cell? ⟨(ad.add (i * 12)).block, (ad.add (i * 12)).off + 11, none⟩ = some (.int .i64 l[i].Sent) ∧ l[i].eB.length ≤ c2 ∧ C iJ w A2 l[i].eB ∧ l[i].Queue.length ≤ c6 ∧ C jG w A6 l[i].Queue ∧ l[i].bJ.length ≤ c7 ∧ C kH w A7 l[i].bJ := by
 obtain ⟨ad, c, h1, h2, h3, h4⟩ := C_at h i hi
 obtain ⟨A2, c2, A6, c6, A7, c7, rfl, hl2, hC2, hl6, hC6, hl7, hC7⟩ := kl_Entity_K h2
 exact ⟨ad, A2, c2, A6, c6, A7, c7, h1, h3 _ rfl, h4 0 _ rfl, h4 1 _ rfl, h4 2 _ rfl, h4 3 _ rfl, h4 4 _ rfl, h4 5 _ rfl, h4 6 _ rfl, h4 7 _ rfl, h4 8 _ rfl, h4 9 _ rfl, h4 10 _ rfl, hl2, hC2, hl6, hC6, hl7, hC7⟩
def dW : Kn GEntity := Kn.iso (Kn.pair Kn.int (Kn.pair Kn.int (Kn.pair (Kn.slice 129 dY) (Kn.pair Kn.int (Kn.pair dY (Kn.pair (Kn.slice 178 eX) (Kn.pair (Kn.slice 184 fV) (Kn.pair Kn.int (Kn.pair Kn.int (Kn.pair Kn.int Kn.int)))))))))) (fun x => (x.Kind, x.Script, x.eB, x.State, x.Value, x.Queue, x.bJ, x.dZ, x.Pos, x.Count, x.Sent))
theorem kU {w : World} {x : GEntity} {cs : List Value} (h : dW.K w x cs) : ∃ (A2 : Option Addr) (c2 : Nat) (A6 : Option Addr) (c6 : Nat) (A7 : Option Addr) (c7 : Nat), cs = [.int .i64 x.Kind, .int .i64 x.Script, .slice A2 x.eB.length c2, .int .i64 x.State, .int .i64 x.Value.Kind, .int .i64 x.Value.N, .slice A6 x.Queue.length c6, .slice A7 x.bJ.length c7, .int .i64 x.dZ, .int .i64 x.Pos, .int .i64 x.Count, .int .i64 x.Sent] ∧ x.eB.length ≤ c2 ∧ C dY w A2 x.eB ∧ x.Queue.length ≤ c6 ∧ C eX w A6 x.Queue ∧ x.bJ.length ≤ c7 ∧ C fV w A7 x.bJ := by
 obtain ⟨_, _, rfl, rfl, ⟨_, _, rfl, rfl, ⟨_, _, rfl, ⟨A2, c2, rfl, hl2, hC2⟩, ⟨_, _, rfl, rfl, ⟨_, _, rfl, s_Value, ⟨_, _, rfl, ⟨A6, c6, rfl, hl6, hC6⟩, ⟨_, _, rfl, ⟨A7, c7, rfl, hl7, hC7⟩, ⟨_, _, rfl, rfl, ⟨_, _, rfl, rfl, ⟨_, _, rfl, rfl, rfl⟩⟩⟩⟩⟩⟩⟩⟩⟩⟩ := h
 obtain rfl := j6 s_Value
 exact ⟨A2, c2, A6, c6, A7, c7, rfl, hl2, hC2, hl6, hC6, hl7, hC7⟩
theorem ki_Entity_at {w : World} {A : Option Addr} {l : List GEntity} (h : C dW w A l) (i : Nat) (hi : i < l.length) : ∃ (ad : Addr) (A2 : Option Addr) (c2 : Nat) (A6 : Option Addr) (c6 : Nat) (A7 : Option Addr) (c7 : Nat), A = some ad ∧ w.cell? (ad.add (i * 12)) = some (.int .i64 l[i].Kind) ∧ w.cell? ⟨(ad.add (i * 12)).block, (ad.add (i * 12)).off + 1, none⟩ = some (.int .i64 l[i].Script) ∧ w.cell? ⟨(ad.add (i * 12)).block, (ad.add (i * 12)).off + 2, none⟩ = some (.slice A2 l[i].eB.length c2) ∧ w.cell? ⟨(ad.add (i * 12)).block, (ad.add (i * 12)).off + 3, none⟩ = some (.int .i64 l[i].State) ∧ w.cell? ⟨(ad.add (i * 12)).block, (ad.add (i * 12)).off + 4, none⟩ = some (.int .i64 l[i].Value.Kind) ∧ w.cell? ⟨(ad.add (i * 12)).block, (ad.add (i * 12)).off + 5, none⟩ = some (.int .i64 l[i].Value.N) ∧ w.cell? ⟨(ad.add (i * 12)).block, (ad.add (i * 12)).off + 6, none⟩ = some (.slice A6 l[i].Queue.length c6) ∧ w.cell? ⟨(ad.add (i * 12)).block, (ad.add (i * 12)).off + 7, none⟩ = some (.slice A7 l[i].bJ.length c7) ∧ w.cell? ⟨(ad.add (i * 12)).block, (ad.add (i * 12)).off + 8, none⟩ = some (.int .i64 l[i].dZ) ∧ w.cell? ⟨(ad.add (i * 12)).block, (ad.add (i * 12)).off + 9, none⟩ = some (.int .i64 l[i].Pos) ∧ w.cell? ⟨(ad.add (i * 12)).block, (ad.add (i * 12)).off + 10, none⟩ = some (.int .i64 l[i].Count) ∧ w.cell? ⟨(ad.add (i * 12)).block, (ad.add (i * 12)).off + 11, none⟩ = some (.int .i64 l[i].Sent) ∧ l[i].eB.length ≤ c2 ∧ C dY w A2 l[i].eB ∧ l[i].Queue.length ≤ c6 ∧ C eX w A6 l[i].Queue ∧ l[i].bJ.length ≤ c7 ∧ C fV w A7 l[i].bJ := by
 obtain ⟨ad, c, h1, h2, h3, h4⟩ := C_at h i hi
 obtain ⟨A2, c2, A6, c6, A7, c7, rfl, hl2, hC2, hl6, hC6, hl7, hC7⟩ := kU h2
 exact ⟨ad, A2, c2, A6, c6, A7, c7, h1, h3 _ rfl, h4 0 _ rfl, h4 1 _ rfl, h4 2 _ rfl, h4 3 _ rfl, h4 4 _ rfl, h4 5 _ rfl, h4 6 _ rfl, h4 7 _ rfl, h4 8 _ rfl, h4 9 _ rfl, h4 10 _ rfl, hl2, hC2, hl6, hC6, hl7, hC7⟩
theorem ki_Entity_M {w : World} {F : Nat → Prop} {x : GEntity} {cs : List Value} (h : dW.M w F x cs) : ∃ (v2 : Value) (P2 : Nat → Prop) (v6 : Value) (P6 : Nat → Prop) (v7 : Value) (P7 : Nat → Prop), cs = [.int .i64 x.Kind, .int .i64 x.Script, v2, .int .i64 x.State, .int .i64 x.Value.Kind, .int .i64 x.Value.N, v6, v7, .int .i64 x.dZ, .int .i64 x.Pos, .int .i64 x.Count, .int .i64 x.Sent] ∧ R dY 129 w P2 v2 x.eB ∧ R eX 178 w P6 v6 x.Queue ∧ R fV 184 w P7 v7 x.bJ ∧ (∀ k, P2 k → F k) ∧ (∀ k, P6 k → F k) ∧ (∀ k, P7 k → F k) ∧ (∀ k, P2 k → ¬ P6 k) ∧ (∀ k, P2 k → ¬ P7 k) ∧ (∀ k, P6 k → ¬ P7 k) := by
 obtain ⟨_, _, F0, G0, rfl, rfl, ⟨_, _, F1, G1, rfl, rfl, ⟨_, _, F2, G2, rfl, ⟨v2, rfl, hR2⟩, ⟨_, _, F3, G3, rfl, rfl, ⟨_, _, F4, G4, rfl, s4, ⟨_, _, F5, G5, rfl, ⟨v6, rfl, hR6⟩, ⟨_, _, F6, G6, rfl, ⟨v7, rfl, hR7⟩, ⟨_, _, F7, G7, rfl, rfl, ⟨_, _, F8, G8, rfl, rfl, ⟨_, _, F9, G9, rfl, rfl, rfl, a9, b9, d9⟩, a8, b8, d8⟩, a7, b7, d7⟩, a6, b6, d6⟩, a5, b5, d5⟩, a4, b4, d4⟩, a3, b3, d3⟩, a2, b2, d2⟩, a1, b1, d1⟩, a0, b0, d0⟩ := h
 obtain rfl := ki_Value_M s4
 exact ⟨v2, F2, v6, F5, v7, F6, rfl, hR2, hR6, hR7, fun k hk => (b0 k (b1 k (a2 k hk))), fun k hk => (b0 k (b1 k (b2 k (b3 k (b4 k (a5 k hk)))))), fun k hk => (b0 k (b1 k (b2 k (b3 k (b4 k (b5 k (a6 k hk))))))), fun k hk hk' => d2 k hk (b3 k (b4 k (a5 k hk'))), fun k hk hk' => d2 k hk (b3 k (b4 k (b5 k (a6 k hk')))), fun k hk hk' => d5 k hk (a6 k hk')⟩
theorem ki_Entity_mk (w : World) (F : Nat → Prop) (x : GEntity) {v2 : Value} {P2 : Nat → Prop} (h2 : R dY 129 w P2 v2 x.eB) {v6 : Value} {P6 : Nat → Prop} (h6 : R eX 178 w P6 v6 x.Queue) {v7 : Value} {P7 : Nat → Prop} (h7 : R fV 184 w P7 v7 x.bJ) (i2 : ∀ k, P2 k → F k) (i6 : ∀ k, P6 k → F k) (i7 : ∀ k, P7 k → F k) (d2_6 : ∀ k, P2 k → ¬ P6 k) (d2_7 : ∀ k, P2 k → ¬ P7 k) (d6_7 : ∀ k, P6 k → ¬ P7 k) : dW.M w F x [.int .i64 x.Kind, .int .i64 x.Script, v2, .int .i64 x.State, .int .i64 x.Value.Kind, .int .i64 x.Value.N, v6, v7, .int .i64 x.dZ, .int .i64 x.Pos, .int .i64 x.Count, .int .i64 x.Sent] :=
 ⟨[_], [_, _, _, _, _, _, _, _, _, _, _], No, (fun k => P2 k ∨ P6 k ∨ P7 k), rfl, rfl, ⟨[_], [_, _, _, _, _, _, _, _, _, _], No, (fun k => P2 k ∨ P6 k ∨ P7 k), rfl, rfl, ⟨[_], [_, _, _, _, _, _, _, _, _], P2, (fun k => P6 k ∨ P7 k), rfl, ⟨_, rfl, h2⟩, ⟨[_], [_, _, _, _, _, _, _, _], No, (fun k => P6 k ∨ P7 k), rfl, rfl, ⟨[_, _], [_, _, _, _, _, _], No, (fun k => P6 k ∨ P7 k), rfl, (oW w No _), ⟨[_], [_, _, _, _, _], P6, P7, rfl, ⟨_, rfl, h6⟩, ⟨[_], [_, _, _, _], P7, No, rfl, ⟨_, rfl, h7⟩, ⟨[_], [_, _, _], No, No, rfl, rfl, ⟨[_], [_, _], No, No, rfl, rfl, ⟨[_], [_], No, No, rfl, rfl, rfl, fun _ h => h.elim, fun _ h => h.elim, fun _ h => h.elim⟩, fun _ h => h.elim, fun _ h => h.elim, fun _ h => h.elim⟩, fun _ h => h.elim, fun _ h => h.elim, fun _ h => h.elim⟩, fun _ h => h, fun _ h => h.elim, fun _ _ h => h.elim⟩, fun k h => by first | exact h | exact Or.inl h | exact Or.inr h, fun k h => by first | exact h | exact Or.inl h | exact Or.inr h, fun k h h' => by exact d6_7 k h h'⟩, fun _ h => h.elim, fun k h => by first | exact h | exact Or.inl h | exact Or.inr h, fun _ h => h.elim⟩, fun _ h => h.elim, fun k h => by first | exact h | exact Or.inl h | exact Or.inr h, fun _ h => h.elim⟩, fun k h => by first | exact h | exact Or.inl h | exact Or.inr h, fun k h => by first | exact h | exact Or.inl h | exact Or.inr h, fun k h h' => by rcases h' with h' | h' <;> first | exact d2_6 k h h' | exact d2_7 k h h'⟩, fun _ h => h.elim, fun k h => by first | exact h | exact Or.inl h | exact Or.inr h, fun _ h => h.elim⟩, fun _ h => h.elim, fun k h => by rcases h with h | h | h <;> first | exact i2 k h | exact i6 k h | exact i7 k h, fun _ h => h.elim⟩
theorem ki_Entity_info : (Tryz.prog.info? 132).map (fun i => (i.zero, i.size, i.bytes)) = some (some (.agg #[.int .i64 0, .int .i64 0, .slice none 0 0, .int .i64 0, .int .i64 0, .int .i64 0, .slice none 0 0, .slice none 0 0, .int .i64 0, .int .i64 0, .int .i64 0, .int .i64 0]), 12, 144) := by kernel_rfl
theorem ki_Entity_zero (w : World) : dW.M w No zEntity [.int .i64 0, .int .i64 0, .slice none 0 0, .int .i64 0, .int .i64 0, .int .i64 0, .slice none 0 0, .slice none 0 0, .int .i64 0, .int .i64 0, .int .i64 0, .int .i64 0] := ki_Entity_mk w No zEntity (P2 := No) R_nil (P6 := No) R_nil (P7 := No) R_nil (fun _ h => h) (fun _ h => h) (fun _ h => h) (fun _ h => h.elim) (fun _ h => h.elim) (fun _ h => h.elim)
def jJ : Kn GExport := Kn.iso (Kn.pair Kn.int (Kn.pair Kn.int Kn.int)) (fun x => (x.Pos, x.Entity, x.Count))
theorem kl_Export_K {w : World} {x : GExport} {cs : List Value} (h : jJ.K w x cs) : cs = [.int .i64 x.Pos, .int .i64 x.Entity, .int .i64 x.Count] := by
 obtain ⟨_, _, rfl, rfl, ⟨_, _, rfl, rfl, rfl⟩⟩ := h
 exact rfl
theorem kl_Export_at {w : World} {A : Option Addr} {l : List GExport} (h : C jJ w A l) (i : Nat) (hi : i < l.length) : ∃ (ad : Addr), A = some ad ∧ w.cell? (ad.add (i * 3)) = some (.int .i64 l[i].Pos) ∧ w.cell? ⟨(ad.add (i * 3)).block, (ad.add (i * 3)).off + 1, none⟩ = some (.int .i64 l[i].Entity) ∧ w.cell? ⟨(ad.add (i * 3)).block, (ad.add (i * 3)).off + 2, none⟩ = some (.int .i64 l[i].Count) := by
 obtain ⟨ad, c, h1, h2, h3, h4⟩ := C_at h i hi
 obtain rfl := kl_Export_K h2
 exact ⟨ad, h1, h3 _ rfl, h4 0 _ rfl, h4 1 _ rfl⟩
def eZ : Kn GExport := Kn.iso (Kn.pair Kn.int (Kn.pair Kn.int Kn.int)) (fun x => (x.Pos, x.Entity, x.Count))
theorem jY {w : World} {x : GExport} {cs : List Value} (h : eZ.K w x cs) : cs = [.int .i64 x.Pos, .int .i64 x.Entity, .int .i64 x.Count] := by
 obtain ⟨_, _, rfl, rfl, ⟨_, _, rfl, rfl, rfl⟩⟩ := h
 exact rfl
theorem ki_Export_at {w : World} {A : Option Addr} {l : List GExport} (h : C eZ w A l) (i : Nat) (hi : i < l.length) : ∃ (ad : Addr), A = some ad ∧ w.cell? (ad.add (i * 3)) = some (.int .i64 l[i].Pos) ∧ w.cell? ⟨(ad.add (i * 3)).block, (ad.add (i * 3)).off + 1, none⟩ = some (.int .i64 l[i].Entity) ∧ w.cell? ⟨(ad.add (i * 3)).block, (ad.add (i * 3)).off + 2, none⟩ = some (.int .i64 l[i].Count) := by
 obtain ⟨ad, c, h1, h2, h3, h4⟩ := C_at h i hi
 obtain rfl := jY h2
 exact ⟨ad, h1, h3 _ rfl, h4 0 _ rfl, h4 1 _ rfl⟩
theorem ki_Export_M {w : World} {F : Nat → Prop} {x : GExport} {cs : List Value} (h : eZ.M w F x cs) : cs = [.int .i64 x.Pos, .int .i64 x.Entity, .int .i64 x.Count] := by
 exact jY (eZ.kL h)
theorem ki_Export_mk (w : World) (F : Nat → Prop) (x : GExport) : eZ.M w F x [.int .i64 x.Pos, .int .i64 x.Entity, .int .i64 x.Count] :=
 ⟨[_], [_, _], No, No, rfl, rfl, ⟨[_], [_], No, No, rfl, rfl, rfl, fun _ h => h.elim, fun _ h => h.elim, fun _ h => h.elim⟩, fun _ h => h.elim, fun _ h => h.elim, fun _ h => h.elim⟩
theorem ki_Export_info : (Tryz.prog.info? 186).map (fun i => (i.zero, i.size, i.bytes)) = some (some (.agg #[.int .i64 0, .int .i64 0, .int .i64 0]), 3, 24) := by kernel_rfl
theorem ki_Export_zero (w : World) : eZ.M w No zExport [.int .i64 0, .int .i64 0, .int .i64 0] := ki_Export_mk w No zExport
def gM : Kn GQuestion := Kn.iso (Kn.pair Kn.int Kn.int) (fun x => (x.Id, x.Promise))
theorem kl_Question_K {w : World} {x : GQuestion} {cs : List Value} (h : gM.K w x cs) : cs = [.int .i64 x.Id, .int .i64 x.Promise] := by
 obtain ⟨_, _, rfl, rfl, rfl⟩ := h
 exact rfl
theorem kl_Question_at {w : World} {A : Option Addr} {l : List GQuestion} (h : C gM w A l) (i : Nat) (hi : i < l.length) : ∃ (ad : Addr), A = some ad ∧ w.cell? (ad.add (i * 2)) = some (.int .i64 l[i].Id) ∧ w.cell? ⟨(ad.add (i * 2)).block, (ad.add (i * 2)).off + 1, none⟩ = some (.int .i64 l[i].Promise) := by
 obtain ⟨ad, c, h1, h2, h3, h4⟩ := C_at h i hi
 obtain rfl := kl_Question_K h2
 exact ⟨ad, h1, h3 _ rfl, h4 0 _ rfl⟩
def dB : Kn GQuestion := Kn.iso (Kn.pair Kn.int Kn.int) (fun x => (x.Id, x.Promise))
theorem jA {w : World} {x : GQuestion} {cs : List Value} (h : dB.K w x cs) : cs = [.int .i64 x.Id, .int .i64 x.Promise] := by
 obtain ⟨_, _, rfl, rfl, rfl⟩ := h
 exact rfl
theorem ki_Question_at {w : World} {A : Option Addr} {l : List GQuestion} (h : C dB w A l) (i : Nat) (hi : i < l.length) : ∃ (ad : Addr), A = some ad ∧ w.cell? (ad.add (i * 2)) = some (.int .i64 l[i].Id) ∧ w.cell? ⟨(ad.add (i * 2)).block, (ad.add (i * 2)).off + 1, none⟩ = some (.int .i64 l[i].Promise) := by
 obtain ⟨ad, c, h1, h2, h3, h4⟩ := C_at h i hi
 obtain rfl := jA h2
 exact ⟨ad, h1, h3 _ rfl, h4 0 _ rfl⟩
theorem ki_Question_M {w : World} {F : Nat → Prop} {x : GQuestion} {cs : List Value} (h : dB.M w F x cs) : cs = [.int .i64 x.Id, .int .i64 x.Promise] := by
 exact jA (dB.kL h)
theorem oQ (w : World) (F : Nat → Prop) (x : GQuestion) : dB.M w F x [.int .i64 x.Id, .int .i64 x.Promise] :=
 ⟨[_], [_], No, No, rfl, rfl, rfl, fun _ h => h.elim, fun _ h => h.elim, fun _ h => h.elim⟩
theorem ki_Question_info : (Tryz.prog.info? 193).map (fun i => (i.zero, i.size, i.bytes)) = some (some (.agg #[.int .i64 0, .int .i64 0]), 2, 16) := by kernel_rfl
theorem ki_Question_zero (w : World) : dB.M w No lY [.int .i64 0, .int .i64 0] := oQ w No lY
def kY : Kn GLink := Kn.iso (Kn.pair Kn.int (Kn.pair Kn.bool (Kn.pair (Kn.slice 249 jJ) (Kn.pair Kn.int (Kn.pair (Kn.slice 251 gM) (Kn.pair Kn.int (Kn.slice 251 gM))))))) (fun x => (x.dZ, x.Up, x.aW, x.Next, x.bF, x.iO, x.cB))
theorem kl_Link_K {w : World} {x : GLink} {cs : List Value} (h : kY.K w x cs) : ∃ (A2 : Option Addr) (c2 : Nat) (A4 : Option Addr) (c4 : Nat) (A6 : Option Addr) (c6 : Nat), cs = [.int .i64 x.dZ, .bool x.Up, .slice A2 x.aW.length c2, .int .i64 x.Next, .slice A4 x.bF.length c4, .int .i64 x.iO, .slice A6 x.cB.length c6] ∧ x.aW.length ≤ c2 ∧ C jJ w A2 x.aW ∧ x.bF.length ≤ c4 ∧ C gM w A4 x.bF ∧ x.cB.length ≤ c6 ∧ C gM w A6 x.cB := by
 obtain ⟨_, _, rfl, rfl, ⟨_, _, rfl, rfl, ⟨_, _, rfl, ⟨A2, c2, rfl, hl2, hC2⟩, ⟨_, _, rfl, rfl, ⟨_, _, rfl, ⟨A4, c4, rfl, hl4, hC4⟩, ⟨_, _, rfl, rfl, ⟨A6, c6, rfl, hl6, hC6⟩⟩⟩⟩⟩⟩⟩ := h
 exact ⟨A2, c2, A4, c4, A6, c6, rfl, hl2, hC2, hl4, hC4, hl6, hC6⟩
theorem kl_Link_at {w : World} {A : Option Addr} {l : List GLink} (h : C kY w A l) (i : Nat) (hi : i < l.length) : ∃ (ad : Addr) (A2 : Option Addr) (c2 : Nat) (A4 : Option Addr) (c4 : Nat) (A6 : Option Addr) (c6 : Nat), A = some ad ∧ w.cell? (ad.add (i * 7)) = some (.int .i64 l[i].dZ) ∧ w.cell? ⟨(ad.add (i * 7)).block, (ad.add (i * 7)).off + 1, none⟩ = some (.bool l[i].Up) ∧ w.cell? ⟨(ad.add (i * 7)).block, (ad.add (i * 7)).off + 2, none⟩ = some (.slice A2 l[i].aW.length c2) ∧ w.cell? ⟨(ad.add (i * 7)).block, (ad.add (i * 7)).off + 3, none⟩ = some (.int .i64 l[i].Next) ∧ w.cell? ⟨(ad.add (i * 7)).block, (ad.add (i * 7)).off + 4, none⟩ = some (.slice A4 l[i].bF.length c4) ∧ w.cell? ⟨(ad.add (i * 7)).block, (ad.add (i * 7)).off + 5, none⟩ = some (.int .i64 l[i].iO) ∧ w.cell? ⟨(ad.add (i * 7)).block, (ad.add (i * 7)).off + 6, none⟩ = some (.slice A6 l[i].cB.length c6) ∧ l[i].aW.length ≤ c2 ∧ C jJ w A2 l[i].aW ∧ l[i].bF.length ≤ c4 ∧ C gM w A4 l[i].bF ∧ l[i].cB.length ≤ c6 ∧ C gM w A6 l[i].cB := by
 obtain ⟨ad, c, h1, h2, h3, h4⟩ := C_at h i hi
 obtain ⟨A2, c2, A4, c4, A6, c6, rfl, hl2, hC2, hl4, hC4, hl6, hC6⟩ := kl_Link_K h2
 exact ⟨ad, A2, c2, A4, c4, A6, c6, h1, h3 _ rfl, h4 0 _ rfl, h4 1 _ rfl, h4 2 _ rfl, h4 3 _ rfl, h4 4 _ rfl, h4 5 _ rfl, hl2, hC2, hl4, hC4, hl6, hC6⟩
def gK : Kn GLink := Kn.iso (Kn.pair Kn.int (Kn.pair Kn.bool (Kn.pair (Kn.slice 186 eZ) (Kn.pair Kn.int (Kn.pair (Kn.slice 193 dB) (Kn.pair Kn.int (Kn.slice 193 dB))))))) (fun x => (x.dZ, x.Up, x.aW, x.Next, x.bF, x.iO, x.cB))
theorem mV {w : World} {x : GLink} {cs : List Value} (h : gK.K w x cs) : ∃ (A2 : Option Addr) (c2 : Nat) (A4 : Option Addr) (c4 : Nat) (A6 : Option Addr) (c6 : Nat), cs = [.int .i64 x.dZ, .bool x.Up, .slice A2 x.aW.length c2, .int .i64 x.Next, .slice A4 x.bF.length c4, .int .i64 x.iO, .slice A6 x.cB.length c6] ∧ x.aW.length ≤ c2 ∧ C eZ w A2 x.aW ∧ x.bF.length ≤ c4 ∧ C dB w A4 x.bF ∧ x.cB.length ≤ c6 ∧ C dB w A6 x.cB := by
 obtain ⟨_, _, rfl, rfl, ⟨_, _, rfl, rfl, ⟨_, _, rfl, ⟨A2, c2, rfl, hl2, hC2⟩, ⟨_, _, rfl, rfl, ⟨_, _, rfl, ⟨A4, c4, rfl, hl4, hC4⟩, ⟨_, _, rfl, rfl, ⟨A6, c6, rfl, hl6, hC6⟩⟩⟩⟩⟩⟩⟩ := h
 exact ⟨A2, c2, A4, c4, A6, c6, rfl, hl2, hC2, hl4, hC4, hl6, hC6⟩
theorem ki_Link_at {w : World} {A : Option Addr} {l : List GLink} (h : C gK w A l) (i : Nat) (hi : i < l.length) : ∃ (ad : Addr) (A2 : Option Addr) (c2 : Nat) (A4 : Option Addr) (c4 : Nat) (A6 : Option Addr) (c6 : Nat), A = some ad ∧ w.cell? (ad.add (i * 7)) = some (.int .i64 l[i].dZ) ∧ w.cell? ⟨(ad.add (i * 7)).block, (ad.add (i * 7)).off + 1, none⟩ = some (.bool l[i].Up) ∧ w.cell? ⟨(ad.add (i * 7)).block, (ad.add (i * 7)).off + 2, none⟩ = some (.slice A2 l[i].aW.length c2) ∧ w.cell? ⟨(ad.add (i * 7)).block, (ad.add (i * 7)).off + 3, none⟩ = some (.int .i64 l[i].Next) ∧ w.cell? ⟨(ad.add (i * 7)).block, (ad.add (i * 7)).off + 4, none⟩ = some (.slice A4 l[i].bF.length c4) ∧ w.cell? ⟨(ad.add (i * 7)).block, (ad.add (i * 7)).off + 5, none⟩ = some (.int .i64 l[i].iO) ∧ w.cell? ⟨(ad.add (i * 7)).block, (ad.add (i * 7)).off + 6, none⟩ = some (.slice A6 l[i].cB.length c6) ∧ l[i].aW.length ≤ c2 ∧ C eZ w A2 l[i].aW ∧ l[i].bF.length ≤ c4 ∧ C dB w A4 l[i].bF ∧ l[i].cB.length ≤ c6 ∧ C dB w A6 l[i].cB := by
 obtain ⟨ad, c, h1, h2, h3, h4⟩ := C_at h i hi
 obtain ⟨A2, c2, A4, c4, A6, c6, rfl, hl2, hC2, hl4, hC4, hl6, hC6⟩ := mV h2
 exact ⟨ad, A2, c2, A4, c4, A6, c6, h1, h3 _ rfl, h4 0 _ rfl, h4 1 _ rfl, h4 2 _ rfl, h4 3 _ rfl, h4 4 _ rfl, h4 5 _ rfl, hl2, hC2, hl4, hC4, hl6, hC6⟩
theorem ki_Link_M {w : World} {F : Nat → Prop} {x : GLink} {cs : List Value} (h : gK.M w F x cs) : ∃ (v2 : Value) (P2 : Nat → Prop) (v4 : Value) (P4 : Nat → Prop) (v6 : Value) (P6 : Nat → Prop), cs = [.int .i64 x.dZ, .bool x.Up, v2, .int .i64 x.Next, v4, .int .i64 x.iO, v6] ∧ R eZ 186 w P2 v2 x.aW ∧ R dB 193 w P4 v4 x.bF ∧ R dB 193 w P6 v6 x.cB ∧ (∀ k, P2 k → F k) ∧ (∀ k, P4 k → F k) ∧ (∀ k, P6 k → F k) ∧ (∀ k, P2 k → ¬ P4 k) ∧ (∀ k, P2 k → ¬ P6 k) ∧ (∀ k, P4 k → ¬ P6 k) := by
 obtain ⟨_, _, F0, G0, rfl, rfl, ⟨_, _, F1, G1, rfl, rfl, ⟨_, _, F2, G2, rfl, ⟨v2, rfl, hR2⟩, ⟨_, _, F3, G3, rfl, rfl, ⟨_, _, F4, G4, rfl, ⟨v4, rfl, hR4⟩, ⟨_, _, F5, G5, rfl, rfl, ⟨v6, rfl, hR6⟩, a5, b5, d5⟩, a4, b4, d4⟩, a3, b3, d3⟩, a2, b2, d2⟩, a1, b1, d1⟩, a0, b0, d0⟩ := h
 exact ⟨v2, F2, v4, F4, v6, G5, rfl, hR2, hR4, hR6, fun k hk => (b0 k (b1 k (a2 k hk))), fun k hk => (b0 k (b1 k (b2 k (b3 k (a4 k hk))))), fun k hk => (b0 k (b1 k (b2 k (b3 k (b4 k (b5 k hk)))))), fun k hk hk' => d2 k hk (b3 k (a4 k hk')), fun k hk hk' => d2 k hk (b3 k (b4 k (b5 k hk'))), fun k hk hk' => d4 k hk (b5 k hk')⟩
theorem ki_Link_mk (w : World) (F : Nat → Prop) (x : GLink) {v2 : Value} {P2 : Nat → Prop} (h2 : R eZ 186 w P2 v2 x.aW) {v4 : Value} {P4 : Nat → Prop} (h4 : R dB 193 w P4 v4 x.bF) {v6 : Value} {P6 : Nat → Prop} (h6 : R dB 193 w P6 v6 x.cB) (i2 : ∀ k, P2 k → F k) (i4 : ∀ k, P4 k → F k) (i6 : ∀ k, P6 k → F k) (d2_4 : ∀ k, P2 k → ¬ P4 k) (d2_6 : ∀ k, P2 k → ¬ P6 k) (d4_6 : ∀ k, P4 k → ¬ P6 k) : gK.M w F x [.int .i64 x.dZ, .bool x.Up, v2, .int .i64 x.Next, v4, .int .i64 x.iO, v6] :=
 ⟨[_], [_, _, _, _, _, _], No, (fun k => P2 k ∨ P4 k ∨ P6 k), rfl, rfl, ⟨[_], [_, _, _, _, _], No, (fun k => P2 k ∨ P4 k ∨ P6 k), rfl, rfl, ⟨[_], [_, _, _, _], P2, (fun k => P4 k ∨ P6 k), rfl, ⟨_, rfl, h2⟩, ⟨[_], [_, _, _], No, (fun k => P4 k ∨ P6 k), rfl, rfl, ⟨[_], [_, _], P4, P6, rfl, ⟨_, rfl, h4⟩, ⟨[_], [_], No, P6, rfl, rfl, ⟨_, rfl, h6⟩, fun _ h => h.elim, fun _ h => h, fun _ h => h.elim⟩, fun k h => by first | exact h | exact Or.inl h | exact Or.inr h, fun k h => by first | exact h | exact Or.inl h | exact Or.inr h, fun k h h' => by exact d4_6 k h h'⟩, fun _ h => h.elim, fun k h => by first | exact h | exact Or.inl h | exact Or.inr h, fun _ h => h.elim⟩, fun k h => by first | exact h | exact Or.inl h | exact Or.inr h, fun k h => by first | exact h | exact Or.inl h | exact Or.inr h, fun k h h' => by rcases h' with h' | h' <;> first | exact d2_4 k h h' | exact d2_6 k h h'⟩, fun _ h => h.elim, fun k h => by first | exact h | exact Or.inl h | exact Or.inr h, fun _ h => h.elim⟩, fun _ h => h.elim, fun k h => by rcases h with h | h | h <;> first | exact i2 k h | exact i4 k h | exact i6 k h, fun _ h => h.elim⟩
theorem ki_Link_info : (Tryz.prog.info? 137).map (fun i => (i.zero, i.size, i.bytes)) = some (some (.agg #[.int .i64 0, .bool false, .slice none 0 0, .int .i64 0, .slice none 0 0, .int .i64 0, .slice none 0 0]), 7, 104) := by kernel_rfl
theorem ki_Link_zero (w : World) : gK.M w No zLink [.int .i64 0, .bool false, .slice none 0 0, .int .i64 0, .slice none 0 0, .int .i64 0, .slice none 0 0] := ki_Link_mk w No zLink (P2 := No) R_nil (P4 := No) R_nil (P6 := No) R_nil (fun _ h => h) (fun _ h => h) (fun _ h => h) (fun _ h => h.elim) (fun _ h => h.elim) (fun _ h => h.elim)
def jL : Kn GWire := Kn.iso (Kn.pair Kn.int Kn.int) (fun x => (x.Kind, x.N))
theorem kl_Wire_K {w : World} {x : GWire} {cs : List Value} (h : jL.K w x cs) : cs = [.int .i64 x.Kind, .int .i64 x.N] := by
 obtain ⟨_, _, rfl, rfl, rfl⟩ := h
 exact rfl
theorem kl_Wire_at {w : World} {A : Option Addr} {l : List GWire} (h : C jL w A l) (i : Nat) (hi : i < l.length) : ∃ (ad : Addr), A = some ad ∧ w.cell? (ad.add (i * 2)) = some (.int .i64 l[i].Kind) ∧ w.cell? ⟨(ad.add (i * 2)).block, (ad.add (i * 2)).off + 1, none⟩ = some (.int .i64 l[i].N) := by
 obtain ⟨ad, c, h1, h2, h3, h4⟩ := C_at h i hi
 obtain rfl := kl_Wire_K h2
 exact ⟨ad, h1, h3 _ rfl, h4 0 _ rfl⟩
def fT : Kn GWire := Kn.iso (Kn.pair Kn.int Kn.int) (fun x => (x.Kind, x.N))
theorem kZ {w : World} {x : GWire} {cs : List Value} (h : fT.K w x cs) : cs = [.int .i64 x.Kind, .int .i64 x.N] := by
 obtain ⟨_, _, rfl, rfl, rfl⟩ := h
 exact rfl
theorem ki_Wire_at {w : World} {A : Option Addr} {l : List GWire} (h : C fT w A l) (i : Nat) (hi : i < l.length) : ∃ (ad : Addr), A = some ad ∧ w.cell? (ad.add (i * 2)) = some (.int .i64 l[i].Kind) ∧ w.cell? ⟨(ad.add (i * 2)).block, (ad.add (i * 2)).off + 1, none⟩ = some (.int .i64 l[i].N) := by
 obtain ⟨ad, c, h1, h2, h3, h4⟩ := C_at h i hi
 obtain rfl := kZ h2
 exact ⟨ad, h1, h3 _ rfl, h4 0 _ rfl⟩
theorem ki_Wire_M {w : World} {F : Nat → Prop} {x : GWire} {cs : List Value} (h : fT.M w F x cs) : cs = [.int .i64 x.Kind, .int .i64 x.N] := by
 exact kZ (fT.kL h)
theorem ki_Wire_mk (w : World) (F : Nat → Prop) (x : GWire) : fT.M w F x [.int .i64 x.Kind, .int .i64 x.N] :=
 ⟨[_], [_], No, No, rfl, rfl, rfl, fun _ h => h.elim, fun _ h => h.elim, fun _ h => h.elim⟩
theorem ki_Wire_info : (Tryz.prog.info? 139).map (fun i => (i.zero, i.size, i.bytes)) = some (some (.agg #[.int .i64 0, .int .i64 0]), 2, 16) := by kernel_rfl
theorem ki_Wire_zero (w : World) : fT.M w No zWire [.int .i64 0, .int .i64 0] := ki_Wire_mk w No zWire
def iE : Kn GMessage := Kn.iso (Kn.pair Kn.int (Kn.pair Kn.int (Kn.pair Kn.int (Kn.pair Kn.int (Kn.pair Kn.string (Kn.pair (Kn.slice 215 jL) (Kn.pair jL (Kn.pair Kn.int kl_Tag)))))))) (fun x => (x.Kind, x.Pos, x.dH, x.Question, x.Name, x.bD, x.Value, x.Count, x.Tag))
theorem nW {w : World} {x : GMessage} {cs : List Value} (h : iE.K w x cs) : ∃ (A5 : Option Addr) (c5 : Nat), cs = [.int .i64 x.Kind, .int .i64 x.Pos, .int .i64 x.dH, .int .i64 x.Question, .string x.Name, .slice A5 x.bD.length c5, .int .i64 x.Value.Kind, .int .i64 x.Value.N, .int .i64 x.Count, .int .i64 x.Tag.Vat, .int .i64 x.Tag.Entity, .int .i64 x.Tag.Seq] ∧ x.bD.length ≤ c5 ∧ C jL w A5 x.bD := by
 obtain ⟨_, _, rfl, rfl, ⟨_, _, rfl, rfl, ⟨_, _, rfl, rfl, ⟨_, _, rfl, rfl, ⟨_, _, rfl, rfl, ⟨_, _, rfl, ⟨A5, c5, rfl, hl5, hC5⟩, ⟨_, _, rfl, s_Value, ⟨_, _, rfl, rfl, s_Tag⟩⟩⟩⟩⟩⟩⟩⟩ := h
 obtain rfl := kl_Wire_K s_Value
 obtain rfl := kl_Tag_K s_Tag
 exact ⟨A5, c5, rfl, hl5, hC5⟩
theorem kl_Message_at {w : World} {A : Option Addr} {l : List GMessage} (h : C iE w A l) (i : Nat) (hi : i < l.length) : ∃ (ad : Addr) (A5 : Option Addr) (c5 : Nat), A = some ad ∧ w.cell? (ad.add (i * 12)) = some (.int .i64 l[i].Kind) ∧ w.cell? ⟨(ad.add (i * 12)).block, (ad.add (i * 12)).off + 1, none⟩ = some (.int .i64 l[i].Pos) ∧ w.cell? ⟨(ad.add (i * 12)).block, (ad.add (i * 12)).off + 2, none⟩ = some (.int .i64 l[i].dH) ∧ w.cell? ⟨(ad.add (i * 12)).block, (ad.add (i * 12)).off + 3, none⟩ = some (.int .i64 l[i].Question) ∧ w.cell? ⟨(ad.add (i * 12)).block, (ad.add (i * 12)).off + 4, none⟩ = some (.string l[i].Name) ∧ w.cell? ⟨(ad.add (i * 12)).block, (ad.add (i * 12)).off + 5, none⟩ = some (.slice A5 l[i].bD.length c5) ∧ w.cell? ⟨(ad.add (i * 12)).block, (ad.add (i * 12)).off + 6, none⟩ = some (.int .i64 l[i].Value.Kind) ∧ w.cell? ⟨(ad.add (i * 12)).block, (ad.add (i * 12)).off + 7, none⟩ = some (.int .i64 l[i].Value.N) ∧ w.cell? ⟨(ad.add (i * 12)).block, (ad.add (i * 12)).off + 8, none⟩ = some (.int .i64 l[i].Count) ∧ w.cell? ⟨(ad.add (i * 12)).block, (ad.add (i * 12)).off + 9, none⟩ = some (.int .i64 l[i].Tag.Vat) ∧ w.cell? ⟨(ad.add (i * 12)).block, (ad.add (i * 12)).off + 10, none⟩ = some (.int .i64 l[i].Tag.Entity) ∧ w.cell? ⟨(ad.add (i * 12)).block, (ad.add (i * 12)).off + 11, none⟩ = some (.int .i64 l[i].Tag.Seq) ∧ l[i].bD.length ≤ c5 ∧ C jL w A5 l[i].bD := by
 obtain ⟨ad, c, h1, h2, h3, h4⟩ := C_at h i hi
 obtain ⟨A5, c5, rfl, hl5, hC5⟩ := nW h2
 exact ⟨ad, A5, c5, h1, h3 _ rfl, h4 0 _ rfl, h4 1 _ rfl, h4 2 _ rfl, h4 3 _ rfl, h4 4 _ rfl, h4 5 _ rfl, h4 6 _ rfl, h4 7 _ rfl, h4 8 _ rfl, h4 9 _ rfl, h4 10 _ rfl, hl5, hC5⟩
def dM : Kn GMessage := Kn.iso (Kn.pair Kn.int (Kn.pair Kn.int (Kn.pair Kn.int (Kn.pair Kn.int (Kn.pair Kn.string (Kn.pair (Kn.slice 139 fT) (Kn.pair fT (Kn.pair Kn.int ki_Tag)))))))) (fun x => (x.Kind, x.Pos, x.dH, x.Question, x.Name, x.bD, x.Value, x.Count, x.Tag))
theorem jM {w : World} {x : GMessage} {cs : List Value} (h : dM.K w x cs) : ∃ (A5 : Option Addr) (c5 : Nat), cs = [.int .i64 x.Kind, .int .i64 x.Pos, .int .i64 x.dH, .int .i64 x.Question, .string x.Name, .slice A5 x.bD.length c5, .int .i64 x.Value.Kind, .int .i64 x.Value.N, .int .i64 x.Count, .int .i64 x.Tag.Vat, .int .i64 x.Tag.Entity, .int .i64 x.Tag.Seq] ∧ x.bD.length ≤ c5 ∧ C fT w A5 x.bD := by
 obtain ⟨_, _, rfl, rfl, ⟨_, _, rfl, rfl, ⟨_, _, rfl, rfl, ⟨_, _, rfl, rfl, ⟨_, _, rfl, rfl, ⟨_, _, rfl, ⟨A5, c5, rfl, hl5, hC5⟩, ⟨_, _, rfl, s_Value, ⟨_, _, rfl, rfl, s_Tag⟩⟩⟩⟩⟩⟩⟩⟩ := h
 obtain rfl := kZ s_Value
 obtain rfl := ki_Tag_K s_Tag
 exact ⟨A5, c5, rfl, hl5, hC5⟩
theorem ki_Message_at {w : World} {A : Option Addr} {l : List GMessage} (h : C dM w A l) (i : Nat) (hi : i < l.length) : ∃ (ad : Addr) (A5 : Option Addr) (c5 : Nat), A = some ad ∧ w.cell? (ad.add (i * 12)) = some (.int .i64 l[i].Kind) ∧ w.cell? ⟨(ad.add (i * 12)).block, (ad.add (i * 12)).off + 1, none⟩ = some (.int .i64 l[i].Pos) ∧ w.cell? ⟨(ad.add (i * 12)).block, (ad.add (i * 12)).off + 2, none⟩ = some (.int .i64 l[i].dH) ∧ w.cell? ⟨(ad.add (i * 12)).block, (ad.add (i * 12)).off + 3, none⟩ = some (.int .i64 l[i].Question) ∧ w.cell? ⟨(ad.add (i * 12)).block, (ad.add (i * 12)).off + 4, none⟩ = some (.string l[i].Name) ∧ w.cell? ⟨(ad.add (i * 12)).block, (ad.add (i * 12)).off + 5, none⟩ = some (.slice A5 l[i].bD.length c5) ∧ w.cell? ⟨(ad.add (i * 12)).block, (ad.add (i * 12)).off + 6, none⟩ = some (.int .i64 l[i].Value.Kind) ∧ w.cell? ⟨(ad.add (i * 12)).block, (ad.add (i * 12)).off + 7, none⟩ = some (.int .i64 l[i].Value.N) ∧ w.cell? ⟨(ad.add (i * 12)).block, (ad.add (i * 12)).off + 8, none⟩ = some (.int .i64 l[i].Count) ∧ w.cell? ⟨(ad.add (i * 12)).block, (ad.add (i * 12)).off + 9, none⟩ = some (.int .i64 l[i].Tag.Vat) ∧ w.cell? ⟨(ad.add (i * 12)).block, (ad.add (i * 12)).off + 10, none⟩ = some (.int .i64 l[i].Tag.Entity) ∧ w.cell? ⟨(ad.add (i * 12)).block, (ad.add (i * 12)).off + 11, none⟩ = some (.int .i64 l[i].Tag.Seq) ∧ l[i].bD.length ≤ c5 ∧ C fT w A5 l[i].bD := by
 obtain ⟨ad, c, h1, h2, h3, h4⟩ := C_at h i hi
 obtain ⟨A5, c5, rfl, hl5, hC5⟩ := jM h2
 exact ⟨ad, A5, c5, h1, h3 _ rfl, h4 0 _ rfl, h4 1 _ rfl, h4 2 _ rfl, h4 3 _ rfl, h4 4 _ rfl, h4 5 _ rfl, h4 6 _ rfl, h4 7 _ rfl, h4 8 _ rfl, h4 9 _ rfl, h4 10 _ rfl, hl5, hC5⟩
theorem nX {w : World} {F : Nat → Prop} {x : GMessage} {cs : List Value} (h : dM.M w F x cs) : ∃ (v5 : Value) (P5 : Nat → Prop), cs = [.int .i64 x.Kind, .int .i64 x.Pos, .int .i64 x.dH, .int .i64 x.Question, .string x.Name, v5, .int .i64 x.Value.Kind, .int .i64 x.Value.N, .int .i64 x.Count, .int .i64 x.Tag.Vat, .int .i64 x.Tag.Entity, .int .i64 x.Tag.Seq] ∧ R fT 139 w P5 v5 x.bD ∧ (∀ k, P5 k → F k) := by
 obtain ⟨_, _, F0, G0, rfl, rfl, ⟨_, _, F1, G1, rfl, rfl, ⟨_, _, F2, G2, rfl, rfl, ⟨_, _, F3, G3, rfl, rfl, ⟨_, _, F4, G4, rfl, rfl, ⟨_, _, F5, G5, rfl, ⟨v5, rfl, hR5⟩, ⟨_, _, F6, G6, rfl, s6, ⟨_, _, F7, G7, rfl, rfl, s8, a7, b7, d7⟩, a6, b6, d6⟩, a5, b5, d5⟩, a4, b4, d4⟩, a3, b3, d3⟩, a2, b2, d2⟩, a1, b1, d1⟩, a0, b0, d0⟩ := h
 obtain rfl := ki_Wire_M s6
 obtain rfl := ki_Tag_M s8
 exact ⟨v5, F5, rfl, hR5, fun k hk => (b0 k (b1 k (b2 k (b3 k (b4 k (a5 k hk))))))⟩
theorem mY (w : World) (F : Nat → Prop) (x : GMessage) {v5 : Value} {P5 : Nat → Prop} (h5 : R fT 139 w P5 v5 x.bD) (i5 : ∀ k, P5 k → F k) : dM.M w F x [.int .i64 x.Kind, .int .i64 x.Pos, .int .i64 x.dH, .int .i64 x.Question, .string x.Name, v5, .int .i64 x.Value.Kind, .int .i64 x.Value.N, .int .i64 x.Count, .int .i64 x.Tag.Vat, .int .i64 x.Tag.Entity, .int .i64 x.Tag.Seq] :=
 ⟨[_], [_, _, _, _, _, _, _, _, _, _, _], No, P5, rfl, rfl, ⟨[_], [_, _, _, _, _, _, _, _, _, _], No, P5, rfl, rfl, ⟨[_], [_, _, _, _, _, _, _, _, _], No, P5, rfl, rfl, ⟨[_], [_, _, _, _, _, _, _, _], No, P5, rfl, rfl, ⟨[_], [_, _, _, _, _, _, _], No, P5, rfl, rfl, ⟨[_], [_, _, _, _, _, _], P5, No, rfl, ⟨_, rfl, h5⟩, ⟨[_, _], [_, _, _, _], No, No, rfl, (ki_Wire_mk w No _), ⟨[_], [_, _, _], No, No, rfl, rfl, (ki_Tag_mk w No _), fun _ h => h.elim, fun _ h => h.elim, fun _ h => h.elim⟩, fun _ h => h.elim, fun _ h => h.elim, fun _ h => h.elim⟩, fun _ h => h, fun _ h => h.elim, fun _ _ h => h.elim⟩, fun _ h => h.elim, fun _ h => h, fun _ h => h.elim⟩, fun _ h => h.elim, fun _ h => h, fun _ h => h.elim⟩, fun _ h => h.elim, fun _ h => h, fun _ h => h.elim⟩, fun _ h => h.elim, fun _ h => h, fun _ h => h.elim⟩, fun _ h => h.elim, i5, fun _ h => h.elim⟩
theorem ki_Message_info : (Tryz.prog.info? 141).map (fun i => (i.zero, i.size, i.bytes)) = some (some (.agg #[.int .i64 0, .int .i64 0, .int .i64 0, .int .i64 0, .string ⟨#[]⟩, .slice none 0 0, .int .i64 0, .int .i64 0, .int .i64 0, .int .i64 0, .int .i64 0, .int .i64 0]), 12, 120) := by kernel_rfl
theorem ki_Message_zero (w : World) : dM.M w No nN [.int .i64 0, .int .i64 0, .int .i64 0, .int .i64 0, .string ⟨#[]⟩, .slice none 0 0, .int .i64 0, .int .i64 0, .int .i64 0, .int .i64 0, .int .i64 0, .int .i64 0] := mY w No nN (P5 := No) R_nil (fun _ h => h)
def iG : Kn GOutgoing := Kn.iso (Kn.pair Kn.int iE) (fun x => (x.To, x.Message))
theorem pG {w : World} {x : GOutgoing} {cs : List Value} (h : iG.K w x cs) : ∃ (A6 : Option Addr) (c6 : Nat), cs = [.int .i64 x.To, .int .i64 x.Message.Kind, .int .i64 x.Message.Pos, .int .i64 x.Message.dH, .int .i64 x.Message.Question, .string x.Message.Name, .slice A6 x.Message.bD.length c6, .int .i64 x.Message.Value.Kind, .int .i64 x.Message.Value.N, .int .i64 x.Message.Count, .int .i64 x.Message.Tag.Vat, .int .i64 x.Message.Tag.Entity, .int .i64 x.Message.Tag.Seq] ∧ x.Message.bD.length ≤ c6 ∧ C jL w A6 x.Message.bD := by
 obtain ⟨_, _, rfl, rfl, s_Message⟩ := h
 obtain ⟨A6, c6, rfl, hl6, hC6⟩ := nW s_Message
 exact ⟨A6, c6, rfl, hl6, hC6⟩
theorem kl_Outgoing_at {w : World} {A : Option Addr} {l : List GOutgoing} (h : C iG w A l) (i : Nat) (hi : i < l.length) : ∃ (ad : Addr) (A6 : Option Addr) (c6 : Nat), A = some ad ∧ w.cell? (ad.add (i * 13)) = some (.int .i64 l[i].To) ∧ w.cell? ⟨(ad.add (i * 13)).block, (ad.add (i * 13)).off + 1, none⟩ = some (.int .i64 l[i].Message.Kind) ∧ w.cell? ⟨(ad.add (i * 13)).block, (ad.add (i * 13)).off + 2, none⟩ = some (.int .i64 l[i].Message.Pos) ∧ w.cell? ⟨(ad.add (i * 13)).block, (ad.add (i * 13)).off + 3, none⟩ = some (.int .i64 l[i].Message.dH) ∧ w.cell? ⟨(ad.add (i * 13)).block, (ad.add (i * 13)).off + 4, none⟩ = some (.int .i64 l[i].Message.Question) ∧ w.cell? ⟨(ad.add (i * 13)).block, (ad.add (i * 13)).off + 5, none⟩ = some (.string l[i].Message.Name) ∧ w.cell? ⟨(ad.add (i * 13)).block, (ad.add (i * 13)).off + 6, none⟩ = some (.slice A6 l[i].Message.bD.length c6) ∧ w.cell? ⟨(ad.add (i * 13)).block, (ad.add (i * 13)).off + 7, none⟩ = some (.int .i64 l[i].Message.Value.Kind) ∧ w.cell? ⟨(ad.add (i * 13)).block, (ad.add (i * 13)).off + 8, none⟩ = some (.int .i64 l[i].Message.Value.N) ∧ w.cell? ⟨(ad.add (i * 13)).block, (ad.add (i * 13)).off + 9, none⟩ = some (.int .i64 l[i].Message.Count) ∧ w.cell? ⟨(ad.add (i * 13)).block, (ad.add (i * 13)).off + 10, none⟩ = some (.int .i64 l[i].Message.Tag.Vat) ∧ w.cell? ⟨(ad.add (i * 13)).block, (ad.add (i * 13)).off + 11, none⟩ = some (.int .i64 l[i].Message.Tag.Entity) ∧ w.cell? ⟨(ad.add (i * 13)).block, (ad.add (i * 13)).off + 12, none⟩ = some (.int .i64 l[i].Message.Tag.Seq) ∧ l[i].Message.bD.length ≤ c6 ∧ C jL w A6 l[i].Message.bD := by
 obtain ⟨ad, c, h1, h2, h3, h4⟩ := C_at h i hi
 obtain ⟨A6, c6, rfl, hl6, hC6⟩ := pG h2
 exact ⟨ad, A6, c6, h1, h3 _ rfl, h4 0 _ rfl, h4 1 _ rfl, h4 2 _ rfl, h4 3 _ rfl, h4 4 _ rfl, h4 5 _ rfl, h4 6 _ rfl, h4 7 _ rfl, h4 8 _ rfl, h4 9 _ rfl, h4 10 _ rfl, h4 11 _ rfl, hl6, hC6⟩
def dL : Kn GOutgoing := Kn.iso (Kn.pair Kn.int dM) (fun x => (x.To, x.Message))
theorem jO {w : World} {x : GOutgoing} {cs : List Value} (h : dL.K w x cs) : ∃ (A6 : Option Addr) (c6 : Nat), cs = [.int .i64 x.To, .int .i64 x.Message.Kind, .int .i64 x.Message.Pos, .int .i64 x.Message.dH, .int .i64 x.Message.Question, .string x.Message.Name, .slice A6 x.Message.bD.length c6, .int .i64 x.Message.Value.Kind, .int .i64 x.Message.Value.N, .int .i64 x.Message.Count, .int .i64 x.Message.Tag.Vat, .int .i64 x.Message.Tag.Entity, .int .i64 x.Message.Tag.Seq] ∧ x.Message.bD.length ≤ c6 ∧ C fT w A6 x.Message.bD := by
 obtain ⟨_, _, rfl, rfl, s_Message⟩ := h
 obtain ⟨A6, c6, rfl, hl6, hC6⟩ := jM s_Message
 exact ⟨A6, c6, rfl, hl6, hC6⟩
theorem ki_Outgoing_at {w : World} {A : Option Addr} {l : List GOutgoing} (h : C dL w A l) (i : Nat) (hi : i < l.length) : ∃ (ad : Addr) (A6 : Option Addr) (c6 : Nat), A = some ad ∧ w.cell? (ad.add (i * 13)) = some (.int .i64 l[i].To) ∧ w.cell? ⟨(ad.add (i * 13)).block, (ad.add (i * 13)).off + 1, none⟩ = some (.int .i64 l[i].Message.Kind) ∧ w.cell? ⟨(ad.add (i * 13)).block, (ad.add (i * 13)).off + 2, none⟩ = some (.int .i64 l[i].Message.Pos) ∧ w.cell? ⟨(ad.add (i * 13)).block, (ad.add (i * 13)).off + 3, none⟩ = some (.int .i64 l[i].Message.dH) ∧ w.cell? ⟨(ad.add (i * 13)).block, (ad.add (i * 13)).off + 4, none⟩ = some (.int .i64 l[i].Message.Question) ∧ w.cell? ⟨(ad.add (i * 13)).block, (ad.add (i * 13)).off + 5, none⟩ = some (.string l[i].Message.Name) ∧ w.cell? ⟨(ad.add (i * 13)).block, (ad.add (i * 13)).off + 6, none⟩ = some (.slice A6 l[i].Message.bD.length c6) ∧ w.cell? ⟨(ad.add (i * 13)).block, (ad.add (i * 13)).off + 7, none⟩ = some (.int .i64 l[i].Message.Value.Kind) ∧ w.cell? ⟨(ad.add (i * 13)).block, (ad.add (i * 13)).off + 8, none⟩ = some (.int .i64 l[i].Message.Value.N) ∧ w.cell? ⟨(ad.add (i * 13)).block, (ad.add (i * 13)).off + 9, none⟩ = some (.int .i64 l[i].Message.Count) ∧ w.cell? ⟨(ad.add (i * 13)).block, (ad.add (i * 13)).off + 10, none⟩ = some (.int .i64 l[i].Message.Tag.Vat) ∧ w.cell? ⟨(ad.add (i * 13)).block, (ad.add (i * 13)).off + 11, none⟩ = some (.int .i64 l[i].Message.Tag.Entity) ∧ w.cell? ⟨(ad.add (i * 13)).block, (ad.add (i * 13)).off + 12, none⟩ = some (.int .i64 l[i].Message.Tag.Seq) ∧ l[i].Message.bD.length ≤ c6 ∧ C fT w A6 l[i].Message.bD := by
 obtain ⟨ad, c, h1, h2, h3, h4⟩ := C_at h i hi
 obtain ⟨A6, c6, rfl, hl6, hC6⟩ := jO h2
 exact ⟨ad, A6, c6, h1, h3 _ rfl, h4 0 _ rfl, h4 1 _ rfl, h4 2 _ rfl, h4 3 _ rfl, h4 4 _ rfl, h4 5 _ rfl, h4 6 _ rfl, h4 7 _ rfl, h4 8 _ rfl, h4 9 _ rfl, h4 10 _ rfl, h4 11 _ rfl, hl6, hC6⟩
theorem ki_Outgoing_M {w : World} {F : Nat → Prop} {x : GOutgoing} {cs : List Value} (h : dL.M w F x cs) : ∃ (v6 : Value) (P6 : Nat → Prop), cs = [.int .i64 x.To, .int .i64 x.Message.Kind, .int .i64 x.Message.Pos, .int .i64 x.Message.dH, .int .i64 x.Message.Question, .string x.Message.Name, v6, .int .i64 x.Message.Value.Kind, .int .i64 x.Message.Value.N, .int .i64 x.Message.Count, .int .i64 x.Message.Tag.Vat, .int .i64 x.Message.Tag.Entity, .int .i64 x.Message.Tag.Seq] ∧ R fT 139 w P6 v6 x.Message.bD ∧ (∀ k, P6 k → F k) := by
 obtain ⟨_, _, F0, G0, rfl, rfl, s1, a0, b0, d0⟩ := h
 obtain ⟨v6, P6, rfl, hR6, i6⟩ := nX s1
 exact ⟨v6, P6, rfl, hR6, fun k hk => (b0 k (i6 k hk))⟩
theorem oU (w : World) (F : Nat → Prop) (x : GOutgoing) {v6 : Value} {P6 : Nat → Prop} (h6 : R fT 139 w P6 v6 x.Message.bD) (i6 : ∀ k, P6 k → F k) : dL.M w F x [.int .i64 x.To, .int .i64 x.Message.Kind, .int .i64 x.Message.Pos, .int .i64 x.Message.dH, .int .i64 x.Message.Question, .string x.Message.Name, v6, .int .i64 x.Message.Value.Kind, .int .i64 x.Message.Value.N, .int .i64 x.Message.Count, .int .i64 x.Message.Tag.Vat, .int .i64 x.Message.Tag.Entity, .int .i64 x.Message.Tag.Seq] :=
 ⟨[_], [_, _, _, _, _, _, _, _, _, _, _, _], No, P6, rfl, rfl, (mY w P6 _ h6 (fun _ h => h)), fun _ h => h.elim, i6, fun _ h => h.elim⟩
theorem ki_Outgoing_info : (Tryz.prog.info? 143).map (fun i => (i.zero, i.size, i.bytes)) = some (some (.agg #[.int .i64 0, .int .i64 0, .int .i64 0, .int .i64 0, .int .i64 0, .string ⟨#[]⟩, .slice none 0 0, .int .i64 0, .int .i64 0, .int .i64 0, .int .i64 0, .int .i64 0, .int .i64 0]), 13, 128) := by kernel_rfl
theorem ki_Outgoing_zero (w : World) : dL.M w No mR [.int .i64 0, .int .i64 0, .int .i64 0, .int .i64 0, .int .i64 0, .string ⟨#[]⟩, .slice none 0 0, .int .i64 0, .int .i64 0, .int .i64 0, .int .i64 0, .int .i64 0, .int .i64 0] := oU w No mR (P6 := No) R_nil (fun _ h => h)
def kl_Vat : Kn GVat := Kn.iso (Kn.pair Kn.int (Kn.pair (Kn.slice 204 jD) (Kn.pair (Kn.slice 207 jG) (Kn.pair (Kn.slice 212 kY) (Kn.slice 219 iG))))) (fun x => (x.Id, x.aT, x.Loop, x.bZ, x.Out))
theorem kl_Vat_K {w : World} {x : GVat} {cs : List Value} (h : kl_Vat.K w x cs) : ∃ (A1 : Option Addr) (c1 : Nat) (A2 : Option Addr) (c2 : Nat) (A3 : Option Addr) (c3 : Nat) (A4 : Option Addr) (c4 : Nat), cs = [.int .i64 x.Id, .slice A1 x.aT.length c1, .slice A2 x.Loop.length c2, .slice A3 x.bZ.length c3, .slice A4 x.Out.length c4] ∧ x.aT.length ≤ c1 ∧ C jD w A1 x.aT ∧ x.Loop.length ≤ c2 ∧ C jG w A2 x.Loop ∧ x.bZ.length ≤ c3 ∧ C kY w A3 x.bZ ∧ x.Out.length ≤ c4 ∧ C iG w A4 x.Out := by
 obtain ⟨_, _, rfl, rfl, ⟨_, _, rfl, ⟨A1, c1, rfl, hl1, hC1⟩, ⟨_, _, rfl, ⟨A2, c2, rfl, hl2, hC2⟩, ⟨_, _, rfl, ⟨A3, c3, rfl, hl3, hC3⟩, ⟨A4, c4, rfl, hl4, hC4⟩⟩⟩⟩⟩ := h
 exact ⟨A1, c1, A2, c2, A3, c3, A4, c4, rfl, hl1, hC1, hl2, hC2, hl3, hC3, hl4, hC4⟩
theorem kl_Vat_at {w : World} {A : Option Addr} {l : List GVat} (h : C kl_Vat w A l) (i : Nat) (hi : i < l.length) : ∃ (ad : Addr) (A1 : Option Addr) (c1 : Nat) (A2 : Option Addr) (c2 : Nat) (A3 : Option Addr) (c3 : Nat) (A4 : Option Addr) (c4 : Nat), A = some ad ∧ w.cell? (ad.add (i * 5)) = some (.int .i64 l[i].Id) ∧ w.cell? ⟨(ad.add (i * 5)).block, (ad.add (i * 5)).off + 1, none⟩ = some (.slice A1 l[i].aT.length c1) ∧ w.cell? ⟨(ad.add (i * 5)).block, (ad.add (i * 5)).off + 2, none⟩ = some (.slice A2 l[i].Loop.length c2) ∧ w.cell? ⟨(ad.add (i * 5)).block, (ad.add (i * 5)).off + 3, none⟩ = some (.slice A3 l[i].bZ.length c3) ∧ w.cell? ⟨(ad.add (i * 5)).block, (ad.add (i * 5)).off + 4, none⟩ = some (.slice A4 l[i].Out.length c4) ∧ l[i].aT.length ≤ c1 ∧ C jD w A1 l[i].aT ∧ l[i].Loop.length ≤ c2 ∧ C jG w A2 l[i].Loop ∧ l[i].bZ.length ≤ c3 ∧ C kY w A3 l[i].bZ ∧ l[i].Out.length ≤ c4 ∧ C iG w A4 l[i].Out := by
 obtain ⟨ad, c, h1, h2, h3, h4⟩ := C_at h i hi
 obtain ⟨A1, c1, A2, c2, A3, c3, A4, c4, rfl, hl1, hC1, hl2, hC2, hl3, hC3, hl4, hC4⟩ := kl_Vat_K h2
 exact ⟨ad, A1, c1, A2, c2, A3, c3, A4, c4, h1, h3 _ rfl, h4 0 _ rfl, h4 1 _ rfl, h4 2 _ rfl, h4 3 _ rfl, hl1, hC1, hl2, hC2, hl3, hC3, hl4, hC4⟩
def iK : Kn GVat := Kn.iso (Kn.pair Kn.int (Kn.pair (Kn.slice 132 dW) (Kn.pair (Kn.slice 178 eX) (Kn.pair (Kn.slice 137 gK) (Kn.slice 143 dL))))) (fun x => (x.Id, x.aT, x.Loop, x.bZ, x.Out))
theorem oV {w : World} {x : GVat} {cs : List Value} (h : iK.K w x cs) : ∃ (A1 : Option Addr) (c1 : Nat) (A2 : Option Addr) (c2 : Nat) (A3 : Option Addr) (c3 : Nat) (A4 : Option Addr) (c4 : Nat), cs = [.int .i64 x.Id, .slice A1 x.aT.length c1, .slice A2 x.Loop.length c2, .slice A3 x.bZ.length c3, .slice A4 x.Out.length c4] ∧ x.aT.length ≤ c1 ∧ C dW w A1 x.aT ∧ x.Loop.length ≤ c2 ∧ C eX w A2 x.Loop ∧ x.bZ.length ≤ c3 ∧ C gK w A3 x.bZ ∧ x.Out.length ≤ c4 ∧ C dL w A4 x.Out := by
 obtain ⟨_, _, rfl, rfl, ⟨_, _, rfl, ⟨A1, c1, rfl, hl1, hC1⟩, ⟨_, _, rfl, ⟨A2, c2, rfl, hl2, hC2⟩, ⟨_, _, rfl, ⟨A3, c3, rfl, hl3, hC3⟩, ⟨A4, c4, rfl, hl4, hC4⟩⟩⟩⟩⟩ := h
 exact ⟨A1, c1, A2, c2, A3, c3, A4, c4, rfl, hl1, hC1, hl2, hC2, hl3, hC3, hl4, hC4⟩
theorem ki_Vat_at {w : World} {A : Option Addr} {l : List GVat} (h : C iK w A l) (i : Nat) (hi : i < l.length) : ∃ (ad : Addr) (A1 : Option Addr) (c1 : Nat) (A2 : Option Addr) (c2 : Nat) (A3 : Option Addr) (c3 : Nat) (A4 : Option Addr) (c4 : Nat), A = some ad ∧ w.cell? (ad.add (i * 5)) = some (.int .i64 l[i].Id) ∧ w.cell? ⟨(ad.add (i * 5)).block, (ad.add (i * 5)).off + 1, none⟩ = some (.slice A1 l[i].aT.length c1) ∧ w.cell? ⟨(ad.add (i * 5)).block, (ad.add (i * 5)).off + 2, none⟩ = some (.slice A2 l[i].Loop.length c2) ∧ w.cell? ⟨(ad.add (i * 5)).block, (ad.add (i * 5)).off + 3, none⟩ = some (.slice A3 l[i].bZ.length c3) ∧ w.cell? ⟨(ad.add (i * 5)).block, (ad.add (i * 5)).off + 4, none⟩ = some (.slice A4 l[i].Out.length c4) ∧ l[i].aT.length ≤ c1 ∧ C dW w A1 l[i].aT ∧ l[i].Loop.length ≤ c2 ∧ C eX w A2 l[i].Loop ∧ l[i].bZ.length ≤ c3 ∧ C gK w A3 l[i].bZ ∧ l[i].Out.length ≤ c4 ∧ C dL w A4 l[i].Out := by
 obtain ⟨ad, c, h1, h2, h3, h4⟩ := C_at h i hi
 obtain ⟨A1, c1, A2, c2, A3, c3, A4, c4, rfl, hl1, hC1, hl2, hC2, hl3, hC3, hl4, hC4⟩ := oV h2
 exact ⟨ad, A1, c1, A2, c2, A3, c3, A4, c4, h1, h3 _ rfl, h4 0 _ rfl, h4 1 _ rfl, h4 2 _ rfl, h4 3 _ rfl, hl1, hC1, hl2, hC2, hl3, hC3, hl4, hC4⟩
theorem ki_Vat_M {w : World} {F : Nat → Prop} {x : GVat} {cs : List Value} (h : iK.M w F x cs) : ∃ (v1 : Value) (P1 : Nat → Prop) (v2 : Value) (P2 : Nat → Prop) (v3 : Value) (P3 : Nat → Prop) (v4 : Value) (P4 : Nat → Prop), cs = [.int .i64 x.Id, v1, v2, v3, v4] ∧ R dW 132 w P1 v1 x.aT ∧ R eX 178 w P2 v2 x.Loop ∧ R gK 137 w P3 v3 x.bZ ∧ R dL 143 w P4 v4 x.Out ∧ (∀ k, P1 k → F k) ∧ (∀ k, P2 k → F k) ∧ (∀ k, P3 k → F k) ∧ (∀ k, P4 k → F k) ∧ (∀ k, P1 k → ¬ P2 k) ∧ (∀ k, P1 k → ¬ P3 k) ∧ (∀ k, P1 k → ¬ P4 k) ∧ (∀ k, P2 k → ¬ P3 k) ∧ (∀ k, P2 k → ¬ P4 k) ∧ (∀ k, P3 k → ¬ P4 k) := by
 obtain ⟨_, _, F0, G0, rfl, rfl, ⟨_, _, F1, G1, rfl, ⟨v1, rfl, hR1⟩, ⟨_, _, F2, G2, rfl, ⟨v2, rfl, hR2⟩, ⟨_, _, F3, G3, rfl, ⟨v3, rfl, hR3⟩, ⟨v4, rfl, hR4⟩, a3, b3, d3⟩, a2, b2, d2⟩, a1, b1, d1⟩, a0, b0, d0⟩ := h
 exact ⟨v1, F1, v2, F2, v3, F3, v4, G3, rfl, hR1, hR2, hR3, hR4, fun k hk => (b0 k (a1 k hk)), fun k hk => (b0 k (b1 k (a2 k hk))), fun k hk => (b0 k (b1 k (b2 k (a3 k hk)))), fun k hk => (b0 k (b1 k (b2 k (b3 k hk)))), fun k hk hk' => d1 k hk (a2 k hk'), fun k hk hk' => d1 k hk (b2 k (a3 k hk')), fun k hk hk' => d1 k hk (b2 k (b3 k hk')), fun k hk hk' => d2 k hk (a3 k hk'), fun k hk hk' => d2 k hk (b3 k hk'), fun k hk hk' => d3 k hk hk'⟩
theorem ki_Vat_mk (w : World) (F : Nat → Prop) (x : GVat) {v1 : Value} {P1 : Nat → Prop} (h1 : R dW 132 w P1 v1 x.aT) {v2 : Value} {P2 : Nat → Prop} (h2 : R eX 178 w P2 v2 x.Loop) {v3 : Value} {P3 : Nat → Prop} (h3 : R gK 137 w P3 v3 x.bZ) {v4 : Value} {P4 : Nat → Prop} (h4 : R dL 143 w P4 v4 x.Out) (i1 : ∀ k, P1 k → F k) (i2 : ∀ k, P2 k → F k) (i3 : ∀ k, P3 k → F k) (i4 : ∀ k, P4 k → F k) (d1_2 : ∀ k, P1 k → ¬ P2 k) (d1_3 : ∀ k, P1 k → ¬ P3 k) (d1_4 : ∀ k, P1 k → ¬ P4 k) (d2_3 : ∀ k, P2 k → ¬ P3 k) (d2_4 : ∀ k, P2 k → ¬ P4 k) (d3_4 : ∀ k, P3 k → ¬ P4 k) : iK.M w F x [.int .i64 x.Id, v1, v2, v3, v4] :=
 ⟨[_], [_, _, _, _], No, (fun k => P1 k ∨ P2 k ∨ P3 k ∨ P4 k), rfl, rfl, ⟨[_], [_, _, _], P1, (fun k => P2 k ∨ P3 k ∨ P4 k), rfl, ⟨_, rfl, h1⟩, ⟨[_], [_, _], P2, (fun k => P3 k ∨ P4 k), rfl, ⟨_, rfl, h2⟩, ⟨[_], [_], P3, P4, rfl, ⟨_, rfl, h3⟩, ⟨_, rfl, h4⟩, fun k h => by first | exact h | exact Or.inl h | exact Or.inr h, fun k h => by first | exact h | exact Or.inl h | exact Or.inr h, fun k h h' => by exact d3_4 k h h'⟩, fun k h => by first | exact h | exact Or.inl h | exact Or.inr h, fun k h => by first | exact h | exact Or.inl h | exact Or.inr h, fun k h h' => by rcases h' with h' | h' <;> first | exact d2_3 k h h' | exact d2_4 k h h'⟩, fun k h => by first | exact h | exact Or.inl h | exact Or.inr h, fun k h => by first | exact h | exact Or.inl h | exact Or.inr h, fun k h h' => by rcases h' with h' | h' | h' <;> first | exact d1_2 k h h' | exact d1_3 k h h' | exact d1_4 k h h'⟩, fun _ h => h.elim, fun k h => by rcases h with h | h | h | h <;> first | exact i1 k h | exact i2 k h | exact i3 k h | exact i4 k h, fun _ h => h.elim⟩
theorem ki_Vat_info : (Tryz.prog.info? 80).map (fun i => (i.zero, i.size, i.bytes)) = some (some (.agg #[.int .i64 0, .slice none 0 0, .slice none 0 0, .slice none 0 0, .slice none 0 0]), 5, 104) := by kernel_rfl
theorem ki_Vat_zero (w : World) : iK.M w No zVat [.int .i64 0, .slice none 0 0, .slice none 0 0, .slice none 0 0, .slice none 0 0] := ki_Vat_mk w No zVat (P1 := No) R_nil (P2 := No) R_nil (P3 := No) R_nil (P4 := No) R_nil (fun _ h => h) (fun _ h => h) (fun _ h => h) (fun _ h => h) (fun _ h => h.elim) (fun _ h => h.elim) (fun _ h => h.elim) (fun _ h => h.elim) (fun _ h => h.elim) (fun _ h => h.elim)
def jE : Kn GChannel := Kn.iso (Kn.pair Kn.int (Kn.pair Kn.int (Kn.slice 217 iE))) (fun x => (x.From, x.To, x.List))
theorem kl_Channel_K {w : World} {x : GChannel} {cs : List Value} (h : jE.K w x cs) : ∃ (A2 : Option Addr) (c2 : Nat), cs = [.int .i64 x.From, .int .i64 x.To, .slice A2 x.List.length c2] ∧ x.List.length ≤ c2 ∧ C iE w A2 x.List := by
 obtain ⟨_, _, rfl, rfl, ⟨_, _, rfl, rfl, ⟨A2, c2, rfl, hl2, hC2⟩⟩⟩ := h
 exact ⟨A2, c2, rfl, hl2, hC2⟩
theorem kl_Channel_at {w : World} {A : Option Addr} {l : List GChannel} (h : C jE w A l) (i : Nat) (hi : i < l.length) : ∃ (ad : Addr) (A2 : Option Addr) (c2 : Nat), A = some ad ∧ w.cell? (ad.add (i * 3)) = some (.int .i64 l[i].From) ∧ w.cell? ⟨(ad.add (i * 3)).block, (ad.add (i * 3)).off + 1, none⟩ = some (.int .i64 l[i].To) ∧ w.cell? ⟨(ad.add (i * 3)).block, (ad.add (i * 3)).off + 2, none⟩ = some (.slice A2 l[i].List.length c2) ∧ l[i].List.length ≤ c2 ∧ C iE w A2 l[i].List := by
 obtain ⟨ad, c, h1, h2, h3, h4⟩ := C_at h i hi
 obtain ⟨A2, c2, rfl, hl2, hC2⟩ := kl_Channel_K h2
 exact ⟨ad, A2, c2, h1, h3 _ rfl, h4 0 _ rfl, h4 1 _ rfl, hl2, hC2⟩
def dQ : Kn GChannel := Kn.iso (Kn.pair Kn.int (Kn.pair Kn.int (Kn.slice 141 dM))) (fun x => (x.From, x.To, x.List))
theorem kE {w : World} {x : GChannel} {cs : List Value} (h : dQ.K w x cs) : ∃ (A2 : Option Addr) (c2 : Nat), cs = [.int .i64 x.From, .int .i64 x.To, .slice A2 x.List.length c2] ∧ x.List.length ≤ c2 ∧ C dM w A2 x.List := by
 obtain ⟨_, _, rfl, rfl, ⟨_, _, rfl, rfl, ⟨A2, c2, rfl, hl2, hC2⟩⟩⟩ := h
 exact ⟨A2, c2, rfl, hl2, hC2⟩
theorem ki_Channel_at {w : World} {A : Option Addr} {l : List GChannel} (h : C dQ w A l) (i : Nat) (hi : i < l.length) : ∃ (ad : Addr) (A2 : Option Addr) (c2 : Nat), A = some ad ∧ w.cell? (ad.add (i * 3)) = some (.int .i64 l[i].From) ∧ w.cell? ⟨(ad.add (i * 3)).block, (ad.add (i * 3)).off + 1, none⟩ = some (.int .i64 l[i].To) ∧ w.cell? ⟨(ad.add (i * 3)).block, (ad.add (i * 3)).off + 2, none⟩ = some (.slice A2 l[i].List.length c2) ∧ l[i].List.length ≤ c2 ∧ C dM w A2 l[i].List := by
 obtain ⟨ad, c, h1, h2, h3, h4⟩ := C_at h i hi
 obtain ⟨A2, c2, rfl, hl2, hC2⟩ := kE h2
 exact ⟨ad, A2, c2, h1, h3 _ rfl, h4 0 _ rfl, h4 1 _ rfl, hl2, hC2⟩
theorem ki_Channel_M {w : World} {F : Nat → Prop} {x : GChannel} {cs : List Value} (h : dQ.M w F x cs) : ∃ (v2 : Value) (P2 : Nat → Prop), cs = [.int .i64 x.From, .int .i64 x.To, v2] ∧ R dM 141 w P2 v2 x.List ∧ (∀ k, P2 k → F k) := by
 obtain ⟨_, _, F0, G0, rfl, rfl, ⟨_, _, F1, G1, rfl, rfl, ⟨v2, rfl, hR2⟩, a1, b1, d1⟩, a0, b0, d0⟩ := h
 exact ⟨v2, G1, rfl, hR2, fun k hk => (b0 k (b1 k hk))⟩
theorem pI (w : World) (F : Nat → Prop) (x : GChannel) {v2 : Value} {P2 : Nat → Prop} (h2 : R dM 141 w P2 v2 x.List) (i2 : ∀ k, P2 k → F k) : dQ.M w F x [.int .i64 x.From, .int .i64 x.To, v2] :=
 ⟨[_], [_, _], No, P2, rfl, rfl, ⟨[_], [_], No, P2, rfl, rfl, ⟨_, rfl, h2⟩, fun _ h => h.elim, fun _ h => h, fun _ h => h.elim⟩, fun _ h => h.elim, i2, fun _ h => h.elim⟩
theorem ki_Channel_info : (Tryz.prog.info? 102).map (fun i => (i.zero, i.size, i.bytes)) = some (some (.agg #[.int .i64 0, .int .i64 0, .slice none 0 0]), 3, 40) := by kernel_rfl
theorem ki_Channel_zero (w : World) : dQ.M w No oO [.int .i64 0, .int .i64 0, .slice none 0 0] := pI w No oO (P2 := No) R_nil (fun _ h => h)
def mZ : Kn GNote := Kn.iso (Kn.pair Kn.int (Kn.pair Kn.int (Kn.pair Kn.int kl_Tag))) (fun x => (x.Kind, x.Vat, x.Entity, x.Tag))
theorem kl_Note_K {w : World} {x : GNote} {cs : List Value} (h : mZ.K w x cs) : cs = [.int .i64 x.Kind, .int .i64 x.Vat, .int .i64 x.Entity, .int .i64 x.Tag.Vat, .int .i64 x.Tag.Entity, .int .i64 x.Tag.Seq] := by
 obtain ⟨_, _, rfl, rfl, ⟨_, _, rfl, rfl, ⟨_, _, rfl, rfl, s_Tag⟩⟩⟩ := h
 obtain rfl := kl_Tag_K s_Tag
 exact rfl
theorem kl_Note_at {w : World} {A : Option Addr} {l : List GNote} (h : C mZ w A l) (i : Nat) (hi : i < l.length) : ∃ (ad : Addr), A = some ad ∧ w.cell? (ad.add (i * 6)) = some (.int .i64 l[i].Kind) ∧ w.cell? ⟨(ad.add (i * 6)).block, (ad.add (i * 6)).off + 1, none⟩ = some (.int .i64 l[i].Vat) ∧ w.cell? ⟨(ad.add (i * 6)).block, (ad.add (i * 6)).off + 2, none⟩ = some (.int .i64 l[i].Entity) ∧ w.cell? ⟨(ad.add (i * 6)).block, (ad.add (i * 6)).off + 3, none⟩ = some (.int .i64 l[i].Tag.Vat) ∧ w.cell? ⟨(ad.add (i * 6)).block, (ad.add (i * 6)).off + 4, none⟩ = some (.int .i64 l[i].Tag.Entity) ∧ w.cell? ⟨(ad.add (i * 6)).block, (ad.add (i * 6)).off + 5, none⟩ = some (.int .i64 l[i].Tag.Seq) := by
 obtain ⟨ad, c, h1, h2, h3, h4⟩ := C_at h i hi
 obtain rfl := kl_Note_K h2
 exact ⟨ad, h1, h3 _ rfl, h4 0 _ rfl, h4 1 _ rfl, h4 2 _ rfl, h4 3 _ rfl, h4 4 _ rfl⟩
def iD : Kn GNote := Kn.iso (Kn.pair Kn.int (Kn.pair Kn.int (Kn.pair Kn.int ki_Tag))) (fun x => (x.Kind, x.Vat, x.Entity, x.Tag))
theorem lZ {w : World} {x : GNote} {cs : List Value} (h : iD.K w x cs) : cs = [.int .i64 x.Kind, .int .i64 x.Vat, .int .i64 x.Entity, .int .i64 x.Tag.Vat, .int .i64 x.Tag.Entity, .int .i64 x.Tag.Seq] := by
 obtain ⟨_, _, rfl, rfl, ⟨_, _, rfl, rfl, ⟨_, _, rfl, rfl, s_Tag⟩⟩⟩ := h
 obtain rfl := ki_Tag_K s_Tag
 exact rfl
theorem ki_Note_at {w : World} {A : Option Addr} {l : List GNote} (h : C iD w A l) (i : Nat) (hi : i < l.length) : ∃ (ad : Addr), A = some ad ∧ w.cell? (ad.add (i * 6)) = some (.int .i64 l[i].Kind) ∧ w.cell? ⟨(ad.add (i * 6)).block, (ad.add (i * 6)).off + 1, none⟩ = some (.int .i64 l[i].Vat) ∧ w.cell? ⟨(ad.add (i * 6)).block, (ad.add (i * 6)).off + 2, none⟩ = some (.int .i64 l[i].Entity) ∧ w.cell? ⟨(ad.add (i * 6)).block, (ad.add (i * 6)).off + 3, none⟩ = some (.int .i64 l[i].Tag.Vat) ∧ w.cell? ⟨(ad.add (i * 6)).block, (ad.add (i * 6)).off + 4, none⟩ = some (.int .i64 l[i].Tag.Entity) ∧ w.cell? ⟨(ad.add (i * 6)).block, (ad.add (i * 6)).off + 5, none⟩ = some (.int .i64 l[i].Tag.Seq) := by
 obtain ⟨ad, c, h1, h2, h3, h4⟩ := C_at h i hi
 obtain rfl := lZ h2
 exact ⟨ad, h1, h3 _ rfl, h4 0 _ rfl, h4 1 _ rfl, h4 2 _ rfl, h4 3 _ rfl, h4 4 _ rfl⟩
theorem ki_Note_M {w : World} {F : Nat → Prop} {x : GNote} {cs : List Value} (h : iD.M w F x cs) : cs = [.int .i64 x.Kind, .int .i64 x.Vat, .int .i64 x.Entity, .int .i64 x.Tag.Vat, .int .i64 x.Tag.Entity, .int .i64 x.Tag.Seq] := by
 exact lZ (iD.kL h)
theorem ki_Note_mk (w : World) (F : Nat → Prop) (x : GNote) : iD.M w F x [.int .i64 x.Kind, .int .i64 x.Vat, .int .i64 x.Entity, .int .i64 x.Tag.Vat, .int .i64 x.Tag.Entity, .int .i64 x.Tag.Seq] :=
 ⟨[_], [_, _, _, _, _], No, No, rfl, rfl, ⟨[_], [_, _, _, _], No, No, rfl, rfl, ⟨[_], [_, _, _], No, No, rfl, rfl, (ki_Tag_mk w No _), fun _ h => h.elim, fun _ h => h.elim, fun _ h => h.elim⟩, fun _ h => h.elim, fun _ h => h.elim, fun _ h => h.elim⟩, fun _ h => h.elim, fun _ h => h.elim, fun _ h => h.elim⟩
theorem ki_Note_info : (Tryz.prog.info? 52).map (fun i => (i.zero, i.size, i.bytes)) = some (some (.agg #[.int .i64 0, .int .i64 0, .int .i64 0, .int .i64 0, .int .i64 0, .int .i64 0]), 6, 48) := by kernel_rfl
theorem ki_Note_zero (w : World) : iD.M w No zNote [.int .i64 0, .int .i64 0, .int .i64 0, .int .i64 0, .int .i64 0, .int .i64 0] := ki_Note_mk w No zNote
def lM : Kn GWorld := Kn.iso (Kn.pair (Kn.slice 86 jU) (Kn.pair (Kn.slice 93 kl_Vat) (Kn.pair (Kn.slice 97 jE) (Kn.pair (Kn.slice 107 mZ) Kn.int)))) (fun x => (x.bE, x.eT, x.bH, x.bK, x.eO))
theorem kl_World_K {w : World} {x : GWorld} {cs : List Value} (h : lM.K w x cs) : ∃ (A0 : Option Addr) (c0 : Nat) (A1 : Option Addr) (c1 : Nat) (A2 : Option Addr) (c2 : Nat) (A3 : Option Addr) (c3 : Nat), cs = [.slice A0 x.bE.length c0, .slice A1 x.eT.length c1, .slice A2 x.bH.length c2, .slice A3 x.bK.length c3, .int .i64 x.eO] ∧ x.bE.length ≤ c0 ∧ C jU w A0 x.bE ∧ x.eT.length ≤ c1 ∧ C kl_Vat w A1 x.eT ∧ x.bH.length ≤ c2 ∧ C jE w A2 x.bH ∧ x.bK.length ≤ c3 ∧ C mZ w A3 x.bK := by
 obtain ⟨_, _, rfl, ⟨A0, c0, rfl, hl0, hC0⟩, ⟨_, _, rfl, ⟨A1, c1, rfl, hl1, hC1⟩, ⟨_, _, rfl, ⟨A2, c2, rfl, hl2, hC2⟩, ⟨_, _, rfl, ⟨A3, c3, rfl, hl3, hC3⟩, rfl⟩⟩⟩⟩ := h
 exact ⟨A0, c0, A1, c1, A2, c2, A3, c3, rfl, hl0, hC0, hl1, hC1, hl2, hC2, hl3, hC3⟩
def iL : Kn GWorld := Kn.iso (Kn.pair (Kn.slice 73 eU) (Kn.pair (Kn.slice 80 iK) (Kn.pair (Kn.slice 102 dQ) (Kn.pair (Kn.slice 52 iD) Kn.int)))) (fun x => (x.bE, x.eT, x.bH, x.bK, x.eO))
theorem mW {w : World} {x : GWorld} {cs : List Value} (h : iL.K w x cs) : ∃ (A0 : Option Addr) (c0 : Nat) (A1 : Option Addr) (c1 : Nat) (A2 : Option Addr) (c2 : Nat) (A3 : Option Addr) (c3 : Nat), cs = [.slice A0 x.bE.length c0, .slice A1 x.eT.length c1, .slice A2 x.bH.length c2, .slice A3 x.bK.length c3, .int .i64 x.eO] ∧ x.bE.length ≤ c0 ∧ C eU w A0 x.bE ∧ x.eT.length ≤ c1 ∧ C iK w A1 x.eT ∧ x.bH.length ≤ c2 ∧ C dQ w A2 x.bH ∧ x.bK.length ≤ c3 ∧ C iD w A3 x.bK := by
 obtain ⟨_, _, rfl, ⟨A0, c0, rfl, hl0, hC0⟩, ⟨_, _, rfl, ⟨A1, c1, rfl, hl1, hC1⟩, ⟨_, _, rfl, ⟨A2, c2, rfl, hl2, hC2⟩, ⟨_, _, rfl, ⟨A3, c3, rfl, hl3, hC3⟩, rfl⟩⟩⟩⟩ := h
 exact ⟨A0, c0, A1, c1, A2, c2, A3, c3, rfl, hl0, hC0, hl1, hC1, hl2, hC2, hl3, hC3⟩
theorem ki_World_mk (w : World) (F : Nat → Prop) (x : GWorld) {v0 : Value} {P0 : Nat → Prop} (h0 : R eU 73 w P0 v0 x.bE) {v1 : Value} {P1 : Nat → Prop} (h1 : R iK 80 w P1 v1 x.eT) {v2 : Value} {P2 : Nat → Prop} (h2 : R dQ 102 w P2 v2 x.bH) {v3 : Value} {P3 : Nat → Prop} (h3 : R iD 52 w P3 v3 x.bK) (i0 : ∀ k, P0 k → F k) (i1 : ∀ k, P1 k → F k) (i2 : ∀ k, P2 k → F k) (i3 : ∀ k, P3 k → F k) (d0_1 : ∀ k, P0 k → ¬ P1 k) (d0_2 : ∀ k, P0 k → ¬ P2 k) (d0_3 : ∀ k, P0 k → ¬ P3 k) (d1_2 : ∀ k, P1 k → ¬ P2 k) (d1_3 : ∀ k, P1 k → ¬ P3 k) (d2_3 : ∀ k, P2 k → ¬ P3 k) : iL.M w F x [v0, v1, v2, v3, .int .i64 x.eO] :=
 ⟨[_], [_, _, _, _], P0, (fun k => P1 k ∨ P2 k ∨ P3 k), rfl, ⟨_, rfl, h0⟩, ⟨[_], [_, _, _], P1, (fun k => P2 k ∨ P3 k), rfl, ⟨_, rfl, h1⟩, ⟨[_], [_, _], P2, P3, rfl, ⟨_, rfl, h2⟩, ⟨[_], [_], P3, No, rfl, ⟨_, rfl, h3⟩, rfl, fun _ h => h, fun _ h => h.elim, fun _ _ h => h.elim⟩, fun k h => by first | exact h | exact Or.inl h | exact Or.inr h, fun k h => by first | exact h | exact Or.inl h | exact Or.inr h, fun k h h' => by exact d2_3 k h h'⟩, fun k h => by first | exact h | exact Or.inl h | exact Or.inr h, fun k h => by first | exact h | exact Or.inl h | exact Or.inr h, fun k h h' => by rcases h' with h' | h' <;> first | exact d1_2 k h h' | exact d1_3 k h h'⟩, i0, fun k h => by rcases h with h | h | h <;> first | exact i1 k h | exact i2 k h | exact i3 k h, fun k h h' => by rcases h' with h' | h' | h' <;> first | exact d0_1 k h h' | exact d0_2 k h h' | exact d0_3 k h h'⟩
end Go.Proofs.YtgaoabnnpjngcaaGreatK
namespace Go.Proofs.YtgaoabnnpjngcaaGreatT
open Go.RowKit Go.Proofs.YtgaoabnnpjngcaaGreatSep Go.Proofs.YtgaoabnnpjngcaaGreatK
theorem nY {W : World} {x : GInstr} {cs : List Value} (h : fU.K W x cs) : cs.length = 6 := fU.jR h
theorem nZ {W : World} {x : GInstr} {cs : List Value} (h : fU.K W x cs) : ∀ u ∈ (List.toArray cs).toList, u.oneCell' = true := fU.jW h
theorem nA {W : World} {x : GMethod} {cs : List Value} (h : eD.K W x cs) : cs.length = 2 := eD.jR h
theorem nC {W : World} {x : GMethod} {cs : List Value} (h : eD.K W x cs) : ∀ u ∈ (List.toArray cs).toList, u.oneCell' = true := eD.jW h
theorem nD {W : World} {x : GScript} {cs : List Value} (h : eU.K W x cs) : cs.length = 2 := eU.jR h
theorem nE {W : World} {x : GScript} {cs : List Value} (h : eU.K W x cs) : ∀ u ∈ (List.toArray cs).toList, u.oneCell' = true := eU.jW h
theorem oC {W : World} {x : GValue} {cs : List Value} (h : dY.K W x cs) : cs.length = 2 := dY.jR h
theorem oD {W : World} {x : GValue} {cs : List Value} (h : dY.K W x cs) : ∀ u ∈ (List.toArray cs).toList, u.oneCell' = true := dY.jW h
theorem oZ {W : World} {x : GSent} {cs : List Value} (h : eX.K W x cs) : cs.length = 7 := eX.jR h
theorem o5 {W : World} {x : GSent} {cs : List Value} (h : eX.K W x cs) : ∀ u ∈ (List.toArray cs).toList, u.oneCell' = true := eX.jW h
theorem oF {W : World} {x : GAsker} {cs : List Value} (h : fV.K W x cs) : cs.length = 2 := fV.jR h
theorem oG {W : World} {x : GAsker} {cs : List Value} (h : fV.K W x cs) : ∀ u ∈ (List.toArray cs).toList, u.oneCell' = true := fV.jW h
theorem nG {W : World} {x : GEntity} {cs : List Value} (h : dW.K W x cs) : cs.length = 12 := dW.jR h
theorem nH {W : World} {x : GEntity} {cs : List Value} (h : dW.K W x cs) : ∀ u ∈ (List.toArray cs).toList, u.oneCell' = true := dW.jW h
theorem nI {W : World} {x : GExport} {cs : List Value} (h : eZ.K W x cs) : cs.length = 3 := eZ.jR h
theorem nJ {W : World} {x : GExport} {cs : List Value} (h : eZ.K W x cs) : ∀ u ∈ (List.toArray cs).toList, u.oneCell' = true := eZ.jW h
theorem lN {W : World} {x : GQuestion} {cs : List Value} (h : dB.K W x cs) : cs.length = 2 := dB.jR h
theorem lQ {W : World} {x : GQuestion} {cs : List Value} (h : dB.K W x cs) : ∀ u ∈ (List.toArray cs).toList, u.oneCell' = true := dB.jW h
theorem o6 {W : World} {x : GLink} {cs : List Value} (h : gK.K W x cs) : cs.length = 7 := gK.jR h
theorem o7 {W : World} {x : GLink} {cs : List Value} (h : gK.K W x cs) : ∀ u ∈ (List.toArray cs).toList, u.oneCell' = true := gK.jW h
theorem o8 {W : World} {x : GWire} {cs : List Value} (h : fT.K W x cs) : cs.length = 2 := fT.jR h
theorem o9 {W : World} {x : GWire} {cs : List Value} (h : fT.K W x cs) : ∀ u ∈ (List.toArray cs).toList, u.oneCell' = true := fT.jW h
theorem mH {W : World} {x : GMessage} {cs : List Value} (h : dM.K W x cs) : cs.length = 12 := dM.jR h
theorem mI {W : World} {x : GMessage} {cs : List Value} (h : dM.K W x cs) : ∀ u ∈ (List.toArray cs).toList, u.oneCell' = true := dM.jW h
theorem lS {W : World} {x : GOutgoing} {cs : List Value} (h : dL.K W x cs) : cs.length = 13 := dL.jR h
theorem lT {W : World} {x : GOutgoing} {cs : List Value} (h : dL.K W x cs) : ∀ u ∈ (List.toArray cs).toList, u.oneCell' = true := dL.jW h
theorem ki_Vat_len {W : World} {x : GVat} {cs : List Value} (h : iK.K W x cs) : cs.length = 5 := iK.jR h
theorem ki_Vat_one {W : World} {x : GVat} {cs : List Value} (h : iK.K W x cs) : ∀ u ∈ (List.toArray cs).toList, u.oneCell' = true := iK.jW h
theorem mJ {W : World} {x : GChannel} {cs : List Value} (h : dQ.K W x cs) : cs.length = 3 := dQ.jR h
theorem mK {W : World} {x : GChannel} {cs : List Value} (h : dQ.K W x cs) : ∀ u ∈ (List.toArray cs).toList, u.oneCell' = true := dQ.jW h
theorem pE {W : World} {x : GNote} {cs : List Value} (h : iD.K W x cs) : cs.length = 6 := iD.jR h
theorem pF {W : World} {x : GNote} {cs : List Value} (h : iD.K W x cs) : ∀ u ∈ (List.toArray cs).toList, u.oneCell' = true := iD.jW h
theorem lC {W : World} {x : GWorld} {cs : List Value} (h : iL.K W x cs) : cs.length = 5 := iL.jR h
theorem ki_World_one {W : World} {x : GWorld} {cs : List Value} (h : iL.K W x cs) : ∀ u ∈ (List.toArray cs).toList, u.oneCell' = true := iL.jW h
end Go.Proofs.YtgaoabnnpjngcaaGreatT
namespace Go.Proofs.YtgaoabnnpjngcaaGreatSep
open Go.ChangeShapes Go.WideShapes Go.RowKit
section
variable {α : Type}
def EP (d : Kn α) (e g cap i : Nat) (ce : List Value) (xs : List α) (W : World) (F : Nat → Prop) : Prop :=
 ∃ (cur : Array Value) (Fs : Nat → Nat → Prop), F g ∧ Blk W g e cur ∧ (xs.length ≤ cap ∧ cap ≤ 9223372036854775807 ∧ cur.size = cap * d.sz) ∧ (∀ j b, Fs j b → F b ∧ b ≠ g) ∧ (∀ j k b, Fs j b → Fs k b → j = k) ∧ (∀ j x, j ≠ i → xs[j]? = some x → d.M W (Fs j) x (piece d.sz cur.toList j)) ∧ piece d.sz cur.toList i = ce ∧ i < xs.length
variable {d : Kn α} {e g cap i : Nat} {ce : List Value} {xs : List α} {l : List HP} {W w : World} {F F0 : Nat → Prop} {v : Value}
theorem EP.set (h : EP d e g cap i ce xs W F) (k : Nat) (vs : List Value) (hk : k + vs.length ≤ ce.length) (h1 : ∀ u ∈ vs, u.oneCell' = true) (P : Program) :
 ∃ W', (storeCells ⟨g, i * d.sz + k, none⟩ vs 0).run P W = .ok () W' ∧ Upd (fun b => b = g) W W' ∧ EP d e g cap i (ce.take k ++ vs ++ ce.drop (k + vs.length)) xs W' F := by
 obtain ⟨cur, Fs, a1, a2, ⟨a3, a3b, a3c⟩, a4, a5, a6, a7, a8⟩ := h
 have hcl : ce.length ≤ d.sz := by rw [← a7]; simp [piece]; omega
 have hsz : i * d.sz + d.sz ≤ cur.size := by rw [a3c, ← Nat.succ_mul]; exact Nat.mul_le_mul_right _ kO
 have hst := run_storeCells_at P g (i * d.sz + k) e vs 0 cur W a2 kO h1
 simp only [Nat.add_zero] at hst
 refine ⟨_, hst, ?_, ?_⟩
 ·refine ⟨rfl, rfl, rfl, by simp [World.setRow], fun b hb' hF => ?_⟩
  simp only [World.setRow, Array.getElem?_modify]
  rw [if_neg (fun e => hF e.symm)]
 ·have hget : ∀ p, (cur.toList.take (i * d.sz + k) ++ vs ++ cur.toList.drop (i * d.sz + k + vs.length))[p]? = if p < i * d.sz + k then cur.toList[p]? else if p < i * d.sz + k + vs.length then vs[p - (i * d.sz + k)]? else cur.toList[p]? := by
   intro p
   have hlen : (cur.toList.take (i * d.sz + k)).length = i * d.sz + k := by simp; omega
   by_cases c1 : p < i * d.sz + k
   ·rw [List.append_assoc, List.getElem?_append_left kO, List.getElem?_take, if_pos c1, if_pos c1]
   ·rw [if_neg c1]
    by_cases c2 : p < i * d.sz + k + vs.length
    ·rw [if_pos c2, List.append_assoc, List.getElem?_append_right kO, hlen, List.getElem?_append_left kO]
    ·rw [if_neg c2, List.getElem?_append_right (by simp; omega), List.getElem?_drop]
     congr 1
     simp
     omega
  have hp : ∀ j q, (piece d.sz (cur.toList.take (i * d.sz + k) ++ vs ++ cur.toList.drop (i * d.sz + k + vs.length)) j)[q]? = if q < d.sz then (if j * d.sz + q < i * d.sz + k then cur.toList[j * d.sz + q]? else if j * d.sz + q < i * d.sz + k + vs.length then vs[j * d.sz + q - (i * d.sz + k)]? else cur.toList[j * d.sz + q]?) else none := by
   intro j q
   unfold piece
   rw [List.getElem?_take]
   by_cases hq : q < d.sz
   ·rw [if_pos hq, if_pos hq, List.getElem?_drop, hget]
   ·rw [if_neg hq, if_neg hq]
  refine ⟨_, Fs, a1, setRow_heap W g cur _ e (0, 0) a2, ⟨a3, a3b, ?_⟩, a4, a5, fun j x hj hx => ?_, ?_, a8⟩
  ·rw [← a3c]
   simp
   omega
  ·have hpc : piece d.sz (cur.toList.take (i * d.sz + k) ++ vs ++ cur.toList.drop (i * d.sz + k + vs.length)) j = piece d.sz cur.toList j := by
    apply List.ext_getElem?
    intro q
    rw [hp j q]
    unfold piece
    rw [List.getElem?_take]
    by_cases hq : q < d.sz
    ·rw [if_pos hq, if_pos hq, List.getElem?_drop]
     rcases Nat.lt_or_gt_of_ne hj with c | c
     ·have : j * d.sz + d.sz ≤ i * d.sz := by rw [← Nat.succ_mul]; exact Nat.mul_le_mul_right _ c
      rw [if_pos kO]
     ·have : i * d.sz + d.sz ≤ j * d.sz := by rw [← Nat.succ_mul]; exact Nat.mul_le_mul_right _ c
      rw [if_neg kO, if_neg kO]
    ·rw [if_neg hq, if_neg hq]
   have e' : (cur.toList.take (i * d.sz + k) ++ vs ++ cur.toList.drop (i * d.sz + k + vs.length)).toArray.toList = cur.toList.take (i * d.sz + k) ++ vs ++ cur.toList.drop (i * d.sz + k + vs.length) := rfl
   rw [e', hpc]
   refine d.M_same (fun b hb => setRow_other W g b _ (a4 j b hb).2) (a6 j x hj hx)
  ·have e' : (cur.toList.take (i * d.sz + k) ++ vs ++ cur.toList.drop (i * d.sz + k + vs.length)).toArray.toList = cur.toList.take (i * d.sz + k) ++ vs ++ cur.toList.drop (i * d.sz + k + vs.length) := rfl
   rw [e']
   apply List.ext_getElem?
   intro q
   rw [hp i q]
   have hce : ∀ q, ce[q]? = if q < d.sz then cur.toList[i * d.sz + q]? else none := by
    intro q
    rw [← a7]
    unfold piece
    rw [List.getElem?_take]
    by_cases hq : q < d.sz
    ·rw [if_pos hq, if_pos hq, List.getElem?_drop]
    ·rw [if_neg hq, if_neg hq]
   have hlen : (ce.take k).length = k := by simp; omega
   by_cases c1 : q < k
   ·rw [List.append_assoc, List.getElem?_append_left kO, List.getElem?_take, if_pos c1, hce, if_pos kO, if_pos kO]
    rw [if_pos kO]
   ·by_cases c2 : q < k + vs.length
    ·rw [List.append_assoc, List.getElem?_append_right kO, hlen, List.getElem?_append_left kO, if_pos kO, if_neg kO, if_pos kO]
     congr 1
     omega
    ·rw [List.getElem?_append_right (by simp; omega), List.getElem?_drop, hce]
     have e2 : k + vs.length + (q - (ce.take k ++ vs).length) = q := by simp; omega
     rw [e2]
     by_cases c3 : q < d.sz
     ·rw [if_pos c3, if_pos c3, if_neg kO, if_neg kO]
     ·rw [if_neg c3, if_neg c3]
end
section
variable {α : Type} {P : Program} {ops : Array Oper} {Q : Exit → Act → World → Prop} {K : Act → World → Prop} {n i d ty : Nat} {x : Nat → Value} {live : List (Nat × Value)} {W w : World} {F0 : Nat → Prop} {l : List HP} {pos : String} {aft : Array Edge} {v : Value} {y z : Operand}
theorem cZ {o : Oper} {a : Act} {b c : Bool} (e : b = c) (h : Rn P o a W (.bool b)) : Rn P o a W (.bool c) := e ▸ h
theorem fK {f : FuncId} {vs : Array Value} {b c : Bool} {W0 : World} (h : Calls P f vs W (bW b W0)) (e : b = c) : Calls P f vs W (bW c W0) := e ▸ h
end
end Go.Proofs.YtgaoabnnpjngcaaGreatSep
namespace Go.Proofs.YtgaoabnnpjngcaaGreatT
open Go.Proofs.YtgaoabnnpjngcaaGreatSep
def aV {α : Type} (f : α → α → Bool) : List α → List α → Bool
 | [], [] => true
 | x :: l, y :: k => f x y && aV f l k
 | [], _ :: _ => false
 | _ :: _, [] => false
section
variable {α : Type} (f : α → α → Bool)
theorem eY : ∀ l k : List α, l.length ≠ k.length → aV f l k = false
 | [], [], h => absurd rfl h
 | x :: l, y :: k, h => by simp [aV, eY l k (by simpa using h)]
 | [], _ :: _, _ => rfl
 | _ :: _, [], _ => rfl
theorem fC (l k : List α) (i : Nat) (h : i < l.length) (h' : i < k.length) (hf : f l[i] k[i] = true) : aV f (l.drop i) (k.drop i) = aV f (l.drop (i + 1)) (k.drop (i + 1)) := by
 rw [List.drop_eq_getElem_cons h, List.drop_eq_getElem_cons h', aV, hf, Bool.true_and]
theorem eG (l k : List α) (i : Nat) (h : i < l.length) (h' : i < k.length) (hf : f l[i] k[i] = false) : aV f (l.drop i) (k.drop i) = false := by
 rw [List.drop_eq_getElem_cons h, List.drop_eq_getElem_cons h', aV, hf, Bool.false_and]
theorem fD (l k : List α) (i : Nat) (h : l.length ≤ i) (h' : k.length ≤ i) : aV f (l.drop i) (k.drop i) = true := by
 rw [List.drop_eq_nil_of_le h, List.drop_eq_nil_of_le h']; rfl
end
def fA (x y : GInstr) : Bool := (x.Op == y.Op) && (x.A == y.A) && (x.B == y.B) && (x.C == y.C) && (x.D == y.D) && (x.Name.toList == y.Name.toList)
def dJ (x y : GMethod) : Bool := (x.Name.toList == y.Name.toList) && aV fA x.Code y.Code
def cO (x y : GScript) : Bool := (x.Name.toList == y.Name.toList) && aV dJ x.Methods y.Methods
def dI (x y : GValue) : Bool := (x.Kind == y.Kind) && (x.N == y.N)
def jN (x y : GTag) : Bool := (x.Vat == y.Vat) && (x.Entity == y.Entity) && (x.Seq == y.Seq)
def bS (x y : GSent) : Bool := (x.Target == y.Target) && (x.Name.toList == y.Name.toList) && aV dI x.bD y.bD && (x.Result == y.Result) && jN x.Tag y.Tag
def fB (x y : GAsker) : Bool := (x.dZ == y.dZ) && (x.Question == y.Question)
def aZ (x y : GEntity) : Bool := (x.Kind == y.Kind) && (x.Script == y.Script) && aV dI x.eB y.eB && (x.State == y.State) && dI x.Value y.Value && aV bS x.Queue y.Queue && aV fB x.bJ y.bJ && (x.dZ == y.dZ) && (x.Pos == y.Pos) && (x.Count == y.Count) && (x.Sent == y.Sent)
def dV (x y : GExport) : Bool := (x.Pos == y.Pos) && (x.Entity == y.Entity) && (x.Count == y.Count)
def bY (x y : GQuestion) : Bool := (x.Id == y.Id) && (x.Promise == y.Promise)
def cK (x y : GLink) : Bool := (x.dZ == y.dZ) && (x.Up == y.Up) && aV dV x.aW y.aW && (x.Next == y.Next) && aV bY x.bF y.bF && (x.iO == y.iO) && aV bY x.cB y.cB
def eF (x y : GWire) : Bool := (x.Kind == y.Kind) && (x.N == y.N)
def aX (x y : GMessage) : Bool := (x.Kind == y.Kind) && (x.Pos == y.Pos) && (x.dH == y.dH) && (x.Question == y.Question) && (x.Name.toList == y.Name.toList) && aV eF x.bD y.bD && eF x.Value y.Value && (x.Count == y.Count) && jN x.Tag y.Tag
def dA (x y : GOutgoing) : Bool := (x.To == y.To) && aX x.Message y.Message
def dK (x y : GVat) : Bool := (x.Id == y.Id) && aV aZ x.aT y.aT && aV bS x.Loop y.Loop && aV cK x.bZ y.bZ && aV dA x.Out y.Out
def bG (x y : GChannel) : Bool := (x.From == y.From) && (x.To == y.To) && aV aX x.List y.List
def fZ (x y : GNote) : Bool := (x.Kind == y.Kind) && (x.Vat == y.Vat) && (x.Entity == y.Entity) && jN x.Tag y.Tag
def dX (x y : GWorld) : Bool := aV cO x.bE y.bE && aV dK x.eT y.eT && aV bG x.bH y.bH && aV fZ x.bK y.bK && (x.eO == y.eO)
end Go.Proofs.YtgaoabnnpjngcaaGreatT
namespace Go.Proofs.YtgaoabnnpjngcaaGreatSep
open Go.ChangeShapes Go.WideShapes Go.RowKit
section
variable {P : Program} {ops : Array Oper} {Q : Exit → Act → World → Prop} {K : Act → World → Prop} {n i d ty : Nat} {x : Nat → Value} {live : List (Nat × Value)} {W w : World} {pos : String} {aft : Array Edge} {v : Value} {y z : Operand}
theorem rn_eqlA {dst : Option Nat} {t t2 : Nat} {xs ys : Array Value} {b : Bool} (hg : P.eqGuardType P.depth t = false) (hx : evl n live y = some (.agg xs)) (hz : evl n live z = some (.agg ys)) (h : (Op.equalIn 10000 t (.agg xs) (.agg ys)).run P W = .ok b W) : Rn P ⟨dst, .binOp .eql t y z t2, ty, pos, aft, none⟩ (bT n x live) W (.bool b) := by
 unfold Rn
 simp [execOp, gI hx, gI hz, run_eqGuard_agg (P := P) W .eql t _ _ xs ys hg, run_eql_struct, h, Result.andThen]
theorem fJ {dst : Option Nat} {t t2 : Nat} {xs ys : Array Value} {b : Bool} (hg : P.eqGuardType P.depth t = false) (hx : evl n live y = some (.agg xs)) (hz : evl n live z = some (.agg ys)) (h : (Op.equalIn 10000 t (.agg xs) (.agg ys)).run P W = .ok b W) : Rn P ⟨dst, .binOp .neq t y z t2, ty, pos, aft, none⟩ (bT n x live) W (.bool (!b)) := by
 unfold Rn
 simp [execOp, gI hx, gI hz, run_eqGuard_agg (P := P) W .neq t _ _ xs ys hg, run_neq_struct, h, Result.andThen]
theorem jV {dst : Option Nat} {xt yt : Nat} {s t : ByteArray} (hx : evl n live y = some (.string s)) (hz : evl n live z = some (.string t)) : Rn P ⟨dst, .binOp .neq xt y z yt, ty, pos, aft, none⟩ (bT n x live) W (.bool (!(s.toList == t.toList))) := by
 unfold Rn
 simp [execOp, gI hx, gI hz, eqGuard_at_string, binOp, Op.stringOp]
theorem rn_eqlB {dst : Option Nat} {xt yt : Nat} {a b : Bool} (hu : P.underlying xt = some .bool) (hx : evl n live y = some (.bool a)) (hz : evl n live z = some (.bool b)) : Rn P ⟨dst, .binOp .eql xt y z yt, ty, pos, aft, none⟩ (bT n x live) W (.bool (a == b)) := by
 unfold Rn
 simp [execOp, gI hx, gI hz, eqGuard_at_bool, run_eql_bool (P := P) W xt a b hu, Result.andThen]
theorem rn_neqBB {dst : Option Nat} {xt yt : Nat} {a b : Bool} (hu : P.underlying xt = some .bool) (hx : evl n live y = some (.bool a)) (hz : evl n live z = some (.bool b)) : Rn P ⟨dst, .binOp .neq xt y z yt, ty, pos, aft, none⟩ (bT n x live) W (.bool (!(a == b))) := by
 unfold Rn
 simp [execOp, gI hx, gI hz, eqGuard_at_bool, run_neq_bool (P := P) W xt a b hu, Result.andThen]
theorem iQ {dst : Option Nat} {f : FuncId} {ys : Array Operand} {tys : Array Nat} {vs : Array Value} {R : Ending → World → Prop} (ho : ops[i]? = some ⟨dst, .call { callee := .value y, args := ys, argTypes := tys }, ty, pos, aft, none⟩) (hy : evl n live y = some (.func (.func f) #[] #[])) (hf : ∀ us w, (callFunc f us).run P w = .ok (.enter f us) w) (hv : ys.toList.map (evl n live) = vs.toList.map some) (hd : dst = some d) (hdn : decide (d < n) = true) (hc : Calls P f vs W R) (h : ∀ e W', R e W' → ∃ v, e = .returned v ∧ K (bT n x ((d, v) :: live)) W') : wpOp P ops Q i K (bT n x live) W := by
 subst hd
 refine op_ok ho rfl ?_
 have e : ys.map (bT n x live).eval = vs := evls_ok hv
 have hrun : (execOp (bT n x live).eval ⟨some d, .call { callee := .value y, args := ys, argTypes := tys }, ty, pos, aft, none⟩).run P W = .ok (.enter f vs) W := by
  simp [execOp, resolve, gI hy, Deferred.ofValue, invoke, e, hf]
 unfold Oper.wp
 rw [hrun]
 simp only [Oper.upon]
 refine hc.mono fun e' W' hR => ?_
 obtain ⟨u, rfl, hk⟩ := h e' W' hR
 show K ((bT n x live).put (some d) u) W'
 rw [kW (of_decide_eq_true hdn)]
 exact hk
end
end Go.Proofs.YtgaoabnnpjngcaaGreatSep
namespace Go.Proofs.YtgaoabnnpjngcaaGreatFam
open Go.ChangeShapes Go.WideShapes Go.RowKit Go.Proofs.YtgaoabnnpjngcaaGreatSep Go.Proofs.YtgaoabnnpjngcaaGreatT Go.Proofs.YtgaoabnnpjngcaaGreatK
set_option linter.unusedVariables false
set_option linter.unusedSimpArgs false
attribute [local irreducible] wpOps wpOp
theorem eqr_Instr (x y : GInstr) (W : World) (k : Nat) : (Op.equalIn (k + 2) 124 (.agg #[.int .i64 (x.Op), .int .i64 (x.A), .int .i64 (x.B), .int .i64 (x.C), .int .i64 (x.D), .string (x.Name)]) (.agg #[.int .i64 (y.Op), .int .i64 (y.A), .int .i64 (y.B), .int .i64 (y.C), .int .i64 (y.D), .string (y.Name)])).run Tryz.prog W = .ok (fA x y) W := by
 rw [show k + 2 = (k + 1) + 1 from rfl, run_equalIn_struct (P := Tryz.prog) W _ 124 _ _ (by simp [Program.fieldsOf, Tryz.underlying124]) Tryz.stoodInHeld124]
 simp [Program.fieldsOf, Tryz.underlying124, Op.eqFields, part, Tryz.isAgg9, Tryz.sizeOf9, Tryz.isAgg3, Tryz.sizeOf3, Tryz.isAgg124, Tryz.sizeOf124, Tryz.isAgg4, Tryz.sizeOf4, Tryz.underlying3, Tryz.underlying4, Tryz.underlying9, run_equalIn_int, run_equalIn_string, run_equalIn_bool', Sem.run_pure, fA, Result.andThen]
 (repeat' split) <;> simp [*]
theorem l8 (x y : GValue) (W : World) (k : Nat) : (Op.equalIn (k + 2) 129 (.agg #[.int .i64 (x.Kind), .int .i64 (x.N)]) (.agg #[.int .i64 (y.Kind), .int .i64 (y.N)])).run Tryz.prog W = .ok (dI x y) W := by
 rw [show k + 2 = (k + 1) + 1 from rfl, run_equalIn_struct (P := Tryz.prog) W _ 129 _ _ (by simp [Program.fieldsOf, Tryz.underlying129]) Tryz.stoodInHeld129]
 simp [Program.fieldsOf, Tryz.underlying129, Op.eqFields, part, Tryz.isAgg129, Tryz.sizeOf129, Tryz.isAgg3, Tryz.sizeOf3, Tryz.isAgg4, Tryz.sizeOf4, Tryz.isAgg9, Tryz.sizeOf9, Tryz.underlying3, Tryz.underlying4, Tryz.underlying9, run_equalIn_int, run_equalIn_string, run_equalIn_bool', Sem.run_pure, dI, Result.andThen]
 (repeat' split) <;> simp [*]
theorem oH (x y : GTag) (W : World) (k : Nat) : (Op.equalIn (k + 2) 50 (.agg #[.int .i64 (x.Vat), .int .i64 (x.Entity), .int .i64 (x.Seq)]) (.agg #[.int .i64 (y.Vat), .int .i64 (y.Entity), .int .i64 (y.Seq)])).run Tryz.prog W = .ok (jN x y) W := by
 rw [show k + 2 = (k + 1) + 1 from rfl, run_equalIn_struct (P := Tryz.prog) W _ 50 _ _ (by simp [Program.fieldsOf, Tryz.underlying50]) Tryz.stoodInHeld50]
 simp [Program.fieldsOf, Tryz.underlying50, Op.eqFields, part, Tryz.isAgg9, Tryz.sizeOf9, Tryz.isAgg50, Tryz.sizeOf50, Tryz.isAgg3, Tryz.sizeOf3, Tryz.isAgg4, Tryz.sizeOf4, Tryz.underlying3, Tryz.underlying4, Tryz.underlying9, run_equalIn_int, run_equalIn_string, run_equalIn_bool', Sem.run_pure, jN, Result.andThen]
 (repeat' split) <;> simp [*]
theorem eqr_Asker (x y : GAsker) (W : World) (k : Nat) : (Op.equalIn (k + 2) 184 (.agg #[.int .i64 (x.dZ), .int .i64 (x.Question)]) (.agg #[.int .i64 (y.dZ), .int .i64 (y.Question)])).run Tryz.prog W = .ok (fB x y) W := by
 rw [show k + 2 = (k + 1) + 1 from rfl, run_equalIn_struct (P := Tryz.prog) W _ 184 _ _ (by simp [Program.fieldsOf, Tryz.underlying184]) Tryz.stoodInHeld184]
 simp [Program.fieldsOf, Tryz.underlying184, Op.eqFields, part, Tryz.isAgg184, Tryz.sizeOf184, Tryz.isAgg9, Tryz.sizeOf9, Tryz.isAgg3, Tryz.sizeOf3, Tryz.isAgg4, Tryz.sizeOf4, Tryz.underlying3, Tryz.underlying4, Tryz.underlying9, run_equalIn_int, run_equalIn_string, run_equalIn_bool', Sem.run_pure, fB, Result.andThen]
 (repeat' split) <;> simp [*]
theorem eqr_Export (x y : GExport) (W : World) (k : Nat) : (Op.equalIn (k + 2) 186 (.agg #[.int .i64 (x.Pos), .int .i64 (x.Entity), .int .i64 (x.Count)]) (.agg #[.int .i64 (y.Pos), .int .i64 (y.Entity), .int .i64 (y.Count)])).run Tryz.prog W = .ok (dV x y) W := by
 rw [show k + 2 = (k + 1) + 1 from rfl, run_equalIn_struct (P := Tryz.prog) W _ 186 _ _ (by simp [Program.fieldsOf, Tryz.underlying186]) Tryz.stoodInHeld186]
 simp [Program.fieldsOf, Tryz.underlying186, Op.eqFields, part, Tryz.isAgg9, Tryz.sizeOf9, Tryz.isAgg186, Tryz.sizeOf186, Tryz.isAgg3, Tryz.sizeOf3, Tryz.isAgg4, Tryz.sizeOf4, Tryz.underlying3, Tryz.underlying4, Tryz.underlying9, run_equalIn_int, run_equalIn_string, run_equalIn_bool', Sem.run_pure, dV, Result.andThen]
 (repeat' split) <;> simp [*]
theorem oI (x y : GQuestion) (W : World) (k : Nat) : (Op.equalIn (k + 2) 193 (.agg #[.int .i64 (x.Id), .int .i64 (x.Promise)]) (.agg #[.int .i64 (y.Id), .int .i64 (y.Promise)])).run Tryz.prog W = .ok (bY x y) W := by
 rw [show k + 2 = (k + 1) + 1 from rfl, run_equalIn_struct (P := Tryz.prog) W _ 193 _ _ (by simp [Program.fieldsOf, Tryz.underlying193]) Tryz.stoodInHeld193]
 simp [Program.fieldsOf, Tryz.underlying193, Op.eqFields, part, Tryz.isAgg193, Tryz.sizeOf193, Tryz.isAgg3, Tryz.sizeOf3, Tryz.isAgg4, Tryz.sizeOf4, Tryz.isAgg9, Tryz.sizeOf9, Tryz.underlying3, Tryz.underlying4, Tryz.underlying9, run_equalIn_int, run_equalIn_string, run_equalIn_bool', Sem.run_pure, bY, Result.andThen]
 (repeat' split) <;> simp [*]
theorem nP (x y : GWire) (W : World) (k : Nat) : (Op.equalIn (k + 2) 139 (.agg #[.int .i64 (x.Kind), .int .i64 (x.N)]) (.agg #[.int .i64 (y.Kind), .int .i64 (y.N)])).run Tryz.prog W = .ok (eF x y) W := by
 rw [show k + 2 = (k + 1) + 1 from rfl, run_equalIn_struct (P := Tryz.prog) W _ 139 _ _ (by simp [Program.fieldsOf, Tryz.underlying139]) Tryz.stoodInHeld139]
 simp [Program.fieldsOf, Tryz.underlying139, Op.eqFields, part, Tryz.isAgg3, Tryz.sizeOf3, Tryz.isAgg9, Tryz.sizeOf9, Tryz.isAgg139, Tryz.sizeOf139, Tryz.isAgg4, Tryz.sizeOf4, Tryz.underlying3, Tryz.underlying4, Tryz.underlying9, run_equalIn_int, run_equalIn_string, run_equalIn_bool', Sem.run_pure, eF, Result.andThen]
 (repeat' split) <;> simp [*]
theorem eqr_Note (x y : GNote) (W : World) (k : Nat) : (Op.equalIn (k + 3) 52 (.agg #[.int .i64 (x.Kind), .int .i64 (x.Vat), .int .i64 (x.Entity), .int .i64 (x.Tag.Vat), .int .i64 (x.Tag.Entity), .int .i64 (x.Tag.Seq)]) (.agg #[.int .i64 (y.Kind), .int .i64 (y.Vat), .int .i64 (y.Entity), .int .i64 (y.Tag.Vat), .int .i64 (y.Tag.Entity), .int .i64 (y.Tag.Seq)])).run Tryz.prog W = .ok (fZ x y) W := by
 rw [show k + 3 = (k + 2) + 1 from rfl, run_equalIn_struct (P := Tryz.prog) W _ 52 _ _ (by simp [Program.fieldsOf, Tryz.underlying52]) Tryz.stoodInHeld52]
 simp [Program.fieldsOf, Tryz.underlying52, Op.eqFields, part, Tryz.isAgg3, Tryz.sizeOf3, Tryz.isAgg4, Tryz.sizeOf4, Tryz.isAgg9, Tryz.sizeOf9, Tryz.isAgg50, Tryz.sizeOf50, Tryz.isAgg52, Tryz.sizeOf52, Tryz.underlying3, Tryz.underlying4, Tryz.underlying9, run_equalIn_int, run_equalIn_string, run_equalIn_bool', oH, fZ, Result.andThen]
 (repeat' split) <;> simp [*]
end Go.Proofs.YtgaoabnnpjngcaaGreatFam
namespace Go.Proofs.YtgaoabnnpjngcaaGreatFam
open Go.RowKit Go.Proofs.YtgaoabnnpjngcaaGreatSep Go.Proofs.YtgaoabnnpjngcaaGreatT Go.Proofs.YtgaoabnnpjngcaaGreatK
set_option linter.unusedVariables false
set_option linter.unusedSimpArgs false
set_option maxHeartbeats 1000000
set_option maxRecDepth 100000
theorem kl_Instr_Kmk (w : World) (x : GInstr) : jT.K w x [.int .i64 x.Op, .int .i64 x.A, .int .i64 x.B, .int .i64 x.C, .int .i64 x.D, .string x.Name] := ⟨[_], [_, _, _, _, _], rfl, rfl, ⟨[_], [_, _, _, _], rfl, rfl, ⟨[_], [_, _, _], rfl, rfl, ⟨[_], [_, _], rfl, rfl, ⟨[_], [_], rfl, rfl, rfl⟩⟩⟩⟩⟩
theorem ki_Instr_Kmk (w : World) (x : GInstr) : fU.K w x [.int .i64 x.Op, .int .i64 x.A, .int .i64 x.B, .int .i64 x.C, .int .i64 x.D, .string x.Name] := ⟨[_], [_, _, _, _, _], rfl, rfl, ⟨[_], [_, _, _, _], rfl, rfl, ⟨[_], [_, _, _], rfl, rfl, ⟨[_], [_, _], rfl, rfl, ⟨[_], [_], rfl, rfl, rfl⟩⟩⟩⟩⟩
theorem to_Instr (x : GInstr) (cs : List Value) (w : World) (h : jT.K w x cs) (hs : iN x ≤ 1048576) : Calls Tryz.prog 163 #[.agg cs.toArray] w (kK fU x w) := by
 obtain rfl := kl_Instr_K h
 clear hs
 go_enter Tryz.func163, Tryz.ntmps163
 go_wp2
 refine bodyPost_ret (v := .agg #[.int .i64 x.Op, .int .i64 x.A, .int .i64 x.B, .int .i64 x.C, .int .i64 x.D, .string x.Name]) (by simp [results, Tryz.results163, go_sem]) rfl ⟨_, rfl, ?_, kA⟩
 exact ki_Instr_mk _ _ _
theorem toS_Instr (l : List GInstr) (A : Option Addr) (c : Nat) (w : World) (h : C jT w A l) (hs : dF iN l ≤ 1048576) : Calls Tryz.prog 146 #[.slice A l.length c] w (lF fU 124 l w) := by
 have hn : l.length ≤ 1048576 := by unfold dF at hs; omega
 have hmk := iW (P := Tryz.prog) _ _ _ Tryz.underlying120 ki_Instr_info l.length hn kD
 have H := Sd.mk h
 have HS := Sd.mk hs
 clear h hs
 go_enter Tryz.func146, Tryz.ntmps146
 go_wp2
 clear hmk
 have HR : Sd (R fU 124 (w.alloc (fQ (.agg #[.int .i64 0, .int .i64 0, .int .i64 0, .int .i64 0, .int .i64 0, .string ⟨#[]⟩]) (l.length * 6) 124)) (New w) (.slice (some ⟨w.heap.size, 0, none⟩) l.length l.length) (List.replicate l.length zInstr)) := Sd.mk (lG (d := fU) (e := 124) w (.agg #[.int .i64 0, .int .i64 0, .int .i64 0, .int .i64 0, .int .i64 0, .string ⟨#[]⟩]) zInstr rfl kD ki_Instr_zero l.length hn)
 have HU := Sd.mk ((Upd.refl No w).alloc (fQ (.agg #[.int .i64 0, .int .i64 0, .int .i64 0, .int .i64 0, .int .i64 0, .string ⟨#[]⟩]) (l.length * 6) 124))
 go_loopg [4] l.length (fun k v wr => ∃ i : Nat, i + k = l.length ∧ v = .int .i64 i ∧ Sd (R fU 124 wr (New w) (.slice (some ⟨w.heap.size, 0, none⟩) l.length l.length) (upTo l (List.replicate l.length zInstr) i)) ∧ Sd (Upd No w wr))
 case atStart => exact ⟨0, by omega, rfl, ⟨by rw [iM]; exact HR.out⟩, HU⟩
 case round =>
  clear HR HU
  obtain ⟨i, hi, rfl, HR, HU⟩ := hrel
  by_cases hlt : i < l.length
  ·obtain ⟨ad, rfl, a0, a1, a2, a3, a4, a5⟩ := kl_Instr_at (aS HU.out H.out) i hlt
   have hsi : iN l[i] ≤ 1048576 := by have := HS.out; have := jQ iN l i hlt; unfold dF at *; omega
   go_wp2_with fail
   with_reducible refine (to_Instr l[i] _ _ (kl_Instr_Kmk _ _) hsi).mono ?_
   rintro e w1 ⟨cs, rfl, hM, hu⟩
   obtain rfl := ki_Instr_M hM
   have HRowA := gH hu (fun _ _ q => q) (R_lt HR.out)
   have HU1 := Sd.mk (HU.out.then hu)
   have hzw := HU.out.size
   clear HR HU hM hu
   obtain ⟨g, cap, cur, ce, Fi, hv, hcap, hat, hM, hg, hFi, hFg, close⟩ := lD HRowA 6 l.length rfl (by rw [iU (by simp) (by simp; omega)]; simp) i zInstr (by rw [jP (by simp) (by simpa using hlt)]; simp)
   cases hv
   obtain rfl := ki_Instr_M hM
   have HAT := Sd.mk hat
   have x0 := hat.cell0 _ rfl
   have x1 := hat.cell 1 _ rfl
   have x2 := hat.cell 2 _ rfl
   have x3 := hat.cell 3 _ rfl
   have x4 := hat.cell 4 _ rfl
   have x5 := hat.cell 5 _ rfl
   have f0 := hat.free (i * 6)
   have f1 := hat.free (i * 6 + 1)
   have f2 := hat.free (i * 6 + 2)
   have f3 := hat.free (i * 6 + 3)
   have f4 := hat.free (i * 6 + 4)
   have f5 := hat.free (i * 6 + 5)
   have CL := Sd.mk close
   clear hat close hM HRowA
   go_wp2
   have HA := (((((HAT.out.set0 kD (.int .i64 l[i].Op)).set 1 kD (.int .i64 l[i].A)).set 2 kD (.int .i64 l[i].B)).set 3 kD (.int .i64 l[i].C)).set 4 kD (.int .i64 l[i].D)).set 5 kD (.string l[i].Name)
   have HRowB := CL.out _ _ l[i] No (New w) HA (ki_Instr_mk _ _ _) (fun _ q => q.elim) (fun _ q => q.1) (fun _ q => q.elim)
   rw [iV (by simp) (by simpa using hlt)] at HRowB
   go_roundg (gk - 1)
   case measure => omega
   case rel => exact ⟨i + 1, by omega, by go_num, ⟨HRowB⟩, ⟨by repeat (with_reducible first | exact HU1.out | apply Upd.bI)⟩⟩
  ·go_wp2
   go_ret
   have HRowB := HR.out
   rw [iT (by simp) (by simp; omega)] at HRowB
   exact ⟨_, rfl, HRowB, HU.out⟩
theorem sz_Instr (x : GInstr) (cs : List Value) (n : Int) (w : World) (h : jT.K w x cs) (hb : Bd_Instr x) (h0 : 0 ≤ n) (h1 : n ≤ 1048576) : Calls Tryz.prog 162 #[.agg cs.toArray, .int .i64 n] w (jS (iN x) n w) := by
 obtain rfl := kl_Instr_K h
 have b_Name := hb
 unfold Bd_Instr at b_Name
 go_enter Tryz.func162, Tryz.ntmps162
 by_cases q_Name : ((x.Name.size : Nat) : Int) ≤ n
 case neg =>
  go_wp2
  go_ret
  exact ⟨_, rfl, .inr ⟨by unfold iN; omega, rfl⟩, kA⟩
 go_wp2
 go_ret
 exact ⟨_, rfl, .inl ⟨by unfold iN; omega, by unfold iN; omega⟩, kA⟩
theorem szS_Instr (l : List GInstr) (A : Option Addr) (c : Nat) (n : Int) (w : World) (h : C jT w A l) (hb : ∀ y ∈ l, Bd_Instr y) (h0 : 0 ≤ n) (h1 : n ≤ 1048576) : Calls Tryz.prog 140 #[.slice A l.length c, .int .i64 n] w (jS (dF iN l) n w) := by
 have hn := h.1
 have H := Sd.mk h
 clear h
 have HBD := Sd.mk hb
 clear hb
 go_enter Tryz.func140, Tryz.ntmps140
 by_cases q0 : (l.length : Int) ≤ n
 case neg =>
  go_wp2
  go_ret
  exact ⟨_, rfl, .inr ⟨by unfold dF; omega, rfl⟩, Upd.refl _ _⟩
 go_wp2
 go_loopg [1, 5] l.length (fun k u v wr => ∃ i : Nat, i + k = l.length ∧ (gP iN (l.take i) : Int) ≤ n - l.length ∧ u = .int .i64 (n - l.length - gP iN (l.take i)) ∧ v = .int .i64 i ∧ Sd (Upd No w wr))
 case atStart => exact ⟨0, by omega, by simp [gP]; omega, by simp [gP], rfl, ⟨Upd.refl _ _⟩⟩
 case round =>
  obtain ⟨i, hi, hle, rfl, rfl, HU⟩ := hrel
  by_cases hlt : i < l.length
  ·obtain ⟨ad, rfl, a0, a1, a2, a3, a4, a5⟩ := kl_Instr_at (aS HU.out H.out) i hlt
   have hst := kI iN l i hlt
   have HST := Sd.mk (jB iN l i hlt)
   generalize hs : gP iN (l.take i) = s at *
   have HS := Sd.mk hs
   clear hs
   go_wp2_with fail
   with_reducible refine (sz_Instr l[i] _ _ _ (kl_Instr_Kmk _ _) (HBD.out _ (List.getElem_mem hlt)) kO kO).mono ?_
   rintro e w1 ⟨r, rfl, hr, hu⟩
   have HU1 := Sd.mk (HU.out.then hu)
   clear hu HU
   rcases hr with ⟨q, rfl⟩ | ⟨q, rfl⟩
   ·go_wp2
    go_roundg (gk - 1)
    case measure => omega
    case rel => exact ⟨i + 1, by omega, by rw [HST.out]; omega, by rw [HST.out]; exact congrArg (Value.int .i64) kO, by go_num, HU1⟩
   ·go_wp2
    go_ret
    exact ⟨_, rfl, .inr ⟨by unfold dF; omega, rfl⟩, HU1.out⟩
  ·go_wp2
   go_ret
   have e : l.take i = l := List.take_of_length_le kO
   rw [e] at hle
   exact ⟨_, rfl, .inl ⟨by unfold dF; omega, by rw [e]; unfold dF; omega⟩, HU.out⟩
theorem eq_Instr (x : GInstr) (cs cs' : List Value) (w : World) (h : fU.K w x cs) (h' : fU.K w x cs') : Calls Tryz.prog 167 #[.agg cs.toArray, .agg cs'.toArray] w (bW true w) := by
 obtain rfl := kN h
 obtain rfl := kN h'
 go_enter Tryz.func167, Tryz.ntmps167
 go_wp2
 go_ret
 exact ⟨rfl, kA⟩
theorem eqS_Instr (l : List GInstr) (A A' : Option Addr) (c c' : Nat) (w : World) (h : C fU w A l) (h' : C fU w A' l) : Calls Tryz.prog 154 #[.slice A l.length c, .slice A' l.length c'] w (bW true w) := by
 have hn := h.1
 have H := Sd.mk h
 have H' := Sd.mk h'
 clear h h'
 go_enter Tryz.func154, Tryz.ntmps154
 go_wp2
 go_loopg [5] l.length (fun k v wr => ∃ i : Nat, i + k = l.length ∧ v = .int .i64 i ∧ Sd (Upd No w wr))
 case atStart => exact ⟨0, by omega, rfl, ⟨Upd.refl _ _⟩⟩
 case round =>
  obtain ⟨i, hi, rfl, HU⟩ := hrel
  by_cases hlt : i < l.length
  ·obtain ⟨ad, rfl, a0, a1, a2, a3, a4, a5⟩ := ki_Instr_at (aS HU.out H.out) i hlt
   obtain ⟨ad', rfl, z0, z1, z2, z3, z4, z5⟩ := ki_Instr_at (aS HU.out H'.out) i hlt
   go_wp2_with fail
   go_still_tail 8, kR
   change wpList _ _ _ _ _ wr.drew
   have HW : Sd (Upd No wr wr.drew) := ⟨(Upd.refl _ _).drew⟩
   have HU2 : Sd (Upd No w wr.drew) := ⟨HU.out.drew⟩
   generalize wr.drew = w2 at *
   go_wp2_with (go_at_call 167; (with_reducible refine (eq_Instr l[i] _ _ _ (ki_Instr_Kmk _ _) (ki_Instr_Kmk _ _)).mono ?_); rintro e w' ⟨rfl, hu⟩)
   have HU3 := Sd.mk (HU2.out.then hu)
   clear HU2 hu
   go_wp2
   go_roundg (gk - 1)
   case measure => omega
   case rel => exact ⟨i + 1, by omega, by go_num, HU3⟩
  ·go_wp2
   go_ret
   exact ⟨rfl, HU.out⟩
theorem kl_Method_Kmk (w : World) (x : GMethod) {A1 : Option Addr} {c1 : Nat} (hl1 : x.Code.length ≤ c1) (hC1 : C jT w A1 x.Code) : jC.K w x [.string x.Name, .slice A1 x.Code.length c1] := ⟨[_], [_], rfl, rfl, ⟨A1, c1, rfl, hl1, hC1⟩⟩
theorem ki_Method_Kmk (w : World) (x : GMethod) {A1 : Option Addr} {c1 : Nat} (hl1 : x.Code.length ≤ c1) (hC1 : C fU w A1 x.Code) : eD.K w x [.string x.Name, .slice A1 x.Code.length c1] := ⟨[_], [_], rfl, rfl, ⟨A1, c1, rfl, hl1, hC1⟩⟩
theorem to_Method (x : GMethod) (cs : List Value) (w : World) (h : jC.K w x cs) (hs : gT x ≤ 1048576) : Calls Tryz.prog 128 #[.agg cs.toArray] w (kK eD x w) := by
 obtain ⟨A1, c1, rfl, hl1, hC1⟩ := kl_Method_K h
 have HC1 := Sd.mk hC1
 clear hC1
 have s_Code : dF iN x.Code ≤ 1048576 := by unfold gT at hs; omega
 clear hs
 go_enter Tryz.func128, Tryz.ntmps128
 go_wp2_with fail
 with_reducible refine (toS_Instr x.Code _ _ _ ?hc_Code s_Code).mono ?_
 case hc_Code => exact aS kA HC1.out
 rintro e w_Code ⟨v1, rfl, hR1, hu⟩
 obtain ⟨B1, b1, rfl⟩ := fI hR1
 obtain ⟨P1, hR1', g1, l1⟩ := gV hR1 (w.heap.size + 1 + 1 + 1) kB
 have ge1 : ∀ b, P1 b → w.heap.size + 1 + 1 < b := fun b hb => by have := g1 b hb; omega
 have n1_1 : ¬ P1 (w.heap.size + 1) := fun q => by have := ge1 _ q; omega
 have n2_1 : ¬ P1 (w.heap.size + 1 + 1) := fun q => by have := ge1 _ q; omega
 have HR1 := Sd.mk hR1'
 have GE1 := Sd.mk ge1
 have LT1 := Sd.mk l1
 have GP1 := Sd.mk g1
 clear hR1 hR1' ge1 l1 g1
 have HB_Code : Sd (Upd No w w_Code) := Sd.mk (Upd.then kA hu)
 have cc0_Code := fun o => hu.bB (b := w.heap.size) kB (fun q => q) o
 have cc1_Code := fun o => hu.bB (b := w.heap.size + 1) kB (fun q => q) o
 have cf1_Code := fun o => hu.dR (b := w.heap.size + 1) kB (fun q => q) o
 have cc2_Code := fun o => hu.bB (b := w.heap.size + 1 + 1) kB (fun q => q) o
 have cf2_Code := fun o => hu.dR (b := w.heap.size + 1 + 1) kB (fun q => q) o
 have hz_Code : w.heap.size + 1 + 1 + 1 ≤ w_Code.heap.size := by have := hu.size; (try simp at this); omega
 clear hu
 go_wp2
 refine bodyPost_ret (v := .agg #[.string x.Name, .slice B1 x.Code.length b1]) (by simp [results, Tryz.results128, go_sem, cc1_Code]) rfl ⟨_, rfl, ?_, (by repeat (with_reducible first | exact HB_Code.out | apply Upd.bM | apply Upd.bL | apply Upd.bI | apply Upd.alloc | apply Upd.drewN | apply Upd.drew))⟩
 exact ki_Method_mk _ _ _ (gB HR1.out (by repeat (with_reducible first | exact Upd.refl _ _ | apply Upd.gG n1_1 | apply Upd.gG n2_1 | apply Upd.alloc))) (fun k hk => by have := GE1.out k hk; simp only [New]; omega)
theorem toS_Method (l : List GMethod) (A : Option Addr) (c : Nat) (w : World) (h : C jC w A l) (hs : dF gT l ≤ 1048576) : Calls Tryz.prog 93 #[.slice A l.length c] w (lF eD 122 l w) := by
 have hn : l.length ≤ 1048576 := by unfold dF at hs; omega
 have hmk := iW (P := Tryz.prog) _ _ _ Tryz.underlying71 ki_Method_info l.length hn kD
 have H := Sd.mk h
 have HS := Sd.mk hs
 clear h hs
 go_enter Tryz.func93, Tryz.ntmps93
 go_wp2
 clear hmk
 have HR : Sd (R eD 122 (w.alloc (fQ (.agg #[.string ⟨#[]⟩, .slice none 0 0]) (l.length * 2) 122)) (New w) (.slice (some ⟨w.heap.size, 0, none⟩) l.length l.length) (List.replicate l.length zMethod)) := Sd.mk (lG (d := eD) (e := 122) w (.agg #[.string ⟨#[]⟩, .slice none 0 0]) zMethod rfl kD ki_Method_zero l.length hn)
 have HU := Sd.mk ((Upd.refl No w).alloc (fQ (.agg #[.string ⟨#[]⟩, .slice none 0 0]) (l.length * 2) 122))
 go_loopg [4] l.length (fun k v wr => ∃ i : Nat, i + k = l.length ∧ v = .int .i64 i ∧ Sd (R eD 122 wr (New w) (.slice (some ⟨w.heap.size, 0, none⟩) l.length l.length) (upTo l (List.replicate l.length zMethod) i)) ∧ Sd (Upd No w wr))
 case atStart => exact ⟨0, by omega, rfl, ⟨by rw [iM]; exact HR.out⟩, HU⟩
 case round =>
  clear HR HU
  obtain ⟨i, hi, rfl, HR, HU⟩ := hrel
  by_cases hlt : i < l.length
  ·obtain ⟨ad, A1, c1, rfl, a0, a1, hl1, hC1⟩ := kl_Method_at (aS HU.out H.out) i hlt
   have HC1 := Sd.mk hC1
   clear hC1
   have hsi : gT l[i] ≤ 1048576 := by have := HS.out; have := jQ gT l i hlt; unfold dF at *; omega
   go_wp2_with fail
   with_reducible refine (to_Method l[i] _ _ (kl_Method_Kmk _ _ hl1 HC1.out) hsi).mono ?_
   rintro e w1 ⟨cs, rfl, hM, hu⟩
   obtain ⟨v1, P1, rfl, hR1, i1⟩ := ki_Method_M (eD.M_lt hM)
   obtain ⟨D1, d1, rfl⟩ := fI hR1
   have HRowA := gH hu (fun _ _ q => q) (R_lt HR.out)
   have HU1 := Sd.mk (HU.out.then hu)
   have hzw := HU.out.size
   have HR1 := Sd.mk hR1
   have I1 := Sd.mk i1
   clear HR HU hM hu hR1 i1
   obtain ⟨g, cap, cur, ce, Fi, hv, hcap, hat, hM, hg, hFi, hFg, close⟩ := lD HRowA 2 l.length rfl (by rw [iU (by simp) (by simp; omega)]; simp) i zMethod (by rw [jP (by simp) (by simpa using hlt)]; simp)
   cases hv
   obtain ⟨y1, _, rfl, -⟩ := ki_Method_M hM
   have HAT := Sd.mk hat
   have x0 := hat.cell0 _ rfl
   have x1 := hat.cell 1 _ rfl
   have f0 := hat.free (i * 2)
   have f1 := hat.free (i * 2 + 1)
   have CL := Sd.mk close
   clear hat close hM HRowA
   go_wp2
   have HA := (HAT.out.set0 kD (.string l[i].Name)).set 1 kD (.slice D1 l[i].Code.length d1)
   have hD1 : ∀ b, P1 b → ¬ (b = w.heap.size ∨ Fi b) := by
    intro b hb q
    have h1 := (I1.out b hb).1
    simp only [New] at h1
    rcases q with rfl | q
    ·exact absurd hg.2 kO
    ·have h2 := (hFi b q).2
     omega
   have HM := ki_Method_mk _ (fun b => P1 b) l[i] (gH HA.upd hD1 HR1.out) (fun k hk => hk)
   have hP1 : ∀ b, (P1 b) → New wr b := by
    intro b hb
    exact (I1.out b hb).1
   have HRowB := CL.out _ _ l[i] _ (New w) HA HM (fun b hb => .inr (fun q => by have h1 := hP1 b hb; have h2 := q.2; simp only [New] at h1; omega)) (fun _ q => q.1) (fun b hb => by have h1 := hP1 b hb; simp only [New] at h1 ⊢; omega)
   rw [iV (by simp) (by simpa using hlt)] at HRowB
   go_roundg (gk - 1)
   case measure => omega
   case rel => exact ⟨i + 1, by omega, by go_num, ⟨HRowB⟩, ⟨by repeat (with_reducible first | exact HU1.out | apply Upd.bI)⟩⟩
  ·go_wp2
   go_ret
   have HRowB := HR.out
   rw [iT (by simp) (by simp; omega)] at HRowB
   exact ⟨_, rfl, HRowB, HU.out⟩
theorem sz_Method (x : GMethod) (cs : List Value) (n : Int) (w : World) (h : jC.K w x cs) (hb : Bd_Method x) (h0 : 0 ≤ n) (h1 : n ≤ 1048576) : Calls Tryz.prog 122 #[.agg cs.toArray, .int .i64 n] w (jS (gT x) n w) := by
 obtain ⟨A1, c1, rfl, hl1, hC1⟩ := kl_Method_K h
 have HC1 := Sd.mk hC1
 clear hC1
 obtain ⟨b_Name, b_Code⟩ := hb
 have B_Code := Sd.mk b_Code
 clear b_Code
 go_enter Tryz.func122, Tryz.ntmps122
 by_cases q_Name : ((x.Name.size : Nat) : Int) ≤ n
 case neg =>
  go_wp2
  go_ret
  exact ⟨_, rfl, .inr ⟨by unfold gT; omega, rfl⟩, kA⟩
 go_wp2_with fail
 with_reducible refine (szS_Instr x.Code _ _ _ _ ?hc_Code B_Code.out kO kO).mono ?_
 case hc_Code => exact aS kA HC1.out
 rintro e w_Code ⟨r_Code, rfl, hr_Code, hu⟩
 have HB_Code : Sd (Upd No w w_Code) := Sd.mk (Upd.then kA hu)
 have cc0_Code := fun o => hu.bB (b := w.heap.size) kB (fun q => q) o
 have hz_Code : w.heap.size + 1 ≤ w_Code.heap.size := by have := hu.size; (try simp at this); omega
 clear hu
 rcases hr_Code with ⟨q_Code, rfl⟩ | ⟨q_Code, rfl⟩
 case inr =>
  go_wp2
  go_ret
  exact ⟨_, rfl, .inr ⟨by unfold gT; omega, rfl⟩, (by repeat (with_reducible first | exact HB_Code.out | apply Upd.bM | apply Upd.bL | apply Upd.bI | apply Upd.alloc | apply Upd.drewN | apply Upd.drew))⟩
 go_wp2
 go_ret
 exact ⟨_, rfl, .inl ⟨by unfold gT; omega, by unfold gT; omega⟩, (by repeat (with_reducible first | exact HB_Code.out | apply Upd.bM | apply Upd.bL | apply Upd.bI | apply Upd.alloc | apply Upd.drewN | apply Upd.drew))⟩
theorem szS_Method (l : List GMethod) (A : Option Addr) (c : Nat) (n : Int) (w : World) (h : C jC w A l) (hb : ∀ y ∈ l, Bd_Method y) (h0 : 0 ≤ n) (h1 : n ≤ 1048576) : Calls Tryz.prog 87 #[.slice A l.length c, .int .i64 n] w (jS (dF gT l) n w) := by
 have hn := h.1
 have H := Sd.mk h
 clear h
 have HBD := Sd.mk hb
 clear hb
 go_enter Tryz.func87, Tryz.ntmps87
 by_cases q0 : (l.length : Int) ≤ n
 case neg =>
  go_wp2
  go_ret
  exact ⟨_, rfl, .inr ⟨by unfold dF; omega, rfl⟩, Upd.refl _ _⟩
 go_wp2
 go_loopg [1, 5] l.length (fun k u v wr => ∃ i : Nat, i + k = l.length ∧ (gP gT (l.take i) : Int) ≤ n - l.length ∧ u = .int .i64 (n - l.length - gP gT (l.take i)) ∧ v = .int .i64 i ∧ Sd (Upd No w wr))
 case atStart => exact ⟨0, by omega, by simp [gP]; omega, by simp [gP], rfl, ⟨Upd.refl _ _⟩⟩
 case round =>
  obtain ⟨i, hi, hle, rfl, rfl, HU⟩ := hrel
  by_cases hlt : i < l.length
  ·obtain ⟨ad, A1, c1, rfl, a0, a1, hl1, hC1⟩ := kl_Method_at (aS HU.out H.out) i hlt
   have HC1 := Sd.mk hC1
   clear hC1
   have hst := kI gT l i hlt
   have HST := Sd.mk (jB gT l i hlt)
   generalize hs : gP gT (l.take i) = s at *
   have HS := Sd.mk hs
   clear hs
   go_wp2_with fail
   with_reducible refine (sz_Method l[i] _ _ _ (kl_Method_Kmk _ _ hl1 HC1.out) (HBD.out _ (List.getElem_mem hlt)) kO kO).mono ?_
   rintro e w1 ⟨r, rfl, hr, hu⟩
   have HU1 := Sd.mk (HU.out.then hu)
   clear hu HU
   rcases hr with ⟨q, rfl⟩ | ⟨q, rfl⟩
   ·go_wp2
    go_roundg (gk - 1)
    case measure => omega
    case rel => exact ⟨i + 1, by omega, by rw [HST.out]; omega, by rw [HST.out]; exact congrArg (Value.int .i64) kO, by go_num, HU1⟩
   ·go_wp2
    go_ret
    exact ⟨_, rfl, .inr ⟨by unfold dF; omega, rfl⟩, HU1.out⟩
  ·go_wp2
   go_ret
   have e : l.take i = l := List.take_of_length_le kO
   rw [e] at hle
   exact ⟨_, rfl, .inl ⟨by unfold dF; omega, by rw [e]; unfold dF; omega⟩, HU.out⟩
theorem eq_Method (x : GMethod) (cs cs' : List Value) (w : World) (h : eD.K w x cs) (h' : eD.K w x cs') : Calls Tryz.prog 134 #[.agg cs.toArray, .agg cs'.toArray] w (bW true w) := by
 obtain ⟨A1, c1, rfl, hl1, hC1⟩ := kP h
 have HC1 := Sd.mk hC1
 clear hC1
 obtain ⟨B1, b1, rfl, hm1, hD1⟩ := kP h'
 have HD1 := Sd.mk hD1
 clear hD1
 go_enter Tryz.func134, Tryz.ntmps134
 go_wp2_with fail
 with_reducible refine (eqS_Instr x.Code _ _ _ _ _ ?hc_Code ?hd_Code).mono ?_
 case hc_Code => exact aS kA HC1.out
 case hd_Code => exact aS kA HD1.out
 rintro e w_Code ⟨rfl, hu⟩
 have HB_Code : Sd (Upd No w w_Code) := Sd.mk (Upd.then kA hu)
 have cc0_Code := fun o => hu.bB (b := w.heap.size) kB (fun q => q) o
 have cc1_Code := fun o => hu.bB (b := w.heap.size + 1) kB (fun q => q) o
 have hz_Code : w.heap.size + 1 + 1 ≤ w_Code.heap.size := by have := hu.size; (try simp at this); omega
 clear hu
 go_wp2
 go_ret
 exact ⟨rfl, (by repeat (with_reducible first | exact HB_Code.out | apply Upd.bM | apply Upd.bL | apply Upd.bI | apply Upd.alloc | apply Upd.drewN | apply Upd.drew))⟩
theorem eqS_Method (l : List GMethod) (A A' : Option Addr) (c c' : Nat) (w : World) (h : C eD w A l) (h' : C eD w A' l) : Calls Tryz.prog 101 #[.slice A l.length c, .slice A' l.length c'] w (bW true w) := by
 have hn := h.1
 have H := Sd.mk h
 have H' := Sd.mk h'
 clear h h'
 go_enter Tryz.func101, Tryz.ntmps101
 go_wp2
 go_loopg [5] l.length (fun k v wr => ∃ i : Nat, i + k = l.length ∧ v = .int .i64 i ∧ Sd (Upd No w wr))
 case atStart => exact ⟨0, by omega, rfl, ⟨Upd.refl _ _⟩⟩
 case round =>
  obtain ⟨i, hi, rfl, HU⟩ := hrel
  by_cases hlt : i < l.length
  ·obtain ⟨ad, A1, c1, rfl, a0, a1, hl1, hC1⟩ := ki_Method_at (aS HU.out H.out) i hlt
   obtain ⟨ad', B1, b1, rfl, z0, z1, hm1, hD1⟩ := ki_Method_at (aS HU.out H'.out) i hlt
   have HC1 := Sd.mk hC1
   have HD1 := Sd.mk hD1
   clear hC1 hD1
   go_wp2_with fail
   go_still_tail 8, kR
   change wpList _ _ _ _ _ wr.drew
   have HW : Sd (Upd No wr wr.drew) := ⟨(Upd.refl _ _).drew⟩
   have HU2 : Sd (Upd No w wr.drew) := ⟨HU.out.drew⟩
   generalize wr.drew = w2 at *
   go_wp2_with (go_at_call 134; (with_reducible refine (eq_Method l[i] _ _ _ (ki_Method_Kmk _ _ hl1 (aS HW.out HC1.out)) (ki_Method_Kmk _ _ hm1 (aS HW.out HD1.out))).mono ?_); rintro e w' ⟨rfl, hu⟩)
   have HU3 := Sd.mk (HU2.out.then hu)
   clear HU2 hu
   go_wp2
   go_roundg (gk - 1)
   case measure => omega
   case rel => exact ⟨i + 1, by omega, by go_num, HU3⟩
  ·go_wp2
   go_ret
   exact ⟨rfl, HU.out⟩
theorem kl_Script_Kmk (w : World) (x : GScript) {A1 : Option Addr} {c1 : Nat} (hl1 : x.Methods.length ≤ c1) (hC1 : C jC w A1 x.Methods) : jU.K w x [.string x.Name, .slice A1 x.Methods.length c1] := ⟨[_], [_], rfl, rfl, ⟨A1, c1, rfl, hl1, hC1⟩⟩
theorem ki_Script_Kmk (w : World) (x : GScript) {A1 : Option Addr} {c1 : Nat} (hl1 : x.Methods.length ≤ c1) (hC1 : C eD w A1 x.Methods) : eU.K w x [.string x.Name, .slice A1 x.Methods.length c1] := ⟨[_], [_], rfl, rfl, ⟨A1, c1, rfl, hl1, hC1⟩⟩
theorem to_Script (x : GScript) (cs : List Value) (w : World) (h : jU.K w x cs) (hs : gU x ≤ 1048576) : Calls Tryz.prog 52 #[.agg cs.toArray] w (kK eU x w) := by
 obtain ⟨A1, c1, rfl, hl1, hC1⟩ := kl_Script_K h
 have HC1 := Sd.mk hC1
 clear hC1
 have s_Methods : dF gT x.Methods ≤ 1048576 := by unfold gU at hs; omega
 clear hs
 go_enter Tryz.func52, Tryz.ntmps52
 go_wp2_with fail
 with_reducible refine (toS_Method x.Methods _ _ _ ?hc_Methods s_Methods).mono ?_
 case hc_Methods => exact aS kA HC1.out
 rintro e w_Methods ⟨v1, rfl, hR1, hu⟩
 obtain ⟨B1, b1, rfl⟩ := fI hR1
 obtain ⟨P1, hR1', g1, l1⟩ := gV hR1 (w.heap.size + 1 + 1 + 1) kB
 have ge1 : ∀ b, P1 b → w.heap.size + 1 + 1 < b := fun b hb => by have := g1 b hb; omega
 have n1_1 : ¬ P1 (w.heap.size + 1) := fun q => by have := ge1 _ q; omega
 have n2_1 : ¬ P1 (w.heap.size + 1 + 1) := fun q => by have := ge1 _ q; omega
 have HR1 := Sd.mk hR1'
 have GE1 := Sd.mk ge1
 have LT1 := Sd.mk l1
 have GP1 := Sd.mk g1
 clear hR1 hR1' ge1 l1 g1
 have HB_Methods : Sd (Upd No w w_Methods) := Sd.mk (Upd.then kA hu)
 have cc0_Methods := fun o => hu.bB (b := w.heap.size) kB (fun q => q) o
 have cc1_Methods := fun o => hu.bB (b := w.heap.size + 1) kB (fun q => q) o
 have cf1_Methods := fun o => hu.dR (b := w.heap.size + 1) kB (fun q => q) o
 have cc2_Methods := fun o => hu.bB (b := w.heap.size + 1 + 1) kB (fun q => q) o
 have cf2_Methods := fun o => hu.dR (b := w.heap.size + 1 + 1) kB (fun q => q) o
 have hz_Methods : w.heap.size + 1 + 1 + 1 ≤ w_Methods.heap.size := by have := hu.size; (try simp at this); omega
 clear hu
 go_wp2
 refine bodyPost_ret (v := .agg #[.string x.Name, .slice B1 x.Methods.length b1]) (by simp [results, Tryz.results52, go_sem, cc1_Methods]) rfl ⟨_, rfl, ?_, (by repeat (with_reducible first | exact HB_Methods.out | apply Upd.bM | apply Upd.bL | apply Upd.bI | apply Upd.alloc | apply Upd.drewN | apply Upd.drew))⟩
 exact ki_Script_mk _ _ _ (gB HR1.out (by repeat (with_reducible first | exact Upd.refl _ _ | apply Upd.gG n1_1 | apply Upd.gG n2_1 | apply Upd.alloc))) (fun k hk => by have := GE1.out k hk; simp only [New]; omega)
theorem toS_Script (l : List GScript) (A : Option Addr) (c : Nat) (w : World) (h : C jU w A l) (hs : dF gU l ≤ 1048576) : Calls Tryz.prog 25 #[.slice A l.length c] w (lF eU 73 l w) := by
 have hn : l.length ≤ 1048576 := by unfold dF at hs; omega
 have hmk := iW (P := Tryz.prog) _ _ _ Tryz.underlying30 ki_Script_info l.length hn kD
 have H := Sd.mk h
 have HS := Sd.mk hs
 clear h hs
 go_enter Tryz.func25, Tryz.ntmps25
 go_wp2
 clear hmk
 have HR : Sd (R eU 73 (w.alloc (fQ (.agg #[.string ⟨#[]⟩, .slice none 0 0]) (l.length * 2) 73)) (New w) (.slice (some ⟨w.heap.size, 0, none⟩) l.length l.length) (List.replicate l.length zScript)) := Sd.mk (lG (d := eU) (e := 73) w (.agg #[.string ⟨#[]⟩, .slice none 0 0]) zScript rfl kD ki_Script_zero l.length hn)
 have HU := Sd.mk ((Upd.refl No w).alloc (fQ (.agg #[.string ⟨#[]⟩, .slice none 0 0]) (l.length * 2) 73))
 go_loopg [4] l.length (fun k v wr => ∃ i : Nat, i + k = l.length ∧ v = .int .i64 i ∧ Sd (R eU 73 wr (New w) (.slice (some ⟨w.heap.size, 0, none⟩) l.length l.length) (upTo l (List.replicate l.length zScript) i)) ∧ Sd (Upd No w wr))
 case atStart => exact ⟨0, by omega, rfl, ⟨by rw [iM]; exact HR.out⟩, HU⟩
 case round =>
  clear HR HU
  obtain ⟨i, hi, rfl, HR, HU⟩ := hrel
  by_cases hlt : i < l.length
  ·obtain ⟨ad, A1, c1, rfl, a0, a1, hl1, hC1⟩ := kl_Script_at (aS HU.out H.out) i hlt
   have HC1 := Sd.mk hC1
   clear hC1
   have hsi : gU l[i] ≤ 1048576 := by have := HS.out; have := jQ gU l i hlt; unfold dF at *; omega
   go_wp2_with fail
   with_reducible refine (to_Script l[i] _ _ (kl_Script_Kmk _ _ hl1 HC1.out) hsi).mono ?_
   rintro e w1 ⟨cs, rfl, hM, hu⟩
   obtain ⟨v1, P1, rfl, hR1, i1⟩ := ki_Script_M (eU.M_lt hM)
   obtain ⟨D1, d1, rfl⟩ := fI hR1
   have HRowA := gH hu (fun _ _ q => q) (R_lt HR.out)
   have HU1 := Sd.mk (HU.out.then hu)
   have hzw := HU.out.size
   have HR1 := Sd.mk hR1
   have I1 := Sd.mk i1
   clear HR HU hM hu hR1 i1
   obtain ⟨g, cap, cur, ce, Fi, hv, hcap, hat, hM, hg, hFi, hFg, close⟩ := lD HRowA 2 l.length rfl (by rw [iU (by simp) (by simp; omega)]; simp) i zScript (by rw [jP (by simp) (by simpa using hlt)]; simp)
   cases hv
   obtain ⟨y1, _, rfl, -⟩ := ki_Script_M hM
   have HAT := Sd.mk hat
   have x0 := hat.cell0 _ rfl
   have x1 := hat.cell 1 _ rfl
   have f0 := hat.free (i * 2)
   have f1 := hat.free (i * 2 + 1)
   have CL := Sd.mk close
   clear hat close hM HRowA
   go_wp2
   have HA := (HAT.out.set0 kD (.string l[i].Name)).set 1 kD (.slice D1 l[i].Methods.length d1)
   have hD1 : ∀ b, P1 b → ¬ (b = w.heap.size ∨ Fi b) := by
    intro b hb q
    have h1 := (I1.out b hb).1
    simp only [New] at h1
    rcases q with rfl | q
    ·exact absurd hg.2 kO
    ·have h2 := (hFi b q).2
     omega
   have HM := ki_Script_mk _ (fun b => P1 b) l[i] (gH HA.upd hD1 HR1.out) (fun k hk => hk)
   have hP1 : ∀ b, (P1 b) → New wr b := by
    intro b hb
    exact (I1.out b hb).1
   have HRowB := CL.out _ _ l[i] _ (New w) HA HM (fun b hb => .inr (fun q => by have h1 := hP1 b hb; have h2 := q.2; simp only [New] at h1; omega)) (fun _ q => q.1) (fun b hb => by have h1 := hP1 b hb; simp only [New] at h1 ⊢; omega)
   rw [iV (by simp) (by simpa using hlt)] at HRowB
   go_roundg (gk - 1)
   case measure => omega
   case rel => exact ⟨i + 1, by omega, by go_num, ⟨HRowB⟩, ⟨by repeat (with_reducible first | exact HU1.out | apply Upd.bI)⟩⟩
  ·go_wp2
   go_ret
   have HRowB := HR.out
   rw [iT (by simp) (by simp; omega)] at HRowB
   exact ⟨_, rfl, HRowB, HU.out⟩
theorem sz_Script (x : GScript) (cs : List Value) (n : Int) (w : World) (h : jU.K w x cs) (hb : Bd_Script x) (h0 : 0 ≤ n) (h1 : n ≤ 1048576) : Calls Tryz.prog 49 #[.agg cs.toArray, .int .i64 n] w (jS (gU x) n w) := by
 obtain ⟨A1, c1, rfl, hl1, hC1⟩ := kl_Script_K h
 have HC1 := Sd.mk hC1
 clear hC1
 obtain ⟨b_Name, b_Methods⟩ := hb
 have B_Methods := Sd.mk b_Methods
 clear b_Methods
 go_enter Tryz.func49, Tryz.ntmps49
 by_cases q_Name : ((x.Name.size : Nat) : Int) ≤ n
 case neg =>
  go_wp2
  go_ret
  exact ⟨_, rfl, .inr ⟨by unfold gU; omega, rfl⟩, kA⟩
 go_wp2_with fail
 with_reducible refine (szS_Method x.Methods _ _ _ _ ?hc_Methods B_Methods.out kO kO).mono ?_
 case hc_Methods => exact aS kA HC1.out
 rintro e w_Methods ⟨r_Methods, rfl, hr_Methods, hu⟩
 have HB_Methods : Sd (Upd No w w_Methods) := Sd.mk (Upd.then kA hu)
 have cc0_Methods := fun o => hu.bB (b := w.heap.size) kB (fun q => q) o
 have hz_Methods : w.heap.size + 1 ≤ w_Methods.heap.size := by have := hu.size; (try simp at this); omega
 clear hu
 rcases hr_Methods with ⟨q_Methods, rfl⟩ | ⟨q_Methods, rfl⟩
 case inr =>
  go_wp2
  go_ret
  exact ⟨_, rfl, .inr ⟨by unfold gU; omega, rfl⟩, (by repeat (with_reducible first | exact HB_Methods.out | apply Upd.bM | apply Upd.bL | apply Upd.bI | apply Upd.alloc | apply Upd.drewN | apply Upd.drew))⟩
 go_wp2
 go_ret
 exact ⟨_, rfl, .inl ⟨by unfold gU; omega, by unfold gU; omega⟩, (by repeat (with_reducible first | exact HB_Methods.out | apply Upd.bM | apply Upd.bL | apply Upd.bI | apply Upd.alloc | apply Upd.drewN | apply Upd.drew))⟩
theorem szS_Script (l : List GScript) (A : Option Addr) (c : Nat) (n : Int) (w : World) (h : C jU w A l) (hb : ∀ y ∈ l, Bd_Script y) (h0 : 0 ≤ n) (h1 : n ≤ 1048576) : Calls Tryz.prog 19 #[.slice A l.length c, .int .i64 n] w (jS (dF gU l) n w) := by
 have hn := h.1
 have H := Sd.mk h
 clear h
 have HBD := Sd.mk hb
 clear hb
 go_enter Tryz.func19, Tryz.ntmps19
 by_cases q0 : (l.length : Int) ≤ n
 case neg =>
  go_wp2
  go_ret
  exact ⟨_, rfl, .inr ⟨by unfold dF; omega, rfl⟩, Upd.refl _ _⟩
 go_wp2
 go_loopg [1, 5] l.length (fun k u v wr => ∃ i : Nat, i + k = l.length ∧ (gP gU (l.take i) : Int) ≤ n - l.length ∧ u = .int .i64 (n - l.length - gP gU (l.take i)) ∧ v = .int .i64 i ∧ Sd (Upd No w wr))
 case atStart => exact ⟨0, by omega, by simp [gP]; omega, by simp [gP], rfl, ⟨Upd.refl _ _⟩⟩
 case round =>
  obtain ⟨i, hi, hle, rfl, rfl, HU⟩ := hrel
  by_cases hlt : i < l.length
  ·obtain ⟨ad, A1, c1, rfl, a0, a1, hl1, hC1⟩ := kl_Script_at (aS HU.out H.out) i hlt
   have HC1 := Sd.mk hC1
   clear hC1
   have hst := kI gU l i hlt
   have HST := Sd.mk (jB gU l i hlt)
   generalize hs : gP gU (l.take i) = s at *
   have HS := Sd.mk hs
   clear hs
   go_wp2_with fail
   with_reducible refine (sz_Script l[i] _ _ _ (kl_Script_Kmk _ _ hl1 HC1.out) (HBD.out _ (List.getElem_mem hlt)) kO kO).mono ?_
   rintro e w1 ⟨r, rfl, hr, hu⟩
   have HU1 := Sd.mk (HU.out.then hu)
   clear hu HU
   rcases hr with ⟨q, rfl⟩ | ⟨q, rfl⟩
   ·go_wp2
    go_roundg (gk - 1)
    case measure => omega
    case rel => exact ⟨i + 1, by omega, by rw [HST.out]; omega, by rw [HST.out]; exact congrArg (Value.int .i64) kO, by go_num, HU1⟩
   ·go_wp2
    go_ret
    exact ⟨_, rfl, .inr ⟨by unfold dF; omega, rfl⟩, HU1.out⟩
  ·go_wp2
   go_ret
   have e : l.take i = l := List.take_of_length_le kO
   rw [e] at hle
   exact ⟨_, rfl, .inl ⟨by unfold dF; omega, by rw [e]; unfold dF; omega⟩, HU.out⟩
theorem eq_Script (x : GScript) (cs cs' : List Value) (w : World) (h : eU.K w x cs) (h' : eU.K w x cs') : Calls Tryz.prog 58 #[.agg cs.toArray, .agg cs'.toArray] w (bW true w) := by
 obtain ⟨A1, c1, rfl, hl1, hC1⟩ := kQ h
 have HC1 := Sd.mk hC1
 clear hC1
 obtain ⟨B1, b1, rfl, hm1, hD1⟩ := kQ h'
 have HD1 := Sd.mk hD1
 clear hD1
 go_enter Tryz.func58, Tryz.ntmps58
 go_wp2_with fail
 with_reducible refine (eqS_Method x.Methods _ _ _ _ _ ?hc_Methods ?hd_Methods).mono ?_
 case hc_Methods => exact aS kA HC1.out
 case hd_Methods => exact aS kA HD1.out
 rintro e w_Methods ⟨rfl, hu⟩
 have HB_Methods : Sd (Upd No w w_Methods) := Sd.mk (Upd.then kA hu)
 have cc0_Methods := fun o => hu.bB (b := w.heap.size) kB (fun q => q) o
 have cc1_Methods := fun o => hu.bB (b := w.heap.size + 1) kB (fun q => q) o
 have hz_Methods : w.heap.size + 1 + 1 ≤ w_Methods.heap.size := by have := hu.size; (try simp at this); omega
 clear hu
 go_wp2
 go_ret
 exact ⟨rfl, (by repeat (with_reducible first | exact HB_Methods.out | apply Upd.bM | apply Upd.bL | apply Upd.bI | apply Upd.alloc | apply Upd.drewN | apply Upd.drew))⟩
theorem eqS_Script (l : List GScript) (A A' : Option Addr) (c c' : Nat) (w : World) (h : C eU w A l) (h' : C eU w A' l) : Calls Tryz.prog 30 #[.slice A l.length c, .slice A' l.length c'] w (bW true w) := by
 have hn := h.1
 have H := Sd.mk h
 have H' := Sd.mk h'
 clear h h'
 go_enter Tryz.func30, Tryz.ntmps30
 go_wp2
 go_loopg [5] l.length (fun k v wr => ∃ i : Nat, i + k = l.length ∧ v = .int .i64 i ∧ Sd (Upd No w wr))
 case atStart => exact ⟨0, by omega, rfl, ⟨Upd.refl _ _⟩⟩
 case round =>
  obtain ⟨i, hi, rfl, HU⟩ := hrel
  by_cases hlt : i < l.length
  ·obtain ⟨ad, A1, c1, rfl, a0, a1, hl1, hC1⟩ := ki_Script_at (aS HU.out H.out) i hlt
   obtain ⟨ad', B1, b1, rfl, z0, z1, hm1, hD1⟩ := ki_Script_at (aS HU.out H'.out) i hlt
   have HC1 := Sd.mk hC1
   have HD1 := Sd.mk hD1
   clear hC1 hD1
   go_wp2_with fail
   go_still_tail 8, kR
   change wpList _ _ _ _ _ wr.drew
   have HW : Sd (Upd No wr wr.drew) := ⟨(Upd.refl _ _).drew⟩
   have HU2 : Sd (Upd No w wr.drew) := ⟨HU.out.drew⟩
   generalize wr.drew = w2 at *
   go_wp2_with (go_at_call 58; (with_reducible refine (eq_Script l[i] _ _ _ (ki_Script_Kmk _ _ hl1 (aS HW.out HC1.out)) (ki_Script_Kmk _ _ hm1 (aS HW.out HD1.out))).mono ?_); rintro e w' ⟨rfl, hu⟩)
   have HU3 := Sd.mk (HU2.out.then hu)
   clear HU2 hu
   go_wp2
   go_roundg (gk - 1)
   case measure => omega
   case rel => exact ⟨i + 1, by omega, by go_num, HU3⟩
  ·go_wp2
   go_ret
   exact ⟨rfl, HU.out⟩
theorem kl_Value_Kmk (w : World) (x : GValue) : iJ.K w x [.int .i64 x.Kind, .int .i64 x.N] := ⟨[_], [_], rfl, rfl, rfl⟩
theorem mM (w : World) (x : GValue) : dY.K w x [.int .i64 x.Kind, .int .i64 x.N] := ⟨[_], [_], rfl, rfl, rfl⟩
theorem to_Value (x : GValue) (cs : List Value) (w : World) (h : iJ.K w x cs) (hs : jI x ≤ 1048576) : Calls Tryz.prog 148 #[.agg cs.toArray] w (kK dY x w) := by
 obtain rfl := kl_Value_K h
 clear hs
 go_enter Tryz.func148, Tryz.ntmps148
 go_wp2
 refine bodyPost_ret (v := .agg #[.int .i64 x.Kind, .int .i64 x.N]) (by simp [results, Tryz.results148, go_sem]) rfl ⟨_, rfl, ?_, kA⟩
 exact oW _ _ _
theorem toS_Value (l : List GValue) (A : Option Addr) (c : Nat) (w : World) (h : C iJ w A l) (hs : dF jI l ≤ 1048576) : Calls Tryz.prog 147 #[.slice A l.length c] w (lF dY 129 l w) := by
 have hn : l.length ≤ 1048576 := by unfold dF at hs; omega
 have hmk := iW (P := Tryz.prog) _ _ _ Tryz.underlying127 ki_Value_info l.length hn kD
 have H := Sd.mk h
 have HS := Sd.mk hs
 clear h hs
 go_enter Tryz.func147, Tryz.ntmps147
 go_wp2
 clear hmk
 have HR : Sd (R dY 129 (w.alloc (fQ (.agg #[.int .i64 0, .int .i64 0]) (l.length * 2) 129)) (New w) (.slice (some ⟨w.heap.size, 0, none⟩) l.length l.length) (List.replicate l.length zValue)) := Sd.mk (lG (d := dY) (e := 129) w (.agg #[.int .i64 0, .int .i64 0]) zValue rfl kD ki_Value_zero l.length hn)
 have HU := Sd.mk ((Upd.refl No w).alloc (fQ (.agg #[.int .i64 0, .int .i64 0]) (l.length * 2) 129))
 go_loopg [4] l.length (fun k v wr => ∃ i : Nat, i + k = l.length ∧ v = .int .i64 i ∧ Sd (R dY 129 wr (New w) (.slice (some ⟨w.heap.size, 0, none⟩) l.length l.length) (upTo l (List.replicate l.length zValue) i)) ∧ Sd (Upd No w wr))
 case atStart => exact ⟨0, by omega, rfl, ⟨by rw [iM]; exact HR.out⟩, HU⟩
 case round =>
  clear HR HU
  obtain ⟨i, hi, rfl, HR, HU⟩ := hrel
  by_cases hlt : i < l.length
  ·obtain ⟨ad, rfl, a0, a1⟩ := kl_Value_at (aS HU.out H.out) i hlt
   have hsi : jI l[i] ≤ 1048576 := by have := HS.out; have := jQ jI l i hlt; unfold dF at *; omega
   go_wp2_with fail
   with_reducible refine (to_Value l[i] _ _ (kl_Value_Kmk _ _) hsi).mono ?_
   rintro e w1 ⟨cs, rfl, hM, hu⟩
   obtain rfl := ki_Value_M hM
   have HRowA := gH hu (fun _ _ q => q) (R_lt HR.out)
   have HU1 := Sd.mk (HU.out.then hu)
   have hzw := HU.out.size
   clear HR HU hM hu
   obtain ⟨g, cap, cur, ce, Fi, hv, hcap, hat, hM, hg, hFi, hFg, close⟩ := lD HRowA 2 l.length rfl (by rw [iU (by simp) (by simp; omega)]; simp) i zValue (by rw [jP (by simp) (by simpa using hlt)]; simp)
   cases hv
   obtain rfl := ki_Value_M hM
   have HAT := Sd.mk hat
   have x0 := hat.cell0 _ rfl
   have x1 := hat.cell 1 _ rfl
   have f0 := hat.free (i * 2)
   have f1 := hat.free (i * 2 + 1)
   have CL := Sd.mk close
   clear hat close hM HRowA
   go_wp2
   have HA := (HAT.out.set0 kD (.int .i64 l[i].Kind)).set 1 kD (.int .i64 l[i].N)
   have HRowB := CL.out _ _ l[i] No (New w) HA (oW _ _ _) (fun _ q => q.elim) (fun _ q => q.1) (fun _ q => q.elim)
   rw [iV (by simp) (by simpa using hlt)] at HRowB
   go_roundg (gk - 1)
   case measure => omega
   case rel => exact ⟨i + 1, by omega, by go_num, ⟨HRowB⟩, ⟨by repeat (with_reducible first | exact HU1.out | apply Upd.bI)⟩⟩
  ·go_wp2
   go_ret
   have HRowB := HR.out
   rw [iT (by simp) (by simp; omega)] at HRowB
   exact ⟨_, rfl, HRowB, HU.out⟩
theorem szS_Value (l : List GValue) (A : Option Addr) (c : Nat) (n : Int) (w : World) (h : C iJ w A l) (h0 : 0 ≤ n) (h1 : n ≤ 1048576) : Calls Tryz.prog 141 #[.slice A l.length c, .int .i64 n] w (jS (dF jI l) n w) := by
 have hn := h.1
 have H := Sd.mk h
 clear h
 go_enter Tryz.func141, Tryz.ntmps141
 by_cases q0 : (l.length : Int) ≤ n
 case neg =>
  go_wp2
  go_ret
  exact ⟨_, rfl, .inr ⟨by unfold dF; omega, rfl⟩, Upd.refl _ _⟩
 have hz : gP jI l = 0 := by
  clear q0 hn H
  induction l with
  | nil => rfl
  | cons x l ih => simp [gP, jI, ih]
 have HZ := Sd.mk hz
 clear hz
 go_wp2
 go_ret
 have hz := HZ.out
 exact ⟨_, rfl, .inl ⟨by unfold dF; omega, by unfold dF; omega⟩, Upd.refl _ _⟩
theorem eq_Value (x : GValue) (cs cs' : List Value) (w : World) (h : dY.K w x cs) (h' : dY.K w x cs') : Calls Tryz.prog 156 #[.agg cs.toArray, .agg cs'.toArray] w (bW true w) := by
 obtain rfl := j6 h
 obtain rfl := j6 h'
 go_enter Tryz.func156, Tryz.ntmps156
 go_wp2
 go_ret
 exact ⟨rfl, kA⟩
theorem eqS_Value (l : List GValue) (A A' : Option Addr) (c c' : Nat) (w : World) (h : C dY w A l) (h' : C dY w A' l) : Calls Tryz.prog 155 #[.slice A l.length c, .slice A' l.length c'] w (bW true w) := by
 have hn := h.1
 have H := Sd.mk h
 have H' := Sd.mk h'
 clear h h'
 go_enter Tryz.func155, Tryz.ntmps155
 go_wp2
 go_loopg [5] l.length (fun k v wr => ∃ i : Nat, i + k = l.length ∧ v = .int .i64 i ∧ Sd (Upd No w wr))
 case atStart => exact ⟨0, by omega, rfl, ⟨Upd.refl _ _⟩⟩
 case round =>
  obtain ⟨i, hi, rfl, HU⟩ := hrel
  by_cases hlt : i < l.length
  ·obtain ⟨ad, rfl, a0, a1⟩ := ki_Value_at (aS HU.out H.out) i hlt
   obtain ⟨ad', rfl, z0, z1⟩ := ki_Value_at (aS HU.out H'.out) i hlt
   go_wp2_with fail
   go_still_tail 8, kR
   change wpList _ _ _ _ _ wr.drew
   have HW : Sd (Upd No wr wr.drew) := ⟨(Upd.refl _ _).drew⟩
   have HU2 : Sd (Upd No w wr.drew) := ⟨HU.out.drew⟩
   generalize wr.drew = w2 at *
   go_wp2_with (go_at_call 156; (with_reducible refine (eq_Value l[i] _ _ _ (mM _ _) (mM _ _)).mono ?_); rintro e w' ⟨rfl, hu⟩)
   have HU3 := Sd.mk (HU2.out.then hu)
   clear HU2 hu
   go_wp2
   go_roundg (gk - 1)
   case measure => omega
   case rel => exact ⟨i + 1, by omega, by go_num, HU3⟩
  ·go_wp2
   go_ret
   exact ⟨rfl, HU.out⟩
theorem mX (w : World) (x : GTag) : kl_Tag.K w x [.int .i64 x.Vat, .int .i64 x.Entity, .int .i64 x.Seq] := ⟨[_], [_, _], rfl, rfl, ⟨[_], [_], rfl, rfl, rfl⟩⟩
theorem kF (w : World) (x : GTag) : ki_Tag.K w x [.int .i64 x.Vat, .int .i64 x.Entity, .int .i64 x.Seq] := ⟨[_], [_, _], rfl, rfl, ⟨[_], [_], rfl, rfl, rfl⟩⟩
theorem to_Tag (x : GTag) (cs : List Value) (w : World) (h : kl_Tag.K w x cs) (hs : szn_Tag x ≤ 1048576) : Calls Tryz.prog 99 #[.agg cs.toArray] w (kK ki_Tag x w) := by
 obtain rfl := kl_Tag_K h
 clear hs
 go_enter Tryz.func99, Tryz.ntmps99
 go_wp2
 refine bodyPost_ret (v := .agg #[.int .i64 x.Vat, .int .i64 x.Entity, .int .i64 x.Seq]) (by simp [results, Tryz.results99, go_sem]) rfl ⟨_, rfl, ?_, kA⟩
 exact ki_Tag_mk _ _ _
theorem eq_Tag (x : GTag) (cs cs' : List Value) (w : World) (h : ki_Tag.K w x cs) (h' : ki_Tag.K w x cs') : Calls Tryz.prog 35 #[.agg cs.toArray, .agg cs'.toArray] w (bW true w) := by
 obtain rfl := ki_Tag_K h
 obtain rfl := ki_Tag_K h'
 go_enter Tryz.func35, Tryz.ntmps35
 go_wp2
 go_ret
 exact ⟨rfl, kA⟩
theorem kl_Sent_Kmk (w : World) (x : GSent) {A2 : Option Addr} {c2 : Nat} (hl2 : x.bD.length ≤ c2) (hC2 : C iJ w A2 x.bD) : jG.K w x [.int .i64 x.Target, .string x.Name, .slice A2 x.bD.length c2, .int .i64 x.Result, .int .i64 x.Tag.Vat, .int .i64 x.Tag.Entity, .int .i64 x.Tag.Seq] := ⟨[_], [_, _, _, _, _, _], rfl, rfl, ⟨[_], [_, _, _, _, _], rfl, rfl, ⟨[_], [_, _, _, _], rfl, ⟨A2, c2, rfl, hl2, hC2⟩, ⟨[_], [_, _, _], rfl, rfl, (mX w _)⟩⟩⟩⟩
theorem ki_Sent_Kmk (w : World) (x : GSent) {A2 : Option Addr} {c2 : Nat} (hl2 : x.bD.length ≤ c2) (hC2 : C dY w A2 x.bD) : eX.K w x [.int .i64 x.Target, .string x.Name, .slice A2 x.bD.length c2, .int .i64 x.Result, .int .i64 x.Tag.Vat, .int .i64 x.Tag.Entity, .int .i64 x.Tag.Seq] := ⟨[_], [_, _, _, _, _, _], rfl, rfl, ⟨[_], [_, _, _, _, _], rfl, rfl, ⟨[_], [_, _, _, _], rfl, ⟨A2, c2, rfl, hl2, hC2⟩, ⟨[_], [_, _, _], rfl, rfl, (kF w _)⟩⟩⟩⟩
theorem to_Sent (x : GSent) (cs : List Value) (w : World) (h : jG.K w x cs) (hs : iF x ≤ 1048576) : Calls Tryz.prog 130 #[.agg cs.toArray] w (kK eX x w) := by
 obtain ⟨A2, c2, rfl, hl2, hC2⟩ := kl_Sent_K h
 have HC2 := Sd.mk hC2
 clear hC2
 have s_Args : dF jI x.bD ≤ 1048576 := by unfold iF at hs; omega
 clear hs
 go_enter Tryz.func130, Tryz.ntmps130
 go_wp2_with fail
 with_reducible refine (toS_Value x.bD _ _ _ ?hc_Args s_Args).mono ?_
 case hc_Args => exact aS kA HC2.out
 rintro e w_Args ⟨v2, rfl, hR2, hu⟩
 obtain ⟨B2, b2, rfl⟩ := fI hR2
 obtain ⟨P2, hR2', g2, l2⟩ := gV hR2 (w.heap.size + 1 + 1 + 1) kB
 have ge2 : ∀ b, P2 b → w.heap.size + 1 + 1 < b := fun b hb => by have := g2 b hb; omega
 have n1_2 : ¬ P2 (w.heap.size + 1) := fun q => by have := ge2 _ q; omega
 have n2_2 : ¬ P2 (w.heap.size + 1 + 1) := fun q => by have := ge2 _ q; omega
 have HR2 := Sd.mk hR2'
 have GE2 := Sd.mk ge2
 have LT2 := Sd.mk l2
 have GP2 := Sd.mk g2
 clear hR2 hR2' ge2 l2 g2
 have HB_Args : Sd (Upd No w w_Args) := Sd.mk (Upd.then kA hu)
 have cc0_Args := fun o => hu.bB (b := w.heap.size) kB (fun q => q) o
 have cc1_Args := fun o => hu.bB (b := w.heap.size + 1) kB (fun q => q) o
 have cf1_Args := fun o => hu.dR (b := w.heap.size + 1) kB (fun q => q) o
 have cc2_Args := fun o => hu.bB (b := w.heap.size + 1 + 1) kB (fun q => q) o
 have cf2_Args := fun o => hu.dR (b := w.heap.size + 1 + 1) kB (fun q => q) o
 have hz_Args : w.heap.size + 1 + 1 + 1 ≤ w_Args.heap.size := by have := hu.size; (try simp at this); omega
 clear hu
 go_wp2_with fail
 with_reducible refine (to_Tag x.Tag _ _ (mX _ _) (by simp [szn_Tag])).mono ?_
 rintro e w_Tag ⟨cs_Tag, rfl, hM, hu⟩
 obtain rfl := ki_Tag_M hM
 clear hM
 have HR2 := Sd.mk (gH hu (fun _ _ q => q) (gB HR2.out (by repeat (with_reducible first | exact Upd.refl _ _ | apply Upd.gG n1_2 | apply Upd.gG n2_2 | apply Upd.alloc))))
 have HB_Tag : Sd (Upd No w w_Tag) := Sd.mk (Upd.then (by repeat (with_reducible first | exact HB_Args.out | apply Upd.bM | apply Upd.bL | apply Upd.bI | apply Upd.alloc | apply Upd.drewN | apply Upd.drew)) hu)
 have cc0_Tag := fun o => hu.bB (b := w.heap.size) kB (fun q => q) o
 have cc1_Tag := fun o => hu.bB (b := w.heap.size + 1) kB (fun q => q) o
 have cf1_Tag := fun o => hu.dR (b := w.heap.size + 1) kB (fun q => q) o
 have cc2_Tag := fun o => hu.bB (b := w.heap.size + 1 + 1) kB (fun q => q) o
 have cf2_Tag := fun o => hu.dR (b := w.heap.size + 1 + 1) kB (fun q => q) o
 have hz_Tag : w.heap.size + 1 + 1 + 1 ≤ w_Tag.heap.size := by have := hu.size; (try simp at this); omega
 have hm_Tag : w_Args.heap.size ≤ w_Tag.heap.size := by have := hu.size; (try simp at this); omega
 clear hu
 go_wp2
 refine bodyPost_ret (v := .agg #[.int .i64 x.Target, .string x.Name, .slice B2 x.bD.length b2, .int .i64 x.Result, .int .i64 x.Tag.Vat, .int .i64 x.Tag.Entity, .int .i64 x.Tag.Seq]) (by simp [results, Tryz.results130, go_sem, cc1_Args, cc1_Tag]) rfl ⟨_, rfl, ?_, (by repeat (with_reducible first | exact HB_Tag.out | apply Upd.bM | apply Upd.bL | apply Upd.bI | apply Upd.alloc | apply Upd.drewN | apply Upd.drew))⟩
 exact ki_Sent_mk _ _ _ (gB HR2.out (by repeat (with_reducible first | exact Upd.refl _ _ | apply Upd.gG n1_2 | apply Upd.gG n2_2 | apply Upd.alloc))) (fun k hk => by have := GE2.out k hk; simp only [New]; omega)
theorem toS_Sent (l : List GSent) (A : Option Addr) (c : Nat) (w : World) (h : C jG w A l) (hs : dF iF l ≤ 1048576) : Calls Tryz.prog 95 #[.slice A l.length c] w (lF eX 178 l w) := by
 have hn : l.length ≤ 1048576 := by unfold dF at hs; omega
 have hmk := iW (P := Tryz.prog) _ _ _ Tryz.underlying76 ki_Sent_info l.length hn kD
 have H := Sd.mk h
 have HS := Sd.mk hs
 clear h hs
 go_enter Tryz.func95, Tryz.ntmps95
 go_wp2
 clear hmk
 have HR : Sd (R eX 178 (w.alloc (fQ (.agg #[.int .i64 0, .string ⟨#[]⟩, .slice none 0 0, .int .i64 0, .int .i64 0, .int .i64 0, .int .i64 0]) (l.length * 7) 178)) (New w) (.slice (some ⟨w.heap.size, 0, none⟩) l.length l.length) (List.replicate l.length zSent)) := Sd.mk (lG (d := eX) (e := 178) w (.agg #[.int .i64 0, .string ⟨#[]⟩, .slice none 0 0, .int .i64 0, .int .i64 0, .int .i64 0, .int .i64 0]) zSent rfl kD ki_Sent_zero l.length hn)
 have HU := Sd.mk ((Upd.refl No w).alloc (fQ (.agg #[.int .i64 0, .string ⟨#[]⟩, .slice none 0 0, .int .i64 0, .int .i64 0, .int .i64 0, .int .i64 0]) (l.length * 7) 178))
 go_loopg [4] l.length (fun k v wr => ∃ i : Nat, i + k = l.length ∧ v = .int .i64 i ∧ Sd (R eX 178 wr (New w) (.slice (some ⟨w.heap.size, 0, none⟩) l.length l.length) (upTo l (List.replicate l.length zSent) i)) ∧ Sd (Upd No w wr))
 case atStart => exact ⟨0, by omega, rfl, ⟨by rw [iM]; exact HR.out⟩, HU⟩
 case round =>
  clear HR HU
  obtain ⟨i, hi, rfl, HR, HU⟩ := hrel
  by_cases hlt : i < l.length
  ·obtain ⟨ad, A2, c2, rfl, a0, a1, a2, a3, a4, a5, a6, hl2, hC2⟩ := kl_Sent_at (aS HU.out H.out) i hlt
   have HC2 := Sd.mk hC2
   clear hC2
   have hsi : iF l[i] ≤ 1048576 := by have := HS.out; have := jQ iF l i hlt; unfold dF at *; omega
   go_wp2_with fail
   with_reducible refine (to_Sent l[i] _ _ (kl_Sent_Kmk _ _ hl2 HC2.out) hsi).mono ?_
   rintro e w1 ⟨cs, rfl, hM, hu⟩
   obtain ⟨v2, P2, rfl, hR2, i2⟩ := ki_Sent_M (eX.M_lt hM)
   obtain ⟨D2, d2, rfl⟩ := fI hR2
   have HRowA := gH hu (fun _ _ q => q) (R_lt HR.out)
   have HU1 := Sd.mk (HU.out.then hu)
   have hzw := HU.out.size
   have HR2 := Sd.mk hR2
   have I2 := Sd.mk i2
   clear HR HU hM hu hR2 i2
   obtain ⟨g, cap, cur, ce, Fi, hv, hcap, hat, hM, hg, hFi, hFg, close⟩ := lD HRowA 7 l.length rfl (by rw [iU (by simp) (by simp; omega)]; simp) i zSent (by rw [jP (by simp) (by simpa using hlt)]; simp)
   cases hv
   obtain ⟨y2, _, rfl, -⟩ := ki_Sent_M hM
   have HAT := Sd.mk hat
   have x0 := hat.cell0 _ rfl
   have x1 := hat.cell 1 _ rfl
   have x2 := hat.cell 2 _ rfl
   have x3 := hat.cell 3 _ rfl
   have x4 := hat.cell 4 _ rfl
   have x5 := hat.cell 5 _ rfl
   have x6 := hat.cell 6 _ rfl
   have f0 := hat.free (i * 7)
   have f1 := hat.free (i * 7 + 1)
   have f2 := hat.free (i * 7 + 2)
   have f3 := hat.free (i * 7 + 3)
   have f4 := hat.free (i * 7 + 4)
   have f5 := hat.free (i * 7 + 5)
   have f6 := hat.free (i * 7 + 6)
   have CL := Sd.mk close
   clear hat close hM HRowA
   go_wp2
   have HA := ((((((HAT.out.set0 kD (.int .i64 l[i].Target)).set 1 kD (.string l[i].Name)).set 2 kD (.slice D2 l[i].bD.length d2)).set 3 kD (.int .i64 l[i].Result)).set 4 kD (.int .i64 l[i].Tag.Vat)).set 5 kD (.int .i64 l[i].Tag.Entity)).set 6 kD (.int .i64 l[i].Tag.Seq)
   have hD2 : ∀ b, P2 b → ¬ (b = w.heap.size ∨ Fi b) := by
    intro b hb q
    have h1 := (I2.out b hb).1
    simp only [New] at h1
    rcases q with rfl | q
    ·exact absurd hg.2 kO
    ·have h2 := (hFi b q).2
     omega
   have HM := ki_Sent_mk _ (fun b => P2 b) l[i] (gH HA.upd hD2 HR2.out) (fun k hk => hk)
   have hP1 : ∀ b, (P2 b) → New wr b := by
    intro b hb
    exact (I2.out b hb).1
   have HRowB := CL.out _ _ l[i] _ (New w) HA HM (fun b hb => .inr (fun q => by have h1 := hP1 b hb; have h2 := q.2; simp only [New] at h1; omega)) (fun _ q => q.1) (fun b hb => by have h1 := hP1 b hb; simp only [New] at h1 ⊢; omega)
   rw [iV (by simp) (by simpa using hlt)] at HRowB
   go_roundg (gk - 1)
   case measure => omega
   case rel => exact ⟨i + 1, by omega, by go_num, ⟨HRowB⟩, ⟨by repeat (with_reducible first | exact HU1.out | apply Upd.bI)⟩⟩
  ·go_wp2
   go_ret
   have HRowB := HR.out
   rw [iT (by simp) (by simp; omega)] at HRowB
   exact ⟨_, rfl, HRowB, HU.out⟩
theorem sz_Sent (x : GSent) (cs : List Value) (n : Int) (w : World) (h : jG.K w x cs) (hb : Bd_Sent x) (h0 : 0 ≤ n) (h1 : n ≤ 1048576) : Calls Tryz.prog 124 #[.agg cs.toArray, .int .i64 n] w (jS (iF x) n w) := by
 obtain ⟨A2, c2, rfl, hl2, hC2⟩ := kl_Sent_K h
 have HC2 := Sd.mk hC2
 clear hC2
 have b_Name := hb
 unfold Bd_Sent at b_Name
 go_enter Tryz.func124, Tryz.ntmps124
 by_cases q_Name : ((x.Name.size : Nat) : Int) ≤ n
 case neg =>
  go_wp2
  go_ret
  exact ⟨_, rfl, .inr ⟨by unfold iF; omega, rfl⟩, kA⟩
 go_wp2_with fail
 with_reducible refine (szS_Value x.bD _ _ _ _ ?hc_Args kO kO).mono ?_
 case hc_Args => exact aS kA HC2.out
 rintro e w_Args ⟨r_Args, rfl, hr_Args, hu⟩
 have HB_Args : Sd (Upd No w w_Args) := Sd.mk (Upd.then kA hu)
 have cc0_Args := fun o => hu.bB (b := w.heap.size) kB (fun q => q) o
 have hz_Args : w.heap.size + 1 ≤ w_Args.heap.size := by have := hu.size; (try simp at this); omega
 clear hu
 rcases hr_Args with ⟨q_Args, rfl⟩ | ⟨q_Args, rfl⟩
 case inr =>
  go_wp2
  go_ret
  exact ⟨_, rfl, .inr ⟨by unfold iF; omega, rfl⟩, (by repeat (with_reducible first | exact HB_Args.out | apply Upd.bM | apply Upd.bL | apply Upd.bI | apply Upd.alloc | apply Upd.drewN | apply Upd.drew))⟩
 go_wp2
 go_ret
 exact ⟨_, rfl, .inl ⟨by unfold iF; omega, by unfold iF; omega⟩, (by repeat (with_reducible first | exact HB_Args.out | apply Upd.bM | apply Upd.bL | apply Upd.bI | apply Upd.alloc | apply Upd.drewN | apply Upd.drew))⟩
theorem szS_Sent (l : List GSent) (A : Option Addr) (c : Nat) (n : Int) (w : World) (h : C jG w A l) (hb : ∀ y ∈ l, Bd_Sent y) (h0 : 0 ≤ n) (h1 : n ≤ 1048576) : Calls Tryz.prog 89 #[.slice A l.length c, .int .i64 n] w (jS (dF iF l) n w) := by
 have hn := h.1
 have H := Sd.mk h
 clear h
 have HBD := Sd.mk hb
 clear hb
 go_enter Tryz.func89, Tryz.ntmps89
 by_cases q0 : (l.length : Int) ≤ n
 case neg =>
  go_wp2
  go_ret
  exact ⟨_, rfl, .inr ⟨by unfold dF; omega, rfl⟩, Upd.refl _ _⟩
 go_wp2
 go_loopg [1, 5] l.length (fun k u v wr => ∃ i : Nat, i + k = l.length ∧ (gP iF (l.take i) : Int) ≤ n - l.length ∧ u = .int .i64 (n - l.length - gP iF (l.take i)) ∧ v = .int .i64 i ∧ Sd (Upd No w wr))
 case atStart => exact ⟨0, by omega, by simp [gP]; omega, by simp [gP], rfl, ⟨Upd.refl _ _⟩⟩
 case round =>
  obtain ⟨i, hi, hle, rfl, rfl, HU⟩ := hrel
  by_cases hlt : i < l.length
  ·obtain ⟨ad, A2, c2, rfl, a0, a1, a2, a3, a4, a5, a6, hl2, hC2⟩ := kl_Sent_at (aS HU.out H.out) i hlt
   have HC2 := Sd.mk hC2
   clear hC2
   have hst := kI iF l i hlt
   have HST := Sd.mk (jB iF l i hlt)
   generalize hs : gP iF (l.take i) = s at *
   have HS := Sd.mk hs
   clear hs
   go_wp2_with fail
   with_reducible refine (sz_Sent l[i] _ _ _ (kl_Sent_Kmk _ _ hl2 HC2.out) (HBD.out _ (List.getElem_mem hlt)) kO kO).mono ?_
   rintro e w1 ⟨r, rfl, hr, hu⟩
   have HU1 := Sd.mk (HU.out.then hu)
   clear hu HU
   rcases hr with ⟨q, rfl⟩ | ⟨q, rfl⟩
   ·go_wp2
    go_roundg (gk - 1)
    case measure => omega
    case rel => exact ⟨i + 1, by omega, by rw [HST.out]; omega, by rw [HST.out]; exact congrArg (Value.int .i64) kO, by go_num, HU1⟩
   ·go_wp2
    go_ret
    exact ⟨_, rfl, .inr ⟨by unfold dF; omega, rfl⟩, HU1.out⟩
  ·go_wp2
   go_ret
   have e : l.take i = l := List.take_of_length_le kO
   rw [e] at hle
   exact ⟨_, rfl, .inl ⟨by unfold dF; omega, by rw [e]; unfold dF; omega⟩, HU.out⟩
theorem eq_Sent (x : GSent) (cs cs' : List Value) (w : World) (h : eX.K w x cs) (h' : eX.K w x cs') : Calls Tryz.prog 136 #[.agg cs.toArray, .agg cs'.toArray] w (bW true w) := by
 obtain ⟨A2, c2, rfl, hl2, hC2⟩ := mU h
 have HC2 := Sd.mk hC2
 clear hC2
 obtain ⟨B2, b2, rfl, hm2, hD2⟩ := mU h'
 have HD2 := Sd.mk hD2
 clear hD2
 go_enter Tryz.func136, Tryz.ntmps136
 go_wp2_with fail
 with_reducible refine (eqS_Value x.bD _ _ _ _ _ ?hc_Args ?hd_Args).mono ?_
 case hc_Args => exact aS kA HC2.out
 case hd_Args => exact aS kA HD2.out
 rintro e w_Args ⟨rfl, hu⟩
 have HB_Args : Sd (Upd No w w_Args) := Sd.mk (Upd.then kA hu)
 have cc0_Args := fun o => hu.bB (b := w.heap.size) kB (fun q => q) o
 have cc1_Args := fun o => hu.bB (b := w.heap.size + 1) kB (fun q => q) o
 have hz_Args : w.heap.size + 1 + 1 ≤ w_Args.heap.size := by have := hu.size; (try simp at this); omega
 clear hu
 go_wp2_with fail
 with_reducible refine (eq_Tag x.Tag _ _ _ (kF _ _) (kF _ _)).mono ?_
 rintro e w_Tag ⟨rfl, hu⟩
 have HB_Tag : Sd (Upd No w w_Tag) := Sd.mk (Upd.then (by repeat (with_reducible first | exact HB_Args.out | apply Upd.bM | apply Upd.bL | apply Upd.bI | apply Upd.alloc | apply Upd.drewN | apply Upd.drew)) hu)
 have cc0_Tag := fun o => hu.bB (b := w.heap.size) kB (fun q => q) o
 have cc1_Tag := fun o => hu.bB (b := w.heap.size + 1) kB (fun q => q) o
 have hz_Tag : w.heap.size + 1 + 1 ≤ w_Tag.heap.size := by have := hu.size; (try simp at this); omega
 clear hu
 go_wp2
 go_ret
 exact ⟨rfl, (by repeat (with_reducible first | exact HB_Tag.out | apply Upd.bM | apply Upd.bL | apply Upd.bI | apply Upd.alloc | apply Upd.drewN | apply Upd.drew))⟩
theorem eqS_Sent (l : List GSent) (A A' : Option Addr) (c c' : Nat) (w : World) (h : C eX w A l) (h' : C eX w A' l) : Calls Tryz.prog 103 #[.slice A l.length c, .slice A' l.length c'] w (bW true w) := by
 have hn := h.1
 have H := Sd.mk h
 have H' := Sd.mk h'
 clear h h'
 go_enter Tryz.func103, Tryz.ntmps103
 go_wp2
 go_loopg [5] l.length (fun k v wr => ∃ i : Nat, i + k = l.length ∧ v = .int .i64 i ∧ Sd (Upd No w wr))
 case atStart => exact ⟨0, by omega, rfl, ⟨Upd.refl _ _⟩⟩
 case round =>
  obtain ⟨i, hi, rfl, HU⟩ := hrel
  by_cases hlt : i < l.length
  ·obtain ⟨ad, A2, c2, rfl, a0, a1, a2, a3, a4, a5, a6, hl2, hC2⟩ := ki_Sent_at (aS HU.out H.out) i hlt
   obtain ⟨ad', B2, b2, rfl, z0, z1, z2, z3, z4, z5, z6, hm2, hD2⟩ := ki_Sent_at (aS HU.out H'.out) i hlt
   have HC2 := Sd.mk hC2
   have HD2 := Sd.mk hD2
   clear hC2 hD2
   go_wp2_with fail
   go_still_tail 8, kR
   change wpList _ _ _ _ _ wr.drew
   have HW : Sd (Upd No wr wr.drew) := ⟨(Upd.refl _ _).drew⟩
   have HU2 : Sd (Upd No w wr.drew) := ⟨HU.out.drew⟩
   generalize wr.drew = w2 at *
   go_wp2_with (go_at_call 136; (with_reducible refine (eq_Sent l[i] _ _ _ (ki_Sent_Kmk _ _ hl2 (aS HW.out HC2.out)) (ki_Sent_Kmk _ _ hm2 (aS HW.out HD2.out))).mono ?_); rintro e w' ⟨rfl, hu⟩)
   have HU3 := Sd.mk (HU2.out.then hu)
   clear HU2 hu
   go_wp2
   go_roundg (gk - 1)
   case measure => omega
   case rel => exact ⟨i + 1, by omega, by go_num, HU3⟩
  ·go_wp2
   go_ret
   exact ⟨rfl, HU.out⟩
end Go.Proofs.YtgaoabnnpjngcaaGreatFam

/- The rest of a row of the call's own, without its first element; a slice from an index on. No conditions. -/
import Derived.Test.YtfnedoiplblldaaFoc
namespace Go.Proofs.YtfnedoiplblldaaSep
open Go.ChangeShapes Go.WideShapes Go.RowKit
section
variable {α : Type}
theorem add_block (a : Addr) (k : Nat) : (a.add k).block = a.block := by
  unfold Addr.add
  split <;> rfl
def TP (d : Kn α) (A : Option Addr) (xs : List α) (W : World) (F : Nat → Prop) : Prop :=
  ∃ Fs : Nat → Nat → Prop, (0 < xs.length → ∃ a, A = some a ∧ F a.block ∧ a.block < W.heap.size) ∧ (∀ j b, Fs j b → F b) ∧ (∀ i j b, Fs i b → Fs j b → i = j) ∧ CM d W A xs Fs
/-- Elements at A, with what they hold; the block in which they lie is read only. -/
def hT (d : Kn α) (A : Option Addr) (xs : List α) : HP where
  p := TP d A xs
  same := by
    rintro W W' F h ⟨Fs, h1, h2, h3, h4, h5⟩
    refine ⟨Fs, fun hp => ?_, h2, h3, h4, fun hp => ?_⟩
    · obtain ⟨a, ha, hF, hlt⟩ := h1 hp
      refine ⟨a, ha, hF, ?_⟩
      have q := h a.block hF
      rw [Array.getElem?_eq_getElem hlt] at q
      exact (Array.getElem?_eq_some_iff.1 q).1
    · obtain ⟨a, ha, hF, hlt⟩ := h1 hp
      obtain ⟨ad, hA, q⟩ := h5 hp
      obtain rfl : a = ad := Option.some.inj (ha.symm.trans hA)
      refine ⟨a, hA, fun j p hj => ?_⟩
      obtain ⟨c, k1, k2⟩ := q j p hj
      refine ⟨c, d.M_same (fun b hb => h b (h2 j b hb)) k1, fun i u hu => ?_⟩
      rw [← k2 i u hu]
      exact World.cell?_of_block (w := W) (by rw [add_block]; exact h a.block hF)
  lt := by
    rintro W F ⟨Fs, h1, h2, h3, h4, h5⟩
    refine ⟨fun j b => Fs j b ∧ b < W.heap.size, fun hp => ?_, fun j b hb => ⟨h2 j b hb.1, hb.2⟩, fun i j b hi hj => h3 i j b hi.1 hj.1, h4, fun hp => ?_⟩
    · obtain ⟨a, ha, hF, hlt⟩ := h1 hp
      exact ⟨a, ha, ⟨hF, hlt⟩, hlt⟩
    · obtain ⟨ad, hA, q⟩ := h5 hp
      refine ⟨ad, hA, fun j p hj => ?_⟩
      obtain ⟨c, k1, k2⟩ := q j p hj
      exact ⟨c, d.M_lt k1, k2⟩
  mono := by
    rintro W F F' h ⟨Fs, h1, h2, h3, h4⟩
    refine ⟨Fs, fun hp => ?_, fun j b hb => h b (h2 j b hb), h3, h4⟩
    obtain ⟨a, ha, hF, hlt⟩ := h1 hp
    exact ⟨a, ha, h _ hF, hlt⟩
variable {d : Kn α} {e g cap : Nat} {A : Option Addr} {ce : List Value} {y : α} {xs : List α} {l : List HP} {W w : World} {F F0 : Nat → Prop} {v : Value}
theorem EP_tail (h : EP d e g cap 0 ce (y :: xs) W F) (hA : 0 < xs.length → A = some (Addr.add ⟨g, 0, none⟩ (1 * d.sz))) : TP d A xs W F := by
  obtain ⟨cur, Fs, h1, h2, ⟨h3, h3b, h3c⟩, h4, h5, h6, h7, h8⟩ := h
  refine ⟨fun j b => Fs (j + 1) b, fun hp => ⟨_, hA hp, by rw [add_block]; exact h1, by rw [add_block]; exact Blk.lt h2⟩, fun j b hb => (h4 _ b hb).1, fun i j b hi hj => by have := h5 _ _ b hi hj; omega, ?_, fun hp => ⟨_, hA hp, fun j p hj => ⟨_, h6 (j + 1) p (by omega) (by simpa using hj), fun i u hu => ?_⟩⟩⟩
  · simp only [List.length_cons] at h3
    omega
  · have hi : i < d.sz := by have := (List.getElem?_eq_some_iff.1 hu).1; simp [piece] at this; omega
    rw [add_add', add_plain, h2.cell]
    simp only [piece, List.getElem?_take, if_pos hi, List.getElem?_drop] at hu
    rw [Nat.succ_mul] at hu
    rw [show 1 * d.sz + (j * d.sz + i) = j * d.sz + d.sz + i by omega]
    simpa using hu
theorem St.tail (H : St w F0 (hE d e g cap 0 ce (y :: xs) :: l) W) (hA : 0 < xs.length → A = some (Addr.add ⟨g, 0, none⟩ (1 * d.sz))) : St w F0 (hT d A xs :: l) W :=
  St.swap (l0 := [hE d e g cap 0 ce (y :: xs)]) (l' := [hT d A xs]) H (fun F h => by
    obtain ⟨F1, F2, h1, _, i1, _, _⟩ := h.uncons
    exact Star.one (EP_tail ((hE d e g cap 0 ce (y :: xs)).mono i1 h1) hA))
end
section
variable {P : Program} {n ty : Nat} {x : Nat → Value} {live : List (Nat × Value)} {W : World} {pos : String} {aft : Array Edge} {y z : Operand}
theorem rn_sliceL {dst : Option Nat} {t e sz k len cap m c : Nat} {A B : Option Addr} (ht : P.underlying t = some (.slice e)) (hS : ∀ w, (sizeOf e).run P w = .ok sz w) (hx : evl n live y = some (.slice A len cap)) (hz : evl n live z = some (.int .i64 (k : Int))) (hk : k ≤ len) (hA : (if cap = k then A else A.map (·.add (k * sz))) = B) (hm : len - k = m) (hc : cap - k = c) :
    Rn P ⟨dst, .slice t y (some z) none none, ty, pos, aft, none⟩ (actOf n x live) W (.slice B m c) := by
  have he : P.elem t = e := by simp [Program.elem, ht]
  unfold Rn
  simp [execOp, evl_ok hx, evl_ok hz, run_sliceAt_slice (P := P) W t (.slice A len cap) (some (.int .i64 (k : Int))) none none (by rw [he]; exact ht), run_slice_l (P := P) W t A len cap (by rw [he]; exact ht) .i64 (k : Int) (by omega) (by omega), he, hS, Result.andThen, sliced, hm, hc]
  rw [← hA]
end
end Go.Proofs.YtfnedoiplblldaaSep

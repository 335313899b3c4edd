/- Rows made, and own rows opened at one element by the slice value at hand. No conditions. -/
import Derived.Test.YtfnedoiplblldaaSym3
namespace Go.Proofs.YtfnedoiplblldaaSep
open Go.ChangeShapes Go.WideShapes Go.RowKit
section
variable {α : Type} {P : Program} {ops : Array Oper} {Q : Exit → Act → World → Prop} {K : Act → World → Prop} {n i d ty : Nat} {x : Nat → Value} {live : List (Nat × Value)} {W w : World} {F0 : Nat → Prop} {l : List HP} {pos : String} {aft : Array Edge} {v : Value} {y z : Operand} {dk : Kn α} {e : Nat} {xs ys : List α}
theorem op_make {dst : Option Nat} {t bytes m : Nat} {z0 : Value} {zx : α} (ho : ops[i]? = some ⟨dst, .makeSlice t y z, ty, pos, aft, none⟩)
    (ht : P.underlying t = some (.slice e)) (hinfo : (P.info? e).map (fun i => (i.zero, i.size, i.bytes)) = some (some z0, dk.sz, bytes)) (hz0 : z0.cells.size = dk.sz) (hs0 : 0 < dk.sz) (h0 : ∀ W, dk.M W No zx z0.cells.toList) (hb : bytes ≤ 4096)
    (hx : evl n live y = some (.int .i64 (m : Int))) (hy : evl n live z = some (.int .i64 (m : Int))) (hm : m ≤ 1048576) (hd : dst = some d) (hdn : decide (d < n) = true)
    (H : St w F0 l W) (h : ∀ g W', Upd No W W' → St w F0 (hR dk e (.slice (some ⟨g, 0, none⟩) m m) (List.replicate m zx) :: l) W' → K (actOf n x ((d, .slice (some ⟨g, 0, none⟩) m m) :: live)) W') : wpOp P ops Q i K (actOf n x live) W := by
  subst hd
  refine op_ok ho rfl ?_
  have hr := run_made (P := P) (t := t) z0 dk.sz bytes ht hinfo m hm hb W
  have hrun : (execOp (actOf n x live).eval ⟨some d, .makeSlice t y z, ty, pos, aft, none⟩).run P W = .ok (.value (.slice (some ⟨W.heap.size, 0, none⟩) m m)) (W.alloc (madeObj z0 (m * dk.sz) e)) := by
    simp [execOp, evl_ok hx, evl_ok hy, hr]
  unfold Oper.wp
  rw [hrun]
  simp only [Oper.upon]
  rw [actOf_put (of_decide_eq_true hdn)]
  exact h _ _ ((Upd.refl _ _).alloc _) (H.new ((Upd.refl _ _).alloc _) (R_made W z0 zx hz0 hs0 h0 m hm))
theorem rn_int {o : Oper} {a : Act} {p q : Int} (e : p = q) (h : Rn P o a W (.int .i64 p)) : Rn P o a W (.int .i64 q) := e ▸ h
theorem St.openS {A : Option Addr} {m c q : Nat} (H : St w F0 (hR dk e (.slice A m c) xs :: l) W) (hi : q < xs.length) : ∃ g, A = some ⟨g, 0, none⟩ := by
  obtain ⟨g, cap, ce, he, _⟩ := H.openE hi
  cases he
  exact ⟨g, rfl⟩
theorem St.openG {g m c q : Nat} (H : St w F0 (hR dk e (.slice (some ⟨g, 0, none⟩) m c) xs :: l) W) (hi : q < xs.length) : ∃ ce, m = xs.length ∧ St w F0 (hE dk e g c q ce xs :: hM dk xs[q] ce :: l) W := by
  obtain ⟨g', cap, ce, he, H'⟩ := H.openE hi
  cases he
  exact ⟨ce, rfl, H'⟩
theorem St.closeG {g m c q : Nat} {ce : List Value} {u : α} (H : St w F0 (hE dk e g c q ce xs :: hM dk u ce :: l) W) (hy : xs.set q u = ys) (hm : m = ys.length) : St w F0 (hR dk e (.slice (some ⟨g, 0, none⟩) m c) ys :: l) W := by
  subst hm
  have h := H.closeE
  rw [← hy, List.length_set]
  exact h
theorem R_box {g : Nat} {cs : Array Value} {u : α} {F : Nat → Prop} (h : Star [hB g e cs, hM dk u cs.toList] W F) (hsz : cs.size = dk.sz) : R dk e W F (.slice (some ⟨g, 0, none⟩) 1 1) [u] := by
  obtain ⟨F1, F2, ⟨h1, h2⟩, a2, a3, a4, a5⟩ := h.uncons
  obtain ⟨Fp, F4, d1, _, d3, _, _⟩ := a2.uncons
  refine .inr ⟨g, 1, cs, fun j b => j = 0 ∧ Fp b, rfl, h2, a3 g h1, Nat.le_refl _, by omega, by omega, fun j b hb => ⟨a4 b (d3 b hb.2), fun q => a5 g h1 (q ▸ d3 b hb.2)⟩, fun j k b hj hk => by omega, fun j x hx => ?_⟩
  obtain ⟨hj, hx'⟩ := List.getElem?_eq_some_iff.1 hx
  have hj0 : j = 0 := by simpa using hj
  subst hj0
  have hu : u = x := by simpa using hx'
  subst hu
  have hp : piece dk.sz cs.toList 0 = cs.toList := by
    unfold piece
    rw [Nat.zero_mul, List.drop_zero, List.take_of_length_le (by rw [← hsz]; simp)]
  rw [hp]
  exact dk.M_mono (fun _ q => ⟨rfl, q⟩) d1
theorem St.boxrow {g : Nat} {cs : Array Value} {u : α} (H : St w F0 (hB g e cs :: hM dk u cs.toList :: l) W) (hsz : cs.size = dk.sz) : St w F0 (hR dk e (.slice (some ⟨g, 0, none⟩) 1 1) [u] :: l) W :=
  St.swap (l0 := [hB g e cs, hM dk u cs.toList]) (l' := [hR dk e (.slice (some ⟨g, 0, none⟩) 1 1) [u]]) H (fun _ h => Star.one (R_box h hsz))
end
end Go.Proofs.YtfnedoiplblldaaSep

/- More steps: comparisons, sums, structs put together, slices made and appended to. No conditions. -/
import Derived.Test.YtfnedoiplblldaaSym
import Derived.IntWalk
namespace Go.Proofs.YtfnedoiplblldaaSep
open Go.ChangeShapes Go.WideShapes Go.RowKit
section
variable {P : Program} {ops : Array Oper} {Q : Exit → Act → World → Prop} {K : Act → World → Prop} {n i d ty : Nat} {x : Nat → Value} {live : List (Nat × Value)} {W w : World} {F0 : Nat → Prop} {l l' : List HP} {pos : String} {aft : Array Edge} {v : Value} {y z : Operand}
section
variable {dst : Option Nat} {xt yt : Nat} {p q : Int} (hx : evl n live y = some (.int .i64 p)) (hz : evl n live z = some (.int .i64 q))
include hx hz
theorem rn_lss : Rn P ⟨dst, .binOp .lss xt y z yt, ty, pos, aft, none⟩ (actOf n x live) W (.bool (decide (p < q))) := rn_cmp hx hz (by simp [binOp, Op.intCmp])
theorem rn_leq : Rn P ⟨dst, .binOp .leq xt y z yt, ty, pos, aft, none⟩ (actOf n x live) W (.bool (decide (p ≤ q))) := rn_cmp hx hz (by simp [binOp, Op.intCmp])
theorem rn_gtr : Rn P ⟨dst, .binOp .gtr xt y z yt, ty, pos, aft, none⟩ (actOf n x live) W (.bool (decide (q < p))) := rn_cmp hx hz (by simp [binOp, Op.intCmp])
theorem rn_geq : Rn P ⟨dst, .binOp .geq xt y z yt, ty, pos, aft, none⟩ (actOf n x live) W (.bool (decide (q ≤ p))) := rn_cmp hx hz (by simp [binOp, Op.intCmp])
theorem rn_eql : Rn P ⟨dst, .binOp .eql xt y z yt, ty, pos, aft, none⟩ (actOf n x live) W (.bool (decide (p = q))) := rn_cmp hx hz (by
  by_cases e : p = q
  · simp [binOp, Op.intCmp, e]
  · have e' : (p == q) = false := beq_eq_false_iff_ne.2 e
    simp [binOp, Op.intCmp, e', e])
theorem rn_neq : Rn P ⟨dst, .binOp .neq xt y z yt, ty, pos, aft, none⟩ (actOf n x live) W (.bool (decide (¬ p = q))) := rn_cmp hx hz (by
  by_cases e : p = q
  · simp [binOp, Op.intCmp, e]
  · have e' : (p == q) = false := beq_eq_false_iff_ne.2 e
    simp [binOp, Op.intCmp, bne, e', e])
theorem rn_addW : Rn P ⟨dst, .binOp .add xt y z yt, ty, pos, aft, none⟩ (actOf n x live) W (.int .i64 (IntKind.i64.wrap (p + q))) := rn_arith hx hz (by simp [binOp, Op.intArith])
theorem rn_subW : Rn P ⟨dst, .binOp .sub xt y z yt, ty, pos, aft, none⟩ (actOf n x live) W (.int .i64 (IntKind.i64.wrap (p - q))) := rn_arith hx hz (by simp [binOp, Op.intArith])
end
theorem wrap_id {p : Int} (h : -9223372036854775808 ≤ p ∧ p ≤ 9223372036854775807) : IntKind.i64.wrap p = p := (IntWalk.i64_left p).trans (IntWalk.wrap64_in _ h)
theorem rn_add {dst : Option Nat} {xt yt : Nat} {p q : Int} (hx : evl n live y = some (.int .i64 p)) (hz : evl n live z = some (.int .i64 q)) (hb : -9223372036854775808 ≤ p + q ∧ p + q ≤ 9223372036854775807) : Rn P ⟨dst, .binOp .add xt y z yt, ty, pos, aft, none⟩ (actOf n x live) W (.int .i64 (p + q)) := by
  have := rn_addW (P := P) (dst := dst) (ty := ty) (pos := pos) (aft := aft) (x := x) (W := W) (xt := xt) (yt := yt) hx hz
  rwa [wrap_id hb] at this
theorem rn_sub {dst : Option Nat} {xt yt : Nat} {p q : Int} (hx : evl n live y = some (.int .i64 p)) (hz : evl n live z = some (.int .i64 q)) (hb : -9223372036854775808 ≤ p - q ∧ p - q ≤ 9223372036854775807) : Rn P ⟨dst, .binOp .sub xt y z yt, ty, pos, aft, none⟩ (actOf n x live) W (.int .i64 (p - q)) := by
  have := rn_subW (P := P) (dst := dst) (ty := ty) (pos := pos) (aft := aft) (x := x) (W := W) (xt := xt) (yt := yt) hx hz
  rwa [wrap_id hb] at this
/-- A slot that counts: it goes on by one. -/
theorem rn_inc {dst : Option Nat} {xt yt k : Nat} (hx : evl n live y = some (.int .i64 (k : Int))) (hz : evl n live z = some (.int .i64 1)) (hb : k < 9223372036854775807) : Rn P ⟨dst, .binOp .add xt y z yt, ty, pos, aft, none⟩ (actOf n x live) W (.int .i64 ((k + 1 : Nat) : Int)) := by
  have := rn_add (P := P) (dst := dst) (ty := ty) (pos := pos) (aft := aft) (x := x) (W := W) (xt := xt) (yt := yt) hx hz (by omega)
  simpa using this
theorem rn_streql {dst : Option Nat} {xt yt : Nat} {s t : ByteArray} (hx : evl n live y = some (.string s)) (hz : evl n live z = some (.string t)) : Rn P ⟨dst, .binOp .eql xt y z yt, ty, pos, aft, none⟩ (actOf n x live) W (.bool (s.toList == t.toList)) := by
  unfold Rn
  simp [execOp, evl_ok hx, evl_ok hz, eqGuard_at_string, binOp, Op.stringOp]
theorem rn_pick {dst : Option Nat} {c : Operand} {b : Bool} {u1 u2 : Value} (hc : evl n live c = some (.bool b)) (hx : evl n live y = some u1) (hz : evl n live z = some u2) (hv : v = if b then u1 else u2) : Rn P ⟨dst, .pick c y z, ty, pos, aft, none⟩ (actOf n x live) W v := by
  unfold Rn
  subst hv
  cases b <;> simp [execOp, evl_ok hc, evl_ok hx, evl_ok hz, asBool]
theorem rn_build {dst : Option Nat} {t : Nat} {ps : Array (Nat × Operand)} {vs : List (Nat × Value)} {cells : Array Value} (hv : ps.toList.map (fun p => (p.1, evl n live p.2)) = vs.map (fun p => (p.1, some p.2))) (hb : P.built t vs = some cells) : Rn P ⟨dst, .build t ps, ty, pos, aft, none⟩ (actOf n x live) W (.agg cells) := by
  unfold Rn
  have e : (ps.map fun (i, x') => (i, (actOf n x live).eval x')).toList = vs := by
    clear hb
    rw [Array.toList_map]
    generalize ps.toList = pl at hv
    induction pl generalizing vs with
    | nil => cases vs with
      | nil => rfl
      | cons a l => cases hv
    | cons a pl ih => cases vs with
      | nil => cases hv
      | cons b l =>
        simp only [List.map_cons, List.cons.injEq, Prod.mk.injEq] at hv
        obtain ⟨⟨h1, h2⟩, h3⟩ := hv
        obtain ⟨b1, b2⟩ := b
        simp only at h1 h2
        rw [List.map_cons, ih h3]
        subst h1
        show (a.1, (actOf n x live).eval a.2) :: l = _
        rw [evl_ok h2]
  have := run_build (P := P) W t (ps.map fun (i, x') => (i, (actOf n x live).eval x')) cells (by rw [e]; exact hb)
  simp [execOp, this]
theorem fill_all (vs cs : Array Value) (h : vs.size = cs.size) : vs.zipIdx.foldl (fun cs (c, j) => cs.setIfInBounds (0 + j) c) cs = vs := by
  have key : ∀ (l : List Value) (k : Nat) (cs : Array Value), k + l.length = cs.size → (l.zipIdx k).foldl (fun cs (p : Value × Nat) => cs.setIfInBounds (0 + p.2) p.1) cs = (cs.toList.take k ++ l).toArray := by
    intro l
    induction l with
    | nil =>
      intro k cs hk
      simp only [List.zipIdx_nil, List.foldl_nil, List.append_nil]
      rw [List.take_of_length_le (by simp at hk ⊢; omega)]
    | cons a l ih =>
      intro k cs hk
      rw [List.zipIdx_cons, List.foldl_cons, ih (k + 1) _ (by simp at hk ⊢; omega)]
      congr 1
      simp only [Nat.zero_add, Array.toList_setIfInBounds]
      apply List.ext_getElem?
      intro j
      simp only [List.length_cons] at hk
      have hkc : k < cs.toList.length := by simp; omega
      rcases Nat.lt_trichotomy j k with hj | hj | hj
      · rw [List.getElem?_append_left (by simp; omega), List.getElem?_append_left (by simp; omega), List.getElem?_take, List.getElem?_take, if_pos (by omega), if_pos hj, List.getElem?_set, if_neg (by omega)]
      · subst hj
        rw [List.getElem?_append_left (by simp; omega), List.getElem?_append_right (by simp; omega), List.getElem?_take, if_pos (by omega), List.getElem?_set, if_pos rfl, if_pos hkc]
        simp [show j - min j cs.size = 0 by omega]
      · rw [List.getElem?_append_right (by simp; omega), List.getElem?_append_right (by simp; omega)]
        simp only [List.length_take, List.length_set, Array.length_toList]
        rw [show j - min (k + 1) cs.size = j - (k + 1) by omega, show j - min k cs.size = (j - (k + 1)) + 1 by omega, List.getElem?_cons_succ]
  have := key vs.toList 0 cs (by simpa using h)
  simp only [List.take_zero, List.nil_append, Array.toArray_toList] at this
  rw [← Array.foldl_toList, Array.toList_zipIdx]
  exact this
theorem op_slice1 {dst : Option Nat} {t e m : Nat} {z0 : Value} (ho : ops[i]? = some ⟨dst, .buildSlice t 1 #[(0, y)], ty, pos, aft, none⟩) (hu : ∀ w, (underlying t).run P w = .ok (.slice e) w) (hS : ∀ w, (sizeOf e).run P w = .ok m w) (hm : 0 < m ∧ m ≤ 4096) (hz : ∀ w, (zeroValue e).run P w = .ok z0 w) (hx : evl n live y = some v) (hv : v.cells.size = m) (hd : dst = some d) (hdn : decide (d < n) = true) (H : St w F0 l W) (h : ∀ g W', Upd No W W' → St w F0 (hB g e v.cells :: l) W' → K (actOf n x ((d, .slice (some ⟨g, 0, none⟩) 1 1) :: live)) W') : wpOp P ops Q i K (actOf n x live) W := by
  subst hd
  refine op_ok ho rfl ?_
  have h0 : ¬ (1 * m > 2 ^ 24) := by omega
  have h1 : ¬ (1 * m = 0) := by omega
  have hf : Instr.fill (fun i => some (i * m, m)) ((Array.range (1 * m)).map (fun k => z0.cells[k % z0.cells.size]!)) [(0, v)] = some v.cells := by
    simp only [Instr.fill, Nat.zero_mul, Nat.zero_add, hv, ne_eq, not_true, Nat.one_mul, Array.size_map, Array.size_range, gt_iff_lt, Nat.lt_irrefl]
    have := fill_all v.cells ((Array.range m).map (fun k => z0.cells[k % z0.cells.size]!)) (by simp [hv])
    simp only [Nat.zero_add] at this
    rw [this]
    simp
  have hrun : (execOp (actOf n x live).eval ⟨some d, .buildSlice t 1 #[(0, y)], ty, pos, aft, none⟩).run P W = .ok (.value (.slice (some ⟨W.heap.size, 0, none⟩) 1 1)) (W.alloc (.cells v.cells e)) := by
    simp only [execOp, List.map_toArray, List.map_cons, List.map_nil, evl_ok hx, Instr.buildSlice, Sem.run_bind, hu, hS, Result.andThen_ok, h0, if_false, h1, hz, Sem.run_pure, hf]
    simp [newRow]
  unfold Oper.wp
  rw [hrun]
  simp only [Oper.upon]
  rw [actOf_put (of_decide_eq_true hdn)]
  exact h _ _ ((Upd.refl _ _).alloc _) (H.alloc e v.cells)
theorem op_slice0 {α : Type} {dk : Kn α} {dst : Option Nat} {t e m : Nat} (ho : ops[i]? = some ⟨dst, .buildSlice t 0 #[], ty, pos, aft, none⟩) (hu : ∀ w, (underlying t).run P w = .ok (.slice e) w) (hS : ∀ w, (sizeOf e).run P w = .ok m w) (hd : dst = some d) (hdn : decide (d < n) = true) (H : St w F0 l W) (h : ∀ A W', Upd No W W' → St w F0 (hR dk e (.slice A 0 0) [] :: l) W' → K (actOf n x ((d, .slice A 0 0) :: live)) W') : wpOp P ops Q i K (actOf n x live) W := by
  subst hd
  refine op_ok ho rfl ?_
  have hrun : (execOp (actOf n x live).eval ⟨some d, .buildSlice t 0 #[], ty, pos, aft, none⟩).run P W = .ok (.value (.slice (some ⟨W.heap.size, 0, none⟩) 0 0)) (W.alloc (.cells #[] e)) := by
    simp [execOp, Instr.buildSlice, hu, hS, Instr.fill, newRow, Array.range_zero']
  unfold Oper.wp
  rw [hrun]
  simp only [Oper.upon]
  rw [actOf_put (of_decide_eq_true hdn)]
  exact h _ _ ((Upd.refl _ _).alloc _) (H.new ((Upd.refl _ _).alloc _) (R_mono (F' := New W) (fun b hb => by subst hb; exact Nat.le_refl _) (R_emptyB (Blk.new _ _ _))))
theorem St.add0 {q : HP} (H : St w F0 l W) (hq : q.p W No) : St w F0 (q :: l) W := ⟨H.1, Star.cons No _ hq H.2 (fun _ h => h.elim) (fun _ h => h) (fun _ h => h.elim)⟩
theorem Rn_append {t e bytes c : Nat} {α : Type} {dk : Kn α} {F : Nat → Prop} {z0 : Value} {xs ys : List α} {A : Option Addr} {Gs : Nat → Nat → Prop} {dst : Option Nat}
    (ht : P.underlying t = some (.slice e)) (hinfo : (P.info? e).map (fun i => (i.zero, i.size, i.bytes)) = some (some z0, dk.sz, bytes)) (hz : z0.cells.size = dk.sz) (hs0 : 0 < dk.sz) (hb0 : 0 < bytes)
    (hx : evl n live y = some v) (hy : evl n live z = some (.slice A ys.length c)) (HR : R dk e W F v xs) (HC : CM dk W A ys Gs) (hd : ∀ j b, Gs j b → ¬ F b) (hd2 : ∀ i j b, Gs i b → Gs j b → i = j) (hl : (xs.length + ys.length) * bytes ≤ 140737488355328) :
    ∃ B c' W', (execOp (actOf n x live).eval ⟨dst, .call { callee := .builtin .append, args := #[y, z], argTypes := #[t, t] }, ty, pos, aft, none⟩).run P W = .ok (.value (.slice B (xs.length + ys.length) c')) W' ∧ R dk e W' (fun b => F b ∨ (∃ j, j < ys.length ∧ Gs j b) ∨ W.heap.size ≤ b) (.slice B (xs.length + ys.length) c') (xs ++ ys) ∧ Upd F W W' := by
  obtain ⟨v1, w1, hrun, h1, h2⟩ := run_appAny (P := P) W t ty z0 bytes ht hinfo hz hs0 hb0 A c Gs HR HC hd hd2 hl
  obtain ⟨B, c', e'⟩ := R_slice h1
  rw [List.length_append] at e'
  subst e'
  exact ⟨B, c', w1, by simp [execOp, resolve, invoke, builtin, evl_ok hx, evl_ok hy, hrun], h1, h2⟩
theorem op_appendA {t e bytes c : Nat} {α : Type} {dk : Kn α} {z0 : Value} {xs ys : List α} {A : Option Addr} {l0 : List HP} {dst : Option Nat}
    (ho : ops[i]? = some ⟨dst, .call { callee := .builtin .append, args := #[y, z], argTypes := #[t, t] }, ty, pos, aft, none⟩)
    (ht : P.underlying t = some (.slice e)) (hinfo : (P.info? e).map (fun i => (i.zero, i.size, i.bytes)) = some (some z0, dk.sz, bytes)) (hz : z0.cells.size = dk.sz) (hs0 : 0 < dk.sz) (hb0 : 0 < bytes)
    (hx : evl n live y = some v) (hy : evl n live z = some (.slice A ys.length c)) (hl : (xs.length + ys.length) * bytes ≤ 140737488355328) (hd : dst = some d) (hdn : decide (d < n) = true)
    (H : St w F0 ((hR dk e v xs :: l0) ++ l) W) (HC : ∀ F, Star l0 W F → ∃ Gs, CM dk W A ys Gs ∧ (∀ j b, Gs j b → F b) ∧ ∀ i j b, Gs i b → Gs j b → i = j)
    (h : ∀ B c W', St w F0 (hR dk e (.slice B (xs.length + ys.length) c) (xs ++ ys) :: l) W' → K (actOf n x ((d, .slice B (xs.length + ys.length) c) :: live)) W') : wpOp P ops Q i K (actOf n x live) W := by
  subst hd
  refine op_ok ho rfl ?_
  obtain ⟨F1, a1, _, a3⟩ := H.frame
  obtain ⟨FR, F2, b1, b2, b3, b4, b5⟩ := a1.uncons
  obtain ⟨Gs, g1, g2, g3⟩ := HC F2 b2
  obtain ⟨B, c', W', hrun, h1, h2⟩ := Rn_append (P := P) (ty := ty) (pos := pos) (aft := aft) (x := x) (dst := some d) ht hinfo hz hs0 hb0 hx hy b1 g1 (fun j b hb q => b5 b q (g2 j b hb)) g3 hl
  unfold Oper.wp
  rw [hrun]
  simp only [Oper.upon]
  rw [actOf_put (of_decide_eq_true hdn)]
  refine h B c' W' (a3 [hR dk e (.slice B (xs.length + ys.length) c') (xs ++ ys)] W' ⟨h2.mono (fun b _ q => b3 b q), Star.one (R_mono (fun b q => ?_) h1)⟩)
  rcases q with q | ⟨j, _, q⟩ | q
  · exact .inl (b3 b q)
  · exact .inl (b4 b (g2 j b q))
  · exact .inr q
theorem CM_one {α : Type} {dk : Kn α} {g e : Nat} {p : α} {cs : Array Value} {Fp : Nat → Prop} (hB : Blk W g e cs) (hp : dk.M W Fp p cs.toList) : CM dk W (some ⟨g, 0, none⟩) [p] (fun j b => j = 0 ∧ Fp b) := by
  refine ⟨by simp, fun _ => ⟨_, rfl, fun j q hj => ?_⟩⟩
  rcases j with _ | j
  · simp only [List.getElem?_cons_zero, Option.some.injEq] at hj
    subst hj
    exact ⟨cs.toList, dk.M_mono (fun _ q => ⟨rfl, q⟩) hp, fun k u hu => by rw [Nat.zero_mul, Nat.zero_add]; exact hB.at' k u hu⟩
  · simp at hj
/-- append(s, x): x in a box, with its rows. -/
theorem op_append1 {t e bytes g : Nat} {α : Type} {dk : Kn α} {z0 : Value} {xs : List α} {p : α} {cs : Array Value} {dst : Option Nat}
    (ho : ops[i]? = some ⟨dst, .call { callee := .builtin .append, args := #[y, z], argTypes := #[t, t] }, ty, pos, aft, none⟩)
    (ht : P.underlying t = some (.slice e)) (hinfo : (P.info? e).map (fun i => (i.zero, i.size, i.bytes)) = some (some z0, dk.sz, bytes)) (hz : z0.cells.size = dk.sz) (hs0 : 0 < dk.sz) (hb0 : 0 < bytes)
    (hx : evl n live y = some v) (hy : evl n live z = some (.slice (some ⟨g, 0, none⟩) 1 1)) (hl : (xs.length + 1) * bytes ≤ 140737488355328) (hd : dst = some d) (hdn : decide (d < n) = true)
    (H : St w F0 (hR dk e v xs :: hB g e cs :: hM dk p cs.toList :: l) W)
    (h : ∀ B c W', St w F0 (hR dk e (.slice B (xs.length + 1) c) (xs ++ [p]) :: l) W' → K (actOf n x ((d, .slice B (xs.length + 1) c) :: live)) W') : wpOp P ops Q i K (actOf n x live) W :=
  op_appendA (ys := [p]) (l0 := [hB g e cs, hM dk p cs.toList]) ho ht hinfo hz hs0 hb0 hx hy hl hd hdn H (fun F hF => by
    obtain ⟨Fg, F3, c1, c2, c3, c4, c5⟩ := hF.uncons
    obtain ⟨Fp, F4, d1, _, d3, _, _⟩ := c2.uncons
    exact ⟨_, CM_one c1.2 d1, fun j b hb => c4 b (d3 b hb.2), fun i j b hi hj => hi.1.trans hj.1.symm⟩) h
/-- .. of a flat kind. -/
theorem op_append1f {t e bytes g : Nat} {α : Type} {dk : Kn α} {z0 : Value} {xs : List α} {p : α} {cs : Array Value} {dst : Option Nat}
    (ho : ops[i]? = some ⟨dst, .call { callee := .builtin .append, args := #[y, z], argTypes := #[t, t] }, ty, pos, aft, none⟩)
    (ht : P.underlying t = some (.slice e)) (hinfo : (P.info? e).map (fun i => (i.zero, i.size, i.bytes)) = some (some z0, dk.sz, bytes)) (hz : z0.cells.size = dk.sz) (hs0 : 0 < dk.sz) (hb0 : 0 < bytes)
    (hx : evl n live y = some v) (hy : evl n live z = some (.slice (some ⟨g, 0, none⟩) 1 1)) (hp : dk.M W No p cs.toList) (hl : (xs.length + 1) * bytes ≤ 140737488355328) (hd : dst = some d) (hdn : decide (d < n) = true)
    (H : St w F0 (hR dk e v xs :: hB g e cs :: l) W)
    (h : ∀ B c W', St w F0 (hR dk e (.slice B (xs.length + 1) c) (xs ++ [p]) :: l) W' → K (actOf n x ((d, .slice B (xs.length + 1) c) :: live)) W') : wpOp P ops Q i K (actOf n x live) W :=
  op_appendA (ys := [p]) (l0 := [hB g e cs]) ho ht hinfo hz hs0 hb0 hx hy hl hd hdn H (fun F hF => by
    obtain ⟨Fg, F3, c1, _, c3, _, _⟩ := hF.uncons
    exact ⟨_, CM_one c1.2 hp, fun j b hb => hb.2.elim, fun i j b hi hj => hi.1.trans hj.1.symm⟩) h
/-- append(s, t...) of a flat kind. -/
theorem op_appendN {t e bytes c : Nat} {α : Type} {dk : Kn α} {z0 : Value} {xs ys : List α} {A : Option Addr} {dst : Option Nat}
    (ho : ops[i]? = some ⟨dst, .call { callee := .builtin .append, args := #[y, z], argTypes := #[t, t] }, ty, pos, aft, none⟩)
    (ht : P.underlying t = some (.slice e)) (hinfo : (P.info? e).map (fun i => (i.zero, i.size, i.bytes)) = some (some z0, dk.sz, bytes)) (hz : z0.cells.size = dk.sz) (hs0 : 0 < dk.sz) (hb0 : 0 < bytes)
    (hf : Flat dk) (hx : evl n live y = some v) (hy : evl n live z = some (.slice A ys.length c)) (hC : C dk W A ys) (hl : (xs.length + ys.length) * bytes ≤ 140737488355328) (hd : dst = some d) (hdn : decide (d < n) = true)
    (H : St w F0 (hR dk e v xs :: l) W)
    (h : ∀ B c W', St w F0 (hR dk e (.slice B (xs.length + ys.length) c) (xs ++ ys) :: l) W' → K (actOf n x ((d, .slice B (xs.length + ys.length) c) :: live)) W') : wpOp P ops Q i K (actOf n x live) W :=
  op_appendA (l0 := []) ho ht hinfo hz hs0 hb0 hx hy hl hd hdn H (fun _ _ => ⟨_, CM_of_flat hf hC, fun _ _ q => q.elim, fun _ _ _ q => q.elim⟩) h
/-- A struct's box is written whole. -/
theorem op_storeW {t g tb m : Nat} {old cs : Array Value} (ho : ops[i]? = some ⟨none, .store t y z, ty, pos, aft, none⟩) (hS : ∀ w, (sizeOf t).run P w = .ok m w) (hx : evl n live y = some (.pointer (some ⟨g, 0, none⟩))) (hz : evl n live z = some (.agg cs)) (hm : cs.size = m) (hk : old.size = m) (h1 : ∀ u ∈ cs.toList, u.oneCell' = true) (H : St w F0 (hB g tb old :: l) W) (h : ∀ W', Upd (fun b => b = g) W W' → St w F0 (hB g tb cs :: l) W' → K (actOf n x live) W') : wpOp P ops Q i K (actOf n x live) W := by
  refine op_store0 ho hS hx hz hm (by omega) h1 H (fun W' hu H' => h W' hu ?_)
  have e : put old 0 (Value.agg cs).cells.toList = cs := by
    simp only [put, Value.cells, List.take_zero, List.nil_append, Nat.zero_add]
    rw [List.drop_eq_nil_of_le (by simp; omega), List.append_nil, Array.toArray_toList]
  rw [← e]
  exact H'
theorem rn_loadB {dst : Option Nat} {t m g tb : Nat} {cs : Array Value} (hA : ∀ w, (isAgg t).run P w = .ok true w) (hS : ∀ w, (sizeOf t).run P w = .ok m w) (hx : evl n live y = some (.pointer (some ⟨g, 0, none⟩))) (hb : Blk W g tb cs) (hm : cs.size = m) : Rn P ⟨dst, .load t y, ty, pos, aft, none⟩ (actOf n x live) W (.agg cs) := rn_loadN hA hS hx hb.at' (by simpa using hm)
theorem rn_loadC {dst : Option Nat} {t k g tb : Nat} {cs : Array Value} (hA : ∀ w, (isAgg t).run P w = .ok false w) (hx : evl n live y = some (.pointer (some (Addr.add ⟨g, 0, none⟩ k)))) (hb : Blk W g tb cs) (hv : cs[k]? = some v) : Rn P ⟨dst, .load t y, ty, pos, aft, none⟩ (actOf n x live) W v := rn_load hA hx (hb.at'.cell k (by simpa using hv))
theorem rn_loadS {dst : Option Nat} {t k m g tb : Nat} {cs sub : Array Value} (hA : ∀ w, (isAgg t).run P w = .ok true w) (hS : ∀ w, (sizeOf t).run P w = .ok m w) (hx : evl n live y = some (.pointer (some (Addr.add ⟨g, 0, none⟩ k)))) (hb : Blk W g tb cs) (hs : (cs.toList.drop k).take m = sub.toList) (hm : sub.size = m) : Rn P ⟨dst, .load t y, ty, pos, aft, none⟩ (actOf n x live) W (.agg sub) := rn_loadN hA hS hx (hb.at'.sub k m hs) (by simpa using hm)
theorem rn_loadE {dst : Option Nat} {t k : Nat} {a : Addr} {cs : List Value} (hA : ∀ w, (isAgg t).run P w = .ok false w) (hx : evl n live y = some (.pointer (some (a.add k)))) (hc : Cat W a cs) (hv : cs[k]? = some v) : Rn P ⟨dst, .load t y, ty, pos, aft, none⟩ (actOf n x live) W v := rn_load hA hx (hc.cell k hv)
theorem rn_loadES {dst : Option Nat} {t k m : Nat} {a : Addr} {cs sub : List Value} (hA : ∀ w, (isAgg t).run P w = .ok true w) (hS : ∀ w, (sizeOf t).run P w = .ok m w) (hx : evl n live y = some (.pointer (some (a.add k)))) (hc : Cat W a cs) (hs : (cs.drop k).take m = sub) (hm : sub.length = m) : Rn P ⟨dst, .load t y, ty, pos, aft, none⟩ (actOf n x live) W (.agg sub.toArray) := rn_loadN hA hS hx (hc.sub k m hs) hm
theorem rn_indexA {dst : Option Nat} {t e sz k len cap : Nat} {A : Option Addr} {ad : Addr} (hu : ∀ w, (underlying t).run P w = .ok (.slice e) w) (hS : ∀ w, (sizeOf e).run P w = .ok sz w) (hx : evl n live y = some (.slice A len cap)) (hz : evl n live z = some (.int .i64 (k : Int))) (hA : A = some ad) (hk : k < len) : Rn P ⟨dst, .indexAddr t y z, ty, pos, aft, none⟩ (actOf n x live) W (.pointer (some (ad.add (k * sz)))) := by
  subst hA
  exact rn_index hu hS hx hz hk
theorem Cat.cell0 {W : World} {a : Addr} {cs : List Value} {v : Value} (h : Cat W a cs) (hv : cs[0]? = some v) : W.cell? a = some v := h 0 v hv
theorem St.rowC {α : Type} {dk : Kn α} {e m c : Nat} {A : Option Addr} {xs : List α} (h : St w F0 l W) (i : Nat) (hq : l[i]? = some (hR dk e (.slice A m c) xs)) : C dk W A xs := by
  obtain ⟨F, hF⟩ := h.get i hq
  exact R_C hF
theorem St.rowLe {α : Type} {dk : Kn α} {e m c : Nat} {A : Option Addr} {xs : List α} (h : St w F0 l W) (i : Nat) (hq : l[i]? = some (hR dk e (.slice A m c) xs)) : xs.length ≤ c ∧ m = xs.length := by
  obtain ⟨F, hF⟩ := h.get i hq
  obtain ⟨A', c', he, hl, _⟩ := R_reads hF
  cases he
  exact ⟨hl, rfl⟩
theorem St.kn {α : Type} {dk : Kn α} {p : α} {cs : List Value} (h : St w F0 l W) (i : Nat) (hq : l[i]? = some (hM dk p cs)) : dk.K W p cs := by
  obtain ⟨F, hF⟩ := h.get i hq
  exact dk.K_of_M hF
theorem then_r {a : Act} (h : Q .ret a W) : Exit.then K Q .ret a W := h
theorem inB_r {a : Act} {id : Nat} (h : Q .ret a W) : Exit.inBlock id Q .ret a W := h
theorem then_x {a : Act} {id : Nat} (h : Q (.exit id) a W) : Exit.then K Q (.exit id) a W := h
theorem inB_y {a : Act} {id id' : Nat} (hne : (id' == id) = false) (h : Q (.exit id') a W) : Exit.inBlock id Q (.exit id') a W := by
  show (if id' = id then Q .normal a W else Q (.exit id') a W)
  rw [if_neg (by simpa using hne)]
  exact h
theorem cond_b {c1 c2 : Code} {b : Bool} (hc : evl n live y = some (.bool b)) (ht : b = true → c1.wp P Q (actOf n x live) W) (hf : b = false → c2.wp P Q (actOf n x live) W) : (Code.cond y c1 c2).wp P Q (actOf n x live) W := by
  cases b
  · exact wp_cond_false (evl_ok hc) (hf rfl)
  · exact wp_cond_true (evl_ok hc) (ht rfl)
theorem wanted_G {o oj : Oper} {j dj : Nat} {want b : Bool} (hg : o.guard = some (j, want)) (hj : ops[j]? = some oj) (hdj : oj.dst = some dj) (hv : evl n live (.tmp dj) = some (.bool b)) : Region.wanted o (yielded ops (actOf n x live).tmps) = (b == want) := by
  have e2 := evl_ok (x := x) hv
  simp only [Act.eval, Array.getD_eq_getD_getElem?] at e2
  unfold Region.wanted yielded
  simp only [hg, hj, Option.bind_some, hdj]
  cases e : (actOf n x live).tmps[dj]? with
  | none => rw [e] at e2; cases e2
  | some u =>
    rw [e] at e2
    simp only [Option.getD_some] at e2
    subst e2
    simp
/-- A guarded operation that is wanted. -/
theorem op_G {dst : Option Nat} {op : Op} {j dj : Nat} {want : Bool} {oj : Oper} (ho : ops[i]? = some ⟨dst, op, ty, pos, aft, some (j, want)⟩) (hj : ops[j]? = some oj) (hdj : oj.dst = some dj) (hv : evl n live (.tmp dj) = some (.bool want)) (h : ∀ ops' : Array Oper, ops'[i]? = some ⟨dst, op, ty, pos, aft, none⟩ → wpOp P ops' Q i K (actOf n x live) W) : wpOp P ops Q i K (actOf n x live) W := by
  have hi : i < ops.size := (Array.getElem?_eq_some_iff.1 ho).1
  have h1 := h (ops.setIfInBounds i ⟨dst, op, ty, pos, aft, none⟩) (by simp [hi])
  unfold wpOp at h1 ⊢
  rw [show (ops.setIfInBounds i ⟨dst, op, ty, pos, aft, none⟩)[i]? = some ⟨dst, op, ty, pos, aft, none⟩ by simp [hi]] at h1
  simp only [ho] at h1 ⊢
  have hw : Region.wanted ⟨dst, op, ty, pos, aft, some (j, want)⟩ (yielded ops (actOf n x live).tmps) = true := by
    rw [wanted_G rfl hj hdj hv]
    simp
  rw [if_pos hw]
  rw [if_pos (show Region.wanted _ _ = true from rfl)] at h1
  exact h1
theorem op_pureG {dst : Option Nat} {op : Op} {j dj : Nat} {want : Bool} {oj : Oper} (ho : ops[i]? = some ⟨dst, op, ty, pos, aft, some (j, want)⟩) (hj : ops[j]? = some oj) (hdj : oj.dst = some dj) (hv : evl n live (.tmp dj) = some (.bool want)) (hr : Rn P ⟨dst, op, ty, pos, aft, none⟩ (actOf n x live) W v) (hd : dst = some d) (hdn : decide (d < n) = true) (h : K (actOf n x ((d, v) :: live)) W) : wpOp P ops Q i K (actOf n x live) W := by
  subst hd
  unfold wpOp
  simp only [ho]
  have hw : Region.wanted ⟨some d, op, ty, pos, aft, some (j, want)⟩ (yielded ops (actOf n x live).tmps) = true := by
    rw [wanted_G rfl hj hdj hv]
    simp
  rw [if_pos hw]
  left
  unfold Oper.wp
  have e : execOp (actOf n x live).eval ⟨some d, op, ty, pos, aft, some (j, want)⟩ = execOp (actOf n x live).eval ⟨some d, op, ty, pos, aft, none⟩ := rfl
  rw [e, hr]
  simp only [Oper.upon]
  rw [actOf_put (of_decide_eq_true hdn)]
  exact h
theorem op_skipG {dst : Option Nat} {op : Op} {j dj : Nat} {want b : Bool} {oj : Oper} (ho : ops[i]? = some ⟨dst, op, ty, pos, aft, some (j, want)⟩) (hj : ops[j]? = some oj) (hdj : oj.dst = some dj) (hv : evl n live (.tmp dj) = some (.bool b)) (hb : (b == want) = false) (hd : dst = some d) (hdn : decide (d < n) = true) (h : K (actOf n x ((d, undef) :: live)) W) : wpOp P ops Q i K (actOf n x live) W := by
  subst hd
  unfold wpOp
  simp only [ho]
  have hw : Region.wanted ⟨some d, op, ty, pos, aft, some (j, want)⟩ (yielded ops (actOf n x live).tmps) = false := by
    rw [wanted_G rfl hj hdj hv, hb]
  rw [hw]
  simp only [Bool.false_eq_true, if_false]
  rw [actOf_put (of_decide_eq_true hdn)]
  exact h
theorem op_append1' {t e bytes g n' : Nat} {α : Type} {dk : Kn α} {z0 : Value} {xs ys : List α} {p : α} {cs : Array Value} {dst : Option Nat}
    (ho : ops[i]? = some ⟨dst, .call { callee := .builtin .append, args := #[y, z], argTypes := #[t, t] }, ty, pos, aft, none⟩)
    (ht : P.underlying t = some (.slice e)) (hinfo : (P.info? e).map (fun i => (i.zero, i.size, i.bytes)) = some (some z0, dk.sz, bytes)) (hz : z0.cells.size = dk.sz) (hs0 : 0 < dk.sz) (hb0 : 0 < bytes)
    (hx : evl n live y = some v) (hy : evl n live z = some (.slice (some ⟨g, 0, none⟩) 1 1)) (hl : (xs.length + 1) * bytes ≤ 140737488355328) (hn : xs.length + 1 = n') (hys : xs ++ [p] = ys) (hd : dst = some d) (hdn : decide (d < n) = true)
    (H : St w F0 (hR dk e v xs :: hB g e cs :: hM dk p cs.toList :: l) W)
    (h : ∀ B c W', St w F0 (hR dk e (.slice B n' c) ys :: l) W' → K (actOf n x ((d, .slice B n' c) :: live)) W') : wpOp P ops Q i K (actOf n x live) W := by
  subst hn hys
  exact op_append1 ho ht hinfo hz hs0 hb0 hx hy hl hd hdn H h
theorem op_append1f' {t e bytes g n' : Nat} {α : Type} {dk : Kn α} {z0 : Value} {xs ys : List α} {p : α} {cs : Array Value} {dst : Option Nat}
    (ho : ops[i]? = some ⟨dst, .call { callee := .builtin .append, args := #[y, z], argTypes := #[t, t] }, ty, pos, aft, none⟩)
    (ht : P.underlying t = some (.slice e)) (hinfo : (P.info? e).map (fun i => (i.zero, i.size, i.bytes)) = some (some z0, dk.sz, bytes)) (hz : z0.cells.size = dk.sz) (hs0 : 0 < dk.sz) (hb0 : 0 < bytes)
    (hx : evl n live y = some v) (hy : evl n live z = some (.slice (some ⟨g, 0, none⟩) 1 1)) (hp : dk.M W No p cs.toList) (hl : (xs.length + 1) * bytes ≤ 140737488355328) (hn : xs.length + 1 = n') (hys : xs ++ [p] = ys) (hd : dst = some d) (hdn : decide (d < n) = true)
    (H : St w F0 (hR dk e v xs :: hB g e cs :: l) W)
    (h : ∀ B c W', St w F0 (hR dk e (.slice B n' c) ys :: l) W' → K (actOf n x ((d, .slice B n' c) :: live)) W') : wpOp P ops Q i K (actOf n x live) W := by
  subst hn hys
  exact op_append1f ho ht hinfo hz hs0 hb0 hx hy hp hl hd hdn H h
theorem op_appendN' {t e bytes c n' : Nat} {α : Type} {dk : Kn α} {z0 : Value} {xs ys zs : List α} {A : Option Addr} {dst : Option Nat}
    (ho : ops[i]? = some ⟨dst, .call { callee := .builtin .append, args := #[y, z], argTypes := #[t, t] }, ty, pos, aft, none⟩)
    (ht : P.underlying t = some (.slice e)) (hinfo : (P.info? e).map (fun i => (i.zero, i.size, i.bytes)) = some (some z0, dk.sz, bytes)) (hz : z0.cells.size = dk.sz) (hs0 : 0 < dk.sz) (hb0 : 0 < bytes)
    (hf : Flat dk) (hx : evl n live y = some v) (hy : evl n live z = some (.slice A ys.length c)) (hC : C dk W A ys) (hl : (xs.length + ys.length) * bytes ≤ 140737488355328) (hn : xs.length + ys.length = n') (hys : xs ++ ys = zs) (hd : dst = some d) (hdn : decide (d < n) = true)
    (H : St w F0 (hR dk e v xs :: l) W)
    (h : ∀ B c W', St w F0 (hR dk e (.slice B n' c) zs :: l) W' → K (actOf n x ((d, .slice B n' c) :: live)) W') : wpOp P ops Q i K (actOf n x live) W := by
  subst hn hys
  exact op_appendN ho ht hinfo hz hs0 hb0 hf hx hy hC hl hd hdn H h
theorem rn_lenS {dst : Option Nat} {t : Nat} {s : ByteArray} (hu : ∀ w, (underlying t).run P w = .ok .string w) (hx : evl n live y = some (.string s)) : Rn P ⟨dst, .call { callee := .builtin .len, args := #[y], argTypes := #[t] }, ty, pos, aft, none⟩ (actOf n x live) W (.int .i64 s.size) := by
  unfold Rn
  simp [execOp, evl_ok hx, resolve, invoke, builtin, Builtin.len_, hu, goInt]
theorem rn_decF {o : Oper} {a : Act} {p : Prop} [Decidable p] (hn : ¬ p) (h : Rn P o a W (.bool (decide p))) : Rn P o a W (.bool false) := by
  rw [decide_eq_false hn] at h
  exact h
theorem rn_decT {o : Oper} {a : Act} {p : Prop} [Decidable p] (hn : p) (h : Rn P o a W (.bool (decide p))) : Rn P o a W (.bool true) := by
  rw [decide_eq_true hn] at h
  exact h
theorem rn_neqB {dst : Option Nat} {xt yt : Nat} {b : Bool} (hu : ∀ w, (underlying xt).run P w = .ok .bool w) (hx : evl n live y = some (.bool b)) (hz : evl n live z = some (.bool b)) : Rn P ⟨dst, .binOp .neq xt y z yt, ty, pos, aft, none⟩ (actOf n x live) W (.bool false) := by
  unfold Rn
  have e : Op.equal xt (.bool b) (.bool b) = Op.equalIn (9999 + 1) xt (.bool b) (.bool b) := rfl
  have e2 : (Op.equal xt (.bool b) (.bool b)).run P W = .ok true W := by
    rw [e, Op.equalIn]
    simp [hu]
  simp [execOp, evl_ok hx, evl_ok hz, eqGuard_at_bool, binOp, e2]
theorem rn_neqS {dst : Option Nat} {xt yt : Nat} {b : ByteArray} (hx : evl n live y = some (.string b)) (hz : evl n live z = some (.string b)) : Rn P ⟨dst, .binOp .neq xt y z yt, ty, pos, aft, none⟩ (actOf n x live) W (.bool false) := by
  unfold Rn
  simp [execOp, evl_ok hx, evl_ok hz, eqGuard_at_string, binOp, Op.stringOp]
theorem absS {b : Bool} {p : Prop} (e : b = true) (h : b = false) : p := by rw [e] at h; cases h
theorem actOf_drop2 {n : Nat} {x : Nat → Value} {live : List (Nat × Value)} (live' : List (Nat × Value)) (h2 : live'.map (fun p => some p.2) = live'.map (fun p => live.lookup p.1)) : ∃ x', actOf n x live = actOf n x' live' := actOf_drop (fun _ _ hm => (List.map_inj_left.1 h2 _ hm).symm)
end
end Go.Proofs.YtfnedoiplblldaaSep

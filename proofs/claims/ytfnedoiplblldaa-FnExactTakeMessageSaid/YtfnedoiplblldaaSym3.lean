/- An own row opened at one element: the element is read, written, and the row is closed again. No conditions. -/
import Derived.Test.YtfnedoiplblldaaSym2
namespace Go.Proofs.YtfnedoiplblldaaSep
open Go.ChangeShapes Go.WideShapes Go.RowKit
section
variable {α : Type}
def EP (d : Kn α) (e g cap i : Nat) (ce : List Value) (xs : List α) (W : World) (F : Nat → Prop) : Prop :=
  ∃ (cur : Array Value) (Fs : Nat → Nat → Prop), F g ∧ Blk W g e cur ∧ (xs.length ≤ cap ∧ cap ≤ 9223372036854775807 ∧ cur.size = cap * d.sz) ∧ (∀ j b, Fs j b → F b ∧ b ≠ g) ∧ (∀ j k b, Fs j b → Fs k b → j = k) ∧ (∀ j x, j ≠ i → xs[j]? = some x → d.M W (Fs j) x (piece d.sz cur.toList j)) ∧ piece d.sz cur.toList i = ce ∧ i < xs.length
/-- A row of the call's own without what element i holds; element i's cells are ce. -/
def hE (d : Kn α) (e g cap i : Nat) (ce : List Value) (xs : List α) : HP where
  p := EP d e g cap i ce xs
  same := by
    rintro W W' F h ⟨cur, Fs, h1, h2, h3, h4, h5, h6, h7, h8⟩
    exact ⟨cur, Fs, h1, (h g h1).trans h2, h3, h4, h5, fun j x hj hx => d.M_same (fun b hb => h b (h4 j b hb).1) (h6 j x hj hx), h7, h8⟩
  lt := by
    rintro W F ⟨cur, Fs, h1, h2, h3, h4, h5, h6, h7, h8⟩
    exact ⟨cur, fun j b => Fs j b ∧ b < W.heap.size, ⟨h1, Blk.lt h2⟩, h2, h3, fun j b hb => ⟨⟨(h4 j b hb.1).1, hb.2⟩, (h4 j b hb.1).2⟩, fun j k b hj hk => h5 j k b hj.1 hk.1, fun j x hj hx => d.M_lt (h6 j x hj hx), h7, h8⟩
  mono := by
    rintro W F F' h ⟨cur, Fs, h1, h2, h3, h4, h5, h6, h7, h8⟩
    exact ⟨cur, Fs, h g h1, h2, h3, fun j b hb => ⟨h b (h4 j b hb).1, (h4 j b hb).2⟩, h5, h6, h7, h8⟩
variable {d : Kn α} {e g cap i : Nat} {ce : List Value} {xs : List α} {l : List HP} {W w : World} {F F0 : Nat → Prop} {v : Value}
theorem R_openE (h : R d e W F v xs) (hi : i < xs.length) : ∃ g cap ce, v = .slice (some ⟨g, 0, none⟩) xs.length cap ∧ Star [hE d e g cap i ce xs, hM d xs[i] ce] W F := by
  rcases h with ⟨_, rfl⟩ | ⟨g, cap, cur, Fs, h1, h2, h3, h4, h5, h6, h7, h8, h9⟩
  · simp at hi
  refine ⟨g, cap, _, h1, Star.cons (fun b => F b ∧ ¬ Fs i b) (Fs i) ⟨cur, fun j b => j ≠ i ∧ Fs j b, ⟨h3, fun q => (h7 i g q).2 rfl⟩, h2, ⟨h4, h5, h6⟩, fun j b hb => ⟨⟨(h7 j b hb.2).1, fun q => hb.1 (h8 j i b hb.2 q)⟩, (h7 j b hb.2).2⟩, fun j k b hj hk => h8 j k b hj.2 hk.2, fun j x hj hx => d.M_mono (fun _ q => ⟨hj, q⟩) (h9 j x hx), rfl, hi⟩ (Star.one (h9 i xs[i] (List.getElem?_eq_getElem hi))) (fun _ q => q.1) (fun b q => (h7 i b q).1) (fun b q q' => q.2 q')⟩
theorem R_closeE {y : α} (h : Star [hE d e g cap i ce xs, hM d y ce] W F) : R d e W F (.slice (some ⟨g, 0, none⟩) xs.length cap) (xs.set i y) := by
  obtain ⟨F1, F2, ⟨cur, Fs, h1, h2, ⟨h3, h3b, h3c⟩, h4, h5, h6, h7, h8⟩, a2, a3, a4, a5⟩ := h.uncons
  obtain ⟨Fp, F4, d1, _, d3, _, _⟩ := a2.uncons
  refine .inr ⟨g, cap, cur, fun j b => if j = i then Fp b else Fs j b, by rw [List.length_set], h2, a3 g h1, by rw [List.length_set]; exact h3, h3b, h3c, fun j b hb => ?_, fun j k b hj hk => ?_, fun j x hx => ?_⟩
  · by_cases c : j = i
    · simp only [c, if_true] at hb
      exact ⟨a4 b (d3 b hb), fun q => a5 g h1 (q ▸ d3 b hb)⟩
    · simp only [c, if_false] at hb
      exact ⟨a3 b (h4 j b hb).1, (h4 j b hb).2⟩
  · by_cases c : j = i <;> by_cases c' : k = i
    · omega
    · simp only [c, c', if_true, if_false] at hj hk
      exact absurd (d3 b hj) (a5 b (h4 k b hk).1)
    · simp only [c, c', if_true, if_false] at hj hk
      exact absurd (d3 b hk) (a5 b (h4 j b hj).1)
    · simp only [c, c', if_false] at hj hk
      exact h5 j k b hj hk
  · rw [List.getElem?_set] at hx
    by_cases c : i = j
    · subst c
      rw [if_pos rfl, if_pos h8] at hx
      obtain rfl := Option.some.inj hx
      simp only [if_true]
      rw [h7]
      exact d1
    · rw [if_neg c] at hx
      simp only [show ¬ j = i from fun q => c q.symm, if_false]
      exact h6 j x (fun q => c q.symm) hx
theorem St.unM {q : HP} (H : St w F0 (q :: l) W) : ∃ F1 : Nat → Prop, q.p W F1 ∧ ∀ l', Star l' W F1 → St w F0 (l' ++ l) W := by
  obtain ⟨F1, F2, a1, a2, a3, a4, a5⟩ := H.2.uncons
  exact ⟨F1, a1, fun l' h => ⟨H.1, Star.append F1 F2 h a2 a3 a4 a5⟩⟩
theorem St.openE (H : St w F0 (hR d e v xs :: l) W) (hi : i < xs.length) : ∃ g cap ce, v = .slice (some ⟨g, 0, none⟩) xs.length cap ∧ St w F0 (hE d e g cap i ce xs :: hM d xs[i] ce :: l) W := by
  obtain ⟨F1, h1, h2⟩ := H.unM
  obtain ⟨g, cap, ce, e', hs⟩ := R_openE h1 hi
  exact ⟨g, cap, ce, e', h2 _ hs⟩
theorem St.closeE {y : α} (H : St w F0 (hE d e g cap i ce xs :: hM d y ce :: l) W) : St w F0 (hR d e (.slice (some ⟨g, 0, none⟩) xs.length cap) (xs.set i y) :: l) W :=
  St.swap (l0 := [hE d e g cap i ce xs, hM d y ce]) (l' := [hR d e (.slice (some ⟨g, 0, none⟩) xs.length cap) (xs.set i y)]) H (fun _ h => Star.one (R_closeE h))
theorem EP.cat (h : EP d e g cap i ce xs W F) : Cat W (Addr.add ⟨g, 0, none⟩ (i * d.sz)) ce := by
  obtain ⟨cur, Fs, h1, h2, h3, h4, h5, h6, h7, h8⟩ := h
  intro j u hu
  rw [← h7] at hu
  rw [add_add', add_plain, h2.cell]
  simp only [piece, List.getElem?_take, List.getElem?_drop] at hu
  split at hu
  · simpa using hu
  · cases hu
theorem St.catE (H : St w F0 l W) (q : Nat) (hq : l[q]? = some (hE d e g cap i ce xs)) : Cat W (Addr.add ⟨g, 0, none⟩ (i * d.sz)) ce := by
  obtain ⟨F, hF⟩ := H.get q hq
  exact EP.cat hF
theorem St.lenE (H : St w F0 l W) (q : Nat) (hq : l[q]? = some (hE d e g cap i ce xs)) : i < xs.length := by
  obtain ⟨F, cur, Fs, h1, h2, h3, h4, h5, h6, h7, h8⟩ := H.get q hq
  exact h8
theorem EP.set (h : EP d e g cap i ce xs W F) (k : Nat) (vs : List Value) (hk : k + vs.length ≤ ce.length) (h1 : ∀ u ∈ vs, u.oneCell' = true) (P : Program) :
    ∃ W', (storeCells ⟨g, i * d.sz + k, none⟩ vs 0).run P W = .ok () W' ∧ Upd (fun b => b = g) W W' ∧ EP d e g cap i (ce.take k ++ vs ++ ce.drop (k + vs.length)) xs W' F := by
  obtain ⟨cur, Fs, a1, a2, ⟨a3, a3b, a3c⟩, a4, a5, a6, a7, a8⟩ := h
  have hcl : ce.length ≤ d.sz := by rw [← a7]; simp [piece]; omega
  have hsz : i * d.sz + d.sz ≤ cur.size := by rw [a3c, ← Nat.succ_mul]; exact Nat.mul_le_mul_right _ (by omega)
  have hst := run_storeCells_at P g (i * d.sz + k) e vs 0 cur W a2 (by omega) h1
  simp only [Nat.add_zero] at hst
  refine ⟨_, hst, ?_, ?_⟩
  · refine ⟨rfl, rfl, rfl, by simp [World.setRow], fun b hb' hF => ?_⟩
    simp only [World.setRow, Array.getElem?_modify]
    rw [if_neg (fun e => hF e.symm)]
  · have hget : ∀ p, (cur.toList.take (i * d.sz + k) ++ vs ++ cur.toList.drop (i * d.sz + k + vs.length))[p]? = if p < i * d.sz + k then cur.toList[p]? else if p < i * d.sz + k + vs.length then vs[p - (i * d.sz + k)]? else cur.toList[p]? := by
      intro p
      have hlen : (cur.toList.take (i * d.sz + k)).length = i * d.sz + k := by simp; omega
      by_cases c1 : p < i * d.sz + k
      · rw [List.append_assoc, List.getElem?_append_left (by omega), List.getElem?_take, if_pos c1, if_pos c1]
      · rw [if_neg c1]
        by_cases c2 : p < i * d.sz + k + vs.length
        · rw [if_pos c2, List.append_assoc, List.getElem?_append_right (by omega), hlen, List.getElem?_append_left (by omega)]
        · rw [if_neg c2, List.getElem?_append_right (by simp; omega), List.getElem?_drop]
          congr 1
          simp
          omega
    have hp : ∀ j q, (piece d.sz (cur.toList.take (i * d.sz + k) ++ vs ++ cur.toList.drop (i * d.sz + k + vs.length)) j)[q]? = if q < d.sz then (if j * d.sz + q < i * d.sz + k then cur.toList[j * d.sz + q]? else if j * d.sz + q < i * d.sz + k + vs.length then vs[j * d.sz + q - (i * d.sz + k)]? else cur.toList[j * d.sz + q]?) else none := by
      intro j q
      unfold piece
      rw [List.getElem?_take]
      by_cases hq : q < d.sz
      · rw [if_pos hq, if_pos hq, List.getElem?_drop, hget]
      · rw [if_neg hq, if_neg hq]
    refine ⟨_, Fs, a1, setRow_heap W g cur _ e (0, 0) a2, ⟨a3, a3b, ?_⟩, a4, a5, fun j x hj hx => ?_, ?_, a8⟩
    · rw [← a3c]
      simp
      omega
    · have hpc : piece d.sz (cur.toList.take (i * d.sz + k) ++ vs ++ cur.toList.drop (i * d.sz + k + vs.length)) j = piece d.sz cur.toList j := by
        apply List.ext_getElem?
        intro q
        rw [hp j q]
        unfold piece
        rw [List.getElem?_take]
        by_cases hq : q < d.sz
        · rw [if_pos hq, if_pos hq, List.getElem?_drop]
          rcases Nat.lt_or_gt_of_ne hj with c | c
          · have : j * d.sz + d.sz ≤ i * d.sz := by rw [← Nat.succ_mul]; exact Nat.mul_le_mul_right _ c
            rw [if_pos (by omega)]
          · have : i * d.sz + d.sz ≤ j * d.sz := by rw [← Nat.succ_mul]; exact Nat.mul_le_mul_right _ c
            rw [if_neg (by omega), if_neg (by omega)]
        · rw [if_neg hq, if_neg hq]
      have e' : (cur.toList.take (i * d.sz + k) ++ vs ++ cur.toList.drop (i * d.sz + k + vs.length)).toArray.toList = cur.toList.take (i * d.sz + k) ++ vs ++ cur.toList.drop (i * d.sz + k + vs.length) := rfl
      rw [e', hpc]
      refine d.M_same (fun b hb => setRow_other W g b _ (a4 j b hb).2) (a6 j x hj hx)
    · have e' : (cur.toList.take (i * d.sz + k) ++ vs ++ cur.toList.drop (i * d.sz + k + vs.length)).toArray.toList = cur.toList.take (i * d.sz + k) ++ vs ++ cur.toList.drop (i * d.sz + k + vs.length) := rfl
      rw [e']
      apply List.ext_getElem?
      intro q
      rw [hp i q]
      have hce : ∀ q, ce[q]? = if q < d.sz then cur.toList[i * d.sz + q]? else none := by
        intro q
        rw [← a7]
        unfold piece
        rw [List.getElem?_take]
        by_cases hq : q < d.sz
        · rw [if_pos hq, if_pos hq, List.getElem?_drop]
        · rw [if_neg hq, if_neg hq]
      have hlen : (ce.take k).length = k := by simp; omega
      by_cases c1 : q < k
      · rw [List.append_assoc, List.getElem?_append_left (by omega), List.getElem?_take, if_pos c1, hce, if_pos (by omega), if_pos (by omega)]
        rw [if_pos (by omega)]
      · by_cases c2 : q < k + vs.length
        · rw [List.append_assoc, List.getElem?_append_right (by omega), hlen, List.getElem?_append_left (by omega), if_pos (by omega), if_neg (by omega), if_pos (by omega)]
          congr 1
          omega
        · rw [List.getElem?_append_right (by simp; omega), List.getElem?_drop, hce]
          have e2 : k + vs.length + (q - (ce.take k ++ vs).length) = q := by simp; omega
          rw [e2]
          by_cases c3 : q < d.sz
          · rw [if_pos c3, if_pos c3, if_neg (by omega), if_neg (by omega)]
          · rw [if_neg c3, if_neg c3]
end
section
variable {α : Type} {P : Program} {ops : Array Oper} {Q : Exit → Act → World → Prop} {K : Act → World → Prop} {n i d ty : Nat} {x : Nat → Value} {live : List (Nat × Value)} {W w : World} {F0 : Nat → Prop} {l : List HP} {pos : String} {aft : Array Edge} {v : Value} {y z : Operand}
theorem rn_makeFunc {dst : Option Nat} {fn : Fn} {ys zs : Array Operand} {us vs : Array Value} (hy : ys.toList.map (evl n live) = us.toList.map some) (hz : zs.toList.map (evl n live) = vs.toList.map some) : Rn P ⟨dst, .makeFunc fn ys zs, ty, pos, aft, none⟩ (actOf n x live) W (.func fn us vs) := by
  unfold Rn
  simp [execOp, Instr.makeFunc, evls_ok hy, evls_ok hz]
theorem rn_bool {o : Oper} {a : Act} {b c : Bool} (e : b = c) (h : Rn P o a W (.bool b)) : Rn P o a W (.bool c) := e ▸ h
theorem retb {f : FuncId} {vs : Array Value} {b c : Bool} {W0 : World} (h : Calls P f vs W (RetBool b W0)) (e : b = c) : Calls P f vs W (RetBool c W0) := e ▸ h
/-- A store into the element at which the first row is opened. -/
theorem op_storeE {dk : Kn α} {t e g cap q k m : Nat} {ce ce' : List Value} {xs : List α} {a : Addr} (ho : ops[i]? = some ⟨none, .store t y z, ty, pos, aft, none⟩) (hS : ∀ w, (sizeOf t).run P w = .ok m w) (hx : evl n live y = some (.pointer (some a))) (ha : a = Addr.add (Addr.add ⟨g, 0, none⟩ (q * dk.sz)) k) (hz : evl n live z = some v) (hm : v.cells.size = m) (hk : k + m ≤ ce.length) (h1 : ∀ u ∈ v.cells.toList, u.oneCell' = true) (hce : ce.take k ++ v.cells.toList ++ ce.drop (k + m) = ce') (H : St w F0 (hE dk e g cap q ce xs :: l) W) (h : ∀ W', Upd (fun b => b = g) W W' → St w F0 (hE dk e g cap q ce' xs :: l) W' → K (actOf n x live) W') : wpOp P ops Q i K (actOf n x live) W := by
  subst hm
  refine op_ok ho rfl ?_
  obtain ⟨F1, a1, a2, a3⟩ := H.turn
  obtain ⟨W', hst, hu, hE'⟩ := EP.set a1 k v.cells.toList (by simpa using hk) h1 P
  rw [add_add', add_plain] at ha
  subst ha
  have hrun : (execOp (actOf n x live).eval ⟨none, .store t y z, ty, pos, aft, none⟩).run P W = .ok .skip W' := by
    simp only [execOp, evl_ok hx, evl_ok hz, Instr.storeAt, Instr.sureAddr, storeVar, Sem.run_bind, Sem.run_pure, Result.andThen_ok, hS, ne_eq, not_true, if_false]
    rw [hst]
    rfl
  unfold Oper.wp
  rw [hrun]
  simp only [Oper.upon]
  refine h W' hu ?_
  rw [← hce]
  have hl : v.cells.toList.length = v.cells.size := by simp
  rw [← hl]
  have hg : F1 g := by
    obtain ⟨cur, Fs, b1, _⟩ := a1
    exact b1
  exact a3 (hE dk e g cap q (ce.take k ++ v.cells.toList ++ ce.drop (k + v.cells.toList.length)) xs) W' (hu.mono (fun b _ e' => e' ▸ hg)) ((hE dk e g cap q _ xs).mono (fun _ q => .inl q) hE')
end
end Go.Proofs.YtfnedoiplblldaaSep

/- append(s, t...) in a region that draws its order, t whatever it is. No conditions. -/
import Derived.Test.YtfnedoiplblldaaSep4
namespace Go.Proofs.YtfnedoiplblldaaSep
open Go.ChangeShapes Go.WideShapes Go.RowKit
section
variable {α : Type} {d : Kn α} {e : Nat} {F : Nat → Prop} {v : Value} {xs ys : List α} {P : Program} {ops : Array Oper} {rest : List Oper} {o : Oper} {a : Act} {Q : Exit → Act → World → Prop}
theorem run_appAny (W : World) (t ty : TypeId) (z : Value) (bytes : Nat)
    (ht : P.underlying t = some (.slice e)) (hinfo : (P.info? e).map (fun i => (i.zero, i.size, i.bytes)) = some (some z, d.sz, bytes)) (hz : z.cells.size = d.sz) (hs0 : 0 < d.sz) (hb0 : 0 < bytes)
    (A : Option Addr) (c : Nat) (Gs : Nat → Nat → Prop) (HR : R d e W F v xs) (HC : CM d W A ys Gs) (hd : ∀ j b, Gs j b → ¬ F b) (hd2 : ∀ i j b, Gs i b → Gs j b → i = j) (hl : (xs.length + ys.length) * bytes ≤ 140737488355328) :
    ∃ v1 w1, (Builtin.append_ #[t, t] ty #[v, .slice A ys.length c]).run P W = .ok v1 w1 ∧ R d e w1 (fun b => F b ∨ (∃ j, j < ys.length ∧ Gs j b) ∨ W.heap.size ≤ b) v1 (xs ++ ys) ∧ Upd F W w1 := by
  rcases A with _ | ad
  · have h0 : ys = [] := by
      cases ys with
      | nil => rfl
      | cons x l => obtain ⟨ad, q, _⟩ := HC.2 (by simp); cases q
    subst h0
    obtain ⟨i0, hi, hzz⟩ := Option.map_eq_some_iff.1 hinfo
    refine ⟨v, W, ?_, by rw [List.append_nil]; exact R_mono (fun _ q => .inl q) HR, Upd.refl _ _⟩
    rcases HR with ⟨rfl, rfl⟩ | ⟨g, cap, cur, Fs, rfl, _, _, hnc, _⟩
    · simp [Builtin.append_, run_underlying ht, sizeOf, typeInfo, hi, Builtin.lenOf, Builtin.firstCells]
    · simp [Builtin.append_, run_underlying ht, sizeOf, typeInfo, hi, Builtin.lenOf, Builtin.firstCells, hnc, storeCells]
  · refine run_appRow W t ty z bytes ht hinfo hz hs0 hb0 ad c Gs HR (fun j p hj => ?_) hd hd2 hl
    obtain ⟨ad', q, k⟩ := HC.2 (Nat.lt_of_le_of_lt (Nat.zero_le _) (List.getElem?_eq_some_iff.1 hj).1)
    cases q
    exact k j p hj
/-- append(s, t...), t whatever it is, at a step of a region that draws its order. -/
theorem R_appAnyStep {K : Act → World → Prop} {E : Prop} {W : World} (hgd : o.guard = none) (s x : Operand) (t : TypeId) (z : Value) (bytes : Nat)
    (ho : o.op = .call { callee := .builtin .append, args := #[s, x], argTypes := #[t, t] })
    (ht : P.underlying t = some (.slice e)) (hinfo : (P.info? e).map (fun i => (i.zero, i.size, i.bytes)) = some (some z, d.sz, bytes)) (hz : z.cells.size = d.sz) (hs0 : 0 < d.sz) (hb0 : 0 < bytes)
    (A : Option Addr) (c : Nat) (Gs : Nat → Nat → Prop) (hs : a.eval s = v) (hx : a.eval x = .slice A ys.length c) (HR : R d e W F v xs)
    (HC : CM d W A ys Gs) (hd : ∀ j b, Gs j b → ¬ F b) (hd2 : ∀ i j b, Gs i b → Gs j b → i = j) (hl : (xs.length + ys.length) * bytes ≤ 140737488355328)
    (hK : ∀ v1 w1, R d e w1 (fun b => F b ∨ (∃ j, j < ys.length ∧ Gs j b) ∨ W.heap.size ≤ b) v1 (xs ++ ys) → Upd F W w1 → K (a.put o.dst v1) w1) :
    if Region.wanted o (yielded ops a.tmps) = true then Oper.wp P o a W K Q else E := by
  have hw : Region.wanted o (yielded ops a.tmps) = true := by simp [Region.wanted, hgd]
  rw [if_pos hw]
  obtain ⟨v1, w1, hrun, h1, h2⟩ := run_appAny (P := P) W t o.type z bytes ht hinfo hz hs0 hb0 A c Gs HR HC hd hd2 hl
  unfold Oper.wp
  simp [execOp, ho, resolve, invoke, builtin, hs, hx, hrun, Result.andThen]
  exact hK v1 w1 h1 h2
end
theorem R_drew {α : Type} {d : Kn α} {e : Nat} {w : World} {F : Nat → Prop} {v : Value} {xs : List α} (h : R d e w F v xs) : R d e w.drew F v xs := R_upd (Upd.drew (Upd.refl No w)) (fun _ _ q => q) h
/-- A store into a known block, the cells said anew. -/
theorem Blk.put {w : World} {g t : Nat} {cs cs' : Array Value} (h : Blk w g t cs) (i : Nat) (u : Value) (hc : cs.setIfInBounds i u = cs') : Blk (w.setCell ⟨g, i, none⟩ u) g t cs' := hc ▸ h.same i u
theorem gen_exit_box {K : Act → World → Prop} {Q : Exit → Act → World → Prop} {e : Exit} {a : Act} {w : World} {t : Nat} {cs : Array Value} (k : ∀ w', Blk w' w.heap.size t cs → Upd No w w' → Exit.then K Q e a w') : Exit.then K Q e a (w.alloc (.cells cs t)) := k _ (Blk.new _ _ _) ((Upd.refl _ _).alloc _)
theorem gen_exit_any {K : Act → World → Prop} {Q : Exit → Act → World → Prop} {e : Exit} {a : Act} {w : World} (k : ∀ w', w' = w → Exit.then K Q e a w') : Exit.then K Q e a w := k _ rfl
theorem gen_any {P : Program} {c : Code} {Q : Exit → Act → World → Prop} {a : Act} {w : World} (k : ∀ w', w' = w → Code.wp P c Q a w') : Code.wp P c Q a w := k _ rfl
end Go.Proofs.YtfnedoiplblldaaSep

/- Steps: what a call owns in memory as a list of resources, one law for each kind of operation, and regions that draw their order. No conditions. -/
import Derived.Test.YtfnedoiplblldaaSep6
import Derived.OrdersHeld
import Derived.Deep.LoopGhost
import Derived.Laws.CopyRow
import Derived.KernelRfl
namespace Go.Proofs.YtfnedoiplblldaaSep
open Go.ChangeShapes Go.WideShapes Go.RowKit

/-! ### resources -/
structure HP where
  p : World → (Nat → Prop) → Prop
  same : ∀ {W W' : World} {F : Nat → Prop}, (∀ b, F b → W'.heap[b]? = W.heap[b]?) → p W F → p W' F
  lt : ∀ {W : World} {F : Nat → Prop}, p W F → p W (fun b => F b ∧ b < W.heap.size)
  mono : ∀ {W : World} {F F' : Nat → Prop}, (∀ b, F b → F' b) → p W F → p W F'
/-- A row of the call's own. -/
def hR {α : Type} (d : Kn α) (e : Nat) (v : Value) (xs : List α) : HP := ⟨fun W F => R d e W F v xs, fun h => R_same h, fun h => R_lt h, fun h => R_mono h⟩
/-- A value with its rows. -/
def hM {α : Type} (d : Kn α) (x : α) (cs : List Value) : HP := ⟨fun W F => d.M W F x cs, fun h => d.M_same h, fun h => d.M_lt h, fun h => d.M_mono h⟩
/-- A block known whole. -/
def hB (g t : Nat) (cs : Array Value) : HP := ⟨fun W F => F g ∧ Blk W g t cs, fun h k => ⟨k.1, (h g k.1).trans k.2⟩, fun k => ⟨⟨k.1, Blk.lt k.2⟩, k.2⟩, fun h k => ⟨h g k.1, k.2⟩⟩
/-- Several resources: no two share a block. -/
def Star (l : List HP) (W : World) (F : Nat → Prop) : Prop :=
  ∃ Fs : Nat → Nat → Prop, (∀ i b, Fs i b → F b) ∧ (∀ i j b, Fs i b → Fs j b → i = j) ∧ ∀ (i : Nat) (q : HP), l[i]? = some q → q.p W (Fs i)
section
variable {l l' l0 : List HP} {W W' w : World} {F F' F0 : Nat → Prop} {q : HP}
theorem Star.nil : Star [] W F := ⟨fun _ _ => False, fun _ _ h => h.elim, fun _ _ _ h => h.elim, fun i q h => by simp at h⟩
theorem Star.mono (h : Star l W F) (k : ∀ b, F b → F' b) : Star l W F' := by
  obtain ⟨Fs, h1, h2, h3⟩ := h
  exact ⟨Fs, fun i b hb => k b (h1 i b hb), h2, h3⟩
theorem Star.lt (h : Star l W F) : Star l W (fun b => F b ∧ b < W.heap.size) := by
  obtain ⟨Fs, h1, h2, h3⟩ := h
  exact ⟨fun i b => Fs i b ∧ b < W.heap.size, fun i b hb => ⟨h1 i b hb.1, hb.2⟩, fun i j b hi hj => h2 i j b hi.1 hj.1, fun i q hq => q.lt (h3 i q hq)⟩
theorem Star.same (h : Star l W F) (k : ∀ b, F b → W'.heap[b]? = W.heap[b]?) : Star l W' F := by
  obtain ⟨Fs, h1, h2, h3⟩ := h
  exact ⟨Fs, h1, h2, fun i q hq => q.same (fun b hb => k b (h1 i b hb)) (h3 i q hq)⟩
theorem Star.one (h : q.p W F) : Star [q] W F := by
  refine ⟨fun i b => i = 0 ∧ F b, fun i b hb => hb.2, fun i j b hi hj => hi.1.trans hj.1.symm, fun i q' hq => ?_⟩
  rcases i with _ | i
  · simp only [List.getElem?_cons_zero, Option.some.injEq] at hq
    subst hq
    exact q.mono (fun b hb => ⟨rfl, hb⟩) h
  · simp at hq
theorem Star.cons (F1 F2 : Nat → Prop) (h : q.p W F1) (k : Star l W F2) (h1 : ∀ b, F1 b → F b) (h2 : ∀ b, F2 b → F b) (hd : ∀ b, F1 b → ¬ F2 b) : Star (q :: l) W F := by
  obtain ⟨Fs, k1, k2, k3⟩ := k
  refine ⟨fun i b => match i with | 0 => F1 b | i + 1 => Fs i b, fun i b hb => ?_, fun i j b hi hj => ?_, fun i q' hq => ?_⟩
  · rcases i with _ | i
    · exact h1 b hb
    · exact h2 b (k1 i b hb)
  · rcases i with _ | i <;> rcases j with _ | j
    · rfl
    · exact absurd (k1 j b hj) (hd b hi)
    · exact absurd (k1 i b hi) (hd b hj)
    · exact congrArg (· + 1) (k2 i j b hi hj)
  · rcases i with _ | i
    · simp only [List.getElem?_cons_zero, Option.some.injEq] at hq
      subst hq
      exact h
    · exact k3 i q' (by simpa using hq)
theorem Star.uncons (h : Star (q :: l) W F) : ∃ F1 F2, q.p W F1 ∧ Star l W F2 ∧ (∀ b, F1 b → F b) ∧ (∀ b, F2 b → F b) ∧ ∀ b, F1 b → ¬ F2 b := by
  obtain ⟨Fs, h1, h2, h3⟩ := h
  refine ⟨Fs 0, fun b => ∃ i, Fs (i + 1) b, h3 0 q rfl, ⟨fun i b => Fs (i + 1) b, fun i b hb => ⟨i, hb⟩, fun i j b hi hj => by have := h2 _ _ b hi hj; omega, fun i q' hq => h3 (i + 1) q' (by simpa using hq)⟩, h1 0, fun b ⟨i, hb⟩ => h1 _ b hb, fun b hb ⟨i, hi⟩ => by have := h2 _ _ b hb hi; omega⟩
/-- Resources anew ordered, or some of them dropped. -/
theorem Star.pick (h : Star l W F) (ix : List Nat) (hn : ix.Nodup) (hl : ix.map (fun k => l[k]?) = l'.map some) : Star l' W F := by
  obtain ⟨Fs, h1, h2, h3⟩ := h
  refine ⟨fun i b => ∃ k, ix[i]? = some k ∧ Fs k b, fun i b ⟨k, _, hb⟩ => h1 k b hb, fun i j b ⟨k, hk, hb⟩ ⟨k', hk', hb'⟩ => ?_, fun i q hq => ?_⟩
  · have e := h2 _ _ b hb hb'
    subst e
    exact (List.getElem?_inj (List.getElem?_eq_some_iff.1 hk).1 hn).1 (hk.trans hk'.symm)
  · have e : (ix.map (fun k => l[k]?))[i]? = some (some q) := by rw [hl, List.getElem?_map, hq]; rfl
    rw [List.getElem?_map] at e
    obtain ⟨k, hk, hk2⟩ := Option.map_eq_some_iff.1 e
    exact q.mono (fun b hb => ⟨k, hk, hb⟩) (h3 k q hk2)
theorem Star.append (F1 F2 : Nat → Prop) (h : Star l0 W F1) (k : Star l W F2) (h1 : ∀ b, F1 b → F b) (h2 : ∀ b, F2 b → F b) (hd : ∀ b, F1 b → ¬ F2 b) : Star (l0 ++ l) W F := by
  induction l0 generalizing F F1 with
  | nil => exact k.mono h2
  | cons q l0 ih =>
    obtain ⟨G1, G2, a1, a2, a3, a4, a5⟩ := h.uncons
    refine Star.cons (l := l0 ++ l) G1 (fun b => G2 b ∨ F2 b) a1 (ih (F := fun b => G2 b ∨ F2 b) G2 a2 (fun b hb => .inl hb) (fun b hb => .inr hb) (fun b hb => hd b (a4 b hb))) (fun b hb => h1 b (a3 b hb)) (fun b hb => hb.elim (fun q => h1 b (a4 b q)) (h2 b)) (fun b hb q => ?_)
    rcases q with q | q
    · exact a5 b hb q
    · exact hd b (a3 b hb) q
theorem Star.split (h : Star (l0 ++ l) W F) : ∃ F1 F2, Star l0 W F1 ∧ Star l W F2 ∧ (∀ b, F1 b → F b) ∧ (∀ b, F2 b → F b) ∧ ∀ b, F1 b → ¬ F2 b := by
  obtain ⟨Fs, h1, h2, h3⟩ := h
  refine ⟨fun b => ∃ i, i < l0.length ∧ Fs i b, fun b => ∃ i, Fs (l0.length + i) b, ⟨fun i b => i < l0.length ∧ Fs i b, fun i b hb => ⟨i, hb⟩, fun i j b hi hj => h2 i j b hi.2 hj.2, fun i q hq => ?_⟩, ⟨fun i b => Fs (l0.length + i) b, fun i b hb => ⟨i, hb⟩, fun i j b hi hj => by have := h2 _ _ b hi hj; omega, fun i q hq => ?_⟩, fun b ⟨i, _, hb⟩ => h1 i b hb, fun b ⟨i, hb⟩ => h1 _ b hb, fun b ⟨i, hi, hb⟩ ⟨j, hj⟩ => by have := h2 _ _ b hb hj; omega⟩
  · have hi := (List.getElem?_eq_some_iff.1 hq).1
    exact q.mono (fun b hb => ⟨hi, hb⟩) (h3 i q (by rw [List.getElem?_append_left hi]; exact hq))
  · exact h3 _ q (by rw [List.getElem?_append_right (Nat.le_add_right _ _), Nat.add_sub_cancel_left]; exact hq)

/-! ### the state of a call: w: where it began; F0: the blocks that it was handed -/
def St (w : World) (F0 : Nat → Prop) (l : List HP) (W : World) : Prop := Upd F0 w W ∧ Star l W (fun b => F0 b ∨ w.heap.size ≤ b)
theorem St.enter : St w No [] w := ⟨Upd.refl _ _, Star.nil⟩
theorem St.enterF (h : Star l w F0) : St w F0 l w := ⟨Upd.refl _ _, h.mono fun _ hb => .inl hb⟩
theorem St.pick (h : St w F0 l W) (ix : List Nat) (hn : ix.Nodup) (hl : ix.map (fun k => l[k]?) = l'.map some) : St w F0 l' W := ⟨h.1, h.2.pick ix hn hl⟩
theorem St.get (h : St w F0 l W) (i : Nat) (hq : l[i]? = some q) : ∃ F, q.p W F := by
  obtain ⟨_, Fs, _, _, h3⟩ := h
  exact ⟨_, h3 i q hq⟩
theorem St.blk (h : St w F0 l W) (i : Nat) {g t : Nat} {cs : Array Value} (hq : l[i]? = some (hB g t cs)) : Blk W g t cs := by
  obtain ⟨F, hF⟩ := h.get i hq
  exact hF.2
theorem St.size (h : St w F0 l W) : w.heap.size ≤ W.heap.size := h.1.size
/-- The frame: what a call does with the resources that it is handed. -/
theorem St.frame (h : St w F0 (l0 ++ l) W) : ∃ F1 : Nat → Prop, Star l0 W F1 ∧ (∀ b, F1 b → (F0 b ∨ w.heap.size ≤ b) ∧ b < W.heap.size) ∧ ∀ l' W', St W F1 l' W' → St w F0 (l' ++ l) W' := by
  obtain ⟨F1, F2, a1, a2, a3, a4, a5⟩ := h.2.split
  refine ⟨fun b => F1 b ∧ b < W.heap.size, a1.lt, fun b hb => ⟨a3 b hb.1, hb.2⟩, fun l' W' h' => ⟨Upd.trans h.1 h'.1 (fun _ _ q => q) (fun b hb q => (a3 b q.1).resolve_right (by omega)), ?_⟩⟩
  have hs := h.1.size
  refine Star.append _ (fun b => F2 b ∧ b < W.heap.size) h'.2 (a2.lt.same (fun b hb => h'.1.block b hb.2 (fun q => a5 b q.1 hb.1))) (fun b hb => ?_) (fun b hb => a4 b hb.1) (fun b hb q => ?_)
  · rcases hb with hb | hb
    · exact a3 b hb.1
    · right; omega
  · rcases hb with hb | hb
    · exact a5 b hb.1 q.1
    · have := q.2; omega
theorem St.call (h : St w F0 l W) (k : St W No l' W') : St w F0 (l' ++ l) W' := by
  have h2 : St w F0 ([] ++ l) W := h
  obtain ⟨F1, _, _, h3⟩ := h2.frame
  exact h3 l' W' ⟨k.1.mono (fun _ _ q => q.elim), k.2.mono (fun b hb => hb.elim (fun q => q.elim) .inr)⟩
theorem St.no (h : St w F0 l W) (hu : Upd No W W') : St w F0 l W' := h.call (l' := []) ⟨hu, Star.nil⟩
theorem St.new (h : St w F0 l W) (hu : Upd No W W') (hq : q.p W' (New W)) : St w F0 (q :: l) W' := h.call (l' := [q]) ⟨hu, (Star.one hq).mono fun _ hb => .inr hb⟩
theorem St.news (h : St w F0 l W) (hu : Upd No W W') (hq : Star l' W' (New W)) : St w F0 (l' ++ l) W' := h.call ⟨hu, hq.mono fun _ hb => .inr hb⟩
theorem St.drew (h : St w F0 l W) : St w F0 l W.drew := h.no (Upd.refl _ _).drew
theorem St.alloc (h : St w F0 l W) (t : Nat) (cs : Array Value) : St w F0 (hB W.heap.size t cs :: l) (W.alloc (.cells cs t)) := h.new ((Upd.refl _ _).alloc _) ⟨Nat.le_refl _, Blk.new _ _ _⟩
/-- The first resource is turned. -/
theorem St.turn (h : St w F0 (q :: l) W) : ∃ F1 : Nat → Prop, q.p W F1 ∧ (∀ b, F1 b → (F0 b ∨ w.heap.size ≤ b) ∧ b < W.heap.size) ∧ ∀ q' W', Upd F1 W W' → q'.p W' (fun b => F1 b ∨ W.heap.size ≤ b) → St w F0 (q' :: l) W' := by
  obtain ⟨F1, a1, a2, a3⟩ := St.frame (l0 := [q]) (l := l) h
  refine ⟨F1, ?_, a2, fun q' W' hu hq => a3 [q'] W' ⟨hu, Star.one hq⟩⟩
  obtain ⟨Fs, b1, _, b3⟩ := a1
  exact q.mono (b1 0) (b3 0 q rfl)
theorem St.fin1 (h : St w No [q] W) : q.p W (New w) ∧ Upd No w W := by
  obtain ⟨h1, Fs, b1, _, b3⟩ := h
  exact ⟨q.mono (fun b hb => (b1 0 b hb).resolve_left (fun z => z)) (b3 0 q rfl), h1⟩
theorem St.star (h : St w No l W) : Star l W (New w) := h.2.mono fun _ hb => hb.resolve_left (fun z => z)
/-- Resources put together, or taken apart, in place. -/
theorem St.swap (h : St w F0 (l0 ++ l) W) (k : ∀ F, Star l0 W F → Star l' W F) : St w F0 (l' ++ l) W := by
  refine ⟨h.1, ?_⟩
  obtain ⟨F1, F2, a1, a2, a3, a4, a5⟩ := h.2.split
  exact Star.append F1 F2 (k F1 a1) a2 a3 a4 a5
end

/-! ### cells at an address -/
def Cat (W : World) (a : Addr) (cs : List Value) : Prop := ∀ j u, cs[j]? = some u → W.cell? (a.add j) = some u
theorem add_add' (a : Addr) (m k : Nat) : (a.add m).add k = a.add (m + k) := by
  unfold Addr.add
  by_cases hm : m = 0 <;> by_cases hk : k = 0 <;> simp [hm, hk, Nat.add_assoc]
theorem add_zero' (a : Addr) : a = a.add 0 := rfl
theorem Blk.at' {W : World} {g t : Nat} {cs : Array Value} (h : Blk W g t cs) : Cat W ⟨g, 0, none⟩ cs.toList := fun j u hu => by
  rw [add_plain, h.cell]
  simpa using hu
theorem Cat.cell {W : World} {a : Addr} {cs : List Value} (h : Cat W a cs) (k : Nat) {v : Value} (hv : cs[k]? = some v) : W.cell? (a.add k) = some v := h k v hv
theorem Cat.sub {W : World} {a : Addr} {cs sub : List Value} (h : Cat W a cs) (k m : Nat) (hs : (cs.drop k).take m = sub) : Cat W (a.add k) sub := fun j u hu => by
  subst hs
  rw [add_add']
  refine h (k + j) u ?_
  rw [List.getElem?_take] at hu
  split at hu
  · rwa [List.getElem?_drop] at hu
  · simp at hu
theorem Cat.upd {W W' : World} {a : Addr} {cs : List Value} (h : Cat W a cs) (hu : Upd No W W') : Cat W' a cs := fun j u hj => hu.read (h j u hj)
/-- An element of a row that is read. -/
theorem C_elem {α : Type} {d : Kn α} {W : World} {A : Option Addr} {xs : List α} (h : C d W A xs) (i : Nat) (hi : i < xs.length) : ∃ ad cs, A = some ad ∧ d.K W xs[i] cs ∧ Cat W (ad.add (i * d.sz)) cs := by
  obtain ⟨ad, c, h1, _, h3, h4⟩ := C_get h i hi
  exact ⟨ad, c, h1, h3, fun j u hu => by rw [add_add']; exact h4 j u hu⟩

/-! ### frames: the slots that are known -/
def actOf (n : Nat) (x : Nat → Value) (live : List (Nat × Value)) : Act := ⟨((List.range n).map fun i => (live.lookup i).getD (x i)).toArray, []⟩
def evl (n : Nat) (live : List (Nat × Value)) : Operand → Option Value
  | .tmp t => if t < n then live.lookup t else none
  | .const v => some v
  | .func f => some (.func (.func f) #[] #[])
  | .global g => some (.pointer (some ⟨g, 0, none⟩))
section
variable {n : Nat} {x : Nat → Value} {live live' : List (Nat × Value)}
theorem evl_ok {y : Operand} {v : Value} (h : evl n live y = some v) : (actOf n x live).eval y = v := by
  cases y with
  | tmp t =>
    simp only [evl] at h
    split at h
    · rename_i ht
      simp [Act.eval, actOf, ht, h]
    · cases h
  | const u => exact Option.some.inj h
  | func f => exact Option.some.inj h
  | global g => exact Option.some.inj h
theorem evls_list : ∀ (a : List Operand) (b : List Value), a.map (evl n live) = b.map some → a.map (actOf n x live).eval = b
  | [], [], _ => rfl
  | [], _ :: _, q => by cases q
  | _ :: _, [], q => by cases q
  | y :: a, u :: b, q => by
    simp only [List.map_cons, List.cons.injEq] at q
    rw [List.map_cons, evls_list a b q.2, evl_ok q.1]
theorem evls_ok {ys : Array Operand} {vs : Array Value} (h : ys.toList.map (evl n live) = vs.toList.map some) : ys.map (actOf n x live).eval = vs := by
  rw [← Array.toList_inj, Array.toList_map]
  exact evls_list _ _ h
theorem actOf_put {d : Nat} (_hd : d < n) (v : Value) : (actOf n x live).put (some d) v = actOf n x ((d, v) :: live) := by
  unfold Act.put actOf
  simp only [Act.mk.injEq, and_true]
  apply Array.ext
  · simp
  · intro i h1 h2
    simp only [Array.size_setIfInBounds, List.size_toArray, List.length_map, List.length_range] at h1
    simp only [List.getElem_toArray, List.getElem_map, List.getElem_range, List.lookup_cons]
    by_cases e : d = i
    · subst e
      simp
    · simp [e, show (i == d) = false from by simp; omega]
theorem actOf_drop (h : ∀ k v, (k, v) ∈ live' → live.lookup k = some v) : ∃ x', actOf n x live = actOf n x' live' := by
  refine ⟨fun i => (live.lookup i).getD (x i), ?_⟩
  unfold actOf
  congr 3
  funext i
  cases e : live'.lookup i with
  | none => rfl
  | some v =>
    have : (i, v) ∈ live' := by
      clear h
      induction live' with
      | nil => cases e
      | cons p l ih =>
        obtain ⟨k, u⟩ := p
        rw [List.lookup_cons] at e
        by_cases hk : i = k
        · subst hk
          simp at e
          subst e
          exact List.mem_cons_self
        · have hk' : (i == k) = false := by simp [hk]
          rw [hk'] at e
          exact List.mem_cons_of_mem _ (ih e)
    rw [h i v this]
    rfl
/-- The slots that are still wanted, all others forgotten. -/
theorem act_gen {K : Act → World → Prop} {W : World} (live' : List (Nat × Value)) (h2 : live'.map (fun p => some p.2) = live'.map (fun p => live.lookup p.1)) (k : ∀ x, K (actOf n x live') W) : K (actOf n x live) W := by
  obtain ⟨x', e⟩ := actOf_drop (n := n) (x := x) (live := live) (live' := live') (fun a v hm => by
    have := List.map_inj_left.1 h2 _ hm
    exact this.symm)
  rw [e]
  exact k x'
end

/-! ### operations -/
section
variable {P : Program} {ops : Array Oper} {Q : Exit → Act → World → Prop} {K : Act → World → Prop} {n i d ty : Nat} {x : Nat → Value} {live : List (Nat × Value)} {W w : World} {F0 : Nat → Prop} {l l' : List HP} {pos : String} {aft : Array Edge} {v : Value} {y z : Operand}
theorem op_ok {o : Oper} {a : Act} (ho : ops[i]? = some o) (hg : o.guard = none) (h : o.wp P a W K Q) : wpOp P ops Q i K a W := by
  unfold wpOp
  simp only [ho]
  rw [if_pos (by simp [Region.wanted, hg])]
  exact .inl h
/-- An operation that yields v and leaves the world as it is. -/
def Rn (P : Program) (o : Oper) (a : Act) (W : World) (v : Value) : Prop := (execOp a.eval o).run P W = .ok (.value v) W
theorem op_pure {dst : Option Nat} {op : Op} (ho : ops[i]? = some ⟨dst, op, ty, pos, aft, none⟩) (hr : Rn P ⟨dst, op, ty, pos, aft, none⟩ (actOf n x live) W v) (hd : dst = some d) (hdn : decide (d < n) = true) (h : K (actOf n x ((d, v) :: live)) W) : wpOp P ops Q i K (actOf n x live) W := by
  subst hd
  refine op_ok ho rfl ?_
  unfold Oper.wp
  rw [hr]
  simp only [Oper.upon]
  rw [actOf_put (of_decide_eq_true hdn)]
  exact h
theorem rn_move {dst : Option Nat} (hx : evl n live y = some v) : Rn P ⟨dst, .move y, ty, pos, aft, none⟩ (actOf n x live) W v := by
  unfold Rn
  simp [execOp, evl_ok hx]
theorem rn_assign {dst : Option Nat} (hx : evl n live y = some v) : Rn P ⟨dst, .assign y, ty, pos, aft, none⟩ (actOf n x live) W v := by
  unfold Rn
  simp [execOp, evl_ok hx]
/-- The address of a field. -/
def FieldAt (P : Program) (s f off : Nat) : Prop := ∀ (a : Addr) (W : World), (Instr.fieldAt s (.pointer (some a)) f).run P W = .ok (.pointer (some (a.add off))) W
theorem rn_field {dst : Option Nat} {s f off : Nat} {a : Addr} (hf : FieldAt P s f off) (hx : evl n live y = some (.pointer (some a))) : Rn P ⟨dst, .fieldAddr s y f, ty, pos, aft, none⟩ (actOf n x live) W (.pointer (some (a.add off))) := by
  unfold Rn
  simp [execOp, evl_ok hx, hf a W]
theorem rn_fieldAdd {dst : Option Nat} {s f off m : Nat} {a : Addr} (hf : FieldAt P s f off) (hx : evl n live y = some (.pointer (some (a.add m)))) : Rn P ⟨dst, .fieldAddr s y f, ty, pos, aft, none⟩ (actOf n x live) W (.pointer (some (a.add (m + off)))) := by
  have := rn_field (P := P) (dst := dst) (ty := ty) (pos := pos) (aft := aft) (x := x) (W := W) hf hx
  rwa [add_add'] at this
theorem rn_load {dst : Option Nat} {t : Nat} {a : Addr} (hA : ∀ w, (isAgg t).run P w = .ok false w) (hx : evl n live y = some (.pointer (some a))) (hc : W.cell? a = some v) : Rn P ⟨dst, .load t y, ty, pos, aft, none⟩ (actOf n x live) W v := by
  unfold Rn
  simp [execOp, evl_ok hx, Instr.loadAt, Instr.sureAddr, loadVar, hA, run_load, hc]
theorem rn_loadN {dst : Option Nat} {t m : Nat} {a : Addr} {cs : List Value} (hA : ∀ w, (isAgg t).run P w = .ok true w) (hS : ∀ w, (sizeOf t).run P w = .ok m w) (hx : evl n live y = some (.pointer (some a))) (hc : Cat W a cs) (hm : cs.length = m) : Rn P ⟨dst, .load t y, ty, pos, aft, none⟩ (actOf n x live) W (.agg cs.toArray) := by
  subst hm
  unfold Rn
  simp [execOp, evl_ok hx, Instr.loadAt, Instr.sureAddr, loadVar, hA, hS, run_loadCells_list (P := P) W a cs hc]
theorem rn_index {dst : Option Nat} {t e sz k len cap : Nat} {ad : Addr} (hu : ∀ w, (underlying t).run P w = .ok (.slice e) w) (hS : ∀ w, (sizeOf e).run P w = .ok sz w) (hx : evl n live y = some (.slice (some ad) len cap)) (hz : evl n live z = some (.int .i64 k)) (hk : k < len) : Rn P ⟨dst, .indexAddr t y z, ty, pos, aft, none⟩ (actOf n x live) W (.pointer (some (ad.add (k * sz)))) := by
  unfold Rn
  have h1 : (0 : Int) ≤ (k : Int) ∧ (k : Int) < (len : Int) := by omega
  simp [execOp, evl_ok hx, evl_ok hz, Instr.indexAt, asIntOf, hu, hS, h1]
  intro hle
  omega
theorem rn_len {dst : Option Nat} {t e len cap : Nat} {A : Option Addr} (hu : ∀ w, (underlying t).run P w = .ok (.slice e) w) (hx : evl n live y = some (.slice A len cap)) : Rn P ⟨dst, .call { callee := .builtin .len, args := #[y], argTypes := #[t] }, ty, pos, aft, none⟩ (actOf n x live) W (.int .i64 len) := by
  unfold Rn
  simp [execOp, evl_ok hx, resolve, invoke, builtin, Builtin.len_, hu, goInt]
theorem rn_cmp {dst : Option Nat} {b : Bool} {op : BinOp} {xt yt : Nat} {p q : Int} (hx : evl n live y = some (.int .i64 p)) (hz : evl n live z = some (.int .i64 q)) (hb : binOp op xt (.int .i64 p) (.int .i64 q) = pure (.bool b)) : Rn P ⟨dst, .binOp op xt y z yt, ty, pos, aft, none⟩ (actOf n x live) W (.bool b) := by
  unfold Rn
  simp [execOp, evl_ok hx, evl_ok hz, eqGuard_at_int, hb]
theorem rn_arith {dst : Option Nat} {op : BinOp} {xt yt : Nat} {p q r : Int} (hx : evl n live y = some (.int .i64 p)) (hz : evl n live z = some (.int .i64 q)) (hb : binOp op xt (.int .i64 p) (.int .i64 q) = pure (.int .i64 r)) : Rn P ⟨dst, .binOp op xt y z yt, ty, pos, aft, none⟩ (actOf n x live) W (.int .i64 r) := by
  unfold Rn
  simp [execOp, evl_ok hx, evl_ok hz, eqGuard_at_int, hb]
theorem rn_not {dst : Option Nat} {b : Bool} {xt : Nat} (hx : evl n live y = some (.bool b)) : Rn P ⟨dst, .unOp .not xt y, ty, pos, aft, none⟩ (actOf n x live) W (.bool (!b)) := by
  unfold Rn
  simp [execOp, evl_ok hx, Op.unary]
theorem rn_nilCheck {dst : Option Nat} {a : Addr} (hx : evl n live y = some (.pointer (some a))) : Rn P ⟨dst, .nilCheck y, ty, pos, aft, none⟩ (actOf n x live) W (.pointer (some a)) := by
  unfold Rn
  simp [execOp, evl_ok hx]
theorem rn_extract {dst : Option Nat} {vs : Array Value} {k : Nat} (hx : evl n live y = some (.tuple vs)) (hv : vs[k]? = some v) : Rn P ⟨dst, .extract y k, ty, pos, aft, none⟩ (actOf n x live) W v := by
  unfold Rn
  simp [execOp, evl_ok hx, Instr.extract, hv]
theorem rn_any {dst : Option Nat} {op : Op} (hr : (execOp (actOf n x live).eval ⟨dst, op, ty, pos, aft, none⟩).run P W = .ok (.value v) W) : Rn P ⟨dst, op, ty, pos, aft, none⟩ (actOf n x live) W v := hr
/-- A call of a Go function. -/
theorem op_call {dst : Option Nat} {f : FuncId} {ys : Array Operand} {tys : Array Nat} {vs : Array Value} {R : Ending → World → Prop} (ho : ops[i]? = some ⟨dst, .call { callee := .value (.func f), args := ys, argTypes := tys }, ty, pos, aft, none⟩) (hf : ∀ us w, (callFunc f us).run P w = .ok (.enter f us) w) (hv : ys.toList.map (evl n live) = vs.toList.map some) (hd : dst = some d) (hdn : decide (d < n) = true) (hc : Calls P f vs W R) (h : ∀ e W', R e W' → ∃ v, e = .returned v ∧ K (actOf n x ((d, v) :: live)) W') : wpOp P ops Q i K (actOf n x live) W := by
  subst hd
  refine op_ok ho rfl ?_
  have e : ys.map (actOf n x live).eval = vs := evls_ok hv
  have hrun : (execOp (actOf n x live).eval ⟨some d, .call { callee := .value (.func f), args := ys, argTypes := tys }, ty, pos, aft, none⟩).run P W = .ok (.enter f vs) W := by
    simp [execOp, resolve, Act.eval, Deferred.ofValue, invoke, e, hf]
  unfold Oper.wp
  rw [hrun]
  simp only [Oper.upon]
  refine hc.mono fun e' W' hR => ?_
  obtain ⟨u, rfl, hk⟩ := h e' W' hR
  show K ((actOf n x live).put (some d) u) W'
  rw [actOf_put (of_decide_eq_true hdn)]
  exact hk
/-- .. whose result is not kept. -/
theorem op_call0 {f : FuncId} {ys : Array Operand} {tys : Array Nat} {vs : Array Value} {R : Ending → World → Prop} (ho : ops[i]? = some ⟨none, .call { callee := .value (.func f), args := ys, argTypes := tys }, ty, pos, aft, none⟩) (hf : ∀ us w, (callFunc f us).run P w = .ok (.enter f us) w) (hv : ys.toList.map (evl n live) = vs.toList.map some) (hc : Calls P f vs W R) (h : ∀ e W', R e W' → ∃ v, e = .returned v ∧ K (actOf n x live) W') : wpOp P ops Q i K (actOf n x live) W := by
  refine op_ok ho rfl ?_
  have e : ys.map (actOf n x live).eval = vs := evls_ok hv
  have hrun : (execOp (actOf n x live).eval ⟨none, .call { callee := .value (.func f), args := ys, argTypes := tys }, ty, pos, aft, none⟩).run P W = .ok (.enter f vs) W := by
    simp [execOp, resolve, Act.eval, Deferred.ofValue, invoke, e, hf]
  unfold Oper.wp
  rw [hrun]
  simp only [Oper.upon]
  refine hc.mono fun e' W' hR => ?_
  obtain ⟨u, rfl, hk⟩ := h e' W' hR
  exact hk
theorem op_alloc {dst : Option Nat} {t : Nat} {z : Value} (ho : ops[i]? = some ⟨dst, .alloc t, ty, pos, aft, none⟩) (hz : ∀ w, (zeroValue t).run P w = .ok z w) (hd : dst = some d) (hdn : decide (d < n) = true) (H : St w F0 l W) (h : ∀ g W', Upd No W W' → St w F0 (hB g t z.cells :: l) W' → K (actOf n x ((d, .pointer (some ⟨g, 0, none⟩)) :: live)) W') : wpOp P ops Q i K (actOf n x live) W := by
  subst hd
  refine op_ok ho rfl ?_
  have hrun : (execOp (actOf n x live).eval ⟨some d, .alloc t, ty, pos, aft, none⟩).run P W = .ok (.value (.pointer (some ⟨W.heap.size, 0, none⟩))) (W.alloc (.cells z.cells t)) := by
    simp [execOp, Instr.alloc, hz, newVar, newRow]
  unfold Oper.wp
  rw [hrun]
  simp only [Oper.upon]
  rw [actOf_put (of_decide_eq_true hdn)]
  exact h _ _ ((Upd.refl _ _).alloc _) (H.alloc t z.cells)
theorem op_box {dst : Option Nat} {t : Nat} (ho : ops[i]? = some ⟨dst, .box t y, ty, pos, aft, none⟩) (hx : evl n live y = some v) (hd : dst = some d) (hdn : decide (d < n) = true) (H : St w F0 l W) (h : ∀ g W', Upd No W W' → St w F0 (hB g t v.cells :: l) W' → K (actOf n x ((d, .pointer (some ⟨g, 0, none⟩)) :: live)) W') : wpOp P ops Q i K (actOf n x live) W := by
  subst hd
  refine op_ok ho rfl ?_
  have hrun : (execOp (actOf n x live).eval ⟨some d, .box t y, ty, pos, aft, none⟩).run P W = .ok (.value (.pointer (some ⟨W.heap.size, 0, none⟩))) (W.alloc (.cells v.cells t)) := by
    simp [execOp, evl_ok hx, Instr.box, newVar, newRow]
  unfold Oper.wp
  rw [hrun]
  simp only [Oper.upon]
  rw [actOf_put (of_decide_eq_true hdn)]
  exact h _ _ ((Upd.refl _ _).alloc _) (H.alloc t v.cells)
/-- A store into the first block. -/
def put (cs : Array Value) (k : Nat) (vs : List Value) : Array Value := (cs.toList.take k ++ vs ++ cs.toList.drop (k + vs.length)).toArray
theorem op_store {t g tb k m : Nat} {cs : Array Value} (ho : ops[i]? = some ⟨none, .store t y z, ty, pos, aft, none⟩) (hS : ∀ w, (sizeOf t).run P w = .ok m w) (hx : evl n live y = some (.pointer (some (Addr.add ⟨g, 0, none⟩ k)))) (hz : evl n live z = some v) (hm : v.cells.size = m) (hk : k + m ≤ cs.size) (h1 : ∀ u ∈ v.cells.toList, u.oneCell' = true) (H : St w F0 (hB g tb cs :: l) W) (h : ∀ W', Upd (fun b => b = g) W W' → St w F0 (hB g tb (put cs k v.cells.toList) :: l) W' → K (actOf n x live) W') : wpOp P ops Q i K (actOf n x live) W := by
  have hb : Blk W g tb cs := H.blk 0 rfl
  refine op_ok ho rfl ?_
  subst hm
  have hst := run_storeCells_at P g k tb v.cells.toList 0 cs W hb (by simp; omega) h1
  rw [add_plain] at hx
  have hrun : (execOp (actOf n x live).eval ⟨none, .store t y z, ty, pos, aft, none⟩).run P W = .ok .skip (W.setRow g (put cs k v.cells.toList)) := by
    simp only [execOp, evl_ok hx, evl_ok hz, Instr.storeAt, Instr.sureAddr, storeVar, Sem.run_bind, Sem.run_pure, Result.andThen_ok, hS, ne_eq, not_true, if_false]
    have := hst
    simp only [Nat.add_zero] at this
    rw [this]
    rfl
  unfold Oper.wp
  rw [hrun]
  simp only [Oper.upon]
  have hB' : Blk (W.setRow g (put cs k v.cells.toList)) g tb (put cs k v.cells.toList) := setRow_heap W g cs _ tb (0, 0) hb
  have hU : Upd (fun b => b = g) W (W.setRow g (put cs k v.cells.toList)) := by
    refine ⟨rfl, rfl, rfl, by simp [World.setRow], fun b hb' hF => ?_⟩
    simp only [World.setRow, Array.getElem?_modify]
    rw [if_neg (fun e => hF e.symm)]
  refine h _ hU ?_
  obtain ⟨F1, a1, a2, a3⟩ := H.turn
  exact a3 _ _ (hU.mono (fun b _ e => e ▸ a1.1)) ⟨.inl a1.1, hB'⟩
theorem op_store0 {t g tb m : Nat} {cs : Array Value} (ho : ops[i]? = some ⟨none, .store t y z, ty, pos, aft, none⟩) (hS : ∀ w, (sizeOf t).run P w = .ok m w) (hx : evl n live y = some (.pointer (some ⟨g, 0, none⟩))) (hz : evl n live z = some v) (hm : v.cells.size = m) (hk : m ≤ cs.size) (h1 : ∀ u ∈ v.cells.toList, u.oneCell' = true) (H : St w F0 (hB g tb cs :: l) W) (h : ∀ W', Upd (fun b => b = g) W W' → St w F0 (hB g tb (put cs 0 v.cells.toList) :: l) W' → K (actOf n x live) W') : wpOp P ops Q i K (actOf n x live) W :=
  op_store (k := 0) ho hS hx hz hm (by omega) h1 H h
/-! ### regions -/
theorem reg_seq {id : Nat} {a : Act} (is : List Nat) (hl : List.range ops.size = is) (h : wpOps P ops Q is a W) : (Code.region id ops false).wp P Q a W := wp_region (hl ▸ h)
theorem ops_cons {a : Act} {rest : List Nat} (h : wpOp P ops Q i (wpOps P ops Q rest) a W) : wpOps P ops Q (i :: rest) a W := by
  rw [wpOps_cons]
  exact h
theorem ops_nil {a : Act} (h : Q .normal a W) : wpOps P ops Q [] a W := h
theorem then_n {a : Act} (h : K a W) : Exit.then K Q .normal a W := h
theorem inB_n {a : Act} {id : Nat} (h : Q .normal a W) : Exit.inBlock id Q .normal a W := h
theorem inB_x {a : Act} {id : Nat} (h : Q .normal a W) : Exit.inBlock id Q (.exit id) a W := by
  show (if id = id then Q .normal a W else Q (.exit id) a W)
  rw [if_pos rfl]
  exact h
theorem cond_dec {c1 c2 : Code} {p : Prop} [Decidable p] (hc : evl n live y = some (.bool (decide p))) (ht : p → c1.wp P Q (actOf n x live) W) (hf : ¬ p → c2.wp P Q (actOf n x live) W) : (Code.cond y c1 c2).wp P Q (actOf n x live) W := by
  by_cases hp : p
  · exact wp_cond_true (by rw [evl_ok hc, decide_eq_true hp]) (ht hp)
  · exact wp_cond_false (by rw [evl_ok hc, decide_eq_false hp]) (hf hp)
theorem cond_t {c1 c2 : Code} (hc : evl n live y = some (.bool true)) (ht : c1.wp P Q (actOf n x live) W) : (Code.cond y c1 c2).wp P Q (actOf n x live) W := wp_cond_true (evl_ok hc) ht
theorem cond_f {c1 c2 : Code} (hc : evl n live y = some (.bool false)) (ht : c2.wp P Q (actOf n x live) W) : (Code.cond y c1 c2).wp P Q (actOf n x live) W := wp_cond_false (evl_ok hc) ht
/-- A region is cut off from what follows. -/
theorem reg_cut {c : Code} {a : Act} (Rel : Act → World → Prop) (h : c.wp P (fun e a' W' => match e with | .normal => Rel a' W' | .panic _ => False | e => Q e a' W') a W) (k : ∀ a' W', Rel a' W' → Q .normal a' W') : c.wp P Q a W :=
  wp_mono h fun e a' W' hq => by
    cases e with
    | normal => exact k a' W' hq
    | panic ch => exact hq.elim
    | _ => exact hq
/-- Entering a function. -/
theorem enter {f : FuncId} {fn : Func} {c : Code} {args : Array Value} {R : Ending → World → Prop} (n : Nat) (live : List (Nat × Value)) (hf : P.funcs[f]? = some fn) (hb : fn.body = some c) (ha : (⟨args ++ Array.replicate (fn.ntmps - args.size) undef, []⟩ : Act) = actOf n (fun _ => undef) live) (h : ∀ x, c.wp P (bodyPost P fn R) (actOf n x live) w) : Calls P f args w R :=
  calls_of_wp hf hb (ha ▸ h _)
theorem post_tmp {fn : Func} {e : Exit} {t : Nat} {R : Ending → World → Prop} (he : e = .ret ∨ e = .normal) (hr : fn.results = #[.tmp t]) (hx : evl n live (.tmp t) = some v) (h : R (.returned v) W) : bodyPost P fn R e (actOf n x live) W := by
  have e2 : (actOf n x live).tmps.getD t undef = v := evl_ok (y := .tmp t) hx
  have hrun : (results fn (actOf n x live).tmps).run P W = .ok v W := by
    simp only [results, hr]
    simp at e2
    simp [e2]
  rcases he with rfl | rfl <;> exact ⟨rfl, v, hrun, h⟩
theorem post_void {fn : Func} {e : Exit} {R : Ending → World → Prop} (he : e = .ret ∨ e = .normal) (hr : fn.results = #[]) (h : R (.returned (.tuple #[])) W) : bodyPost P fn R e (actOf n x live) W := by
  have hrun : (results fn (actOf n x live).tmps).run P W = .ok (.tuple #[]) W := by
    simp [results, hr]
  rcases he with rfl | rfl <;> exact ⟨rfl, _, hrun, h⟩
theorem run_cell {t g tb m : Nat} {cs : Array Value} (hA : ∀ w, (isAgg t).run P w = .ok true w) (hS : ∀ w, (sizeOf t).run P w = .ok m w) (hb : Blk W g tb cs) (hm : cs.size = m) : (loadVar t ⟨g, 0, none⟩).run P W = .ok (.agg cs) W := by
  subst hm
  have hl := run_loadCells_list (P := P) W ⟨g, 0, none⟩ cs.toList hb.at'
  simp only [Array.length_toList, Array.toArray_toList] at hl
  simp [loadVar, hA, hS, hl]
theorem post_cell {fn : Func} {e : Exit} {p t g tb m : Nat} {cs : Array Value} {R : Ending → World → Prop} (he : e = .ret ∨ e = .normal) (hr : fn.results = #[.cell p t]) (hA : ∀ w, (isAgg t).run P w = .ok true w) (hS : ∀ w, (sizeOf t).run P w = .ok m w) (hx : evl n live (.tmp p) = some (.pointer (some ⟨g, 0, none⟩))) (hb : Blk W g tb cs) (hm : cs.size = m) (h : R (.returned (.agg cs)) W) : bodyPost P fn R e (actOf n x live) W := by
  have e2 : (actOf n x live).tmps.getD p undef = .pointer (some ⟨g, 0, none⟩) := evl_ok (y := .tmp p) hx
  have hl := run_cell hA hS hb hm
  have hrun : (results fn (actOf n x live).tmps).run P W = .ok (.agg cs) W := by
    simp only [results, hr]
    simp at e2
    simp [e2, asAddr, hl]
  rcases he with rfl | rfl <;> exact ⟨rfl, _, hrun, h⟩
theorem post_cell_tmp {fn : Func} {e : Exit} {p t g tb m j : Nat} {cs : Array Value} {R : Ending → World → Prop} (he : e = .ret ∨ e = .normal) (hr : fn.results = #[.cell p t, .tmp j]) (hA : ∀ w, (isAgg t).run P w = .ok true w) (hS : ∀ w, (sizeOf t).run P w = .ok m w) (hx : evl n live (.tmp p) = some (.pointer (some ⟨g, 0, none⟩))) (hy : evl n live (.tmp j) = some v) (hb : Blk W g tb cs) (hm : cs.size = m) (h : R (.returned (.tuple #[.agg cs, v])) W) : bodyPost P fn R e (actOf n x live) W := by
  have e2 : (actOf n x live).tmps.getD p undef = .pointer (some ⟨g, 0, none⟩) := evl_ok (y := .tmp p) hx
  have e3 : (actOf n x live).tmps.getD j undef = v := evl_ok (y := .tmp j) hy
  have hl := run_cell hA hS hb hm
  have hrun : (results fn (actOf n x live).tmps).run P W = .ok (.tuple #[.agg cs, v]) W := by
    simp only [results, hr]
    simp at e2 e3
    simp [e2, e3, asAddr, hl]
  rcases he with rfl | rfl <;> exact ⟨rfl, _, hrun, h⟩
theorem post_tmp_cell_tmp {fn : Func} {e : Exit} {p t g tb m j j2 : Nat} {v0 : Value} {cs : Array Value} {R : Ending → World → Prop} (he : e = .ret ∨ e = .normal) (hr : fn.results = #[.tmp j, .cell p t, .tmp j2]) (hA : ∀ w, (isAgg t).run P w = .ok true w) (hS : ∀ w, (sizeOf t).run P w = .ok m w) (hy : evl n live (.tmp j) = some v0) (hx : evl n live (.tmp p) = some (.pointer (some ⟨g, 0, none⟩))) (hy2 : evl n live (.tmp j2) = some v) (hb : Blk W g tb cs) (hm : cs.size = m) (h : R (.returned (.tuple #[v0, .agg cs, v])) W) : bodyPost P fn R e (actOf n x live) W := by
  have e2 : (actOf n x live).tmps.getD p undef = .pointer (some ⟨g, 0, none⟩) := evl_ok (y := .tmp p) hx
  have e3 : (actOf n x live).tmps.getD j undef = v0 := evl_ok (y := .tmp j) hy
  have e4 : (actOf n x live).tmps.getD j2 undef = v := evl_ok (y := .tmp j2) hy2
  have hl := run_cell hA hS hb hm
  have hrun : (results fn (actOf n x live).tmps).run P W = .ok (.tuple #[v0, .agg cs, v]) W := by
    simp only [results, hr]
    simp at e2 e3 e4
    simp [e2, e3, e4, asAddr, hl]
  rcases he with rfl | rfl <;> exact ⟨rfl, _, hrun, h⟩
end

/-! ### a region that draws its order: loads may be taken first, till operation t has come up -/
section
variable {P : Program} {ops : Array Oper} {Q : Exit → Act → World → Prop} {md : Region.Mode} {S : World → Prop} {t : Nat}
def wpAnyS (P : Program) (md : Region.Mode) (ops : Array Oper) (Q : Exit → Act → World → Prop) (S : World → Prop) (t : Nat) : Nat → Array Bool → Act → World → Prop
  | 0, listed, a, w => Region.ready md ops listed = [] ∧ Q .normal a w
  | fuel + 1, listed, a, w =>
    (Region.ready md ops listed = [] → Q .normal a w) ∧
    ∀ i ∈ Region.ready md ops listed, wpOp P ops Q i (fun a' w' => ((listed.setIfInBounds i true).getD t false = false → S w') ∧ wpAnyS P md ops Q S t fuel (listed.setIfInBounds i true) a' w') a w
theorem wpAny_of_S : ∀ (fuel : Nat) (listed : Array Bool) (a : Act) (w : World), wpAnyS P md ops Q S t fuel listed a w → wpAny P md ops Q fuel listed a w
  | 0, _, _, _, h => h
  | fuel + 1, _, _, _, h => ⟨h.1, fun i hi => wpOp_mono (fun a' w' h' => wpAny_of_S fuel _ a' w' h'.2) (h.2 i hi)⟩
/-- Operation t waits for i (or there is no operation t). -/
def waits (md : Region.Mode) (ops : Array Oper) (t i : Nat) : Bool := i != t && (match ops[t]? with | none => true | some o => o.after.any fun e => Region.binds md e && e.on == i)
theorem anyS_first {i : Nat} {oi : Oper} {v : Value} (hi : ops[i]? = some oi) (hsel : ∀ (j : Nat) (o : Oper) cs b, ops[j]? = some o → o.op ≠ .select cs b) (hw : waits md ops t i = true)
    (hQ : ∀ c a w, Q (.panic c) (a.put oi.dst v) w → Q (.panic c) a w) :
    ∀ (fuel : Nat) (listed : Array Bool) (a : Act) (w : World),
      (∀ j oj, ops[j]? = some oj → j ≠ i → listed.getD j true = false → (∀ e ∈ oj.after, Region.binds md e = true → e.on ≠ i) → oi.apart ops oj = true) →
      i ∈ Region.ready md ops listed → YieldsIf P ops S oi v a → S w → listed.getD t false = false →
      wpAnyS P md ops Q S t fuel (listed.setIfInBounds i true) (a.put oi.dst v) w → wpAnyS P md ops Q S t (fuel + 1) listed a w := by
  simp only [waits, Bool.and_eq_true, bne_iff_ne, ne_eq] at hw
  obtain ⟨hit, hw⟩ := hw
  intro fuel
  induction fuel with
  | zero =>
    intro listed a w _ hr hy hS ht H
    refine ⟨fun h => (by rw [h] at hr; cases hr), fun j hj => ?_⟩
    by_cases hji : j = i
    · subst hji; exact hy.wpOp hi hS ⟨fun _ => hS, H⟩
    · have := ready_mono hj hji
      rw [H.1] at this
      cases this
  | succ fuel ih =>
    intro listed a w hfree hr hy hS ht H
    refine ⟨fun h => (by rw [h] at hr; cases hr), fun j hj => ?_⟩
    by_cases hji : j = i
    · subst hji; exact hy.wpOp hi hS ⟨fun _ => hS, H⟩
    · have h1 := H.2 j (ready_mono hj hji)
      obtain ⟨hjun, oj, hoj, hall⟩ := mem_ready.1 hj
      have hnot : ∀ e ∈ oj.after, Region.binds md e = true → e.on ≠ i := fun e he hb heq => by
        have h1 := hall e he hb
        have h0 := (mem_ready.1 hr).1
        rw [heq] at h1
        rcases Nat.lt_or_ge i listed.size with h' | h'
        · simp [h'] at h0 h1; rw [h0] at h1; cases h1
        · simp [Array.getElem?_eq_none h'] at h1
      have hjt : j ≠ t := by
        rintro rfl
        rw [hoj] at hw
        obtain ⟨e, he, hb⟩ := Array.any_eq_true'.1 hw
        simp only [Bool.and_eq_true, beq_iff_eq] at hb
        exact hnot e he hb.1 hb.2
      have ht' : (listed.setIfInBounds j true).getD t false = false := by rw [getD_set_ne false hjt]; exact ht
      have h2 := wpOp_putIf hoj (hfree j oj hoj hji hjun hnot) (fun cs b => hsel i oi cs b hi) (fun cs b => hsel j oj cs b hoj) hQ hy h1
      have hfree' : ∀ k ok, ops[k]? = some ok → k ≠ i → (listed.setIfInBounds j true).getD k true = false →
          (∀ e ∈ ok.after, Region.binds md e = true → e.on ≠ i) → oi.apart ops ok = true := fun k ok hk hki hun hno => by
        refine hfree k ok hk hki ?_ hno
        by_cases hjk : j = k
        · subst hjk; exact hjun
        · rw [getD_set_ne true hjk] at hun; exact hun
      have ht2 : ((listed.setIfInBounds i true).setIfInBounds j true).getD t false = false := by rw [getD_set_ne false hjt, getD_set_ne false hit]; exact ht
      refine wpOp_mono (fun a' w' h3 => ⟨fun _ => h3.2.1 ht2, ih (listed.setIfInBounds j true) a' w' hfree' (ready_mono hr (Ne.symm hji)) h3.1 (h3.2.1 ht2) ht' ?_⟩) h2
      rw [Array.setIfInBounds_comm _ _ hji]
      exact h3.2.2
theorem anyS_take {i d n : Nat} {x : Nat → Value} {live : List (Nat × Value)} {dst : Option Nat} {op : Op} {ty : Nat} {pos : String} {aft : Array Edge} {v : Value} {fuel : Nat} {listed : Array Bool} {w : World} (hi : ops[i]? = some ⟨dst, op, ty, pos, aft, none⟩)
    (hs : Region.noSelect ops = true) (hf : Region.free md ops listed i = true) (hr : (Region.ready md ops listed).contains i = true) (hw : waits md ops t i = true) (ht : listed.getD t false = false)
    (hQ : ∀ c a w, Q (.panic c) (a.put dst v) w → Q (.panic c) a w) (hd : dst = some d) (hdn : decide (d < n) = true) (hS : S w) (hy : ∀ W, S W → Rn P ⟨dst, op, ty, pos, aft, none⟩ (actOf n x live) W v)
    (h : wpAnyS P md ops Q S t fuel (listed.setIfInBounds i true) (actOf n x ((d, v) :: live)) w) : wpAnyS P md ops Q S t (fuel + 1) listed (actOf n x live) w := by
  subst hd
  exact anyS_first hi (Region.noSelect_spec hs) hw hQ fuel listed _ w (Region.free_spec hi hf) (by simpa using hr) (.inl ⟨rfl, hy⟩) hS ht (by rw [actOf_put (of_decide_eq_true hdn)]; exact h)
theorem anyS_one {i : Nat} {fuel : Nat} {listed : Array Bool} {a : Act} {w : World} (hr : Region.ready md ops listed = [i])
    (h : wpOp P ops Q i (fun a' w' => ((listed.setIfInBounds i true).getD t false = false → S w') ∧ wpAnyS P md ops Q S t fuel (listed.setIfInBounds i true) a' w') a w) : wpAnyS P md ops Q S t (fuel + 1) listed a w :=
  ⟨fun h0 => (by rw [hr] at h0; cases h0), fun j hj => (by rw [hr] at hj; rw [List.mem_singleton.1 hj]; exact h)⟩
theorem anyS_two {i i2 : Nat} {fuel : Nat} {listed : Array Bool} {a : Act} {w : World} (hr : Region.ready md ops listed = [i, i2])
    (h : wpOp P ops Q i (fun a' w' => ((listed.setIfInBounds i true).getD t false = false → S w') ∧ wpAnyS P md ops Q S t fuel (listed.setIfInBounds i true) a' w') a w)
    (h2 : wpOp P ops Q i2 (fun a' w' => ((listed.setIfInBounds i2 true).getD t false = false → S w') ∧ wpAnyS P md ops Q S t fuel (listed.setIfInBounds i2 true) a' w') a w) : wpAnyS P md ops Q S t (fuel + 1) listed a w :=
  ⟨fun h0 => (by rw [hr] at h0; cases h0), fun j hj => (by
    rw [hr] at hj
    rcases List.mem_cons.1 hj with rfl | hj
    · exact h
    · rw [List.mem_singleton.1 hj]; exact h2)⟩
theorem anyS_three {i i2 i3 : Nat} {fuel : Nat} {listed : Array Bool} {a : Act} {w : World} (hr : Region.ready md ops listed = [i, i2, i3])
    (h : wpOp P ops Q i (fun a' w' => ((listed.setIfInBounds i true).getD t false = false → S w') ∧ wpAnyS P md ops Q S t fuel (listed.setIfInBounds i true) a' w') a w)
    (h2 : wpOp P ops Q i2 (fun a' w' => ((listed.setIfInBounds i2 true).getD t false = false → S w') ∧ wpAnyS P md ops Q S t fuel (listed.setIfInBounds i2 true) a' w') a w)
    (h3 : wpOp P ops Q i3 (fun a' w' => ((listed.setIfInBounds i3 true).getD t false = false → S w') ∧ wpAnyS P md ops Q S t fuel (listed.setIfInBounds i3 true) a' w') a w) : wpAnyS P md ops Q S t (fuel + 1) listed a w :=
  ⟨fun h0 => (by rw [hr] at h0; cases h0), fun j hj => (by
    rw [hr] at hj
    rcases List.mem_cons.1 hj with rfl | hj
    · exact h
    · rcases List.mem_cons.1 hj with rfl | hj
      · exact h2
      · rw [List.mem_singleton.1 hj]; exact h3)⟩
theorem anyS_done {listed : Array Bool} {a : Act} {w : World} (hr : Region.ready md ops listed = []) (h : Q .normal a w) : ∀ fuel, wpAnyS P md ops Q S t fuel listed a w
  | 0 => ⟨hr, h⟩
  | _ + 1 => ⟨fun _ => h, by rw [hr]; simp⟩
theorem reg_draw {id : Nat} {a : Act} {w : World} (S : World → Prop) (t : Nat) (hm : P.follows .mixedOrders = true) (h : wpAnyS P .any ops Q S t ops.size (Array.replicate ops.size false) a w.drew) : (Code.region id ops true).wp P Q a w :=
  wp_region_any hm (wpAny_of_S _ _ _ _ h)
end
end Go.Proofs.YtfnedoiplblldaaSep

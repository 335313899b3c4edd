/- What a datum that can be read says of the kinds: each readable value of a plain type is of its kind, with the bounds that reading gives. No conditions. -/
import Derived.Deep.Slices
import Derived.ChangeArms
import Derived.WideShapes
import Derived.Test.YtfnedoiplblldaaSep2
namespace Go.Proofs.YtfnedoiplblldaaOpen
open Go.ChangeShapes Go.WideShapes Go.Proofs.YtfnedoiplblldaaSep

/-- What is read at type t is of the kind d, and G is so of it. -/
structure Opens {α : Type} (P : Program) (t : TypeId) (d : Kn α) (G : α → Prop) : Prop where
  out : ∀ {H : Type} (enc : TypeId × Value → H) (w : World) (base : Nat) (spare : Nat → Bool) (held : Bool) (fuel : Nat) (cs : List Value) (x : DataW H × List MemPlace),
    DataW.trod enc P w base spare held fuel t cs = some x → ∃ v, d.K w v cs ∧ G v

/-- The same of fields in a row, of which the first begins at off. -/
structure OpensFs {α : Type} (P : Program) (fs : List Field) (off : Nat) (d : Kn α) (G : α → Prop) : Prop where
  out : ∀ {H : Type} (enc : TypeId × Value → H) (w : World) (base : Nat) (spare : Nat → Bool) (held : Bool) (fuel : Nat) (cs : List Value), cs.length = off + d.sz →
    (∀ f ∈ fs, ∃ x, DataW.trod enc P w base spare held fuel f.type ((cs.drop f.offset).take (P.cellsOf f.type)) = some x) → ∃ v, d.K w v (cs.drop off) ∧ G v

section
variable {P : Program} {t e : TypeId}

theorem opens_int (ht : P.underlying t = some (.int .i64)) : Opens P t Kn.int (fun n => (Lit.int .i64 n).wf = true) := by
  refine ⟨?_⟩
  intro H enc w base spare held fuel cs x h
  obtain ⟨n, rfl, _, hw⟩ := DataW.trod_int ht h
  exact ⟨n, rfl, hw⟩
theorem opens_bool (ht : P.underlying t = some .bool) : Opens P t Kn.bool (fun _ => True) := by
  refine ⟨?_⟩
  intro H enc w base spare held fuel cs x h
  obtain ⟨n, rfl, _⟩ := DataW.trod_bool ht h
  exact ⟨n, rfl, trivial⟩
theorem opens_string (ht : P.underlying t = some .string) : Opens P t Kn.string (fun s => s.size ≤ 9223372036854775807) := by
  refine ⟨?_⟩
  intro H enc w base spare held fuel cs x h
  obtain ⟨s, rfl, _, hw⟩ := DataW.trod_string ht h
  exact ⟨s, rfl, by simpa [maxLen] using hw⟩
theorem opens_slice {α : Type} {d : Kn α} {G : α → Prop} (z : α) (ht : P.underlying t = some (.slice e)) (hc : P.cellsOf e = d.sz) (he : Opens P e d G) :
    Opens P t (Kn.slice e d) (fun l => l.length ≤ 9223372036854775807 ∧ ∀ x ∈ l, G x) := by
  refine ⟨?_⟩
  intro H enc w base spare held fuel cs x h
  rcases Go.Deep.open_slice ht h with ⟨rfl, _⟩ | ⟨a, len, cap, m, n, D, Pl, rfl, _, hl, hm, hmm, _, hx⟩
  · exact ⟨[], ⟨none, 0, rfl, Nat.le_refl _, by simp, fun h => absurd h (Nat.lt_irrefl 0)⟩, by simp, by simp⟩
  have hle : len ≤ m := by rw [hmm]; split <;> omega
  have hm' : cap ≤ 9223372036854775807 := by simpa [maxLen] using hm
  haveI : Inhabited α := ⟨z⟩
  obtain ⟨V, hV⟩ := Go.Deep.choose_lt (α := α) (n := len) (p := fun i v => ∃ cs', w.cells? base (a.add (i * P.cellsOf e)) (P.cellsOf e) = some cs' ∧ d.K w v cs' ∧ G v) (fun i hi => by
    obtain ⟨cs', h1, h2⟩ := hx i (by omega)
    obtain ⟨v, hk, hg⟩ := he.out enc w base spare held n cs' _ h2
    exact ⟨v, cs', h1, hk, hg⟩)
  have hlen : ((List.range len).map V).length = len := by simp
  refine ⟨(List.range len).map V, ⟨some a, cap, by rw [hlen], by rw [hlen]; exact hl, by rw [hlen]; omega, fun _ => ⟨a, rfl, fun j p hj => ?_⟩⟩, by rw [hlen]; omega, ?_⟩
  · obtain ⟨hj1, hj2⟩ := List.getElem?_eq_some_iff.1 hj
    have hj3 : j < len := by rw [hlen] at hj1; exact hj1
    have hp : V j = p := by simpa using hj2
    subst hp
    obtain ⟨cs', h1, hk, _⟩ := hV j hj3
    rw [hc] at h1
    obtain ⟨_, h2, h3⟩ := World.cells?_some h1
    refine ⟨cs', hk, fun i u hu => ?_⟩
    have hi : i < d.sz := by rw [← h2]; exact (List.getElem?_eq_some_iff.1 hu).1
    have := h3 i hi
    rw [hu, Go.Deep.add_add] at this
    exact this
  · intro x hx
    obtain ⟨j, hj, rfl⟩ := List.mem_map.1 hx
    obtain ⟨_, _, _, hg⟩ := hV j (List.mem_range.1 hj)
    exact hg
theorem opens_iso {α β : Type} {d : Kn α} {G : α → Prop} (f : β → α) (g : α → β) (hfg : ∀ y, f (g y) = y) (h : Opens P t d G) : Opens P t (Kn.iso d f) (fun x => G (f x)) := by
  refine ⟨?_⟩
  intro H enc w base spare held fuel cs x hx
  obtain ⟨v, hk, hg⟩ := h.out enc w base spare held fuel cs x hx
  refine ⟨g v, ?_, ?_⟩
  · show d.K w (f (g v)) cs
    rw [hfg]
    exact hk
  · show G (f (g v))
    rw [hfg]
    exact hg
theorem opensFs_one {α : Type} {d : Kn α} {G : α → Prop} {f : Field} {off : Nat} (ho : f.offset = off) (hc : P.cellsOf f.type = d.sz) (h : Opens P f.type d G) : OpensFs P [f] off d G := by
  refine ⟨?_⟩
  intro H enc w base spare held fuel cs hl hf
  obtain ⟨x, hx⟩ := hf f (List.mem_singleton.2 rfl)
  rw [hc, ho, List.take_of_length_le (by rw [List.length_drop]; omega)] at hx
  exact h.out enc w base spare held fuel _ x hx
theorem opensFs_cons {α β : Type} {a : Kn α} {b : Kn β} {G : α → Prop} {G' : β → Prop} {f : Field} {fs : List Field} {off : Nat} (ho : f.offset = off) (hc : P.cellsOf f.type = a.sz) (h : Opens P f.type a G)
    (h' : OpensFs P fs (off + a.sz) b G') : OpensFs P (f :: fs) off (Kn.pair a b) (fun x => G x.1 ∧ G' x.2) := by
  refine ⟨?_⟩
  intro H enc w base spare held fuel cs hl hf
  have hl' : cs.length = off + (a.sz + b.sz) := hl
  obtain ⟨x, hx⟩ := hf f List.mem_cons_self
  rw [hc, ho] at hx
  obtain ⟨v, hk, hg⟩ := h.out enc w base spare held fuel _ x hx
  obtain ⟨v', hk', hg'⟩ := h'.out enc w base spare held fuel cs (by omega) (fun f hm => hf f (List.mem_cons_of_mem _ hm))
  exact ⟨(v, v'), ⟨_, _, by rw [← List.drop_drop]; exact (List.take_append_drop _ _).symm, hk, hk'⟩, hg, hg'⟩
theorem opens_struct {α : Type} {d : Kn α} {G : α → Prop} {fs : List Field} (ht : P.underlying t = some (.struct fs.toArray)) (hc : P.cellsOf t = d.sz) (h : OpensFs P fs 0 d G) : Opens P t d G := by
  refine ⟨?_⟩
  intro H enc w base spare held fuel cs x hx
  obtain ⟨xs, n, _, _, hl, hlen, hf⟩ := DataW.trod_struct ht hx
  refine h.out enc w base spare held n cs (by rw [hl, hc, Nat.zero_add]) (fun f hm => ?_)
  obtain ⟨i, hi, rfl⟩ := List.mem_iff_getElem.1 hm
  have h1 := hf i fs[i] (by simp [hi])
  have hi' : i < xs.length := by rw [hlen]; simpa using hi
  exact ⟨xs[i], by rw [h1, List.getElem?_eq_getElem hi']⟩

/-- An argument that is a slice. -/
theorem arg_slice {H : Type} {enc : TypeId × Value → H} {w : World} {base : Nat} {spare : Nat → Bool} {held : Bool} {α : Type} {d : Kn α} {G : List α → Prop} {a : Option Addr} {len cap : Nat} {dd : DataW H} {ps : List MemPlace}
    (h : Opens P t (Kn.slice e d) G) (hd : DataW.Trod enc P w base spare held t (.slice a len cap) dd ps) :
    ∃ l : List α, len = l.length ∧ l.length ≤ cap ∧ C d w a l ∧ G l := by
  obtain ⟨fuel, hf⟩ := hd
  obtain ⟨l, ⟨A, c, he, hl, hC⟩, hg⟩ := h.out enc w base spare held fuel _ _ hf
  simp [Value.cells] at he
  obtain ⟨rfl, rfl, rfl⟩ := he
  exact ⟨l, rfl, hl, hC, hg⟩
/-- An argument that is a struct. -/
theorem arg_struct {H : Type} {enc : TypeId × Value → H} {w : World} {base : Nat} {spare : Nat → Bool} {held : Bool} {α : Type} {d : Kn α} {G : α → Prop} {cs : Array Value} {dd : DataW H} {ps : List MemPlace}
    (h : Opens P t d G) (hd : DataW.Trod enc P w base spare held t (.agg cs) dd ps) : ∃ x : α, d.K w x cs.toList ∧ G x := by
  obtain ⟨fuel, hf⟩ := hd
  exact h.out enc w base spare held fuel _ _ hf
end
end Go.Proofs.YtfnedoiplblldaaOpen

/- The kinds of the program's types, on the laws' side (kl) and the program's (ki): opened and put together. No conditions. -/
import Derived.Test.YtelgpkjmkfjiiaaProg
import Derived.Test.YtelgpkjmkfjiiaaT
import Derived.KernelRfl
namespace Go.Proofs.YtelgpkjmkfjiiaaK
open Go.RowKit Go.Proofs.YtelgpkjmkfjiiaaSep Go.Proofs.YtelgpkjmkfjiiaaT
def kl_Value : Kn GValue := Kn.iso (Kn.pair Kn.int Kn.int) (fun x => (x.Kind, x.N))
theorem kl_Value_K {w : World} {x : GValue} {cs : List Value} (h : kl_Value.K w x cs) : cs = [.int .i64 x.Kind, .int .i64 x.N] := by
  obtain ⟨_, _, rfl, rfl, rfl⟩ := h
  exact rfl
theorem kl_Value_at {w : World} {A : Option Addr} {l : List GValue} (h : C kl_Value w A l) (i : Nat) (hi : i < l.length) : ∃ (ad : Addr), A = some ad ∧ w.cell? (ad.add (i * 2)) = some (.int .i64 l[i].Kind) ∧ w.cell? ⟨(ad.add (i * 2)).block, (ad.add (i * 2)).off + 1, none⟩ = some (.int .i64 l[i].N) := by
  obtain ⟨ad, c, h1, h2, h3, h4⟩ := C_at h i hi
  obtain rfl := kl_Value_K h2
  exact ⟨ad, h1, h3 _ rfl, h4 0 _ rfl⟩
def ki_Value : Kn GValue := Kn.iso (Kn.pair Kn.int Kn.int) (fun x => (x.Kind, x.N))
theorem ki_Value_K {w : World} {x : GValue} {cs : List Value} (h : ki_Value.K w x cs) : cs = [.int .i64 x.Kind, .int .i64 x.N] := by
  obtain ⟨_, _, rfl, rfl, rfl⟩ := h
  exact rfl
theorem ki_Value_at {w : World} {A : Option Addr} {l : List GValue} (h : C ki_Value w A l) (i : Nat) (hi : i < l.length) : ∃ (ad : Addr), A = some ad ∧ w.cell? (ad.add (i * 2)) = some (.int .i64 l[i].Kind) ∧ w.cell? ⟨(ad.add (i * 2)).block, (ad.add (i * 2)).off + 1, none⟩ = some (.int .i64 l[i].N) := by
  obtain ⟨ad, c, h1, h2, h3, h4⟩ := C_at h i hi
  obtain rfl := ki_Value_K h2
  exact ⟨ad, h1, h3 _ rfl, h4 0 _ rfl⟩
theorem ki_Value_M {w : World} {F : Nat → Prop} {x : GValue} {cs : List Value} (h : ki_Value.M w F x cs) : cs = [.int .i64 x.Kind, .int .i64 x.N] := by
  exact ki_Value_K (ki_Value.K_of_M h)
theorem ki_Value_mk (w : World) (F : Nat → Prop) (x : GValue) : ki_Value.M w F x [.int .i64 x.Kind, .int .i64 x.N] :=
  ⟨[_], [_], No, No, rfl, rfl, rfl, fun _ h => h.elim, fun _ h => h.elim, fun _ h => h.elim⟩
theorem ki_Value_info : (Try.prog.info? 77).map (fun i => (i.zero, i.size, i.bytes)) = some (some (.agg #[.int .i64 0, .int .i64 0]), 2, 16) := by kernel_rfl
theorem ki_Value_zero (w : World) : ki_Value.M w No zValue [.int .i64 0, .int .i64 0] := ki_Value_mk w No zValue
def kl_Event : Kn GEvent := Kn.iso (Kn.pair Kn.int (Kn.pair Kn.int (Kn.pair Kn.int (Kn.pair Kn.int (Kn.pair Kn.string (Kn.slice 79 kl_Value)))))) (fun x => (x.Kind, x.A, x.B, x.N, x.Name, x.Args))
theorem kl_Event_K {w : World} {x : GEvent} {cs : List Value} (h : kl_Event.K w x cs) : ∃ (A5 : Option Addr) (c5 : Nat), cs = [.int .i64 x.Kind, .int .i64 x.A, .int .i64 x.B, .int .i64 x.N, .string x.Name, .slice A5 x.Args.length c5] ∧ x.Args.length ≤ c5 ∧ C kl_Value w A5 x.Args := by
  obtain ⟨_, _, rfl, rfl, ⟨_, _, rfl, rfl, ⟨_, _, rfl, rfl, ⟨_, _, rfl, rfl, ⟨_, _, rfl, rfl, ⟨A5, c5, rfl, hl5, hC5⟩⟩⟩⟩⟩⟩ := h
  exact ⟨A5, c5, rfl, hl5, hC5⟩
theorem kl_Event_at {w : World} {A : Option Addr} {l : List GEvent} (h : C kl_Event w A l) (i : Nat) (hi : i < l.length) : ∃ (ad : Addr) (A5 : Option Addr) (c5 : Nat), A = some ad ∧ w.cell? (ad.add (i * 6)) = some (.int .i64 l[i].Kind) ∧ w.cell? ⟨(ad.add (i * 6)).block, (ad.add (i * 6)).off + 1, none⟩ = some (.int .i64 l[i].A) ∧ w.cell? ⟨(ad.add (i * 6)).block, (ad.add (i * 6)).off + 2, none⟩ = some (.int .i64 l[i].B) ∧ w.cell? ⟨(ad.add (i * 6)).block, (ad.add (i * 6)).off + 3, none⟩ = some (.int .i64 l[i].N) ∧ w.cell? ⟨(ad.add (i * 6)).block, (ad.add (i * 6)).off + 4, none⟩ = some (.string l[i].Name) ∧ w.cell? ⟨(ad.add (i * 6)).block, (ad.add (i * 6)).off + 5, none⟩ = some (.slice A5 l[i].Args.length c5) ∧ l[i].Args.length ≤ c5 ∧ C kl_Value w A5 l[i].Args := by
  obtain ⟨ad, c, h1, h2, h3, h4⟩ := C_at h i hi
  obtain ⟨A5, c5, rfl, hl5, hC5⟩ := kl_Event_K h2
  exact ⟨ad, A5, c5, h1, h3 _ rfl, h4 0 _ rfl, h4 1 _ rfl, h4 2 _ rfl, h4 3 _ rfl, h4 4 _ rfl, hl5, hC5⟩
def ki_Event : Kn GEvent := Kn.iso (Kn.pair Kn.int (Kn.pair Kn.int (Kn.pair Kn.int (Kn.pair Kn.int (Kn.pair Kn.string (Kn.slice 77 ki_Value)))))) (fun x => (x.Kind, x.A, x.B, x.N, x.Name, x.Args))
theorem ki_Event_K {w : World} {x : GEvent} {cs : List Value} (h : ki_Event.K w x cs) : ∃ (A5 : Option Addr) (c5 : Nat), cs = [.int .i64 x.Kind, .int .i64 x.A, .int .i64 x.B, .int .i64 x.N, .string x.Name, .slice A5 x.Args.length c5] ∧ x.Args.length ≤ c5 ∧ C ki_Value w A5 x.Args := by
  obtain ⟨_, _, rfl, rfl, ⟨_, _, rfl, rfl, ⟨_, _, rfl, rfl, ⟨_, _, rfl, rfl, ⟨_, _, rfl, rfl, ⟨A5, c5, rfl, hl5, hC5⟩⟩⟩⟩⟩⟩ := h
  exact ⟨A5, c5, rfl, hl5, hC5⟩
theorem ki_Event_at {w : World} {A : Option Addr} {l : List GEvent} (h : C ki_Event w A l) (i : Nat) (hi : i < l.length) : ∃ (ad : Addr) (A5 : Option Addr) (c5 : Nat), A = some ad ∧ w.cell? (ad.add (i * 6)) = some (.int .i64 l[i].Kind) ∧ w.cell? ⟨(ad.add (i * 6)).block, (ad.add (i * 6)).off + 1, none⟩ = some (.int .i64 l[i].A) ∧ w.cell? ⟨(ad.add (i * 6)).block, (ad.add (i * 6)).off + 2, none⟩ = some (.int .i64 l[i].B) ∧ w.cell? ⟨(ad.add (i * 6)).block, (ad.add (i * 6)).off + 3, none⟩ = some (.int .i64 l[i].N) ∧ w.cell? ⟨(ad.add (i * 6)).block, (ad.add (i * 6)).off + 4, none⟩ = some (.string l[i].Name) ∧ w.cell? ⟨(ad.add (i * 6)).block, (ad.add (i * 6)).off + 5, none⟩ = some (.slice A5 l[i].Args.length c5) ∧ l[i].Args.length ≤ c5 ∧ C ki_Value w A5 l[i].Args := by
  obtain ⟨ad, c, h1, h2, h3, h4⟩ := C_at h i hi
  obtain ⟨A5, c5, rfl, hl5, hC5⟩ := ki_Event_K h2
  exact ⟨ad, A5, c5, h1, h3 _ rfl, h4 0 _ rfl, h4 1 _ rfl, h4 2 _ rfl, h4 3 _ rfl, h4 4 _ rfl, hl5, hC5⟩
theorem ki_Event_M {w : World} {F : Nat → Prop} {x : GEvent} {cs : List Value} (h : ki_Event.M w F x cs) : ∃ (v5 : Value) (P5 : Nat → Prop), cs = [.int .i64 x.Kind, .int .i64 x.A, .int .i64 x.B, .int .i64 x.N, .string x.Name, v5] ∧ R ki_Value 77 w P5 v5 x.Args ∧ (∀ k, P5 k → F k) := by
  obtain ⟨_, _, F0, G0, rfl, rfl, ⟨_, _, F1, G1, rfl, rfl, ⟨_, _, F2, G2, rfl, rfl, ⟨_, _, F3, G3, rfl, rfl, ⟨_, _, F4, G4, rfl, rfl, ⟨v5, rfl, hR5⟩, a4, b4, d4⟩, a3, b3, d3⟩, a2, b2, d2⟩, a1, b1, d1⟩, a0, b0, d0⟩ := h
  exact ⟨v5, G4, rfl, hR5, fun k hk => (b0 k (b1 k (b2 k (b3 k (b4 k hk)))))⟩
theorem ki_Event_mk (w : World) (F : Nat → Prop) (x : GEvent) {v5 : Value} {P5 : Nat → Prop} (h5 : R ki_Value 77 w P5 v5 x.Args) (i5 : ∀ k, P5 k → F k) : ki_Event.M w F x [.int .i64 x.Kind, .int .i64 x.A, .int .i64 x.B, .int .i64 x.N, .string x.Name, v5] :=
  ⟨[_], [_, _, _, _, _], No, P5, rfl, rfl, ⟨[_], [_, _, _, _], No, P5, rfl, rfl, ⟨[_], [_, _, _], No, P5, rfl, rfl, ⟨[_], [_, _], No, P5, rfl, rfl, ⟨[_], [_], No, P5, rfl, rfl, ⟨_, rfl, h5⟩, fun _ h => h.elim, fun _ h => h, fun _ h => h.elim⟩, fun _ h => h.elim, fun _ h => h, fun _ h => h.elim⟩, fun _ h => h.elim, fun _ h => h, fun _ h => h.elim⟩, fun _ h => h.elim, fun _ h => h, fun _ h => h.elim⟩, fun _ h => h.elim, i5, fun _ h => h.elim⟩
theorem ki_Event_info : (Try.prog.info? 69).map (fun i => (i.zero, i.size, i.bytes)) = some (some (.agg #[.int .i64 0, .int .i64 0, .int .i64 0, .int .i64 0, .string ⟨#[]⟩, .slice none 0 0]), 6, 72) := by kernel_rfl
theorem ki_Event_zero (w : World) : ki_Event.M w No zEvent [.int .i64 0, .int .i64 0, .int .i64 0, .int .i64 0, .string ⟨#[]⟩, .slice none 0 0] := ki_Event_mk w No zEvent (P5 := No) R_nil (fun _ h => h)
def kl_Tag : Kn GTag := Kn.iso (Kn.pair Kn.int (Kn.pair Kn.int Kn.int)) (fun x => (x.Vat, x.Entity, x.Seq))
theorem kl_Tag_K {w : World} {x : GTag} {cs : List Value} (h : kl_Tag.K w x cs) : cs = [.int .i64 x.Vat, .int .i64 x.Entity, .int .i64 x.Seq] := by
  obtain ⟨_, _, rfl, rfl, ⟨_, _, rfl, rfl, rfl⟩⟩ := h
  exact rfl
theorem kl_Tag_at {w : World} {A : Option Addr} {l : List GTag} (h : C kl_Tag w A l) (i : Nat) (hi : i < l.length) : ∃ (ad : Addr), A = some ad ∧ w.cell? (ad.add (i * 3)) = some (.int .i64 l[i].Vat) ∧ w.cell? ⟨(ad.add (i * 3)).block, (ad.add (i * 3)).off + 1, none⟩ = some (.int .i64 l[i].Entity) ∧ w.cell? ⟨(ad.add (i * 3)).block, (ad.add (i * 3)).off + 2, none⟩ = some (.int .i64 l[i].Seq) := by
  obtain ⟨ad, c, h1, h2, h3, h4⟩ := C_at h i hi
  obtain rfl := kl_Tag_K h2
  exact ⟨ad, h1, h3 _ rfl, h4 0 _ rfl, h4 1 _ rfl⟩
def ki_Tag : Kn GTag := Kn.iso (Kn.pair Kn.int (Kn.pair Kn.int Kn.int)) (fun x => (x.Vat, x.Entity, x.Seq))
theorem ki_Tag_K {w : World} {x : GTag} {cs : List Value} (h : ki_Tag.K w x cs) : cs = [.int .i64 x.Vat, .int .i64 x.Entity, .int .i64 x.Seq] := by
  obtain ⟨_, _, rfl, rfl, ⟨_, _, rfl, rfl, rfl⟩⟩ := h
  exact rfl
theorem ki_Tag_at {w : World} {A : Option Addr} {l : List GTag} (h : C ki_Tag w A l) (i : Nat) (hi : i < l.length) : ∃ (ad : Addr), A = some ad ∧ w.cell? (ad.add (i * 3)) = some (.int .i64 l[i].Vat) ∧ w.cell? ⟨(ad.add (i * 3)).block, (ad.add (i * 3)).off + 1, none⟩ = some (.int .i64 l[i].Entity) ∧ w.cell? ⟨(ad.add (i * 3)).block, (ad.add (i * 3)).off + 2, none⟩ = some (.int .i64 l[i].Seq) := by
  obtain ⟨ad, c, h1, h2, h3, h4⟩ := C_at h i hi
  obtain rfl := ki_Tag_K h2
  exact ⟨ad, h1, h3 _ rfl, h4 0 _ rfl, h4 1 _ rfl⟩
theorem ki_Tag_M {w : World} {F : Nat → Prop} {x : GTag} {cs : List Value} (h : ki_Tag.M w F x cs) : cs = [.int .i64 x.Vat, .int .i64 x.Entity, .int .i64 x.Seq] := by
  exact ki_Tag_K (ki_Tag.K_of_M h)
theorem ki_Tag_mk (w : World) (F : Nat → Prop) (x : GTag) : ki_Tag.M w F x [.int .i64 x.Vat, .int .i64 x.Entity, .int .i64 x.Seq] :=
  ⟨[_], [_, _], No, No, rfl, rfl, ⟨[_], [_], No, No, rfl, rfl, rfl, fun _ h => h.elim, fun _ h => h.elim, fun _ h => h.elim⟩, fun _ h => h.elim, fun _ h => h.elim, fun _ h => h.elim⟩
theorem ki_Tag_info : (Try.prog.info? 37).map (fun i => (i.zero, i.size, i.bytes)) = some (some (.agg #[.int .i64 0, .int .i64 0, .int .i64 0]), 3, 24) := by kernel_rfl
theorem ki_Tag_zero (w : World) : ki_Tag.M w No zTag [.int .i64 0, .int .i64 0, .int .i64 0] := ki_Tag_mk w No zTag
def kl_Note : Kn GNote := Kn.iso (Kn.pair Kn.int (Kn.pair Kn.int (Kn.pair Kn.int kl_Tag))) (fun x => (x.Kind, x.Vat, x.Entity, x.Tag))
theorem kl_Note_K {w : World} {x : GNote} {cs : List Value} (h : kl_Note.K w x cs) : cs = [.int .i64 x.Kind, .int .i64 x.Vat, .int .i64 x.Entity, .int .i64 x.Tag.Vat, .int .i64 x.Tag.Entity, .int .i64 x.Tag.Seq] := by
  obtain ⟨_, _, rfl, rfl, ⟨_, _, rfl, rfl, ⟨_, _, rfl, rfl, s_Tag⟩⟩⟩ := h
  obtain rfl := kl_Tag_K s_Tag
  exact rfl
theorem kl_Note_at {w : World} {A : Option Addr} {l : List GNote} (h : C kl_Note w A l) (i : Nat) (hi : i < l.length) : ∃ (ad : Addr), A = some ad ∧ w.cell? (ad.add (i * 6)) = some (.int .i64 l[i].Kind) ∧ w.cell? ⟨(ad.add (i * 6)).block, (ad.add (i * 6)).off + 1, none⟩ = some (.int .i64 l[i].Vat) ∧ w.cell? ⟨(ad.add (i * 6)).block, (ad.add (i * 6)).off + 2, none⟩ = some (.int .i64 l[i].Entity) ∧ w.cell? ⟨(ad.add (i * 6)).block, (ad.add (i * 6)).off + 3, none⟩ = some (.int .i64 l[i].Tag.Vat) ∧ w.cell? ⟨(ad.add (i * 6)).block, (ad.add (i * 6)).off + 4, none⟩ = some (.int .i64 l[i].Tag.Entity) ∧ w.cell? ⟨(ad.add (i * 6)).block, (ad.add (i * 6)).off + 5, none⟩ = some (.int .i64 l[i].Tag.Seq) := by
  obtain ⟨ad, c, h1, h2, h3, h4⟩ := C_at h i hi
  obtain rfl := kl_Note_K h2
  exact ⟨ad, h1, h3 _ rfl, h4 0 _ rfl, h4 1 _ rfl, h4 2 _ rfl, h4 3 _ rfl, h4 4 _ rfl⟩
def ki_Note : Kn GNote := Kn.iso (Kn.pair Kn.int (Kn.pair Kn.int (Kn.pair Kn.int ki_Tag))) (fun x => (x.Kind, x.Vat, x.Entity, x.Tag))
theorem ki_Note_K {w : World} {x : GNote} {cs : List Value} (h : ki_Note.K w x cs) : cs = [.int .i64 x.Kind, .int .i64 x.Vat, .int .i64 x.Entity, .int .i64 x.Tag.Vat, .int .i64 x.Tag.Entity, .int .i64 x.Tag.Seq] := by
  obtain ⟨_, _, rfl, rfl, ⟨_, _, rfl, rfl, ⟨_, _, rfl, rfl, s_Tag⟩⟩⟩ := h
  obtain rfl := ki_Tag_K s_Tag
  exact rfl
theorem ki_Note_at {w : World} {A : Option Addr} {l : List GNote} (h : C ki_Note w A l) (i : Nat) (hi : i < l.length) : ∃ (ad : Addr), A = some ad ∧ w.cell? (ad.add (i * 6)) = some (.int .i64 l[i].Kind) ∧ w.cell? ⟨(ad.add (i * 6)).block, (ad.add (i * 6)).off + 1, none⟩ = some (.int .i64 l[i].Vat) ∧ w.cell? ⟨(ad.add (i * 6)).block, (ad.add (i * 6)).off + 2, none⟩ = some (.int .i64 l[i].Entity) ∧ w.cell? ⟨(ad.add (i * 6)).block, (ad.add (i * 6)).off + 3, none⟩ = some (.int .i64 l[i].Tag.Vat) ∧ w.cell? ⟨(ad.add (i * 6)).block, (ad.add (i * 6)).off + 4, none⟩ = some (.int .i64 l[i].Tag.Entity) ∧ w.cell? ⟨(ad.add (i * 6)).block, (ad.add (i * 6)).off + 5, none⟩ = some (.int .i64 l[i].Tag.Seq) := by
  obtain ⟨ad, c, h1, h2, h3, h4⟩ := C_at h i hi
  obtain rfl := ki_Note_K h2
  exact ⟨ad, h1, h3 _ rfl, h4 0 _ rfl, h4 1 _ rfl, h4 2 _ rfl, h4 3 _ rfl, h4 4 _ rfl⟩
theorem ki_Note_M {w : World} {F : Nat → Prop} {x : GNote} {cs : List Value} (h : ki_Note.M w F x cs) : cs = [.int .i64 x.Kind, .int .i64 x.Vat, .int .i64 x.Entity, .int .i64 x.Tag.Vat, .int .i64 x.Tag.Entity, .int .i64 x.Tag.Seq] := by
  exact ki_Note_K (ki_Note.K_of_M h)
theorem ki_Note_mk (w : World) (F : Nat → Prop) (x : GNote) : ki_Note.M w F x [.int .i64 x.Kind, .int .i64 x.Vat, .int .i64 x.Entity, .int .i64 x.Tag.Vat, .int .i64 x.Tag.Entity, .int .i64 x.Tag.Seq] :=
  ⟨[_], [_, _, _, _, _], No, No, rfl, rfl, ⟨[_], [_, _, _, _], No, No, rfl, rfl, ⟨[_], [_, _, _], No, No, rfl, rfl, (ki_Tag_mk w No _), fun _ h => h.elim, fun _ h => h.elim, fun _ h => h.elim⟩, fun _ h => h.elim, fun _ h => h.elim, fun _ h => h.elim⟩, fun _ h => h.elim, fun _ h => h.elim, fun _ h => h.elim⟩
theorem ki_Note_info : (Try.prog.info? 56).map (fun i => (i.zero, i.size, i.bytes)) = some (some (.agg #[.int .i64 0, .int .i64 0, .int .i64 0, .int .i64 0, .int .i64 0, .int .i64 0]), 6, 48) := by kernel_rfl
theorem ki_Note_zero (w : World) : ki_Note.M w No zNote [.int .i64 0, .int .i64 0, .int .i64 0, .int .i64 0, .int .i64 0, .int .i64 0] := ki_Note_mk w No zNote
end Go.Proofs.YtelgpkjmkfjiiaaK

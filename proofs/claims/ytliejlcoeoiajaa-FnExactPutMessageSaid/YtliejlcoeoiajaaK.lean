/- The kinds of the program's types, on the laws' side (kl) and the program's (ki): opened and put together. No conditions. -/
import Derived.Test.YtliejlcoeoiajaaProg
import Derived.Test.YtliejlcoeoiajaaT
import Derived.KernelRfl
namespace Go.Proofs.YtliejlcoeoiajaaK
open Go.RowKit Go.Proofs.YtliejlcoeoiajaaSep Go.Proofs.YtliejlcoeoiajaaT
def kl_Wire : Kn GWire := Kn.iso (Kn.pair Kn.int Kn.int) (fun x => (x.Kind, x.N))
theorem kl_Wire_K {w : World} {x : GWire} {cs : List Value} (h : kl_Wire.K w x cs) : cs = [.int .i64 x.Kind, .int .i64 x.N] := by
  obtain ⟨_, _, rfl, rfl, rfl⟩ := h
  exact rfl
theorem kl_Wire_at {w : World} {A : Option Addr} {l : List GWire} (h : C kl_Wire w A l) (i : Nat) (hi : i < l.length) : ∃ (ad : Addr), A = some ad ∧ w.cell? (ad.add (i * 2)) = some (.int .i64 l[i].Kind) ∧ w.cell? ⟨(ad.add (i * 2)).block, (ad.add (i * 2)).off + 1, none⟩ = some (.int .i64 l[i].N) := by
  obtain ⟨ad, c, h1, h2, h3, h4⟩ := C_at h i hi
  obtain rfl := kl_Wire_K h2
  exact ⟨ad, h1, h3 _ rfl, h4 0 _ rfl⟩
def ki_Wire : Kn GWire := Kn.iso (Kn.pair Kn.int Kn.int) (fun x => (x.Kind, x.N))
theorem ki_Wire_K {w : World} {x : GWire} {cs : List Value} (h : ki_Wire.K w x cs) : cs = [.int .i64 x.Kind, .int .i64 x.N] := by
  obtain ⟨_, _, rfl, rfl, rfl⟩ := h
  exact rfl
theorem ki_Wire_at {w : World} {A : Option Addr} {l : List GWire} (h : C ki_Wire w A l) (i : Nat) (hi : i < l.length) : ∃ (ad : Addr), A = some ad ∧ w.cell? (ad.add (i * 2)) = some (.int .i64 l[i].Kind) ∧ w.cell? ⟨(ad.add (i * 2)).block, (ad.add (i * 2)).off + 1, none⟩ = some (.int .i64 l[i].N) := by
  obtain ⟨ad, c, h1, h2, h3, h4⟩ := C_at h i hi
  obtain rfl := ki_Wire_K h2
  exact ⟨ad, h1, h3 _ rfl, h4 0 _ rfl⟩
theorem ki_Wire_M {w : World} {F : Nat → Prop} {x : GWire} {cs : List Value} (h : ki_Wire.M w F x cs) : cs = [.int .i64 x.Kind, .int .i64 x.N] := by
  exact ki_Wire_K (ki_Wire.K_of_M h)
theorem ki_Wire_mk (w : World) (F : Nat → Prop) (x : GWire) : ki_Wire.M w F x [.int .i64 x.Kind, .int .i64 x.N] :=
  ⟨[_], [_], No, No, rfl, rfl, rfl, fun _ h => h.elim, fun _ h => h.elim, fun _ h => h.elim⟩
theorem ki_Wire_info : (Try.prog.info? 42).map (fun i => (i.zero, i.size, i.bytes)) = some (some (.agg #[.int .i64 0, .int .i64 0]), 2, 16) := by kernel_rfl
theorem ki_Wire_zero (w : World) : ki_Wire.M w No zWire [.int .i64 0, .int .i64 0] := ki_Wire_mk w No zWire
def kl_Tag : Kn GTag := Kn.iso (Kn.pair Kn.int (Kn.pair Kn.int Kn.int)) (fun x => (x.Vat, x.Entity, x.Seq))
theorem kl_Tag_K {w : World} {x : GTag} {cs : List Value} (h : kl_Tag.K w x cs) : cs = [.int .i64 x.Vat, .int .i64 x.Entity, .int .i64 x.Seq] := by
  obtain ⟨_, _, rfl, rfl, ⟨_, _, rfl, rfl, rfl⟩⟩ := h
  exact rfl
theorem kl_Tag_at {w : World} {A : Option Addr} {l : List GTag} (h : C kl_Tag w A l) (i : Nat) (hi : i < l.length) : ∃ (ad : Addr), A = some ad ∧ w.cell? (ad.add (i * 3)) = some (.int .i64 l[i].Vat) ∧ w.cell? ⟨(ad.add (i * 3)).block, (ad.add (i * 3)).off + 1, none⟩ = some (.int .i64 l[i].Entity) ∧ w.cell? ⟨(ad.add (i * 3)).block, (ad.add (i * 3)).off + 2, none⟩ = some (.int .i64 l[i].Seq) := by
  obtain ⟨ad, c, h1, h2, h3, h4⟩ := C_at h i hi
  obtain rfl := kl_Tag_K h2
  exact ⟨ad, h1, h3 _ rfl, h4 0 _ rfl, h4 1 _ rfl⟩
def ki_Tag : Kn GTag := Kn.iso (Kn.pair Kn.int (Kn.pair Kn.int Kn.int)) (fun x => (x.Vat, x.Entity, x.Seq))
theorem ki_Tag_K {w : World} {x : GTag} {cs : List Value} (h : ki_Tag.K w x cs) : cs = [.int .i64 x.Vat, .int .i64 x.Entity, .int .i64 x.Seq] := by
  obtain ⟨_, _, rfl, rfl, ⟨_, _, rfl, rfl, rfl⟩⟩ := h
  exact rfl
theorem ki_Tag_at {w : World} {A : Option Addr} {l : List GTag} (h : C ki_Tag w A l) (i : Nat) (hi : i < l.length) : ∃ (ad : Addr), A = some ad ∧ w.cell? (ad.add (i * 3)) = some (.int .i64 l[i].Vat) ∧ w.cell? ⟨(ad.add (i * 3)).block, (ad.add (i * 3)).off + 1, none⟩ = some (.int .i64 l[i].Entity) ∧ w.cell? ⟨(ad.add (i * 3)).block, (ad.add (i * 3)).off + 2, none⟩ = some (.int .i64 l[i].Seq) := by
  obtain ⟨ad, c, h1, h2, h3, h4⟩ := C_at h i hi
  obtain rfl := ki_Tag_K h2
  exact ⟨ad, h1, h3 _ rfl, h4 0 _ rfl, h4 1 _ rfl⟩
theorem ki_Tag_M {w : World} {F : Nat → Prop} {x : GTag} {cs : List Value} (h : ki_Tag.M w F x cs) : cs = [.int .i64 x.Vat, .int .i64 x.Entity, .int .i64 x.Seq] := by
  exact ki_Tag_K (ki_Tag.K_of_M h)
theorem ki_Tag_mk (w : World) (F : Nat → Prop) (x : GTag) : ki_Tag.M w F x [.int .i64 x.Vat, .int .i64 x.Entity, .int .i64 x.Seq] :=
  ⟨[_], [_, _], No, No, rfl, rfl, ⟨[_], [_], No, No, rfl, rfl, rfl, fun _ h => h.elim, fun _ h => h.elim, fun _ h => h.elim⟩, fun _ h => h.elim, fun _ h => h.elim, fun _ h => h.elim⟩
theorem ki_Tag_info : (Try.prog.info? 44).map (fun i => (i.zero, i.size, i.bytes)) = some (some (.agg #[.int .i64 0, .int .i64 0, .int .i64 0]), 3, 24) := by kernel_rfl
theorem ki_Tag_zero (w : World) : ki_Tag.M w No zTag [.int .i64 0, .int .i64 0, .int .i64 0] := ki_Tag_mk w No zTag
def kl_Message : Kn GMessage := Kn.iso (Kn.pair Kn.int (Kn.pair Kn.int (Kn.pair Kn.int (Kn.pair Kn.int (Kn.pair Kn.string (Kn.pair (Kn.slice 92 kl_Wire) (Kn.pair kl_Wire (Kn.pair Kn.int kl_Tag)))))))) (fun x => (x.Kind, x.Pos, x.Answer, x.Question, x.Name, x.Args, x.Value, x.Count, x.Tag))
theorem kl_Message_K {w : World} {x : GMessage} {cs : List Value} (h : kl_Message.K w x cs) : ∃ (A5 : Option Addr) (c5 : Nat), cs = [.int .i64 x.Kind, .int .i64 x.Pos, .int .i64 x.Answer, .int .i64 x.Question, .string x.Name, .slice A5 x.Args.length c5, .int .i64 x.Value.Kind, .int .i64 x.Value.N, .int .i64 x.Count, .int .i64 x.Tag.Vat, .int .i64 x.Tag.Entity, .int .i64 x.Tag.Seq] ∧ x.Args.length ≤ c5 ∧ C kl_Wire w A5 x.Args := by
  obtain ⟨_, _, rfl, rfl, ⟨_, _, rfl, rfl, ⟨_, _, rfl, rfl, ⟨_, _, rfl, rfl, ⟨_, _, rfl, rfl, ⟨_, _, rfl, ⟨A5, c5, rfl, hl5, hC5⟩, ⟨_, _, rfl, s_Value, ⟨_, _, rfl, rfl, s_Tag⟩⟩⟩⟩⟩⟩⟩⟩ := h
  obtain rfl := kl_Wire_K s_Value
  obtain rfl := kl_Tag_K s_Tag
  exact ⟨A5, c5, rfl, hl5, hC5⟩
theorem kl_Message_at {w : World} {A : Option Addr} {l : List GMessage} (h : C kl_Message w A l) (i : Nat) (hi : i < l.length) : ∃ (ad : Addr) (A5 : Option Addr) (c5 : Nat), A = some ad ∧ w.cell? (ad.add (i * 12)) = some (.int .i64 l[i].Kind) ∧ w.cell? ⟨(ad.add (i * 12)).block, (ad.add (i * 12)).off + 1, none⟩ = some (.int .i64 l[i].Pos) ∧ w.cell? ⟨(ad.add (i * 12)).block, (ad.add (i * 12)).off + 2, none⟩ = some (.int .i64 l[i].Answer) ∧ w.cell? ⟨(ad.add (i * 12)).block, (ad.add (i * 12)).off + 3, none⟩ = some (.int .i64 l[i].Question) ∧ w.cell? ⟨(ad.add (i * 12)).block, (ad.add (i * 12)).off + 4, none⟩ = some (.string l[i].Name) ∧ w.cell? ⟨(ad.add (i * 12)).block, (ad.add (i * 12)).off + 5, none⟩ = some (.slice A5 l[i].Args.length c5) ∧ w.cell? ⟨(ad.add (i * 12)).block, (ad.add (i * 12)).off + 6, none⟩ = some (.int .i64 l[i].Value.Kind) ∧ w.cell? ⟨(ad.add (i * 12)).block, (ad.add (i * 12)).off + 7, none⟩ = some (.int .i64 l[i].Value.N) ∧ w.cell? ⟨(ad.add (i * 12)).block, (ad.add (i * 12)).off + 8, none⟩ = some (.int .i64 l[i].Count) ∧ w.cell? ⟨(ad.add (i * 12)).block, (ad.add (i * 12)).off + 9, none⟩ = some (.int .i64 l[i].Tag.Vat) ∧ w.cell? ⟨(ad.add (i * 12)).block, (ad.add (i * 12)).off + 10, none⟩ = some (.int .i64 l[i].Tag.Entity) ∧ w.cell? ⟨(ad.add (i * 12)).block, (ad.add (i * 12)).off + 11, none⟩ = some (.int .i64 l[i].Tag.Seq) ∧ l[i].Args.length ≤ c5 ∧ C kl_Wire w A5 l[i].Args := by
  obtain ⟨ad, c, h1, h2, h3, h4⟩ := C_at h i hi
  obtain ⟨A5, c5, rfl, hl5, hC5⟩ := kl_Message_K h2
  exact ⟨ad, A5, c5, h1, h3 _ rfl, h4 0 _ rfl, h4 1 _ rfl, h4 2 _ rfl, h4 3 _ rfl, h4 4 _ rfl, h4 5 _ rfl, h4 6 _ rfl, h4 7 _ rfl, h4 8 _ rfl, h4 9 _ rfl, h4 10 _ rfl, hl5, hC5⟩
def ki_Message : Kn GMessage := Kn.iso (Kn.pair Kn.int (Kn.pair Kn.int (Kn.pair Kn.int (Kn.pair Kn.int (Kn.pair Kn.string (Kn.pair (Kn.slice 42 ki_Wire) (Kn.pair ki_Wire (Kn.pair Kn.int ki_Tag)))))))) (fun x => (x.Kind, x.Pos, x.Answer, x.Question, x.Name, x.Args, x.Value, x.Count, x.Tag))
theorem ki_Message_K {w : World} {x : GMessage} {cs : List Value} (h : ki_Message.K w x cs) : ∃ (A5 : Option Addr) (c5 : Nat), cs = [.int .i64 x.Kind, .int .i64 x.Pos, .int .i64 x.Answer, .int .i64 x.Question, .string x.Name, .slice A5 x.Args.length c5, .int .i64 x.Value.Kind, .int .i64 x.Value.N, .int .i64 x.Count, .int .i64 x.Tag.Vat, .int .i64 x.Tag.Entity, .int .i64 x.Tag.Seq] ∧ x.Args.length ≤ c5 ∧ C ki_Wire w A5 x.Args := by
  obtain ⟨_, _, rfl, rfl, ⟨_, _, rfl, rfl, ⟨_, _, rfl, rfl, ⟨_, _, rfl, rfl, ⟨_, _, rfl, rfl, ⟨_, _, rfl, ⟨A5, c5, rfl, hl5, hC5⟩, ⟨_, _, rfl, s_Value, ⟨_, _, rfl, rfl, s_Tag⟩⟩⟩⟩⟩⟩⟩⟩ := h
  obtain rfl := ki_Wire_K s_Value
  obtain rfl := ki_Tag_K s_Tag
  exact ⟨A5, c5, rfl, hl5, hC5⟩
theorem ki_Message_at {w : World} {A : Option Addr} {l : List GMessage} (h : C ki_Message w A l) (i : Nat) (hi : i < l.length) : ∃ (ad : Addr) (A5 : Option Addr) (c5 : Nat), A = some ad ∧ w.cell? (ad.add (i * 12)) = some (.int .i64 l[i].Kind) ∧ w.cell? ⟨(ad.add (i * 12)).block, (ad.add (i * 12)).off + 1, none⟩ = some (.int .i64 l[i].Pos) ∧ w.cell? ⟨(ad.add (i * 12)).block, (ad.add (i * 12)).off + 2, none⟩ = some (.int .i64 l[i].Answer) ∧ w.cell? ⟨(ad.add (i * 12)).block, (ad.add (i * 12)).off + 3, none⟩ = some (.int .i64 l[i].Question) ∧ w.cell? ⟨(ad.add (i * 12)).block, (ad.add (i * 12)).off + 4, none⟩ = some (.string l[i].Name) ∧ w.cell? ⟨(ad.add (i * 12)).block, (ad.add (i * 12)).off + 5, none⟩ = some (.slice A5 l[i].Args.length c5) ∧ w.cell? ⟨(ad.add (i * 12)).block, (ad.add (i * 12)).off + 6, none⟩ = some (.int .i64 l[i].Value.Kind) ∧ w.cell? ⟨(ad.add (i * 12)).block, (ad.add (i * 12)).off + 7, none⟩ = some (.int .i64 l[i].Value.N) ∧ w.cell? ⟨(ad.add (i * 12)).block, (ad.add (i * 12)).off + 8, none⟩ = some (.int .i64 l[i].Count) ∧ w.cell? ⟨(ad.add (i * 12)).block, (ad.add (i * 12)).off + 9, none⟩ = some (.int .i64 l[i].Tag.Vat) ∧ w.cell? ⟨(ad.add (i * 12)).block, (ad.add (i * 12)).off + 10, none⟩ = some (.int .i64 l[i].Tag.Entity) ∧ w.cell? ⟨(ad.add (i * 12)).block, (ad.add (i * 12)).off + 11, none⟩ = some (.int .i64 l[i].Tag.Seq) ∧ l[i].Args.length ≤ c5 ∧ C ki_Wire w A5 l[i].Args := by
  obtain ⟨ad, c, h1, h2, h3, h4⟩ := C_at h i hi
  obtain ⟨A5, c5, rfl, hl5, hC5⟩ := ki_Message_K h2
  exact ⟨ad, A5, c5, h1, h3 _ rfl, h4 0 _ rfl, h4 1 _ rfl, h4 2 _ rfl, h4 3 _ rfl, h4 4 _ rfl, h4 5 _ rfl, h4 6 _ rfl, h4 7 _ rfl, h4 8 _ rfl, h4 9 _ rfl, h4 10 _ rfl, hl5, hC5⟩
theorem ki_Message_M {w : World} {F : Nat → Prop} {x : GMessage} {cs : List Value} (h : ki_Message.M w F x cs) : ∃ (v5 : Value) (P5 : Nat → Prop), cs = [.int .i64 x.Kind, .int .i64 x.Pos, .int .i64 x.Answer, .int .i64 x.Question, .string x.Name, v5, .int .i64 x.Value.Kind, .int .i64 x.Value.N, .int .i64 x.Count, .int .i64 x.Tag.Vat, .int .i64 x.Tag.Entity, .int .i64 x.Tag.Seq] ∧ R ki_Wire 42 w P5 v5 x.Args ∧ (∀ k, P5 k → F k) := by
  obtain ⟨_, _, F0, G0, rfl, rfl, ⟨_, _, F1, G1, rfl, rfl, ⟨_, _, F2, G2, rfl, rfl, ⟨_, _, F3, G3, rfl, rfl, ⟨_, _, F4, G4, rfl, rfl, ⟨_, _, F5, G5, rfl, ⟨v5, rfl, hR5⟩, ⟨_, _, F6, G6, rfl, s6, ⟨_, _, F7, G7, rfl, rfl, s8, a7, b7, d7⟩, a6, b6, d6⟩, a5, b5, d5⟩, a4, b4, d4⟩, a3, b3, d3⟩, a2, b2, d2⟩, a1, b1, d1⟩, a0, b0, d0⟩ := h
  obtain rfl := ki_Wire_M s6
  obtain rfl := ki_Tag_M s8
  exact ⟨v5, F5, rfl, hR5, fun k hk => (b0 k (b1 k (b2 k (b3 k (b4 k (a5 k hk))))))⟩
theorem ki_Message_mk (w : World) (F : Nat → Prop) (x : GMessage) {v5 : Value} {P5 : Nat → Prop} (h5 : R ki_Wire 42 w P5 v5 x.Args) (i5 : ∀ k, P5 k → F k) : ki_Message.M w F x [.int .i64 x.Kind, .int .i64 x.Pos, .int .i64 x.Answer, .int .i64 x.Question, .string x.Name, v5, .int .i64 x.Value.Kind, .int .i64 x.Value.N, .int .i64 x.Count, .int .i64 x.Tag.Vat, .int .i64 x.Tag.Entity, .int .i64 x.Tag.Seq] :=
  ⟨[_], [_, _, _, _, _, _, _, _, _, _, _], No, P5, rfl, rfl, ⟨[_], [_, _, _, _, _, _, _, _, _, _], No, P5, rfl, rfl, ⟨[_], [_, _, _, _, _, _, _, _, _], No, P5, rfl, rfl, ⟨[_], [_, _, _, _, _, _, _, _], No, P5, rfl, rfl, ⟨[_], [_, _, _, _, _, _, _], No, P5, rfl, rfl, ⟨[_], [_, _, _, _, _, _], P5, No, rfl, ⟨_, rfl, h5⟩, ⟨[_, _], [_, _, _, _], No, No, rfl, (ki_Wire_mk w No _), ⟨[_], [_, _, _], No, No, rfl, rfl, (ki_Tag_mk w No _), fun _ h => h.elim, fun _ h => h.elim, fun _ h => h.elim⟩, fun _ h => h.elim, fun _ h => h.elim, fun _ h => h.elim⟩, fun _ h => h, fun _ h => h.elim, fun _ _ h => h.elim⟩, fun _ h => h.elim, fun _ h => h, fun _ h => h.elim⟩, fun _ h => h.elim, fun _ h => h, fun _ h => h.elim⟩, fun _ h => h.elim, fun _ h => h, fun _ h => h.elim⟩, fun _ h => h.elim, fun _ h => h, fun _ h => h.elim⟩, fun _ h => h.elim, i5, fun _ h => h.elim⟩
theorem ki_Message_info : (Try.prog.info? 46).map (fun i => (i.zero, i.size, i.bytes)) = some (some (.agg #[.int .i64 0, .int .i64 0, .int .i64 0, .int .i64 0, .string ⟨#[]⟩, .slice none 0 0, .int .i64 0, .int .i64 0, .int .i64 0, .int .i64 0, .int .i64 0, .int .i64 0]), 12, 120) := by kernel_rfl
theorem ki_Message_zero (w : World) : ki_Message.M w No zMessage [.int .i64 0, .int .i64 0, .int .i64 0, .int .i64 0, .string ⟨#[]⟩, .slice none 0 0, .int .i64 0, .int .i64 0, .int .i64 0, .int .i64 0, .int .i64 0, .int .i64 0] := ki_Message_mk w No zMessage (P5 := No) R_nil (fun _ h => h)
def kl_Channel : Kn GChannel := Kn.iso (Kn.pair Kn.int (Kn.pair Kn.int (Kn.slice 95 kl_Message))) (fun x => (x.From, x.To, x.List))
theorem kl_Channel_K {w : World} {x : GChannel} {cs : List Value} (h : kl_Channel.K w x cs) : ∃ (A2 : Option Addr) (c2 : Nat), cs = [.int .i64 x.From, .int .i64 x.To, .slice A2 x.List.length c2] ∧ x.List.length ≤ c2 ∧ C kl_Message w A2 x.List := by
  obtain ⟨_, _, rfl, rfl, ⟨_, _, rfl, rfl, ⟨A2, c2, rfl, hl2, hC2⟩⟩⟩ := h
  exact ⟨A2, c2, rfl, hl2, hC2⟩
theorem kl_Channel_at {w : World} {A : Option Addr} {l : List GChannel} (h : C kl_Channel w A l) (i : Nat) (hi : i < l.length) : ∃ (ad : Addr) (A2 : Option Addr) (c2 : Nat), A = some ad ∧ w.cell? (ad.add (i * 3)) = some (.int .i64 l[i].From) ∧ w.cell? ⟨(ad.add (i * 3)).block, (ad.add (i * 3)).off + 1, none⟩ = some (.int .i64 l[i].To) ∧ w.cell? ⟨(ad.add (i * 3)).block, (ad.add (i * 3)).off + 2, none⟩ = some (.slice A2 l[i].List.length c2) ∧ l[i].List.length ≤ c2 ∧ C kl_Message w A2 l[i].List := by
  obtain ⟨ad, c, h1, h2, h3, h4⟩ := C_at h i hi
  obtain ⟨A2, c2, rfl, hl2, hC2⟩ := kl_Channel_K h2
  exact ⟨ad, A2, c2, h1, h3 _ rfl, h4 0 _ rfl, h4 1 _ rfl, hl2, hC2⟩
def ki_Channel : Kn GChannel := Kn.iso (Kn.pair Kn.int (Kn.pair Kn.int (Kn.slice 46 ki_Message))) (fun x => (x.From, x.To, x.List))
theorem ki_Channel_K {w : World} {x : GChannel} {cs : List Value} (h : ki_Channel.K w x cs) : ∃ (A2 : Option Addr) (c2 : Nat), cs = [.int .i64 x.From, .int .i64 x.To, .slice A2 x.List.length c2] ∧ x.List.length ≤ c2 ∧ C ki_Message w A2 x.List := by
  obtain ⟨_, _, rfl, rfl, ⟨_, _, rfl, rfl, ⟨A2, c2, rfl, hl2, hC2⟩⟩⟩ := h
  exact ⟨A2, c2, rfl, hl2, hC2⟩
theorem ki_Channel_at {w : World} {A : Option Addr} {l : List GChannel} (h : C ki_Channel w A l) (i : Nat) (hi : i < l.length) : ∃ (ad : Addr) (A2 : Option Addr) (c2 : Nat), A = some ad ∧ w.cell? (ad.add (i * 3)) = some (.int .i64 l[i].From) ∧ w.cell? ⟨(ad.add (i * 3)).block, (ad.add (i * 3)).off + 1, none⟩ = some (.int .i64 l[i].To) ∧ w.cell? ⟨(ad.add (i * 3)).block, (ad.add (i * 3)).off + 2, none⟩ = some (.slice A2 l[i].List.length c2) ∧ l[i].List.length ≤ c2 ∧ C ki_Message w A2 l[i].List := by
  obtain ⟨ad, c, h1, h2, h3, h4⟩ := C_at h i hi
  obtain ⟨A2, c2, rfl, hl2, hC2⟩ := ki_Channel_K h2
  exact ⟨ad, A2, c2, h1, h3 _ rfl, h4 0 _ rfl, h4 1 _ rfl, hl2, hC2⟩
theorem ki_Channel_M {w : World} {F : Nat → Prop} {x : GChannel} {cs : List Value} (h : ki_Channel.M w F x cs) : ∃ (v2 : Value) (P2 : Nat → Prop), cs = [.int .i64 x.From, .int .i64 x.To, v2] ∧ R ki_Message 46 w P2 v2 x.List ∧ (∀ k, P2 k → F k) := by
  obtain ⟨_, _, F0, G0, rfl, rfl, ⟨_, _, F1, G1, rfl, rfl, ⟨v2, rfl, hR2⟩, a1, b1, d1⟩, a0, b0, d0⟩ := h
  exact ⟨v2, G1, rfl, hR2, fun k hk => (b0 k (b1 k hk))⟩
theorem ki_Channel_mk (w : World) (F : Nat → Prop) (x : GChannel) {v2 : Value} {P2 : Nat → Prop} (h2 : R ki_Message 46 w P2 v2 x.List) (i2 : ∀ k, P2 k → F k) : ki_Channel.M w F x [.int .i64 x.From, .int .i64 x.To, v2] :=
  ⟨[_], [_, _], No, P2, rfl, rfl, ⟨[_], [_], No, P2, rfl, rfl, ⟨_, rfl, h2⟩, fun _ h => h.elim, fun _ h => h, fun _ h => h.elim⟩, fun _ h => h.elim, i2, fun _ h => h.elim⟩
theorem ki_Channel_info : (Try.prog.info? 120).map (fun i => (i.zero, i.size, i.bytes)) = some (some (.agg #[.int .i64 0, .int .i64 0, .slice none 0 0]), 3, 40) := by kernel_rfl
theorem ki_Channel_zero (w : World) : ki_Channel.M w No zChannel [.int .i64 0, .int .i64 0, .slice none 0 0] := ki_Channel_mk w No zChannel (P2 := No) R_nil (fun _ h => h)
def kl_Value : Kn GValue := Kn.iso (Kn.pair Kn.int Kn.int) (fun x => (x.Kind, x.N))
theorem kl_Value_K {w : World} {x : GValue} {cs : List Value} (h : kl_Value.K w x cs) : cs = [.int .i64 x.Kind, .int .i64 x.N] := by
  obtain ⟨_, _, rfl, rfl, rfl⟩ := h
  exact rfl
theorem kl_Value_at {w : World} {A : Option Addr} {l : List GValue} (h : C kl_Value w A l) (i : Nat) (hi : i < l.length) : ∃ (ad : Addr), A = some ad ∧ w.cell? (ad.add (i * 2)) = some (.int .i64 l[i].Kind) ∧ w.cell? ⟨(ad.add (i * 2)).block, (ad.add (i * 2)).off + 1, none⟩ = some (.int .i64 l[i].N) := by
  obtain ⟨ad, c, h1, h2, h3, h4⟩ := C_at h i hi
  obtain rfl := kl_Value_K h2
  exact ⟨ad, h1, h3 _ rfl, h4 0 _ rfl⟩
def ki_Value : Kn GValue := Kn.iso (Kn.pair Kn.int Kn.int) (fun x => (x.Kind, x.N))
theorem ki_Value_K {w : World} {x : GValue} {cs : List Value} (h : ki_Value.K w x cs) : cs = [.int .i64 x.Kind, .int .i64 x.N] := by
  obtain ⟨_, _, rfl, rfl, rfl⟩ := h
  exact rfl
theorem ki_Value_at {w : World} {A : Option Addr} {l : List GValue} (h : C ki_Value w A l) (i : Nat) (hi : i < l.length) : ∃ (ad : Addr), A = some ad ∧ w.cell? (ad.add (i * 2)) = some (.int .i64 l[i].Kind) ∧ w.cell? ⟨(ad.add (i * 2)).block, (ad.add (i * 2)).off + 1, none⟩ = some (.int .i64 l[i].N) := by
  obtain ⟨ad, c, h1, h2, h3, h4⟩ := C_at h i hi
  obtain rfl := ki_Value_K h2
  exact ⟨ad, h1, h3 _ rfl, h4 0 _ rfl⟩
theorem ki_Value_M {w : World} {F : Nat → Prop} {x : GValue} {cs : List Value} (h : ki_Value.M w F x cs) : cs = [.int .i64 x.Kind, .int .i64 x.N] := by
  exact ki_Value_K (ki_Value.K_of_M h)
theorem ki_Value_mk (w : World) (F : Nat → Prop) (x : GValue) : ki_Value.M w F x [.int .i64 x.Kind, .int .i64 x.N] :=
  ⟨[_], [_], No, No, rfl, rfl, rfl, fun _ h => h.elim, fun _ h => h.elim, fun _ h => h.elim⟩
theorem ki_Value_info : (Try.prog.info? 194).map (fun i => (i.zero, i.size, i.bytes)) = some (some (.agg #[.int .i64 0, .int .i64 0]), 2, 16) := by kernel_rfl
theorem ki_Value_zero (w : World) : ki_Value.M w No zValue [.int .i64 0, .int .i64 0] := ki_Value_mk w No zValue
def kl_Event : Kn GEvent := Kn.iso (Kn.pair Kn.int (Kn.pair Kn.int (Kn.pair Kn.int (Kn.pair Kn.int (Kn.pair Kn.string (Kn.slice 196 kl_Value)))))) (fun x => (x.Kind, x.A, x.B, x.N, x.Name, x.Args))
theorem kl_Event_K {w : World} {x : GEvent} {cs : List Value} (h : kl_Event.K w x cs) : ∃ (A5 : Option Addr) (c5 : Nat), cs = [.int .i64 x.Kind, .int .i64 x.A, .int .i64 x.B, .int .i64 x.N, .string x.Name, .slice A5 x.Args.length c5] ∧ x.Args.length ≤ c5 ∧ C kl_Value w A5 x.Args := by
  obtain ⟨_, _, rfl, rfl, ⟨_, _, rfl, rfl, ⟨_, _, rfl, rfl, ⟨_, _, rfl, rfl, ⟨_, _, rfl, rfl, ⟨A5, c5, rfl, hl5, hC5⟩⟩⟩⟩⟩⟩ := h
  exact ⟨A5, c5, rfl, hl5, hC5⟩
theorem kl_Event_at {w : World} {A : Option Addr} {l : List GEvent} (h : C kl_Event w A l) (i : Nat) (hi : i < l.length) : ∃ (ad : Addr) (A5 : Option Addr) (c5 : Nat), A = some ad ∧ w.cell? (ad.add (i * 6)) = some (.int .i64 l[i].Kind) ∧ w.cell? ⟨(ad.add (i * 6)).block, (ad.add (i * 6)).off + 1, none⟩ = some (.int .i64 l[i].A) ∧ w.cell? ⟨(ad.add (i * 6)).block, (ad.add (i * 6)).off + 2, none⟩ = some (.int .i64 l[i].B) ∧ w.cell? ⟨(ad.add (i * 6)).block, (ad.add (i * 6)).off + 3, none⟩ = some (.int .i64 l[i].N) ∧ w.cell? ⟨(ad.add (i * 6)).block, (ad.add (i * 6)).off + 4, none⟩ = some (.string l[i].Name) ∧ w.cell? ⟨(ad.add (i * 6)).block, (ad.add (i * 6)).off + 5, none⟩ = some (.slice A5 l[i].Args.length c5) ∧ l[i].Args.length ≤ c5 ∧ C kl_Value w A5 l[i].Args := by
  obtain ⟨ad, c, h1, h2, h3, h4⟩ := C_at h i hi
  obtain ⟨A5, c5, rfl, hl5, hC5⟩ := kl_Event_K h2
  exact ⟨ad, A5, c5, h1, h3 _ rfl, h4 0 _ rfl, h4 1 _ rfl, h4 2 _ rfl, h4 3 _ rfl, h4 4 _ rfl, hl5, hC5⟩
def ki_Event : Kn GEvent := Kn.iso (Kn.pair Kn.int (Kn.pair Kn.int (Kn.pair Kn.int (Kn.pair Kn.int (Kn.pair Kn.string (Kn.slice 194 ki_Value)))))) (fun x => (x.Kind, x.A, x.B, x.N, x.Name, x.Args))
theorem ki_Event_K {w : World} {x : GEvent} {cs : List Value} (h : ki_Event.K w x cs) : ∃ (A5 : Option Addr) (c5 : Nat), cs = [.int .i64 x.Kind, .int .i64 x.A, .int .i64 x.B, .int .i64 x.N, .string x.Name, .slice A5 x.Args.length c5] ∧ x.Args.length ≤ c5 ∧ C ki_Value w A5 x.Args := by
  obtain ⟨_, _, rfl, rfl, ⟨_, _, rfl, rfl, ⟨_, _, rfl, rfl, ⟨_, _, rfl, rfl, ⟨_, _, rfl, rfl, ⟨A5, c5, rfl, hl5, hC5⟩⟩⟩⟩⟩⟩ := h
  exact ⟨A5, c5, rfl, hl5, hC5⟩
theorem ki_Event_at {w : World} {A : Option Addr} {l : List GEvent} (h : C ki_Event w A l) (i : Nat) (hi : i < l.length) : ∃ (ad : Addr) (A5 : Option Addr) (c5 : Nat), A = some ad ∧ w.cell? (ad.add (i * 6)) = some (.int .i64 l[i].Kind) ∧ w.cell? ⟨(ad.add (i * 6)).block, (ad.add (i * 6)).off + 1, none⟩ = some (.int .i64 l[i].A) ∧ w.cell? ⟨(ad.add (i * 6)).block, (ad.add (i * 6)).off + 2, none⟩ = some (.int .i64 l[i].B) ∧ w.cell? ⟨(ad.add (i * 6)).block, (ad.add (i * 6)).off + 3, none⟩ = some (.int .i64 l[i].N) ∧ w.cell? ⟨(ad.add (i * 6)).block, (ad.add (i * 6)).off + 4, none⟩ = some (.string l[i].Name) ∧ w.cell? ⟨(ad.add (i * 6)).block, (ad.add (i * 6)).off + 5, none⟩ = some (.slice A5 l[i].Args.length c5) ∧ l[i].Args.length ≤ c5 ∧ C ki_Value w A5 l[i].Args := by
  obtain ⟨ad, c, h1, h2, h3, h4⟩ := C_at h i hi
  obtain ⟨A5, c5, rfl, hl5, hC5⟩ := ki_Event_K h2
  exact ⟨ad, A5, c5, h1, h3 _ rfl, h4 0 _ rfl, h4 1 _ rfl, h4 2 _ rfl, h4 3 _ rfl, h4 4 _ rfl, hl5, hC5⟩
theorem ki_Event_M {w : World} {F : Nat → Prop} {x : GEvent} {cs : List Value} (h : ki_Event.M w F x cs) : ∃ (v5 : Value) (P5 : Nat → Prop), cs = [.int .i64 x.Kind, .int .i64 x.A, .int .i64 x.B, .int .i64 x.N, .string x.Name, v5] ∧ R ki_Value 194 w P5 v5 x.Args ∧ (∀ k, P5 k → F k) := by
  obtain ⟨_, _, F0, G0, rfl, rfl, ⟨_, _, F1, G1, rfl, rfl, ⟨_, _, F2, G2, rfl, rfl, ⟨_, _, F3, G3, rfl, rfl, ⟨_, _, F4, G4, rfl, rfl, ⟨v5, rfl, hR5⟩, a4, b4, d4⟩, a3, b3, d3⟩, a2, b2, d2⟩, a1, b1, d1⟩, a0, b0, d0⟩ := h
  exact ⟨v5, G4, rfl, hR5, fun k hk => (b0 k (b1 k (b2 k (b3 k (b4 k hk)))))⟩
theorem ki_Event_mk (w : World) (F : Nat → Prop) (x : GEvent) {v5 : Value} {P5 : Nat → Prop} (h5 : R ki_Value 194 w P5 v5 x.Args) (i5 : ∀ k, P5 k → F k) : ki_Event.M w F x [.int .i64 x.Kind, .int .i64 x.A, .int .i64 x.B, .int .i64 x.N, .string x.Name, v5] :=
  ⟨[_], [_, _, _, _, _], No, P5, rfl, rfl, ⟨[_], [_, _, _, _], No, P5, rfl, rfl, ⟨[_], [_, _, _], No, P5, rfl, rfl, ⟨[_], [_, _], No, P5, rfl, rfl, ⟨[_], [_], No, P5, rfl, rfl, ⟨_, rfl, h5⟩, fun _ h => h.elim, fun _ h => h, fun _ h => h.elim⟩, fun _ h => h.elim, fun _ h => h, fun _ h => h.elim⟩, fun _ h => h.elim, fun _ h => h, fun _ h => h.elim⟩, fun _ h => h.elim, fun _ h => h, fun _ h => h.elim⟩, fun _ h => h.elim, i5, fun _ h => h.elim⟩
theorem ki_Event_info : (Try.prog.info? 107).map (fun i => (i.zero, i.size, i.bytes)) = some (some (.agg #[.int .i64 0, .int .i64 0, .int .i64 0, .int .i64 0, .string ⟨#[]⟩, .slice none 0 0]), 6, 72) := by kernel_rfl
theorem ki_Event_zero (w : World) : ki_Event.M w No zEvent [.int .i64 0, .int .i64 0, .int .i64 0, .int .i64 0, .string ⟨#[]⟩, .slice none 0 0] := ki_Event_mk w No zEvent (P5 := No) R_nil (fun _ h => h)
def kl_Instr : Kn GInstr := Kn.iso (Kn.pair Kn.int (Kn.pair Kn.int (Kn.pair Kn.int (Kn.pair Kn.int (Kn.pair Kn.int Kn.string))))) (fun x => (x.Op, x.A, x.B, x.C, x.D, x.Name))
theorem kl_Instr_K {w : World} {x : GInstr} {cs : List Value} (h : kl_Instr.K w x cs) : cs = [.int .i64 x.Op, .int .i64 x.A, .int .i64 x.B, .int .i64 x.C, .int .i64 x.D, .string x.Name] := by
  obtain ⟨_, _, rfl, rfl, ⟨_, _, rfl, rfl, ⟨_, _, rfl, rfl, ⟨_, _, rfl, rfl, ⟨_, _, rfl, rfl, rfl⟩⟩⟩⟩⟩ := h
  exact rfl
theorem kl_Instr_at {w : World} {A : Option Addr} {l : List GInstr} (h : C kl_Instr w A l) (i : Nat) (hi : i < l.length) : ∃ (ad : Addr), A = some ad ∧ w.cell? (ad.add (i * 6)) = some (.int .i64 l[i].Op) ∧ w.cell? ⟨(ad.add (i * 6)).block, (ad.add (i * 6)).off + 1, none⟩ = some (.int .i64 l[i].A) ∧ w.cell? ⟨(ad.add (i * 6)).block, (ad.add (i * 6)).off + 2, none⟩ = some (.int .i64 l[i].B) ∧ w.cell? ⟨(ad.add (i * 6)).block, (ad.add (i * 6)).off + 3, none⟩ = some (.int .i64 l[i].C) ∧ w.cell? ⟨(ad.add (i * 6)).block, (ad.add (i * 6)).off + 4, none⟩ = some (.int .i64 l[i].D) ∧ w.cell? ⟨(ad.add (i * 6)).block, (ad.add (i * 6)).off + 5, none⟩ = some (.string l[i].Name) := by
  obtain ⟨ad, c, h1, h2, h3, h4⟩ := C_at h i hi
  obtain rfl := kl_Instr_K h2
  exact ⟨ad, h1, h3 _ rfl, h4 0 _ rfl, h4 1 _ rfl, h4 2 _ rfl, h4 3 _ rfl, h4 4 _ rfl⟩
def ki_Instr : Kn GInstr := Kn.iso (Kn.pair Kn.int (Kn.pair Kn.int (Kn.pair Kn.int (Kn.pair Kn.int (Kn.pair Kn.int Kn.string))))) (fun x => (x.Op, x.A, x.B, x.C, x.D, x.Name))
theorem ki_Instr_K {w : World} {x : GInstr} {cs : List Value} (h : ki_Instr.K w x cs) : cs = [.int .i64 x.Op, .int .i64 x.A, .int .i64 x.B, .int .i64 x.C, .int .i64 x.D, .string x.Name] := by
  obtain ⟨_, _, rfl, rfl, ⟨_, _, rfl, rfl, ⟨_, _, rfl, rfl, ⟨_, _, rfl, rfl, ⟨_, _, rfl, rfl, rfl⟩⟩⟩⟩⟩ := h
  exact rfl
theorem ki_Instr_at {w : World} {A : Option Addr} {l : List GInstr} (h : C ki_Instr w A l) (i : Nat) (hi : i < l.length) : ∃ (ad : Addr), A = some ad ∧ w.cell? (ad.add (i * 6)) = some (.int .i64 l[i].Op) ∧ w.cell? ⟨(ad.add (i * 6)).block, (ad.add (i * 6)).off + 1, none⟩ = some (.int .i64 l[i].A) ∧ w.cell? ⟨(ad.add (i * 6)).block, (ad.add (i * 6)).off + 2, none⟩ = some (.int .i64 l[i].B) ∧ w.cell? ⟨(ad.add (i * 6)).block, (ad.add (i * 6)).off + 3, none⟩ = some (.int .i64 l[i].C) ∧ w.cell? ⟨(ad.add (i * 6)).block, (ad.add (i * 6)).off + 4, none⟩ = some (.int .i64 l[i].D) ∧ w.cell? ⟨(ad.add (i * 6)).block, (ad.add (i * 6)).off + 5, none⟩ = some (.string l[i].Name) := by
  obtain ⟨ad, c, h1, h2, h3, h4⟩ := C_at h i hi
  obtain rfl := ki_Instr_K h2
  exact ⟨ad, h1, h3 _ rfl, h4 0 _ rfl, h4 1 _ rfl, h4 2 _ rfl, h4 3 _ rfl, h4 4 _ rfl⟩
theorem ki_Instr_M {w : World} {F : Nat → Prop} {x : GInstr} {cs : List Value} (h : ki_Instr.M w F x cs) : cs = [.int .i64 x.Op, .int .i64 x.A, .int .i64 x.B, .int .i64 x.C, .int .i64 x.D, .string x.Name] := by
  exact ki_Instr_K (ki_Instr.K_of_M h)
theorem ki_Instr_mk (w : World) (F : Nat → Prop) (x : GInstr) : ki_Instr.M w F x [.int .i64 x.Op, .int .i64 x.A, .int .i64 x.B, .int .i64 x.C, .int .i64 x.D, .string x.Name] :=
  ⟨[_], [_, _, _, _, _], No, No, rfl, rfl, ⟨[_], [_, _, _, _], No, No, rfl, rfl, ⟨[_], [_, _, _], No, No, rfl, rfl, ⟨[_], [_, _], No, No, rfl, rfl, ⟨[_], [_], No, No, rfl, rfl, rfl, fun _ h => h.elim, fun _ h => h.elim, fun _ h => h.elim⟩, fun _ h => h.elim, fun _ h => h.elim, fun _ h => h.elim⟩, fun _ h => h.elim, fun _ h => h.elim, fun _ h => h.elim⟩, fun _ h => h.elim, fun _ h => h.elim, fun _ h => h.elim⟩, fun _ h => h.elim, fun _ h => h.elim, fun _ h => h.elim⟩
theorem ki_Instr_info : (Try.prog.info? 153).map (fun i => (i.zero, i.size, i.bytes)) = some (some (.agg #[.int .i64 0, .int .i64 0, .int .i64 0, .int .i64 0, .int .i64 0, .string ⟨#[]⟩]), 6, 56) := by kernel_rfl
theorem ki_Instr_zero (w : World) : ki_Instr.M w No zInstr [.int .i64 0, .int .i64 0, .int .i64 0, .int .i64 0, .int .i64 0, .string ⟨#[]⟩] := ki_Instr_mk w No zInstr
def kl_Method : Kn GMethod := Kn.iso (Kn.pair Kn.string (Kn.slice 215 kl_Instr)) (fun x => (x.Name, x.Code))
theorem kl_Method_K {w : World} {x : GMethod} {cs : List Value} (h : kl_Method.K w x cs) : ∃ (A1 : Option Addr) (c1 : Nat), cs = [.string x.Name, .slice A1 x.Code.length c1] ∧ x.Code.length ≤ c1 ∧ C kl_Instr w A1 x.Code := by
  obtain ⟨_, _, rfl, rfl, ⟨A1, c1, rfl, hl1, hC1⟩⟩ := h
  exact ⟨A1, c1, rfl, hl1, hC1⟩
theorem kl_Method_at {w : World} {A : Option Addr} {l : List GMethod} (h : C kl_Method w A l) (i : Nat) (hi : i < l.length) : ∃ (ad : Addr) (A1 : Option Addr) (c1 : Nat), A = some ad ∧ w.cell? (ad.add (i * 2)) = some (.string l[i].Name) ∧ w.cell? ⟨(ad.add (i * 2)).block, (ad.add (i * 2)).off + 1, none⟩ = some (.slice A1 l[i].Code.length c1) ∧ l[i].Code.length ≤ c1 ∧ C kl_Instr w A1 l[i].Code := by
  obtain ⟨ad, c, h1, h2, h3, h4⟩ := C_at h i hi
  obtain ⟨A1, c1, rfl, hl1, hC1⟩ := kl_Method_K h2
  exact ⟨ad, A1, c1, h1, h3 _ rfl, h4 0 _ rfl, hl1, hC1⟩
def ki_Method : Kn GMethod := Kn.iso (Kn.pair Kn.string (Kn.slice 153 ki_Instr)) (fun x => (x.Name, x.Code))
theorem ki_Method_K {w : World} {x : GMethod} {cs : List Value} (h : ki_Method.K w x cs) : ∃ (A1 : Option Addr) (c1 : Nat), cs = [.string x.Name, .slice A1 x.Code.length c1] ∧ x.Code.length ≤ c1 ∧ C ki_Instr w A1 x.Code := by
  obtain ⟨_, _, rfl, rfl, ⟨A1, c1, rfl, hl1, hC1⟩⟩ := h
  exact ⟨A1, c1, rfl, hl1, hC1⟩
theorem ki_Method_at {w : World} {A : Option Addr} {l : List GMethod} (h : C ki_Method w A l) (i : Nat) (hi : i < l.length) : ∃ (ad : Addr) (A1 : Option Addr) (c1 : Nat), A = some ad ∧ w.cell? (ad.add (i * 2)) = some (.string l[i].Name) ∧ w.cell? ⟨(ad.add (i * 2)).block, (ad.add (i * 2)).off + 1, none⟩ = some (.slice A1 l[i].Code.length c1) ∧ l[i].Code.length ≤ c1 ∧ C ki_Instr w A1 l[i].Code := by
  obtain ⟨ad, c, h1, h2, h3, h4⟩ := C_at h i hi
  obtain ⟨A1, c1, rfl, hl1, hC1⟩ := ki_Method_K h2
  exact ⟨ad, A1, c1, h1, h3 _ rfl, h4 0 _ rfl, hl1, hC1⟩
theorem ki_Method_M {w : World} {F : Nat → Prop} {x : GMethod} {cs : List Value} (h : ki_Method.M w F x cs) : ∃ (v1 : Value) (P1 : Nat → Prop), cs = [.string x.Name, v1] ∧ R ki_Instr 153 w P1 v1 x.Code ∧ (∀ k, P1 k → F k) := by
  obtain ⟨_, _, F0, G0, rfl, rfl, ⟨v1, rfl, hR1⟩, a0, b0, d0⟩ := h
  exact ⟨v1, G0, rfl, hR1, fun k hk => (b0 k hk)⟩
theorem ki_Method_mk (w : World) (F : Nat → Prop) (x : GMethod) {v1 : Value} {P1 : Nat → Prop} (h1 : R ki_Instr 153 w P1 v1 x.Code) (i1 : ∀ k, P1 k → F k) : ki_Method.M w F x [.string x.Name, v1] :=
  ⟨[_], [_], No, P1, rfl, rfl, ⟨_, rfl, h1⟩, fun _ h => h.elim, i1, fun _ h => h.elim⟩
theorem ki_Method_info : (Try.prog.info? 64).map (fun i => (i.zero, i.size, i.bytes)) = some (some (.agg #[.string ⟨#[]⟩, .slice none 0 0]), 2, 40) := by kernel_rfl
theorem ki_Method_zero (w : World) : ki_Method.M w No zMethod [.string ⟨#[]⟩, .slice none 0 0] := ki_Method_mk w No zMethod (P1 := No) R_nil (fun _ h => h)
def kl_Script : Kn GScript := Kn.iso (Kn.pair Kn.string (Kn.slice 203 kl_Method)) (fun x => (x.Name, x.Methods))
theorem kl_Script_K {w : World} {x : GScript} {cs : List Value} (h : kl_Script.K w x cs) : ∃ (A1 : Option Addr) (c1 : Nat), cs = [.string x.Name, .slice A1 x.Methods.length c1] ∧ x.Methods.length ≤ c1 ∧ C kl_Method w A1 x.Methods := by
  obtain ⟨_, _, rfl, rfl, ⟨A1, c1, rfl, hl1, hC1⟩⟩ := h
  exact ⟨A1, c1, rfl, hl1, hC1⟩
theorem kl_Script_at {w : World} {A : Option Addr} {l : List GScript} (h : C kl_Script w A l) (i : Nat) (hi : i < l.length) : ∃ (ad : Addr) (A1 : Option Addr) (c1 : Nat), A = some ad ∧ w.cell? (ad.add (i * 2)) = some (.string l[i].Name) ∧ w.cell? ⟨(ad.add (i * 2)).block, (ad.add (i * 2)).off + 1, none⟩ = some (.slice A1 l[i].Methods.length c1) ∧ l[i].Methods.length ≤ c1 ∧ C kl_Method w A1 l[i].Methods := by
  obtain ⟨ad, c, h1, h2, h3, h4⟩ := C_at h i hi
  obtain ⟨A1, c1, rfl, hl1, hC1⟩ := kl_Script_K h2
  exact ⟨ad, A1, c1, h1, h3 _ rfl, h4 0 _ rfl, hl1, hC1⟩
def ki_Script : Kn GScript := Kn.iso (Kn.pair Kn.string (Kn.slice 64 ki_Method)) (fun x => (x.Name, x.Methods))
theorem ki_Script_K {w : World} {x : GScript} {cs : List Value} (h : ki_Script.K w x cs) : ∃ (A1 : Option Addr) (c1 : Nat), cs = [.string x.Name, .slice A1 x.Methods.length c1] ∧ x.Methods.length ≤ c1 ∧ C ki_Method w A1 x.Methods := by
  obtain ⟨_, _, rfl, rfl, ⟨A1, c1, rfl, hl1, hC1⟩⟩ := h
  exact ⟨A1, c1, rfl, hl1, hC1⟩
theorem ki_Script_at {w : World} {A : Option Addr} {l : List GScript} (h : C ki_Script w A l) (i : Nat) (hi : i < l.length) : ∃ (ad : Addr) (A1 : Option Addr) (c1 : Nat), A = some ad ∧ w.cell? (ad.add (i * 2)) = some (.string l[i].Name) ∧ w.cell? ⟨(ad.add (i * 2)).block, (ad.add (i * 2)).off + 1, none⟩ = some (.slice A1 l[i].Methods.length c1) ∧ l[i].Methods.length ≤ c1 ∧ C ki_Method w A1 l[i].Methods := by
  obtain ⟨ad, c, h1, h2, h3, h4⟩ := C_at h i hi
  obtain ⟨A1, c1, rfl, hl1, hC1⟩ := ki_Script_K h2
  exact ⟨ad, A1, c1, h1, h3 _ rfl, h4 0 _ rfl, hl1, hC1⟩
theorem ki_Script_M {w : World} {F : Nat → Prop} {x : GScript} {cs : List Value} (h : ki_Script.M w F x cs) : ∃ (v1 : Value) (P1 : Nat → Prop), cs = [.string x.Name, v1] ∧ R ki_Method 64 w P1 v1 x.Methods ∧ (∀ k, P1 k → F k) := by
  obtain ⟨_, _, F0, G0, rfl, rfl, ⟨v1, rfl, hR1⟩, a0, b0, d0⟩ := h
  exact ⟨v1, G0, rfl, hR1, fun k hk => (b0 k hk)⟩
theorem ki_Script_mk (w : World) (F : Nat → Prop) (x : GScript) {v1 : Value} {P1 : Nat → Prop} (h1 : R ki_Method 64 w P1 v1 x.Methods) (i1 : ∀ k, P1 k → F k) : ki_Script.M w F x [.string x.Name, v1] :=
  ⟨[_], [_], No, P1, rfl, rfl, ⟨_, rfl, h1⟩, fun _ h => h.elim, i1, fun _ h => h.elim⟩
theorem ki_Script_info : (Try.prog.info? 78).map (fun i => (i.zero, i.size, i.bytes)) = some (some (.agg #[.string ⟨#[]⟩, .slice none 0 0]), 2, 40) := by kernel_rfl
theorem ki_Script_zero (w : World) : ki_Script.M w No zScript [.string ⟨#[]⟩, .slice none 0 0] := ki_Script_mk w No zScript (P1 := No) R_nil (fun _ h => h)
end Go.Proofs.YtliejlcoeoiajaaK

/- The kinds of the program's types, on the laws' side (kl) and the program's (ki): opened and put together. No conditions. -/
import Derived.Test.YtfnedoiplblldaaProg
import Derived.Test.YtfnedoiplblldaaT
import Derived.KernelRfl
namespace Go.Proofs.YtfnedoiplblldaaK
open Go.RowKit Go.Proofs.YtfnedoiplblldaaSep Go.Proofs.YtfnedoiplblldaaT
def kl_Value : Kn GValue := Kn.iso (Kn.pair Kn.int Kn.int) (fun x => (x.Kind, x.N))
theorem kl_Value_K {w : World} {x : GValue} {cs : List Value} (h : kl_Value.K w x cs) : cs = [.int .i64 x.Kind, .int .i64 x.N] := by
  obtain ⟨_, _, rfl, rfl, rfl⟩ := h
  exact rfl
theorem kl_Value_at {w : World} {A : Option Addr} {l : List GValue} (h : C kl_Value w A l) (i : Nat) (hi : i < l.length) : ∃ (ad : Addr), A = some ad ∧ w.cell? (ad.add (i * 2)) = some (.int .i64 l[i].Kind) ∧ w.cell? ⟨(ad.add (i * 2)).block, (ad.add (i * 2)).off + 1, none⟩ = some (.int .i64 l[i].N) := by
  obtain ⟨ad, c, h1, h2, h3, h4⟩ := C_at h i hi
  obtain rfl := kl_Value_K h2
  exact ⟨ad, h1, h3 _ rfl, h4 0 _ rfl⟩
def ki_Value : Kn GValue := Kn.iso (Kn.pair Kn.int Kn.int) (fun x => (x.Kind, x.N))
theorem ki_Value_K {w : World} {x : GValue} {cs : List Value} (h : ki_Value.K w x cs) : cs = [.int .i64 x.Kind, .int .i64 x.N] := by
  obtain ⟨_, _, rfl, rfl, rfl⟩ := h
  exact rfl
theorem ki_Value_at {w : World} {A : Option Addr} {l : List GValue} (h : C ki_Value w A l) (i : Nat) (hi : i < l.length) : ∃ (ad : Addr), A = some ad ∧ w.cell? (ad.add (i * 2)) = some (.int .i64 l[i].Kind) ∧ w.cell? ⟨(ad.add (i * 2)).block, (ad.add (i * 2)).off + 1, none⟩ = some (.int .i64 l[i].N) := by
  obtain ⟨ad, c, h1, h2, h3, h4⟩ := C_at h i hi
  obtain rfl := ki_Value_K h2
  exact ⟨ad, h1, h3 _ rfl, h4 0 _ rfl⟩
theorem ki_Value_M {w : World} {F : Nat → Prop} {x : GValue} {cs : List Value} (h : ki_Value.M w F x cs) : cs = [.int .i64 x.Kind, .int .i64 x.N] := by
  exact ki_Value_K (ki_Value.K_of_M h)
theorem ki_Value_mk (w : World) (F : Nat → Prop) (x : GValue) : ki_Value.M w F x [.int .i64 x.Kind, .int .i64 x.N] :=
  ⟨[_], [_], No, No, rfl, rfl, rfl, fun _ h => h.elim, fun _ h => h.elim, fun _ h => h.elim⟩
theorem ki_Value_info : (Try.prog.info? 54).map (fun i => (i.zero, i.size, i.bytes)) = some (some (.agg #[.int .i64 0, .int .i64 0]), 2, 16) := by kernel_rfl
theorem ki_Value_zero (w : World) : ki_Value.M w No zValue [.int .i64 0, .int .i64 0] := ki_Value_mk w No zValue
def kl_Tag : Kn GTag := Kn.iso (Kn.pair Kn.int (Kn.pair Kn.int Kn.int)) (fun x => (x.Vat, x.Entity, x.Seq))
theorem kl_Tag_K {w : World} {x : GTag} {cs : List Value} (h : kl_Tag.K w x cs) : cs = [.int .i64 x.Vat, .int .i64 x.Entity, .int .i64 x.Seq] := by
  obtain ⟨_, _, rfl, rfl, ⟨_, _, rfl, rfl, rfl⟩⟩ := h
  exact rfl
theorem kl_Tag_at {w : World} {A : Option Addr} {l : List GTag} (h : C kl_Tag w A l) (i : Nat) (hi : i < l.length) : ∃ (ad : Addr), A = some ad ∧ w.cell? (ad.add (i * 3)) = some (.int .i64 l[i].Vat) ∧ w.cell? ⟨(ad.add (i * 3)).block, (ad.add (i * 3)).off + 1, none⟩ = some (.int .i64 l[i].Entity) ∧ w.cell? ⟨(ad.add (i * 3)).block, (ad.add (i * 3)).off + 2, none⟩ = some (.int .i64 l[i].Seq) := by
  obtain ⟨ad, c, h1, h2, h3, h4⟩ := C_at h i hi
  obtain rfl := kl_Tag_K h2
  exact ⟨ad, h1, h3 _ rfl, h4 0 _ rfl, h4 1 _ rfl⟩
def ki_Tag : Kn GTag := Kn.iso (Kn.pair Kn.int (Kn.pair Kn.int Kn.int)) (fun x => (x.Vat, x.Entity, x.Seq))
theorem ki_Tag_K {w : World} {x : GTag} {cs : List Value} (h : ki_Tag.K w x cs) : cs = [.int .i64 x.Vat, .int .i64 x.Entity, .int .i64 x.Seq] := by
  obtain ⟨_, _, rfl, rfl, ⟨_, _, rfl, rfl, rfl⟩⟩ := h
  exact rfl
theorem ki_Tag_at {w : World} {A : Option Addr} {l : List GTag} (h : C ki_Tag w A l) (i : Nat) (hi : i < l.length) : ∃ (ad : Addr), A = some ad ∧ w.cell? (ad.add (i * 3)) = some (.int .i64 l[i].Vat) ∧ w.cell? ⟨(ad.add (i * 3)).block, (ad.add (i * 3)).off + 1, none⟩ = some (.int .i64 l[i].Entity) ∧ w.cell? ⟨(ad.add (i * 3)).block, (ad.add (i * 3)).off + 2, none⟩ = some (.int .i64 l[i].Seq) := by
  obtain ⟨ad, c, h1, h2, h3, h4⟩ := C_at h i hi
  obtain rfl := ki_Tag_K h2
  exact ⟨ad, h1, h3 _ rfl, h4 0 _ rfl, h4 1 _ rfl⟩
theorem ki_Tag_M {w : World} {F : Nat → Prop} {x : GTag} {cs : List Value} (h : ki_Tag.M w F x cs) : cs = [.int .i64 x.Vat, .int .i64 x.Entity, .int .i64 x.Seq] := by
  exact ki_Tag_K (ki_Tag.K_of_M h)
theorem ki_Tag_mk (w : World) (F : Nat → Prop) (x : GTag) : ki_Tag.M w F x [.int .i64 x.Vat, .int .i64 x.Entity, .int .i64 x.Seq] :=
  ⟨[_], [_, _], No, No, rfl, rfl, ⟨[_], [_], No, No, rfl, rfl, rfl, fun _ h => h.elim, fun _ h => h.elim, fun _ h => h.elim⟩, fun _ h => h.elim, fun _ h => h.elim, fun _ h => h.elim⟩
theorem ki_Tag_info : (Try.prog.info? 68).map (fun i => (i.zero, i.size, i.bytes)) = some (some (.agg #[.int .i64 0, .int .i64 0, .int .i64 0]), 3, 24) := by kernel_rfl
theorem ki_Tag_zero (w : World) : ki_Tag.M w No zTag [.int .i64 0, .int .i64 0, .int .i64 0] := ki_Tag_mk w No zTag
def kl_Sent : Kn GSent := Kn.iso (Kn.pair Kn.int (Kn.pair Kn.string (Kn.pair (Kn.slice 44 kl_Value) (Kn.pair Kn.int kl_Tag)))) (fun x => (x.Target, x.Name, x.Args, x.Result, x.Tag))
theorem kl_Sent_K {w : World} {x : GSent} {cs : List Value} (h : kl_Sent.K w x cs) : ∃ (A2 : Option Addr) (c2 : Nat), cs = [.int .i64 x.Target, .string x.Name, .slice A2 x.Args.length c2, .int .i64 x.Result, .int .i64 x.Tag.Vat, .int .i64 x.Tag.Entity, .int .i64 x.Tag.Seq] ∧ x.Args.length ≤ c2 ∧ C kl_Value w A2 x.Args := by
  obtain ⟨_, _, rfl, rfl, ⟨_, _, rfl, rfl, ⟨_, _, rfl, ⟨A2, c2, rfl, hl2, hC2⟩, ⟨_, _, rfl, rfl, s_Tag⟩⟩⟩⟩ := h
  obtain rfl := kl_Tag_K s_Tag
  exact ⟨A2, c2, rfl, hl2, hC2⟩
theorem kl_Sent_at {w : World} {A : Option Addr} {l : List GSent} (h : C kl_Sent w A l) (i : Nat) (hi : i < l.length) : ∃ (ad : Addr) (A2 : Option Addr) (c2 : Nat), A = some ad ∧ w.cell? (ad.add (i * 7)) = some (.int .i64 l[i].Target) ∧ w.cell? ⟨(ad.add (i * 7)).block, (ad.add (i * 7)).off + 1, none⟩ = some (.string l[i].Name) ∧ w.cell? ⟨(ad.add (i * 7)).block, (ad.add (i * 7)).off + 2, none⟩ = some (.slice A2 l[i].Args.length c2) ∧ w.cell? ⟨(ad.add (i * 7)).block, (ad.add (i * 7)).off + 3, none⟩ = some (.int .i64 l[i].Result) ∧ w.cell? ⟨(ad.add (i * 7)).block, (ad.add (i * 7)).off + 4, none⟩ = some (.int .i64 l[i].Tag.Vat) ∧ w.cell? ⟨(ad.add (i * 7)).block, (ad.add (i * 7)).off + 5, none⟩ = some (.int .i64 l[i].Tag.Entity) ∧ w.cell? ⟨(ad.add (i * 7)).block, (ad.add (i * 7)).off + 6, none⟩ = some (.int .i64 l[i].Tag.Seq) ∧ l[i].Args.length ≤ c2 ∧ C kl_Value w A2 l[i].Args := by
  obtain ⟨ad, c, h1, h2, h3, h4⟩ := C_at h i hi
  obtain ⟨A2, c2, rfl, hl2, hC2⟩ := kl_Sent_K h2
  exact ⟨ad, A2, c2, h1, h3 _ rfl, h4 0 _ rfl, h4 1 _ rfl, h4 2 _ rfl, h4 3 _ rfl, h4 4 _ rfl, h4 5 _ rfl, hl2, hC2⟩
def ki_Sent : Kn GSent := Kn.iso (Kn.pair Kn.int (Kn.pair Kn.string (Kn.pair (Kn.slice 54 ki_Value) (Kn.pair Kn.int ki_Tag)))) (fun x => (x.Target, x.Name, x.Args, x.Result, x.Tag))
theorem ki_Sent_K {w : World} {x : GSent} {cs : List Value} (h : ki_Sent.K w x cs) : ∃ (A2 : Option Addr) (c2 : Nat), cs = [.int .i64 x.Target, .string x.Name, .slice A2 x.Args.length c2, .int .i64 x.Result, .int .i64 x.Tag.Vat, .int .i64 x.Tag.Entity, .int .i64 x.Tag.Seq] ∧ x.Args.length ≤ c2 ∧ C ki_Value w A2 x.Args := by
  obtain ⟨_, _, rfl, rfl, ⟨_, _, rfl, rfl, ⟨_, _, rfl, ⟨A2, c2, rfl, hl2, hC2⟩, ⟨_, _, rfl, rfl, s_Tag⟩⟩⟩⟩ := h
  obtain rfl := ki_Tag_K s_Tag
  exact ⟨A2, c2, rfl, hl2, hC2⟩
theorem ki_Sent_at {w : World} {A : Option Addr} {l : List GSent} (h : C ki_Sent w A l) (i : Nat) (hi : i < l.length) : ∃ (ad : Addr) (A2 : Option Addr) (c2 : Nat), A = some ad ∧ w.cell? (ad.add (i * 7)) = some (.int .i64 l[i].Target) ∧ w.cell? ⟨(ad.add (i * 7)).block, (ad.add (i * 7)).off + 1, none⟩ = some (.string l[i].Name) ∧ w.cell? ⟨(ad.add (i * 7)).block, (ad.add (i * 7)).off + 2, none⟩ = some (.slice A2 l[i].Args.length c2) ∧ w.cell? ⟨(ad.add (i * 7)).block, (ad.add (i * 7)).off + 3, none⟩ = some (.int .i64 l[i].Result) ∧ w.cell? ⟨(ad.add (i * 7)).block, (ad.add (i * 7)).off + 4, none⟩ = some (.int .i64 l[i].Tag.Vat) ∧ w.cell? ⟨(ad.add (i * 7)).block, (ad.add (i * 7)).off + 5, none⟩ = some (.int .i64 l[i].Tag.Entity) ∧ w.cell? ⟨(ad.add (i * 7)).block, (ad.add (i * 7)).off + 6, none⟩ = some (.int .i64 l[i].Tag.Seq) ∧ l[i].Args.length ≤ c2 ∧ C ki_Value w A2 l[i].Args := by
  obtain ⟨ad, c, h1, h2, h3, h4⟩ := C_at h i hi
  obtain ⟨A2, c2, rfl, hl2, hC2⟩ := ki_Sent_K h2
  exact ⟨ad, A2, c2, h1, h3 _ rfl, h4 0 _ rfl, h4 1 _ rfl, h4 2 _ rfl, h4 3 _ rfl, h4 4 _ rfl, h4 5 _ rfl, hl2, hC2⟩
theorem ki_Sent_M {w : World} {F : Nat → Prop} {x : GSent} {cs : List Value} (h : ki_Sent.M w F x cs) : ∃ (v2 : Value) (P2 : Nat → Prop), cs = [.int .i64 x.Target, .string x.Name, v2, .int .i64 x.Result, .int .i64 x.Tag.Vat, .int .i64 x.Tag.Entity, .int .i64 x.Tag.Seq] ∧ R ki_Value 54 w P2 v2 x.Args ∧ (∀ k, P2 k → F k) := by
  obtain ⟨_, _, F0, G0, rfl, rfl, ⟨_, _, F1, G1, rfl, rfl, ⟨_, _, F2, G2, rfl, ⟨v2, rfl, hR2⟩, ⟨_, _, F3, G3, rfl, rfl, s4, a3, b3, d3⟩, a2, b2, d2⟩, a1, b1, d1⟩, a0, b0, d0⟩ := h
  obtain rfl := ki_Tag_M s4
  exact ⟨v2, F2, rfl, hR2, fun k hk => (b0 k (b1 k (a2 k hk)))⟩
theorem ki_Sent_mk (w : World) (F : Nat → Prop) (x : GSent) {v2 : Value} {P2 : Nat → Prop} (h2 : R ki_Value 54 w P2 v2 x.Args) (i2 : ∀ k, P2 k → F k) : ki_Sent.M w F x [.int .i64 x.Target, .string x.Name, v2, .int .i64 x.Result, .int .i64 x.Tag.Vat, .int .i64 x.Tag.Entity, .int .i64 x.Tag.Seq] :=
  ⟨[_], [_, _, _, _, _, _], No, P2, rfl, rfl, ⟨[_], [_, _, _, _, _], No, P2, rfl, rfl, ⟨[_], [_, _, _, _], P2, No, rfl, ⟨_, rfl, h2⟩, ⟨[_], [_, _, _], No, No, rfl, rfl, (ki_Tag_mk w No _), fun _ h => h.elim, fun _ h => h.elim, fun _ h => h.elim⟩, fun _ h => h, fun _ h => h.elim, fun _ _ h => h.elim⟩, fun _ h => h.elim, fun _ h => h, fun _ h => h.elim⟩, fun _ h => h.elim, i2, fun _ h => h.elim⟩
theorem ki_Sent_info : (Try.prog.info? 177).map (fun i => (i.zero, i.size, i.bytes)) = some (some (.agg #[.int .i64 0, .string ⟨#[]⟩, .slice none 0 0, .int .i64 0, .int .i64 0, .int .i64 0, .int .i64 0]), 7, 80) := by kernel_rfl
theorem ki_Sent_zero (w : World) : ki_Sent.M w No zSent [.int .i64 0, .string ⟨#[]⟩, .slice none 0 0, .int .i64 0, .int .i64 0, .int .i64 0, .int .i64 0] := ki_Sent_mk w No zSent (P2 := No) R_nil (fun _ h => h)
def kl_Asker : Kn GAsker := Kn.iso (Kn.pair Kn.int Kn.int) (fun x => (x.Peer, x.Question))
theorem kl_Asker_K {w : World} {x : GAsker} {cs : List Value} (h : kl_Asker.K w x cs) : cs = [.int .i64 x.Peer, .int .i64 x.Question] := by
  obtain ⟨_, _, rfl, rfl, rfl⟩ := h
  exact rfl
theorem kl_Asker_at {w : World} {A : Option Addr} {l : List GAsker} (h : C kl_Asker w A l) (i : Nat) (hi : i < l.length) : ∃ (ad : Addr), A = some ad ∧ w.cell? (ad.add (i * 2)) = some (.int .i64 l[i].Peer) ∧ w.cell? ⟨(ad.add (i * 2)).block, (ad.add (i * 2)).off + 1, none⟩ = some (.int .i64 l[i].Question) := by
  obtain ⟨ad, c, h1, h2, h3, h4⟩ := C_at h i hi
  obtain rfl := kl_Asker_K h2
  exact ⟨ad, h1, h3 _ rfl, h4 0 _ rfl⟩
def ki_Asker : Kn GAsker := Kn.iso (Kn.pair Kn.int Kn.int) (fun x => (x.Peer, x.Question))
theorem ki_Asker_K {w : World} {x : GAsker} {cs : List Value} (h : ki_Asker.K w x cs) : cs = [.int .i64 x.Peer, .int .i64 x.Question] := by
  obtain ⟨_, _, rfl, rfl, rfl⟩ := h
  exact rfl
theorem ki_Asker_at {w : World} {A : Option Addr} {l : List GAsker} (h : C ki_Asker w A l) (i : Nat) (hi : i < l.length) : ∃ (ad : Addr), A = some ad ∧ w.cell? (ad.add (i * 2)) = some (.int .i64 l[i].Peer) ∧ w.cell? ⟨(ad.add (i * 2)).block, (ad.add (i * 2)).off + 1, none⟩ = some (.int .i64 l[i].Question) := by
  obtain ⟨ad, c, h1, h2, h3, h4⟩ := C_at h i hi
  obtain rfl := ki_Asker_K h2
  exact ⟨ad, h1, h3 _ rfl, h4 0 _ rfl⟩
theorem ki_Asker_M {w : World} {F : Nat → Prop} {x : GAsker} {cs : List Value} (h : ki_Asker.M w F x cs) : cs = [.int .i64 x.Peer, .int .i64 x.Question] := by
  exact ki_Asker_K (ki_Asker.K_of_M h)
theorem ki_Asker_mk (w : World) (F : Nat → Prop) (x : GAsker) : ki_Asker.M w F x [.int .i64 x.Peer, .int .i64 x.Question] :=
  ⟨[_], [_], No, No, rfl, rfl, rfl, fun _ h => h.elim, fun _ h => h.elim, fun _ h => h.elim⟩
theorem ki_Asker_info : (Try.prog.info? 205).map (fun i => (i.zero, i.size, i.bytes)) = some (some (.agg #[.int .i64 0, .int .i64 0]), 2, 16) := by kernel_rfl
theorem ki_Asker_zero (w : World) : ki_Asker.M w No zAsker [.int .i64 0, .int .i64 0] := ki_Asker_mk w No zAsker
def kl_Entity : Kn GEntity := Kn.iso (Kn.pair Kn.int (Kn.pair Kn.int (Kn.pair (Kn.slice 44 kl_Value) (Kn.pair Kn.int (Kn.pair kl_Value (Kn.pair (Kn.slice 187 kl_Sent) (Kn.pair (Kn.slice 207 kl_Asker) (Kn.pair Kn.int (Kn.pair Kn.int (Kn.pair Kn.int Kn.int)))))))))) (fun x => (x.Kind, x.Script, x.Slots, x.State, x.Value, x.Queue, x.Askers, x.Peer, x.Pos, x.Count, x.Sent))
theorem kl_Entity_K {w : World} {x : GEntity} {cs : List Value} (h : kl_Entity.K w x cs) : ∃ (A2 : Option Addr) (c2 : Nat) (A6 : Option Addr) (c6 : Nat) (A7 : Option Addr) (c7 : Nat), cs = [.int .i64 x.Kind, .int .i64 x.Script, .slice A2 x.Slots.length c2, .int .i64 x.State, .int .i64 x.Value.Kind, .int .i64 x.Value.N, .slice A6 x.Queue.length c6, .slice A7 x.Askers.length c7, .int .i64 x.Peer, .int .i64 x.Pos, .int .i64 x.Count, .int .i64 x.Sent] ∧ x.Slots.length ≤ c2 ∧ C kl_Value w A2 x.Slots ∧ x.Queue.length ≤ c6 ∧ C kl_Sent w A6 x.Queue ∧ x.Askers.length ≤ c7 ∧ C kl_Asker w A7 x.Askers := by
  obtain ⟨_, _, rfl, rfl, ⟨_, _, rfl, rfl, ⟨_, _, rfl, ⟨A2, c2, rfl, hl2, hC2⟩, ⟨_, _, rfl, rfl, ⟨_, _, rfl, s_Value, ⟨_, _, rfl, ⟨A6, c6, rfl, hl6, hC6⟩, ⟨_, _, rfl, ⟨A7, c7, rfl, hl7, hC7⟩, ⟨_, _, rfl, rfl, ⟨_, _, rfl, rfl, ⟨_, _, rfl, rfl, rfl⟩⟩⟩⟩⟩⟩⟩⟩⟩⟩ := h
  obtain rfl := kl_Value_K s_Value
  exact ⟨A2, c2, A6, c6, A7, c7, rfl, hl2, hC2, hl6, hC6, hl7, hC7⟩
theorem kl_Entity_at {w : World} {A : Option Addr} {l : List GEntity} (h : C kl_Entity w A l) (i : Nat) (hi : i < l.length) : ∃ (ad : Addr) (A2 : Option Addr) (c2 : Nat) (A6 : Option Addr) (c6 : Nat) (A7 : Option Addr) (c7 : Nat), A = some ad ∧ w.cell? (ad.add (i * 12)) = some (.int .i64 l[i].Kind) ∧ w.cell? ⟨(ad.add (i * 12)).block, (ad.add (i * 12)).off + 1, none⟩ = some (.int .i64 l[i].Script) ∧ w.cell? ⟨(ad.add (i * 12)).block, (ad.add (i * 12)).off + 2, none⟩ = some (.slice A2 l[i].Slots.length c2) ∧ w.cell? ⟨(ad.add (i * 12)).block, (ad.add (i * 12)).off + 3, none⟩ = some (.int .i64 l[i].State) ∧ w.cell? ⟨(ad.add (i * 12)).block, (ad.add (i * 12)).off + 4, none⟩ = some (.int .i64 l[i].Value.Kind) ∧ w.cell? ⟨(ad.add (i * 12)).block, (ad.add (i * 12)).off + 5, none⟩ = some (.int .i64 l[i].Value.N) ∧ w.cell? ⟨(ad.add (i * 12)).block, (ad.add (i * 12)).off + 6, none⟩ = some (.slice A6 l[i].Queue.length c6) ∧ w.cell? ⟨(ad.add (i * 12)).block, (ad.add (i * 12)).off + 7, none⟩ = some (.slice A7 l[i].Askers.length c7) ∧ w.cell? ⟨(ad.add (i * 12)).block, (ad.add (i * 12)).off + 8, none⟩ = some (.int .i64 l[i].Peer) ∧ w.cell? ⟨(ad.add (i * 12)).block, (ad.add (i * 12)).off + 9, none⟩ = some (.int .i64 l[i].Pos) ∧ w.cell? ⟨(ad.add (i * 12)).block, (ad.add (i * 12)).off + 10, none⟩ = some (.int .i64 l[i].Count) ∧ w.cell? ⟨(ad.add (i * 12)).block, (ad.add (i * 12)).off + 11, none⟩ = some (.int .i64 l[i].Sent) ∧ l[i].Slots.length ≤ c2 ∧ C kl_Value w A2 l[i].Slots ∧ l[i].Queue.length ≤ c6 ∧ C kl_Sent w A6 l[i].Queue ∧ l[i].Askers.length ≤ c7 ∧ C kl_Asker w A7 l[i].Askers := by
  obtain ⟨ad, c, h1, h2, h3, h4⟩ := C_at h i hi
  obtain ⟨A2, c2, A6, c6, A7, c7, rfl, hl2, hC2, hl6, hC6, hl7, hC7⟩ := kl_Entity_K h2
  exact ⟨ad, A2, c2, A6, c6, A7, c7, h1, h3 _ rfl, h4 0 _ rfl, h4 1 _ rfl, h4 2 _ rfl, h4 3 _ rfl, h4 4 _ rfl, h4 5 _ rfl, h4 6 _ rfl, h4 7 _ rfl, h4 8 _ rfl, h4 9 _ rfl, h4 10 _ rfl, hl2, hC2, hl6, hC6, hl7, hC7⟩
def ki_Entity : Kn GEntity := Kn.iso (Kn.pair Kn.int (Kn.pair Kn.int (Kn.pair (Kn.slice 54 ki_Value) (Kn.pair Kn.int (Kn.pair ki_Value (Kn.pair (Kn.slice 177 ki_Sent) (Kn.pair (Kn.slice 205 ki_Asker) (Kn.pair Kn.int (Kn.pair Kn.int (Kn.pair Kn.int Kn.int)))))))))) (fun x => (x.Kind, x.Script, x.Slots, x.State, x.Value, x.Queue, x.Askers, x.Peer, x.Pos, x.Count, x.Sent))
theorem ki_Entity_K {w : World} {x : GEntity} {cs : List Value} (h : ki_Entity.K w x cs) : ∃ (A2 : Option Addr) (c2 : Nat) (A6 : Option Addr) (c6 : Nat) (A7 : Option Addr) (c7 : Nat), cs = [.int .i64 x.Kind, .int .i64 x.Script, .slice A2 x.Slots.length c2, .int .i64 x.State, .int .i64 x.Value.Kind, .int .i64 x.Value.N, .slice A6 x.Queue.length c6, .slice A7 x.Askers.length c7, .int .i64 x.Peer, .int .i64 x.Pos, .int .i64 x.Count, .int .i64 x.Sent] ∧ x.Slots.length ≤ c2 ∧ C ki_Value w A2 x.Slots ∧ x.Queue.length ≤ c6 ∧ C ki_Sent w A6 x.Queue ∧ x.Askers.length ≤ c7 ∧ C ki_Asker w A7 x.Askers := by
  obtain ⟨_, _, rfl, rfl, ⟨_, _, rfl, rfl, ⟨_, _, rfl, ⟨A2, c2, rfl, hl2, hC2⟩, ⟨_, _, rfl, rfl, ⟨_, _, rfl, s_Value, ⟨_, _, rfl, ⟨A6, c6, rfl, hl6, hC6⟩, ⟨_, _, rfl, ⟨A7, c7, rfl, hl7, hC7⟩, ⟨_, _, rfl, rfl, ⟨_, _, rfl, rfl, ⟨_, _, rfl, rfl, rfl⟩⟩⟩⟩⟩⟩⟩⟩⟩⟩ := h
  obtain rfl := ki_Value_K s_Value
  exact ⟨A2, c2, A6, c6, A7, c7, rfl, hl2, hC2, hl6, hC6, hl7, hC7⟩
theorem ki_Entity_at {w : World} {A : Option Addr} {l : List GEntity} (h : C ki_Entity w A l) (i : Nat) (hi : i < l.length) : ∃ (ad : Addr) (A2 : Option Addr) (c2 : Nat) (A6 : Option Addr) (c6 : Nat) (A7 : Option Addr) (c7 : Nat), A = some ad ∧ w.cell? (ad.add (i * 12)) = some (.int .i64 l[i].Kind) ∧ w.cell? ⟨(ad.add (i * 12)).block, (ad.add (i * 12)).off + 1, none⟩ = some (.int .i64 l[i].Script) ∧ w.cell? ⟨(ad.add (i * 12)).block, (ad.add (i * 12)).off + 2, none⟩ = some (.slice A2 l[i].Slots.length c2) ∧ w.cell? ⟨(ad.add (i * 12)).block, (ad.add (i * 12)).off + 3, none⟩ = some (.int .i64 l[i].State) ∧ w.cell? ⟨(ad.add (i * 12)).block, (ad.add (i * 12)).off + 4, none⟩ = some (.int .i64 l[i].Value.Kind) ∧ w.cell? ⟨(ad.add (i * 12)).block, (ad.add (i * 12)).off + 5, none⟩ = some (.int .i64 l[i].Value.N) ∧ w.cell? ⟨(ad.add (i * 12)).block, (ad.add (i * 12)).off + 6, none⟩ = some (.slice A6 l[i].Queue.length c6) ∧ w.cell? ⟨(ad.add (i * 12)).block, (ad.add (i * 12)).off + 7, none⟩ = some (.slice A7 l[i].Askers.length c7) ∧ w.cell? ⟨(ad.add (i * 12)).block, (ad.add (i * 12)).off + 8, none⟩ = some (.int .i64 l[i].Peer) ∧ w.cell? ⟨(ad.add (i * 12)).block, (ad.add (i * 12)).off + 9, none⟩ = some (.int .i64 l[i].Pos) ∧ w.cell? ⟨(ad.add (i * 12)).block, (ad.add (i * 12)).off + 10, none⟩ = some (.int .i64 l[i].Count) ∧ w.cell? ⟨(ad.add (i * 12)).block, (ad.add (i * 12)).off + 11, none⟩ = some (.int .i64 l[i].Sent) ∧ l[i].Slots.length ≤ c2 ∧ C ki_Value w A2 l[i].Slots ∧ l[i].Queue.length ≤ c6 ∧ C ki_Sent w A6 l[i].Queue ∧ l[i].Askers.length ≤ c7 ∧ C ki_Asker w A7 l[i].Askers := by
  obtain ⟨ad, c, h1, h2, h3, h4⟩ := C_at h i hi
  obtain ⟨A2, c2, A6, c6, A7, c7, rfl, hl2, hC2, hl6, hC6, hl7, hC7⟩ := ki_Entity_K h2
  exact ⟨ad, A2, c2, A6, c6, A7, c7, h1, h3 _ rfl, h4 0 _ rfl, h4 1 _ rfl, h4 2 _ rfl, h4 3 _ rfl, h4 4 _ rfl, h4 5 _ rfl, h4 6 _ rfl, h4 7 _ rfl, h4 8 _ rfl, h4 9 _ rfl, h4 10 _ rfl, hl2, hC2, hl6, hC6, hl7, hC7⟩
theorem ki_Entity_M {w : World} {F : Nat → Prop} {x : GEntity} {cs : List Value} (h : ki_Entity.M w F x cs) : ∃ (v2 : Value) (P2 : Nat → Prop) (v6 : Value) (P6 : Nat → Prop) (v7 : Value) (P7 : Nat → Prop), cs = [.int .i64 x.Kind, .int .i64 x.Script, v2, .int .i64 x.State, .int .i64 x.Value.Kind, .int .i64 x.Value.N, v6, v7, .int .i64 x.Peer, .int .i64 x.Pos, .int .i64 x.Count, .int .i64 x.Sent] ∧ R ki_Value 54 w P2 v2 x.Slots ∧ R ki_Sent 177 w P6 v6 x.Queue ∧ R ki_Asker 205 w P7 v7 x.Askers ∧ (∀ k, P2 k → F k) ∧ (∀ k, P6 k → F k) ∧ (∀ k, P7 k → F k) ∧ (∀ k, P2 k → ¬ P6 k) ∧ (∀ k, P2 k → ¬ P7 k) ∧ (∀ k, P6 k → ¬ P7 k) := by
  obtain ⟨_, _, F0, G0, rfl, rfl, ⟨_, _, F1, G1, rfl, rfl, ⟨_, _, F2, G2, rfl, ⟨v2, rfl, hR2⟩, ⟨_, _, F3, G3, rfl, rfl, ⟨_, _, F4, G4, rfl, s4, ⟨_, _, F5, G5, rfl, ⟨v6, rfl, hR6⟩, ⟨_, _, F6, G6, rfl, ⟨v7, rfl, hR7⟩, ⟨_, _, F7, G7, rfl, rfl, ⟨_, _, F8, G8, rfl, rfl, ⟨_, _, F9, G9, rfl, rfl, rfl, a9, b9, d9⟩, a8, b8, d8⟩, a7, b7, d7⟩, a6, b6, d6⟩, a5, b5, d5⟩, a4, b4, d4⟩, a3, b3, d3⟩, a2, b2, d2⟩, a1, b1, d1⟩, a0, b0, d0⟩ := h
  obtain rfl := ki_Value_M s4
  exact ⟨v2, F2, v6, F5, v7, F6, rfl, hR2, hR6, hR7, fun k hk => (b0 k (b1 k (a2 k hk))), fun k hk => (b0 k (b1 k (b2 k (b3 k (b4 k (a5 k hk)))))), fun k hk => (b0 k (b1 k (b2 k (b3 k (b4 k (b5 k (a6 k hk))))))), fun k hk hk' => d2 k hk (b3 k (b4 k (a5 k hk'))), fun k hk hk' => d2 k hk (b3 k (b4 k (b5 k (a6 k hk')))), fun k hk hk' => d5 k hk (a6 k hk')⟩
theorem ki_Entity_mk (w : World) (F : Nat → Prop) (x : GEntity) {v2 : Value} {P2 : Nat → Prop} (h2 : R ki_Value 54 w P2 v2 x.Slots) {v6 : Value} {P6 : Nat → Prop} (h6 : R ki_Sent 177 w P6 v6 x.Queue) {v7 : Value} {P7 : Nat → Prop} (h7 : R ki_Asker 205 w P7 v7 x.Askers) (i2 : ∀ k, P2 k → F k) (i6 : ∀ k, P6 k → F k) (i7 : ∀ k, P7 k → F k) (d2_6 : ∀ k, P2 k → ¬ P6 k) (d2_7 : ∀ k, P2 k → ¬ P7 k) (d6_7 : ∀ k, P6 k → ¬ P7 k) : ki_Entity.M w F x [.int .i64 x.Kind, .int .i64 x.Script, v2, .int .i64 x.State, .int .i64 x.Value.Kind, .int .i64 x.Value.N, v6, v7, .int .i64 x.Peer, .int .i64 x.Pos, .int .i64 x.Count, .int .i64 x.Sent] :=
  ⟨[_], [_, _, _, _, _, _, _, _, _, _, _], No, (fun k => P2 k ∨ P6 k ∨ P7 k), rfl, rfl, ⟨[_], [_, _, _, _, _, _, _, _, _, _], No, (fun k => P2 k ∨ P6 k ∨ P7 k), rfl, rfl, ⟨[_], [_, _, _, _, _, _, _, _, _], P2, (fun k => P6 k ∨ P7 k), rfl, ⟨_, rfl, h2⟩, ⟨[_], [_, _, _, _, _, _, _, _], No, (fun k => P6 k ∨ P7 k), rfl, rfl, ⟨[_, _], [_, _, _, _, _, _], No, (fun k => P6 k ∨ P7 k), rfl, (ki_Value_mk w No _), ⟨[_], [_, _, _, _, _], P6, P7, rfl, ⟨_, rfl, h6⟩, ⟨[_], [_, _, _, _], P7, No, rfl, ⟨_, rfl, h7⟩, ⟨[_], [_, _, _], No, No, rfl, rfl, ⟨[_], [_, _], No, No, rfl, rfl, ⟨[_], [_], No, No, rfl, rfl, rfl, fun _ h => h.elim, fun _ h => h.elim, fun _ h => h.elim⟩, fun _ h => h.elim, fun _ h => h.elim, fun _ h => h.elim⟩, fun _ h => h.elim, fun _ h => h.elim, fun _ h => h.elim⟩, fun _ h => h, fun _ h => h.elim, fun _ _ h => h.elim⟩, fun k h => by first | exact h | exact Or.inl h | exact Or.inr h, fun k h => by first | exact h | exact Or.inl h | exact Or.inr h, fun k h h' => by exact d6_7 k h h'⟩, fun _ h => h.elim, fun k h => by first | exact h | exact Or.inl h | exact Or.inr h, fun _ h => h.elim⟩, fun _ h => h.elim, fun k h => by first | exact h | exact Or.inl h | exact Or.inr h, fun _ h => h.elim⟩, fun k h => by first | exact h | exact Or.inl h | exact Or.inr h, fun k h => by first | exact h | exact Or.inl h | exact Or.inr h, fun k h h' => by rcases h' with h' | h' <;> first | exact d2_6 k h h' | exact d2_7 k h h'⟩, fun _ h => h.elim, fun k h => by first | exact h | exact Or.inl h | exact Or.inr h, fun _ h => h.elim⟩, fun _ h => h.elim, fun k h => by rcases h with h | h | h <;> first | exact i2 k h | exact i6 k h | exact i7 k h, fun _ h => h.elim⟩
theorem ki_Entity_info : (Try.prog.info? 57).map (fun i => (i.zero, i.size, i.bytes)) = some (some (.agg #[.int .i64 0, .int .i64 0, .slice none 0 0, .int .i64 0, .int .i64 0, .int .i64 0, .slice none 0 0, .slice none 0 0, .int .i64 0, .int .i64 0, .int .i64 0, .int .i64 0]), 12, 144) := by kernel_rfl
theorem ki_Entity_zero (w : World) : ki_Entity.M w No zEntity [.int .i64 0, .int .i64 0, .slice none 0 0, .int .i64 0, .int .i64 0, .int .i64 0, .slice none 0 0, .slice none 0 0, .int .i64 0, .int .i64 0, .int .i64 0, .int .i64 0] := ki_Entity_mk w No zEntity (P2 := No) R_nil (P6 := No) R_nil (P7 := No) R_nil (fun _ h => h) (fun _ h => h) (fun _ h => h) (fun _ h => h.elim) (fun _ h => h.elim) (fun _ h => h.elim)
def kl_Export : Kn GExport := Kn.iso (Kn.pair Kn.int (Kn.pair Kn.int Kn.int)) (fun x => (x.Pos, x.Entity, x.Count))
theorem kl_Export_K {w : World} {x : GExport} {cs : List Value} (h : kl_Export.K w x cs) : cs = [.int .i64 x.Pos, .int .i64 x.Entity, .int .i64 x.Count] := by
  obtain ⟨_, _, rfl, rfl, ⟨_, _, rfl, rfl, rfl⟩⟩ := h
  exact rfl
theorem kl_Export_at {w : World} {A : Option Addr} {l : List GExport} (h : C kl_Export w A l) (i : Nat) (hi : i < l.length) : ∃ (ad : Addr), A = some ad ∧ w.cell? (ad.add (i * 3)) = some (.int .i64 l[i].Pos) ∧ w.cell? ⟨(ad.add (i * 3)).block, (ad.add (i * 3)).off + 1, none⟩ = some (.int .i64 l[i].Entity) ∧ w.cell? ⟨(ad.add (i * 3)).block, (ad.add (i * 3)).off + 2, none⟩ = some (.int .i64 l[i].Count) := by
  obtain ⟨ad, c, h1, h2, h3, h4⟩ := C_at h i hi
  obtain rfl := kl_Export_K h2
  exact ⟨ad, h1, h3 _ rfl, h4 0 _ rfl, h4 1 _ rfl⟩
def ki_Export : Kn GExport := Kn.iso (Kn.pair Kn.int (Kn.pair Kn.int Kn.int)) (fun x => (x.Pos, x.Entity, x.Count))
theorem ki_Export_K {w : World} {x : GExport} {cs : List Value} (h : ki_Export.K w x cs) : cs = [.int .i64 x.Pos, .int .i64 x.Entity, .int .i64 x.Count] := by
  obtain ⟨_, _, rfl, rfl, ⟨_, _, rfl, rfl, rfl⟩⟩ := h
  exact rfl
theorem ki_Export_at {w : World} {A : Option Addr} {l : List GExport} (h : C ki_Export w A l) (i : Nat) (hi : i < l.length) : ∃ (ad : Addr), A = some ad ∧ w.cell? (ad.add (i * 3)) = some (.int .i64 l[i].Pos) ∧ w.cell? ⟨(ad.add (i * 3)).block, (ad.add (i * 3)).off + 1, none⟩ = some (.int .i64 l[i].Entity) ∧ w.cell? ⟨(ad.add (i * 3)).block, (ad.add (i * 3)).off + 2, none⟩ = some (.int .i64 l[i].Count) := by
  obtain ⟨ad, c, h1, h2, h3, h4⟩ := C_at h i hi
  obtain rfl := ki_Export_K h2
  exact ⟨ad, h1, h3 _ rfl, h4 0 _ rfl, h4 1 _ rfl⟩
theorem ki_Export_M {w : World} {F : Nat → Prop} {x : GExport} {cs : List Value} (h : ki_Export.M w F x cs) : cs = [.int .i64 x.Pos, .int .i64 x.Entity, .int .i64 x.Count] := by
  exact ki_Export_K (ki_Export.K_of_M h)
theorem ki_Export_mk (w : World) (F : Nat → Prop) (x : GExport) : ki_Export.M w F x [.int .i64 x.Pos, .int .i64 x.Entity, .int .i64 x.Count] :=
  ⟨[_], [_, _], No, No, rfl, rfl, ⟨[_], [_], No, No, rfl, rfl, rfl, fun _ h => h.elim, fun _ h => h.elim, fun _ h => h.elim⟩, fun _ h => h.elim, fun _ h => h.elim, fun _ h => h.elim⟩
theorem ki_Export_info : (Try.prog.info? 172).map (fun i => (i.zero, i.size, i.bytes)) = some (some (.agg #[.int .i64 0, .int .i64 0, .int .i64 0]), 3, 24) := by kernel_rfl
theorem ki_Export_zero (w : World) : ki_Export.M w No zExport [.int .i64 0, .int .i64 0, .int .i64 0] := ki_Export_mk w No zExport
def kl_Question : Kn GQuestion := Kn.iso (Kn.pair Kn.int Kn.int) (fun x => (x.Id, x.Promise))
theorem kl_Question_K {w : World} {x : GQuestion} {cs : List Value} (h : kl_Question.K w x cs) : cs = [.int .i64 x.Id, .int .i64 x.Promise] := by
  obtain ⟨_, _, rfl, rfl, rfl⟩ := h
  exact rfl
theorem kl_Question_at {w : World} {A : Option Addr} {l : List GQuestion} (h : C kl_Question w A l) (i : Nat) (hi : i < l.length) : ∃ (ad : Addr), A = some ad ∧ w.cell? (ad.add (i * 2)) = some (.int .i64 l[i].Id) ∧ w.cell? ⟨(ad.add (i * 2)).block, (ad.add (i * 2)).off + 1, none⟩ = some (.int .i64 l[i].Promise) := by
  obtain ⟨ad, c, h1, h2, h3, h4⟩ := C_at h i hi
  obtain rfl := kl_Question_K h2
  exact ⟨ad, h1, h3 _ rfl, h4 0 _ rfl⟩
def ki_Question : Kn GQuestion := Kn.iso (Kn.pair Kn.int Kn.int) (fun x => (x.Id, x.Promise))
theorem ki_Question_K {w : World} {x : GQuestion} {cs : List Value} (h : ki_Question.K w x cs) : cs = [.int .i64 x.Id, .int .i64 x.Promise] := by
  obtain ⟨_, _, rfl, rfl, rfl⟩ := h
  exact rfl
theorem ki_Question_at {w : World} {A : Option Addr} {l : List GQuestion} (h : C ki_Question w A l) (i : Nat) (hi : i < l.length) : ∃ (ad : Addr), A = some ad ∧ w.cell? (ad.add (i * 2)) = some (.int .i64 l[i].Id) ∧ w.cell? ⟨(ad.add (i * 2)).block, (ad.add (i * 2)).off + 1, none⟩ = some (.int .i64 l[i].Promise) := by
  obtain ⟨ad, c, h1, h2, h3, h4⟩ := C_at h i hi
  obtain rfl := ki_Question_K h2
  exact ⟨ad, h1, h3 _ rfl, h4 0 _ rfl⟩
theorem ki_Question_M {w : World} {F : Nat → Prop} {x : GQuestion} {cs : List Value} (h : ki_Question.M w F x cs) : cs = [.int .i64 x.Id, .int .i64 x.Promise] := by
  exact ki_Question_K (ki_Question.K_of_M h)
theorem ki_Question_mk (w : World) (F : Nat → Prop) (x : GQuestion) : ki_Question.M w F x [.int .i64 x.Id, .int .i64 x.Promise] :=
  ⟨[_], [_], No, No, rfl, rfl, rfl, fun _ h => h.elim, fun _ h => h.elim, fun _ h => h.elim⟩
theorem ki_Question_info : (Try.prog.info? 230).map (fun i => (i.zero, i.size, i.bytes)) = some (some (.agg #[.int .i64 0, .int .i64 0]), 2, 16) := by kernel_rfl
theorem ki_Question_zero (w : World) : ki_Question.M w No zQuestion [.int .i64 0, .int .i64 0] := ki_Question_mk w No zQuestion
def kl_Link : Kn GLink := Kn.iso (Kn.pair Kn.int (Kn.pair Kn.bool (Kn.pair (Kn.slice 253 kl_Export) (Kn.pair Kn.int (Kn.pair (Kn.slice 255 kl_Question) (Kn.pair Kn.int (Kn.slice 255 kl_Question))))))) (fun x => (x.Peer, x.Up, x.Exports, x.Next, x.Questions, x.Asked, x.Answers))
theorem kl_Link_K {w : World} {x : GLink} {cs : List Value} (h : kl_Link.K w x cs) : ∃ (A2 : Option Addr) (c2 : Nat) (A4 : Option Addr) (c4 : Nat) (A6 : Option Addr) (c6 : Nat), cs = [.int .i64 x.Peer, .bool x.Up, .slice A2 x.Exports.length c2, .int .i64 x.Next, .slice A4 x.Questions.length c4, .int .i64 x.Asked, .slice A6 x.Answers.length c6] ∧ x.Exports.length ≤ c2 ∧ C kl_Export w A2 x.Exports ∧ x.Questions.length ≤ c4 ∧ C kl_Question w A4 x.Questions ∧ x.Answers.length ≤ c6 ∧ C kl_Question w A6 x.Answers := by
  obtain ⟨_, _, rfl, rfl, ⟨_, _, rfl, rfl, ⟨_, _, rfl, ⟨A2, c2, rfl, hl2, hC2⟩, ⟨_, _, rfl, rfl, ⟨_, _, rfl, ⟨A4, c4, rfl, hl4, hC4⟩, ⟨_, _, rfl, rfl, ⟨A6, c6, rfl, hl6, hC6⟩⟩⟩⟩⟩⟩⟩ := h
  exact ⟨A2, c2, A4, c4, A6, c6, rfl, hl2, hC2, hl4, hC4, hl6, hC6⟩
theorem kl_Link_at {w : World} {A : Option Addr} {l : List GLink} (h : C kl_Link w A l) (i : Nat) (hi : i < l.length) : ∃ (ad : Addr) (A2 : Option Addr) (c2 : Nat) (A4 : Option Addr) (c4 : Nat) (A6 : Option Addr) (c6 : Nat), A = some ad ∧ w.cell? (ad.add (i * 7)) = some (.int .i64 l[i].Peer) ∧ w.cell? ⟨(ad.add (i * 7)).block, (ad.add (i * 7)).off + 1, none⟩ = some (.bool l[i].Up) ∧ w.cell? ⟨(ad.add (i * 7)).block, (ad.add (i * 7)).off + 2, none⟩ = some (.slice A2 l[i].Exports.length c2) ∧ w.cell? ⟨(ad.add (i * 7)).block, (ad.add (i * 7)).off + 3, none⟩ = some (.int .i64 l[i].Next) ∧ w.cell? ⟨(ad.add (i * 7)).block, (ad.add (i * 7)).off + 4, none⟩ = some (.slice A4 l[i].Questions.length c4) ∧ w.cell? ⟨(ad.add (i * 7)).block, (ad.add (i * 7)).off + 5, none⟩ = some (.int .i64 l[i].Asked) ∧ w.cell? ⟨(ad.add (i * 7)).block, (ad.add (i * 7)).off + 6, none⟩ = some (.slice A6 l[i].Answers.length c6) ∧ l[i].Exports.length ≤ c2 ∧ C kl_Export w A2 l[i].Exports ∧ l[i].Questions.length ≤ c4 ∧ C kl_Question w A4 l[i].Questions ∧ l[i].Answers.length ≤ c6 ∧ C kl_Question w A6 l[i].Answers := by
  obtain ⟨ad, c, h1, h2, h3, h4⟩ := C_at h i hi
  obtain ⟨A2, c2, A4, c4, A6, c6, rfl, hl2, hC2, hl4, hC4, hl6, hC6⟩ := kl_Link_K h2
  exact ⟨ad, A2, c2, A4, c4, A6, c6, h1, h3 _ rfl, h4 0 _ rfl, h4 1 _ rfl, h4 2 _ rfl, h4 3 _ rfl, h4 4 _ rfl, h4 5 _ rfl, hl2, hC2, hl4, hC4, hl6, hC6⟩
def ki_Link : Kn GLink := Kn.iso (Kn.pair Kn.int (Kn.pair Kn.bool (Kn.pair (Kn.slice 172 ki_Export) (Kn.pair Kn.int (Kn.pair (Kn.slice 230 ki_Question) (Kn.pair Kn.int (Kn.slice 230 ki_Question))))))) (fun x => (x.Peer, x.Up, x.Exports, x.Next, x.Questions, x.Asked, x.Answers))
theorem ki_Link_K {w : World} {x : GLink} {cs : List Value} (h : ki_Link.K w x cs) : ∃ (A2 : Option Addr) (c2 : Nat) (A4 : Option Addr) (c4 : Nat) (A6 : Option Addr) (c6 : Nat), cs = [.int .i64 x.Peer, .bool x.Up, .slice A2 x.Exports.length c2, .int .i64 x.Next, .slice A4 x.Questions.length c4, .int .i64 x.Asked, .slice A6 x.Answers.length c6] ∧ x.Exports.length ≤ c2 ∧ C ki_Export w A2 x.Exports ∧ x.Questions.length ≤ c4 ∧ C ki_Question w A4 x.Questions ∧ x.Answers.length ≤ c6 ∧ C ki_Question w A6 x.Answers := by
  obtain ⟨_, _, rfl, rfl, ⟨_, _, rfl, rfl, ⟨_, _, rfl, ⟨A2, c2, rfl, hl2, hC2⟩, ⟨_, _, rfl, rfl, ⟨_, _, rfl, ⟨A4, c4, rfl, hl4, hC4⟩, ⟨_, _, rfl, rfl, ⟨A6, c6, rfl, hl6, hC6⟩⟩⟩⟩⟩⟩⟩ := h
  exact ⟨A2, c2, A4, c4, A6, c6, rfl, hl2, hC2, hl4, hC4, hl6, hC6⟩
theorem ki_Link_at {w : World} {A : Option Addr} {l : List GLink} (h : C ki_Link w A l) (i : Nat) (hi : i < l.length) : ∃ (ad : Addr) (A2 : Option Addr) (c2 : Nat) (A4 : Option Addr) (c4 : Nat) (A6 : Option Addr) (c6 : Nat), A = some ad ∧ w.cell? (ad.add (i * 7)) = some (.int .i64 l[i].Peer) ∧ w.cell? ⟨(ad.add (i * 7)).block, (ad.add (i * 7)).off + 1, none⟩ = some (.bool l[i].Up) ∧ w.cell? ⟨(ad.add (i * 7)).block, (ad.add (i * 7)).off + 2, none⟩ = some (.slice A2 l[i].Exports.length c2) ∧ w.cell? ⟨(ad.add (i * 7)).block, (ad.add (i * 7)).off + 3, none⟩ = some (.int .i64 l[i].Next) ∧ w.cell? ⟨(ad.add (i * 7)).block, (ad.add (i * 7)).off + 4, none⟩ = some (.slice A4 l[i].Questions.length c4) ∧ w.cell? ⟨(ad.add (i * 7)).block, (ad.add (i * 7)).off + 5, none⟩ = some (.int .i64 l[i].Asked) ∧ w.cell? ⟨(ad.add (i * 7)).block, (ad.add (i * 7)).off + 6, none⟩ = some (.slice A6 l[i].Answers.length c6) ∧ l[i].Exports.length ≤ c2 ∧ C ki_Export w A2 l[i].Exports ∧ l[i].Questions.length ≤ c4 ∧ C ki_Question w A4 l[i].Questions ∧ l[i].Answers.length ≤ c6 ∧ C ki_Question w A6 l[i].Answers := by
  obtain ⟨ad, c, h1, h2, h3, h4⟩ := C_at h i hi
  obtain ⟨A2, c2, A4, c4, A6, c6, rfl, hl2, hC2, hl4, hC4, hl6, hC6⟩ := ki_Link_K h2
  exact ⟨ad, A2, c2, A4, c4, A6, c6, h1, h3 _ rfl, h4 0 _ rfl, h4 1 _ rfl, h4 2 _ rfl, h4 3 _ rfl, h4 4 _ rfl, h4 5 _ rfl, hl2, hC2, hl4, hC4, hl6, hC6⟩
theorem ki_Link_M {w : World} {F : Nat → Prop} {x : GLink} {cs : List Value} (h : ki_Link.M w F x cs) : ∃ (v2 : Value) (P2 : Nat → Prop) (v4 : Value) (P4 : Nat → Prop) (v6 : Value) (P6 : Nat → Prop), cs = [.int .i64 x.Peer, .bool x.Up, v2, .int .i64 x.Next, v4, .int .i64 x.Asked, v6] ∧ R ki_Export 172 w P2 v2 x.Exports ∧ R ki_Question 230 w P4 v4 x.Questions ∧ R ki_Question 230 w P6 v6 x.Answers ∧ (∀ k, P2 k → F k) ∧ (∀ k, P4 k → F k) ∧ (∀ k, P6 k → F k) ∧ (∀ k, P2 k → ¬ P4 k) ∧ (∀ k, P2 k → ¬ P6 k) ∧ (∀ k, P4 k → ¬ P6 k) := by
  obtain ⟨_, _, F0, G0, rfl, rfl, ⟨_, _, F1, G1, rfl, rfl, ⟨_, _, F2, G2, rfl, ⟨v2, rfl, hR2⟩, ⟨_, _, F3, G3, rfl, rfl, ⟨_, _, F4, G4, rfl, ⟨v4, rfl, hR4⟩, ⟨_, _, F5, G5, rfl, rfl, ⟨v6, rfl, hR6⟩, a5, b5, d5⟩, a4, b4, d4⟩, a3, b3, d3⟩, a2, b2, d2⟩, a1, b1, d1⟩, a0, b0, d0⟩ := h
  exact ⟨v2, F2, v4, F4, v6, G5, rfl, hR2, hR4, hR6, fun k hk => (b0 k (b1 k (a2 k hk))), fun k hk => (b0 k (b1 k (b2 k (b3 k (a4 k hk))))), fun k hk => (b0 k (b1 k (b2 k (b3 k (b4 k (b5 k hk)))))), fun k hk hk' => d2 k hk (b3 k (a4 k hk')), fun k hk hk' => d2 k hk (b3 k (b4 k (b5 k hk'))), fun k hk hk' => d4 k hk (b5 k hk')⟩
theorem ki_Link_mk (w : World) (F : Nat → Prop) (x : GLink) {v2 : Value} {P2 : Nat → Prop} (h2 : R ki_Export 172 w P2 v2 x.Exports) {v4 : Value} {P4 : Nat → Prop} (h4 : R ki_Question 230 w P4 v4 x.Questions) {v6 : Value} {P6 : Nat → Prop} (h6 : R ki_Question 230 w P6 v6 x.Answers) (i2 : ∀ k, P2 k → F k) (i4 : ∀ k, P4 k → F k) (i6 : ∀ k, P6 k → F k) (d2_4 : ∀ k, P2 k → ¬ P4 k) (d2_6 : ∀ k, P2 k → ¬ P6 k) (d4_6 : ∀ k, P4 k → ¬ P6 k) : ki_Link.M w F x [.int .i64 x.Peer, .bool x.Up, v2, .int .i64 x.Next, v4, .int .i64 x.Asked, v6] :=
  ⟨[_], [_, _, _, _, _, _], No, (fun k => P2 k ∨ P4 k ∨ P6 k), rfl, rfl, ⟨[_], [_, _, _, _, _], No, (fun k => P2 k ∨ P4 k ∨ P6 k), rfl, rfl, ⟨[_], [_, _, _, _], P2, (fun k => P4 k ∨ P6 k), rfl, ⟨_, rfl, h2⟩, ⟨[_], [_, _, _], No, (fun k => P4 k ∨ P6 k), rfl, rfl, ⟨[_], [_, _], P4, P6, rfl, ⟨_, rfl, h4⟩, ⟨[_], [_], No, P6, rfl, rfl, ⟨_, rfl, h6⟩, fun _ h => h.elim, fun _ h => h, fun _ h => h.elim⟩, fun k h => by first | exact h | exact Or.inl h | exact Or.inr h, fun k h => by first | exact h | exact Or.inl h | exact Or.inr h, fun k h h' => by exact d4_6 k h h'⟩, fun _ h => h.elim, fun k h => by first | exact h | exact Or.inl h | exact Or.inr h, fun _ h => h.elim⟩, fun k h => by first | exact h | exact Or.inl h | exact Or.inr h, fun k h => by first | exact h | exact Or.inl h | exact Or.inr h, fun k h h' => by rcases h' with h' | h' <;> first | exact d2_4 k h h' | exact d2_6 k h h'⟩, fun _ h => h.elim, fun k h => by first | exact h | exact Or.inl h | exact Or.inr h, fun _ h => h.elim⟩, fun _ h => h.elim, fun k h => by rcases h with h | h | h <;> first | exact i2 k h | exact i4 k h | exact i6 k h, fun _ h => h.elim⟩
theorem ki_Link_info : (Try.prog.info? 97).map (fun i => (i.zero, i.size, i.bytes)) = some (some (.agg #[.int .i64 0, .bool false, .slice none 0 0, .int .i64 0, .slice none 0 0, .int .i64 0, .slice none 0 0]), 7, 104) := by kernel_rfl
theorem ki_Link_zero (w : World) : ki_Link.M w No zLink [.int .i64 0, .bool false, .slice none 0 0, .int .i64 0, .slice none 0 0, .int .i64 0, .slice none 0 0] := ki_Link_mk w No zLink (P2 := No) R_nil (P4 := No) R_nil (P6 := No) R_nil (fun _ h => h) (fun _ h => h) (fun _ h => h) (fun _ h => h.elim) (fun _ h => h.elim) (fun _ h => h.elim)
def kl_Wire : Kn GWire := Kn.iso (Kn.pair Kn.int Kn.int) (fun x => (x.Kind, x.N))
theorem kl_Wire_K {w : World} {x : GWire} {cs : List Value} (h : kl_Wire.K w x cs) : cs = [.int .i64 x.Kind, .int .i64 x.N] := by
  obtain ⟨_, _, rfl, rfl, rfl⟩ := h
  exact rfl
theorem kl_Wire_at {w : World} {A : Option Addr} {l : List GWire} (h : C kl_Wire w A l) (i : Nat) (hi : i < l.length) : ∃ (ad : Addr), A = some ad ∧ w.cell? (ad.add (i * 2)) = some (.int .i64 l[i].Kind) ∧ w.cell? ⟨(ad.add (i * 2)).block, (ad.add (i * 2)).off + 1, none⟩ = some (.int .i64 l[i].N) := by
  obtain ⟨ad, c, h1, h2, h3, h4⟩ := C_at h i hi
  obtain rfl := kl_Wire_K h2
  exact ⟨ad, h1, h3 _ rfl, h4 0 _ rfl⟩
def ki_Wire : Kn GWire := Kn.iso (Kn.pair Kn.int Kn.int) (fun x => (x.Kind, x.N))
theorem ki_Wire_K {w : World} {x : GWire} {cs : List Value} (h : ki_Wire.K w x cs) : cs = [.int .i64 x.Kind, .int .i64 x.N] := by
  obtain ⟨_, _, rfl, rfl, rfl⟩ := h
  exact rfl
theorem ki_Wire_at {w : World} {A : Option Addr} {l : List GWire} (h : C ki_Wire w A l) (i : Nat) (hi : i < l.length) : ∃ (ad : Addr), A = some ad ∧ w.cell? (ad.add (i * 2)) = some (.int .i64 l[i].Kind) ∧ w.cell? ⟨(ad.add (i * 2)).block, (ad.add (i * 2)).off + 1, none⟩ = some (.int .i64 l[i].N) := by
  obtain ⟨ad, c, h1, h2, h3, h4⟩ := C_at h i hi
  obtain rfl := ki_Wire_K h2
  exact ⟨ad, h1, h3 _ rfl, h4 0 _ rfl⟩
theorem ki_Wire_M {w : World} {F : Nat → Prop} {x : GWire} {cs : List Value} (h : ki_Wire.M w F x cs) : cs = [.int .i64 x.Kind, .int .i64 x.N] := by
  exact ki_Wire_K (ki_Wire.K_of_M h)
theorem ki_Wire_mk (w : World) (F : Nat → Prop) (x : GWire) : ki_Wire.M w F x [.int .i64 x.Kind, .int .i64 x.N] :=
  ⟨[_], [_], No, No, rfl, rfl, rfl, fun _ h => h.elim, fun _ h => h.elim, fun _ h => h.elim⟩
theorem ki_Wire_info : (Try.prog.info? 66).map (fun i => (i.zero, i.size, i.bytes)) = some (some (.agg #[.int .i64 0, .int .i64 0]), 2, 16) := by kernel_rfl
theorem ki_Wire_zero (w : World) : ki_Wire.M w No zWire [.int .i64 0, .int .i64 0] := ki_Wire_mk w No zWire
def kl_Message : Kn GMessage := Kn.iso (Kn.pair Kn.int (Kn.pair Kn.int (Kn.pair Kn.int (Kn.pair Kn.int (Kn.pair Kn.string (Kn.pair (Kn.slice 195 kl_Wire) (Kn.pair kl_Wire (Kn.pair Kn.int kl_Tag)))))))) (fun x => (x.Kind, x.Pos, x.Answer, x.Question, x.Name, x.Args, x.Value, x.Count, x.Tag))
theorem kl_Message_K {w : World} {x : GMessage} {cs : List Value} (h : kl_Message.K w x cs) : ∃ (A5 : Option Addr) (c5 : Nat), cs = [.int .i64 x.Kind, .int .i64 x.Pos, .int .i64 x.Answer, .int .i64 x.Question, .string x.Name, .slice A5 x.Args.length c5, .int .i64 x.Value.Kind, .int .i64 x.Value.N, .int .i64 x.Count, .int .i64 x.Tag.Vat, .int .i64 x.Tag.Entity, .int .i64 x.Tag.Seq] ∧ x.Args.length ≤ c5 ∧ C kl_Wire w A5 x.Args := by
  obtain ⟨_, _, rfl, rfl, ⟨_, _, rfl, rfl, ⟨_, _, rfl, rfl, ⟨_, _, rfl, rfl, ⟨_, _, rfl, rfl, ⟨_, _, rfl, ⟨A5, c5, rfl, hl5, hC5⟩, ⟨_, _, rfl, s_Value, ⟨_, _, rfl, rfl, s_Tag⟩⟩⟩⟩⟩⟩⟩⟩ := h
  obtain rfl := kl_Wire_K s_Value
  obtain rfl := kl_Tag_K s_Tag
  exact ⟨A5, c5, rfl, hl5, hC5⟩
theorem kl_Message_at {w : World} {A : Option Addr} {l : List GMessage} (h : C kl_Message w A l) (i : Nat) (hi : i < l.length) : ∃ (ad : Addr) (A5 : Option Addr) (c5 : Nat), A = some ad ∧ w.cell? (ad.add (i * 12)) = some (.int .i64 l[i].Kind) ∧ w.cell? ⟨(ad.add (i * 12)).block, (ad.add (i * 12)).off + 1, none⟩ = some (.int .i64 l[i].Pos) ∧ w.cell? ⟨(ad.add (i * 12)).block, (ad.add (i * 12)).off + 2, none⟩ = some (.int .i64 l[i].Answer) ∧ w.cell? ⟨(ad.add (i * 12)).block, (ad.add (i * 12)).off + 3, none⟩ = some (.int .i64 l[i].Question) ∧ w.cell? ⟨(ad.add (i * 12)).block, (ad.add (i * 12)).off + 4, none⟩ = some (.string l[i].Name) ∧ w.cell? ⟨(ad.add (i * 12)).block, (ad.add (i * 12)).off + 5, none⟩ = some (.slice A5 l[i].Args.length c5) ∧ w.cell? ⟨(ad.add (i * 12)).block, (ad.add (i * 12)).off + 6, none⟩ = some (.int .i64 l[i].Value.Kind) ∧ w.cell? ⟨(ad.add (i * 12)).block, (ad.add (i * 12)).off + 7, none⟩ = some (.int .i64 l[i].Value.N) ∧ w.cell? ⟨(ad.add (i * 12)).block, (ad.add (i * 12)).off + 8, none⟩ = some (.int .i64 l[i].Count) ∧ w.cell? ⟨(ad.add (i * 12)).block, (ad.add (i * 12)).off + 9, none⟩ = some (.int .i64 l[i].Tag.Vat) ∧ w.cell? ⟨(ad.add (i * 12)).block, (ad.add (i * 12)).off + 10, none⟩ = some (.int .i64 l[i].Tag.Entity) ∧ w.cell? ⟨(ad.add (i * 12)).block, (ad.add (i * 12)).off + 11, none⟩ = some (.int .i64 l[i].Tag.Seq) ∧ l[i].Args.length ≤ c5 ∧ C kl_Wire w A5 l[i].Args := by
  obtain ⟨ad, c, h1, h2, h3, h4⟩ := C_at h i hi
  obtain ⟨A5, c5, rfl, hl5, hC5⟩ := kl_Message_K h2
  exact ⟨ad, A5, c5, h1, h3 _ rfl, h4 0 _ rfl, h4 1 _ rfl, h4 2 _ rfl, h4 3 _ rfl, h4 4 _ rfl, h4 5 _ rfl, h4 6 _ rfl, h4 7 _ rfl, h4 8 _ rfl, h4 9 _ rfl, h4 10 _ rfl, hl5, hC5⟩
def ki_Message : Kn GMessage := Kn.iso (Kn.pair Kn.int (Kn.pair Kn.int (Kn.pair Kn.int (Kn.pair Kn.int (Kn.pair Kn.string (Kn.pair (Kn.slice 66 ki_Wire) (Kn.pair ki_Wire (Kn.pair Kn.int ki_Tag)))))))) (fun x => (x.Kind, x.Pos, x.Answer, x.Question, x.Name, x.Args, x.Value, x.Count, x.Tag))
theorem ki_Message_K {w : World} {x : GMessage} {cs : List Value} (h : ki_Message.K w x cs) : ∃ (A5 : Option Addr) (c5 : Nat), cs = [.int .i64 x.Kind, .int .i64 x.Pos, .int .i64 x.Answer, .int .i64 x.Question, .string x.Name, .slice A5 x.Args.length c5, .int .i64 x.Value.Kind, .int .i64 x.Value.N, .int .i64 x.Count, .int .i64 x.Tag.Vat, .int .i64 x.Tag.Entity, .int .i64 x.Tag.Seq] ∧ x.Args.length ≤ c5 ∧ C ki_Wire w A5 x.Args := by
  obtain ⟨_, _, rfl, rfl, ⟨_, _, rfl, rfl, ⟨_, _, rfl, rfl, ⟨_, _, rfl, rfl, ⟨_, _, rfl, rfl, ⟨_, _, rfl, ⟨A5, c5, rfl, hl5, hC5⟩, ⟨_, _, rfl, s_Value, ⟨_, _, rfl, rfl, s_Tag⟩⟩⟩⟩⟩⟩⟩⟩ := h
  obtain rfl := ki_Wire_K s_Value
  obtain rfl := ki_Tag_K s_Tag
  exact ⟨A5, c5, rfl, hl5, hC5⟩
theorem ki_Message_at {w : World} {A : Option Addr} {l : List GMessage} (h : C ki_Message w A l) (i : Nat) (hi : i < l.length) : ∃ (ad : Addr) (A5 : Option Addr) (c5 : Nat), A = some ad ∧ w.cell? (ad.add (i * 12)) = some (.int .i64 l[i].Kind) ∧ w.cell? ⟨(ad.add (i * 12)).block, (ad.add (i * 12)).off + 1, none⟩ = some (.int .i64 l[i].Pos) ∧ w.cell? ⟨(ad.add (i * 12)).block, (ad.add (i * 12)).off + 2, none⟩ = some (.int .i64 l[i].Answer) ∧ w.cell? ⟨(ad.add (i * 12)).block, (ad.add (i * 12)).off + 3, none⟩ = some (.int .i64 l[i].Question) ∧ w.cell? ⟨(ad.add (i * 12)).block, (ad.add (i * 12)).off + 4, none⟩ = some (.string l[i].Name) ∧ w.cell? ⟨(ad.add (i * 12)).block, (ad.add (i * 12)).off + 5, none⟩ = some (.slice A5 l[i].Args.length c5) ∧ w.cell? ⟨(ad.add (i * 12)).block, (ad.add (i * 12)).off + 6, none⟩ = some (.int .i64 l[i].Value.Kind) ∧ w.cell? ⟨(ad.add (i * 12)).block, (ad.add (i * 12)).off + 7, none⟩ = some (.int .i64 l[i].Value.N) ∧ w.cell? ⟨(ad.add (i * 12)).block, (ad.add (i * 12)).off + 8, none⟩ = some (.int .i64 l[i].Count) ∧ w.cell? ⟨(ad.add (i * 12)).block, (ad.add (i * 12)).off + 9, none⟩ = some (.int .i64 l[i].Tag.Vat) ∧ w.cell? ⟨(ad.add (i * 12)).block, (ad.add (i * 12)).off + 10, none⟩ = some (.int .i64 l[i].Tag.Entity) ∧ w.cell? ⟨(ad.add (i * 12)).block, (ad.add (i * 12)).off + 11, none⟩ = some (.int .i64 l[i].Tag.Seq) ∧ l[i].Args.length ≤ c5 ∧ C ki_Wire w A5 l[i].Args := by
  obtain ⟨ad, c, h1, h2, h3, h4⟩ := C_at h i hi
  obtain ⟨A5, c5, rfl, hl5, hC5⟩ := ki_Message_K h2
  exact ⟨ad, A5, c5, h1, h3 _ rfl, h4 0 _ rfl, h4 1 _ rfl, h4 2 _ rfl, h4 3 _ rfl, h4 4 _ rfl, h4 5 _ rfl, h4 6 _ rfl, h4 7 _ rfl, h4 8 _ rfl, h4 9 _ rfl, h4 10 _ rfl, hl5, hC5⟩
theorem ki_Message_M {w : World} {F : Nat → Prop} {x : GMessage} {cs : List Value} (h : ki_Message.M w F x cs) : ∃ (v5 : Value) (P5 : Nat → Prop), cs = [.int .i64 x.Kind, .int .i64 x.Pos, .int .i64 x.Answer, .int .i64 x.Question, .string x.Name, v5, .int .i64 x.Value.Kind, .int .i64 x.Value.N, .int .i64 x.Count, .int .i64 x.Tag.Vat, .int .i64 x.Tag.Entity, .int .i64 x.Tag.Seq] ∧ R ki_Wire 66 w P5 v5 x.Args ∧ (∀ k, P5 k → F k) := by
  obtain ⟨_, _, F0, G0, rfl, rfl, ⟨_, _, F1, G1, rfl, rfl, ⟨_, _, F2, G2, rfl, rfl, ⟨_, _, F3, G3, rfl, rfl, ⟨_, _, F4, G4, rfl, rfl, ⟨_, _, F5, G5, rfl, ⟨v5, rfl, hR5⟩, ⟨_, _, F6, G6, rfl, s6, ⟨_, _, F7, G7, rfl, rfl, s8, a7, b7, d7⟩, a6, b6, d6⟩, a5, b5, d5⟩, a4, b4, d4⟩, a3, b3, d3⟩, a2, b2, d2⟩, a1, b1, d1⟩, a0, b0, d0⟩ := h
  obtain rfl := ki_Wire_M s6
  obtain rfl := ki_Tag_M s8
  exact ⟨v5, F5, rfl, hR5, fun k hk => (b0 k (b1 k (b2 k (b3 k (b4 k (a5 k hk))))))⟩
theorem ki_Message_mk (w : World) (F : Nat → Prop) (x : GMessage) {v5 : Value} {P5 : Nat → Prop} (h5 : R ki_Wire 66 w P5 v5 x.Args) (i5 : ∀ k, P5 k → F k) : ki_Message.M w F x [.int .i64 x.Kind, .int .i64 x.Pos, .int .i64 x.Answer, .int .i64 x.Question, .string x.Name, v5, .int .i64 x.Value.Kind, .int .i64 x.Value.N, .int .i64 x.Count, .int .i64 x.Tag.Vat, .int .i64 x.Tag.Entity, .int .i64 x.Tag.Seq] :=
  ⟨[_], [_, _, _, _, _, _, _, _, _, _, _], No, P5, rfl, rfl, ⟨[_], [_, _, _, _, _, _, _, _, _, _], No, P5, rfl, rfl, ⟨[_], [_, _, _, _, _, _, _, _, _], No, P5, rfl, rfl, ⟨[_], [_, _, _, _, _, _, _, _], No, P5, rfl, rfl, ⟨[_], [_, _, _, _, _, _, _], No, P5, rfl, rfl, ⟨[_], [_, _, _, _, _, _], P5, No, rfl, ⟨_, rfl, h5⟩, ⟨[_, _], [_, _, _, _], No, No, rfl, (ki_Wire_mk w No _), ⟨[_], [_, _, _], No, No, rfl, rfl, (ki_Tag_mk w No _), fun _ h => h.elim, fun _ h => h.elim, fun _ h => h.elim⟩, fun _ h => h.elim, fun _ h => h.elim, fun _ h => h.elim⟩, fun _ h => h, fun _ h => h.elim, fun _ _ h => h.elim⟩, fun _ h => h.elim, fun _ h => h, fun _ h => h.elim⟩, fun _ h => h.elim, fun _ h => h, fun _ h => h.elim⟩, fun _ h => h.elim, fun _ h => h, fun _ h => h.elim⟩, fun _ h => h.elim, fun _ h => h, fun _ h => h.elim⟩, fun _ h => h.elim, i5, fun _ h => h.elim⟩
theorem ki_Message_info : (Try.prog.info? 70).map (fun i => (i.zero, i.size, i.bytes)) = some (some (.agg #[.int .i64 0, .int .i64 0, .int .i64 0, .int .i64 0, .string ⟨#[]⟩, .slice none 0 0, .int .i64 0, .int .i64 0, .int .i64 0, .int .i64 0, .int .i64 0, .int .i64 0]), 12, 120) := by kernel_rfl
theorem ki_Message_zero (w : World) : ki_Message.M w No zMessage [.int .i64 0, .int .i64 0, .int .i64 0, .int .i64 0, .string ⟨#[]⟩, .slice none 0 0, .int .i64 0, .int .i64 0, .int .i64 0, .int .i64 0, .int .i64 0, .int .i64 0] := ki_Message_mk w No zMessage (P5 := No) R_nil (fun _ h => h)
def kl_Outgoing : Kn GOutgoing := Kn.iso (Kn.pair Kn.int kl_Message) (fun x => (x.To, x.Message))
theorem kl_Outgoing_K {w : World} {x : GOutgoing} {cs : List Value} (h : kl_Outgoing.K w x cs) : ∃ (A6 : Option Addr) (c6 : Nat), cs = [.int .i64 x.To, .int .i64 x.Message.Kind, .int .i64 x.Message.Pos, .int .i64 x.Message.Answer, .int .i64 x.Message.Question, .string x.Message.Name, .slice A6 x.Message.Args.length c6, .int .i64 x.Message.Value.Kind, .int .i64 x.Message.Value.N, .int .i64 x.Message.Count, .int .i64 x.Message.Tag.Vat, .int .i64 x.Message.Tag.Entity, .int .i64 x.Message.Tag.Seq] ∧ x.Message.Args.length ≤ c6 ∧ C kl_Wire w A6 x.Message.Args := by
  obtain ⟨_, _, rfl, rfl, s_Message⟩ := h
  obtain ⟨A6, c6, rfl, hl6, hC6⟩ := kl_Message_K s_Message
  exact ⟨A6, c6, rfl, hl6, hC6⟩
theorem kl_Outgoing_at {w : World} {A : Option Addr} {l : List GOutgoing} (h : C kl_Outgoing w A l) (i : Nat) (hi : i < l.length) : ∃ (ad : Addr) (A6 : Option Addr) (c6 : Nat), A = some ad ∧ w.cell? (ad.add (i * 13)) = some (.int .i64 l[i].To) ∧ w.cell? ⟨(ad.add (i * 13)).block, (ad.add (i * 13)).off + 1, none⟩ = some (.int .i64 l[i].Message.Kind) ∧ w.cell? ⟨(ad.add (i * 13)).block, (ad.add (i * 13)).off + 2, none⟩ = some (.int .i64 l[i].Message.Pos) ∧ w.cell? ⟨(ad.add (i * 13)).block, (ad.add (i * 13)).off + 3, none⟩ = some (.int .i64 l[i].Message.Answer) ∧ w.cell? ⟨(ad.add (i * 13)).block, (ad.add (i * 13)).off + 4, none⟩ = some (.int .i64 l[i].Message.Question) ∧ w.cell? ⟨(ad.add (i * 13)).block, (ad.add (i * 13)).off + 5, none⟩ = some (.string l[i].Message.Name) ∧ w.cell? ⟨(ad.add (i * 13)).block, (ad.add (i * 13)).off + 6, none⟩ = some (.slice A6 l[i].Message.Args.length c6) ∧ w.cell? ⟨(ad.add (i * 13)).block, (ad.add (i * 13)).off + 7, none⟩ = some (.int .i64 l[i].Message.Value.Kind) ∧ w.cell? ⟨(ad.add (i * 13)).block, (ad.add (i * 13)).off + 8, none⟩ = some (.int .i64 l[i].Message.Value.N) ∧ w.cell? ⟨(ad.add (i * 13)).block, (ad.add (i * 13)).off + 9, none⟩ = some (.int .i64 l[i].Message.Count) ∧ w.cell? ⟨(ad.add (i * 13)).block, (ad.add (i * 13)).off + 10, none⟩ = some (.int .i64 l[i].Message.Tag.Vat) ∧ w.cell? ⟨(ad.add (i * 13)).block, (ad.add (i * 13)).off + 11, none⟩ = some (.int .i64 l[i].Message.Tag.Entity) ∧ w.cell? ⟨(ad.add (i * 13)).block, (ad.add (i * 13)).off + 12, none⟩ = some (.int .i64 l[i].Message.Tag.Seq) ∧ l[i].Message.Args.length ≤ c6 ∧ C kl_Wire w A6 l[i].Message.Args := by
  obtain ⟨ad, c, h1, h2, h3, h4⟩ := C_at h i hi
  obtain ⟨A6, c6, rfl, hl6, hC6⟩ := kl_Outgoing_K h2
  exact ⟨ad, A6, c6, h1, h3 _ rfl, h4 0 _ rfl, h4 1 _ rfl, h4 2 _ rfl, h4 3 _ rfl, h4 4 _ rfl, h4 5 _ rfl, h4 6 _ rfl, h4 7 _ rfl, h4 8 _ rfl, h4 9 _ rfl, h4 10 _ rfl, h4 11 _ rfl, hl6, hC6⟩
def ki_Outgoing : Kn GOutgoing := Kn.iso (Kn.pair Kn.int ki_Message) (fun x => (x.To, x.Message))
theorem ki_Outgoing_K {w : World} {x : GOutgoing} {cs : List Value} (h : ki_Outgoing.K w x cs) : ∃ (A6 : Option Addr) (c6 : Nat), cs = [.int .i64 x.To, .int .i64 x.Message.Kind, .int .i64 x.Message.Pos, .int .i64 x.Message.Answer, .int .i64 x.Message.Question, .string x.Message.Name, .slice A6 x.Message.Args.length c6, .int .i64 x.Message.Value.Kind, .int .i64 x.Message.Value.N, .int .i64 x.Message.Count, .int .i64 x.Message.Tag.Vat, .int .i64 x.Message.Tag.Entity, .int .i64 x.Message.Tag.Seq] ∧ x.Message.Args.length ≤ c6 ∧ C ki_Wire w A6 x.Message.Args := by
  obtain ⟨_, _, rfl, rfl, s_Message⟩ := h
  obtain ⟨A6, c6, rfl, hl6, hC6⟩ := ki_Message_K s_Message
  exact ⟨A6, c6, rfl, hl6, hC6⟩
theorem ki_Outgoing_at {w : World} {A : Option Addr} {l : List GOutgoing} (h : C ki_Outgoing w A l) (i : Nat) (hi : i < l.length) : ∃ (ad : Addr) (A6 : Option Addr) (c6 : Nat), A = some ad ∧ w.cell? (ad.add (i * 13)) = some (.int .i64 l[i].To) ∧ w.cell? ⟨(ad.add (i * 13)).block, (ad.add (i * 13)).off + 1, none⟩ = some (.int .i64 l[i].Message.Kind) ∧ w.cell? ⟨(ad.add (i * 13)).block, (ad.add (i * 13)).off + 2, none⟩ = some (.int .i64 l[i].Message.Pos) ∧ w.cell? ⟨(ad.add (i * 13)).block, (ad.add (i * 13)).off + 3, none⟩ = some (.int .i64 l[i].Message.Answer) ∧ w.cell? ⟨(ad.add (i * 13)).block, (ad.add (i * 13)).off + 4, none⟩ = some (.int .i64 l[i].Message.Question) ∧ w.cell? ⟨(ad.add (i * 13)).block, (ad.add (i * 13)).off + 5, none⟩ = some (.string l[i].Message.Name) ∧ w.cell? ⟨(ad.add (i * 13)).block, (ad.add (i * 13)).off + 6, none⟩ = some (.slice A6 l[i].Message.Args.length c6) ∧ w.cell? ⟨(ad.add (i * 13)).block, (ad.add (i * 13)).off + 7, none⟩ = some (.int .i64 l[i].Message.Value.Kind) ∧ w.cell? ⟨(ad.add (i * 13)).block, (ad.add (i * 13)).off + 8, none⟩ = some (.int .i64 l[i].Message.Value.N) ∧ w.cell? ⟨(ad.add (i * 13)).block, (ad.add (i * 13)).off + 9, none⟩ = some (.int .i64 l[i].Message.Count) ∧ w.cell? ⟨(ad.add (i * 13)).block, (ad.add (i * 13)).off + 10, none⟩ = some (.int .i64 l[i].Message.Tag.Vat) ∧ w.cell? ⟨(ad.add (i * 13)).block, (ad.add (i * 13)).off + 11, none⟩ = some (.int .i64 l[i].Message.Tag.Entity) ∧ w.cell? ⟨(ad.add (i * 13)).block, (ad.add (i * 13)).off + 12, none⟩ = some (.int .i64 l[i].Message.Tag.Seq) ∧ l[i].Message.Args.length ≤ c6 ∧ C ki_Wire w A6 l[i].Message.Args := by
  obtain ⟨ad, c, h1, h2, h3, h4⟩ := C_at h i hi
  obtain ⟨A6, c6, rfl, hl6, hC6⟩ := ki_Outgoing_K h2
  exact ⟨ad, A6, c6, h1, h3 _ rfl, h4 0 _ rfl, h4 1 _ rfl, h4 2 _ rfl, h4 3 _ rfl, h4 4 _ rfl, h4 5 _ rfl, h4 6 _ rfl, h4 7 _ rfl, h4 8 _ rfl, h4 9 _ rfl, h4 10 _ rfl, h4 11 _ rfl, hl6, hC6⟩
theorem ki_Outgoing_M {w : World} {F : Nat → Prop} {x : GOutgoing} {cs : List Value} (h : ki_Outgoing.M w F x cs) : ∃ (v6 : Value) (P6 : Nat → Prop), cs = [.int .i64 x.To, .int .i64 x.Message.Kind, .int .i64 x.Message.Pos, .int .i64 x.Message.Answer, .int .i64 x.Message.Question, .string x.Message.Name, v6, .int .i64 x.Message.Value.Kind, .int .i64 x.Message.Value.N, .int .i64 x.Message.Count, .int .i64 x.Message.Tag.Vat, .int .i64 x.Message.Tag.Entity, .int .i64 x.Message.Tag.Seq] ∧ R ki_Wire 66 w P6 v6 x.Message.Args ∧ (∀ k, P6 k → F k) := by
  obtain ⟨_, _, F0, G0, rfl, rfl, s1, a0, b0, d0⟩ := h
  obtain ⟨v6, P6, rfl, hR6, i6⟩ := ki_Message_M s1
  exact ⟨v6, P6, rfl, hR6, fun k hk => (b0 k (i6 k hk))⟩
theorem ki_Outgoing_mk (w : World) (F : Nat → Prop) (x : GOutgoing) {v6 : Value} {P6 : Nat → Prop} (h6 : R ki_Wire 66 w P6 v6 x.Message.Args) (i6 : ∀ k, P6 k → F k) : ki_Outgoing.M w F x [.int .i64 x.To, .int .i64 x.Message.Kind, .int .i64 x.Message.Pos, .int .i64 x.Message.Answer, .int .i64 x.Message.Question, .string x.Message.Name, v6, .int .i64 x.Message.Value.Kind, .int .i64 x.Message.Value.N, .int .i64 x.Message.Count, .int .i64 x.Message.Tag.Vat, .int .i64 x.Message.Tag.Entity, .int .i64 x.Message.Tag.Seq] :=
  ⟨[_], [_, _, _, _, _, _, _, _, _, _, _, _], No, P6, rfl, rfl, (ki_Message_mk w P6 _ h6 (fun _ h => h)), fun _ h => h.elim, i6, fun _ h => h.elim⟩
theorem ki_Outgoing_info : (Try.prog.info? 181).map (fun i => (i.zero, i.size, i.bytes)) = some (some (.agg #[.int .i64 0, .int .i64 0, .int .i64 0, .int .i64 0, .int .i64 0, .string ⟨#[]⟩, .slice none 0 0, .int .i64 0, .int .i64 0, .int .i64 0, .int .i64 0, .int .i64 0, .int .i64 0]), 13, 128) := by kernel_rfl
theorem ki_Outgoing_zero (w : World) : ki_Outgoing.M w No zOutgoing [.int .i64 0, .int .i64 0, .int .i64 0, .int .i64 0, .int .i64 0, .string ⟨#[]⟩, .slice none 0 0, .int .i64 0, .int .i64 0, .int .i64 0, .int .i64 0, .int .i64 0, .int .i64 0] := ki_Outgoing_mk w No zOutgoing (P6 := No) R_nil (fun _ h => h)
def kl_Vat : Kn GVat := Kn.iso (Kn.pair Kn.int (Kn.pair (Kn.slice 47 kl_Entity) (Kn.pair (Kn.slice 187 kl_Sent) (Kn.pair (Kn.slice 192 kl_Link) (Kn.slice 199 kl_Outgoing))))) (fun x => (x.Id, x.Entities, x.Loop, x.Links, x.Out))
theorem kl_Vat_K {w : World} {x : GVat} {cs : List Value} (h : kl_Vat.K w x cs) : ∃ (A1 : Option Addr) (c1 : Nat) (A2 : Option Addr) (c2 : Nat) (A3 : Option Addr) (c3 : Nat) (A4 : Option Addr) (c4 : Nat), cs = [.int .i64 x.Id, .slice A1 x.Entities.length c1, .slice A2 x.Loop.length c2, .slice A3 x.Links.length c3, .slice A4 x.Out.length c4] ∧ x.Entities.length ≤ c1 ∧ C kl_Entity w A1 x.Entities ∧ x.Loop.length ≤ c2 ∧ C kl_Sent w A2 x.Loop ∧ x.Links.length ≤ c3 ∧ C kl_Link w A3 x.Links ∧ x.Out.length ≤ c4 ∧ C kl_Outgoing w A4 x.Out := by
  obtain ⟨_, _, rfl, rfl, ⟨_, _, rfl, ⟨A1, c1, rfl, hl1, hC1⟩, ⟨_, _, rfl, ⟨A2, c2, rfl, hl2, hC2⟩, ⟨_, _, rfl, ⟨A3, c3, rfl, hl3, hC3⟩, ⟨A4, c4, rfl, hl4, hC4⟩⟩⟩⟩⟩ := h
  exact ⟨A1, c1, A2, c2, A3, c3, A4, c4, rfl, hl1, hC1, hl2, hC2, hl3, hC3, hl4, hC4⟩
theorem kl_Vat_at {w : World} {A : Option Addr} {l : List GVat} (h : C kl_Vat w A l) (i : Nat) (hi : i < l.length) : ∃ (ad : Addr) (A1 : Option Addr) (c1 : Nat) (A2 : Option Addr) (c2 : Nat) (A3 : Option Addr) (c3 : Nat) (A4 : Option Addr) (c4 : Nat), A = some ad ∧ w.cell? (ad.add (i * 5)) = some (.int .i64 l[i].Id) ∧ w.cell? ⟨(ad.add (i * 5)).block, (ad.add (i * 5)).off + 1, none⟩ = some (.slice A1 l[i].Entities.length c1) ∧ w.cell? ⟨(ad.add (i * 5)).block, (ad.add (i * 5)).off + 2, none⟩ = some (.slice A2 l[i].Loop.length c2) ∧ w.cell? ⟨(ad.add (i * 5)).block, (ad.add (i * 5)).off + 3, none⟩ = some (.slice A3 l[i].Links.length c3) ∧ w.cell? ⟨(ad.add (i * 5)).block, (ad.add (i * 5)).off + 4, none⟩ = some (.slice A4 l[i].Out.length c4) ∧ l[i].Entities.length ≤ c1 ∧ C kl_Entity w A1 l[i].Entities ∧ l[i].Loop.length ≤ c2 ∧ C kl_Sent w A2 l[i].Loop ∧ l[i].Links.length ≤ c3 ∧ C kl_Link w A3 l[i].Links ∧ l[i].Out.length ≤ c4 ∧ C kl_Outgoing w A4 l[i].Out := by
  obtain ⟨ad, c, h1, h2, h3, h4⟩ := C_at h i hi
  obtain ⟨A1, c1, A2, c2, A3, c3, A4, c4, rfl, hl1, hC1, hl2, hC2, hl3, hC3, hl4, hC4⟩ := kl_Vat_K h2
  exact ⟨ad, A1, c1, A2, c2, A3, c3, A4, c4, h1, h3 _ rfl, h4 0 _ rfl, h4 1 _ rfl, h4 2 _ rfl, h4 3 _ rfl, hl1, hC1, hl2, hC2, hl3, hC3, hl4, hC4⟩
def ki_Vat : Kn GVat := Kn.iso (Kn.pair Kn.int (Kn.pair (Kn.slice 57 ki_Entity) (Kn.pair (Kn.slice 177 ki_Sent) (Kn.pair (Kn.slice 97 ki_Link) (Kn.slice 181 ki_Outgoing))))) (fun x => (x.Id, x.Entities, x.Loop, x.Links, x.Out))
theorem ki_Vat_K {w : World} {x : GVat} {cs : List Value} (h : ki_Vat.K w x cs) : ∃ (A1 : Option Addr) (c1 : Nat) (A2 : Option Addr) (c2 : Nat) (A3 : Option Addr) (c3 : Nat) (A4 : Option Addr) (c4 : Nat), cs = [.int .i64 x.Id, .slice A1 x.Entities.length c1, .slice A2 x.Loop.length c2, .slice A3 x.Links.length c3, .slice A4 x.Out.length c4] ∧ x.Entities.length ≤ c1 ∧ C ki_Entity w A1 x.Entities ∧ x.Loop.length ≤ c2 ∧ C ki_Sent w A2 x.Loop ∧ x.Links.length ≤ c3 ∧ C ki_Link w A3 x.Links ∧ x.Out.length ≤ c4 ∧ C ki_Outgoing w A4 x.Out := by
  obtain ⟨_, _, rfl, rfl, ⟨_, _, rfl, ⟨A1, c1, rfl, hl1, hC1⟩, ⟨_, _, rfl, ⟨A2, c2, rfl, hl2, hC2⟩, ⟨_, _, rfl, ⟨A3, c3, rfl, hl3, hC3⟩, ⟨A4, c4, rfl, hl4, hC4⟩⟩⟩⟩⟩ := h
  exact ⟨A1, c1, A2, c2, A3, c3, A4, c4, rfl, hl1, hC1, hl2, hC2, hl3, hC3, hl4, hC4⟩
theorem ki_Vat_at {w : World} {A : Option Addr} {l : List GVat} (h : C ki_Vat w A l) (i : Nat) (hi : i < l.length) : ∃ (ad : Addr) (A1 : Option Addr) (c1 : Nat) (A2 : Option Addr) (c2 : Nat) (A3 : Option Addr) (c3 : Nat) (A4 : Option Addr) (c4 : Nat), A = some ad ∧ w.cell? (ad.add (i * 5)) = some (.int .i64 l[i].Id) ∧ w.cell? ⟨(ad.add (i * 5)).block, (ad.add (i * 5)).off + 1, none⟩ = some (.slice A1 l[i].Entities.length c1) ∧ w.cell? ⟨(ad.add (i * 5)).block, (ad.add (i * 5)).off + 2, none⟩ = some (.slice A2 l[i].Loop.length c2) ∧ w.cell? ⟨(ad.add (i * 5)).block, (ad.add (i * 5)).off + 3, none⟩ = some (.slice A3 l[i].Links.length c3) ∧ w.cell? ⟨(ad.add (i * 5)).block, (ad.add (i * 5)).off + 4, none⟩ = some (.slice A4 l[i].Out.length c4) ∧ l[i].Entities.length ≤ c1 ∧ C ki_Entity w A1 l[i].Entities ∧ l[i].Loop.length ≤ c2 ∧ C ki_Sent w A2 l[i].Loop ∧ l[i].Links.length ≤ c3 ∧ C ki_Link w A3 l[i].Links ∧ l[i].Out.length ≤ c4 ∧ C ki_Outgoing w A4 l[i].Out := by
  obtain ⟨ad, c, h1, h2, h3, h4⟩ := C_at h i hi
  obtain ⟨A1, c1, A2, c2, A3, c3, A4, c4, rfl, hl1, hC1, hl2, hC2, hl3, hC3, hl4, hC4⟩ := ki_Vat_K h2
  exact ⟨ad, A1, c1, A2, c2, A3, c3, A4, c4, h1, h3 _ rfl, h4 0 _ rfl, h4 1 _ rfl, h4 2 _ rfl, h4 3 _ rfl, hl1, hC1, hl2, hC2, hl3, hC3, hl4, hC4⟩
theorem ki_Vat_M {w : World} {F : Nat → Prop} {x : GVat} {cs : List Value} (h : ki_Vat.M w F x cs) : ∃ (v1 : Value) (P1 : Nat → Prop) (v2 : Value) (P2 : Nat → Prop) (v3 : Value) (P3 : Nat → Prop) (v4 : Value) (P4 : Nat → Prop), cs = [.int .i64 x.Id, v1, v2, v3, v4] ∧ R ki_Entity 57 w P1 v1 x.Entities ∧ R ki_Sent 177 w P2 v2 x.Loop ∧ R ki_Link 97 w P3 v3 x.Links ∧ R ki_Outgoing 181 w P4 v4 x.Out ∧ (∀ k, P1 k → F k) ∧ (∀ k, P2 k → F k) ∧ (∀ k, P3 k → F k) ∧ (∀ k, P4 k → F k) ∧ (∀ k, P1 k → ¬ P2 k) ∧ (∀ k, P1 k → ¬ P3 k) ∧ (∀ k, P1 k → ¬ P4 k) ∧ (∀ k, P2 k → ¬ P3 k) ∧ (∀ k, P2 k → ¬ P4 k) ∧ (∀ k, P3 k → ¬ P4 k) := by
  obtain ⟨_, _, F0, G0, rfl, rfl, ⟨_, _, F1, G1, rfl, ⟨v1, rfl, hR1⟩, ⟨_, _, F2, G2, rfl, ⟨v2, rfl, hR2⟩, ⟨_, _, F3, G3, rfl, ⟨v3, rfl, hR3⟩, ⟨v4, rfl, hR4⟩, a3, b3, d3⟩, a2, b2, d2⟩, a1, b1, d1⟩, a0, b0, d0⟩ := h
  exact ⟨v1, F1, v2, F2, v3, F3, v4, G3, rfl, hR1, hR2, hR3, hR4, fun k hk => (b0 k (a1 k hk)), fun k hk => (b0 k (b1 k (a2 k hk))), fun k hk => (b0 k (b1 k (b2 k (a3 k hk)))), fun k hk => (b0 k (b1 k (b2 k (b3 k hk)))), fun k hk hk' => d1 k hk (a2 k hk'), fun k hk hk' => d1 k hk (b2 k (a3 k hk')), fun k hk hk' => d1 k hk (b2 k (b3 k hk')), fun k hk hk' => d2 k hk (a3 k hk'), fun k hk hk' => d2 k hk (b3 k hk'), fun k hk hk' => d3 k hk hk'⟩
theorem ki_Vat_mk (w : World) (F : Nat → Prop) (x : GVat) {v1 : Value} {P1 : Nat → Prop} (h1 : R ki_Entity 57 w P1 v1 x.Entities) {v2 : Value} {P2 : Nat → Prop} (h2 : R ki_Sent 177 w P2 v2 x.Loop) {v3 : Value} {P3 : Nat → Prop} (h3 : R ki_Link 97 w P3 v3 x.Links) {v4 : Value} {P4 : Nat → Prop} (h4 : R ki_Outgoing 181 w P4 v4 x.Out) (i1 : ∀ k, P1 k → F k) (i2 : ∀ k, P2 k → F k) (i3 : ∀ k, P3 k → F k) (i4 : ∀ k, P4 k → F k) (d1_2 : ∀ k, P1 k → ¬ P2 k) (d1_3 : ∀ k, P1 k → ¬ P3 k) (d1_4 : ∀ k, P1 k → ¬ P4 k) (d2_3 : ∀ k, P2 k → ¬ P3 k) (d2_4 : ∀ k, P2 k → ¬ P4 k) (d3_4 : ∀ k, P3 k → ¬ P4 k) : ki_Vat.M w F x [.int .i64 x.Id, v1, v2, v3, v4] :=
  ⟨[_], [_, _, _, _], No, (fun k => P1 k ∨ P2 k ∨ P3 k ∨ P4 k), rfl, rfl, ⟨[_], [_, _, _], P1, (fun k => P2 k ∨ P3 k ∨ P4 k), rfl, ⟨_, rfl, h1⟩, ⟨[_], [_, _], P2, (fun k => P3 k ∨ P4 k), rfl, ⟨_, rfl, h2⟩, ⟨[_], [_], P3, P4, rfl, ⟨_, rfl, h3⟩, ⟨_, rfl, h4⟩, fun k h => by first | exact h | exact Or.inl h | exact Or.inr h, fun k h => by first | exact h | exact Or.inl h | exact Or.inr h, fun k h h' => by exact d3_4 k h h'⟩, fun k h => by first | exact h | exact Or.inl h | exact Or.inr h, fun k h => by first | exact h | exact Or.inl h | exact Or.inr h, fun k h h' => by rcases h' with h' | h' <;> first | exact d2_3 k h h' | exact d2_4 k h h'⟩, fun k h => by first | exact h | exact Or.inl h | exact Or.inr h, fun k h => by first | exact h | exact Or.inl h | exact Or.inr h, fun k h h' => by rcases h' with h' | h' | h' <;> first | exact d1_2 k h h' | exact d1_3 k h h' | exact d1_4 k h h'⟩, fun _ h => h.elim, fun k h => by rcases h with h | h | h | h <;> first | exact i1 k h | exact i2 k h | exact i3 k h | exact i4 k h, fun _ h => h.elim⟩
theorem ki_Vat_info : (Try.prog.info? 28).map (fun i => (i.zero, i.size, i.bytes)) = some (some (.agg #[.int .i64 0, .slice none 0 0, .slice none 0 0, .slice none 0 0, .slice none 0 0]), 5, 104) := by kernel_rfl
theorem ki_Vat_zero (w : World) : ki_Vat.M w No zVat [.int .i64 0, .slice none 0 0, .slice none 0 0, .slice none 0 0, .slice none 0 0] := ki_Vat_mk w No zVat (P1 := No) R_nil (P2 := No) R_nil (P3 := No) R_nil (P4 := No) R_nil (fun _ h => h) (fun _ h => h) (fun _ h => h) (fun _ h => h) (fun _ h => h.elim) (fun _ h => h.elim) (fun _ h => h.elim) (fun _ h => h.elim) (fun _ h => h.elim) (fun _ h => h.elim)
def kl_Channel : Kn GChannel := Kn.iso (Kn.pair Kn.int (Kn.pair Kn.int (Kn.slice 197 kl_Message))) (fun x => (x.From, x.To, x.List))
theorem kl_Channel_K {w : World} {x : GChannel} {cs : List Value} (h : kl_Channel.K w x cs) : ∃ (A2 : Option Addr) (c2 : Nat), cs = [.int .i64 x.From, .int .i64 x.To, .slice A2 x.List.length c2] ∧ x.List.length ≤ c2 ∧ C kl_Message w A2 x.List := by
  obtain ⟨_, _, rfl, rfl, ⟨_, _, rfl, rfl, ⟨A2, c2, rfl, hl2, hC2⟩⟩⟩ := h
  exact ⟨A2, c2, rfl, hl2, hC2⟩
theorem kl_Channel_at {w : World} {A : Option Addr} {l : List GChannel} (h : C kl_Channel w A l) (i : Nat) (hi : i < l.length) : ∃ (ad : Addr) (A2 : Option Addr) (c2 : Nat), A = some ad ∧ w.cell? (ad.add (i * 3)) = some (.int .i64 l[i].From) ∧ w.cell? ⟨(ad.add (i * 3)).block, (ad.add (i * 3)).off + 1, none⟩ = some (.int .i64 l[i].To) ∧ w.cell? ⟨(ad.add (i * 3)).block, (ad.add (i * 3)).off + 2, none⟩ = some (.slice A2 l[i].List.length c2) ∧ l[i].List.length ≤ c2 ∧ C kl_Message w A2 l[i].List := by
  obtain ⟨ad, c, h1, h2, h3, h4⟩ := C_at h i hi
  obtain ⟨A2, c2, rfl, hl2, hC2⟩ := kl_Channel_K h2
  exact ⟨ad, A2, c2, h1, h3 _ rfl, h4 0 _ rfl, h4 1 _ rfl, hl2, hC2⟩
def ki_Channel : Kn GChannel := Kn.iso (Kn.pair Kn.int (Kn.pair Kn.int (Kn.slice 70 ki_Message))) (fun x => (x.From, x.To, x.List))
theorem ki_Channel_K {w : World} {x : GChannel} {cs : List Value} (h : ki_Channel.K w x cs) : ∃ (A2 : Option Addr) (c2 : Nat), cs = [.int .i64 x.From, .int .i64 x.To, .slice A2 x.List.length c2] ∧ x.List.length ≤ c2 ∧ C ki_Message w A2 x.List := by
  obtain ⟨_, _, rfl, rfl, ⟨_, _, rfl, rfl, ⟨A2, c2, rfl, hl2, hC2⟩⟩⟩ := h
  exact ⟨A2, c2, rfl, hl2, hC2⟩
theorem ki_Channel_at {w : World} {A : Option Addr} {l : List GChannel} (h : C ki_Channel w A l) (i : Nat) (hi : i < l.length) : ∃ (ad : Addr) (A2 : Option Addr) (c2 : Nat), A = some ad ∧ w.cell? (ad.add (i * 3)) = some (.int .i64 l[i].From) ∧ w.cell? ⟨(ad.add (i * 3)).block, (ad.add (i * 3)).off + 1, none⟩ = some (.int .i64 l[i].To) ∧ w.cell? ⟨(ad.add (i * 3)).block, (ad.add (i * 3)).off + 2, none⟩ = some (.slice A2 l[i].List.length c2) ∧ l[i].List.length ≤ c2 ∧ C ki_Message w A2 l[i].List := by
  obtain ⟨ad, c, h1, h2, h3, h4⟩ := C_at h i hi
  obtain ⟨A2, c2, rfl, hl2, hC2⟩ := ki_Channel_K h2
  exact ⟨ad, A2, c2, h1, h3 _ rfl, h4 0 _ rfl, h4 1 _ rfl, hl2, hC2⟩
theorem ki_Channel_M {w : World} {F : Nat → Prop} {x : GChannel} {cs : List Value} (h : ki_Channel.M w F x cs) : ∃ (v2 : Value) (P2 : Nat → Prop), cs = [.int .i64 x.From, .int .i64 x.To, v2] ∧ R ki_Message 70 w P2 v2 x.List ∧ (∀ k, P2 k → F k) := by
  obtain ⟨_, _, F0, G0, rfl, rfl, ⟨_, _, F1, G1, rfl, rfl, ⟨v2, rfl, hR2⟩, a1, b1, d1⟩, a0, b0, d0⟩ := h
  exact ⟨v2, G1, rfl, hR2, fun k hk => (b0 k (b1 k hk))⟩
theorem ki_Channel_mk (w : World) (F : Nat → Prop) (x : GChannel) {v2 : Value} {P2 : Nat → Prop} (h2 : R ki_Message 70 w P2 v2 x.List) (i2 : ∀ k, P2 k → F k) : ki_Channel.M w F x [.int .i64 x.From, .int .i64 x.To, v2] :=
  ⟨[_], [_, _], No, P2, rfl, rfl, ⟨[_], [_], No, P2, rfl, rfl, ⟨_, rfl, h2⟩, fun _ h => h.elim, fun _ h => h, fun _ h => h.elim⟩, fun _ h => h.elim, i2, fun _ h => h.elim⟩
theorem ki_Channel_info : (Try.prog.info? 142).map (fun i => (i.zero, i.size, i.bytes)) = some (some (.agg #[.int .i64 0, .int .i64 0, .slice none 0 0]), 3, 40) := by kernel_rfl
theorem ki_Channel_zero (w : World) : ki_Channel.M w No zChannel [.int .i64 0, .int .i64 0, .slice none 0 0] := ki_Channel_mk w No zChannel (P2 := No) R_nil (fun _ h => h)
def kl_Instr : Kn GInstr := Kn.iso (Kn.pair Kn.int (Kn.pair Kn.int (Kn.pair Kn.int (Kn.pair Kn.int (Kn.pair Kn.int Kn.string))))) (fun x => (x.Op, x.A, x.B, x.C, x.D, x.Name))
theorem kl_Instr_K {w : World} {x : GInstr} {cs : List Value} (h : kl_Instr.K w x cs) : cs = [.int .i64 x.Op, .int .i64 x.A, .int .i64 x.B, .int .i64 x.C, .int .i64 x.D, .string x.Name] := by
  obtain ⟨_, _, rfl, rfl, ⟨_, _, rfl, rfl, ⟨_, _, rfl, rfl, ⟨_, _, rfl, rfl, ⟨_, _, rfl, rfl, rfl⟩⟩⟩⟩⟩ := h
  exact rfl
theorem kl_Instr_at {w : World} {A : Option Addr} {l : List GInstr} (h : C kl_Instr w A l) (i : Nat) (hi : i < l.length) : ∃ (ad : Addr), A = some ad ∧ w.cell? (ad.add (i * 6)) = some (.int .i64 l[i].Op) ∧ w.cell? ⟨(ad.add (i * 6)).block, (ad.add (i * 6)).off + 1, none⟩ = some (.int .i64 l[i].A) ∧ w.cell? ⟨(ad.add (i * 6)).block, (ad.add (i * 6)).off + 2, none⟩ = some (.int .i64 l[i].B) ∧ w.cell? ⟨(ad.add (i * 6)).block, (ad.add (i * 6)).off + 3, none⟩ = some (.int .i64 l[i].C) ∧ w.cell? ⟨(ad.add (i * 6)).block, (ad.add (i * 6)).off + 4, none⟩ = some (.int .i64 l[i].D) ∧ w.cell? ⟨(ad.add (i * 6)).block, (ad.add (i * 6)).off + 5, none⟩ = some (.string l[i].Name) := by
  obtain ⟨ad, c, h1, h2, h3, h4⟩ := C_at h i hi
  obtain rfl := kl_Instr_K h2
  exact ⟨ad, h1, h3 _ rfl, h4 0 _ rfl, h4 1 _ rfl, h4 2 _ rfl, h4 3 _ rfl, h4 4 _ rfl⟩
def ki_Instr : Kn GInstr := Kn.iso (Kn.pair Kn.int (Kn.pair Kn.int (Kn.pair Kn.int (Kn.pair Kn.int (Kn.pair Kn.int Kn.string))))) (fun x => (x.Op, x.A, x.B, x.C, x.D, x.Name))
theorem ki_Instr_K {w : World} {x : GInstr} {cs : List Value} (h : ki_Instr.K w x cs) : cs = [.int .i64 x.Op, .int .i64 x.A, .int .i64 x.B, .int .i64 x.C, .int .i64 x.D, .string x.Name] := by
  obtain ⟨_, _, rfl, rfl, ⟨_, _, rfl, rfl, ⟨_, _, rfl, rfl, ⟨_, _, rfl, rfl, ⟨_, _, rfl, rfl, rfl⟩⟩⟩⟩⟩ := h
  exact rfl
theorem ki_Instr_at {w : World} {A : Option Addr} {l : List GInstr} (h : C ki_Instr w A l) (i : Nat) (hi : i < l.length) : ∃ (ad : Addr), A = some ad ∧ w.cell? (ad.add (i * 6)) = some (.int .i64 l[i].Op) ∧ w.cell? ⟨(ad.add (i * 6)).block, (ad.add (i * 6)).off + 1, none⟩ = some (.int .i64 l[i].A) ∧ w.cell? ⟨(ad.add (i * 6)).block, (ad.add (i * 6)).off + 2, none⟩ = some (.int .i64 l[i].B) ∧ w.cell? ⟨(ad.add (i * 6)).block, (ad.add (i * 6)).off + 3, none⟩ = some (.int .i64 l[i].C) ∧ w.cell? ⟨(ad.add (i * 6)).block, (ad.add (i * 6)).off + 4, none⟩ = some (.int .i64 l[i].D) ∧ w.cell? ⟨(ad.add (i * 6)).block, (ad.add (i * 6)).off + 5, none⟩ = some (.string l[i].Name) := by
  obtain ⟨ad, c, h1, h2, h3, h4⟩ := C_at h i hi
  obtain rfl := ki_Instr_K h2
  exact ⟨ad, h1, h3 _ rfl, h4 0 _ rfl, h4 1 _ rfl, h4 2 _ rfl, h4 3 _ rfl, h4 4 _ rfl⟩
theorem ki_Instr_M {w : World} {F : Nat → Prop} {x : GInstr} {cs : List Value} (h : ki_Instr.M w F x cs) : cs = [.int .i64 x.Op, .int .i64 x.A, .int .i64 x.B, .int .i64 x.C, .int .i64 x.D, .string x.Name] := by
  exact ki_Instr_K (ki_Instr.K_of_M h)
theorem ki_Instr_mk (w : World) (F : Nat → Prop) (x : GInstr) : ki_Instr.M w F x [.int .i64 x.Op, .int .i64 x.A, .int .i64 x.B, .int .i64 x.C, .int .i64 x.D, .string x.Name] :=
  ⟨[_], [_, _, _, _, _], No, No, rfl, rfl, ⟨[_], [_, _, _, _], No, No, rfl, rfl, ⟨[_], [_, _, _], No, No, rfl, rfl, ⟨[_], [_, _], No, No, rfl, rfl, ⟨[_], [_], No, No, rfl, rfl, rfl, fun _ h => h.elim, fun _ h => h.elim, fun _ h => h.elim⟩, fun _ h => h.elim, fun _ h => h.elim, fun _ h => h.elim⟩, fun _ h => h.elim, fun _ h => h.elim, fun _ h => h.elim⟩, fun _ h => h.elim, fun _ h => h.elim, fun _ h => h.elim⟩, fun _ h => h.elim, fun _ h => h.elim, fun _ h => h.elim⟩
theorem ki_Instr_info : (Try.prog.info? 221).map (fun i => (i.zero, i.size, i.bytes)) = some (some (.agg #[.int .i64 0, .int .i64 0, .int .i64 0, .int .i64 0, .int .i64 0, .string ⟨#[]⟩]), 6, 56) := by kernel_rfl
theorem ki_Instr_zero (w : World) : ki_Instr.M w No zInstr [.int .i64 0, .int .i64 0, .int .i64 0, .int .i64 0, .int .i64 0, .string ⟨#[]⟩] := ki_Instr_mk w No zInstr
def kl_Method : Kn GMethod := Kn.iso (Kn.pair Kn.string (Kn.slice 261 kl_Instr)) (fun x => (x.Name, x.Code))
theorem kl_Method_K {w : World} {x : GMethod} {cs : List Value} (h : kl_Method.K w x cs) : ∃ (A1 : Option Addr) (c1 : Nat), cs = [.string x.Name, .slice A1 x.Code.length c1] ∧ x.Code.length ≤ c1 ∧ C kl_Instr w A1 x.Code := by
  obtain ⟨_, _, rfl, rfl, ⟨A1, c1, rfl, hl1, hC1⟩⟩ := h
  exact ⟨A1, c1, rfl, hl1, hC1⟩
theorem kl_Method_at {w : World} {A : Option Addr} {l : List GMethod} (h : C kl_Method w A l) (i : Nat) (hi : i < l.length) : ∃ (ad : Addr) (A1 : Option Addr) (c1 : Nat), A = some ad ∧ w.cell? (ad.add (i * 2)) = some (.string l[i].Name) ∧ w.cell? ⟨(ad.add (i * 2)).block, (ad.add (i * 2)).off + 1, none⟩ = some (.slice A1 l[i].Code.length c1) ∧ l[i].Code.length ≤ c1 ∧ C kl_Instr w A1 l[i].Code := by
  obtain ⟨ad, c, h1, h2, h3, h4⟩ := C_at h i hi
  obtain ⟨A1, c1, rfl, hl1, hC1⟩ := kl_Method_K h2
  exact ⟨ad, A1, c1, h1, h3 _ rfl, h4 0 _ rfl, hl1, hC1⟩
def ki_Method : Kn GMethod := Kn.iso (Kn.pair Kn.string (Kn.slice 221 ki_Instr)) (fun x => (x.Name, x.Code))
theorem ki_Method_K {w : World} {x : GMethod} {cs : List Value} (h : ki_Method.K w x cs) : ∃ (A1 : Option Addr) (c1 : Nat), cs = [.string x.Name, .slice A1 x.Code.length c1] ∧ x.Code.length ≤ c1 ∧ C ki_Instr w A1 x.Code := by
  obtain ⟨_, _, rfl, rfl, ⟨A1, c1, rfl, hl1, hC1⟩⟩ := h
  exact ⟨A1, c1, rfl, hl1, hC1⟩
theorem ki_Method_at {w : World} {A : Option Addr} {l : List GMethod} (h : C ki_Method w A l) (i : Nat) (hi : i < l.length) : ∃ (ad : Addr) (A1 : Option Addr) (c1 : Nat), A = some ad ∧ w.cell? (ad.add (i * 2)) = some (.string l[i].Name) ∧ w.cell? ⟨(ad.add (i * 2)).block, (ad.add (i * 2)).off + 1, none⟩ = some (.slice A1 l[i].Code.length c1) ∧ l[i].Code.length ≤ c1 ∧ C ki_Instr w A1 l[i].Code := by
  obtain ⟨ad, c, h1, h2, h3, h4⟩ := C_at h i hi
  obtain ⟨A1, c1, rfl, hl1, hC1⟩ := ki_Method_K h2
  exact ⟨ad, A1, c1, h1, h3 _ rfl, h4 0 _ rfl, hl1, hC1⟩
theorem ki_Method_M {w : World} {F : Nat → Prop} {x : GMethod} {cs : List Value} (h : ki_Method.M w F x cs) : ∃ (v1 : Value) (P1 : Nat → Prop), cs = [.string x.Name, v1] ∧ R ki_Instr 221 w P1 v1 x.Code ∧ (∀ k, P1 k → F k) := by
  obtain ⟨_, _, F0, G0, rfl, rfl, ⟨v1, rfl, hR1⟩, a0, b0, d0⟩ := h
  exact ⟨v1, G0, rfl, hR1, fun k hk => (b0 k hk)⟩
theorem ki_Method_mk (w : World) (F : Nat → Prop) (x : GMethod) {v1 : Value} {P1 : Nat → Prop} (h1 : R ki_Instr 221 w P1 v1 x.Code) (i1 : ∀ k, P1 k → F k) : ki_Method.M w F x [.string x.Name, v1] :=
  ⟨[_], [_], No, P1, rfl, rfl, ⟨_, rfl, h1⟩, fun _ h => h.elim, i1, fun _ h => h.elim⟩
theorem ki_Method_info : (Try.prog.info? 83).map (fun i => (i.zero, i.size, i.bytes)) = some (some (.agg #[.string ⟨#[]⟩, .slice none 0 0]), 2, 40) := by kernel_rfl
theorem ki_Method_zero (w : World) : ki_Method.M w No zMethod [.string ⟨#[]⟩, .slice none 0 0] := ki_Method_mk w No zMethod (P1 := No) R_nil (fun _ h => h)
def kl_Script : Kn GScript := Kn.iso (Kn.pair Kn.string (Kn.slice 247 kl_Method)) (fun x => (x.Name, x.Methods))
theorem kl_Script_K {w : World} {x : GScript} {cs : List Value} (h : kl_Script.K w x cs) : ∃ (A1 : Option Addr) (c1 : Nat), cs = [.string x.Name, .slice A1 x.Methods.length c1] ∧ x.Methods.length ≤ c1 ∧ C kl_Method w A1 x.Methods := by
  obtain ⟨_, _, rfl, rfl, ⟨A1, c1, rfl, hl1, hC1⟩⟩ := h
  exact ⟨A1, c1, rfl, hl1, hC1⟩
theorem kl_Script_at {w : World} {A : Option Addr} {l : List GScript} (h : C kl_Script w A l) (i : Nat) (hi : i < l.length) : ∃ (ad : Addr) (A1 : Option Addr) (c1 : Nat), A = some ad ∧ w.cell? (ad.add (i * 2)) = some (.string l[i].Name) ∧ w.cell? ⟨(ad.add (i * 2)).block, (ad.add (i * 2)).off + 1, none⟩ = some (.slice A1 l[i].Methods.length c1) ∧ l[i].Methods.length ≤ c1 ∧ C kl_Method w A1 l[i].Methods := by
  obtain ⟨ad, c, h1, h2, h3, h4⟩ := C_at h i hi
  obtain ⟨A1, c1, rfl, hl1, hC1⟩ := kl_Script_K h2
  exact ⟨ad, A1, c1, h1, h3 _ rfl, h4 0 _ rfl, hl1, hC1⟩
def ki_Script : Kn GScript := Kn.iso (Kn.pair Kn.string (Kn.slice 83 ki_Method)) (fun x => (x.Name, x.Methods))
theorem ki_Script_K {w : World} {x : GScript} {cs : List Value} (h : ki_Script.K w x cs) : ∃ (A1 : Option Addr) (c1 : Nat), cs = [.string x.Name, .slice A1 x.Methods.length c1] ∧ x.Methods.length ≤ c1 ∧ C ki_Method w A1 x.Methods := by
  obtain ⟨_, _, rfl, rfl, ⟨A1, c1, rfl, hl1, hC1⟩⟩ := h
  exact ⟨A1, c1, rfl, hl1, hC1⟩
theorem ki_Script_at {w : World} {A : Option Addr} {l : List GScript} (h : C ki_Script w A l) (i : Nat) (hi : i < l.length) : ∃ (ad : Addr) (A1 : Option Addr) (c1 : Nat), A = some ad ∧ w.cell? (ad.add (i * 2)) = some (.string l[i].Name) ∧ w.cell? ⟨(ad.add (i * 2)).block, (ad.add (i * 2)).off + 1, none⟩ = some (.slice A1 l[i].Methods.length c1) ∧ l[i].Methods.length ≤ c1 ∧ C ki_Method w A1 l[i].Methods := by
  obtain ⟨ad, c, h1, h2, h3, h4⟩ := C_at h i hi
  obtain ⟨A1, c1, rfl, hl1, hC1⟩ := ki_Script_K h2
  exact ⟨ad, A1, c1, h1, h3 _ rfl, h4 0 _ rfl, hl1, hC1⟩
theorem ki_Script_M {w : World} {F : Nat → Prop} {x : GScript} {cs : List Value} (h : ki_Script.M w F x cs) : ∃ (v1 : Value) (P1 : Nat → Prop), cs = [.string x.Name, v1] ∧ R ki_Method 83 w P1 v1 x.Methods ∧ (∀ k, P1 k → F k) := by
  obtain ⟨_, _, F0, G0, rfl, rfl, ⟨v1, rfl, hR1⟩, a0, b0, d0⟩ := h
  exact ⟨v1, G0, rfl, hR1, fun k hk => (b0 k hk)⟩
theorem ki_Script_mk (w : World) (F : Nat → Prop) (x : GScript) {v1 : Value} {P1 : Nat → Prop} (h1 : R ki_Method 83 w P1 v1 x.Methods) (i1 : ∀ k, P1 k → F k) : ki_Script.M w F x [.string x.Name, v1] :=
  ⟨[_], [_], No, P1, rfl, rfl, ⟨_, rfl, h1⟩, fun _ h => h.elim, i1, fun _ h => h.elim⟩
theorem ki_Script_info : (Try.prog.info? 161).map (fun i => (i.zero, i.size, i.bytes)) = some (some (.agg #[.string ⟨#[]⟩, .slice none 0 0]), 2, 40) := by kernel_rfl
theorem ki_Script_zero (w : World) : ki_Script.M w No zScript [.string ⟨#[]⟩, .slice none 0 0] := ki_Script_mk w No zScript (P1 := No) R_nil (fun _ h => h)
end Go.Proofs.YtfnedoiplblldaaK

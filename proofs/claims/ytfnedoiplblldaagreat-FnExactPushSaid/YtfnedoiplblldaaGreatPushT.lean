/- Push: what the reference and the program compute. No conditions. -/
import Derived.Test.YtfnedoiplblldaaGreatProg
import Derived.Test.YtfnedoiplblldaaGreatTy
import Derived.Test.YtfnedoiplblldaaGreatOpn
import Derived.Test.YtfnedoiplblldaaGreatSym3
import Derived.Test.YtfnedoiplblldaaGreatUps
import Derived.Test.YtfnedoiplblldaaGreatCx8
namespace Go.Proofs.YtfnedoiplblldaaGreatFam
open Go.ChangeShapes Go.WideShapes Go.RowKit Go.Proofs.YtfnedoiplblldaaGreatSep Go.Proofs.YtfnedoiplblldaaGreatT Go.Proofs.YtfnedoiplblldaaGreatK
set_option linter.unusedVariables false
set_option linter.unusedSimpArgs false
def pushO (p : Int) (m : GMessage) (lk : List GLink) (lo : List GOutgoing) : List GOutgoing := if lk.any (upP p) = true then lo ++ [⟨p, m⟩] else lo
def pushV (p : Int) (m : GMessage) (x : GVat) : GVat := ⟨x.Id, x.Entities, x.Loop, x.Links, pushO p m x.Links x.Out⟩
theorem pushO_yes (p : Int) (m : GMessage) (lk : List GLink) (lo : List GOutgoing) (h : lk.any (upP p) = true) : pushO p m lk lo = lo ++ [⟨p, m⟩] := if_pos h
theorem pushO_no (p : Int) (m : GMessage) (lk : List GLink) (lo : List GOutgoing) (h : lk.any (upP p) = false) : pushO p m lk lo = lo := if_neg (by rw [h]; decide)
theorem pushV_bd (p : Int) (m : GMessage) (x : GVat) (h : szn_Vat x ≤ 1048576) (h2 : szn_Message m ≤ 1048576) : szn_Vat (pushV p m x) ≤ 4194304 := by
  have h1 : sznS szn_Outgoing (pushO p m x.Links x.Out) ≤ sznS szn_Outgoing x.Out + szn_Message m + 1 := by
    unfold pushO
    split
    · unfold sznS
      rw [sumS_append, List.length_append, List.length_singleton]
      simp only [sumS, szn_Outgoing]
      omega
    · omega
  unfold szn_Vat at h ⊢
  simp only [pushV]
  omega
set_option maxHeartbeats 4000000 in
set_option maxRecDepth 100000 in
theorem push_yes (lk : List GLink) (lo : List GOutgoing) (p : Int) (m : GMessage) (g cL cO cW : Nat) (AL AO BW : Option Addr) (u0 u1 u2 : Value) (F0 : Nat → Prop) (w : World) (h : Star [hB g 68 #[u0, u1, u2, .slice AL lk.length cL, .slice AO lo.length cO], hR ki_Link 178 (.slice AL lk.length cL) lk, hR ki_Outgoing 147 (.slice AO lo.length cO) lo, hR ki_Wire 72 (.slice BW m.Args.length cW) m.Args] w F0) (hn : lo.length ≤ 4194304) (hup : lk.any (upP p) = true) : Calls Tryz.prog 100 #[.pointer (some ⟨g, 0, none⟩), .int .i64 p, .agg #[.int .i64 (m.Kind), .int .i64 (m.Pos), .int .i64 (m.Answer), .int .i64 (m.Question), .string (m.Name), .slice BW m.Args.length cW, .int .i64 (m.Value.Kind), .int .i64 (m.Value.N), .int .i64 (m.Count), .int .i64 (m.Tag.Vat), .int .i64 (m.Tag.Entity), .int .i64 (m.Tag.Seq)]] w (fun e' w' => ∃ A c, e' = .returned (.tuple #[]) ∧ St w F0 [hB g 68 #[u0, u1, u2, .slice AL lk.length cL, .slice A (pushO p m lk lo).length c], hR ki_Link 178 (.slice AL lk.length cL) lk, hR ki_Outgoing 147 (.slice A (pushO p m lk lo).length c) (pushO p m lk lo)] w') := by
  obtain ⟨k, hk, hf⟩ := up_pe p lk hup
  refine enter 22 [(0, .pointer (some ⟨g, 0, none⟩)), (1, .int .i64 (p)), (2, .agg #[.int .i64 (m.Kind), .int .i64 (m.Pos), .int .i64 (m.Answer), .int .i64 (m.Question), .string (m.Name), .slice BW m.Args.length cW, .int .i64 (m.Value.Kind), .int .i64 (m.Value.N), .int .i64 (m.Count), .int .i64 (m.Tag.Vat), .int .i64 (m.Tag.Entity), .int .i64 (m.Tag.Seq)])] Tryz.func100 rfl (by kernel_rfl) ?_
  intro xj
  have H1 : St w F0 [hB g 68 #[u0, u1, u2, .slice AL lk.length cL, .slice AO lo.length cO], hR ki_Link 178 (.slice AL lk.length cL) lk, hR ki_Outgoing 147 (.slice AO lo.length cO) lo, hR ki_Wire 72 (.slice BW m.Args.length cW) m.Args] w := St.enterF h
  refine wp_seq ?_
  refine reg_seq [0] rfl ?_
  refine ops_cons ?_
  refine op_box rfl rfl rfl rfl H1 ?_
  intro g_0_0 W2 hu3 Ha4
  clear H1
  have H5 : St w F0 [hB g_0_0 74 #[.int .i64 (m.Kind), .int .i64 (m.Pos), .int .i64 (m.Answer), .int .i64 (m.Question), .string (m.Name), .slice BW m.Args.length cW, .int .i64 (m.Value.Kind), .int .i64 (m.Value.N), .int .i64 (m.Count), .int .i64 (m.Tag.Vat), .int .i64 (m.Tag.Entity), .int .i64 (m.Tag.Seq)], hB g 68 #[u0, u1, u2, .slice AL lk.length cL, .slice AO lo.length cO], hR ki_Link 178 (.slice AL lk.length cL) lk, hR ki_Outgoing 147 (.slice AO lo.length cO) lo, hR ki_Wire 72 (.slice BW m.Args.length cW) m.Args] W2 := Ha4
  clear Ha4
  clear hu3
  refine ops_nil ?_
  refine then_n ?_
  refine wp_seq ?_
  refine reg_seq [0, 1, 2, 3] rfl ?_
  refine ops_cons ?_
  refine op_pure rfl (rn_move rfl) rfl rfl ?_
  refine ops_cons ?_
  refine op_pure rfl (rn_move rfl) rfl rfl ?_
  refine ops_cons ?_
  have H6 : St w F0 [hB g 68 #[u0, u1, u2, .slice AL lk.length cL, .slice AO lo.length cO], hR ki_Link 178 (.slice AL lk.length cL) lk, hB g_0_0 74 #[.int .i64 (m.Kind), .int .i64 (m.Pos), .int .i64 (m.Answer), .int .i64 (m.Question), .string (m.Name), .slice BW m.Args.length cW, .int .i64 (m.Value.Kind), .int .i64 (m.Value.N), .int .i64 (m.Count), .int .i64 (m.Tag.Vat), .int .i64 (m.Tag.Entity), .int .i64 (m.Tag.Seq)], hR ki_Outgoing 147 (.slice AO lo.length cO) lo, hR ki_Wire 72 (.slice BW m.Args.length cW) m.Args] W2 := H5.pick [1, 2, 0, 3, 4] (by decide) rfl
  clear H5
  obtain ⟨F7, hs8, _, hfr9⟩ := St.frame (l0 := [hB g 68 #[u0, u1, u2, .slice AL lk.length cL, .slice AO lo.length cO], hR ki_Link 178 (.slice AL lk.length cL) lk]) (l := [hB g_0_0 74 #[.int .i64 (m.Kind), .int .i64 (m.Pos), .int .i64 (m.Answer), .int .i64 (m.Question), .string (m.Name), .slice BW m.Args.length cW, .int .i64 (m.Value.Kind), .int .i64 (m.Value.N), .int .i64 (m.Count), .int .i64 (m.Tag.Vat), .int .i64 (m.Tag.Entity), .int .i64 (m.Tag.Seq)], hR ki_Outgoing 147 (.slice AO lo.length cO) lo, hR ki_Wire 72 (.slice BW m.Args.length cW) m.Args]) H6
  refine op_call rfl Tryz.call167 (vs := #[.pointer (some ⟨g, 0, none⟩), .int .i64 (p)]) rfl rfl rfl (link_yes lk p _ _ _ _ _ _ _ _ _ hs8 hup k hk hf) ?_
  rintro e12 W11 ⟨al, hal, rfl, Hn10⟩
  refine ⟨_, rfl, ?_⟩
  have H13 : St w F0 [hB g 68 #[u0, u1, u2, .slice AL lk.length cL, .slice AO lo.length cO], hR ki_Link 178 (.slice AL lk.length cL) lk, hB g_0_0 74 #[.int .i64 (m.Kind), .int .i64 (m.Pos), .int .i64 (m.Answer), .int .i64 (m.Question), .string (m.Name), .slice BW m.Args.length cW, .int .i64 (m.Value.Kind), .int .i64 (m.Value.N), .int .i64 (m.Count), .int .i64 (m.Tag.Vat), .int .i64 (m.Tag.Entity), .int .i64 (m.Tag.Seq)], hR ki_Outgoing 147 (.slice AO lo.length cO) lo, hR ki_Wire 72 (.slice BW m.Args.length cW) m.Args] W11 := hfr9 _ _ Hn10
  clear H6
  refine ops_cons ?_
  refine op_pure rfl (rn_neqNilT Tryz.runUnderlying241 rfl rfl) rfl rfl ?_
  refine ops_nil ?_
  refine then_n ?_
  refine cond_t rfl ?_
  refine reg_draw (fun W' => Blk W' g 68 #[u0, u1, u2, .slice AL lk.length cL, .slice AO lo.length cO] ∧ Blk W' g_0_0 74 #[.int .i64 (m.Kind), .int .i64 (m.Pos), .int .i64 (m.Answer), .int .i64 (m.Question), .string (m.Name), .slice BW m.Args.length cW, .int .i64 (m.Value.Kind), .int .i64 (m.Value.N), .int .i64 (m.Count), .int .i64 (m.Tag.Vat), .int .i64 (m.Tag.Entity), .int .i64 (m.Tag.Seq)]) 12 (by kernel_rfl) ?_
  have H14 : St w F0 [hB g 68 #[u0, u1, u2, .slice AL lk.length cL, .slice AO lo.length cO], hR ki_Link 178 (.slice AL lk.length cL) lk, hB g_0_0 74 #[.int .i64 (m.Kind), .int .i64 (m.Pos), .int .i64 (m.Answer), .int .i64 (m.Question), .string (m.Name), .slice BW m.Args.length cW, .int .i64 (m.Value.Kind), .int .i64 (m.Value.N), .int .i64 (m.Count), .int .i64 (m.Tag.Vat), .int .i64 (m.Tag.Entity), .int .i64 (m.Tag.Seq)], hR ki_Outgoing 147 (.slice AO lo.length cO) lo, hR ki_Wire 72 (.slice BW m.Args.length cW) m.Args] W11.drew := H13.drew
  clear H13
  have hS15 : Blk W11.drew g 68 #[u0, u1, u2, .slice AL lk.length cL, .slice AO lo.length cO] ∧ Blk W11.drew g_0_0 74 #[.int .i64 (m.Kind), .int .i64 (m.Pos), .int .i64 (m.Answer), .int .i64 (m.Question), .string (m.Name), .slice BW m.Args.length cW, .int .i64 (m.Value.Kind), .int .i64 (m.Value.N), .int .i64 (m.Count), .int .i64 (m.Tag.Vat), .int .i64 (m.Tag.Entity), .int .i64 (m.Tag.Seq)] := ⟨H14.blk 0 rfl, H14.blk 2 rfl⟩
  refine anyS_take (i := 0) rfl (by kernel_rfl) (by kernel_rfl) (by kernel_rfl) (by kernel_rfl) (by kernel_rfl) (fun _ _ _ h => h) rfl rfl hS15 (fun W' hs' => rn_move rfl) ?_
  refine anyS_take (i := 1) rfl (by kernel_rfl) (by kernel_rfl) (by kernel_rfl) (by kernel_rfl) (by kernel_rfl) (fun _ _ _ h => h) rfl rfl hS15 (fun W' hs' => rn_move rfl) ?_
  refine anyS_take (i := 2) rfl (by kernel_rfl) (by kernel_rfl) (by kernel_rfl) (by kernel_rfl) (by kernel_rfl) (fun _ _ _ h => h) rfl rfl hS15 (fun W' hs' => rn_nilCheck rfl) ?_
  refine anyS_take (i := 3) rfl (by kernel_rfl) (by kernel_rfl) (by kernel_rfl) (by kernel_rfl) (by kernel_rfl) (fun _ _ _ h => h) rfl rfl hS15 (fun W' hs' => rn_field fa_68_4 rfl) ?_
  refine anyS_take (i := 4) rfl (by kernel_rfl) (by kernel_rfl) (by kernel_rfl) (by kernel_rfl) (by kernel_rfl) (fun _ _ _ h => h) rfl rfl hS15 (fun W' hs' => rn_loadC (k := 4) (v := .slice AO lo.length cO) Tryz.isAgg66 rfl hs'.1 rfl) ?_
  refine anyS_take (i := 5) rfl (by kernel_rfl) (by kernel_rfl) (by kernel_rfl) (by kernel_rfl) (by kernel_rfl) (fun _ _ _ h => h) rfl rfl hS15 (fun W' hs' => rn_move rfl) ?_
  refine anyS_take (i := 6) rfl (by kernel_rfl) (by kernel_rfl) (by kernel_rfl) (by kernel_rfl) (by kernel_rfl) (fun _ _ _ h => h) rfl rfl hS15 (fun W' hs' => rn_loadB Tryz.isAgg74 Tryz.sizeOf74 rfl hs'.2 rfl) ?_
  refine anyS_take (i := 7) rfl (by kernel_rfl) (by kernel_rfl) (by kernel_rfl) (by kernel_rfl) (by kernel_rfl) (fun _ _ _ h => h) rfl rfl hS15 (fun W' hs' => rn_build (vs := [(0, .int .i64 (p)), (1, .agg #[.int .i64 (m.Kind), .int .i64 (m.Pos), .int .i64 (m.Answer), .int .i64 (m.Question), .string (m.Name), .slice BW m.Args.length cW, .int .i64 (m.Value.Kind), .int .i64 (m.Value.N), .int .i64 (m.Count), .int .i64 (m.Tag.Vat), .int .i64 (m.Tag.Entity), .int .i64 (m.Tag.Seq)])]) (cells := #[.int .i64 (p), .int .i64 (m.Kind), .int .i64 (m.Pos), .int .i64 (m.Answer), .int .i64 (m.Question), .string (m.Name), .slice BW m.Args.length cW, .int .i64 (m.Value.Kind), .int .i64 (m.Value.N), .int .i64 (m.Count), .int .i64 (m.Tag.Vat), .int .i64 (m.Tag.Entity), .int .i64 (m.Tag.Seq)]) rfl (by kernel_rfl)) ?_
  refine anyS_one (i := 8) (by kernel_rfl) ?_
  refine op_slice1 rfl Tryz.runUnderlying66 Tryz.sizeOf147 (by decide) Tryz.zeroValue147 rfl rfl rfl rfl H14 ?_
  intro g_2_8 W16 hu17 Ha18
  clear H14
  have H19 : St w F0 [hB g_2_8 147 #[.int .i64 (p), .int .i64 (m.Kind), .int .i64 (m.Pos), .int .i64 (m.Answer), .int .i64 (m.Question), .string (m.Name), .slice BW m.Args.length cW, .int .i64 (m.Value.Kind), .int .i64 (m.Value.N), .int .i64 (m.Count), .int .i64 (m.Tag.Vat), .int .i64 (m.Tag.Entity), .int .i64 (m.Tag.Seq)], hB g 68 #[u0, u1, u2, .slice AL lk.length cL, .slice AO lo.length cO], hR ki_Link 178 (.slice AL lk.length cL) lk, hB g_0_0 74 #[.int .i64 (m.Kind), .int .i64 (m.Pos), .int .i64 (m.Answer), .int .i64 (m.Question), .string (m.Name), .slice BW m.Args.length cW, .int .i64 (m.Value.Kind), .int .i64 (m.Value.N), .int .i64 (m.Count), .int .i64 (m.Tag.Vat), .int .i64 (m.Tag.Entity), .int .i64 (m.Tag.Seq)], hR ki_Outgoing 147 (.slice AO lo.length cO) lo, hR ki_Wire 72 (.slice BW m.Args.length cW) m.Args] W16 := Ha18
  clear Ha18
  clear hu17
  have hS20 : Blk W16 g 68 #[u0, u1, u2, .slice AL lk.length cL, .slice AO lo.length cO] ∧ Blk W16 g_0_0 74 #[.int .i64 (m.Kind), .int .i64 (m.Pos), .int .i64 (m.Answer), .int .i64 (m.Question), .string (m.Name), .slice BW m.Args.length cW, .int .i64 (m.Value.Kind), .int .i64 (m.Value.N), .int .i64 (m.Count), .int .i64 (m.Tag.Vat), .int .i64 (m.Tag.Entity), .int .i64 (m.Tag.Seq)] := ⟨H19.blk 1 rfl, H19.blk 3 rfl⟩
  refine ⟨fun _ => hS20, ?_⟩
  refine anyS_one (i := 9) (by kernel_rfl) ?_
  have H23 : St w F0 [hR ki_Wire 72 (.slice BW m.Args.length cW) m.Args, hB g_2_8 147 #[.int .i64 (p), .int .i64 (m.Kind), .int .i64 (m.Pos), .int .i64 (m.Answer), .int .i64 (m.Question), .string (m.Name), .slice BW m.Args.length cW, .int .i64 (m.Value.Kind), .int .i64 (m.Value.N), .int .i64 (m.Count), .int .i64 (m.Tag.Vat), .int .i64 (m.Tag.Entity), .int .i64 (m.Tag.Seq)], hB g 68 #[u0, u1, u2, .slice AL lk.length cL, .slice AO lo.length cO], hR ki_Link 178 (.slice AL lk.length cL) lk, hB g_0_0 74 #[.int .i64 (m.Kind), .int .i64 (m.Pos), .int .i64 (m.Answer), .int .i64 (m.Question), .string (m.Name), .slice BW m.Args.length cW, .int .i64 (m.Value.Kind), .int .i64 (m.Value.N), .int .i64 (m.Count), .int .i64 (m.Tag.Vat), .int .i64 (m.Tag.Entity), .int .i64 (m.Tag.Seq)], hR ki_Outgoing 147 (.slice AO lo.length cO) lo] W16 := H19.pick [5, 0, 1, 2, 3, 4] (by decide) rfl
  clear H19
  have H24 : St w F0 [hM ki_Outgoing (⟨p, m⟩ : GOutgoing) [.int .i64 (p), .int .i64 (m.Kind), .int .i64 (m.Pos), .int .i64 (m.Answer), .int .i64 (m.Question), .string (m.Name), .slice BW m.Args.length cW, .int .i64 (m.Value.Kind), .int .i64 (m.Value.N), .int .i64 (m.Count), .int .i64 (m.Tag.Vat), .int .i64 (m.Tag.Entity), .int .i64 (m.Tag.Seq)], hB g_2_8 147 #[.int .i64 (p), .int .i64 (m.Kind), .int .i64 (m.Pos), .int .i64 (m.Answer), .int .i64 (m.Question), .string (m.Name), .slice BW m.Args.length cW, .int .i64 (m.Value.Kind), .int .i64 (m.Value.N), .int .i64 (m.Count), .int .i64 (m.Tag.Vat), .int .i64 (m.Tag.Entity), .int .i64 (m.Tag.Seq)], hB g 68 #[u0, u1, u2, .slice AL lk.length cL, .slice AO lo.length cO], hR ki_Link 178 (.slice AL lk.length cL) lk, hB g_0_0 74 #[.int .i64 (m.Kind), .int .i64 (m.Pos), .int .i64 (m.Answer), .int .i64 (m.Question), .string (m.Name), .slice BW m.Args.length cW, .int .i64 (m.Value.Kind), .int .i64 (m.Value.N), .int .i64 (m.Count), .int .i64 (m.Tag.Vat), .int .i64 (m.Tag.Entity), .int .i64 (m.Tag.Seq)], hR ki_Outgoing 147 (.slice AO lo.length cO) lo] W16 := H23.swap (l0 := [hR ki_Wire 72 (.slice BW m.Args.length cW) m.Args]) (l' := [hM ki_Outgoing (⟨p, m⟩ : GOutgoing) [.int .i64 (p), .int .i64 (m.Kind), .int .i64 (m.Pos), .int .i64 (m.Answer), .int .i64 (m.Question), .string (m.Name), .slice BW m.Args.length cW, .int .i64 (m.Value.Kind), .int .i64 (m.Value.N), .int .i64 (m.Count), .int .i64 (m.Tag.Vat), .int .i64 (m.Tag.Entity), .int .i64 (m.Tag.Seq)]]) (fun _ h => Star.one (ki_Outgoing_close (x := (⟨p, m⟩ : GOutgoing)) h))
  clear H23
  have H25 : St w F0 [hR ki_Outgoing 147 (.slice AO lo.length cO) lo, hB g_2_8 147 #[.int .i64 (p), .int .i64 (m.Kind), .int .i64 (m.Pos), .int .i64 (m.Answer), .int .i64 (m.Question), .string (m.Name), .slice BW m.Args.length cW, .int .i64 (m.Value.Kind), .int .i64 (m.Value.N), .int .i64 (m.Count), .int .i64 (m.Tag.Vat), .int .i64 (m.Tag.Entity), .int .i64 (m.Tag.Seq)], hM ki_Outgoing (⟨p, m⟩ : GOutgoing) [.int .i64 (p), .int .i64 (m.Kind), .int .i64 (m.Pos), .int .i64 (m.Answer), .int .i64 (m.Question), .string (m.Name), .slice BW m.Args.length cW, .int .i64 (m.Value.Kind), .int .i64 (m.Value.N), .int .i64 (m.Count), .int .i64 (m.Tag.Vat), .int .i64 (m.Tag.Entity), .int .i64 (m.Tag.Seq)], hB g 68 #[u0, u1, u2, .slice AL lk.length cL, .slice AO lo.length cO], hR ki_Link 178 (.slice AL lk.length cL) lk, hB g_0_0 74 #[.int .i64 (m.Kind), .int .i64 (m.Pos), .int .i64 (m.Answer), .int .i64 (m.Question), .string (m.Name), .slice BW m.Args.length cW, .int .i64 (m.Value.Kind), .int .i64 (m.Value.N), .int .i64 (m.Count), .int .i64 (m.Tag.Vat), .int .i64 (m.Tag.Entity), .int .i64 (m.Tag.Seq)]] W16 := H24.pick [5, 1, 0, 2, 3, 4] (by decide) rfl
  clear H24
  refine op_append1' (xs := lo) (p := (⟨p, m⟩ : GOutgoing)) (n' := (lo.length + 1)) (ys := (lo ++ [(⟨p, m⟩ : GOutgoing)])) rfl Tryz.underlying66 ki_Outgoing_info rfl (by decide) (by decide) rfl rfl (by omega) rfl rfl rfl rfl H25 ?_
  intro B_2_9 c_2_9 W21 Ha22
  clear H25
  have H26 : St w F0 [hR ki_Outgoing 147 (.slice B_2_9 (lo.length + 1) c_2_9) (lo ++ [(⟨p, m⟩ : GOutgoing)]), hB g 68 #[u0, u1, u2, .slice AL lk.length cL, .slice AO lo.length cO], hR ki_Link 178 (.slice AL lk.length cL) lk, hB g_0_0 74 #[.int .i64 (m.Kind), .int .i64 (m.Pos), .int .i64 (m.Answer), .int .i64 (m.Question), .string (m.Name), .slice BW m.Args.length cW, .int .i64 (m.Value.Kind), .int .i64 (m.Value.N), .int .i64 (m.Count), .int .i64 (m.Tag.Vat), .int .i64 (m.Tag.Entity), .int .i64 (m.Tag.Seq)]] W21 := Ha22
  clear Ha22
  have hS27 : Blk W21 g 68 #[u0, u1, u2, .slice AL lk.length cL, .slice AO lo.length cO] ∧ Blk W21 g_0_0 74 #[.int .i64 (m.Kind), .int .i64 (m.Pos), .int .i64 (m.Answer), .int .i64 (m.Question), .string (m.Name), .slice BW m.Args.length cW, .int .i64 (m.Value.Kind), .int .i64 (m.Value.N), .int .i64 (m.Count), .int .i64 (m.Tag.Vat), .int .i64 (m.Tag.Entity), .int .i64 (m.Tag.Seq)] := ⟨H26.blk 1 rfl, H26.blk 3 rfl⟩
  refine ⟨fun _ => hS27, ?_⟩
  refine anyS_one (i := 10) (by kernel_rfl) ?_
  refine op_pure rfl (rn_nilCheck rfl) rfl rfl ?_
  have hS28 : Blk W21 g 68 #[u0, u1, u2, .slice AL lk.length cL, .slice AO lo.length cO] ∧ Blk W21 g_0_0 74 #[.int .i64 (m.Kind), .int .i64 (m.Pos), .int .i64 (m.Answer), .int .i64 (m.Question), .string (m.Name), .slice BW m.Args.length cW, .int .i64 (m.Value.Kind), .int .i64 (m.Value.N), .int .i64 (m.Count), .int .i64 (m.Tag.Vat), .int .i64 (m.Tag.Entity), .int .i64 (m.Tag.Seq)] := ⟨H26.blk 1 rfl, H26.blk 3 rfl⟩
  refine ⟨fun _ => hS28, ?_⟩
  refine anyS_take (i := 11) rfl (by kernel_rfl) (by kernel_rfl) (by kernel_rfl) (by kernel_rfl) (by kernel_rfl) (fun _ _ _ h => h) rfl rfl hS28 (fun W' hs' => rn_field fa_68_4 rfl) ?_
  refine anyS_one (i := 12) (by kernel_rfl) ?_
  have H32 : St w F0 [hB g 68 #[u0, u1, u2, .slice AL lk.length cL, .slice AO lo.length cO], hR ki_Outgoing 147 (.slice B_2_9 (lo.length + 1) c_2_9) (lo ++ [(⟨p, m⟩ : GOutgoing)]), hR ki_Link 178 (.slice AL lk.length cL) lk, hB g_0_0 74 #[.int .i64 (m.Kind), .int .i64 (m.Pos), .int .i64 (m.Answer), .int .i64 (m.Question), .string (m.Name), .slice BW m.Args.length cW, .int .i64 (m.Value.Kind), .int .i64 (m.Value.N), .int .i64 (m.Count), .int .i64 (m.Tag.Vat), .int .i64 (m.Tag.Entity), .int .i64 (m.Tag.Seq)]] W21 := H26.pick [1, 0, 2, 3] (by decide) rfl
  clear H26
  refine op_store rfl Tryz.sizeOf66 rfl rfl rfl (Nat.le_of_ble_eq_true rfl) (by simp [Value.cells, Value.oneCell']) H32 ?_
  intro W29 hu30 Ha31
  clear H32
  have H33 : St w F0 [hB g 68 #[u0, u1, u2, .slice AL lk.length cL, .slice B_2_9 (lo.length + 1) c_2_9], hR ki_Outgoing 147 (.slice B_2_9 (lo.length + 1) c_2_9) (lo ++ [(⟨p, m⟩ : GOutgoing)]), hR ki_Link 178 (.slice AL lk.length cL) lk, hB g_0_0 74 #[.int .i64 (m.Kind), .int .i64 (m.Pos), .int .i64 (m.Answer), .int .i64 (m.Question), .string (m.Name), .slice BW m.Args.length cW, .int .i64 (m.Value.Kind), .int .i64 (m.Value.N), .int .i64 (m.Count), .int .i64 (m.Tag.Vat), .int .i64 (m.Tag.Entity), .int .i64 (m.Tag.Seq)]] W29 := Ha31
  clear Ha31
  clear hu30
  refine ⟨fun h => absS (by kernel_rfl) h, ?_⟩
  refine anyS_done (by kernel_rfl) ?_ _
  refine post_void (.inr rfl) Tryz.results100 ?_
  rw [pushO_yes p m lk lo hup]
  rw [List.length_append]
  exact ⟨B_2_9, c_2_9, rfl, H33.pick [0, 2, 1] (by decide) rfl⟩
set_option maxHeartbeats 4000000 in
set_option maxRecDepth 100000 in
theorem push_no (lk : List GLink) (lo : List GOutgoing) (p : Int) (m : GMessage) (g cL cO cW : Nat) (AL AO BW : Option Addr) (u0 u1 u2 : Value) (F0 : Nat → Prop) (w : World) (h : Star [hB g 68 #[u0, u1, u2, .slice AL lk.length cL, .slice AO lo.length cO], hR ki_Link 178 (.slice AL lk.length cL) lk, hR ki_Outgoing 147 (.slice AO lo.length cO) lo, hR ki_Wire 72 (.slice BW m.Args.length cW) m.Args] w F0) (hn : lo.length ≤ 4194304) (hup : lk.any (upP p) = false) : Calls Tryz.prog 100 #[.pointer (some ⟨g, 0, none⟩), .int .i64 p, .agg #[.int .i64 (m.Kind), .int .i64 (m.Pos), .int .i64 (m.Answer), .int .i64 (m.Question), .string (m.Name), .slice BW m.Args.length cW, .int .i64 (m.Value.Kind), .int .i64 (m.Value.N), .int .i64 (m.Count), .int .i64 (m.Tag.Vat), .int .i64 (m.Tag.Entity), .int .i64 (m.Tag.Seq)]] w (fun e' w' => ∃ A c, e' = .returned (.tuple #[]) ∧ St w F0 [hB g 68 #[u0, u1, u2, .slice AL lk.length cL, .slice A (pushO p m lk lo).length c], hR ki_Link 178 (.slice AL lk.length cL) lk, hR ki_Outgoing 147 (.slice A (pushO p m lk lo).length c) (pushO p m lk lo)] w') := by
  refine enter 22 [(0, .pointer (some ⟨g, 0, none⟩)), (1, .int .i64 (p)), (2, .agg #[.int .i64 (m.Kind), .int .i64 (m.Pos), .int .i64 (m.Answer), .int .i64 (m.Question), .string (m.Name), .slice BW m.Args.length cW, .int .i64 (m.Value.Kind), .int .i64 (m.Value.N), .int .i64 (m.Count), .int .i64 (m.Tag.Vat), .int .i64 (m.Tag.Entity), .int .i64 (m.Tag.Seq)])] Tryz.func100 rfl (by kernel_rfl) ?_
  intro xj
  have H1 : St w F0 [hB g 68 #[u0, u1, u2, .slice AL lk.length cL, .slice AO lo.length cO], hR ki_Link 178 (.slice AL lk.length cL) lk, hR ki_Outgoing 147 (.slice AO lo.length cO) lo, hR ki_Wire 72 (.slice BW m.Args.length cW) m.Args] w := St.enterF h
  refine wp_seq ?_
  refine reg_seq [0] rfl ?_
  refine ops_cons ?_
  refine op_box rfl rfl rfl rfl H1 ?_
  intro g_0_0 W2 hu3 Ha4
  clear H1
  have H5 : St w F0 [hB g_0_0 74 #[.int .i64 (m.Kind), .int .i64 (m.Pos), .int .i64 (m.Answer), .int .i64 (m.Question), .string (m.Name), .slice BW m.Args.length cW, .int .i64 (m.Value.Kind), .int .i64 (m.Value.N), .int .i64 (m.Count), .int .i64 (m.Tag.Vat), .int .i64 (m.Tag.Entity), .int .i64 (m.Tag.Seq)], hB g 68 #[u0, u1, u2, .slice AL lk.length cL, .slice AO lo.length cO], hR ki_Link 178 (.slice AL lk.length cL) lk, hR ki_Outgoing 147 (.slice AO lo.length cO) lo, hR ki_Wire 72 (.slice BW m.Args.length cW) m.Args] W2 := Ha4
  clear Ha4
  clear hu3
  refine ops_nil ?_
  refine then_n ?_
  refine wp_seq ?_
  refine reg_seq [0, 1, 2, 3] rfl ?_
  refine ops_cons ?_
  refine op_pure rfl (rn_move rfl) rfl rfl ?_
  refine ops_cons ?_
  refine op_pure rfl (rn_move rfl) rfl rfl ?_
  refine ops_cons ?_
  have H6 : St w F0 [hB g 68 #[u0, u1, u2, .slice AL lk.length cL, .slice AO lo.length cO], hR ki_Link 178 (.slice AL lk.length cL) lk, hB g_0_0 74 #[.int .i64 (m.Kind), .int .i64 (m.Pos), .int .i64 (m.Answer), .int .i64 (m.Question), .string (m.Name), .slice BW m.Args.length cW, .int .i64 (m.Value.Kind), .int .i64 (m.Value.N), .int .i64 (m.Count), .int .i64 (m.Tag.Vat), .int .i64 (m.Tag.Entity), .int .i64 (m.Tag.Seq)], hR ki_Outgoing 147 (.slice AO lo.length cO) lo, hR ki_Wire 72 (.slice BW m.Args.length cW) m.Args] W2 := H5.pick [1, 2, 0, 3, 4] (by decide) rfl
  clear H5
  obtain ⟨F7, hs8, _, hfr9⟩ := St.frame (l0 := [hB g 68 #[u0, u1, u2, .slice AL lk.length cL, .slice AO lo.length cO], hR ki_Link 178 (.slice AL lk.length cL) lk]) (l := [hB g_0_0 74 #[.int .i64 (m.Kind), .int .i64 (m.Pos), .int .i64 (m.Answer), .int .i64 (m.Question), .string (m.Name), .slice BW m.Args.length cW, .int .i64 (m.Value.Kind), .int .i64 (m.Value.N), .int .i64 (m.Count), .int .i64 (m.Tag.Vat), .int .i64 (m.Tag.Entity), .int .i64 (m.Tag.Seq)], hR ki_Outgoing 147 (.slice AO lo.length cO) lo, hR ki_Wire 72 (.slice BW m.Args.length cW) m.Args]) H6
  refine op_call rfl Tryz.call167 (vs := #[.pointer (some ⟨g, 0, none⟩), .int .i64 (p)]) rfl rfl rfl (link_no lk p _ _ _ _ _ _ _ _ _ hs8 hup) ?_
  rintro e12 W11 ⟨rfl, Hn10⟩
  refine ⟨_, rfl, ?_⟩
  have H13 : St w F0 [hB g 68 #[u0, u1, u2, .slice AL lk.length cL, .slice AO lo.length cO], hR ki_Link 178 (.slice AL lk.length cL) lk, hB g_0_0 74 #[.int .i64 (m.Kind), .int .i64 (m.Pos), .int .i64 (m.Answer), .int .i64 (m.Question), .string (m.Name), .slice BW m.Args.length cW, .int .i64 (m.Value.Kind), .int .i64 (m.Value.N), .int .i64 (m.Count), .int .i64 (m.Tag.Vat), .int .i64 (m.Tag.Entity), .int .i64 (m.Tag.Seq)], hR ki_Outgoing 147 (.slice AO lo.length cO) lo, hR ki_Wire 72 (.slice BW m.Args.length cW) m.Args] W11 := hfr9 _ _ Hn10
  clear H6
  refine ops_cons ?_
  refine op_pure rfl (rn_neqNilF Tryz.runUnderlying241 rfl rfl) rfl rfl ?_
  refine ops_nil ?_
  refine then_n ?_
  refine cond_f rfl ?_
  refine wp_skip ?_
  refine post_void (.inr rfl) Tryz.results100 ?_
  rw [pushO_no p m lk lo hup]
  exact ⟨AO, cO, rfl, H13.pick [0, 1, 3] (by decide) rfl⟩
theorem push_i (lk : List GLink) (lo : List GOutgoing) (p : Int) (m : GMessage) (g cL cO cW : Nat) (AL AO BW : Option Addr) (u0 u1 u2 : Value) (F0 : Nat → Prop) (w : World) (h : Star [hB g 68 #[u0, u1, u2, .slice AL lk.length cL, .slice AO lo.length cO], hR ki_Link 178 (.slice AL lk.length cL) lk, hR ki_Outgoing 147 (.slice AO lo.length cO) lo, hR ki_Wire 72 (.slice BW m.Args.length cW) m.Args] w F0) (hn : lo.length ≤ 4194304) : Calls Tryz.prog 100 #[.pointer (some ⟨g, 0, none⟩), .int .i64 p, .agg #[.int .i64 (m.Kind), .int .i64 (m.Pos), .int .i64 (m.Answer), .int .i64 (m.Question), .string (m.Name), .slice BW m.Args.length cW, .int .i64 (m.Value.Kind), .int .i64 (m.Value.N), .int .i64 (m.Count), .int .i64 (m.Tag.Vat), .int .i64 (m.Tag.Entity), .int .i64 (m.Tag.Seq)]] w (fun e' w' => ∃ A c, e' = .returned (.tuple #[]) ∧ St w F0 [hB g 68 #[u0, u1, u2, .slice AL lk.length cL, .slice A (pushO p m lk lo).length c], hR ki_Link 178 (.slice AL lk.length cL) lk, hR ki_Outgoing 147 (.slice A (pushO p m lk lo).length c) (pushO p m lk lo)] w') := by
  cases hup : lk.any (upP p)
  · exact push_no lk lo p m g cL cO cW AL AO BW u0 u1 u2 F0 w h hn hup
  · exact push_yes lk lo p m g cL cO cW AL AO BW u0 u1 u2 F0 w h hn hup
set_option maxHeartbeats 4000000 in
set_option maxRecDepth 100000 in
theorem push_S (x : GVat) (p : Int) (m : GMessage) (cs cm : List Value) (w : World) (h : ki_Vat.K w x cs) (hs : szn_Vat x ≤ 4194304) (h2 : ki_Message.K w m cm) (hs2 : szn_Message m ≤ 4194304) : Calls Tryz.prog 26 #[.agg cs.toArray, .int .i64 p, .agg cm.toArray] w (RetAgg ki_Vat (pushV p m x) w) := by
  obtain ⟨Ax1, cx1, Ax2, cx2, Ax3, cx3, Ax4, cx4, rfl, hlx1, hCx1, hlx2, hCx2, hlx3, hCx3, hlx4, hCx4⟩ := ki_Vat_K h
  have s_Entities : sznS szn_Entity x.Entities ≤ 4194304 := by unfold szn_Vat at hs; omega
  have n_Entities : x.Entities.length ≤ 4194304 := by unfold sznS at s_Entities; omega
  have s_Loop : sznS szn_Sent x.Loop ≤ 4194304 := by unfold szn_Vat at hs; omega
  have n_Loop : x.Loop.length ≤ 4194304 := by unfold sznS at s_Loop; omega
  have s_Links : sznS szn_Link x.Links ≤ 4194304 := by unfold szn_Vat at hs; omega
  have n_Links : x.Links.length ≤ 4194304 := by unfold sznS at s_Links; omega
  have s_Out : sznS szn_Outgoing x.Out ≤ 4194304 := by unfold szn_Vat at hs; omega
  have n_Out : x.Out.length ≤ 4194304 := by unfold sznS at s_Out; omega
  obtain ⟨Am5, cm5, rfl, hlm5, hCm5⟩ := ki_Message_K h2
  refine enter 23 [(0, .agg #[.int .i64 (x.Id), .slice Ax1 x.Entities.length cx1, .slice Ax2 x.Loop.length cx2, .slice Ax3 x.Links.length cx3, .slice Ax4 x.Out.length cx4]), (1, .int .i64 (p)), (2, .agg #[.int .i64 (m.Kind), .int .i64 (m.Pos), .int .i64 (m.Answer), .int .i64 (m.Question), .string (m.Name), .slice Am5 m.Args.length cm5, .int .i64 (m.Value.Kind), .int .i64 (m.Value.N), .int .i64 (m.Count), .int .i64 (m.Tag.Vat), .int .i64 (m.Tag.Entity), .int .i64 (m.Tag.Seq)])] Tryz.func26 rfl (by kernel_rfl) ?_
  intro xj
  have H1 : St w No [] w := St.enter
  refine wp_seq ?_
  refine reg_seq [0, 1, 2] rfl ?_
  refine ops_cons ?_
  refine op_box rfl rfl rfl rfl H1 ?_
  intro g_0_0 W2 hu3 Ha4
  clear H1
  have H5 : St w No [hB g_0_0 68 #[.int .i64 (x.Id), .slice Ax1 x.Entities.length cx1, .slice Ax2 x.Loop.length cx2, .slice Ax3 x.Links.length cx3, .slice Ax4 x.Out.length cx4]] W2 := Ha4
  clear Ha4
  clear hu3
  refine ops_cons ?_
  refine op_box rfl rfl rfl rfl H5 ?_
  intro g_0_1 W6 hu7 Ha8
  clear H5
  have H9 : St w No [hB g_0_1 74 #[.int .i64 (m.Kind), .int .i64 (m.Pos), .int .i64 (m.Answer), .int .i64 (m.Question), .string (m.Name), .slice Am5 m.Args.length cm5, .int .i64 (m.Value.Kind), .int .i64 (m.Value.N), .int .i64 (m.Count), .int .i64 (m.Tag.Vat), .int .i64 (m.Tag.Entity), .int .i64 (m.Tag.Seq)], hB g_0_0 68 #[.int .i64 (x.Id), .slice Ax1 x.Entities.length cx1, .slice Ax2 x.Loop.length cx2, .slice Ax3 x.Links.length cx3, .slice Ax4 x.Out.length cx4]] W6 := Ha8
  clear Ha8
  clear hu7
  refine ops_cons ?_
  refine op_alloc rfl Tryz.zeroValue68 rfl rfl H9 ?_
  intro g_0_2 W10 hu11 Ha12
  clear H9
  have H13 : St w No [hB g_0_2 68 #[.int .i64 (0), .slice none 0 0, .slice none 0 0, .slice none 0 0, .slice none 0 0], hB g_0_1 74 #[.int .i64 (m.Kind), .int .i64 (m.Pos), .int .i64 (m.Answer), .int .i64 (m.Question), .string (m.Name), .slice Am5 m.Args.length cm5, .int .i64 (m.Value.Kind), .int .i64 (m.Value.N), .int .i64 (m.Count), .int .i64 (m.Tag.Vat), .int .i64 (m.Tag.Entity), .int .i64 (m.Tag.Seq)], hB g_0_0 68 #[.int .i64 (x.Id), .slice Ax1 x.Entities.length cx1, .slice Ax2 x.Loop.length cx2, .slice Ax3 x.Links.length cx3, .slice Ax4 x.Out.length cx4]] W10 := Ha12
  clear Ha12
  clear hu11
  refine ops_nil ?_
  refine then_n ?_
  refine wp_seq ?_
  refine reg_seq [0, 1, 2, 3] rfl ?_
  refine ops_cons ?_
  refine op_pure rfl (rn_loadB Tryz.isAgg68 Tryz.sizeOf68 rfl (H13.blk 2 rfl) rfl) rfl rfl ?_
  refine ops_cons ?_
  refine op_call rfl Tryz.call90 (vs := #[.agg #[.int .i64 (x.Id), .slice Ax1 x.Entities.length cx1, .slice Ax2 x.Loop.length cx2, .slice Ax3 x.Links.length cx3, .slice Ax4 x.Out.length cx4]]) rfl rfl rfl (l12Copy_s x _ _ (ki_Vat_Kmk _ x hlx1 (C_upd H13.1 hCx1) hlx2 (C_upd H13.1 hCx2) hlx3 (C_upd H13.1 hCx3) hlx4 (C_upd H13.1 hCx4)) hs) ?_
  rintro e19 W18 ⟨cs14, rfl, hM15, hu16⟩
  refine ⟨_, rfl, ?_⟩
  obtain ⟨B_1_1_1, c_1_1_1, B_1_1_2, c_1_1_2, B_1_1_3, c_1_1_3, B_1_1_4, c_1_1_4, rfl, hst17⟩ := ki_Vat_open hM15
  have H20 : St w No [hR ki_Entity 171 (.slice B_1_1_1 x.Entities.length c_1_1_1) x.Entities, hR ki_Sent 235 (.slice B_1_1_2 x.Loop.length c_1_1_2) x.Loop, hR ki_Link 178 (.slice B_1_1_3 x.Links.length c_1_1_3) x.Links, hR ki_Outgoing 147 (.slice B_1_1_4 x.Out.length c_1_1_4) x.Out, hB g_0_2 68 #[.int .i64 (0), .slice none 0 0, .slice none 0 0, .slice none 0 0, .slice none 0 0], hB g_0_1 74 #[.int .i64 (m.Kind), .int .i64 (m.Pos), .int .i64 (m.Answer), .int .i64 (m.Question), .string (m.Name), .slice Am5 m.Args.length cm5, .int .i64 (m.Value.Kind), .int .i64 (m.Value.N), .int .i64 (m.Count), .int .i64 (m.Tag.Vat), .int .i64 (m.Tag.Entity), .int .i64 (m.Tag.Seq)], hB g_0_0 68 #[.int .i64 (x.Id), .slice Ax1 x.Entities.length cx1, .slice Ax2 x.Loop.length cx2, .slice Ax3 x.Links.length cx3, .slice Ax4 x.Out.length cx4]] W18 := H13.news hu16 hst17
  clear H13
  refine ops_cons ?_
  refine op_alloc rfl Tryz.zeroValue68 rfl rfl H20 ?_
  intro g_1_2 W21 hu22 Ha23
  clear H20
  have H24 : St w No [hB g_1_2 68 #[.int .i64 (0), .slice none 0 0, .slice none 0 0, .slice none 0 0, .slice none 0 0], hR ki_Entity 171 (.slice B_1_1_1 x.Entities.length c_1_1_1) x.Entities, hR ki_Sent 235 (.slice B_1_1_2 x.Loop.length c_1_1_2) x.Loop, hR ki_Link 178 (.slice B_1_1_3 x.Links.length c_1_1_3) x.Links, hR ki_Outgoing 147 (.slice B_1_1_4 x.Out.length c_1_1_4) x.Out, hB g_0_2 68 #[.int .i64 (0), .slice none 0 0, .slice none 0 0, .slice none 0 0, .slice none 0 0], hB g_0_1 74 #[.int .i64 (m.Kind), .int .i64 (m.Pos), .int .i64 (m.Answer), .int .i64 (m.Question), .string (m.Name), .slice Am5 m.Args.length cm5, .int .i64 (m.Value.Kind), .int .i64 (m.Value.N), .int .i64 (m.Count), .int .i64 (m.Tag.Vat), .int .i64 (m.Tag.Entity), .int .i64 (m.Tag.Seq)], hB g_0_0 68 #[.int .i64 (x.Id), .slice Ax1 x.Entities.length cx1, .slice Ax2 x.Loop.length cx2, .slice Ax3 x.Links.length cx3, .slice Ax4 x.Out.length cx4]] W21 := Ha23
  clear Ha23
  clear hu22
  refine ops_cons ?_
  refine op_storeW rfl Tryz.sizeOf68 rfl rfl rfl rfl (by simp [Value.oneCell']) H24 ?_
  intro W25 hu26 Ha27
  clear H24
  have H28 : St w No [hB g_1_2 68 #[.int .i64 (x.Id), .slice B_1_1_1 x.Entities.length c_1_1_1, .slice B_1_1_2 x.Loop.length c_1_1_2, .slice B_1_1_3 x.Links.length c_1_1_3, .slice B_1_1_4 x.Out.length c_1_1_4], hR ki_Entity 171 (.slice B_1_1_1 x.Entities.length c_1_1_1) x.Entities, hR ki_Sent 235 (.slice B_1_1_2 x.Loop.length c_1_1_2) x.Loop, hR ki_Link 178 (.slice B_1_1_3 x.Links.length c_1_1_3) x.Links, hR ki_Outgoing 147 (.slice B_1_1_4 x.Out.length c_1_1_4) x.Out, hB g_0_2 68 #[.int .i64 (0), .slice none 0 0, .slice none 0 0, .slice none 0 0, .slice none 0 0], hB g_0_1 74 #[.int .i64 (m.Kind), .int .i64 (m.Pos), .int .i64 (m.Answer), .int .i64 (m.Question), .string (m.Name), .slice Am5 m.Args.length cm5, .int .i64 (m.Value.Kind), .int .i64 (m.Value.N), .int .i64 (m.Count), .int .i64 (m.Tag.Vat), .int .i64 (m.Tag.Entity), .int .i64 (m.Tag.Seq)], hB g_0_0 68 #[.int .i64 (x.Id), .slice Ax1 x.Entities.length cx1, .slice Ax2 x.Loop.length cx2, .slice Ax3 x.Links.length cx3, .slice Ax4 x.Out.length cx4]] W25 := Ha27
  clear Ha27
  clear hu26
  refine ops_nil ?_
  refine then_n ?_
  refine wp_seq ?_
  refine wp_seq ?_
  refine reg_seq [0, 1, 2] rfl ?_
  refine ops_cons ?_
  refine op_pure rfl (rn_loadB Tryz.isAgg68 Tryz.sizeOf68 rfl (H28.blk 7 rfl) rfl) rfl rfl ?_
  refine ops_cons ?_
  refine op_pure rfl (rn_move rfl) rfl rfl ?_
  refine ops_cons ?_
  refine op_call rfl Tryz.call91 (vs := #[.agg #[.int .i64 (x.Id), .slice Ax1 x.Entities.length cx1, .slice Ax2 x.Loop.length cx2, .slice Ax3 x.Links.length cx3, .slice Ax4 x.Out.length cx4], .int .i64 (p)]) rfl rfl rfl (isUp_s x p _ n_Links _ (ki_Vat_Kmk _ x hlx1 (C_upd H28.1 hCx1) hlx2 (C_upd H28.1 hCx2) hlx3 (C_upd H28.1 hCx3) hlx4 (C_upd H28.1 hCx4))) ?_
  rintro e31 W30 ⟨rfl, hu29⟩
  refine ⟨_, rfl, ?_⟩
  have H32 : St w No [hB g_1_2 68 #[.int .i64 (x.Id), .slice B_1_1_1 x.Entities.length c_1_1_1, .slice B_1_1_2 x.Loop.length c_1_1_2, .slice B_1_1_3 x.Links.length c_1_1_3, .slice B_1_1_4 x.Out.length c_1_1_4], hR ki_Entity 171 (.slice B_1_1_1 x.Entities.length c_1_1_1) x.Entities, hR ki_Sent 235 (.slice B_1_1_2 x.Loop.length c_1_1_2) x.Loop, hR ki_Link 178 (.slice B_1_1_3 x.Links.length c_1_1_3) x.Links, hR ki_Outgoing 147 (.slice B_1_1_4 x.Out.length c_1_1_4) x.Out, hB g_0_2 68 #[.int .i64 (0), .slice none 0 0, .slice none 0 0, .slice none 0 0, .slice none 0 0], hB g_0_1 74 #[.int .i64 (m.Kind), .int .i64 (m.Pos), .int .i64 (m.Answer), .int .i64 (m.Question), .string (m.Name), .slice Am5 m.Args.length cm5, .int .i64 (m.Value.Kind), .int .i64 (m.Value.N), .int .i64 (m.Count), .int .i64 (m.Tag.Vat), .int .i64 (m.Tag.Entity), .int .i64 (m.Tag.Seq)], hB g_0_0 68 #[.int .i64 (x.Id), .slice Ax1 x.Entities.length cx1, .slice Ax2 x.Loop.length cx2, .slice Ax3 x.Links.length cx3, .slice Ax4 x.Out.length cx4]] W30 := H28.no hu29
  clear H28
  refine ops_nil ?_
  refine then_n ?_
  refine cond_b (b := (x.Links.any (upP p))) rfl (fun hc33 => ?_) (fun hc33 => ?_)
  · refine reg_draw (fun W' => Blk W' g_1_2 68 #[.int .i64 (x.Id), .slice B_1_1_1 x.Entities.length c_1_1_1, .slice B_1_1_2 x.Loop.length c_1_1_2, .slice B_1_1_3 x.Links.length c_1_1_3, .slice B_1_1_4 x.Out.length c_1_1_4] ∧ Blk W' g_0_1 74 #[.int .i64 (m.Kind), .int .i64 (m.Pos), .int .i64 (m.Answer), .int .i64 (m.Question), .string (m.Name), .slice Am5 m.Args.length cm5, .int .i64 (m.Value.Kind), .int .i64 (m.Value.N), .int .i64 (m.Count), .int .i64 (m.Tag.Vat), .int .i64 (m.Tag.Entity), .int .i64 (m.Tag.Seq)]) 9 (by kernel_rfl) ?_
    have H34 : St w No [hB g_1_2 68 #[.int .i64 (x.Id), .slice B_1_1_1 x.Entities.length c_1_1_1, .slice B_1_1_2 x.Loop.length c_1_1_2, .slice B_1_1_3 x.Links.length c_1_1_3, .slice B_1_1_4 x.Out.length c_1_1_4], hR ki_Entity 171 (.slice B_1_1_1 x.Entities.length c_1_1_1) x.Entities, hR ki_Sent 235 (.slice B_1_1_2 x.Loop.length c_1_1_2) x.Loop, hR ki_Link 178 (.slice B_1_1_3 x.Links.length c_1_1_3) x.Links, hR ki_Outgoing 147 (.slice B_1_1_4 x.Out.length c_1_1_4) x.Out, hB g_0_2 68 #[.int .i64 (0), .slice none 0 0, .slice none 0 0, .slice none 0 0, .slice none 0 0], hB g_0_1 74 #[.int .i64 (m.Kind), .int .i64 (m.Pos), .int .i64 (m.Answer), .int .i64 (m.Question), .string (m.Name), .slice Am5 m.Args.length cm5, .int .i64 (m.Value.Kind), .int .i64 (m.Value.N), .int .i64 (m.Count), .int .i64 (m.Tag.Vat), .int .i64 (m.Tag.Entity), .int .i64 (m.Tag.Seq)], hB g_0_0 68 #[.int .i64 (x.Id), .slice Ax1 x.Entities.length cx1, .slice Ax2 x.Loop.length cx2, .slice Ax3 x.Links.length cx3, .slice Ax4 x.Out.length cx4]] W30.drew := H32.drew
    clear H32
    have hS35 : Blk W30.drew g_1_2 68 #[.int .i64 (x.Id), .slice B_1_1_1 x.Entities.length c_1_1_1, .slice B_1_1_2 x.Loop.length c_1_1_2, .slice B_1_1_3 x.Links.length c_1_1_3, .slice B_1_1_4 x.Out.length c_1_1_4] ∧ Blk W30.drew g_0_1 74 #[.int .i64 (m.Kind), .int .i64 (m.Pos), .int .i64 (m.Answer), .int .i64 (m.Question), .string (m.Name), .slice Am5 m.Args.length cm5, .int .i64 (m.Value.Kind), .int .i64 (m.Value.N), .int .i64 (m.Count), .int .i64 (m.Tag.Vat), .int .i64 (m.Tag.Entity), .int .i64 (m.Tag.Seq)] := ⟨H34.blk 0 rfl, H34.blk 6 rfl⟩
    refine anyS_take (i := 0) rfl (by kernel_rfl) (by kernel_rfl) (by kernel_rfl) (by kernel_rfl) (by kernel_rfl) (fun _ _ _ h => h) rfl rfl hS35 (fun W' hs' => rn_field fa_68_4 rfl) ?_
    refine anyS_take (i := 1) rfl (by kernel_rfl) (by kernel_rfl) (by kernel_rfl) (by kernel_rfl) (by kernel_rfl) (fun _ _ _ h => h) rfl rfl hS35 (fun W' hs' => rn_loadC (k := 4) (v := .slice B_1_1_4 x.Out.length c_1_1_4) Tryz.isAgg66 rfl hs'.1 rfl) ?_
    refine anyS_take (i := 2) rfl (by kernel_rfl) (by kernel_rfl) (by kernel_rfl) (by kernel_rfl) (by kernel_rfl) (fun _ _ _ h => h) rfl rfl hS35 (fun W' hs' => rn_move rfl) ?_
    refine anyS_take (i := 3) rfl (by kernel_rfl) (by kernel_rfl) (by kernel_rfl) (by kernel_rfl) (by kernel_rfl) (fun _ _ _ h => h) rfl rfl hS35 (fun W' hs' => rn_loadB Tryz.isAgg74 Tryz.sizeOf74 rfl hs'.2 rfl) ?_
    refine anyS_one (i := 4) (by kernel_rfl) ?_
    refine op_call rfl Tryz.call92 (vs := #[.agg #[.int .i64 (m.Kind), .int .i64 (m.Pos), .int .i64 (m.Answer), .int .i64 (m.Question), .string (m.Name), .slice Am5 m.Args.length cm5, .int .i64 (m.Value.Kind), .int .i64 (m.Value.N), .int .i64 (m.Count), .int .i64 (m.Tag.Vat), .int .i64 (m.Tag.Entity), .int .i64 (m.Tag.Seq)]]) rfl rfl rfl (l11Copy_s m _ _ (ki_Message_Kmk _ m hlm5 (C_upd H34.1 hCm5)) hs2) ?_
    rintro e41 W40 ⟨cs36, rfl, hM37, hu38⟩
    refine ⟨_, rfl, ?_⟩
    obtain ⟨B_3_4_5, c_3_4_5, rfl, hst39⟩ := ki_Message_open hM37
    have H42 : St w No [hR ki_Wire 72 (.slice B_3_4_5 m.Args.length c_3_4_5) m.Args, hB g_1_2 68 #[.int .i64 (x.Id), .slice B_1_1_1 x.Entities.length c_1_1_1, .slice B_1_1_2 x.Loop.length c_1_1_2, .slice B_1_1_3 x.Links.length c_1_1_3, .slice B_1_1_4 x.Out.length c_1_1_4], hR ki_Entity 171 (.slice B_1_1_1 x.Entities.length c_1_1_1) x.Entities, hR ki_Sent 235 (.slice B_1_1_2 x.Loop.length c_1_1_2) x.Loop, hR ki_Link 178 (.slice B_1_1_3 x.Links.length c_1_1_3) x.Links, hR ki_Outgoing 147 (.slice B_1_1_4 x.Out.length c_1_1_4) x.Out, hB g_0_2 68 #[.int .i64 (0), .slice none 0 0, .slice none 0 0, .slice none 0 0, .slice none 0 0], hB g_0_1 74 #[.int .i64 (m.Kind), .int .i64 (m.Pos), .int .i64 (m.Answer), .int .i64 (m.Question), .string (m.Name), .slice Am5 m.Args.length cm5, .int .i64 (m.Value.Kind), .int .i64 (m.Value.N), .int .i64 (m.Count), .int .i64 (m.Tag.Vat), .int .i64 (m.Tag.Entity), .int .i64 (m.Tag.Seq)], hB g_0_0 68 #[.int .i64 (x.Id), .slice Ax1 x.Entities.length cx1, .slice Ax2 x.Loop.length cx2, .slice Ax3 x.Links.length cx3, .slice Ax4 x.Out.length cx4]] W40 := H34.news hu38 hst39
    clear H34
    have hS43 : Blk W40 g_1_2 68 #[.int .i64 (x.Id), .slice B_1_1_1 x.Entities.length c_1_1_1, .slice B_1_1_2 x.Loop.length c_1_1_2, .slice B_1_1_3 x.Links.length c_1_1_3, .slice B_1_1_4 x.Out.length c_1_1_4] ∧ Blk W40 g_0_1 74 #[.int .i64 (m.Kind), .int .i64 (m.Pos), .int .i64 (m.Answer), .int .i64 (m.Question), .string (m.Name), .slice Am5 m.Args.length cm5, .int .i64 (m.Value.Kind), .int .i64 (m.Value.N), .int .i64 (m.Count), .int .i64 (m.Tag.Vat), .int .i64 (m.Tag.Entity), .int .i64 (m.Tag.Seq)] := ⟨H42.blk 1 rfl, H42.blk 7 rfl⟩
    refine ⟨fun _ => hS43, ?_⟩
    refine anyS_take (i := 5) rfl (by kernel_rfl) (by kernel_rfl) (by kernel_rfl) (by kernel_rfl) (by kernel_rfl) (fun _ _ _ h => h) rfl rfl hS43 (fun W' hs' => rn_build (vs := [(0, .int .i64 (p)), (1, .agg #[.int .i64 (m.Kind), .int .i64 (m.Pos), .int .i64 (m.Answer), .int .i64 (m.Question), .string (m.Name), .slice B_3_4_5 m.Args.length c_3_4_5, .int .i64 (m.Value.Kind), .int .i64 (m.Value.N), .int .i64 (m.Count), .int .i64 (m.Tag.Vat), .int .i64 (m.Tag.Entity), .int .i64 (m.Tag.Seq)])]) (cells := #[.int .i64 (p), .int .i64 (m.Kind), .int .i64 (m.Pos), .int .i64 (m.Answer), .int .i64 (m.Question), .string (m.Name), .slice B_3_4_5 m.Args.length c_3_4_5, .int .i64 (m.Value.Kind), .int .i64 (m.Value.N), .int .i64 (m.Count), .int .i64 (m.Tag.Vat), .int .i64 (m.Tag.Entity), .int .i64 (m.Tag.Seq)]) rfl (by kernel_rfl)) ?_
    refine anyS_one (i := 6) (by kernel_rfl) ?_
    refine op_slice1 rfl Tryz.runUnderlying66 Tryz.sizeOf147 (by decide) Tryz.zeroValue147 rfl rfl rfl rfl H42 ?_
    intro g_3_6 W44 hu45 Ha46
    clear H42
    have H47 : St w No [hB g_3_6 147 #[.int .i64 (p), .int .i64 (m.Kind), .int .i64 (m.Pos), .int .i64 (m.Answer), .int .i64 (m.Question), .string (m.Name), .slice B_3_4_5 m.Args.length c_3_4_5, .int .i64 (m.Value.Kind), .int .i64 (m.Value.N), .int .i64 (m.Count), .int .i64 (m.Tag.Vat), .int .i64 (m.Tag.Entity), .int .i64 (m.Tag.Seq)], hR ki_Wire 72 (.slice B_3_4_5 m.Args.length c_3_4_5) m.Args, hB g_1_2 68 #[.int .i64 (x.Id), .slice B_1_1_1 x.Entities.length c_1_1_1, .slice B_1_1_2 x.Loop.length c_1_1_2, .slice B_1_1_3 x.Links.length c_1_1_3, .slice B_1_1_4 x.Out.length c_1_1_4], hR ki_Entity 171 (.slice B_1_1_1 x.Entities.length c_1_1_1) x.Entities, hR ki_Sent 235 (.slice B_1_1_2 x.Loop.length c_1_1_2) x.Loop, hR ki_Link 178 (.slice B_1_1_3 x.Links.length c_1_1_3) x.Links, hR ki_Outgoing 147 (.slice B_1_1_4 x.Out.length c_1_1_4) x.Out, hB g_0_2 68 #[.int .i64 (0), .slice none 0 0, .slice none 0 0, .slice none 0 0, .slice none 0 0], hB g_0_1 74 #[.int .i64 (m.Kind), .int .i64 (m.Pos), .int .i64 (m.Answer), .int .i64 (m.Question), .string (m.Name), .slice Am5 m.Args.length cm5, .int .i64 (m.Value.Kind), .int .i64 (m.Value.N), .int .i64 (m.Count), .int .i64 (m.Tag.Vat), .int .i64 (m.Tag.Entity), .int .i64 (m.Tag.Seq)], hB g_0_0 68 #[.int .i64 (x.Id), .slice Ax1 x.Entities.length cx1, .slice Ax2 x.Loop.length cx2, .slice Ax3 x.Links.length cx3, .slice Ax4 x.Out.length cx4]] W44 := Ha46
    clear Ha46
    clear hu45
    have hS48 : Blk W44 g_1_2 68 #[.int .i64 (x.Id), .slice B_1_1_1 x.Entities.length c_1_1_1, .slice B_1_1_2 x.Loop.length c_1_1_2, .slice B_1_1_3 x.Links.length c_1_1_3, .slice B_1_1_4 x.Out.length c_1_1_4] ∧ Blk W44 g_0_1 74 #[.int .i64 (m.Kind), .int .i64 (m.Pos), .int .i64 (m.Answer), .int .i64 (m.Question), .string (m.Name), .slice Am5 m.Args.length cm5, .int .i64 (m.Value.Kind), .int .i64 (m.Value.N), .int .i64 (m.Count), .int .i64 (m.Tag.Vat), .int .i64 (m.Tag.Entity), .int .i64 (m.Tag.Seq)] := ⟨H47.blk 2 rfl, H47.blk 8 rfl⟩
    refine ⟨fun _ => hS48, ?_⟩
    refine anyS_one (i := 7) (by kernel_rfl) ?_
    have H51 : St w No [hR ki_Wire 72 (.slice B_3_4_5 m.Args.length c_3_4_5) m.Args, hB g_3_6 147 #[.int .i64 (p), .int .i64 (m.Kind), .int .i64 (m.Pos), .int .i64 (m.Answer), .int .i64 (m.Question), .string (m.Name), .slice B_3_4_5 m.Args.length c_3_4_5, .int .i64 (m.Value.Kind), .int .i64 (m.Value.N), .int .i64 (m.Count), .int .i64 (m.Tag.Vat), .int .i64 (m.Tag.Entity), .int .i64 (m.Tag.Seq)], hB g_1_2 68 #[.int .i64 (x.Id), .slice B_1_1_1 x.Entities.length c_1_1_1, .slice B_1_1_2 x.Loop.length c_1_1_2, .slice B_1_1_3 x.Links.length c_1_1_3, .slice B_1_1_4 x.Out.length c_1_1_4], hR ki_Entity 171 (.slice B_1_1_1 x.Entities.length c_1_1_1) x.Entities, hR ki_Sent 235 (.slice B_1_1_2 x.Loop.length c_1_1_2) x.Loop, hR ki_Link 178 (.slice B_1_1_3 x.Links.length c_1_1_3) x.Links, hR ki_Outgoing 147 (.slice B_1_1_4 x.Out.length c_1_1_4) x.Out, hB g_0_2 68 #[.int .i64 (0), .slice none 0 0, .slice none 0 0, .slice none 0 0, .slice none 0 0], hB g_0_1 74 #[.int .i64 (m.Kind), .int .i64 (m.Pos), .int .i64 (m.Answer), .int .i64 (m.Question), .string (m.Name), .slice Am5 m.Args.length cm5, .int .i64 (m.Value.Kind), .int .i64 (m.Value.N), .int .i64 (m.Count), .int .i64 (m.Tag.Vat), .int .i64 (m.Tag.Entity), .int .i64 (m.Tag.Seq)], hB g_0_0 68 #[.int .i64 (x.Id), .slice Ax1 x.Entities.length cx1, .slice Ax2 x.Loop.length cx2, .slice Ax3 x.Links.length cx3, .slice Ax4 x.Out.length cx4]] W44 := H47.pick [1, 0, 2, 3, 4, 5, 6, 7, 8, 9] (by decide) rfl
    clear H47
    have H52 : St w No [hM ki_Outgoing (⟨p, m⟩ : GOutgoing) [.int .i64 (p), .int .i64 (m.Kind), .int .i64 (m.Pos), .int .i64 (m.Answer), .int .i64 (m.Question), .string (m.Name), .slice B_3_4_5 m.Args.length c_3_4_5, .int .i64 (m.Value.Kind), .int .i64 (m.Value.N), .int .i64 (m.Count), .int .i64 (m.Tag.Vat), .int .i64 (m.Tag.Entity), .int .i64 (m.Tag.Seq)], hB g_3_6 147 #[.int .i64 (p), .int .i64 (m.Kind), .int .i64 (m.Pos), .int .i64 (m.Answer), .int .i64 (m.Question), .string (m.Name), .slice B_3_4_5 m.Args.length c_3_4_5, .int .i64 (m.Value.Kind), .int .i64 (m.Value.N), .int .i64 (m.Count), .int .i64 (m.Tag.Vat), .int .i64 (m.Tag.Entity), .int .i64 (m.Tag.Seq)], hB g_1_2 68 #[.int .i64 (x.Id), .slice B_1_1_1 x.Entities.length c_1_1_1, .slice B_1_1_2 x.Loop.length c_1_1_2, .slice B_1_1_3 x.Links.length c_1_1_3, .slice B_1_1_4 x.Out.length c_1_1_4], hR ki_Entity 171 (.slice B_1_1_1 x.Entities.length c_1_1_1) x.Entities, hR ki_Sent 235 (.slice B_1_1_2 x.Loop.length c_1_1_2) x.Loop, hR ki_Link 178 (.slice B_1_1_3 x.Links.length c_1_1_3) x.Links, hR ki_Outgoing 147 (.slice B_1_1_4 x.Out.length c_1_1_4) x.Out, hB g_0_2 68 #[.int .i64 (0), .slice none 0 0, .slice none 0 0, .slice none 0 0, .slice none 0 0], hB g_0_1 74 #[.int .i64 (m.Kind), .int .i64 (m.Pos), .int .i64 (m.Answer), .int .i64 (m.Question), .string (m.Name), .slice Am5 m.Args.length cm5, .int .i64 (m.Value.Kind), .int .i64 (m.Value.N), .int .i64 (m.Count), .int .i64 (m.Tag.Vat), .int .i64 (m.Tag.Entity), .int .i64 (m.Tag.Seq)], hB g_0_0 68 #[.int .i64 (x.Id), .slice Ax1 x.Entities.length cx1, .slice Ax2 x.Loop.length cx2, .slice Ax3 x.Links.length cx3, .slice Ax4 x.Out.length cx4]] W44 := H51.swap (l0 := [hR ki_Wire 72 (.slice B_3_4_5 m.Args.length c_3_4_5) m.Args]) (l' := [hM ki_Outgoing (⟨p, m⟩ : GOutgoing) [.int .i64 (p), .int .i64 (m.Kind), .int .i64 (m.Pos), .int .i64 (m.Answer), .int .i64 (m.Question), .string (m.Name), .slice B_3_4_5 m.Args.length c_3_4_5, .int .i64 (m.Value.Kind), .int .i64 (m.Value.N), .int .i64 (m.Count), .int .i64 (m.Tag.Vat), .int .i64 (m.Tag.Entity), .int .i64 (m.Tag.Seq)]]) (fun _ h => Star.one (ki_Outgoing_close (x := (⟨p, m⟩ : GOutgoing)) h))
    clear H51
    have H53 : St w No [hR ki_Outgoing 147 (.slice B_1_1_4 x.Out.length c_1_1_4) x.Out, hB g_3_6 147 #[.int .i64 (p), .int .i64 (m.Kind), .int .i64 (m.Pos), .int .i64 (m.Answer), .int .i64 (m.Question), .string (m.Name), .slice B_3_4_5 m.Args.length c_3_4_5, .int .i64 (m.Value.Kind), .int .i64 (m.Value.N), .int .i64 (m.Count), .int .i64 (m.Tag.Vat), .int .i64 (m.Tag.Entity), .int .i64 (m.Tag.Seq)], hM ki_Outgoing (⟨p, m⟩ : GOutgoing) [.int .i64 (p), .int .i64 (m.Kind), .int .i64 (m.Pos), .int .i64 (m.Answer), .int .i64 (m.Question), .string (m.Name), .slice B_3_4_5 m.Args.length c_3_4_5, .int .i64 (m.Value.Kind), .int .i64 (m.Value.N), .int .i64 (m.Count), .int .i64 (m.Tag.Vat), .int .i64 (m.Tag.Entity), .int .i64 (m.Tag.Seq)], hB g_1_2 68 #[.int .i64 (x.Id), .slice B_1_1_1 x.Entities.length c_1_1_1, .slice B_1_1_2 x.Loop.length c_1_1_2, .slice B_1_1_3 x.Links.length c_1_1_3, .slice B_1_1_4 x.Out.length c_1_1_4], hR ki_Entity 171 (.slice B_1_1_1 x.Entities.length c_1_1_1) x.Entities, hR ki_Sent 235 (.slice B_1_1_2 x.Loop.length c_1_1_2) x.Loop, hR ki_Link 178 (.slice B_1_1_3 x.Links.length c_1_1_3) x.Links, hB g_0_2 68 #[.int .i64 (0), .slice none 0 0, .slice none 0 0, .slice none 0 0, .slice none 0 0], hB g_0_1 74 #[.int .i64 (m.Kind), .int .i64 (m.Pos), .int .i64 (m.Answer), .int .i64 (m.Question), .string (m.Name), .slice Am5 m.Args.length cm5, .int .i64 (m.Value.Kind), .int .i64 (m.Value.N), .int .i64 (m.Count), .int .i64 (m.Tag.Vat), .int .i64 (m.Tag.Entity), .int .i64 (m.Tag.Seq)], hB g_0_0 68 #[.int .i64 (x.Id), .slice Ax1 x.Entities.length cx1, .slice Ax2 x.Loop.length cx2, .slice Ax3 x.Links.length cx3, .slice Ax4 x.Out.length cx4]] W44 := H52.pick [6, 1, 0, 2, 3, 4, 5, 7, 8, 9] (by decide) rfl
    clear H52
    refine op_append1' (xs := x.Out) (p := (⟨p, m⟩ : GOutgoing)) (n' := (x.Out.length + 1)) (ys := (x.Out ++ [(⟨p, m⟩ : GOutgoing)])) rfl Tryz.underlying66 ki_Outgoing_info rfl (by decide) (by decide) rfl rfl (by omega) rfl rfl rfl rfl H53 ?_
    intro B_3_7 c_3_7 W49 Ha50
    clear H53
    have H54 : St w No [hR ki_Outgoing 147 (.slice B_3_7 (x.Out.length + 1) c_3_7) (x.Out ++ [(⟨p, m⟩ : GOutgoing)]), hB g_1_2 68 #[.int .i64 (x.Id), .slice B_1_1_1 x.Entities.length c_1_1_1, .slice B_1_1_2 x.Loop.length c_1_1_2, .slice B_1_1_3 x.Links.length c_1_1_3, .slice B_1_1_4 x.Out.length c_1_1_4], hR ki_Entity 171 (.slice B_1_1_1 x.Entities.length c_1_1_1) x.Entities, hR ki_Sent 235 (.slice B_1_1_2 x.Loop.length c_1_1_2) x.Loop, hR ki_Link 178 (.slice B_1_1_3 x.Links.length c_1_1_3) x.Links, hB g_0_2 68 #[.int .i64 (0), .slice none 0 0, .slice none 0 0, .slice none 0 0, .slice none 0 0], hB g_0_1 74 #[.int .i64 (m.Kind), .int .i64 (m.Pos), .int .i64 (m.Answer), .int .i64 (m.Question), .string (m.Name), .slice Am5 m.Args.length cm5, .int .i64 (m.Value.Kind), .int .i64 (m.Value.N), .int .i64 (m.Count), .int .i64 (m.Tag.Vat), .int .i64 (m.Tag.Entity), .int .i64 (m.Tag.Seq)], hB g_0_0 68 #[.int .i64 (x.Id), .slice Ax1 x.Entities.length cx1, .slice Ax2 x.Loop.length cx2, .slice Ax3 x.Links.length cx3, .slice Ax4 x.Out.length cx4]] W49 := Ha50
    clear Ha50
    have hS55 : Blk W49 g_1_2 68 #[.int .i64 (x.Id), .slice B_1_1_1 x.Entities.length c_1_1_1, .slice B_1_1_2 x.Loop.length c_1_1_2, .slice B_1_1_3 x.Links.length c_1_1_3, .slice B_1_1_4 x.Out.length c_1_1_4] ∧ Blk W49 g_0_1 74 #[.int .i64 (m.Kind), .int .i64 (m.Pos), .int .i64 (m.Answer), .int .i64 (m.Question), .string (m.Name), .slice Am5 m.Args.length cm5, .int .i64 (m.Value.Kind), .int .i64 (m.Value.N), .int .i64 (m.Count), .int .i64 (m.Tag.Vat), .int .i64 (m.Tag.Entity), .int .i64 (m.Tag.Seq)] := ⟨H54.blk 1 rfl, H54.blk 6 rfl⟩
    refine ⟨fun _ => hS55, ?_⟩
    refine anyS_take (i := 8) rfl (by kernel_rfl) (by kernel_rfl) (by kernel_rfl) (by kernel_rfl) (by kernel_rfl) (fun _ _ _ h => h) rfl rfl hS55 (fun W' hs' => rn_field fa_68_4 rfl) ?_
    refine anyS_one (i := 9) (by kernel_rfl) ?_
    have H59 : St w No [hB g_1_2 68 #[.int .i64 (x.Id), .slice B_1_1_1 x.Entities.length c_1_1_1, .slice B_1_1_2 x.Loop.length c_1_1_2, .slice B_1_1_3 x.Links.length c_1_1_3, .slice B_1_1_4 x.Out.length c_1_1_4], hR ki_Outgoing 147 (.slice B_3_7 (x.Out.length + 1) c_3_7) (x.Out ++ [(⟨p, m⟩ : GOutgoing)]), hR ki_Entity 171 (.slice B_1_1_1 x.Entities.length c_1_1_1) x.Entities, hR ki_Sent 235 (.slice B_1_1_2 x.Loop.length c_1_1_2) x.Loop, hR ki_Link 178 (.slice B_1_1_3 x.Links.length c_1_1_3) x.Links, hB g_0_2 68 #[.int .i64 (0), .slice none 0 0, .slice none 0 0, .slice none 0 0, .slice none 0 0], hB g_0_1 74 #[.int .i64 (m.Kind), .int .i64 (m.Pos), .int .i64 (m.Answer), .int .i64 (m.Question), .string (m.Name), .slice Am5 m.Args.length cm5, .int .i64 (m.Value.Kind), .int .i64 (m.Value.N), .int .i64 (m.Count), .int .i64 (m.Tag.Vat), .int .i64 (m.Tag.Entity), .int .i64 (m.Tag.Seq)], hB g_0_0 68 #[.int .i64 (x.Id), .slice Ax1 x.Entities.length cx1, .slice Ax2 x.Loop.length cx2, .slice Ax3 x.Links.length cx3, .slice Ax4 x.Out.length cx4]] W49 := H54.pick [1, 0, 2, 3, 4, 5, 6, 7] (by decide) rfl
    clear H54
    refine op_store rfl Tryz.sizeOf66 rfl rfl rfl (Nat.le_of_ble_eq_true rfl) (by simp [Value.cells, Value.oneCell']) H59 ?_
    intro W56 hu57 Ha58
    clear H59
    have H60 : St w No [hB g_1_2 68 #[.int .i64 (x.Id), .slice B_1_1_1 x.Entities.length c_1_1_1, .slice B_1_1_2 x.Loop.length c_1_1_2, .slice B_1_1_3 x.Links.length c_1_1_3, .slice B_3_7 (x.Out.length + 1) c_3_7], hR ki_Outgoing 147 (.slice B_3_7 (x.Out.length + 1) c_3_7) (x.Out ++ [(⟨p, m⟩ : GOutgoing)]), hR ki_Entity 171 (.slice B_1_1_1 x.Entities.length c_1_1_1) x.Entities, hR ki_Sent 235 (.slice B_1_1_2 x.Loop.length c_1_1_2) x.Loop, hR ki_Link 178 (.slice B_1_1_3 x.Links.length c_1_1_3) x.Links, hB g_0_2 68 #[.int .i64 (0), .slice none 0 0, .slice none 0 0, .slice none 0 0, .slice none 0 0], hB g_0_1 74 #[.int .i64 (m.Kind), .int .i64 (m.Pos), .int .i64 (m.Answer), .int .i64 (m.Question), .string (m.Name), .slice Am5 m.Args.length cm5, .int .i64 (m.Value.Kind), .int .i64 (m.Value.N), .int .i64 (m.Count), .int .i64 (m.Tag.Vat), .int .i64 (m.Tag.Entity), .int .i64 (m.Tag.Seq)], hB g_0_0 68 #[.int .i64 (x.Id), .slice Ax1 x.Entities.length cx1, .slice Ax2 x.Loop.length cx2, .slice Ax3 x.Links.length cx3, .slice Ax4 x.Out.length cx4]] W56 := Ha58
    clear Ha58
    clear hu57
    refine ⟨fun h => absS (by kernel_rfl) h, ?_⟩
    refine anyS_done (by kernel_rfl) ?_ _
    refine then_n ?_
    refine wp_seq ?_
    refine reg_seq [0, 1] rfl ?_
    refine ops_cons ?_
    refine op_pure rfl (rn_loadB Tryz.isAgg68 Tryz.sizeOf68 rfl (H60.blk 0 rfl) rfl) rfl rfl ?_
    refine ops_cons ?_
    have H64 : St w No [hB g_0_2 68 #[.int .i64 (0), .slice none 0 0, .slice none 0 0, .slice none 0 0, .slice none 0 0], hB g_1_2 68 #[.int .i64 (x.Id), .slice B_1_1_1 x.Entities.length c_1_1_1, .slice B_1_1_2 x.Loop.length c_1_1_2, .slice B_1_1_3 x.Links.length c_1_1_3, .slice B_3_7 (x.Out.length + 1) c_3_7], hR ki_Outgoing 147 (.slice B_3_7 (x.Out.length + 1) c_3_7) (x.Out ++ [(⟨p, m⟩ : GOutgoing)]), hR ki_Entity 171 (.slice B_1_1_1 x.Entities.length c_1_1_1) x.Entities, hR ki_Sent 235 (.slice B_1_1_2 x.Loop.length c_1_1_2) x.Loop, hR ki_Link 178 (.slice B_1_1_3 x.Links.length c_1_1_3) x.Links, hB g_0_1 74 #[.int .i64 (m.Kind), .int .i64 (m.Pos), .int .i64 (m.Answer), .int .i64 (m.Question), .string (m.Name), .slice Am5 m.Args.length cm5, .int .i64 (m.Value.Kind), .int .i64 (m.Value.N), .int .i64 (m.Count), .int .i64 (m.Tag.Vat), .int .i64 (m.Tag.Entity), .int .i64 (m.Tag.Seq)], hB g_0_0 68 #[.int .i64 (x.Id), .slice Ax1 x.Entities.length cx1, .slice Ax2 x.Loop.length cx2, .slice Ax3 x.Links.length cx3, .slice Ax4 x.Out.length cx4]] W56 := H60.pick [5, 0, 1, 2, 3, 4, 6, 7] (by decide) rfl
    clear H60
    refine op_storeW rfl Tryz.sizeOf68 rfl rfl rfl rfl (by simp [Value.oneCell']) H64 ?_
    intro W61 hu62 Ha63
    clear H64
    have H65 : St w No [hB g_0_2 68 #[.int .i64 (x.Id), .slice B_1_1_1 x.Entities.length c_1_1_1, .slice B_1_1_2 x.Loop.length c_1_1_2, .slice B_1_1_3 x.Links.length c_1_1_3, .slice B_3_7 (x.Out.length + 1) c_3_7], hB g_1_2 68 #[.int .i64 (x.Id), .slice B_1_1_1 x.Entities.length c_1_1_1, .slice B_1_1_2 x.Loop.length c_1_1_2, .slice B_1_1_3 x.Links.length c_1_1_3, .slice B_3_7 (x.Out.length + 1) c_3_7], hR ki_Outgoing 147 (.slice B_3_7 (x.Out.length + 1) c_3_7) (x.Out ++ [(⟨p, m⟩ : GOutgoing)]), hR ki_Entity 171 (.slice B_1_1_1 x.Entities.length c_1_1_1) x.Entities, hR ki_Sent 235 (.slice B_1_1_2 x.Loop.length c_1_1_2) x.Loop, hR ki_Link 178 (.slice B_1_1_3 x.Links.length c_1_1_3) x.Links, hB g_0_1 74 #[.int .i64 (m.Kind), .int .i64 (m.Pos), .int .i64 (m.Answer), .int .i64 (m.Question), .string (m.Name), .slice Am5 m.Args.length cm5, .int .i64 (m.Value.Kind), .int .i64 (m.Value.N), .int .i64 (m.Count), .int .i64 (m.Tag.Vat), .int .i64 (m.Tag.Entity), .int .i64 (m.Tag.Seq)], hB g_0_0 68 #[.int .i64 (x.Id), .slice Ax1 x.Entities.length cx1, .slice Ax2 x.Loop.length cx2, .slice Ax3 x.Links.length cx3, .slice Ax4 x.Out.length cx4]] W61 := Ha63
    clear Ha63
    clear hu62
    refine ops_nil ?_
    refine then_n ?_
    refine wp_ret ?_
    have e1 := pushO_yes p m x.Links x.Out hc33
    have e2 : pushV p m x = ⟨x.Id, x.Entities, x.Loop, x.Links, x.Out ++ [⟨p, m⟩]⟩ := by unfold pushV; rw [e1]
    rw [e2]
    refine post_cell (.inl rfl) Tryz.results26 Tryz.isAgg68 Tryz.sizeOf68 rfl (H65.blk 0 rfl) rfl ?_
    exact ⟨_, rfl, ki_Vat_close (x := ⟨x.Id, x.Entities, x.Loop, x.Links, x.Out ++ [⟨p, m⟩]⟩) (H65.pick [3, 4, 5, 2] (by decide) rfl).star, H65.1⟩
  · refine wp_skip ?_
    refine then_n ?_
    refine wp_seq ?_
    refine reg_seq [0, 1] rfl ?_
    refine ops_cons ?_
    refine op_pure rfl (rn_loadB Tryz.isAgg68 Tryz.sizeOf68 rfl (H32.blk 0 rfl) rfl) rfl rfl ?_
    refine ops_cons ?_
    have H69 : St w No [hB g_0_2 68 #[.int .i64 (0), .slice none 0 0, .slice none 0 0, .slice none 0 0, .slice none 0 0], hB g_1_2 68 #[.int .i64 (x.Id), .slice B_1_1_1 x.Entities.length c_1_1_1, .slice B_1_1_2 x.Loop.length c_1_1_2, .slice B_1_1_3 x.Links.length c_1_1_3, .slice B_1_1_4 x.Out.length c_1_1_4], hR ki_Entity 171 (.slice B_1_1_1 x.Entities.length c_1_1_1) x.Entities, hR ki_Sent 235 (.slice B_1_1_2 x.Loop.length c_1_1_2) x.Loop, hR ki_Link 178 (.slice B_1_1_3 x.Links.length c_1_1_3) x.Links, hR ki_Outgoing 147 (.slice B_1_1_4 x.Out.length c_1_1_4) x.Out, hB g_0_1 74 #[.int .i64 (m.Kind), .int .i64 (m.Pos), .int .i64 (m.Answer), .int .i64 (m.Question), .string (m.Name), .slice Am5 m.Args.length cm5, .int .i64 (m.Value.Kind), .int .i64 (m.Value.N), .int .i64 (m.Count), .int .i64 (m.Tag.Vat), .int .i64 (m.Tag.Entity), .int .i64 (m.Tag.Seq)], hB g_0_0 68 #[.int .i64 (x.Id), .slice Ax1 x.Entities.length cx1, .slice Ax2 x.Loop.length cx2, .slice Ax3 x.Links.length cx3, .slice Ax4 x.Out.length cx4]] W30 := H32.pick [5, 0, 1, 2, 3, 4, 6, 7] (by decide) rfl
    clear H32
    refine op_storeW rfl Tryz.sizeOf68 rfl rfl rfl rfl (by simp [Value.oneCell']) H69 ?_
    intro W66 hu67 Ha68
    clear H69
    have H70 : St w No [hB g_0_2 68 #[.int .i64 (x.Id), .slice B_1_1_1 x.Entities.length c_1_1_1, .slice B_1_1_2 x.Loop.length c_1_1_2, .slice B_1_1_3 x.Links.length c_1_1_3, .slice B_1_1_4 x.Out.length c_1_1_4], hB g_1_2 68 #[.int .i64 (x.Id), .slice B_1_1_1 x.Entities.length c_1_1_1, .slice B_1_1_2 x.Loop.length c_1_1_2, .slice B_1_1_3 x.Links.length c_1_1_3, .slice B_1_1_4 x.Out.length c_1_1_4], hR ki_Entity 171 (.slice B_1_1_1 x.Entities.length c_1_1_1) x.Entities, hR ki_Sent 235 (.slice B_1_1_2 x.Loop.length c_1_1_2) x.Loop, hR ki_Link 178 (.slice B_1_1_3 x.Links.length c_1_1_3) x.Links, hR ki_Outgoing 147 (.slice B_1_1_4 x.Out.length c_1_1_4) x.Out, hB g_0_1 74 #[.int .i64 (m.Kind), .int .i64 (m.Pos), .int .i64 (m.Answer), .int .i64 (m.Question), .string (m.Name), .slice Am5 m.Args.length cm5, .int .i64 (m.Value.Kind), .int .i64 (m.Value.N), .int .i64 (m.Count), .int .i64 (m.Tag.Vat), .int .i64 (m.Tag.Entity), .int .i64 (m.Tag.Seq)], hB g_0_0 68 #[.int .i64 (x.Id), .slice Ax1 x.Entities.length cx1, .slice Ax2 x.Loop.length cx2, .slice Ax3 x.Links.length cx3, .slice Ax4 x.Out.length cx4]] W66 := Ha68
    clear Ha68
    clear hu67
    refine ops_nil ?_
    refine then_n ?_
    refine wp_ret ?_
    have e1 := pushO_no p m x.Links x.Out hc33
    have e2 : pushV p m x = ⟨x.Id, x.Entities, x.Loop, x.Links, x.Out⟩ := by unfold pushV; rw [e1]
    rw [e2]
    refine post_cell (.inl rfl) Tryz.results26 Tryz.isAgg68 Tryz.sizeOf68 rfl (H70.blk 0 rfl) rfl ?_
    exact ⟨_, rfl, ki_Vat_close (x := ⟨x.Id, x.Entities, x.Loop, x.Links, x.Out⟩) (H70.pick [2, 3, 4, 5] (by decide) rfl).star, H70.1⟩
set_option maxHeartbeats 4000000 in
set_option maxRecDepth 100000 in
theorem push_I (x : GVat) (p : Int) (m : GMessage) (cs cm : List Value) (w : World) (h : ki_Vat.K w x cs) (hs : szn_Vat x ≤ 4194304) (h2 : ki_Message.K w m cm) (hs2 : szn_Message m ≤ 4194304) : Calls Tryz.prog 29 #[.agg cs.toArray, .int .i64 p, .agg cm.toArray] w (RetAgg ki_Vat (pushV p m x) w) := by
  obtain ⟨Ax1, cx1, Ax2, cx2, Ax3, cx3, Ax4, cx4, rfl, hlx1, hCx1, hlx2, hCx2, hlx3, hCx3, hlx4, hCx4⟩ := ki_Vat_K h
  have s_Entities : sznS szn_Entity x.Entities ≤ 4194304 := by unfold szn_Vat at hs; omega
  have n_Entities : x.Entities.length ≤ 4194304 := by unfold sznS at s_Entities; omega
  have s_Loop : sznS szn_Sent x.Loop ≤ 4194304 := by unfold szn_Vat at hs; omega
  have n_Loop : x.Loop.length ≤ 4194304 := by unfold sznS at s_Loop; omega
  have s_Links : sznS szn_Link x.Links ≤ 4194304 := by unfold szn_Vat at hs; omega
  have n_Links : x.Links.length ≤ 4194304 := by unfold sznS at s_Links; omega
  have s_Out : sznS szn_Outgoing x.Out ≤ 4194304 := by unfold szn_Vat at hs; omega
  have n_Out : x.Out.length ≤ 4194304 := by unfold sznS at s_Out; omega
  obtain ⟨Am5, cm5, rfl, hlm5, hCm5⟩ := ki_Message_K h2
  refine enter 15 [(0, .agg #[.int .i64 (x.Id), .slice Ax1 x.Entities.length cx1, .slice Ax2 x.Loop.length cx2, .slice Ax3 x.Links.length cx3, .slice Ax4 x.Out.length cx4]), (1, .int .i64 (p)), (2, .agg #[.int .i64 (m.Kind), .int .i64 (m.Pos), .int .i64 (m.Answer), .int .i64 (m.Question), .string (m.Name), .slice Am5 m.Args.length cm5, .int .i64 (m.Value.Kind), .int .i64 (m.Value.N), .int .i64 (m.Count), .int .i64 (m.Tag.Vat), .int .i64 (m.Tag.Entity), .int .i64 (m.Tag.Seq)])] Tryz.func29 rfl (by kernel_rfl) ?_
  intro xj
  have H1 : St w No [] w := St.enter
  refine wp_seq ?_
  refine reg_seq [0, 1, 2] rfl ?_
  refine ops_cons ?_
  refine op_box rfl rfl rfl rfl H1 ?_
  intro g_0_0 W2 hu3 Ha4
  clear H1
  have H5 : St w No [hB g_0_0 68 #[.int .i64 (x.Id), .slice Ax1 x.Entities.length cx1, .slice Ax2 x.Loop.length cx2, .slice Ax3 x.Links.length cx3, .slice Ax4 x.Out.length cx4]] W2 := Ha4
  clear Ha4
  clear hu3
  refine ops_cons ?_
  refine op_box rfl rfl rfl rfl H5 ?_
  intro g_0_1 W6 hu7 Ha8
  clear H5
  have H9 : St w No [hB g_0_1 74 #[.int .i64 (m.Kind), .int .i64 (m.Pos), .int .i64 (m.Answer), .int .i64 (m.Question), .string (m.Name), .slice Am5 m.Args.length cm5, .int .i64 (m.Value.Kind), .int .i64 (m.Value.N), .int .i64 (m.Count), .int .i64 (m.Tag.Vat), .int .i64 (m.Tag.Entity), .int .i64 (m.Tag.Seq)], hB g_0_0 68 #[.int .i64 (x.Id), .slice Ax1 x.Entities.length cx1, .slice Ax2 x.Loop.length cx2, .slice Ax3 x.Links.length cx3, .slice Ax4 x.Out.length cx4]] W6 := Ha8
  clear Ha8
  clear hu7
  refine ops_cons ?_
  refine op_alloc rfl Tryz.zeroValue68 rfl rfl H9 ?_
  intro g_0_2 W10 hu11 Ha12
  clear H9
  have H13 : St w No [hB g_0_2 68 #[.int .i64 (0), .slice none 0 0, .slice none 0 0, .slice none 0 0, .slice none 0 0], hB g_0_1 74 #[.int .i64 (m.Kind), .int .i64 (m.Pos), .int .i64 (m.Answer), .int .i64 (m.Question), .string (m.Name), .slice Am5 m.Args.length cm5, .int .i64 (m.Value.Kind), .int .i64 (m.Value.N), .int .i64 (m.Count), .int .i64 (m.Tag.Vat), .int .i64 (m.Tag.Entity), .int .i64 (m.Tag.Seq)], hB g_0_0 68 #[.int .i64 (x.Id), .slice Ax1 x.Entities.length cx1, .slice Ax2 x.Loop.length cx2, .slice Ax3 x.Links.length cx3, .slice Ax4 x.Out.length cx4]] W10 := Ha12
  clear Ha12
  clear hu11
  refine ops_nil ?_
  refine then_n ?_
  refine wp_seq ?_
  refine reg_seq [0, 1, 2, 3] rfl ?_
  refine ops_cons ?_
  refine op_pure rfl (rn_loadB Tryz.isAgg68 Tryz.sizeOf68 rfl (H13.blk 2 rfl) rfl) rfl rfl ?_
  refine ops_cons ?_
  refine op_call rfl Tryz.call99 (vs := #[.agg #[.int .i64 (x.Id), .slice Ax1 x.Entities.length cx1, .slice Ax2 x.Loop.length cx2, .slice Ax3 x.Links.length cx3, .slice Ax4 x.Out.length cx4]]) rfl rfl rfl (copied_Vat x _ _ (ki_Vat_Kmk _ x hlx1 (C_upd H13.1 hCx1) hlx2 (C_upd H13.1 hCx2) hlx3 (C_upd H13.1 hCx3) hlx4 (C_upd H13.1 hCx4)) hs) ?_
  rintro e19 W18 ⟨cs14, rfl, hM15, hu16⟩
  refine ⟨_, rfl, ?_⟩
  obtain ⟨B_1_1_1, c_1_1_1, B_1_1_2, c_1_1_2, B_1_1_3, c_1_1_3, B_1_1_4, c_1_1_4, rfl, hst17⟩ := ki_Vat_open hM15
  have H20 : St w No [hR ki_Entity 171 (.slice B_1_1_1 x.Entities.length c_1_1_1) x.Entities, hR ki_Sent 235 (.slice B_1_1_2 x.Loop.length c_1_1_2) x.Loop, hR ki_Link 178 (.slice B_1_1_3 x.Links.length c_1_1_3) x.Links, hR ki_Outgoing 147 (.slice B_1_1_4 x.Out.length c_1_1_4) x.Out, hB g_0_2 68 #[.int .i64 (0), .slice none 0 0, .slice none 0 0, .slice none 0 0, .slice none 0 0], hB g_0_1 74 #[.int .i64 (m.Kind), .int .i64 (m.Pos), .int .i64 (m.Answer), .int .i64 (m.Question), .string (m.Name), .slice Am5 m.Args.length cm5, .int .i64 (m.Value.Kind), .int .i64 (m.Value.N), .int .i64 (m.Count), .int .i64 (m.Tag.Vat), .int .i64 (m.Tag.Entity), .int .i64 (m.Tag.Seq)], hB g_0_0 68 #[.int .i64 (x.Id), .slice Ax1 x.Entities.length cx1, .slice Ax2 x.Loop.length cx2, .slice Ax3 x.Links.length cx3, .slice Ax4 x.Out.length cx4]] W18 := H13.news hu16 hst17
  clear H13
  refine ops_cons ?_
  refine op_alloc rfl Tryz.zeroValue68 rfl rfl H20 ?_
  intro g_1_2 W21 hu22 Ha23
  clear H20
  have H24 : St w No [hB g_1_2 68 #[.int .i64 (0), .slice none 0 0, .slice none 0 0, .slice none 0 0, .slice none 0 0], hR ki_Entity 171 (.slice B_1_1_1 x.Entities.length c_1_1_1) x.Entities, hR ki_Sent 235 (.slice B_1_1_2 x.Loop.length c_1_1_2) x.Loop, hR ki_Link 178 (.slice B_1_1_3 x.Links.length c_1_1_3) x.Links, hR ki_Outgoing 147 (.slice B_1_1_4 x.Out.length c_1_1_4) x.Out, hB g_0_2 68 #[.int .i64 (0), .slice none 0 0, .slice none 0 0, .slice none 0 0, .slice none 0 0], hB g_0_1 74 #[.int .i64 (m.Kind), .int .i64 (m.Pos), .int .i64 (m.Answer), .int .i64 (m.Question), .string (m.Name), .slice Am5 m.Args.length cm5, .int .i64 (m.Value.Kind), .int .i64 (m.Value.N), .int .i64 (m.Count), .int .i64 (m.Tag.Vat), .int .i64 (m.Tag.Entity), .int .i64 (m.Tag.Seq)], hB g_0_0 68 #[.int .i64 (x.Id), .slice Ax1 x.Entities.length cx1, .slice Ax2 x.Loop.length cx2, .slice Ax3 x.Links.length cx3, .slice Ax4 x.Out.length cx4]] W21 := Ha23
  clear Ha23
  clear hu22
  refine ops_cons ?_
  refine op_storeW rfl Tryz.sizeOf68 rfl rfl rfl rfl (by simp [Value.oneCell']) H24 ?_
  intro W25 hu26 Ha27
  clear H24
  have H28 : St w No [hB g_1_2 68 #[.int .i64 (x.Id), .slice B_1_1_1 x.Entities.length c_1_1_1, .slice B_1_1_2 x.Loop.length c_1_1_2, .slice B_1_1_3 x.Links.length c_1_1_3, .slice B_1_1_4 x.Out.length c_1_1_4], hR ki_Entity 171 (.slice B_1_1_1 x.Entities.length c_1_1_1) x.Entities, hR ki_Sent 235 (.slice B_1_1_2 x.Loop.length c_1_1_2) x.Loop, hR ki_Link 178 (.slice B_1_1_3 x.Links.length c_1_1_3) x.Links, hR ki_Outgoing 147 (.slice B_1_1_4 x.Out.length c_1_1_4) x.Out, hB g_0_2 68 #[.int .i64 (0), .slice none 0 0, .slice none 0 0, .slice none 0 0, .slice none 0 0], hB g_0_1 74 #[.int .i64 (m.Kind), .int .i64 (m.Pos), .int .i64 (m.Answer), .int .i64 (m.Question), .string (m.Name), .slice Am5 m.Args.length cm5, .int .i64 (m.Value.Kind), .int .i64 (m.Value.N), .int .i64 (m.Count), .int .i64 (m.Tag.Vat), .int .i64 (m.Tag.Entity), .int .i64 (m.Tag.Seq)], hB g_0_0 68 #[.int .i64 (x.Id), .slice Ax1 x.Entities.length cx1, .slice Ax2 x.Loop.length cx2, .slice Ax3 x.Links.length cx3, .slice Ax4 x.Out.length cx4]] W25 := Ha27
  clear Ha27
  clear hu26
  refine ops_nil ?_
  refine then_n ?_
  refine wp_seq ?_
  refine reg_seq [0, 1, 2, 3] rfl ?_
  refine ops_cons ?_
  refine op_pure rfl (rn_move rfl) rfl rfl ?_
  refine ops_cons ?_
  refine op_pure rfl (rn_loadB Tryz.isAgg74 Tryz.sizeOf74 rfl (H28.blk 6 rfl) rfl) rfl rfl ?_
  refine ops_cons ?_
  refine op_call rfl Tryz.call101 (vs := #[.agg #[.int .i64 (m.Kind), .int .i64 (m.Pos), .int .i64 (m.Answer), .int .i64 (m.Question), .string (m.Name), .slice Am5 m.Args.length cm5, .int .i64 (m.Value.Kind), .int .i64 (m.Value.N), .int .i64 (m.Count), .int .i64 (m.Tag.Vat), .int .i64 (m.Tag.Entity), .int .i64 (m.Tag.Seq)]]) rfl rfl rfl (copied_Message m _ _ (ki_Message_Kmk _ m hlm5 (C_upd H28.1 hCm5)) hs2) ?_
  rintro e34 W33 ⟨cs29, rfl, hM30, hu31⟩
  refine ⟨_, rfl, ?_⟩
  obtain ⟨B_2_2_5, c_2_2_5, rfl, hst32⟩ := ki_Message_open hM30
  have H35 : St w No [hR ki_Wire 72 (.slice B_2_2_5 m.Args.length c_2_2_5) m.Args, hB g_1_2 68 #[.int .i64 (x.Id), .slice B_1_1_1 x.Entities.length c_1_1_1, .slice B_1_1_2 x.Loop.length c_1_1_2, .slice B_1_1_3 x.Links.length c_1_1_3, .slice B_1_1_4 x.Out.length c_1_1_4], hR ki_Entity 171 (.slice B_1_1_1 x.Entities.length c_1_1_1) x.Entities, hR ki_Sent 235 (.slice B_1_1_2 x.Loop.length c_1_1_2) x.Loop, hR ki_Link 178 (.slice B_1_1_3 x.Links.length c_1_1_3) x.Links, hR ki_Outgoing 147 (.slice B_1_1_4 x.Out.length c_1_1_4) x.Out, hB g_0_2 68 #[.int .i64 (0), .slice none 0 0, .slice none 0 0, .slice none 0 0, .slice none 0 0], hB g_0_1 74 #[.int .i64 (m.Kind), .int .i64 (m.Pos), .int .i64 (m.Answer), .int .i64 (m.Question), .string (m.Name), .slice Am5 m.Args.length cm5, .int .i64 (m.Value.Kind), .int .i64 (m.Value.N), .int .i64 (m.Count), .int .i64 (m.Tag.Vat), .int .i64 (m.Tag.Entity), .int .i64 (m.Tag.Seq)], hB g_0_0 68 #[.int .i64 (x.Id), .slice Ax1 x.Entities.length cx1, .slice Ax2 x.Loop.length cx2, .slice Ax3 x.Links.length cx3, .slice Ax4 x.Out.length cx4]] W33 := H28.news hu31 hst32
  clear H28
  refine ops_cons ?_
  have H36 : St w No [hB g_1_2 68 #[.int .i64 (x.Id), .slice B_1_1_1 x.Entities.length c_1_1_1, .slice B_1_1_2 x.Loop.length c_1_1_2, .slice B_1_1_3 x.Links.length c_1_1_3, .slice B_1_1_4 x.Out.length c_1_1_4], hR ki_Link 178 (.slice B_1_1_3 x.Links.length c_1_1_3) x.Links, hR ki_Outgoing 147 (.slice B_1_1_4 x.Out.length c_1_1_4) x.Out, hR ki_Wire 72 (.slice B_2_2_5 m.Args.length c_2_2_5) m.Args, hR ki_Entity 171 (.slice B_1_1_1 x.Entities.length c_1_1_1) x.Entities, hR ki_Sent 235 (.slice B_1_1_2 x.Loop.length c_1_1_2) x.Loop, hB g_0_2 68 #[.int .i64 (0), .slice none 0 0, .slice none 0 0, .slice none 0 0, .slice none 0 0], hB g_0_1 74 #[.int .i64 (m.Kind), .int .i64 (m.Pos), .int .i64 (m.Answer), .int .i64 (m.Question), .string (m.Name), .slice Am5 m.Args.length cm5, .int .i64 (m.Value.Kind), .int .i64 (m.Value.N), .int .i64 (m.Count), .int .i64 (m.Tag.Vat), .int .i64 (m.Tag.Entity), .int .i64 (m.Tag.Seq)], hB g_0_0 68 #[.int .i64 (x.Id), .slice Ax1 x.Entities.length cx1, .slice Ax2 x.Loop.length cx2, .slice Ax3 x.Links.length cx3, .slice Ax4 x.Out.length cx4]] W33 := H35.pick [1, 4, 5, 0, 2, 3, 6, 7, 8] (by decide) rfl
  clear H35
  obtain ⟨F37, hs38, _, hfr39⟩ := St.frame (l0 := [hB g_1_2 68 #[.int .i64 (x.Id), .slice B_1_1_1 x.Entities.length c_1_1_1, .slice B_1_1_2 x.Loop.length c_1_1_2, .slice B_1_1_3 x.Links.length c_1_1_3, .slice B_1_1_4 x.Out.length c_1_1_4], hR ki_Link 178 (.slice B_1_1_3 x.Links.length c_1_1_3) x.Links, hR ki_Outgoing 147 (.slice B_1_1_4 x.Out.length c_1_1_4) x.Out, hR ki_Wire 72 (.slice B_2_2_5 m.Args.length c_2_2_5) m.Args]) (l := [hR ki_Entity 171 (.slice B_1_1_1 x.Entities.length c_1_1_1) x.Entities, hR ki_Sent 235 (.slice B_1_1_2 x.Loop.length c_1_1_2) x.Loop, hB g_0_2 68 #[.int .i64 (0), .slice none 0 0, .slice none 0 0, .slice none 0 0, .slice none 0 0], hB g_0_1 74 #[.int .i64 (m.Kind), .int .i64 (m.Pos), .int .i64 (m.Answer), .int .i64 (m.Question), .string (m.Name), .slice Am5 m.Args.length cm5, .int .i64 (m.Value.Kind), .int .i64 (m.Value.N), .int .i64 (m.Count), .int .i64 (m.Tag.Vat), .int .i64 (m.Tag.Entity), .int .i64 (m.Tag.Seq)], hB g_0_0 68 #[.int .i64 (x.Id), .slice Ax1 x.Entities.length cx1, .slice Ax2 x.Loop.length cx2, .slice Ax3 x.Links.length cx3, .slice Ax4 x.Out.length cx4]]) H36
  refine op_call rfl Tryz.call100 (vs := #[.pointer (some ⟨g_1_2, 0, none⟩), .int .i64 (p), .agg #[.int .i64 (m.Kind), .int .i64 (m.Pos), .int .i64 (m.Answer), .int .i64 (m.Question), .string (m.Name), .slice B_2_2_5 m.Args.length c_2_2_5, .int .i64 (m.Value.Kind), .int .i64 (m.Value.N), .int .i64 (m.Count), .int .i64 (m.Tag.Vat), .int .i64 (m.Tag.Entity), .int .i64 (m.Tag.Seq)]]) rfl rfl rfl (push_i x.Links x.Out p m _ _ _ _ _ _ _ _ _ _ _ _ hs38 n_Out) ?_
  rintro e42 W41 ⟨A_2_3, c_2_3, rfl, Hn40⟩
  refine ⟨_, rfl, ?_⟩
  have H43 : St w No [hB g_1_2 68 #[.int .i64 (x.Id), .slice B_1_1_1 x.Entities.length c_1_1_1, .slice B_1_1_2 x.Loop.length c_1_1_2, .slice B_1_1_3 x.Links.length c_1_1_3, .slice A_2_3 ((pushO p m x.Links x.Out).length) c_2_3], hR ki_Link 178 (.slice B_1_1_3 x.Links.length c_1_1_3) x.Links, hR ki_Outgoing 147 (.slice A_2_3 ((pushO p m x.Links x.Out).length) c_2_3) (pushO p m x.Links x.Out), hR ki_Entity 171 (.slice B_1_1_1 x.Entities.length c_1_1_1) x.Entities, hR ki_Sent 235 (.slice B_1_1_2 x.Loop.length c_1_1_2) x.Loop, hB g_0_2 68 #[.int .i64 (0), .slice none 0 0, .slice none 0 0, .slice none 0 0, .slice none 0 0], hB g_0_1 74 #[.int .i64 (m.Kind), .int .i64 (m.Pos), .int .i64 (m.Answer), .int .i64 (m.Question), .string (m.Name), .slice Am5 m.Args.length cm5, .int .i64 (m.Value.Kind), .int .i64 (m.Value.N), .int .i64 (m.Count), .int .i64 (m.Tag.Vat), .int .i64 (m.Tag.Entity), .int .i64 (m.Tag.Seq)], hB g_0_0 68 #[.int .i64 (x.Id), .slice Ax1 x.Entities.length cx1, .slice Ax2 x.Loop.length cx2, .slice Ax3 x.Links.length cx3, .slice Ax4 x.Out.length cx4]] W41 := hfr39 _ _ Hn40
  clear H36
  refine ops_nil ?_
  refine then_n ?_
  refine wp_seq ?_
  refine reg_seq [0, 1] rfl ?_
  refine ops_cons ?_
  refine op_pure rfl (rn_loadB Tryz.isAgg68 Tryz.sizeOf68 rfl (H43.blk 0 rfl) rfl) rfl rfl ?_
  refine ops_cons ?_
  have H47 : St w No [hB g_0_2 68 #[.int .i64 (0), .slice none 0 0, .slice none 0 0, .slice none 0 0, .slice none 0 0], hB g_1_2 68 #[.int .i64 (x.Id), .slice B_1_1_1 x.Entities.length c_1_1_1, .slice B_1_1_2 x.Loop.length c_1_1_2, .slice B_1_1_3 x.Links.length c_1_1_3, .slice A_2_3 ((pushO p m x.Links x.Out).length) c_2_3], hR ki_Link 178 (.slice B_1_1_3 x.Links.length c_1_1_3) x.Links, hR ki_Outgoing 147 (.slice A_2_3 ((pushO p m x.Links x.Out).length) c_2_3) (pushO p m x.Links x.Out), hR ki_Entity 171 (.slice B_1_1_1 x.Entities.length c_1_1_1) x.Entities, hR ki_Sent 235 (.slice B_1_1_2 x.Loop.length c_1_1_2) x.Loop, hB g_0_1 74 #[.int .i64 (m.Kind), .int .i64 (m.Pos), .int .i64 (m.Answer), .int .i64 (m.Question), .string (m.Name), .slice Am5 m.Args.length cm5, .int .i64 (m.Value.Kind), .int .i64 (m.Value.N), .int .i64 (m.Count), .int .i64 (m.Tag.Vat), .int .i64 (m.Tag.Entity), .int .i64 (m.Tag.Seq)], hB g_0_0 68 #[.int .i64 (x.Id), .slice Ax1 x.Entities.length cx1, .slice Ax2 x.Loop.length cx2, .slice Ax3 x.Links.length cx3, .slice Ax4 x.Out.length cx4]] W41 := H43.pick [5, 0, 1, 2, 3, 4, 6, 7] (by decide) rfl
  clear H43
  refine op_storeW rfl Tryz.sizeOf68 rfl rfl rfl rfl (by simp [Value.oneCell']) H47 ?_
  intro W44 hu45 Ha46
  clear H47
  have H48 : St w No [hB g_0_2 68 #[.int .i64 (x.Id), .slice B_1_1_1 x.Entities.length c_1_1_1, .slice B_1_1_2 x.Loop.length c_1_1_2, .slice B_1_1_3 x.Links.length c_1_1_3, .slice A_2_3 ((pushO p m x.Links x.Out).length) c_2_3], hB g_1_2 68 #[.int .i64 (x.Id), .slice B_1_1_1 x.Entities.length c_1_1_1, .slice B_1_1_2 x.Loop.length c_1_1_2, .slice B_1_1_3 x.Links.length c_1_1_3, .slice A_2_3 ((pushO p m x.Links x.Out).length) c_2_3], hR ki_Link 178 (.slice B_1_1_3 x.Links.length c_1_1_3) x.Links, hR ki_Outgoing 147 (.slice A_2_3 ((pushO p m x.Links x.Out).length) c_2_3) (pushO p m x.Links x.Out), hR ki_Entity 171 (.slice B_1_1_1 x.Entities.length c_1_1_1) x.Entities, hR ki_Sent 235 (.slice B_1_1_2 x.Loop.length c_1_1_2) x.Loop, hB g_0_1 74 #[.int .i64 (m.Kind), .int .i64 (m.Pos), .int .i64 (m.Answer), .int .i64 (m.Question), .string (m.Name), .slice Am5 m.Args.length cm5, .int .i64 (m.Value.Kind), .int .i64 (m.Value.N), .int .i64 (m.Count), .int .i64 (m.Tag.Vat), .int .i64 (m.Tag.Entity), .int .i64 (m.Tag.Seq)], hB g_0_0 68 #[.int .i64 (x.Id), .slice Ax1 x.Entities.length cx1, .slice Ax2 x.Loop.length cx2, .slice Ax3 x.Links.length cx3, .slice Ax4 x.Out.length cx4]] W44 := Ha46
  clear Ha46
  clear hu45
  refine ops_nil ?_
  refine then_n ?_
  refine wp_ret ?_
  refine post_cell (.inl rfl) Tryz.results29 Tryz.isAgg68 Tryz.sizeOf68 rfl (H48.blk 0 rfl) rfl ?_
  exact ⟨_, rfl, ki_Vat_close (x := (pushV p m x)) (H48.pick [4, 5, 2, 3] (by decide) rfl).star, H48.1⟩
end Go.Proofs.YtfnedoiplblldaaGreatFam

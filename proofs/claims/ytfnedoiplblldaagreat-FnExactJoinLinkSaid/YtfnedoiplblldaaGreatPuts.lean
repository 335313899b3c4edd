/- Exports put into a link. No conditions. -/
import Derived.Test.YtfnedoiplblldaaGreatProg
import Derived.Test.YtfnedoiplblldaaGreatTy
import Derived.Test.YtfnedoiplblldaaGreatOpn
import Derived.Test.YtfnedoiplblldaaGreatSym3
import Derived.Test.YtfnedoiplblldaaGreatXFind
import Derived.Test.YtfnedoiplblldaaGreatFoc
import Derived.Test.YtfnedoiplblldaaGreatAddE
namespace Go.Proofs.YtfnedoiplblldaaGreatFam
open Go.ChangeShapes Go.WideShapes Go.RowKit Go.Proofs.YtfnedoiplblldaaGreatSep Go.Proofs.YtfnedoiplblldaaGreatT Go.Proofs.YtfnedoiplblldaaGreatK
set_option linter.unusedVariables false
set_option linter.unusedSimpArgs false
def exP (n : Int) : GExport → Bool := fun x => decide (x.Entity = n)
def exUp (e : GExport) : GExport := ⟨e.Pos, e.Entity, IntKind.i64.wrap (e.Count + 1)⟩
def pxL (n : Int) (l : List GExport) (nx : Int) : List GExport := if 0 ≤ fidx (exP n) 0 l then l.set (fidx (exP n) 0 l).toNat (exUp (l.getD (fidx (exP n) 0 l).toNat ⟨0, 0, 0⟩)) else l ++ [⟨IntKind.i64.wrap (nx + 1), n, 1⟩]
def pxX (n : Int) (l : List GExport) (nx : Int) : Int := if 0 ≤ fidx (exP n) 0 l then nx else IntKind.i64.wrap (nx + 1)
def pxN (n : Int) (l : List GExport) (nx : Int) : Int := if 0 ≤ fidx (exP n) 0 l then (l.getD (fidx (exP n) 0 l).toNat ⟨0, 0, 0⟩).Pos else IntKind.i64.wrap (nx + 1)
def pxV (n : Int) (x : GLink) : GLink := ⟨x.Peer, x.Up, pxL n x.Exports x.Next, pxX n x.Exports x.Next, x.Questions, x.Asked, x.Answers⟩
theorem px_yes (n : Int) (l : List GExport) (nx : Int) (k : Nat) (hk : k < l.length) (hf : fidx (exP n) 0 l = (k : Int)) : pxL n l nx = l.set k (exUp l[k]) ∧ pxX n l nx = nx ∧ pxN n l nx = l[k].Pos := by
  have h0 : (0 : Int) ≤ (k : Int) := by omega
  have hd : l.getD k ⟨0, 0, 0⟩ = l[k] := by simp [List.getD, hk]
  unfold pxL pxX pxN
  simp only [hf, if_pos h0, Int.toNat_natCast, hd, and_self]
theorem px_no (n : Int) (l : List GExport) (nx : Int) (hf : fidx (exP n) 0 l = -1) : pxL n l nx = l ++ [⟨IntKind.i64.wrap (nx + 1), n, 1⟩] ∧ pxX n l nx = IntKind.i64.wrap (nx + 1) ∧ pxN n l nx = IntKind.i64.wrap (nx + 1) := by
  have h0 : ¬ (0 : Int) ≤ -1 := by omega
  unfold pxL pxX pxN
  simp only [hf, if_neg h0, and_self]
theorem px_len (n : Int) (l : List GExport) (nx : Int) : (pxL n l nx).length ≤ l.length + 1 := by
  unfold pxL
  split
  · rw [List.length_set]
    omega
  · rw [List.length_append]
    exact Nat.le_refl _
theorem fidx_case {α : Type} (p : α → Bool) (l : List α) : fidx p 0 l = -1 ∨ ∃ k : Nat, k < l.length ∧ fidx p 0 l = (k : Int) := by
  rcases fidx_range p l 0 with h | h
  · exact .inl h
  · exact .inr ⟨(fidx p 0 l).toNat, by omega, by omega⟩
theorem link_closeN {W : World} {F : Nat → Prop} {x : GLink} {n : Nat} {B2 : Option Addr} {c2 : Nat} {B4 : Option Addr} {c4 : Nat} {B6 : Option Addr} {c6 : Nat} (hn : n = x.Exports.length) (h : Star [hR ki_Export 256 (.slice B2 n c2) x.Exports, hR ki_Question 289 (.slice B4 x.Questions.length c4) x.Questions, hR ki_Question 289 (.slice B6 x.Answers.length c6) x.Answers] W F) : ki_Link.M W F x [.int .i64 (x.Peer), .bool (x.Up), .slice B2 n c2, .int .i64 (x.Next), .slice B4 x.Questions.length c4, .int .i64 (x.Asked), .slice B6 x.Answers.length c6] := by
  subst hn
  exact ki_Link_close h
set_option maxHeartbeats 4000000 in
set_option maxRecDepth 100000 in
theorem exF_clo (x : GExport) (cs : List Value) (p : Int) (g : Nat) (w : World) (h : ki_Export.K w x cs) (hc : w.cell? ⟨g, 0, none⟩ = some (.int .i64 p)) : Calls Tryz.prog 225 #[.agg cs.toArray, .pointer (some ⟨g, 0, none⟩)] w (RetBool (exP p x) w) := by
  obtain rfl := ki_Export_K h
  refine enter 8 [(0, .agg #[.int .i64 (x.Pos), .int .i64 (x.Entity), .int .i64 (x.Count)]), (1, .pointer (some ⟨g, 0, none⟩))] Tryz.func225 rfl (by kernel_rfl) ?_
  intro xj
  have H1 : St w No [] w := St.enter
  refine wp_seq ?_
  refine reg_seq [0, 1] rfl ?_
  refine ops_cons ?_
  refine op_box rfl rfl rfl rfl H1 ?_
  intro g_0_0 W2 hu3 Ha4
  clear H1
  have H5 : St w No [hB g_0_0 256 #[.int .i64 (x.Pos), .int .i64 (x.Entity), .int .i64 (x.Count)]] W2 := Ha4
  clear Ha4
  clear hu3
  refine ops_cons ?_
  refine op_pure rfl (rn_assign rfl) rfl rfl ?_
  refine ops_nil ?_
  refine then_n ?_
  refine wp_seq ?_
  refine reg_seq [0, 1, 2, 3, 4] rfl ?_
  refine ops_cons ?_
  refine op_pure rfl (rn_field fa_256_1 rfl) rfl rfl ?_
  refine ops_cons ?_
  refine op_pure rfl (rn_loadC (k := 1) (v := .int .i64 (x.Entity)) Tryz.isAgg3 rfl (H5.blk 0 rfl) rfl) rfl rfl ?_
  refine ops_cons ?_
  refine op_pure rfl (rn_load (v := .int .i64 (p)) Tryz.isAgg3 rfl (H5.1.read hc)) rfl rfl ?_
  refine ops_cons ?_
  refine op_pure rfl (rn_eql rfl rfl) rfl rfl ?_
  refine ops_cons ?_
  refine op_pure rfl (rn_assign rfl) rfl rfl ?_
  refine ops_nil ?_
  refine then_n ?_
  refine wp_ret ?_
  refine post_tmp (.inl rfl) Tryz.results225 rfl ?_
  exact ⟨rfl, H5.1⟩
set_option maxHeartbeats 4000000 in
set_option maxRecDepth 100000 in
theorem of_i (l : List GExport) (n : Int) (g c0 : Nat) (A0 : Option Addr) (v0 v1 v3 v4 v5 v6 : Value) (F0 : Nat → Prop) (w : World) (h : Star [hB g 178 #[v0, v1, .slice A0 l.length c0, v3, v4, v5, v6], hR ki_Export 256 (.slice A0 l.length c0) l] w F0) (q : Int) (hq : fidx (exP n) 0 l = q) : Calls Tryz.prog 200 #[.pointer (some ⟨g, 0, none⟩), .int .i64 n] w (fun e' w' => e' = .returned (.int .i64 q) ∧ St w F0 [hB g 178 #[v0, v1, .slice A0 l.length c0, v3, v4, v5, v6], hR ki_Export 256 (.slice A0 l.length c0) l] w') := by
  refine enter 11 [(0, .pointer (some ⟨g, 0, none⟩)), (1, .int .i64 (n))] Tryz.func200 rfl (by kernel_rfl) ?_
  intro xj
  have H1 : St w F0 [hB g 178 #[v0, v1, .slice A0 l.length c0, v3, v4, v5, v6], hR ki_Export 256 (.slice A0 l.length c0) l] w := St.enterF h
  refine wp_seq ?_
  refine reg_seq [0, 1] rfl ?_
  refine ops_cons ?_
  refine op_box rfl rfl rfl rfl H1 ?_
  intro g_0_0 W2 hu3 Ha4
  clear H1
  have H5 : St w F0 [hB g_0_0 3 #[.int .i64 (n)], hB g 178 #[v0, v1, .slice A0 l.length c0, v3, v4, v5, v6], hR ki_Export 256 (.slice A0 l.length c0) l] W2 := Ha4
  clear Ha4
  clear hu3
  refine ops_cons ?_
  refine op_pure rfl (rn_assign rfl) rfl rfl ?_
  refine ops_nil ?_
  refine then_n ?_
  refine wp_seq ?_
  refine reg_seq [0, 1, 2, 3, 4, 5, 6] rfl ?_
  refine ops_cons ?_
  refine op_pure rfl (rn_move rfl) rfl rfl ?_
  refine ops_cons ?_
  refine op_pure rfl (rn_nilCheck rfl) rfl rfl ?_
  refine ops_cons ?_
  refine op_pure rfl (rn_field fa_178_2 rfl) rfl rfl ?_
  refine ops_cons ?_
  refine op_pure rfl (rn_loadC (k := 2) (v := .slice A0 l.length c0) Tryz.isAgg175 rfl (H5.blk 1 rfl) rfl) rfl rfl ?_
  refine ops_cons ?_
  refine op_pure rfl (rn_makeFunc (us := #[]) (vs := #[.pointer (some ⟨g_0_0, 0, none⟩)]) rfl rfl) rfl rfl ?_
  refine ops_cons ?_
  refine op_call rfl Tryz.call224 (vs := #[.slice A0 l.length c0, .func (.func 225) #[] #[.pointer (some ⟨g_0_0, 0, none⟩)]]) rfl rfl rfl (exF_idx (.pointer (some ⟨g_0_0, 0, none⟩)) (exP n) l _ _ _ (H5.rowC 2 rfl) (fun x cs w' hu hK => exF_clo x cs n _ w' hK (hu.read ((H5.blk 0 rfl).at 0 rfl)))) ?_
  rintro e8 W7 ⟨rfl, hu6⟩
  refine ⟨_, rfl, ?_⟩
  have H9 : St w F0 [hB g_0_0 3 #[.int .i64 (n)], hB g 178 #[v0, v1, .slice A0 l.length c0, v3, v4, v5, v6], hR ki_Export 256 (.slice A0 l.length c0) l] W7 := H5.no hu6
  clear H5
  refine ops_cons ?_
  refine op_pure rfl (rn_assign rfl) rfl rfl ?_
  refine ops_nil ?_
  refine then_n ?_
  refine wp_ret ?_
  refine post_tmp (.inl rfl) Tryz.results200 rfl ?_
  exact ⟨congrArg (fun z => Ending.returned (Value.int IntKind.i64 z)) hq, H9.pick [1, 2] (by decide) rfl⟩
set_option maxHeartbeats 4000000 in
set_option maxRecDepth 100000 in
theorem put_old (l : List GExport) (n nx : Int) (g c0 : Nat) (A0 : Option Addr) (v0 v1 v4 v5 v6 : Value) (F0 : Nat → Prop) (w : World) (h : Star [hB g 178 #[v0, v1, .slice A0 (l).length c0, .int .i64 (nx), v4, v5, v6], hR ki_Export 256 (.slice A0 (l).length c0) (l)] w F0) (hn : l.length ≤ 4194304) (k : Nat) (hk : k < l.length) (hf : fidx (exP n) 0 l = (k : Int)) : Calls Tryz.prog 149 #[.pointer (some ⟨g, 0, none⟩), .int .i64 n] w (fun e' w' => ∃ A c, e' = .returned (.int .i64 (pxN n l nx)) ∧ St w F0 [hB g 178 #[v0, v1, .slice A (pxL n l nx).length c, .int .i64 (pxX n l nx), v4, v5, v6], hR ki_Export 256 (.slice A (pxL n l nx).length c) (pxL n l nx)] w') := by
  refine enter 56 [(0, .pointer (some ⟨g, 0, none⟩)), (1, .int .i64 (n))] Tryz.func149 rfl (by kernel_rfl) ?_
  intro xj
  have H1 : St w F0 [hB g 178 #[v0, v1, .slice A0 l.length c0, .int .i64 (nx), v4, v5, v6], hR ki_Export 256 (.slice A0 l.length c0) l] w := St.enterF h
  refine wp_seq ?_
  refine reg_seq [0] rfl ?_
  refine ops_cons ?_
  refine op_pure rfl (rn_assign rfl) rfl rfl ?_
  refine ops_nil ?_
  refine then_n ?_
  refine wp_seq ?_
  refine wp_seq ?_
  refine reg_seq [0, 1, 2, 3] rfl ?_
  refine ops_cons ?_
  refine op_pure rfl (rn_move rfl) rfl rfl ?_
  refine ops_cons ?_
  refine op_pure rfl (rn_move rfl) rfl rfl ?_
  refine ops_cons ?_
  obtain ⟨F2, hs3, _, hfr4⟩ := St.frame (l0 := [hB g 178 #[v0, v1, .slice A0 l.length c0, .int .i64 (nx), v4, v5, v6], hR ki_Export 256 (.slice A0 l.length c0) l]) (l := []) H1
  refine op_call rfl Tryz.call200 (vs := #[.pointer (some ⟨g, 0, none⟩), .int .i64 (n)]) rfl rfl rfl (of_i l n _ _ _ _ _ _ _ _ _ _ _ hs3 ((k : Nat) : Int) hf) ?_
  rintro e7 W6 ⟨rfl, Hn5⟩
  refine ⟨_, rfl, ?_⟩
  have H8 : St w F0 [hB g 178 #[v0, v1, .slice A0 l.length c0, .int .i64 (nx), v4, v5, v6], hR ki_Export 256 (.slice A0 l.length c0) l] W6 := hfr4 _ _ Hn5
  clear H1
  refine ops_cons ?_
  refine op_pure rfl (rn_assign rfl) rfl rfl ?_
  refine ops_nil ?_
  refine then_n ?_
  refine wp_seq ?_
  refine reg_seq [0, 1] rfl ?_
  refine ops_cons ?_
  refine op_pure rfl (rn_move rfl) rfl rfl ?_
  refine ops_cons ?_
  refine op_pure rfl (rn_decT (p := (0 : Int) ≤ ((k : Nat) : Int)) (by omega) (rn_geq (p := ((k : Nat) : Int)) (q := 0) rfl rfl)) rfl rfl ?_
  refine ops_nil ?_
  refine then_n ?_
  refine cond_t rfl ?_
  refine wp_seq ?_
  have H9 : St w F0 [hR ki_Export 256 (.slice A0 l.length c0) l, hB g 178 #[v0, v1, .slice A0 l.length c0, .int .i64 (nx), v4, v5, v6]] W6 := H8.pick [1, 0] (by decide) rfl
  clear H8
  obtain ⟨gf10, rfl⟩ := H9.openS (q := k) hk
  obtain ⟨ce11, hn12, H13⟩ := H9.openG (q := k) hk
  clear H9
  have H14 : St w F0 [hE ki_Export 256 gf10 c0 k ce11 l, hM ki_Export (l[k]) ce11, hB g 178 #[v0, v1, .slice (some ⟨gf10, 0, none⟩) l.length c0, .int .i64 (nx), v4, v5, v6]] W6 := H13
  clear H13
  obtain rfl := ki_Export_K (H14.kn 1 rfl)
  have H15 : St w F0 [hE ki_Export 256 gf10 c0 k [.int .i64 ((l[k]).Pos), .int .i64 ((l[k]).Entity), .int .i64 ((l[k]).Count)] l, hB g 178 #[v0, v1, .slice (some ⟨gf10, 0, none⟩) l.length c0, .int .i64 (nx), v4, v5, v6]] W6 := H14.pick [0, 2] (by decide) rfl
  clear H14
  refine reg_seq [0, 1, 2, 3, 4, 5, 6, 7, 8, 9, 10, 11] rfl ?_
  refine ops_cons ?_
  refine op_pure rfl (rn_move rfl) rfl rfl ?_
  refine ops_cons ?_
  refine op_pure rfl (rn_nilCheck rfl) rfl rfl ?_
  refine ops_cons ?_
  refine op_pure rfl (rn_field fa_178_2 rfl) rfl rfl ?_
  refine ops_cons ?_
  refine op_pure rfl (rn_loadC (k := 2) (v := .slice (some ⟨gf10, 0, none⟩) l.length c0) Tryz.isAgg175 rfl (H15.blk 1 rfl) rfl) rfl rfl ?_
  refine ops_cons ?_
  refine op_pure rfl (rn_move rfl) rfl rfl ?_
  refine ops_cons ?_
  refine op_pure rfl (rn_indexA (k := k) Tryz.runUnderlying175 Tryz.sizeOf256 rfl rfl rfl (Nat.lt_of_lt_of_eq hk hn12.symm)) rfl rfl ?_
  refine ops_cons ?_
  refine op_pure rfl (rn_field fa_256_2 rfl) rfl rfl ?_
  refine ops_cons ?_
  refine op_pure rfl (rn_loadE (v := .int .i64 ((l[k]).Count)) Tryz.isAgg3 rfl (H15.catE 0 rfl) rfl) rfl rfl ?_
  refine ops_cons ?_
  refine op_pure rfl (rn_addW rfl rfl) rfl rfl ?_
  refine ops_cons ?_
  refine op_pure rfl (rn_indexA (k := k) Tryz.runUnderlying175 Tryz.sizeOf256 rfl rfl rfl (Nat.lt_of_lt_of_eq hk hn12.symm)) rfl rfl ?_
  refine ops_cons ?_
  refine op_pure rfl (rn_field fa_256_2 rfl) rfl rfl ?_
  refine ops_cons ?_
  refine op_storeE (dk := ki_Export) (k := 2) (ce' := [.int .i64 ((l[k]).Pos), .int .i64 ((l[k]).Entity), .int .i64 (IntKind.i64.wrap (((l[k]).Count) + 1))]) rfl Tryz.sizeOf3 rfl rfl rfl rfl (Nat.le_of_ble_eq_true rfl) (by simp [Value.cells, Value.oneCell']) rfl H15 ?_
  intro W16 hu17 Ha18
  clear H15
  have H19 : St w F0 [hE ki_Export 256 gf10 c0 k [.int .i64 ((l[k]).Pos), .int .i64 ((l[k]).Entity), .int .i64 (IntKind.i64.wrap (((l[k]).Count) + 1))] l, hB g 178 #[v0, v1, .slice (some ⟨gf10, 0, none⟩) l.length c0, .int .i64 (nx), v4, v5, v6]] W16 := Ha18
  clear Ha18
  clear hu17
  refine ops_nil ?_
  refine then_n ?_
  refine wp_seq ?_
  refine reg_seq [0, 1, 2, 3, 4, 5, 6, 7, 8] rfl ?_
  refine ops_cons ?_
  refine op_pure rfl (rn_move rfl) rfl rfl ?_
  refine ops_cons ?_
  refine op_pure rfl (rn_nilCheck rfl) rfl rfl ?_
  refine ops_cons ?_
  refine op_pure rfl (rn_field fa_178_2 rfl) rfl rfl ?_
  refine ops_cons ?_
  refine op_pure rfl (rn_loadC (k := 2) (v := .slice (some ⟨gf10, 0, none⟩) l.length c0) Tryz.isAgg175 rfl (H19.blk 1 rfl) rfl) rfl rfl ?_
  refine ops_cons ?_
  refine op_pure rfl (rn_move rfl) rfl rfl ?_
  refine ops_cons ?_
  refine op_pure rfl (rn_indexA (k := k) Tryz.runUnderlying175 Tryz.sizeOf256 rfl rfl rfl (Nat.lt_of_lt_of_eq hk hn12.symm)) rfl rfl ?_
  refine ops_cons ?_
  refine op_pure rfl (rn_field fa_256_0 rfl) rfl rfl ?_
  refine ops_cons ?_
  refine op_pure rfl (rn_loadE (v := .int .i64 ((l[k]).Pos)) Tryz.isAgg3 rfl (H19.catE 0 rfl) rfl) rfl rfl ?_
  refine ops_cons ?_
  refine op_pure rfl (rn_assign rfl) rfl rfl ?_
  refine ops_nil ?_
  have H20 : St w F0 [hM ki_Export (exUp l[k]) [.int .i64 ((l[k]).Pos), .int .i64 ((l[k]).Entity), .int .i64 (IntKind.i64.wrap (((l[k]).Count) + 1))], hE ki_Export 256 gf10 c0 k [.int .i64 ((l[k]).Pos), .int .i64 ((l[k]).Entity), .int .i64 (IntKind.i64.wrap (((l[k]).Count) + 1))] l, hB g 178 #[v0, v1, .slice (some ⟨gf10, 0, none⟩) l.length c0, .int .i64 (nx), v4, v5, v6]] W16 := H19.add0 (q := hM ki_Export (exUp l[k]) [.int .i64 ((l[k]).Pos), .int .i64 ((l[k]).Entity), .int .i64 (IntKind.i64.wrap (((l[k]).Count) + 1))]) (ki_Export_mk _ No (exUp l[k]))
  clear H19
  have H21 : St w F0 [hE ki_Export 256 gf10 c0 k [.int .i64 ((l[k]).Pos), .int .i64 ((l[k]).Entity), .int .i64 (IntKind.i64.wrap (((l[k]).Count) + 1))] l, hM ki_Export (exUp l[k]) [.int .i64 ((l[k]).Pos), .int .i64 ((l[k]).Entity), .int .i64 (IntKind.i64.wrap (((l[k]).Count) + 1))], hB g 178 #[v0, v1, .slice (some ⟨gf10, 0, none⟩) l.length c0, .int .i64 (nx), v4, v5, v6]] W16 := H20.pick [1, 0, 2] (by decide) rfl
  clear H20
  have H22 : St w F0 [hR ki_Export 256 (.slice (some ⟨gf10, 0, none⟩) l.length c0) (l.set k (exUp l[k])), hB g 178 #[v0, v1, .slice (some ⟨gf10, 0, none⟩) l.length c0, .int .i64 (nx), v4, v5, v6]] W16 := H21.closeG rfl (by rw [List.length_set])
  clear H21
  refine then_n ?_
  refine wp_ret ?_
  refine then_r ?_
  obtain ⟨e1, e2, e3⟩ := px_yes n l nx k hk hf
  refine post_tmp (.inl rfl) Tryz.results149 rfl ?_
  rw [e1, e2, e3]
  rw [List.length_set]
  exact ⟨(some ⟨gf10, 0, none⟩), c0, rfl, H22.pick [1, 0] (by decide) rfl⟩
set_option maxHeartbeats 4000000 in
set_option maxRecDepth 100000 in
theorem put_new (l : List GExport) (n nx : Int) (g c0 : Nat) (A0 : Option Addr) (v0 v1 v4 v5 v6 : Value) (F0 : Nat → Prop) (w : World) (h : Star [hB g 178 #[v0, v1, .slice A0 (l).length c0, .int .i64 (nx), v4, v5, v6], hR ki_Export 256 (.slice A0 (l).length c0) (l)] w F0) (hn : l.length ≤ 4194304) (hf : fidx (exP n) 0 l = -1) : Calls Tryz.prog 149 #[.pointer (some ⟨g, 0, none⟩), .int .i64 n] w (fun e' w' => ∃ A c, e' = .returned (.int .i64 (pxN n l nx)) ∧ St w F0 [hB g 178 #[v0, v1, .slice A (pxL n l nx).length c, .int .i64 (pxX n l nx), v4, v5, v6], hR ki_Export 256 (.slice A (pxL n l nx).length c) (pxL n l nx)] w') := by
  refine enter 56 [(0, .pointer (some ⟨g, 0, none⟩)), (1, .int .i64 (n))] Tryz.func149 rfl (by kernel_rfl) ?_
  intro xj
  have H1 : St w F0 [hB g 178 #[v0, v1, .slice A0 l.length c0, .int .i64 (nx), v4, v5, v6], hR ki_Export 256 (.slice A0 l.length c0) l] w := St.enterF h
  refine wp_seq ?_
  refine reg_seq [0] rfl ?_
  refine ops_cons ?_
  refine op_pure rfl (rn_assign rfl) rfl rfl ?_
  refine ops_nil ?_
  refine then_n ?_
  refine wp_seq ?_
  refine wp_seq ?_
  refine reg_seq [0, 1, 2, 3] rfl ?_
  refine ops_cons ?_
  refine op_pure rfl (rn_move rfl) rfl rfl ?_
  refine ops_cons ?_
  refine op_pure rfl (rn_move rfl) rfl rfl ?_
  refine ops_cons ?_
  obtain ⟨F2, hs3, _, hfr4⟩ := St.frame (l0 := [hB g 178 #[v0, v1, .slice A0 l.length c0, .int .i64 (nx), v4, v5, v6], hR ki_Export 256 (.slice A0 l.length c0) l]) (l := []) H1
  refine op_call rfl Tryz.call200 (vs := #[.pointer (some ⟨g, 0, none⟩), .int .i64 (n)]) rfl rfl rfl (of_i l n _ _ _ _ _ _ _ _ _ _ _ hs3 (-1) hf) ?_
  rintro e7 W6 ⟨rfl, Hn5⟩
  refine ⟨_, rfl, ?_⟩
  have H8 : St w F0 [hB g 178 #[v0, v1, .slice A0 l.length c0, .int .i64 (nx), v4, v5, v6], hR ki_Export 256 (.slice A0 l.length c0) l] W6 := hfr4 _ _ Hn5
  clear H1
  refine ops_cons ?_
  refine op_pure rfl (rn_assign rfl) rfl rfl ?_
  refine ops_nil ?_
  refine then_n ?_
  refine wp_seq ?_
  refine reg_seq [0, 1] rfl ?_
  refine ops_cons ?_
  refine op_pure rfl (rn_move rfl) rfl rfl ?_
  refine ops_cons ?_
  refine op_pure rfl (rn_decF (p := (0 : Int) ≤ (-1)) (by omega) (rn_geq (p := (-1)) (q := 0) rfl rfl)) rfl rfl ?_
  refine ops_nil ?_
  refine then_n ?_
  refine cond_f rfl ?_
  refine wp_skip ?_
  refine then_n ?_
  refine wp_seq ?_
  refine reg_seq [0, 1, 2, 3, 4, 5, 6, 7] rfl ?_
  refine ops_cons ?_
  refine op_pure rfl (rn_move rfl) rfl rfl ?_
  refine ops_cons ?_
  refine op_pure rfl (rn_nilCheck rfl) rfl rfl ?_
  refine ops_cons ?_
  refine op_pure rfl (rn_field fa_178_3 rfl) rfl rfl ?_
  refine ops_cons ?_
  refine op_pure rfl (rn_loadC (k := 3) (v := .int .i64 (nx)) Tryz.isAgg3 rfl (H8.blk 0 rfl) rfl) rfl rfl ?_
  refine ops_cons ?_
  refine op_pure rfl (rn_addW rfl rfl) rfl rfl ?_
  refine ops_cons ?_
  refine op_pure rfl (rn_nilCheck rfl) rfl rfl ?_
  refine ops_cons ?_
  refine op_pure rfl (rn_field fa_178_3 rfl) rfl rfl ?_
  refine ops_cons ?_
  refine op_store rfl Tryz.sizeOf3 rfl rfl rfl (Nat.le_of_ble_eq_true rfl) (by simp [Value.cells, Value.oneCell']) H8 ?_
  intro W9 hu10 Ha11
  clear H8
  have H12 : St w F0 [hB g 178 #[v0, v1, .slice A0 l.length c0, .int .i64 (IntKind.i64.wrap (nx + 1)), v4, v5, v6], hR ki_Export 256 (.slice A0 l.length c0) l] W9 := Ha11
  clear Ha11
  clear hu10
  refine ops_nil ?_
  refine then_n ?_
  refine wp_seq ?_
  refine reg_draw (fun W' => Blk W' g 178 #[v0, v1, .slice A0 l.length c0, .int .i64 (IntKind.i64.wrap (nx + 1)), v4, v5, v6]) 15 (by kernel_rfl) ?_
  have H13 : St w F0 [hB g 178 #[v0, v1, .slice A0 l.length c0, .int .i64 (IntKind.i64.wrap (nx + 1)), v4, v5, v6], hR ki_Export 256 (.slice A0 l.length c0) l] W9.drew := H12.drew
  clear H12
  have hS14 : Blk W9.drew g 178 #[v0, v1, .slice A0 l.length c0, .int .i64 (IntKind.i64.wrap (nx + 1)), v4, v5, v6] := H13.blk 0 rfl
  refine anyS_take (i := 0) rfl (by kernel_rfl) (by kernel_rfl) (by kernel_rfl) (by kernel_rfl) (by kernel_rfl) (fun _ _ _ h => h) rfl rfl hS14 (fun W' hs' => rn_move rfl) ?_
  refine anyS_take (i := 1) rfl (by kernel_rfl) (by kernel_rfl) (by kernel_rfl) (by kernel_rfl) (by kernel_rfl) (fun _ _ _ h => h) rfl rfl hS14 (fun W' hs' => rn_move rfl) ?_
  refine anyS_take (i := 2) rfl (by kernel_rfl) (by kernel_rfl) (by kernel_rfl) (by kernel_rfl) (by kernel_rfl) (fun _ _ _ h => h) rfl rfl hS14 (fun W' hs' => rn_nilCheck rfl) ?_
  refine anyS_take (i := 3) rfl (by kernel_rfl) (by kernel_rfl) (by kernel_rfl) (by kernel_rfl) (by kernel_rfl) (fun _ _ _ h => h) rfl rfl hS14 (fun W' hs' => rn_field fa_178_2 rfl) ?_
  refine anyS_take (i := 4) rfl (by kernel_rfl) (by kernel_rfl) (by kernel_rfl) (by kernel_rfl) (by kernel_rfl) (fun _ _ _ h => h) rfl rfl hS14 (fun W' hs' => rn_loadC (k := 2) (v := .slice A0 l.length c0) Tryz.isAgg175 rfl hs' rfl) ?_
  refine anyS_take (i := 5) rfl (by kernel_rfl) (by kernel_rfl) (by kernel_rfl) (by kernel_rfl) (by kernel_rfl) (fun _ _ _ h => h) rfl rfl hS14 (fun W' hs' => rn_move rfl) ?_
  refine anyS_take (i := 6) rfl (by kernel_rfl) (by kernel_rfl) (by kernel_rfl) (by kernel_rfl) (by kernel_rfl) (fun _ _ _ h => h) rfl rfl hS14 (fun W' hs' => rn_nilCheck rfl) ?_
  refine anyS_take (i := 7) rfl (by kernel_rfl) (by kernel_rfl) (by kernel_rfl) (by kernel_rfl) (by kernel_rfl) (fun _ _ _ h => h) rfl rfl hS14 (fun W' hs' => rn_field fa_178_3 rfl) ?_
  refine anyS_take (i := 8) rfl (by kernel_rfl) (by kernel_rfl) (by kernel_rfl) (by kernel_rfl) (by kernel_rfl) (fun _ _ _ h => h) rfl rfl hS14 (fun W' hs' => rn_loadC (k := 3) (v := .int .i64 (IntKind.i64.wrap (nx + 1))) Tryz.isAgg3 rfl hs' rfl) ?_
  refine anyS_take (i := 9) rfl (by kernel_rfl) (by kernel_rfl) (by kernel_rfl) (by kernel_rfl) (by kernel_rfl) (fun _ _ _ h => h) rfl rfl hS14 (fun W' hs' => rn_move rfl) ?_
  refine anyS_take (i := 10) rfl (by kernel_rfl) (by kernel_rfl) (by kernel_rfl) (by kernel_rfl) (by kernel_rfl) (fun _ _ _ h => h) rfl rfl hS14 (fun W' hs' => rn_build (vs := [(0, .int .i64 (IntKind.i64.wrap (nx + 1))), (1, .int .i64 (n)), (2, .int .i64 (1))]) (cells := #[.int .i64 (IntKind.i64.wrap (nx + 1)), .int .i64 (n), .int .i64 (1)]) rfl (by kernel_rfl)) ?_
  refine anyS_one (i := 11) (by kernel_rfl) ?_
  refine op_slice1 rfl Tryz.runUnderlying175 Tryz.sizeOf256 (by decide) Tryz.zeroValue256 rfl rfl rfl rfl H13 ?_
  intro g_6_11 W15 hu16 Ha17
  clear H13
  have H18 : St w F0 [hB g_6_11 256 #[.int .i64 (IntKind.i64.wrap (nx + 1)), .int .i64 (n), .int .i64 (1)], hB g 178 #[v0, v1, .slice A0 l.length c0, .int .i64 (IntKind.i64.wrap (nx + 1)), v4, v5, v6], hR ki_Export 256 (.slice A0 l.length c0) l] W15 := Ha17
  clear Ha17
  clear hu16
  have hS19 : Blk W15 g 178 #[v0, v1, .slice A0 l.length c0, .int .i64 (IntKind.i64.wrap (nx + 1)), v4, v5, v6] := H18.blk 1 rfl
  refine ⟨fun _ => hS19, ?_⟩
  refine anyS_one (i := 12) (by kernel_rfl) ?_
  have H22 : St w F0 [hR ki_Export 256 (.slice A0 l.length c0) l, hB g_6_11 256 #[.int .i64 (IntKind.i64.wrap (nx + 1)), .int .i64 (n), .int .i64 (1)], hB g 178 #[v0, v1, .slice A0 l.length c0, .int .i64 (IntKind.i64.wrap (nx + 1)), v4, v5, v6]] W15 := H18.pick [2, 0, 1] (by decide) rfl
  clear H18
  refine op_append1f' (xs := l) (p := (⟨IntKind.i64.wrap (nx + 1), n, 1⟩ : GExport)) (n' := (l.length + 1)) (ys := (l ++ [(⟨IntKind.i64.wrap (nx + 1), n, 1⟩ : GExport)])) rfl Tryz.underlying175 ki_Export_info rfl (by decide) (by decide) rfl rfl (ki_Export_mk _ No (⟨IntKind.i64.wrap (nx + 1), n, 1⟩ : GExport)) (by omega) rfl rfl rfl rfl H22 ?_
  intro B_6_12 c_6_12 W20 Ha21
  clear H22
  have H23 : St w F0 [hR ki_Export 256 (.slice B_6_12 (l.length + 1) c_6_12) (l ++ [(⟨IntKind.i64.wrap (nx + 1), n, 1⟩ : GExport)]), hB g 178 #[v0, v1, .slice A0 l.length c0, .int .i64 (IntKind.i64.wrap (nx + 1)), v4, v5, v6]] W20 := Ha21
  clear Ha21
  have hS24 : Blk W20 g 178 #[v0, v1, .slice A0 l.length c0, .int .i64 (IntKind.i64.wrap (nx + 1)), v4, v5, v6] := H23.blk 1 rfl
  refine ⟨fun _ => hS24, ?_⟩
  refine anyS_one (i := 13) (by kernel_rfl) ?_
  refine op_pure rfl (rn_nilCheck rfl) rfl rfl ?_
  have hS25 : Blk W20 g 178 #[v0, v1, .slice A0 l.length c0, .int .i64 (IntKind.i64.wrap (nx + 1)), v4, v5, v6] := H23.blk 1 rfl
  refine ⟨fun _ => hS25, ?_⟩
  refine anyS_take (i := 14) rfl (by kernel_rfl) (by kernel_rfl) (by kernel_rfl) (by kernel_rfl) (by kernel_rfl) (fun _ _ _ h => h) rfl rfl hS25 (fun W' hs' => rn_field fa_178_2 rfl) ?_
  refine anyS_one (i := 15) (by kernel_rfl) ?_
  have H29 : St w F0 [hB g 178 #[v0, v1, .slice A0 l.length c0, .int .i64 (IntKind.i64.wrap (nx + 1)), v4, v5, v6], hR ki_Export 256 (.slice B_6_12 (l.length + 1) c_6_12) (l ++ [(⟨IntKind.i64.wrap (nx + 1), n, 1⟩ : GExport)])] W20 := H23.pick [1, 0] (by decide) rfl
  clear H23
  refine op_store rfl Tryz.sizeOf175 rfl rfl rfl (Nat.le_of_ble_eq_true rfl) (by simp [Value.cells, Value.oneCell']) H29 ?_
  intro W26 hu27 Ha28
  clear H29
  have H30 : St w F0 [hB g 178 #[v0, v1, .slice B_6_12 (l.length + 1) c_6_12, .int .i64 (IntKind.i64.wrap (nx + 1)), v4, v5, v6], hR ki_Export 256 (.slice B_6_12 (l.length + 1) c_6_12) (l ++ [(⟨IntKind.i64.wrap (nx + 1), n, 1⟩ : GExport)])] W26 := Ha28
  clear Ha28
  clear hu27
  refine ⟨fun h => absS (by kernel_rfl) h, ?_⟩
  refine anyS_done (by kernel_rfl) ?_ _
  refine then_n ?_
  refine wp_seq ?_
  refine reg_seq [0, 1, 2, 3, 4] rfl ?_
  refine ops_cons ?_
  refine op_pure rfl (rn_move rfl) rfl rfl ?_
  refine ops_cons ?_
  refine op_pure rfl (rn_nilCheck rfl) rfl rfl ?_
  refine ops_cons ?_
  refine op_pure rfl (rn_field fa_178_3 rfl) rfl rfl ?_
  refine ops_cons ?_
  refine op_pure rfl (rn_loadC (k := 3) (v := .int .i64 (IntKind.i64.wrap (nx + 1))) Tryz.isAgg3 rfl (H30.blk 0 rfl) rfl) rfl rfl ?_
  refine ops_cons ?_
  refine op_pure rfl (rn_assign rfl) rfl rfl ?_
  refine ops_nil ?_
  refine then_n ?_
  refine wp_ret ?_
  obtain ⟨e1, e2, e3⟩ := px_no n l nx hf
  refine post_tmp (.inl rfl) Tryz.results149 rfl ?_
  rw [e1, e2, e3]
  rw [List.length_append]
  exact ⟨B_6_12, c_6_12, rfl, H30.pick [0, 1] (by decide) rfl⟩
theorem put_i (l : List GExport) (n nx : Int) (g c0 : Nat) (A0 : Option Addr) (v0 v1 v4 v5 v6 : Value) (F0 : Nat → Prop) (w : World) (h : Star [hB g 178 #[v0, v1, .slice A0 (l).length c0, .int .i64 (nx), v4, v5, v6], hR ki_Export 256 (.slice A0 (l).length c0) (l)] w F0) (hn : l.length ≤ 4194304) : Calls Tryz.prog 149 #[.pointer (some ⟨g, 0, none⟩), .int .i64 n] w (fun e' w' => ∃ A c, e' = .returned (.int .i64 (pxN n l nx)) ∧ St w F0 [hB g 178 #[v0, v1, .slice A (pxL n l nx).length c, .int .i64 (pxX n l nx), v4, v5, v6], hR ki_Export 256 (.slice A (pxL n l nx).length c) (pxL n l nx)] w') := by
  rcases fidx_case (exP n) l with hf | ⟨k, hk, hf⟩
  · exact put_new l n nx g c0 A0 v0 v1 v4 v5 v6 F0 w h hn hf
  · exact put_old l n nx g c0 A0 v0 v1 v4 v5 v6 F0 w h hn k hk hf
set_option maxHeartbeats 4000000 in
set_option maxRecDepth 100000 in
theorem putExport_s (x : GLink) (n : Int) (cs : List Value) (w : World) (h : ki_Link.K w x cs) (hs : szn_Link x ≤ 4194304) : Calls Tryz.prog 126 #[.agg cs.toArray, .int .i64 n] w (RetAI ki_Link (pxV n x) (pxN n x.Exports x.Next) w) := by
  obtain ⟨Ax2, cx2, Ax4, cx4, Ax6, cx6, rfl, hlx2, hCx2, hlx4, hCx4, hlx6, hCx6⟩ := ki_Link_K h
  have s_Exports : sznS szn_Export x.Exports ≤ 4194304 := by unfold szn_Link at hs; omega
  have n_Exports : x.Exports.length ≤ 4194304 := by unfold sznS at s_Exports; omega
  have s_Questions : sznS szn_Question x.Questions ≤ 4194304 := by unfold szn_Link at hs; omega
  have n_Questions : x.Questions.length ≤ 4194304 := by unfold sznS at s_Questions; omega
  have s_Answers : sznS szn_Question x.Answers ≤ 4194304 := by unfold szn_Link at hs; omega
  have n_Answers : x.Answers.length ≤ 4194304 := by unfold sznS at s_Answers; omega
  refine enter 60 [(0, .agg #[.int .i64 (x.Peer), .bool (x.Up), .slice Ax2 x.Exports.length cx2, .int .i64 (x.Next), .slice Ax4 x.Questions.length cx4, .int .i64 (x.Asked), .slice Ax6 x.Answers.length cx6]), (1, .int .i64 (n))] Tryz.func126 rfl (by kernel_rfl) ?_
  intro xj
  have H1 : St w No [] w := St.enter
  refine wp_seq ?_
  refine reg_seq [0, 1, 2] rfl ?_
  refine ops_cons ?_
  refine op_box rfl rfl rfl rfl H1 ?_
  intro g_0_0 W2 hu3 Ha4
  clear H1
  have H5 : St w No [hB g_0_0 178 #[.int .i64 (x.Peer), .bool (x.Up), .slice Ax2 x.Exports.length cx2, .int .i64 (x.Next), .slice Ax4 x.Questions.length cx4, .int .i64 (x.Asked), .slice Ax6 x.Answers.length cx6]] W2 := Ha4
  clear Ha4
  clear hu3
  refine ops_cons ?_
  refine op_alloc rfl Tryz.zeroValue178 rfl rfl H5 ?_
  intro g_0_1 W6 hu7 Ha8
  clear H5
  have H9 : St w No [hB g_0_1 178 #[.int .i64 (0), .bool (false), .slice none 0 0, .int .i64 (0), .slice none 0 0, .int .i64 (0), .slice none 0 0], hB g_0_0 178 #[.int .i64 (x.Peer), .bool (x.Up), .slice Ax2 x.Exports.length cx2, .int .i64 (x.Next), .slice Ax4 x.Questions.length cx4, .int .i64 (x.Asked), .slice Ax6 x.Answers.length cx6]] W6 := Ha8
  clear Ha8
  clear hu7
  refine ops_cons ?_
  refine op_pure rfl (rn_assign rfl) rfl rfl ?_
  refine ops_nil ?_
  refine then_n ?_
  refine wp_seq ?_
  refine reg_seq [0, 1, 2, 3] rfl ?_
  refine ops_cons ?_
  refine op_pure rfl (rn_loadB Tryz.isAgg178 Tryz.sizeOf178 rfl (H9.blk 1 rfl) rfl) rfl rfl ?_
  refine ops_cons ?_
  refine op_call rfl Tryz.call159 (vs := #[.agg #[.int .i64 (x.Peer), .bool (x.Up), .slice Ax2 x.Exports.length cx2, .int .i64 (x.Next), .slice Ax4 x.Questions.length cx4, .int .i64 (x.Asked), .slice Ax6 x.Answers.length cx6]]) rfl rfl rfl (l10Copy_s x _ _ (ki_Link_Kmk _ x hlx2 (C_upd H9.1 hCx2) hlx4 (C_upd H9.1 hCx4) hlx6 (C_upd H9.1 hCx6)) hs) ?_
  rintro e15 W14 ⟨cs10, rfl, hM11, hu12⟩
  refine ⟨_, rfl, ?_⟩
  obtain ⟨B_1_1_2, c_1_1_2, B_1_1_4, c_1_1_4, B_1_1_6, c_1_1_6, rfl, hst13⟩ := ki_Link_open hM11
  have H16 : St w No [hR ki_Export 256 (.slice B_1_1_2 x.Exports.length c_1_1_2) x.Exports, hR ki_Question 289 (.slice B_1_1_4 x.Questions.length c_1_1_4) x.Questions, hR ki_Question 289 (.slice B_1_1_6 x.Answers.length c_1_1_6) x.Answers, hB g_0_1 178 #[.int .i64 (0), .bool (false), .slice none 0 0, .int .i64 (0), .slice none 0 0, .int .i64 (0), .slice none 0 0], hB g_0_0 178 #[.int .i64 (x.Peer), .bool (x.Up), .slice Ax2 x.Exports.length cx2, .int .i64 (x.Next), .slice Ax4 x.Questions.length cx4, .int .i64 (x.Asked), .slice Ax6 x.Answers.length cx6]] W14 := H9.news hu12 hst13
  clear H9
  refine ops_cons ?_
  refine op_alloc rfl Tryz.zeroValue178 rfl rfl H16 ?_
  intro g_1_2 W17 hu18 Ha19
  clear H16
  have H20 : St w No [hB g_1_2 178 #[.int .i64 (0), .bool (false), .slice none 0 0, .int .i64 (0), .slice none 0 0, .int .i64 (0), .slice none 0 0], hR ki_Export 256 (.slice B_1_1_2 x.Exports.length c_1_1_2) x.Exports, hR ki_Question 289 (.slice B_1_1_4 x.Questions.length c_1_1_4) x.Questions, hR ki_Question 289 (.slice B_1_1_6 x.Answers.length c_1_1_6) x.Answers, hB g_0_1 178 #[.int .i64 (0), .bool (false), .slice none 0 0, .int .i64 (0), .slice none 0 0, .int .i64 (0), .slice none 0 0], hB g_0_0 178 #[.int .i64 (x.Peer), .bool (x.Up), .slice Ax2 x.Exports.length cx2, .int .i64 (x.Next), .slice Ax4 x.Questions.length cx4, .int .i64 (x.Asked), .slice Ax6 x.Answers.length cx6]] W17 := Ha19
  clear Ha19
  clear hu18
  refine ops_cons ?_
  refine op_storeW rfl Tryz.sizeOf178 rfl rfl rfl rfl (by simp [Value.oneCell']) H20 ?_
  intro W21 hu22 Ha23
  clear H20
  have H24 : St w No [hB g_1_2 178 #[.int .i64 (x.Peer), .bool (x.Up), .slice B_1_1_2 x.Exports.length c_1_1_2, .int .i64 (x.Next), .slice B_1_1_4 x.Questions.length c_1_1_4, .int .i64 (x.Asked), .slice B_1_1_6 x.Answers.length c_1_1_6], hR ki_Export 256 (.slice B_1_1_2 x.Exports.length c_1_1_2) x.Exports, hR ki_Question 289 (.slice B_1_1_4 x.Questions.length c_1_1_4) x.Questions, hR ki_Question 289 (.slice B_1_1_6 x.Answers.length c_1_1_6) x.Answers, hB g_0_1 178 #[.int .i64 (0), .bool (false), .slice none 0 0, .int .i64 (0), .slice none 0 0, .int .i64 (0), .slice none 0 0], hB g_0_0 178 #[.int .i64 (x.Peer), .bool (x.Up), .slice Ax2 x.Exports.length cx2, .int .i64 (x.Next), .slice Ax4 x.Questions.length cx4, .int .i64 (x.Asked), .slice Ax6 x.Answers.length cx6]] W21 := Ha23
  clear Ha23
  clear hu22
  refine ops_nil ?_
  refine then_n ?_
  refine wp_seq ?_
  refine wp_seq ?_
  refine reg_seq [0] rfl ?_
  refine ops_cons ?_
  refine op_pure rfl (rn_assign rfl) rfl rfl ?_
  refine ops_nil ?_
  refine then_n ?_
  refine wp_block ?_
  refine wp_loop_ghost (fun r a' W' => ∃ (i1 : Nat) (x' : Nat → Value), a' = actOf 60 x' [(1, .int .i64 (n)), (2, .pointer (some ⟨g_0_0, 0, none⟩)), (4, .pointer (some ⟨g_0_1, 0, none⟩)), (6, .pointer (some ⟨g_1_2, 0, none⟩)), (7, .int .i64 (((i1 : Nat) : Int)))] ∧ (i1 + r = x.Exports.length) ∧ (fidx (exP n) 0 x.Exports = fidx (exP n) ((i1 : Nat) : Int) (x.Exports.drop i1)) ∧ St w No [hB g_1_2 178 #[.int .i64 (x.Peer), .bool (x.Up), .slice B_1_1_2 x.Exports.length c_1_1_2, .int .i64 (x.Next), .slice B_1_1_4 x.Questions.length c_1_1_4, .int .i64 (x.Asked), .slice B_1_1_6 x.Answers.length c_1_1_6], hR ki_Export 256 (.slice B_1_1_2 x.Exports.length c_1_1_2) x.Exports, hR ki_Question 289 (.slice B_1_1_4 x.Questions.length c_1_1_4) x.Questions, hR ki_Question 289 (.slice B_1_1_6 x.Answers.length c_1_1_6) x.Answers, hB g_0_1 178 #[.int .i64 (0), .bool (false), .slice none 0 0, .int .i64 (0), .slice none 0 0, .int .i64 (0), .slice none 0 0], hB g_0_0 178 #[.int .i64 (x.Peer), .bool (x.Up), .slice Ax2 x.Exports.length cx2, .int .i64 (x.Next), .slice Ax4 x.Questions.length cx4, .int .i64 (x.Asked), .slice Ax6 x.Answers.length cx6]] W') x.Exports.length ?_ ?_
  · exact (actOf_drop2 [(1, .int .i64 (n)), (2, .pointer (some ⟨g_0_0, 0, none⟩)), (4, .pointer (some ⟨g_0_1, 0, none⟩)), (6, .pointer (some ⟨g_1_2, 0, none⟩)), (7, .int .i64 (((0 : Nat) : Int)))] rfl).elim fun x' hx => ⟨0, x', hx, (by omega), (by rw [List.drop_zero]; rfl), H24⟩
  · rintro r25 _ W26 ⟨i1, x27, rfl, hi1, hf1, H28⟩
    clear H24
    refine wp_seq ?_
    refine wp_seq ?_
    refine reg_seq [0, 1, 2, 3, 4] rfl ?_
    refine ops_cons ?_
    refine op_pure rfl (rn_move rfl) rfl rfl ?_
    refine ops_cons ?_
    refine op_pure rfl (rn_field fa_178_2 rfl) rfl rfl ?_
    refine ops_cons ?_
    refine op_pure rfl (rn_loadC (k := 2) (v := .slice Ax2 x.Exports.length cx2) Tryz.isAgg175 rfl (H28.blk 5 rfl) rfl) rfl rfl ?_
    refine ops_cons ?_
    refine op_pure rfl (rn_len Tryz.runUnderlying175 rfl) rfl rfl ?_
    refine ops_cons ?_
    refine op_pure rfl (rn_lss rfl rfl) rfl rfl ?_
    refine ops_nil ?_
    refine then_n ?_
    refine cond_dec rfl (fun hc29 => ?_) (fun hc29 => ?_)
    · have hlt1 : i1 < x.Exports.length := by omega
      obtain ⟨ade30, cse30, hAe30, hKe30, hce30⟩ := C_elem hCx2 i1 hlt1
      have hle30 := ki_Export_len hKe30
      have hoe30 := ki_Export_one hKe30
      obtain rfl := ki_Export_K hKe30
      refine wp_skip ?_
      refine then_n ?_
      refine wp_seq ?_
      refine wp_block ?_
      refine wp_seq ?_
      refine reg_seq [0, 1, 2, 3, 4, 5, 6, 7] rfl ?_
      refine ops_cons ?_
      refine op_pure rfl (rn_field fa_178_2 rfl) rfl rfl ?_
      refine ops_cons ?_
      refine op_pure rfl (rn_loadC (k := 2) (v := .slice Ax2 x.Exports.length cx2) Tryz.isAgg175 rfl (H28.blk 5 rfl) rfl) rfl rfl ?_
      refine ops_cons ?_
      refine op_pure rfl (rn_move rfl) rfl rfl ?_
      refine ops_cons ?_
      refine op_pure rfl (rn_indexA (k := i1) Tryz.runUnderlying175 Tryz.sizeOf256 rfl rfl hAe30 hlt1) rfl rfl ?_
      refine ops_cons ?_
      refine op_pure rfl (rn_field fa_256_1 rfl) rfl rfl ?_
      refine ops_cons ?_
      refine op_pure rfl (rn_loadE (v := .int .i64 (x.Exports[i1].Entity)) Tryz.isAgg3 rfl (Cat.upd hce30 H28.1) rfl) rfl rfl ?_
      refine ops_cons ?_
      refine op_pure rfl (rn_move rfl) rfl rfl ?_
      refine ops_cons ?_
      refine op_pure rfl (rn_eql rfl rfl) rfl rfl ?_
      refine ops_nil ?_
      refine then_n ?_
      refine cond_dec rfl (fun hc31 => ?_) (fun hc31 => ?_)
      · refine wp_seq ?_
        have H32 : St w No [hR ki_Export 256 (.slice B_1_1_2 x.Exports.length c_1_1_2) x.Exports, hB g_1_2 178 #[.int .i64 (x.Peer), .bool (x.Up), .slice B_1_1_2 x.Exports.length c_1_1_2, .int .i64 (x.Next), .slice B_1_1_4 x.Questions.length c_1_1_4, .int .i64 (x.Asked), .slice B_1_1_6 x.Answers.length c_1_1_6], hR ki_Question 289 (.slice B_1_1_4 x.Questions.length c_1_1_4) x.Questions, hR ki_Question 289 (.slice B_1_1_6 x.Answers.length c_1_1_6) x.Answers, hB g_0_1 178 #[.int .i64 (0), .bool (false), .slice none 0 0, .int .i64 (0), .slice none 0 0, .int .i64 (0), .slice none 0 0], hB g_0_0 178 #[.int .i64 (x.Peer), .bool (x.Up), .slice Ax2 x.Exports.length cx2, .int .i64 (x.Next), .slice Ax4 x.Questions.length cx4, .int .i64 (x.Asked), .slice Ax6 x.Answers.length cx6]] W26 := H28.pick [1, 0, 2, 3, 4, 5] (by decide) rfl
        clear H28
        obtain ⟨gf33, rfl⟩ := H32.openS (q := i1) hlt1
        obtain ⟨ce34, hn35, H36⟩ := H32.openG (q := i1) hlt1
        clear H32
        have H37 : St w No [hE ki_Export 256 gf33 c_1_1_2 i1 ce34 x.Exports, hM ki_Export (x.Exports[i1]) ce34, hB g_1_2 178 #[.int .i64 (x.Peer), .bool (x.Up), .slice (some ⟨gf33, 0, none⟩) x.Exports.length c_1_1_2, .int .i64 (x.Next), .slice B_1_1_4 x.Questions.length c_1_1_4, .int .i64 (x.Asked), .slice B_1_1_6 x.Answers.length c_1_1_6], hR ki_Question 289 (.slice B_1_1_4 x.Questions.length c_1_1_4) x.Questions, hR ki_Question 289 (.slice B_1_1_6 x.Answers.length c_1_1_6) x.Answers, hB g_0_1 178 #[.int .i64 (0), .bool (false), .slice none 0 0, .int .i64 (0), .slice none 0 0, .int .i64 (0), .slice none 0 0], hB g_0_0 178 #[.int .i64 (x.Peer), .bool (x.Up), .slice Ax2 x.Exports.length cx2, .int .i64 (x.Next), .slice Ax4 x.Questions.length cx4, .int .i64 (x.Asked), .slice Ax6 x.Answers.length cx6]] W26 := H36
        clear H36
        obtain rfl := ki_Export_K (H37.kn 1 rfl)
        have H38 : St w No [hE ki_Export 256 gf33 c_1_1_2 i1 [.int .i64 ((x.Exports[i1]).Pos), .int .i64 ((x.Exports[i1]).Entity), .int .i64 ((x.Exports[i1]).Count)] x.Exports, hB g_1_2 178 #[.int .i64 (x.Peer), .bool (x.Up), .slice (some ⟨gf33, 0, none⟩) x.Exports.length c_1_1_2, .int .i64 (x.Next), .slice B_1_1_4 x.Questions.length c_1_1_4, .int .i64 (x.Asked), .slice B_1_1_6 x.Answers.length c_1_1_6], hR ki_Question 289 (.slice B_1_1_4 x.Questions.length c_1_1_4) x.Questions, hR ki_Question 289 (.slice B_1_1_6 x.Answers.length c_1_1_6) x.Answers, hB g_0_1 178 #[.int .i64 (0), .bool (false), .slice none 0 0, .int .i64 (0), .slice none 0 0, .int .i64 (0), .slice none 0 0], hB g_0_0 178 #[.int .i64 (x.Peer), .bool (x.Up), .slice Ax2 x.Exports.length cx2, .int .i64 (x.Next), .slice Ax4 x.Questions.length cx4, .int .i64 (x.Asked), .slice Ax6 x.Answers.length cx6]] W26 := H37.pick [0, 2, 3, 4, 5, 6] (by decide) rfl
        clear H37
        refine reg_draw (fun W' => Blk W' g_1_2 178 #[.int .i64 (x.Peer), .bool (x.Up), .slice (some ⟨gf33, 0, none⟩) x.Exports.length c_1_1_2, .int .i64 (x.Next), .slice B_1_1_4 x.Questions.length c_1_1_4, .int .i64 (x.Asked), .slice B_1_1_6 x.Answers.length c_1_1_6] ∧ Blk W' g_0_0 178 #[.int .i64 (x.Peer), .bool (x.Up), .slice Ax2 x.Exports.length cx2, .int .i64 (x.Next), .slice Ax4 x.Questions.length cx4, .int .i64 (x.Asked), .slice Ax6 x.Answers.length cx6] ∧ Cat W' (Addr.add ade30 (i1 * 3)) [.int .i64 (x.Exports[i1].Pos), .int .i64 (x.Exports[i1].Entity), .int .i64 (x.Exports[i1].Count)]) 13 (by kernel_rfl) ?_
        have H39 : St w No [hE ki_Export 256 gf33 c_1_1_2 i1 [.int .i64 ((x.Exports[i1]).Pos), .int .i64 ((x.Exports[i1]).Entity), .int .i64 ((x.Exports[i1]).Count)] x.Exports, hB g_1_2 178 #[.int .i64 (x.Peer), .bool (x.Up), .slice (some ⟨gf33, 0, none⟩) x.Exports.length c_1_1_2, .int .i64 (x.Next), .slice B_1_1_4 x.Questions.length c_1_1_4, .int .i64 (x.Asked), .slice B_1_1_6 x.Answers.length c_1_1_6], hR ki_Question 289 (.slice B_1_1_4 x.Questions.length c_1_1_4) x.Questions, hR ki_Question 289 (.slice B_1_1_6 x.Answers.length c_1_1_6) x.Answers, hB g_0_1 178 #[.int .i64 (0), .bool (false), .slice none 0 0, .int .i64 (0), .slice none 0 0, .int .i64 (0), .slice none 0 0], hB g_0_0 178 #[.int .i64 (x.Peer), .bool (x.Up), .slice Ax2 x.Exports.length cx2, .int .i64 (x.Next), .slice Ax4 x.Questions.length cx4, .int .i64 (x.Asked), .slice Ax6 x.Answers.length cx6]] W26.drew := H38.drew
        clear H38
        have hS40 : Blk W26.drew g_1_2 178 #[.int .i64 (x.Peer), .bool (x.Up), .slice (some ⟨gf33, 0, none⟩) x.Exports.length c_1_1_2, .int .i64 (x.Next), .slice B_1_1_4 x.Questions.length c_1_1_4, .int .i64 (x.Asked), .slice B_1_1_6 x.Answers.length c_1_1_6] ∧ Blk W26.drew g_0_0 178 #[.int .i64 (x.Peer), .bool (x.Up), .slice Ax2 x.Exports.length cx2, .int .i64 (x.Next), .slice Ax4 x.Questions.length cx4, .int .i64 (x.Asked), .slice Ax6 x.Answers.length cx6] ∧ Cat W26.drew (Addr.add ade30 (i1 * 3)) [.int .i64 (x.Exports[i1].Pos), .int .i64 (x.Exports[i1].Entity), .int .i64 (x.Exports[i1].Count)] := ⟨H39.blk 1 rfl, H39.blk 5 rfl, (Cat.upd hce30 H39.1)⟩
        refine anyS_take (i := 0) rfl (by kernel_rfl) (by kernel_rfl) (by kernel_rfl) (by kernel_rfl) (by kernel_rfl) (fun _ _ _ h => h) rfl rfl hS40 (fun W' hs' => rn_field fa_178_2 rfl) ?_
        refine anyS_take (i := 1) rfl (by kernel_rfl) (by kernel_rfl) (by kernel_rfl) (by kernel_rfl) (by kernel_rfl) (fun _ _ _ h => h) rfl rfl hS40 (fun W' hs' => rn_loadC (k := 2) (v := .slice (some ⟨gf33, 0, none⟩) x.Exports.length c_1_1_2) Tryz.isAgg175 rfl hs'.1 rfl) ?_
        refine anyS_take (i := 2) rfl (by kernel_rfl) (by kernel_rfl) (by kernel_rfl) (by kernel_rfl) (by kernel_rfl) (fun _ _ _ h => h) rfl rfl hS40 (fun W' hs' => rn_move rfl) ?_
        refine anyS_take (i := 3) rfl (by kernel_rfl) (by kernel_rfl) (by kernel_rfl) (by kernel_rfl) (by kernel_rfl) (fun _ _ _ h => h) rfl rfl hS40 (fun W' hs' => rn_field fa_178_2 rfl) ?_
        refine anyS_take (i := 4) rfl (by kernel_rfl) (by kernel_rfl) (by kernel_rfl) (by kernel_rfl) (by kernel_rfl) (fun _ _ _ h => h) rfl rfl hS40 (fun W' hs' => rn_loadC (k := 2) (v := .slice Ax2 x.Exports.length cx2) Tryz.isAgg175 rfl hs'.2.1 rfl) ?_
        refine anyS_take (i := 5) rfl (by kernel_rfl) (by kernel_rfl) (by kernel_rfl) (by kernel_rfl) (by kernel_rfl) (fun _ _ _ h => h) rfl rfl hS40 (fun W' hs' => rn_move rfl) ?_
        refine anyS_take (i := 6) rfl (by kernel_rfl) (by kernel_rfl) (by kernel_rfl) (by kernel_rfl) (by kernel_rfl) (fun _ _ _ h => h) rfl rfl hS40 (fun W' hs' => rn_indexA (k := i1) Tryz.runUnderlying175 Tryz.sizeOf256 rfl rfl hAe30 hlt1) ?_
        refine anyS_take (i := 7) rfl (by kernel_rfl) (by kernel_rfl) (by kernel_rfl) (by kernel_rfl) (by kernel_rfl) (fun _ _ _ h => h) rfl rfl hS40 (fun W' hs' => rn_field fa_256_2 rfl) ?_
        refine anyS_take (i := 8) rfl (by kernel_rfl) (by kernel_rfl) (by kernel_rfl) (by kernel_rfl) (by kernel_rfl) (fun _ _ _ h => h) rfl rfl hS40 (fun W' hs' => rn_loadE (v := .int .i64 (x.Exports[i1].Count)) Tryz.isAgg3 rfl hs'.2.2 rfl) ?_
        refine anyS_take (i := 9) rfl (by kernel_rfl) (by kernel_rfl) (by kernel_rfl) (by kernel_rfl) (by kernel_rfl) (fun _ _ _ h => h) rfl rfl hS40 (fun W' hs' => rn_addW rfl rfl) ?_
        refine anyS_take (i := 10) rfl (by kernel_rfl) (by kernel_rfl) (by kernel_rfl) (by kernel_rfl) (by kernel_rfl) (fun _ _ _ h => h) rfl rfl hS40 (fun W' hs' => rn_indexA (k := i1) Tryz.runUnderlying175 Tryz.sizeOf256 rfl rfl rfl (Nat.lt_of_lt_of_eq hlt1 hn35.symm)) ?_
        refine anyS_take (i := 11) rfl (by kernel_rfl) (by kernel_rfl) (by kernel_rfl) (by kernel_rfl) (by kernel_rfl) (fun _ _ _ h => h) rfl rfl hS40 (fun W' hs' => rn_field fa_256_2 rfl) ?_
        refine anyS_one (i := 12) (by kernel_rfl) ?_
        refine op_storeE (dk := ki_Export) (k := 2) (ce' := [.int .i64 ((x.Exports[i1]).Pos), .int .i64 ((x.Exports[i1]).Entity), .int .i64 (IntKind.i64.wrap ((x.Exports[i1].Count) + 1))]) rfl Tryz.sizeOf3 rfl rfl rfl rfl (Nat.le_of_ble_eq_true rfl) (by simp [Value.cells, Value.oneCell']) rfl H39 ?_
        intro W41 hu42 Ha43
        clear H39
        have H44 : St w No [hE ki_Export 256 gf33 c_1_1_2 i1 [.int .i64 ((x.Exports[i1]).Pos), .int .i64 ((x.Exports[i1]).Entity), .int .i64 (IntKind.i64.wrap ((x.Exports[i1].Count) + 1))] x.Exports, hB g_1_2 178 #[.int .i64 (x.Peer), .bool (x.Up), .slice (some ⟨gf33, 0, none⟩) x.Exports.length c_1_1_2, .int .i64 (x.Next), .slice B_1_1_4 x.Questions.length c_1_1_4, .int .i64 (x.Asked), .slice B_1_1_6 x.Answers.length c_1_1_6], hR ki_Question 289 (.slice B_1_1_4 x.Questions.length c_1_1_4) x.Questions, hR ki_Question 289 (.slice B_1_1_6 x.Answers.length c_1_1_6) x.Answers, hB g_0_1 178 #[.int .i64 (0), .bool (false), .slice none 0 0, .int .i64 (0), .slice none 0 0, .int .i64 (0), .slice none 0 0], hB g_0_0 178 #[.int .i64 (x.Peer), .bool (x.Up), .slice Ax2 x.Exports.length cx2, .int .i64 (x.Next), .slice Ax4 x.Questions.length cx4, .int .i64 (x.Asked), .slice Ax6 x.Answers.length cx6]] W41 := Ha43
        clear Ha43
        clear hu42
        have hS45 : Blk W41 g_1_2 178 #[.int .i64 (x.Peer), .bool (x.Up), .slice (some ⟨gf33, 0, none⟩) x.Exports.length c_1_1_2, .int .i64 (x.Next), .slice B_1_1_4 x.Questions.length c_1_1_4, .int .i64 (x.Asked), .slice B_1_1_6 x.Answers.length c_1_1_6] ∧ Blk W41 g_0_0 178 #[.int .i64 (x.Peer), .bool (x.Up), .slice Ax2 x.Exports.length cx2, .int .i64 (x.Next), .slice Ax4 x.Questions.length cx4, .int .i64 (x.Asked), .slice Ax6 x.Answers.length cx6] ∧ Cat W41 (Addr.add ade30 (i1 * 3)) [.int .i64 (x.Exports[i1].Pos), .int .i64 (x.Exports[i1].Entity), .int .i64 (x.Exports[i1].Count)] := ⟨H44.blk 1 rfl, H44.blk 5 rfl, (Cat.upd hce30 H44.1)⟩
        refine ⟨fun _ => hS45, ?_⟩
        refine anyS_done (by kernel_rfl) ?_ _
        have H46 : St w No [hM ki_Export (exUp x.Exports[i1]) [.int .i64 ((x.Exports[i1]).Pos), .int .i64 ((x.Exports[i1]).Entity), .int .i64 (IntKind.i64.wrap ((x.Exports[i1].Count) + 1))], hE ki_Export 256 gf33 c_1_1_2 i1 [.int .i64 ((x.Exports[i1]).Pos), .int .i64 ((x.Exports[i1]).Entity), .int .i64 (IntKind.i64.wrap ((x.Exports[i1].Count) + 1))] x.Exports, hB g_1_2 178 #[.int .i64 (x.Peer), .bool (x.Up), .slice (some ⟨gf33, 0, none⟩) x.Exports.length c_1_1_2, .int .i64 (x.Next), .slice B_1_1_4 x.Questions.length c_1_1_4, .int .i64 (x.Asked), .slice B_1_1_6 x.Answers.length c_1_1_6], hR ki_Question 289 (.slice B_1_1_4 x.Questions.length c_1_1_4) x.Questions, hR ki_Question 289 (.slice B_1_1_6 x.Answers.length c_1_1_6) x.Answers, hB g_0_1 178 #[.int .i64 (0), .bool (false), .slice none 0 0, .int .i64 (0), .slice none 0 0, .int .i64 (0), .slice none 0 0], hB g_0_0 178 #[.int .i64 (x.Peer), .bool (x.Up), .slice Ax2 x.Exports.length cx2, .int .i64 (x.Next), .slice Ax4 x.Questions.length cx4, .int .i64 (x.Asked), .slice Ax6 x.Answers.length cx6]] W41 := H44.add0 (q := hM ki_Export (exUp x.Exports[i1]) [.int .i64 ((x.Exports[i1]).Pos), .int .i64 ((x.Exports[i1]).Entity), .int .i64 (IntKind.i64.wrap ((x.Exports[i1].Count) + 1))]) (ki_Export_mk _ No (exUp x.Exports[i1]))
        clear H44
        have H47 : St w No [hE ki_Export 256 gf33 c_1_1_2 i1 [.int .i64 ((x.Exports[i1]).Pos), .int .i64 ((x.Exports[i1]).Entity), .int .i64 (IntKind.i64.wrap ((x.Exports[i1].Count) + 1))] x.Exports, hM ki_Export (exUp x.Exports[i1]) [.int .i64 ((x.Exports[i1]).Pos), .int .i64 ((x.Exports[i1]).Entity), .int .i64 (IntKind.i64.wrap ((x.Exports[i1].Count) + 1))], hB g_1_2 178 #[.int .i64 (x.Peer), .bool (x.Up), .slice (some ⟨gf33, 0, none⟩) x.Exports.length c_1_1_2, .int .i64 (x.Next), .slice B_1_1_4 x.Questions.length c_1_1_4, .int .i64 (x.Asked), .slice B_1_1_6 x.Answers.length c_1_1_6], hR ki_Question 289 (.slice B_1_1_4 x.Questions.length c_1_1_4) x.Questions, hR ki_Question 289 (.slice B_1_1_6 x.Answers.length c_1_1_6) x.Answers, hB g_0_1 178 #[.int .i64 (0), .bool (false), .slice none 0 0, .int .i64 (0), .slice none 0 0, .int .i64 (0), .slice none 0 0], hB g_0_0 178 #[.int .i64 (x.Peer), .bool (x.Up), .slice Ax2 x.Exports.length cx2, .int .i64 (x.Next), .slice Ax4 x.Questions.length cx4, .int .i64 (x.Asked), .slice Ax6 x.Answers.length cx6]] W41 := H46.pick [1, 0, 2, 3, 4, 5, 6] (by decide) rfl
        clear H46
        have H48 : St w No [hR ki_Export 256 (.slice (some ⟨gf33, 0, none⟩) x.Exports.length c_1_1_2) (x.Exports.set i1 (exUp x.Exports[i1])), hB g_1_2 178 #[.int .i64 (x.Peer), .bool (x.Up), .slice (some ⟨gf33, 0, none⟩) x.Exports.length c_1_1_2, .int .i64 (x.Next), .slice B_1_1_4 x.Questions.length c_1_1_4, .int .i64 (x.Asked), .slice B_1_1_6 x.Answers.length c_1_1_6], hR ki_Question 289 (.slice B_1_1_4 x.Questions.length c_1_1_4) x.Questions, hR ki_Question 289 (.slice B_1_1_6 x.Answers.length c_1_1_6) x.Answers, hB g_0_1 178 #[.int .i64 (0), .bool (false), .slice none 0 0, .int .i64 (0), .slice none 0 0, .int .i64 (0), .slice none 0 0], hB g_0_0 178 #[.int .i64 (x.Peer), .bool (x.Up), .slice Ax2 x.Exports.length cx2, .int .i64 (x.Next), .slice Ax4 x.Questions.length cx4, .int .i64 (x.Asked), .slice Ax6 x.Answers.length cx6]] W41 := H47.closeG rfl (by rw [List.length_set])
        clear H47
        refine then_n ?_
        refine wp_seq ?_
        refine reg_draw (fun W' => Blk W' g_1_2 178 #[.int .i64 (x.Peer), .bool (x.Up), .slice (some ⟨gf33, 0, none⟩) x.Exports.length c_1_1_2, .int .i64 (x.Next), .slice B_1_1_4 x.Questions.length c_1_1_4, .int .i64 (x.Asked), .slice B_1_1_6 x.Answers.length c_1_1_6] ∧ Blk W' g_0_0 178 #[.int .i64 (x.Peer), .bool (x.Up), .slice Ax2 x.Exports.length cx2, .int .i64 (x.Next), .slice Ax4 x.Questions.length cx4, .int .i64 (x.Asked), .slice Ax6 x.Answers.length cx6] ∧ Cat W' (Addr.add ade30 (i1 * 3)) [.int .i64 (x.Exports[i1].Pos), .int .i64 (x.Exports[i1].Entity), .int .i64 (x.Exports[i1].Count)]) 9 (by kernel_rfl) ?_
        have H49 : St w No [hR ki_Export 256 (.slice (some ⟨gf33, 0, none⟩) x.Exports.length c_1_1_2) (x.Exports.set i1 (exUp x.Exports[i1])), hB g_1_2 178 #[.int .i64 (x.Peer), .bool (x.Up), .slice (some ⟨gf33, 0, none⟩) x.Exports.length c_1_1_2, .int .i64 (x.Next), .slice B_1_1_4 x.Questions.length c_1_1_4, .int .i64 (x.Asked), .slice B_1_1_6 x.Answers.length c_1_1_6], hR ki_Question 289 (.slice B_1_1_4 x.Questions.length c_1_1_4) x.Questions, hR ki_Question 289 (.slice B_1_1_6 x.Answers.length c_1_1_6) x.Answers, hB g_0_1 178 #[.int .i64 (0), .bool (false), .slice none 0 0, .int .i64 (0), .slice none 0 0, .int .i64 (0), .slice none 0 0], hB g_0_0 178 #[.int .i64 (x.Peer), .bool (x.Up), .slice Ax2 x.Exports.length cx2, .int .i64 (x.Next), .slice Ax4 x.Questions.length cx4, .int .i64 (x.Asked), .slice Ax6 x.Answers.length cx6]] W41.drew := H48.drew
        clear H48
        have hS50 : Blk W41.drew g_1_2 178 #[.int .i64 (x.Peer), .bool (x.Up), .slice (some ⟨gf33, 0, none⟩) x.Exports.length c_1_1_2, .int .i64 (x.Next), .slice B_1_1_4 x.Questions.length c_1_1_4, .int .i64 (x.Asked), .slice B_1_1_6 x.Answers.length c_1_1_6] ∧ Blk W41.drew g_0_0 178 #[.int .i64 (x.Peer), .bool (x.Up), .slice Ax2 x.Exports.length cx2, .int .i64 (x.Next), .slice Ax4 x.Questions.length cx4, .int .i64 (x.Asked), .slice Ax6 x.Answers.length cx6] ∧ Cat W41.drew (Addr.add ade30 (i1 * 3)) [.int .i64 (x.Exports[i1].Pos), .int .i64 (x.Exports[i1].Entity), .int .i64 (x.Exports[i1].Count)] := ⟨H49.blk 1 rfl, H49.blk 5 rfl, (Cat.upd hce30 H49.1)⟩
        refine anyS_take (i := 0) rfl (by kernel_rfl) (by kernel_rfl) (by kernel_rfl) (by kernel_rfl) (by kernel_rfl) (fun _ _ _ h => h) rfl rfl hS50 (fun W' hs' => rn_loadB Tryz.isAgg178 Tryz.sizeOf178 rfl hs'.1 rfl) ?_
        refine anyS_take (i := 1) rfl (by kernel_rfl) (by kernel_rfl) (by kernel_rfl) (by kernel_rfl) (by kernel_rfl) (fun _ _ _ h => h) rfl rfl hS50 (fun W' hs' => rn_field fa_178_2 rfl) ?_
        refine anyS_take (i := 2) rfl (by kernel_rfl) (by kernel_rfl) (by kernel_rfl) (by kernel_rfl) (by kernel_rfl) (fun _ _ _ h => h) rfl rfl hS50 (fun W' hs' => rn_loadC (k := 2) (v := .slice Ax2 x.Exports.length cx2) Tryz.isAgg175 rfl hs'.2.1 rfl) ?_
        refine anyS_take (i := 3) rfl (by kernel_rfl) (by kernel_rfl) (by kernel_rfl) (by kernel_rfl) (by kernel_rfl) (fun _ _ _ h => h) rfl rfl hS50 (fun W' hs' => rn_move rfl) ?_
        refine anyS_take (i := 4) rfl (by kernel_rfl) (by kernel_rfl) (by kernel_rfl) (by kernel_rfl) (by kernel_rfl) (fun _ _ _ h => h) rfl rfl hS50 (fun W' hs' => rn_indexA (k := i1) Tryz.runUnderlying175 Tryz.sizeOf256 rfl rfl hAe30 hlt1) ?_
        refine anyS_take (i := 5) rfl (by kernel_rfl) (by kernel_rfl) (by kernel_rfl) (by kernel_rfl) (by kernel_rfl) (fun _ _ _ h => h) rfl rfl hS50 (fun W' hs' => rn_field fa_256_0 rfl) ?_
        refine anyS_take (i := 6) rfl (by kernel_rfl) (by kernel_rfl) (by kernel_rfl) (by kernel_rfl) (by kernel_rfl) (fun _ _ _ h => h) rfl rfl hS50 (fun W' hs' => rn_loadE (v := .int .i64 (x.Exports[i1].Pos)) Tryz.isAgg3 rfl hs'.2.2 rfl) ?_
        refine anyS_one (i := 7) (by kernel_rfl) ?_
        have H54 : St w No [hB g_0_1 178 #[.int .i64 (0), .bool (false), .slice none 0 0, .int .i64 (0), .slice none 0 0, .int .i64 (0), .slice none 0 0], hR ki_Export 256 (.slice (some ⟨gf33, 0, none⟩) x.Exports.length c_1_1_2) (x.Exports.set i1 (exUp x.Exports[i1])), hB g_1_2 178 #[.int .i64 (x.Peer), .bool (x.Up), .slice (some ⟨gf33, 0, none⟩) x.Exports.length c_1_1_2, .int .i64 (x.Next), .slice B_1_1_4 x.Questions.length c_1_1_4, .int .i64 (x.Asked), .slice B_1_1_6 x.Answers.length c_1_1_6], hR ki_Question 289 (.slice B_1_1_4 x.Questions.length c_1_1_4) x.Questions, hR ki_Question 289 (.slice B_1_1_6 x.Answers.length c_1_1_6) x.Answers, hB g_0_0 178 #[.int .i64 (x.Peer), .bool (x.Up), .slice Ax2 x.Exports.length cx2, .int .i64 (x.Next), .slice Ax4 x.Questions.length cx4, .int .i64 (x.Asked), .slice Ax6 x.Answers.length cx6]] W41.drew := H49.pick [4, 0, 1, 2, 3, 5] (by decide) rfl
        clear H49
        refine op_storeW rfl Tryz.sizeOf178 rfl rfl rfl rfl (by simp [Value.oneCell']) H54 ?_
        intro W51 hu52 Ha53
        clear H54
        have H55 : St w No [hB g_0_1 178 #[.int .i64 (x.Peer), .bool (x.Up), .slice (some ⟨gf33, 0, none⟩) x.Exports.length c_1_1_2, .int .i64 (x.Next), .slice B_1_1_4 x.Questions.length c_1_1_4, .int .i64 (x.Asked), .slice B_1_1_6 x.Answers.length c_1_1_6], hR ki_Export 256 (.slice (some ⟨gf33, 0, none⟩) x.Exports.length c_1_1_2) (x.Exports.set i1 (exUp x.Exports[i1])), hB g_1_2 178 #[.int .i64 (x.Peer), .bool (x.Up), .slice (some ⟨gf33, 0, none⟩) x.Exports.length c_1_1_2, .int .i64 (x.Next), .slice B_1_1_4 x.Questions.length c_1_1_4, .int .i64 (x.Asked), .slice B_1_1_6 x.Answers.length c_1_1_6], hR ki_Question 289 (.slice B_1_1_4 x.Questions.length c_1_1_4) x.Questions, hR ki_Question 289 (.slice B_1_1_6 x.Answers.length c_1_1_6) x.Answers, hB g_0_0 178 #[.int .i64 (x.Peer), .bool (x.Up), .slice Ax2 x.Exports.length cx2, .int .i64 (x.Next), .slice Ax4 x.Questions.length cx4, .int .i64 (x.Asked), .slice Ax6 x.Answers.length cx6]] W51 := Ha53
        clear Ha53
        clear hu52
        have hS56 : Blk W51 g_1_2 178 #[.int .i64 (x.Peer), .bool (x.Up), .slice (some ⟨gf33, 0, none⟩) x.Exports.length c_1_1_2, .int .i64 (x.Next), .slice B_1_1_4 x.Questions.length c_1_1_4, .int .i64 (x.Asked), .slice B_1_1_6 x.Answers.length c_1_1_6] ∧ Blk W51 g_0_0 178 #[.int .i64 (x.Peer), .bool (x.Up), .slice Ax2 x.Exports.length cx2, .int .i64 (x.Next), .slice Ax4 x.Questions.length cx4, .int .i64 (x.Asked), .slice Ax6 x.Answers.length cx6] ∧ Cat W51 (Addr.add ade30 (i1 * 3)) [.int .i64 (x.Exports[i1].Pos), .int .i64 (x.Exports[i1].Entity), .int .i64 (x.Exports[i1].Count)] := ⟨H55.blk 2 rfl, H55.blk 5 rfl, (Cat.upd hce30 H55.1)⟩
        refine ⟨fun _ => hS56, ?_⟩
        refine anyS_take (i := 8) rfl (by kernel_rfl) (by kernel_rfl) (by kernel_rfl) (by kernel_rfl) (by kernel_rfl) (fun _ _ _ h => h) rfl rfl hS56 (fun W' hs' => rn_assign rfl) ?_
        refine anyS_done (by kernel_rfl) ?_ _
        refine then_n ?_
        refine wp_ret ?_
        refine inB_r ?_
        refine then_r ?_
        refine then_r ?_
        refine inB_r ?_
        refine then_r ?_
        obtain ⟨e1, e2, e3⟩ := px_yes n x.Exports x.Next i1 hlt1 (hf1.trans (fidx_yes (exP n) x.Exports i1 hlt1 (decide_eq_true hc31)))
        refine post_cell_tmp (.inl rfl) Tryz.results126 Tryz.isAgg178 Tryz.sizeOf178 rfl rfl (H55.blk 0 rfl) rfl ?_
        refine ⟨[.int .i64 (x.Peer), .bool (x.Up), .slice (some ⟨gf33, 0, none⟩) x.Exports.length c_1_1_2, .int .i64 (x.Next), .slice B_1_1_4 x.Questions.length c_1_1_4, .int .i64 (x.Asked), .slice B_1_1_6 x.Answers.length c_1_1_6], by rw [e3], ?_, H55.1⟩
        unfold pxV
        rw [e1, e2]
        exact link_closeN ((List.length_set ..).symm) (H55.pick [1, 3, 4] (by decide) rfl).star
      · refine wp_skip ?_
        refine inB_n ?_
        refine then_n ?_
        refine reg_seq [0, 1, 2] rfl ?_
        refine ops_cons ?_
        refine op_pure rfl (rn_move rfl) rfl rfl ?_
        refine ops_cons ?_
        refine op_pure rfl (rn_inc (k := i1) rfl rfl (by omega)) rfl rfl ?_
        refine ops_cons ?_
        refine op_pure rfl (rn_assign rfl) rfl rfl ?_
        refine ops_nil ?_
        refine then_n ?_
        exact (actOf_drop2 [(1, .int .i64 (n)), (2, .pointer (some ⟨g_0_0, 0, none⟩)), (4, .pointer (some ⟨g_0_1, 0, none⟩)), (6, .pointer (some ⟨g_1_2, 0, none⟩)), (7, .int .i64 (((i1 + 1 : Nat) : Int)))] rfl).elim fun x' hx => ⟨r25 - 1, (by omega), i1 + 1, x', hx, (by omega), (hf1.trans (fidx_no (exP n) x.Exports i1 hlt1 (decide_eq_false (by assumption)))), H28⟩
    · have hge1 : x.Exports.length ≤ i1 := by omega
      refine wp_exit ?_
      refine then_x ?_
      refine then_x ?_
      refine inB_x ?_
      refine then_n ?_
      refine wp_seq ?_
      refine reg_seq [0, 1, 2, 3, 4] rfl ?_
      refine ops_cons ?_
      refine op_pure rfl (rn_field fa_178_3 rfl) rfl rfl ?_
      refine ops_cons ?_
      refine op_pure rfl (rn_loadC (k := 3) (v := .int .i64 (x.Next)) Tryz.isAgg3 rfl (H28.blk 5 rfl) rfl) rfl rfl ?_
      refine ops_cons ?_
      refine op_pure rfl (rn_addW rfl rfl) rfl rfl ?_
      refine ops_cons ?_
      refine op_pure rfl (rn_field fa_178_3 rfl) rfl rfl ?_
      refine ops_cons ?_
      refine op_store rfl Tryz.sizeOf3 rfl rfl rfl (Nat.le_of_ble_eq_true rfl) (by simp [Value.cells, Value.oneCell']) H28 ?_
      intro W57 hu58 Ha59
      clear H28
      have H60 : St w No [hB g_1_2 178 #[.int .i64 (x.Peer), .bool (x.Up), .slice B_1_1_2 x.Exports.length c_1_1_2, .int .i64 (IntKind.i64.wrap (x.Next + 1)), .slice B_1_1_4 x.Questions.length c_1_1_4, .int .i64 (x.Asked), .slice B_1_1_6 x.Answers.length c_1_1_6], hR ki_Export 256 (.slice B_1_1_2 x.Exports.length c_1_1_2) x.Exports, hR ki_Question 289 (.slice B_1_1_4 x.Questions.length c_1_1_4) x.Questions, hR ki_Question 289 (.slice B_1_1_6 x.Answers.length c_1_1_6) x.Answers, hB g_0_1 178 #[.int .i64 (0), .bool (false), .slice none 0 0, .int .i64 (0), .slice none 0 0, .int .i64 (0), .slice none 0 0], hB g_0_0 178 #[.int .i64 (x.Peer), .bool (x.Up), .slice Ax2 x.Exports.length cx2, .int .i64 (x.Next), .slice Ax4 x.Questions.length cx4, .int .i64 (x.Asked), .slice Ax6 x.Answers.length cx6]] W57 := Ha59
      clear Ha59
      clear hu58
      refine ops_nil ?_
      refine then_n ?_
      refine wp_seq ?_
      refine reg_seq [0, 1, 2, 3, 4, 5, 6, 7, 8, 9] rfl ?_
      refine ops_cons ?_
      refine op_pure rfl (rn_field fa_178_2 rfl) rfl rfl ?_
      refine ops_cons ?_
      refine op_pure rfl (rn_loadC (k := 2) (v := .slice B_1_1_2 x.Exports.length c_1_1_2) Tryz.isAgg175 rfl (H60.blk 0 rfl) rfl) rfl rfl ?_
      refine ops_cons ?_
      refine op_pure rfl (rn_field fa_178_3 rfl) rfl rfl ?_
      refine ops_cons ?_
      refine op_pure rfl (rn_loadC (k := 3) (v := .int .i64 (IntKind.i64.wrap (x.Next + 1))) Tryz.isAgg3 rfl (H60.blk 0 rfl) rfl) rfl rfl ?_
      refine ops_cons ?_
      refine op_pure rfl (rn_move rfl) rfl rfl ?_
      refine ops_cons ?_
      refine op_pure rfl (rn_build (vs := [(0, .int .i64 (IntKind.i64.wrap (x.Next + 1))), (1, .int .i64 (n)), (2, .int .i64 (1))]) (cells := #[.int .i64 (IntKind.i64.wrap (x.Next + 1)), .int .i64 (n), .int .i64 (1)]) rfl (by kernel_rfl)) rfl rfl ?_
      refine ops_cons ?_
      refine op_slice1 rfl Tryz.runUnderlying175 Tryz.sizeOf256 (by decide) Tryz.zeroValue256 rfl rfl rfl rfl H60 ?_
      intro g_9_6 W61 hu62 Ha63
      clear H60
      have H64 : St w No [hB g_9_6 256 #[.int .i64 (IntKind.i64.wrap (x.Next + 1)), .int .i64 (n), .int .i64 (1)], hB g_1_2 178 #[.int .i64 (x.Peer), .bool (x.Up), .slice B_1_1_2 x.Exports.length c_1_1_2, .int .i64 (IntKind.i64.wrap (x.Next + 1)), .slice B_1_1_4 x.Questions.length c_1_1_4, .int .i64 (x.Asked), .slice B_1_1_6 x.Answers.length c_1_1_6], hR ki_Export 256 (.slice B_1_1_2 x.Exports.length c_1_1_2) x.Exports, hR ki_Question 289 (.slice B_1_1_4 x.Questions.length c_1_1_4) x.Questions, hR ki_Question 289 (.slice B_1_1_6 x.Answers.length c_1_1_6) x.Answers, hB g_0_1 178 #[.int .i64 (0), .bool (false), .slice none 0 0, .int .i64 (0), .slice none 0 0, .int .i64 (0), .slice none 0 0], hB g_0_0 178 #[.int .i64 (x.Peer), .bool (x.Up), .slice Ax2 x.Exports.length cx2, .int .i64 (x.Next), .slice Ax4 x.Questions.length cx4, .int .i64 (x.Asked), .slice Ax6 x.Answers.length cx6]] W61 := Ha63
      clear Ha63
      clear hu62
      refine ops_cons ?_
      have H67 : St w No [hR ki_Export 256 (.slice B_1_1_2 x.Exports.length c_1_1_2) x.Exports, hB g_9_6 256 #[.int .i64 (IntKind.i64.wrap (x.Next + 1)), .int .i64 (n), .int .i64 (1)], hB g_1_2 178 #[.int .i64 (x.Peer), .bool (x.Up), .slice B_1_1_2 x.Exports.length c_1_1_2, .int .i64 (IntKind.i64.wrap (x.Next + 1)), .slice B_1_1_4 x.Questions.length c_1_1_4, .int .i64 (x.Asked), .slice B_1_1_6 x.Answers.length c_1_1_6], hR ki_Question 289 (.slice B_1_1_4 x.Questions.length c_1_1_4) x.Questions, hR ki_Question 289 (.slice B_1_1_6 x.Answers.length c_1_1_6) x.Answers, hB g_0_1 178 #[.int .i64 (0), .bool (false), .slice none 0 0, .int .i64 (0), .slice none 0 0, .int .i64 (0), .slice none 0 0], hB g_0_0 178 #[.int .i64 (x.Peer), .bool (x.Up), .slice Ax2 x.Exports.length cx2, .int .i64 (x.Next), .slice Ax4 x.Questions.length cx4, .int .i64 (x.Asked), .slice Ax6 x.Answers.length cx6]] W61 := H64.pick [2, 0, 1, 3, 4, 5, 6] (by decide) rfl
      clear H64
      refine op_append1f' (xs := x.Exports) (p := (⟨IntKind.i64.wrap (x.Next + 1), n, 1⟩ : GExport)) (n' := (x.Exports.length + 1)) (ys := (x.Exports ++ [(⟨IntKind.i64.wrap (x.Next + 1), n, 1⟩ : GExport)])) rfl Tryz.underlying175 ki_Export_info rfl (by decide) (by decide) rfl rfl (ki_Export_mk _ No (⟨IntKind.i64.wrap (x.Next + 1), n, 1⟩ : GExport)) (by omega) rfl rfl rfl rfl H67 ?_
      intro B_9_7 c_9_7 W65 Ha66
      clear H67
      have H68 : St w No [hR ki_Export 256 (.slice B_9_7 (x.Exports.length + 1) c_9_7) (x.Exports ++ [(⟨IntKind.i64.wrap (x.Next + 1), n, 1⟩ : GExport)]), hB g_1_2 178 #[.int .i64 (x.Peer), .bool (x.Up), .slice B_1_1_2 x.Exports.length c_1_1_2, .int .i64 (IntKind.i64.wrap (x.Next + 1)), .slice B_1_1_4 x.Questions.length c_1_1_4, .int .i64 (x.Asked), .slice B_1_1_6 x.Answers.length c_1_1_6], hR ki_Question 289 (.slice B_1_1_4 x.Questions.length c_1_1_4) x.Questions, hR ki_Question 289 (.slice B_1_1_6 x.Answers.length c_1_1_6) x.Answers, hB g_0_1 178 #[.int .i64 (0), .bool (false), .slice none 0 0, .int .i64 (0), .slice none 0 0, .int .i64 (0), .slice none 0 0], hB g_0_0 178 #[.int .i64 (x.Peer), .bool (x.Up), .slice Ax2 x.Exports.length cx2, .int .i64 (x.Next), .slice Ax4 x.Questions.length cx4, .int .i64 (x.Asked), .slice Ax6 x.Answers.length cx6]] W65 := Ha66
      clear Ha66
      refine ops_cons ?_
      refine op_pure rfl (rn_field fa_178_2 rfl) rfl rfl ?_
      refine ops_cons ?_
      have H72 : St w No [hB g_1_2 178 #[.int .i64 (x.Peer), .bool (x.Up), .slice B_1_1_2 x.Exports.length c_1_1_2, .int .i64 (IntKind.i64.wrap (x.Next + 1)), .slice B_1_1_4 x.Questions.length c_1_1_4, .int .i64 (x.Asked), .slice B_1_1_6 x.Answers.length c_1_1_6], hR ki_Export 256 (.slice B_9_7 (x.Exports.length + 1) c_9_7) (x.Exports ++ [(⟨IntKind.i64.wrap (x.Next + 1), n, 1⟩ : GExport)]), hR ki_Question 289 (.slice B_1_1_4 x.Questions.length c_1_1_4) x.Questions, hR ki_Question 289 (.slice B_1_1_6 x.Answers.length c_1_1_6) x.Answers, hB g_0_1 178 #[.int .i64 (0), .bool (false), .slice none 0 0, .int .i64 (0), .slice none 0 0, .int .i64 (0), .slice none 0 0], hB g_0_0 178 #[.int .i64 (x.Peer), .bool (x.Up), .slice Ax2 x.Exports.length cx2, .int .i64 (x.Next), .slice Ax4 x.Questions.length cx4, .int .i64 (x.Asked), .slice Ax6 x.Answers.length cx6]] W65 := H68.pick [1, 0, 2, 3, 4, 5] (by decide) rfl
      clear H68
      refine op_store rfl Tryz.sizeOf175 rfl rfl rfl (Nat.le_of_ble_eq_true rfl) (by simp [Value.cells, Value.oneCell']) H72 ?_
      intro W69 hu70 Ha71
      clear H72
      have H73 : St w No [hB g_1_2 178 #[.int .i64 (x.Peer), .bool (x.Up), .slice B_9_7 (x.Exports.length + 1) c_9_7, .int .i64 (IntKind.i64.wrap (x.Next + 1)), .slice B_1_1_4 x.Questions.length c_1_1_4, .int .i64 (x.Asked), .slice B_1_1_6 x.Answers.length c_1_1_6], hR ki_Export 256 (.slice B_9_7 (x.Exports.length + 1) c_9_7) (x.Exports ++ [(⟨IntKind.i64.wrap (x.Next + 1), n, 1⟩ : GExport)]), hR ki_Question 289 (.slice B_1_1_4 x.Questions.length c_1_1_4) x.Questions, hR ki_Question 289 (.slice B_1_1_6 x.Answers.length c_1_1_6) x.Answers, hB g_0_1 178 #[.int .i64 (0), .bool (false), .slice none 0 0, .int .i64 (0), .slice none 0 0, .int .i64 (0), .slice none 0 0], hB g_0_0 178 #[.int .i64 (x.Peer), .bool (x.Up), .slice Ax2 x.Exports.length cx2, .int .i64 (x.Next), .slice Ax4 x.Questions.length cx4, .int .i64 (x.Asked), .slice Ax6 x.Answers.length cx6]] W69 := Ha71
      clear Ha71
      clear hu70
      refine ops_nil ?_
      refine then_n ?_
      refine wp_seq ?_
      refine reg_draw (fun W' => Blk W' g_1_2 178 #[.int .i64 (x.Peer), .bool (x.Up), .slice B_9_7 (x.Exports.length + 1) c_9_7, .int .i64 (IntKind.i64.wrap (x.Next + 1)), .slice B_1_1_4 x.Questions.length c_1_1_4, .int .i64 (x.Asked), .slice B_1_1_6 x.Answers.length c_1_1_6]) 5 (by kernel_rfl) ?_
      have H74 : St w No [hB g_1_2 178 #[.int .i64 (x.Peer), .bool (x.Up), .slice B_9_7 (x.Exports.length + 1) c_9_7, .int .i64 (IntKind.i64.wrap (x.Next + 1)), .slice B_1_1_4 x.Questions.length c_1_1_4, .int .i64 (x.Asked), .slice B_1_1_6 x.Answers.length c_1_1_6], hR ki_Export 256 (.slice B_9_7 (x.Exports.length + 1) c_9_7) (x.Exports ++ [(⟨IntKind.i64.wrap (x.Next + 1), n, 1⟩ : GExport)]), hR ki_Question 289 (.slice B_1_1_4 x.Questions.length c_1_1_4) x.Questions, hR ki_Question 289 (.slice B_1_1_6 x.Answers.length c_1_1_6) x.Answers, hB g_0_1 178 #[.int .i64 (0), .bool (false), .slice none 0 0, .int .i64 (0), .slice none 0 0, .int .i64 (0), .slice none 0 0], hB g_0_0 178 #[.int .i64 (x.Peer), .bool (x.Up), .slice Ax2 x.Exports.length cx2, .int .i64 (x.Next), .slice Ax4 x.Questions.length cx4, .int .i64 (x.Asked), .slice Ax6 x.Answers.length cx6]] W69.drew := H73.drew
      clear H73
      have hS75 : Blk W69.drew g_1_2 178 #[.int .i64 (x.Peer), .bool (x.Up), .slice B_9_7 (x.Exports.length + 1) c_9_7, .int .i64 (IntKind.i64.wrap (x.Next + 1)), .slice B_1_1_4 x.Questions.length c_1_1_4, .int .i64 (x.Asked), .slice B_1_1_6 x.Answers.length c_1_1_6] := H74.blk 0 rfl
      refine anyS_take (i := 0) rfl (by kernel_rfl) (by kernel_rfl) (by kernel_rfl) (by kernel_rfl) (by kernel_rfl) (fun _ _ _ h => h) rfl rfl hS75 (fun W' hs' => rn_loadB Tryz.isAgg178 Tryz.sizeOf178 rfl hs' rfl) ?_
      refine anyS_take (i := 1) rfl (by kernel_rfl) (by kernel_rfl) (by kernel_rfl) (by kernel_rfl) (by kernel_rfl) (fun _ _ _ h => h) rfl rfl hS75 (fun W' hs' => rn_field fa_178_3 rfl) ?_
      refine anyS_take (i := 2) rfl (by kernel_rfl) (by kernel_rfl) (by kernel_rfl) (by kernel_rfl) (by kernel_rfl) (fun _ _ _ h => h) rfl rfl hS75 (fun W' hs' => rn_loadC (k := 3) (v := .int .i64 (IntKind.i64.wrap (x.Next + 1))) Tryz.isAgg3 rfl hs' rfl) ?_
      refine anyS_one (i := 3) (by kernel_rfl) ?_
      have H79 : St w No [hB g_0_1 178 #[.int .i64 (0), .bool (false), .slice none 0 0, .int .i64 (0), .slice none 0 0, .int .i64 (0), .slice none 0 0], hB g_1_2 178 #[.int .i64 (x.Peer), .bool (x.Up), .slice B_9_7 (x.Exports.length + 1) c_9_7, .int .i64 (IntKind.i64.wrap (x.Next + 1)), .slice B_1_1_4 x.Questions.length c_1_1_4, .int .i64 (x.Asked), .slice B_1_1_6 x.Answers.length c_1_1_6], hR ki_Export 256 (.slice B_9_7 (x.Exports.length + 1) c_9_7) (x.Exports ++ [(⟨IntKind.i64.wrap (x.Next + 1), n, 1⟩ : GExport)]), hR ki_Question 289 (.slice B_1_1_4 x.Questions.length c_1_1_4) x.Questions, hR ki_Question 289 (.slice B_1_1_6 x.Answers.length c_1_1_6) x.Answers, hB g_0_0 178 #[.int .i64 (x.Peer), .bool (x.Up), .slice Ax2 x.Exports.length cx2, .int .i64 (x.Next), .slice Ax4 x.Questions.length cx4, .int .i64 (x.Asked), .slice Ax6 x.Answers.length cx6]] W69.drew := H74.pick [4, 0, 1, 2, 3, 5] (by decide) rfl
      clear H74
      refine op_storeW rfl Tryz.sizeOf178 rfl rfl rfl rfl (by simp [Value.oneCell']) H79 ?_
      intro W76 hu77 Ha78
      clear H79
      have H80 : St w No [hB g_0_1 178 #[.int .i64 (x.Peer), .bool (x.Up), .slice B_9_7 (x.Exports.length + 1) c_9_7, .int .i64 (IntKind.i64.wrap (x.Next + 1)), .slice B_1_1_4 x.Questions.length c_1_1_4, .int .i64 (x.Asked), .slice B_1_1_6 x.Answers.length c_1_1_6], hB g_1_2 178 #[.int .i64 (x.Peer), .bool (x.Up), .slice B_9_7 (x.Exports.length + 1) c_9_7, .int .i64 (IntKind.i64.wrap (x.Next + 1)), .slice B_1_1_4 x.Questions.length c_1_1_4, .int .i64 (x.Asked), .slice B_1_1_6 x.Answers.length c_1_1_6], hR ki_Export 256 (.slice B_9_7 (x.Exports.length + 1) c_9_7) (x.Exports ++ [(⟨IntKind.i64.wrap (x.Next + 1), n, 1⟩ : GExport)]), hR ki_Question 289 (.slice B_1_1_4 x.Questions.length c_1_1_4) x.Questions, hR ki_Question 289 (.slice B_1_1_6 x.Answers.length c_1_1_6) x.Answers, hB g_0_0 178 #[.int .i64 (x.Peer), .bool (x.Up), .slice Ax2 x.Exports.length cx2, .int .i64 (x.Next), .slice Ax4 x.Questions.length cx4, .int .i64 (x.Asked), .slice Ax6 x.Answers.length cx6]] W76 := Ha78
      clear Ha78
      clear hu77
      have hS81 : Blk W76 g_1_2 178 #[.int .i64 (x.Peer), .bool (x.Up), .slice B_9_7 (x.Exports.length + 1) c_9_7, .int .i64 (IntKind.i64.wrap (x.Next + 1)), .slice B_1_1_4 x.Questions.length c_1_1_4, .int .i64 (x.Asked), .slice B_1_1_6 x.Answers.length c_1_1_6] := H80.blk 1 rfl
      refine ⟨fun _ => hS81, ?_⟩
      refine anyS_take (i := 4) rfl (by kernel_rfl) (by kernel_rfl) (by kernel_rfl) (by kernel_rfl) (by kernel_rfl) (fun _ _ _ h => h) rfl rfl hS81 (fun W' hs' => rn_assign rfl) ?_
      refine anyS_done (by kernel_rfl) ?_ _
      refine then_n ?_
      refine wp_ret ?_
      obtain ⟨e1, e2, e3⟩ := px_no n x.Exports x.Next (hf1.trans (fidx_end (exP n) x.Exports _ hge1 _))
      refine post_cell_tmp (.inl rfl) Tryz.results126 Tryz.isAgg178 Tryz.sizeOf178 rfl rfl (H80.blk 0 rfl) rfl ?_
      refine ⟨[.int .i64 (x.Peer), .bool (x.Up), .slice B_9_7 (x.Exports.length + 1) c_9_7, .int .i64 (IntKind.i64.wrap (x.Next + 1)), .slice B_1_1_4 x.Questions.length c_1_1_4, .int .i64 (x.Asked), .slice B_1_1_6 x.Answers.length c_1_1_6], by rw [e3], ?_, H80.1⟩
      unfold pxV
      rw [e1, e2]
      exact link_closeN ((by simp)) (H80.pick [2, 3, 4] (by decide) rfl).star
end Go.Proofs.YtfnedoiplblldaaGreatFam

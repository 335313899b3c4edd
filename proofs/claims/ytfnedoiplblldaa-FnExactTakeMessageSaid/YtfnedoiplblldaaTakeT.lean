/- TakeMessage: what the program and the reference compute. No conditions. -/
import Derived.Test.YtfnedoiplblldaaProg
import Derived.Test.YtfnedoiplblldaaTy
import Derived.Test.YtfnedoiplblldaaOpn
import Derived.Test.YtfnedoiplblldaaSym3
import Derived.Test.YtfnedoiplblldaaChFind
import Derived.Test.YtfnedoiplblldaaTail
import Derived.Test.YtfnedoiplblldaaCp5
import Derived.Test.YtfnedoiplblldaaSep4
namespace Go.Proofs.YtfnedoiplblldaaFam
open Go.ChangeShapes Go.WideShapes Go.RowKit Go.Proofs.YtfnedoiplblldaaSep Go.Proofs.YtfnedoiplblldaaT Go.Proofs.YtfnedoiplblldaaK
set_option linter.unusedVariables false
set_option linter.unusedSimpArgs false
attribute [local irreducible] wpOps wpOp
theorem fidx_case {α : Type} (p : α → Bool) (l : List α) : fidx p 0 l = -1 ∨ ∃ k : Nat, k < l.length ∧ fidx p 0 l = (k : Int) := by
  rcases fidx_range p l 0 with h | h
  · exact .inl h
  · exact .inr ⟨(fidx p 0 l).toNat, by omega, by omega⟩
def tkR (a b : Int) (l : List GChannel) : List GChannel × GMessage × Bool :=
  match l[(fidx (chP a b) 0 l).toNat]? with
  | none => (l, zMessage, false)
  | some x => if fidx (chP a b) 0 l < 0 then (l, zMessage, false) else (match x.List with | [] => (l, zMessage, false) | m :: ms => (l.set (fidx (chP a b) 0 l).toNat ⟨x.From, x.To, ms⟩, m, true))
def tkL (a b : Int) (l : List GChannel) : List GChannel := (tkR a b l).1
def tkM (a b : Int) (l : List GChannel) : GMessage := (tkR a b l).2.1
def tkB (a b : Int) (l : List GChannel) : Bool := (tkR a b l).2.2
theorem tk_no (a b : Int) (l : List GChannel) (h : fidx (chP a b) 0 l = -1) : tkL a b l = l ∧ tkM a b l = zMessage ∧ tkB a b l = false := by
  have e : tkR a b l = (l, zMessage, false) := by
    unfold tkR
    rw [h]
    cases l[(-1 : Int).toNat]? <;> rfl
  unfold tkL tkM tkB
  rw [e]
  exact ⟨rfl, rfl, rfl⟩
theorem tk_at (a b : Int) (l : List GChannel) (k : Nat) (hk : k < l.length) (h : fidx (chP a b) 0 l = (k : Int)) : tkR a b l = (match l[k].List with | [] => (l, zMessage, false) | m :: ms => (l.set k ⟨l[k].From, l[k].To, ms⟩, m, true)) := by
  unfold tkR
  rw [h, Int.toNat_natCast, List.getElem?_eq_getElem hk]
  show (if (k : Int) < 0 then _ else _) = _
  rw [if_neg (by omega)]
theorem tk_nil (a b : Int) (l : List GChannel) (k : Nat) (hk : k < l.length) (h : fidx (chP a b) 0 l = (k : Int)) (f t : Int) (hx : l[k] = ⟨f, t, []⟩) : tkL a b l = l ∧ tkM a b l = zMessage ∧ tkB a b l = false := by
  have e := tk_at a b l k hk h
  rw [hx] at e
  unfold tkL tkM tkB
  rw [e]
  exact ⟨rfl, rfl, rfl⟩
theorem tk_yes (a b : Int) (l : List GChannel) (k : Nat) (hk : k < l.length) (h : fidx (chP a b) 0 l = (k : Int)) (f t : Int) (m : GMessage) (ms : List GMessage) (hx : l[k] = ⟨f, t, m :: ms⟩) : tkL a b l = l.set k ⟨f, t, ms⟩ ∧ tkM a b l = m ∧ tkB a b l = true := by
  have e := tk_at a b l k hk h
  rw [hx] at e
  unfold tkL tkM tkB
  rw [e]
  exact ⟨rfl, rfl, rfl⟩
theorem C_tail {α : Type} {d : Kn α} {w : World} {A : Option Addr} {y : α} {xs : List α} {c : Nat} (h : C d w A (y :: xs)) (hc : (y :: xs).length ≤ c) : C d w (if c = 1 then A else A.map (·.add (1 * d.sz))) xs := by
  refine ⟨by have := h.1; simp at this; omega, fun hp => ?_⟩
  obtain ⟨ad, rfl, k⟩ := h.2 (by simp)
  rw [if_neg (by simp at hc; omega)]
  refine ⟨_, rfl, fun j p hj => ?_⟩
  obtain ⟨cs, k1, k2⟩ := k (j + 1) p (by simpa using hj)
  refine ⟨cs, k1, fun i u hu => ?_⟩
  have := k2 i u hu
  rw [add_add', show 1 * d.sz + (j * d.sz + i) = (j + 1) * d.sz + i by rw [Nat.add_mul, Nat.one_mul]; omega]
  exact this
theorem St.tailI {α : Type} {d : Kn α} {e g cap : Nat} {ce : List Value} {y : α} {xs : List α} {l : List HP} {W w : World} {F0 : Nat → Prop} (H : St w F0 (hE d e g cap 0 ce (y :: xs) :: l) W) : St w F0 (hT d (if cap = 1 then some ⟨g, 0, none⟩ else (some (⟨g, 0, none⟩ : Addr)).map (·.add (1 * d.sz))) xs :: l) W := by
  refine H.tail (fun hp => ?_)
  obtain ⟨F, cur, Fs, h1, h2, ⟨h3, _⟩, _⟩ := H.get 0 rfl
  simp only [List.length_cons] at h3
  rw [if_neg (by omega)]
  rfl
def RetTk {α β : Type} (d : Kn α) (e0 : Nat) (L : List α) (dm : Kn β) (m : β) (b : Bool) (w : World) (e : Ending) (w' : World) : Prop := ∃ B c cs, e = .returned (.tuple #[.slice B L.length c, .agg cs.toArray, .bool b]) ∧ Star [hR d e0 (.slice B L.length c) L, hM dm m cs] w' (New w) ∧ Upd No w w'
theorem channel_q (l : List GChannel) (a b q : Int) (hq : fidx (chP a b) 0 l = q) (A : Option Addr) (c : Nat) (w : World) (h : C ki_Channel w A l) : Calls Try.prog 141 #[.slice A l.length c, .int .i64 a, .int .i64 b] w (RetInt q w) := hq ▸ channel_i l a b A c w h
theorem l20Find_q (l : List GChannel) (a b q : Int) (hq : fidx (chP a b) 0 l = q) (A : Option Addr) (c : Nat) (w : World) (h : C ki_Channel w A l) (hn : l.length ≤ 1048576) : Calls Try.prog 87 #[.slice A l.length c, .int .i64 a, .int .i64 b] w (RetInt q w) := hq ▸ l20Find_s l a b A c w h hn
theorem sumS_setB {α : Type} (s : α → Nat) (y : α) : ∀ (l : List α) (k : Nat), sumS s (l.set k y) ≤ sumS s l + s y
  | [], k => by simp [sumS]
  | x :: l, 0 => by
    simp only [List.set_cons_zero, sumS]
    omega
  | x :: l, k + 1 => by
    have := sumS_setB s y l k
    simp only [List.set_cons_succ, sumS]
    omega
theorem tkL_len (a b : Int) (l : List GChannel) : (tkL a b l).length = l.length := by
  rcases fidx_case (chP a b) l with hf | ⟨k, hk, hf⟩
  · rw [(tk_no a b l hf).1]
  · unfold tkL
    rw [tk_at a b l k hk hf]
    split
    · rfl
    · exact List.length_set ..
theorem tk_bd (a b : Int) (l : List GChannel) (h : sznS szn_Channel l ≤ 1048576) : sznS szn_Channel (tkL a b l) ≤ 4194304 ∧ szn_Message (tkM a b l) ≤ 4194304 := by
  rcases fidx_case (chP a b) l with hf | ⟨k, hk, hf⟩
  · obtain ⟨e1, e2, _⟩ := tk_no a b l hf
    rw [e1, e2]
    exact ⟨by omega, Nat.le_of_ble_eq_true rfl⟩
  · have h1 := sumS_at szn_Channel l k hk
    unfold tkL tkM
    rw [tk_at a b l k hk hf]
    split
    · show sznS szn_Channel l ≤ _ ∧ szn_Message zMessage ≤ _
      exact ⟨by omega, Nat.le_of_ble_eq_true rfl⟩
    · rename_i m ms he
      show sznS szn_Channel (l.set k ⟨l[k].From, l[k].To, ms⟩) ≤ _ ∧ szn_Message m ≤ _
      have h2 : szn_Channel l[k] = sznS szn_Message (m :: ms) := by rw [← he]; rfl
      have h3 := sumS_setB szn_Channel ⟨l[k].From, l[k].To, ms⟩ l k
      have h4 : szn_Channel ⟨l[k].From, l[k].To, ms⟩ = sznS szn_Message ms := rfl
      unfold sznS at h h2 h4 ⊢
      simp only [sumS, List.length_cons] at h2
      refine ⟨?_, by omega⟩
      rw [List.length_set]
      omega
set_option maxHeartbeats 1000000 in
set_option maxRecDepth 100000 in
theorem clone_Messages (l : List GMessage) (A : Option Addr) (c : Nat) (Gs : Nat → Nat → Prop) (w : World) (h : CM ki_Message w A l Gs) (hlt : ∀ j b, Gs j b → b < w.heap.size) (hd : ∀ i j b, Gs i b → Gs j b → i = j) (hn : l.length ≤ 1048576) :
    Calls Try.prog 142 #[.slice A l.length c] w (fun e w' => ∃ v, e = .returned v ∧ R ki_Message 70 w' (fun b => (∃ j, Gs j b) ∨ w.heap.size ≤ b) v l ∧ Upd No w w') := by
  have HC := Sd.mk h
  have HD := Sd.mk hd
  have HL := Sd.mk hlt
  have eqn := fun (w : World) a n c n' c' => Lib.run_eql_slice_nil (P := Try.prog) w 140 70 a n c n' c' Try.underlying140
  clear h hd hlt
  go_enter Try.func142, Try.ntmps142
  rcases A with _ | ad
  · have h0 : l = [] := by
      cases l with
      | nil => rfl
      | cons x l => obtain ⟨ad, q, _⟩ := HC.out.2 (by simp); cases q
    subst h0
    go_wp2
    go_ret
    exact ⟨_, rfl, R_nil, Upd.refl _ _⟩
  · go_wp2_with (first | (at_builtin; refine R_appAny (d := ki_Message) (e := 70) (ys := l) (xs := []) (F := New w) rfl _ _ 140 _ _ rfl Try.underlying140 ki_Message_info rfl (by decide) (by decide) (some ad) c Gs rfl rfl (R_empty w) (CM_upd (Upd.alloc (Upd.refl _ _) _) HC.out) (fun j b q q' => absurd (HL.out j b q) (by simp only [New] at q'; omega)) HD.out (by simp; omega) ?_) | fail)
    intro v1 w1 hR hU
    have hR' := Sd.mk hR
    have HU := Sd.mk (((Upd.refl No w).alloc (.cells #[] 70)).trans hU (fun _ _ q => q) (fun b hb q => absurd hb (by simp only [New] at q; omega)))
    clear hR hU
    go_wp2
    go_ret
    exact ⟨_, rfl, R_mono (fun b q => by rcases q with q | ⟨j, _, q⟩ | q; (right; simpa [New] using q); exact .inl ⟨j, q⟩; (right; first | exact q | omega | (simp at q; omega))) hR'.out, HU.out⟩
theorem clone_T (xs : List GMessage) (A : Option Addr) (c : Nat) (F0 : Nat → Prop) (w : World) (h : Star [hT ki_Message A xs] w F0) (hn : xs.length ≤ 1048576) : Calls Try.prog 142 #[.slice A xs.length c] w (fun e' w' => ∃ B c', e' = .returned (.slice B xs.length c') ∧ St w F0 [hR ki_Message 70 (.slice B xs.length c') xs] w') := by
  obtain ⟨F1, F2, h1, _, i1, _, _⟩ := h.uncons
  obtain ⟨Fs, q1, q2, q3, q4⟩ := (hT ki_Message A xs).lt h1
  refine (clone_Messages xs A c Fs w q4 (fun j b hb => (q2 j b hb).2) q3 hn).mono ?_
  rintro e w' ⟨v, rfl, hR', hu⟩
  obtain ⟨B, c', rfl⟩ := R_slice hR'
  exact ⟨B, c', rfl, hu.mono (fun _ _ q => q.elim), Star.one (R_mono (fun b q => q.elim (fun ⟨j, hj⟩ => .inl (i1 b (q2 j b hj).1)) .inr) hR')⟩
set_option maxHeartbeats 4000000 in
set_option maxRecDepth 100000 in
theorem take_no (l : List GChannel) (a b : Int) (A0 : Option Addr) (c0 : Nat) (F0 : Nat → Prop) (w : World) (h : Star [hR ki_Channel 142 (.slice A0 l.length c0) l] w F0) (hf : fidx (chP a b) 0 l = -1) : Calls Try.prog 92 #[.slice A0 l.length c0, .int .i64 a, .int .i64 b] w (fun e' w' => ∃ cs, e' = .returned (.tuple #[.agg (List.toArray cs), .bool (tkB a b l)]) ∧ St w F0 [hR ki_Channel 142 (.slice A0 (tkL a b l).length c0) (tkL a b l), hM ki_Message (tkM a b l) cs] w') := by
  refine enter 45 [(0, .slice A0 l.length c0), (1, .int .i64 (a)), (2, .int .i64 (b))] Try.func92 rfl (by kernel_rfl) ?_
  intro xj
  have H1 : St w F0 [hR ki_Channel 142 (.slice A0 l.length c0) l] w := St.enterF h
  refine wp_seq ?_
  refine reg_seq [0, 1] rfl ?_
  refine ops_cons ?_
  refine op_alloc rfl Try.zeroValue70 rfl rfl H1 ?_
  intro g_0_0 W2 hu3 Ha4; clear H1; clear hu3
  refine ops_cons ?_
  refine op_pure rfl (rn_assign rfl) rfl rfl ?_
  refine ops_nil ?_
  refine then_n ?_
  refine wp_seq ?_
  refine reg_seq [0, 1, 2, 3, 4] rfl ?_
  refine ops_cons ?_
  refine op_pure rfl (rn_move rfl) rfl rfl ?_
  refine ops_cons ?_
  refine op_pure rfl (rn_move rfl) rfl rfl ?_
  refine ops_cons ?_
  refine op_pure rfl (rn_move rfl) rfl rfl ?_
  refine ops_cons ?_
  refine op_call rfl Try.call141 (vs := #[.slice A0 l.length c0, .int .i64 (a), .int .i64 (b)]) rfl rfl rfl (channel_q l a b (-1) hf _ _ _ (Ha4.rowC 1 rfl)) ?_
  rintro e8 W7 ⟨rfl, hu6⟩; refine ⟨_, rfl, ?_⟩
  have H9 := Ha4.no hu6; clear Ha4
  refine ops_cons ?_
  refine op_pure rfl (rn_assign rfl) rfl rfl ?_
  refine ops_nil ?_
  refine then_n ?_
  refine wp_seq ?_
  refine wp_seq ?_
  refine reg_seq [0, 1, 2, 3, 4, 5, 6, 7, 8, 9, 10] rfl ?_
  refine ops_cons ?_
  refine op_pure rfl (rn_move rfl) rfl rfl ?_
  refine ops_cons ?_
  refine op_pure rfl (rn_decT (p := ((-1) : Int) < 0) (by decide) (rn_lss (p := (-1)) (q := 0) rfl rfl)) rfl rfl ?_
  refine ops_cons ?_
  refine op_pure rfl (rn_move rfl) rfl rfl ?_
  refine ops_cons ?_
  refine op_skipG rfl rfl rfl rfl rfl rfl rfl ?_
  refine ops_cons ?_
  refine op_skipG rfl rfl rfl rfl rfl rfl rfl ?_
  refine ops_cons ?_
  refine op_skipG rfl rfl rfl rfl rfl rfl rfl ?_
  refine ops_cons ?_
  refine op_skipG rfl rfl rfl rfl rfl rfl rfl ?_
  refine ops_cons ?_
  refine op_skipG rfl rfl rfl rfl rfl rfl rfl ?_
  refine ops_cons ?_
  refine op_skipG rfl rfl rfl rfl rfl rfl rfl ?_
  refine ops_cons ?_
  refine op_skipG rfl rfl rfl rfl rfl rfl rfl ?_
  refine ops_cons ?_
  refine op_pure rfl (rn_pick (v := .bool (true)) (b := true) rfl rfl rfl rfl) rfl rfl ?_
  refine ops_nil ?_
  refine then_n ?_
  refine cond_t rfl ?_
  refine wp_seq ?_
  refine reg_seq [0, 1, 2] rfl ?_
  refine ops_cons ?_
  refine op_pure rfl (rn_build (vs := []) (cells := #[.int .i64 (0), .int .i64 (0), .int .i64 (0), .int .i64 (0), .string (⟨#[]⟩), .slice none 0 0, .int .i64 (0), .int .i64 (0), .int .i64 (0), .int .i64 (0), .int .i64 (0), .int .i64 (0)]) rfl (by kernel_rfl)) rfl rfl ?_
  refine ops_cons ?_
  refine op_storeW rfl Try.sizeOf70 rfl rfl rfl rfl (by simp [Value.oneCell']) H9 ?_
  intro W10 hu11 Ha12; clear H9; clear hu11
  refine ops_cons ?_
  refine op_pure rfl (rn_assign rfl) rfl rfl ?_
  refine ops_nil ?_
  refine then_n ?_
  refine wp_ret ?_
  refine then_r ?_
  obtain ⟨e1, e2, e3⟩ := tk_no a b l hf
  rw [e1, e2, e3]
  refine post_cell_tmp (.inl rfl) Try.results92 Try.isAgg70 Try.sizeOf70 rfl rfl (Ha12.blk 0 rfl) rfl ?_
  have H14 : St w F0 [hR ki_Wire 66 (.slice none 0 0) ([]), hB g_0_0 70 #[.int .i64 (0), .int .i64 (0), .int .i64 (0), .int .i64 (0), .string (⟨#[]⟩), .slice none 0 0, .int .i64 (0), .int .i64 (0), .int .i64 (0), .int .i64 (0), .int .i64 (0), .int .i64 (0)], hR ki_Channel 142 (.slice A0 l.length c0) l] W10 := Ha12.add0 (q := hR ki_Wire 66 (.slice none 0 0) []) R_nil; clear Ha12
  have H15 : St w F0 [hM ki_Message zMessage [.int .i64 (0), .int .i64 (0), .int .i64 (0), .int .i64 (0), .string (⟨#[]⟩), .slice none 0 0, .int .i64 (0), .int .i64 (0), .int .i64 (0), .int .i64 (0), .int .i64 (0), .int .i64 (0)], hB g_0_0 70 #[.int .i64 (0), .int .i64 (0), .int .i64 (0), .int .i64 (0), .string (⟨#[]⟩), .slice none 0 0, .int .i64 (0), .int .i64 (0), .int .i64 (0), .int .i64 (0), .int .i64 (0), .int .i64 (0)], hR ki_Channel 142 (.slice A0 l.length c0) l] W10 := H14.swap (l0 := [hR ki_Wire 66 (.slice none 0 0) ([])]) (l' := [hM ki_Message zMessage [.int .i64 (0), .int .i64 (0), .int .i64 (0), .int .i64 (0), .string (⟨#[]⟩), .slice none 0 0, .int .i64 (0), .int .i64 (0), .int .i64 (0), .int .i64 (0), .int .i64 (0), .int .i64 (0)]]) (fun _ h => Star.one (ki_Message_close (x := zMessage) h)); clear H14
  exact ⟨_, rfl, H15.pick [2, 0] (by decide) rfl⟩
set_option maxHeartbeats 4000000 in
set_option maxRecDepth 100000 in
theorem take_nil (l : List GChannel) (a b : Int) (A0 : Option Addr) (c0 : Nat) (F0 : Nat → Prop) (w : World) (h : Star [hR ki_Channel 142 (.slice A0 l.length c0) l] w F0) (k : Nat) (hk : k < l.length) (hf : fidx (chP a b) 0 l = (k : Int)) (f t : Int) (hx : l[k] = ⟨f, t, []⟩) : Calls Try.prog 92 #[.slice A0 l.length c0, .int .i64 a, .int .i64 b] w (fun e' w' => ∃ cs, e' = .returned (.tuple #[.agg (List.toArray cs), .bool (tkB a b l)]) ∧ St w F0 [hR ki_Channel 142 (.slice A0 (tkL a b l).length c0) (tkL a b l), hM ki_Message (tkM a b l) cs] w') := by
  refine enter 45 [(0, .slice A0 l.length c0), (1, .int .i64 (a)), (2, .int .i64 (b))] Try.func92 rfl (by kernel_rfl) ?_
  intro xj
  have H1 : St w F0 [hR ki_Channel 142 (.slice A0 l.length c0) l] w := St.enterF h
  refine wp_seq ?_
  refine reg_seq [0, 1] rfl ?_
  refine ops_cons ?_
  refine op_alloc rfl Try.zeroValue70 rfl rfl H1 ?_
  intro g_0_0 W2 hu3 Ha4; clear H1; clear hu3
  refine ops_cons ?_
  refine op_pure rfl (rn_assign rfl) rfl rfl ?_
  refine ops_nil ?_
  refine then_n ?_
  refine wp_seq ?_
  refine reg_seq [0, 1, 2, 3, 4] rfl ?_
  refine ops_cons ?_
  refine op_pure rfl (rn_move rfl) rfl rfl ?_
  refine ops_cons ?_
  refine op_pure rfl (rn_move rfl) rfl rfl ?_
  refine ops_cons ?_
  refine op_pure rfl (rn_move rfl) rfl rfl ?_
  refine ops_cons ?_
  refine op_call rfl Try.call141 (vs := #[.slice A0 l.length c0, .int .i64 (a), .int .i64 (b)]) rfl rfl rfl (channel_q l a b ((k : Nat) : Int) hf _ _ _ (Ha4.rowC 1 rfl)) ?_
  rintro e8 W7 ⟨rfl, hu6⟩; refine ⟨_, rfl, ?_⟩
  have H9 := Ha4.no hu6; clear Ha4
  refine ops_cons ?_
  refine op_pure rfl (rn_assign rfl) rfl rfl ?_
  refine ops_nil ?_
  refine then_n ?_
  refine wp_seq ?_
  refine wp_seq ?_
  have H10 : St w F0 [hR ki_Channel 142 (.slice A0 l.length c0) l, hB g_0_0 70 #[.int .i64 (0), .int .i64 (0), .int .i64 (0), .int .i64 (0), .string (⟨#[]⟩), .slice none 0 0, .int .i64 (0), .int .i64 (0), .int .i64 (0), .int .i64 (0), .int .i64 (0), .int .i64 (0)]] W7 := H9.pick [1, 0] (by decide) rfl; clear H9
  obtain ⟨gf11, rfl⟩ := H10.openS (q := k) hk
  obtain ⟨ce12, hn13, H14⟩ := H10.openG (q := k) hk; clear H10
  rw [hx] at H14
  have H15 : St w F0 [hE ki_Channel 142 gf11 c0 k ce12 l, hM ki_Channel (⟨f, t, []⟩ : GChannel) ce12, hB g_0_0 70 #[.int .i64 (0), .int .i64 (0), .int .i64 (0), .int .i64 (0), .string (⟨#[]⟩), .slice none 0 0, .int .i64 (0), .int .i64 (0), .int .i64 (0), .int .i64 (0), .int .i64 (0), .int .i64 (0)]] W7 := H14; clear H14
  have H22 : St w F0 [hM ki_Channel (⟨f, t, []⟩ : GChannel) ce12, hE ki_Channel 142 gf11 c0 k ce12 l, hB g_0_0 70 #[.int .i64 (0), .int .i64 (0), .int .i64 (0), .int .i64 (0), .string (⟨#[]⟩), .slice none 0 0, .int .i64 (0), .int .i64 (0), .int .i64 (0), .int .i64 (0), .int .i64 (0), .int .i64 (0)]] W7 := H15.pick [1, 0, 2] (by decide) rfl; clear H15
  obtain ⟨F16, hM17, hb18⟩ := H22.unM
  obtain ⟨B20, c21, rfl, hst19⟩ := ki_Channel_open hM17
  have H23 : St w F0 [hR ki_Message 70 (.slice B20 ((⟨f, t, []⟩ : GChannel).List.length) c21) ((⟨f, t, []⟩ : GChannel).List), hE ki_Channel 142 gf11 c0 k [.int .i64 ((⟨f, t, []⟩ : GChannel).From), .int .i64 ((⟨f, t, []⟩ : GChannel).To), .slice B20 ((⟨f, t, []⟩ : GChannel).List.length) c21] l, hB g_0_0 70 #[.int .i64 (0), .int .i64 (0), .int .i64 (0), .int .i64 (0), .string (⟨#[]⟩), .slice none 0 0, .int .i64 (0), .int .i64 (0), .int .i64 (0), .int .i64 (0), .int .i64 (0), .int .i64 (0)]] W7 := hb18 _ hst19; clear H22
  refine reg_seq [0, 1, 2, 3, 4, 5, 6, 7, 8, 9, 10] rfl ?_
  refine ops_cons ?_
  refine op_pure rfl (rn_move rfl) rfl rfl ?_
  refine ops_cons ?_
  refine op_pure rfl (rn_decF (p := (((k : Nat) : Int) : Int) < 0) (by omega) (rn_lss (p := ((k : Nat) : Int)) (q := 0) rfl rfl)) rfl rfl ?_
  refine ops_cons ?_
  refine op_pure rfl (rn_move rfl) rfl rfl ?_
  refine ops_cons ?_
  refine op_G rfl rfl rfl rfl (fun _ ho24 => ?_)
  refine op_pure ho24 (rn_move rfl) rfl rfl ?_
  refine ops_cons ?_
  refine op_G rfl rfl rfl rfl (fun _ ho25 => ?_)
  refine op_pure ho25 (rn_move rfl) rfl rfl ?_
  refine ops_cons ?_
  refine op_G rfl rfl rfl rfl (fun _ ho26 => ?_)
  refine op_pure ho26 (rn_indexA (k := k) Try.runUnderlying64 Try.sizeOf142 rfl rfl rfl (Nat.lt_of_lt_of_eq hk hn13.symm)) rfl rfl ?_
  refine ops_cons ?_
  refine op_G rfl rfl rfl rfl (fun _ ho27 => ?_)
  refine op_pure ho27 (rn_field fa_142_2 rfl) rfl rfl ?_
  refine ops_cons ?_
  refine op_G rfl rfl rfl rfl (fun _ ho28 => ?_)
  refine op_pure ho28 (rn_loadE (v := .slice B20 ((⟨f, t, []⟩ : GChannel).List.length) c21) Try.isAgg140 rfl (H23.catE 1 rfl) rfl) rfl rfl ?_
  refine ops_cons ?_
  refine op_G rfl rfl rfl rfl (fun _ ho29 => ?_)
  refine op_pure ho29 (rn_len Try.runUnderlying140 rfl) rfl rfl ?_
  refine ops_cons ?_
  refine op_G rfl rfl rfl rfl (fun _ ho30 => ?_)
  refine op_pure ho30 (rn_decT (p := (((⟨f, t, []⟩ : GChannel).List.length : Nat) : Int) = 0) rfl (rn_eql (p := ((⟨f, t, []⟩ : GChannel).List.length : Nat)) (q := 0) rfl rfl)) rfl rfl ?_
  refine ops_cons ?_
  refine op_pure rfl (rn_pick (v := .bool (true)) (b := false) rfl rfl rfl rfl) rfl rfl ?_
  refine ops_nil ?_
  refine then_n ?_
  refine cond_t rfl ?_
  refine wp_seq ?_
  refine reg_seq [0, 1, 2] rfl ?_
  refine ops_cons ?_
  refine op_pure rfl (rn_build (vs := []) (cells := #[.int .i64 (0), .int .i64 (0), .int .i64 (0), .int .i64 (0), .string (⟨#[]⟩), .slice none 0 0, .int .i64 (0), .int .i64 (0), .int .i64 (0), .int .i64 (0), .int .i64 (0), .int .i64 (0)]) rfl (by kernel_rfl)) rfl rfl ?_
  refine ops_cons ?_
  have H34 : St w F0 [hB g_0_0 70 #[.int .i64 (0), .int .i64 (0), .int .i64 (0), .int .i64 (0), .string (⟨#[]⟩), .slice none 0 0, .int .i64 (0), .int .i64 (0), .int .i64 (0), .int .i64 (0), .int .i64 (0), .int .i64 (0)], hR ki_Message 70 (.slice B20 ((⟨f, t, []⟩ : GChannel).List.length) c21) ((⟨f, t, []⟩ : GChannel).List), hE ki_Channel 142 gf11 c0 k [.int .i64 ((⟨f, t, []⟩ : GChannel).From), .int .i64 ((⟨f, t, []⟩ : GChannel).To), .slice B20 ((⟨f, t, []⟩ : GChannel).List.length) c21] l] W7 := H23.pick [2, 0, 1] (by decide) rfl; clear H23
  refine op_storeW rfl Try.sizeOf70 rfl rfl rfl rfl (by simp [Value.oneCell']) H34 ?_
  intro W31 hu32 Ha33; clear H34; clear hu32
  refine ops_cons ?_
  refine op_pure rfl (rn_assign rfl) rfl rfl ?_
  refine ops_nil ?_
  have H36 : St w F0 [hR ki_Message 70 (.slice B20 ((⟨f, t, []⟩ : GChannel).List.length) c21) ((⟨f, t, []⟩ : GChannel).List), hB g_0_0 70 #[.int .i64 (0), .int .i64 (0), .int .i64 (0), .int .i64 (0), .string (⟨#[]⟩), .slice none 0 0, .int .i64 (0), .int .i64 (0), .int .i64 (0), .int .i64 (0), .int .i64 (0), .int .i64 (0)], hE ki_Channel 142 gf11 c0 k [.int .i64 ((⟨f, t, []⟩ : GChannel).From), .int .i64 ((⟨f, t, []⟩ : GChannel).To), .slice B20 ((⟨f, t, []⟩ : GChannel).List.length) c21] l] W31 := Ha33.pick [1, 0, 2] (by decide) rfl; clear Ha33
  have H37 : St w F0 [hM ki_Channel (⟨f, t, []⟩ : GChannel) [.int .i64 ((⟨f, t, []⟩ : GChannel).From), .int .i64 ((⟨f, t, []⟩ : GChannel).To), .slice B20 ((⟨f, t, []⟩ : GChannel).List.length) c21], hB g_0_0 70 #[.int .i64 (0), .int .i64 (0), .int .i64 (0), .int .i64 (0), .string (⟨#[]⟩), .slice none 0 0, .int .i64 (0), .int .i64 (0), .int .i64 (0), .int .i64 (0), .int .i64 (0), .int .i64 (0)], hE ki_Channel 142 gf11 c0 k [.int .i64 ((⟨f, t, []⟩ : GChannel).From), .int .i64 ((⟨f, t, []⟩ : GChannel).To), .slice B20 ((⟨f, t, []⟩ : GChannel).List.length) c21] l] W31 := H36.swap (l0 := [hR ki_Message 70 (.slice B20 ((⟨f, t, []⟩ : GChannel).List.length) c21) ((⟨f, t, []⟩ : GChannel).List)]) (l' := [hM ki_Channel (⟨f, t, []⟩ : GChannel) [.int .i64 ((⟨f, t, []⟩ : GChannel).From), .int .i64 ((⟨f, t, []⟩ : GChannel).To), .slice B20 ((⟨f, t, []⟩ : GChannel).List.length) c21]]) (fun _ h => Star.one (ki_Channel_close (x := (⟨f, t, []⟩ : GChannel)) h)); clear H36
  have H38 : St w F0 [hE ki_Channel 142 gf11 c0 k [.int .i64 ((⟨f, t, []⟩ : GChannel).From), .int .i64 ((⟨f, t, []⟩ : GChannel).To), .slice B20 ((⟨f, t, []⟩ : GChannel).List.length) c21] l, hM ki_Channel (⟨f, t, []⟩ : GChannel) [.int .i64 ((⟨f, t, []⟩ : GChannel).From), .int .i64 ((⟨f, t, []⟩ : GChannel).To), .slice B20 ((⟨f, t, []⟩ : GChannel).List.length) c21], hB g_0_0 70 #[.int .i64 (0), .int .i64 (0), .int .i64 (0), .int .i64 (0), .string (⟨#[]⟩), .slice none 0 0, .int .i64 (0), .int .i64 (0), .int .i64 (0), .int .i64 (0), .int .i64 (0), .int .i64 (0)]] W31 := H37.pick [2, 0, 1] (by decide) rfl; clear H37
  have H39 : St w F0 [hR ki_Channel 142 (.slice (some ⟨gf11, 0, none⟩) l.length c0) l, hB g_0_0 70 #[.int .i64 (0), .int .i64 (0), .int .i64 (0), .int .i64 (0), .string (⟨#[]⟩), .slice none 0 0, .int .i64 (0), .int .i64 (0), .int .i64 (0), .int .i64 (0), .int .i64 (0), .int .i64 (0)]] W31 := H38.closeG (by rw [← hx]; exact List.set_getElem_self ..) rfl; clear H38
  refine then_n ?_
  refine wp_ret ?_
  refine then_r ?_
  obtain ⟨e1, e2, e3⟩ := tk_nil a b l k hk hf f t hx
  rw [e1, e2, e3]
  refine post_cell_tmp (.inl rfl) Try.results92 Try.isAgg70 Try.sizeOf70 rfl rfl (H39.blk 1 rfl) rfl ?_
  have H40 : St w F0 [hR ki_Wire 66 (.slice none 0 0) ([]), hR ki_Channel 142 (.slice (some ⟨gf11, 0, none⟩) l.length c0) l, hB g_0_0 70 #[.int .i64 (0), .int .i64 (0), .int .i64 (0), .int .i64 (0), .string (⟨#[]⟩), .slice none 0 0, .int .i64 (0), .int .i64 (0), .int .i64 (0), .int .i64 (0), .int .i64 (0), .int .i64 (0)]] W31 := H39.add0 (q := hR ki_Wire 66 (.slice none 0 0) []) R_nil; clear H39
  have H41 : St w F0 [hM ki_Message zMessage [.int .i64 (0), .int .i64 (0), .int .i64 (0), .int .i64 (0), .string (⟨#[]⟩), .slice none 0 0, .int .i64 (0), .int .i64 (0), .int .i64 (0), .int .i64 (0), .int .i64 (0), .int .i64 (0)], hR ki_Channel 142 (.slice (some ⟨gf11, 0, none⟩) l.length c0) l, hB g_0_0 70 #[.int .i64 (0), .int .i64 (0), .int .i64 (0), .int .i64 (0), .string (⟨#[]⟩), .slice none 0 0, .int .i64 (0), .int .i64 (0), .int .i64 (0), .int .i64 (0), .int .i64 (0), .int .i64 (0)]] W31 := H40.swap (l0 := [hR ki_Wire 66 (.slice none 0 0) ([])]) (l' := [hM ki_Message zMessage [.int .i64 (0), .int .i64 (0), .int .i64 (0), .int .i64 (0), .string (⟨#[]⟩), .slice none 0 0, .int .i64 (0), .int .i64 (0), .int .i64 (0), .int .i64 (0), .int .i64 (0), .int .i64 (0)]]) (fun _ h => Star.one (ki_Message_close (x := zMessage) h)); clear H40
  exact ⟨_, rfl, H41.pick [1, 0] (by decide) rfl⟩
set_option maxHeartbeats 4000000 in
set_option maxRecDepth 100000 in
theorem take_yes (l : List GChannel) (a b : Int) (A0 : Option Addr) (c0 : Nat) (F0 : Nat → Prop) (w : World) (h : Star [hR ki_Channel 142 (.slice A0 l.length c0) l] w F0) (k : Nat) (hk : k < l.length) (hf : fidx (chP a b) 0 l = (k : Int)) (f t : Int) (m : GMessage) (ms : List GMessage) (hx : l[k] = ⟨f, t, m :: ms⟩) (hms : ms.length ≤ 1048576) : Calls Try.prog 92 #[.slice A0 l.length c0, .int .i64 a, .int .i64 b] w (fun e' w' => ∃ cs, e' = .returned (.tuple #[.agg (List.toArray cs), .bool (tkB a b l)]) ∧ St w F0 [hR ki_Channel 142 (.slice A0 (tkL a b l).length c0) (tkL a b l), hM ki_Message (tkM a b l) cs] w') := by
  refine enter 45 [(0, .slice A0 l.length c0), (1, .int .i64 (a)), (2, .int .i64 (b))] Try.func92 rfl (by kernel_rfl) ?_
  intro xj
  have H1 : St w F0 [hR ki_Channel 142 (.slice A0 l.length c0) l] w := St.enterF h
  refine wp_seq ?_
  refine reg_seq [0, 1] rfl ?_
  refine ops_cons ?_
  refine op_alloc rfl Try.zeroValue70 rfl rfl H1 ?_
  intro g_0_0 W2 hu3 Ha4; clear H1; clear hu3
  refine ops_cons ?_
  refine op_pure rfl (rn_assign rfl) rfl rfl ?_
  refine ops_nil ?_
  refine then_n ?_
  refine wp_seq ?_
  refine reg_seq [0, 1, 2, 3, 4] rfl ?_
  refine ops_cons ?_
  refine op_pure rfl (rn_move rfl) rfl rfl ?_
  refine ops_cons ?_
  refine op_pure rfl (rn_move rfl) rfl rfl ?_
  refine ops_cons ?_
  refine op_pure rfl (rn_move rfl) rfl rfl ?_
  refine ops_cons ?_
  refine op_call rfl Try.call141 (vs := #[.slice A0 l.length c0, .int .i64 (a), .int .i64 (b)]) rfl rfl rfl (channel_q l a b ((k : Nat) : Int) hf _ _ _ (Ha4.rowC 1 rfl)) ?_
  rintro e8 W7 ⟨rfl, hu6⟩; refine ⟨_, rfl, ?_⟩
  have H9 := Ha4.no hu6; clear Ha4
  refine ops_cons ?_
  refine op_pure rfl (rn_assign rfl) rfl rfl ?_
  refine ops_nil ?_
  refine then_n ?_
  refine wp_seq ?_
  refine wp_seq ?_
  have H10 : St w F0 [hR ki_Channel 142 (.slice A0 l.length c0) l, hB g_0_0 70 #[.int .i64 (0), .int .i64 (0), .int .i64 (0), .int .i64 (0), .string (⟨#[]⟩), .slice none 0 0, .int .i64 (0), .int .i64 (0), .int .i64 (0), .int .i64 (0), .int .i64 (0), .int .i64 (0)]] W7 := H9.pick [1, 0] (by decide) rfl; clear H9
  obtain ⟨gf11, rfl⟩ := H10.openS (q := k) hk
  obtain ⟨ce12, hn13, H14⟩ := H10.openG (q := k) hk; clear H10
  rw [hx] at H14
  have H15 : St w F0 [hE ki_Channel 142 gf11 c0 k ce12 l, hM ki_Channel (⟨f, t, m :: ms⟩ : GChannel) ce12, hB g_0_0 70 #[.int .i64 (0), .int .i64 (0), .int .i64 (0), .int .i64 (0), .string (⟨#[]⟩), .slice none 0 0, .int .i64 (0), .int .i64 (0), .int .i64 (0), .int .i64 (0), .int .i64 (0), .int .i64 (0)]] W7 := H14; clear H14
  have H22 : St w F0 [hM ki_Channel (⟨f, t, m :: ms⟩ : GChannel) ce12, hE ki_Channel 142 gf11 c0 k ce12 l, hB g_0_0 70 #[.int .i64 (0), .int .i64 (0), .int .i64 (0), .int .i64 (0), .string (⟨#[]⟩), .slice none 0 0, .int .i64 (0), .int .i64 (0), .int .i64 (0), .int .i64 (0), .int .i64 (0), .int .i64 (0)]] W7 := H15.pick [1, 0, 2] (by decide) rfl; clear H15
  obtain ⟨F16, hM17, hb18⟩ := H22.unM
  obtain ⟨B20, c21, rfl, hst19⟩ := ki_Channel_open hM17
  have H23 : St w F0 [hR ki_Message 70 (.slice B20 ((⟨f, t, m :: ms⟩ : GChannel).List.length) c21) ((⟨f, t, m :: ms⟩ : GChannel).List), hE ki_Channel 142 gf11 c0 k [.int .i64 ((⟨f, t, m :: ms⟩ : GChannel).From), .int .i64 ((⟨f, t, m :: ms⟩ : GChannel).To), .slice B20 ((⟨f, t, m :: ms⟩ : GChannel).List.length) c21] l, hB g_0_0 70 #[.int .i64 (0), .int .i64 (0), .int .i64 (0), .int .i64 (0), .string (⟨#[]⟩), .slice none 0 0, .int .i64 (0), .int .i64 (0), .int .i64 (0), .int .i64 (0), .int .i64 (0), .int .i64 (0)]] W7 := hb18 _ hst19; clear H22
  refine reg_seq [0, 1, 2, 3, 4, 5, 6, 7, 8, 9, 10] rfl ?_
  refine ops_cons ?_
  refine op_pure rfl (rn_move rfl) rfl rfl ?_
  refine ops_cons ?_
  refine op_pure rfl (rn_decF (p := (((k : Nat) : Int) : Int) < 0) (by omega) (rn_lss (p := ((k : Nat) : Int)) (q := 0) rfl rfl)) rfl rfl ?_
  refine ops_cons ?_
  refine op_pure rfl (rn_move rfl) rfl rfl ?_
  refine ops_cons ?_
  refine op_G rfl rfl rfl rfl (fun _ ho24 => ?_)
  refine op_pure ho24 (rn_move rfl) rfl rfl ?_
  refine ops_cons ?_
  refine op_G rfl rfl rfl rfl (fun _ ho25 => ?_)
  refine op_pure ho25 (rn_move rfl) rfl rfl ?_
  refine ops_cons ?_
  refine op_G rfl rfl rfl rfl (fun _ ho26 => ?_)
  refine op_pure ho26 (rn_indexA (k := k) Try.runUnderlying64 Try.sizeOf142 rfl rfl rfl (Nat.lt_of_lt_of_eq hk hn13.symm)) rfl rfl ?_
  refine ops_cons ?_
  refine op_G rfl rfl rfl rfl (fun _ ho27 => ?_)
  refine op_pure ho27 (rn_field fa_142_2 rfl) rfl rfl ?_
  refine ops_cons ?_
  refine op_G rfl rfl rfl rfl (fun _ ho28 => ?_)
  refine op_pure ho28 (rn_loadE (v := .slice B20 ((⟨f, t, m :: ms⟩ : GChannel).List.length) c21) Try.isAgg140 rfl (H23.catE 1 rfl) rfl) rfl rfl ?_
  refine ops_cons ?_
  refine op_G rfl rfl rfl rfl (fun _ ho29 => ?_)
  refine op_pure ho29 (rn_len Try.runUnderlying140 rfl) rfl rfl ?_
  refine ops_cons ?_
  refine op_G rfl rfl rfl rfl (fun _ ho30 => ?_)
  refine op_pure ho30 (rn_decF (p := (((⟨f, t, m :: ms⟩ : GChannel).List.length : Nat) : Int) = 0) (by intro h; cases h) (rn_eql (p := ((⟨f, t, m :: ms⟩ : GChannel).List.length : Nat)) (q := 0) rfl rfl)) rfl rfl ?_
  refine ops_cons ?_
  refine op_pure rfl (rn_pick (v := .bool (false)) (b := false) rfl rfl rfl rfl) rfl rfl ?_
  refine ops_nil ?_
  refine then_n ?_
  refine cond_f rfl ?_
  refine wp_skip ?_
  refine then_n ?_
  refine wp_seq ?_
  obtain ⟨gf31, rfl⟩ := H23.openS (q := 0) (Nat.zero_lt_succ _)
  obtain ⟨ce32, hn33, H34⟩ := H23.openG (q := 0) (Nat.zero_lt_succ _); clear H23
  have H35 : St w F0 [hE ki_Message 70 gf31 c21 0 ce32 ((⟨f, t, m :: ms⟩ : GChannel).List), hM ki_Message m ce32, hE ki_Channel 142 gf11 c0 k [.int .i64 ((⟨f, t, m :: ms⟩ : GChannel).From), .int .i64 ((⟨f, t, m :: ms⟩ : GChannel).To), .slice (some ⟨gf31, 0, none⟩) ((⟨f, t, m :: ms⟩ : GChannel).List.length) c21] l, hB g_0_0 70 #[.int .i64 (0), .int .i64 (0), .int .i64 (0), .int .i64 (0), .string (⟨#[]⟩), .slice none 0 0, .int .i64 (0), .int .i64 (0), .int .i64 (0), .int .i64 (0), .int .i64 (0), .int .i64 (0)]] W7 := H34; clear H34
  have H42 : St w F0 [hM ki_Message m ce32, hE ki_Message 70 gf31 c21 0 ce32 ((⟨f, t, m :: ms⟩ : GChannel).List), hE ki_Channel 142 gf11 c0 k [.int .i64 ((⟨f, t, m :: ms⟩ : GChannel).From), .int .i64 ((⟨f, t, m :: ms⟩ : GChannel).To), .slice (some ⟨gf31, 0, none⟩) ((⟨f, t, m :: ms⟩ : GChannel).List.length) c21] l, hB g_0_0 70 #[.int .i64 (0), .int .i64 (0), .int .i64 (0), .int .i64 (0), .string (⟨#[]⟩), .slice none 0 0, .int .i64 (0), .int .i64 (0), .int .i64 (0), .int .i64 (0), .int .i64 (0), .int .i64 (0)]] W7 := H35.pick [1, 0, 2, 3] (by decide) rfl; clear H35
  obtain ⟨F36, hM37, hb38⟩ := H42.unM
  obtain ⟨B40, c41, rfl, hst39⟩ := ki_Message_open hM37
  have H43 : St w F0 [hR ki_Wire 66 (.slice B40 m.Args.length c41) m.Args, hE ki_Message 70 gf31 c21 0 [.int .i64 (m.Kind), .int .i64 (m.Pos), .int .i64 (m.Answer), .int .i64 (m.Question), .string (m.Name), .slice B40 m.Args.length c41, .int .i64 (m.Value.Kind), .int .i64 (m.Value.N), .int .i64 (m.Count), .int .i64 (m.Tag.Vat), .int .i64 (m.Tag.Entity), .int .i64 (m.Tag.Seq)] ((⟨f, t, m :: ms⟩ : GChannel).List), hE ki_Channel 142 gf11 c0 k [.int .i64 ((⟨f, t, m :: ms⟩ : GChannel).From), .int .i64 ((⟨f, t, m :: ms⟩ : GChannel).To), .slice (some ⟨gf31, 0, none⟩) ((⟨f, t, m :: ms⟩ : GChannel).List.length) c21] l, hB g_0_0 70 #[.int .i64 (0), .int .i64 (0), .int .i64 (0), .int .i64 (0), .string (⟨#[]⟩), .slice none 0 0, .int .i64 (0), .int .i64 (0), .int .i64 (0), .int .i64 (0), .int .i64 (0), .int .i64 (0)]] W7 := hb38 _ hst39; clear H42
  refine reg_seq [0, 1, 2, 3, 4, 5, 6, 7, 8] rfl ?_
  refine ops_cons ?_
  refine op_pure rfl (rn_move rfl) rfl rfl ?_
  refine ops_cons ?_
  refine op_pure rfl (rn_move rfl) rfl rfl ?_
  refine ops_cons ?_
  refine op_pure rfl (rn_indexA (k := k) Try.runUnderlying64 Try.sizeOf142 rfl rfl rfl (Nat.lt_of_lt_of_eq hk hn13.symm)) rfl rfl ?_
  refine ops_cons ?_
  refine op_pure rfl (rn_field fa_142_2 rfl) rfl rfl ?_
  refine ops_cons ?_
  refine op_pure rfl (rn_loadE (v := .slice (some ⟨gf31, 0, none⟩) ((⟨f, t, m :: ms⟩ : GChannel).List.length) c21) Try.isAgg140 rfl (H43.catE 2 rfl) rfl) rfl rfl ?_
  refine ops_cons ?_
  refine op_pure rfl (rn_indexA (k := 0) Try.runUnderlying140 Try.sizeOf70 rfl rfl rfl (Nat.lt_of_lt_of_eq (Nat.zero_lt_succ _) hn33.symm)) rfl rfl ?_
  refine ops_cons ?_
  refine op_pure rfl (rn_loadN Try.isAgg70 Try.sizeOf70 rfl (H43.catE 1 rfl) rfl) rfl rfl ?_
  refine ops_cons ?_
  refine op_alloc rfl Try.zeroValue70 rfl rfl H43 ?_
  intro g_4_7 W44 hu45 Ha46; clear H43; clear hu45
  refine ops_cons ?_
  refine op_storeW rfl Try.sizeOf70 rfl rfl rfl rfl (by simp [Value.oneCell']) Ha46 ?_
  intro W48 hu49 Ha50; clear Ha46; clear hu49
  refine ops_nil ?_
  refine then_n ?_
  refine wp_seq ?_
  refine reg_seq [0, 1, 2, 3, 4, 5, 6, 7, 8, 9, 10, 11] rfl ?_
  refine ops_cons ?_
  refine op_pure rfl (rn_move rfl) rfl rfl ?_
  refine ops_cons ?_
  refine op_pure rfl (rn_move rfl) rfl rfl ?_
  refine ops_cons ?_
  refine op_pure rfl (rn_move rfl) rfl rfl ?_
  refine ops_cons ?_
  refine op_pure rfl (rn_move rfl) rfl rfl ?_
  refine ops_cons ?_
  refine op_pure rfl (rn_indexA (k := k) Try.runUnderlying64 Try.sizeOf142 rfl rfl rfl (Nat.lt_of_lt_of_eq hk hn13.symm)) rfl rfl ?_
  refine ops_cons ?_
  refine op_pure rfl (rn_field fa_142_2 rfl) rfl rfl ?_
  refine ops_cons ?_
  refine op_pure rfl (rn_loadE (v := .slice (some ⟨gf31, 0, none⟩) ((⟨f, t, m :: ms⟩ : GChannel).List.length) c21) Try.isAgg140 rfl (Ha50.catE 3 rfl) rfl) rfl rfl ?_
  obtain ⟨At, hAt⟩ : ∃ At : Option Addr, (if c21 = 1 then some ⟨gf31, 0, none⟩ else (some (⟨gf31, 0, none⟩ : Addr)).map (·.add (1 * 12))) = At := ⟨_, rfl⟩
  refine ops_cons ?_
  refine op_pure rfl (rn_sliceL (k := 1) Try.underlying140 Try.sizeOf70 rfl rfl (Nat.le_add_left 1 _) hAt rfl rfl) rfl rfl ?_
  refine ops_cons ?_
  have H52 : St w F0 [hE ki_Message 70 gf31 c21 0 [.int .i64 (m.Kind), .int .i64 (m.Pos), .int .i64 (m.Answer), .int .i64 (m.Question), .string (m.Name), .slice B40 m.Args.length c41, .int .i64 (m.Value.Kind), .int .i64 (m.Value.N), .int .i64 (m.Count), .int .i64 (m.Tag.Vat), .int .i64 (m.Tag.Entity), .int .i64 (m.Tag.Seq)] ((⟨f, t, m :: ms⟩ : GChannel).List), hB g_4_7 70 #[.int .i64 (m.Kind), .int .i64 (m.Pos), .int .i64 (m.Answer), .int .i64 (m.Question), .string (m.Name), .slice B40 m.Args.length c41, .int .i64 (m.Value.Kind), .int .i64 (m.Value.N), .int .i64 (m.Count), .int .i64 (m.Tag.Vat), .int .i64 (m.Tag.Entity), .int .i64 (m.Tag.Seq)], hR ki_Wire 66 (.slice B40 m.Args.length c41) m.Args, hE ki_Channel 142 gf11 c0 k [.int .i64 ((⟨f, t, m :: ms⟩ : GChannel).From), .int .i64 ((⟨f, t, m :: ms⟩ : GChannel).To), .slice (some ⟨gf31, 0, none⟩) ((⟨f, t, m :: ms⟩ : GChannel).List.length) c21] l, hB g_0_0 70 #[.int .i64 (0), .int .i64 (0), .int .i64 (0), .int .i64 (0), .string (⟨#[]⟩), .slice none 0 0, .int .i64 (0), .int .i64 (0), .int .i64 (0), .int .i64 (0), .int .i64 (0), .int .i64 (0)]] W48 := Ha50.pick [2, 0, 1, 3, 4] (by decide) rfl; clear Ha50
  have H53 : St w F0 [hT ki_Message At ms, hB g_4_7 70 #[.int .i64 (m.Kind), .int .i64 (m.Pos), .int .i64 (m.Answer), .int .i64 (m.Question), .string (m.Name), .slice B40 m.Args.length c41, .int .i64 (m.Value.Kind), .int .i64 (m.Value.N), .int .i64 (m.Count), .int .i64 (m.Tag.Vat), .int .i64 (m.Tag.Entity), .int .i64 (m.Tag.Seq)], hR ki_Wire 66 (.slice B40 m.Args.length c41) m.Args, hE ki_Channel 142 gf11 c0 k [.int .i64 ((⟨f, t, m :: ms⟩ : GChannel).From), .int .i64 ((⟨f, t, m :: ms⟩ : GChannel).To), .slice (some ⟨gf31, 0, none⟩) ((⟨f, t, m :: ms⟩ : GChannel).List.length) c21] l, hB g_0_0 70 #[.int .i64 (0), .int .i64 (0), .int .i64 (0), .int .i64 (0), .string (⟨#[]⟩), .slice none 0 0, .int .i64 (0), .int .i64 (0), .int .i64 (0), .int .i64 (0), .int .i64 (0), .int .i64 (0)]] W48 := hAt ▸ St.tailI (y := m) (xs := ms) H52; clear H52
  obtain ⟨F54, hs55, _, hfr56⟩ := St.frame (l0 := [hT ki_Message At ms]) (l := [hB g_4_7 70 #[.int .i64 (m.Kind), .int .i64 (m.Pos), .int .i64 (m.Answer), .int .i64 (m.Question), .string (m.Name), .slice B40 m.Args.length c41, .int .i64 (m.Value.Kind), .int .i64 (m.Value.N), .int .i64 (m.Count), .int .i64 (m.Tag.Vat), .int .i64 (m.Tag.Entity), .int .i64 (m.Tag.Seq)], hR ki_Wire 66 (.slice B40 m.Args.length c41) m.Args, hE ki_Channel 142 gf11 c0 k [.int .i64 ((⟨f, t, m :: ms⟩ : GChannel).From), .int .i64 ((⟨f, t, m :: ms⟩ : GChannel).To), .slice (some ⟨gf31, 0, none⟩) ((⟨f, t, m :: ms⟩ : GChannel).List.length) c21] l, hB g_0_0 70 #[.int .i64 (0), .int .i64 (0), .int .i64 (0), .int .i64 (0), .string (⟨#[]⟩), .slice none 0 0, .int .i64 (0), .int .i64 (0), .int .i64 (0), .int .i64 (0), .int .i64 (0), .int .i64 (0)]]) H53
  refine op_call rfl Try.call142 (vs := #[.slice At ms.length (c21 - 1)]) rfl rfl rfl (clone_T ms At _ _ _ hs55 hms) ?_
  rintro e59 W58 ⟨B_5_8, c_5_8, rfl, Hn57⟩; refine ⟨_, rfl, ?_⟩
  have H60 := hfr56 _ _ Hn57; clear H53
  refine ops_cons ?_
  refine op_pure rfl (rn_indexA (k := k) Try.runUnderlying64 Try.sizeOf142 rfl rfl rfl (Nat.lt_of_lt_of_eq hk hn13.symm)) rfl rfl ?_
  refine ops_cons ?_
  refine op_pure rfl (rn_field fa_142_2 rfl) rfl rfl ?_
  refine ops_cons ?_
  have H64 : St w F0 [hE ki_Channel 142 gf11 c0 k [.int .i64 ((⟨f, t, m :: ms⟩ : GChannel).From), .int .i64 ((⟨f, t, m :: ms⟩ : GChannel).To), .slice (some ⟨gf31, 0, none⟩) ((⟨f, t, m :: ms⟩ : GChannel).List.length) c21] l, hR ki_Message 70 (.slice B_5_8 ms.length c_5_8) ms, hB g_4_7 70 #[.int .i64 (m.Kind), .int .i64 (m.Pos), .int .i64 (m.Answer), .int .i64 (m.Question), .string (m.Name), .slice B40 m.Args.length c41, .int .i64 (m.Value.Kind), .int .i64 (m.Value.N), .int .i64 (m.Count), .int .i64 (m.Tag.Vat), .int .i64 (m.Tag.Entity), .int .i64 (m.Tag.Seq)], hR ki_Wire 66 (.slice B40 m.Args.length c41) m.Args, hB g_0_0 70 #[.int .i64 (0), .int .i64 (0), .int .i64 (0), .int .i64 (0), .string (⟨#[]⟩), .slice none 0 0, .int .i64 (0), .int .i64 (0), .int .i64 (0), .int .i64 (0), .int .i64 (0), .int .i64 (0)]] W58 := H60.pick [3, 0, 1, 2, 4] (by decide) rfl; clear H60
  refine op_storeE (dk := ki_Channel) (k := 2) (ce' := [.int .i64 ((⟨f, t, m :: ms⟩ : GChannel).From), .int .i64 ((⟨f, t, m :: ms⟩ : GChannel).To), .slice B_5_8 ms.length c_5_8]) rfl Try.sizeOf140 rfl rfl rfl rfl (Nat.le_of_ble_eq_true rfl) (by simp [Value.cells, Value.oneCell']) rfl H64 ?_
  intro W61 hu62 Ha63; clear H64; clear hu62
  refine ops_nil ?_
  have H66 : St w F0 [hR ki_Message 70 (.slice B_5_8 ms.length c_5_8) ms, hE ki_Channel 142 gf11 c0 k [.int .i64 ((⟨f, t, m :: ms⟩ : GChannel).From), .int .i64 ((⟨f, t, m :: ms⟩ : GChannel).To), .slice B_5_8 ms.length c_5_8] l, hB g_4_7 70 #[.int .i64 (m.Kind), .int .i64 (m.Pos), .int .i64 (m.Answer), .int .i64 (m.Question), .string (m.Name), .slice B40 m.Args.length c41, .int .i64 (m.Value.Kind), .int .i64 (m.Value.N), .int .i64 (m.Count), .int .i64 (m.Tag.Vat), .int .i64 (m.Tag.Entity), .int .i64 (m.Tag.Seq)], hR ki_Wire 66 (.slice B40 m.Args.length c41) m.Args, hB g_0_0 70 #[.int .i64 (0), .int .i64 (0), .int .i64 (0), .int .i64 (0), .string (⟨#[]⟩), .slice none 0 0, .int .i64 (0), .int .i64 (0), .int .i64 (0), .int .i64 (0), .int .i64 (0), .int .i64 (0)]] W61 := Ha63.pick [1, 0, 2, 3, 4] (by decide) rfl; clear Ha63
  have H67 : St w F0 [hM ki_Channel (⟨f, t, ms⟩ : GChannel) [.int .i64 ((⟨f, t, m :: ms⟩ : GChannel).From), .int .i64 ((⟨f, t, m :: ms⟩ : GChannel).To), .slice B_5_8 ms.length c_5_8], hE ki_Channel 142 gf11 c0 k [.int .i64 ((⟨f, t, m :: ms⟩ : GChannel).From), .int .i64 ((⟨f, t, m :: ms⟩ : GChannel).To), .slice B_5_8 ms.length c_5_8] l, hB g_4_7 70 #[.int .i64 (m.Kind), .int .i64 (m.Pos), .int .i64 (m.Answer), .int .i64 (m.Question), .string (m.Name), .slice B40 m.Args.length c41, .int .i64 (m.Value.Kind), .int .i64 (m.Value.N), .int .i64 (m.Count), .int .i64 (m.Tag.Vat), .int .i64 (m.Tag.Entity), .int .i64 (m.Tag.Seq)], hR ki_Wire 66 (.slice B40 m.Args.length c41) m.Args, hB g_0_0 70 #[.int .i64 (0), .int .i64 (0), .int .i64 (0), .int .i64 (0), .string (⟨#[]⟩), .slice none 0 0, .int .i64 (0), .int .i64 (0), .int .i64 (0), .int .i64 (0), .int .i64 (0), .int .i64 (0)]] W61 := H66.swap (l0 := [hR ki_Message 70 (.slice B_5_8 ms.length c_5_8) ms]) (l' := [hM ki_Channel (⟨f, t, ms⟩ : GChannel) [.int .i64 ((⟨f, t, m :: ms⟩ : GChannel).From), .int .i64 ((⟨f, t, m :: ms⟩ : GChannel).To), .slice B_5_8 ms.length c_5_8]]) (fun _ h => Star.one (ki_Channel_close (x := (⟨f, t, ms⟩ : GChannel)) h)); clear H66
  have H68 : St w F0 [hE ki_Channel 142 gf11 c0 k [.int .i64 ((⟨f, t, m :: ms⟩ : GChannel).From), .int .i64 ((⟨f, t, m :: ms⟩ : GChannel).To), .slice B_5_8 ms.length c_5_8] l, hM ki_Channel (⟨f, t, ms⟩ : GChannel) [.int .i64 ((⟨f, t, m :: ms⟩ : GChannel).From), .int .i64 ((⟨f, t, m :: ms⟩ : GChannel).To), .slice B_5_8 ms.length c_5_8], hB g_4_7 70 #[.int .i64 (m.Kind), .int .i64 (m.Pos), .int .i64 (m.Answer), .int .i64 (m.Question), .string (m.Name), .slice B40 m.Args.length c41, .int .i64 (m.Value.Kind), .int .i64 (m.Value.N), .int .i64 (m.Count), .int .i64 (m.Tag.Vat), .int .i64 (m.Tag.Entity), .int .i64 (m.Tag.Seq)], hR ki_Wire 66 (.slice B40 m.Args.length c41) m.Args, hB g_0_0 70 #[.int .i64 (0), .int .i64 (0), .int .i64 (0), .int .i64 (0), .string (⟨#[]⟩), .slice none 0 0, .int .i64 (0), .int .i64 (0), .int .i64 (0), .int .i64 (0), .int .i64 (0), .int .i64 (0)]] W61 := H67.pick [1, 0, 2, 3, 4] (by decide) rfl; clear H67
  have H69 : St w F0 [hR ki_Channel 142 (.slice (some ⟨gf11, 0, none⟩) l.length c0) (l.set k ⟨f, t, ms⟩), hB g_4_7 70 #[.int .i64 (m.Kind), .int .i64 (m.Pos), .int .i64 (m.Answer), .int .i64 (m.Question), .string (m.Name), .slice B40 m.Args.length c41, .int .i64 (m.Value.Kind), .int .i64 (m.Value.N), .int .i64 (m.Count), .int .i64 (m.Tag.Vat), .int .i64 (m.Tag.Entity), .int .i64 (m.Tag.Seq)], hR ki_Wire 66 (.slice B40 m.Args.length c41) m.Args, hB g_0_0 70 #[.int .i64 (0), .int .i64 (0), .int .i64 (0), .int .i64 (0), .string (⟨#[]⟩), .slice none 0 0, .int .i64 (0), .int .i64 (0), .int .i64 (0), .int .i64 (0), .int .i64 (0), .int .i64 (0)]] W61 := H68.closeG rfl (List.length_set ..).symm; clear H68
  refine then_n ?_
  refine wp_seq ?_
  refine reg_seq [0, 1, 2] rfl ?_
  refine ops_cons ?_
  refine op_pure rfl (rn_loadB Try.isAgg70 Try.sizeOf70 rfl (H69.blk 1 rfl) rfl) rfl rfl ?_
  refine ops_cons ?_
  have H73 : St w F0 [hB g_0_0 70 #[.int .i64 (0), .int .i64 (0), .int .i64 (0), .int .i64 (0), .string (⟨#[]⟩), .slice none 0 0, .int .i64 (0), .int .i64 (0), .int .i64 (0), .int .i64 (0), .int .i64 (0), .int .i64 (0)], hR ki_Channel 142 (.slice (some ⟨gf11, 0, none⟩) l.length c0) (l.set k ⟨f, t, ms⟩), hB g_4_7 70 #[.int .i64 (m.Kind), .int .i64 (m.Pos), .int .i64 (m.Answer), .int .i64 (m.Question), .string (m.Name), .slice B40 m.Args.length c41, .int .i64 (m.Value.Kind), .int .i64 (m.Value.N), .int .i64 (m.Count), .int .i64 (m.Tag.Vat), .int .i64 (m.Tag.Entity), .int .i64 (m.Tag.Seq)], hR ki_Wire 66 (.slice B40 m.Args.length c41) m.Args] W61 := H69.pick [3, 0, 1, 2] (by decide) rfl; clear H69
  refine op_storeW rfl Try.sizeOf70 rfl rfl rfl rfl (by simp [Value.oneCell']) H73 ?_
  intro W70 hu71 Ha72; clear H73; clear hu71
  refine ops_cons ?_
  refine op_pure rfl (rn_assign rfl) rfl rfl ?_
  refine ops_nil ?_
  refine then_n ?_
  refine wp_ret ?_
  obtain ⟨e1, e2, e3⟩ := tk_yes a b l k hk hf f t m ms hx
  rw [e1, e2, e3]
  rw [List.length_set]
  refine post_cell_tmp (.inl rfl) Try.results92 Try.isAgg70 Try.sizeOf70 rfl rfl (Ha72.blk 0 rfl) rfl ?_
  have H75 : St w F0 [hR ki_Wire 66 (.slice B40 m.Args.length c41) m.Args, hB g_0_0 70 #[.int .i64 (m.Kind), .int .i64 (m.Pos), .int .i64 (m.Answer), .int .i64 (m.Question), .string (m.Name), .slice B40 m.Args.length c41, .int .i64 (m.Value.Kind), .int .i64 (m.Value.N), .int .i64 (m.Count), .int .i64 (m.Tag.Vat), .int .i64 (m.Tag.Entity), .int .i64 (m.Tag.Seq)], hR ki_Channel 142 (.slice (some ⟨gf11, 0, none⟩) l.length c0) (l.set k ⟨f, t, ms⟩), hB g_4_7 70 #[.int .i64 (m.Kind), .int .i64 (m.Pos), .int .i64 (m.Answer), .int .i64 (m.Question), .string (m.Name), .slice B40 m.Args.length c41, .int .i64 (m.Value.Kind), .int .i64 (m.Value.N), .int .i64 (m.Count), .int .i64 (m.Tag.Vat), .int .i64 (m.Tag.Entity), .int .i64 (m.Tag.Seq)]] W70 := Ha72.pick [3, 0, 1, 2] (by decide) rfl; clear Ha72
  have H76 : St w F0 [hM ki_Message m [.int .i64 (m.Kind), .int .i64 (m.Pos), .int .i64 (m.Answer), .int .i64 (m.Question), .string (m.Name), .slice B40 m.Args.length c41, .int .i64 (m.Value.Kind), .int .i64 (m.Value.N), .int .i64 (m.Count), .int .i64 (m.Tag.Vat), .int .i64 (m.Tag.Entity), .int .i64 (m.Tag.Seq)], hB g_0_0 70 #[.int .i64 (m.Kind), .int .i64 (m.Pos), .int .i64 (m.Answer), .int .i64 (m.Question), .string (m.Name), .slice B40 m.Args.length c41, .int .i64 (m.Value.Kind), .int .i64 (m.Value.N), .int .i64 (m.Count), .int .i64 (m.Tag.Vat), .int .i64 (m.Tag.Entity), .int .i64 (m.Tag.Seq)], hR ki_Channel 142 (.slice (some ⟨gf11, 0, none⟩) l.length c0) (l.set k ⟨f, t, ms⟩), hB g_4_7 70 #[.int .i64 (m.Kind), .int .i64 (m.Pos), .int .i64 (m.Answer), .int .i64 (m.Question), .string (m.Name), .slice B40 m.Args.length c41, .int .i64 (m.Value.Kind), .int .i64 (m.Value.N), .int .i64 (m.Count), .int .i64 (m.Tag.Vat), .int .i64 (m.Tag.Entity), .int .i64 (m.Tag.Seq)]] W70 := H75.swap (l0 := [hR ki_Wire 66 (.slice B40 m.Args.length c41) m.Args]) (l' := [hM ki_Message m [.int .i64 (m.Kind), .int .i64 (m.Pos), .int .i64 (m.Answer), .int .i64 (m.Question), .string (m.Name), .slice B40 m.Args.length c41, .int .i64 (m.Value.Kind), .int .i64 (m.Value.N), .int .i64 (m.Count), .int .i64 (m.Tag.Vat), .int .i64 (m.Tag.Entity), .int .i64 (m.Tag.Seq)]]) (fun _ h => Star.one (ki_Message_close (x := m) h)); clear H75
  exact ⟨_, rfl, H76.pick [2, 0] (by decide) rfl⟩
theorem take_i (l : List GChannel) (a b : Int) (A0 : Option Addr) (c0 : Nat) (F0 : Nat → Prop) (w : World) (h : Star [hR ki_Channel 142 (.slice A0 l.length c0) l] w F0) (hs : sznS szn_Channel l ≤ 1048576) : Calls Try.prog 92 #[.slice A0 l.length c0, .int .i64 a, .int .i64 b] w (fun e' w' => ∃ cs, e' = .returned (.tuple #[.agg (List.toArray cs), .bool (tkB a b l)]) ∧ St w F0 [hR ki_Channel 142 (.slice A0 (tkL a b l).length c0) (tkL a b l), hM ki_Message (tkM a b l) cs] w') := by
  rcases fidx_case (chP a b) l with hf | ⟨k, hk, hf⟩
  · exact take_no l a b A0 c0 F0 w h hf
  · have hx : l[k] = ⟨l[k].From, l[k].To, l[k].List⟩ := rfl
    revert hx
    have hb : l[k].List.length ≤ 1048576 := by
      have h1 := sumS_at szn_Channel l k hk
      unfold sznS at hs
      have h2 : l[k].List.length ≤ szn_Channel l[k] := by
        unfold szn_Channel sznS
        omega
      omega
    revert hb
    generalize l[k].From = f
    generalize l[k].To = t
    generalize l[k].List = ml
    intro hb hx
    cases ml with
    | nil => exact take_nil l a b A0 c0 F0 w h k hk hf f t hx
    | cons m ms =>
      have hms : ms.length ≤ 1048576 := by simp only [List.length_cons] at hb; omega
      exact take_yes l a b A0 c0 F0 w h k hk hf f t m ms hx hms
set_option maxHeartbeats 4000000 in
set_option maxRecDepth 100000 in
theorem takeS_no (l : List GChannel) (a b : Int) (A : Option Addr) (c : Nat) (w : World) (hC : C ki_Channel w A l) (hs : sznS szn_Channel l ≤ 1048576) (hf : fidx (chP a b) 0 l = -1) : Calls Try.prog 24 #[.slice A l.length c, .int .i64 a, .int .i64 b] w (RetTk ki_Channel 142 (tkL a b l) ki_Message (tkM a b l) (tkB a b l) w) := by
  refine enter 50 [(0, .slice A l.length c), (1, .int .i64 (a)), (2, .int .i64 (b))] Try.func24 rfl (by kernel_rfl) ?_
  intro xj
  have H1 : St w No [] w := St.enter
  have hn : l.length ≤ 1048576 := by unfold sznS at hs; omega
  have hs4 : sznS szn_Channel l ≤ 4194304 := by omega
  refine wp_seq ?_
  refine reg_seq [0, 1, 2] rfl ?_
  refine ops_cons ?_
  refine op_pure rfl (rn_assign rfl) rfl rfl ?_
  refine ops_cons ?_
  refine op_alloc rfl Try.zeroValue70 rfl rfl H1 ?_
  intro g_0_1 W2 hu3 Ha4; clear H1; clear hu3
  refine ops_cons ?_
  refine op_pure rfl (rn_assign rfl) rfl rfl ?_
  refine ops_nil ?_
  refine then_n ?_
  refine wp_seq ?_
  refine reg_seq [0, 1, 2] rfl ?_
  refine ops_cons ?_
  refine op_pure rfl (rn_move rfl) rfl rfl ?_
  refine ops_cons ?_
  refine op_call rfl Try.call86 (vs := #[.slice A l.length c]) rfl rfl rfl (l20Copy_s l _ _ _ (C_upd Ha4.1 hC) hs4) ?_
  rintro e10 W9 ⟨v6, rfl, hR7, hu8⟩; refine ⟨_, rfl, ?_⟩
  obtain ⟨B_1_1, c_1_1, rfl⟩ := R_slice hR7
  have H11 := Ha4.new (q := hR ki_Channel 142 (.slice B_1_1 l.length c_1_1) l) hu8 hR7; clear Ha4
  refine ops_cons ?_
  refine op_pure rfl (rn_assign rfl) rfl rfl ?_
  refine ops_nil ?_
  refine then_n ?_
  refine wp_seq ?_
  refine reg_seq [0, 1, 2, 3, 4] rfl ?_
  refine ops_cons ?_
  refine op_pure rfl (rn_move rfl) rfl rfl ?_
  refine ops_cons ?_
  refine op_pure rfl (rn_move rfl) rfl rfl ?_
  refine ops_cons ?_
  refine op_pure rfl (rn_move rfl) rfl rfl ?_
  refine ops_cons ?_
  refine op_call rfl Try.call87 (vs := #[.slice A l.length c, .int .i64 (a), .int .i64 (b)]) rfl rfl rfl (l20Find_q l a b (-1) hf _ _ _ (C_upd H11.1 hC) hn) ?_
  rintro e14 W13 ⟨rfl, hu12⟩; refine ⟨_, rfl, ?_⟩
  have H15 := H11.no hu12; clear H11
  refine ops_cons ?_
  refine op_pure rfl (rn_assign rfl) rfl rfl ?_
  refine ops_nil ?_
  refine then_n ?_
  refine wp_seq ?_
  refine wp_seq ?_
  refine reg_seq [0, 1, 2, 3, 4, 5, 6, 7, 8, 9, 10] rfl ?_
  refine ops_cons ?_
  refine op_pure rfl (rn_move rfl) rfl rfl ?_
  refine ops_cons ?_
  refine op_pure rfl (rn_decT (p := ((-1) : Int) < 0) (by decide) (rn_lss (p := (-1)) (q := 0) rfl rfl)) rfl rfl ?_
  refine ops_cons ?_
  refine op_pure rfl (rn_move rfl) rfl rfl ?_
  refine ops_cons ?_
  refine op_skipG rfl rfl rfl rfl rfl rfl rfl ?_
  refine ops_cons ?_
  refine op_skipG rfl rfl rfl rfl rfl rfl rfl ?_
  refine ops_cons ?_
  refine op_skipG rfl rfl rfl rfl rfl rfl rfl ?_
  refine ops_cons ?_
  refine op_skipG rfl rfl rfl rfl rfl rfl rfl ?_
  refine ops_cons ?_
  refine op_skipG rfl rfl rfl rfl rfl rfl rfl ?_
  refine ops_cons ?_
  refine op_skipG rfl rfl rfl rfl rfl rfl rfl ?_
  refine ops_cons ?_
  refine op_skipG rfl rfl rfl rfl rfl rfl rfl ?_
  refine ops_cons ?_
  refine op_pure rfl (rn_pick (v := .bool (true)) (b := true) rfl rfl rfl rfl) rfl rfl ?_
  refine ops_nil ?_
  refine then_n ?_
  refine cond_t rfl ?_
  refine wp_seq ?_
  refine reg_seq [0, 1, 2, 3, 4] rfl ?_
  refine ops_cons ?_
  refine op_pure rfl (rn_move rfl) rfl rfl ?_
  refine ops_cons ?_
  refine op_pure rfl (rn_build (vs := []) (cells := #[.int .i64 (0), .int .i64 (0), .int .i64 (0), .int .i64 (0), .string (⟨#[]⟩), .slice none 0 0, .int .i64 (0), .int .i64 (0), .int .i64 (0), .int .i64 (0), .int .i64 (0), .int .i64 (0)]) rfl (by kernel_rfl)) rfl rfl ?_
  refine ops_cons ?_
  refine op_pure rfl (rn_assign rfl) rfl rfl ?_
  refine ops_cons ?_
  have H19 : St w No [hB g_0_1 70 #[.int .i64 (0), .int .i64 (0), .int .i64 (0), .int .i64 (0), .string (⟨#[]⟩), .slice none 0 0, .int .i64 (0), .int .i64 (0), .int .i64 (0), .int .i64 (0), .int .i64 (0), .int .i64 (0)], hR ki_Channel 142 (.slice B_1_1 l.length c_1_1) l] W13 := H15.pick [1, 0] (by decide) rfl; clear H15
  refine op_storeW rfl Try.sizeOf70 rfl rfl rfl rfl (by simp [Value.oneCell']) H19 ?_
  intro W16 hu17 Ha18; clear H19; clear hu17
  refine ops_cons ?_
  refine op_pure rfl (rn_assign rfl) rfl rfl ?_
  refine ops_nil ?_
  refine then_n ?_
  refine wp_ret ?_
  refine then_r ?_
  obtain ⟨e1, e2, e3⟩ := tk_no a b l hf
  rw [e1, e2, e3]
  refine post_tmp_cell_tmp (.inl rfl) Try.results24 Try.isAgg70 Try.sizeOf70 rfl rfl rfl (Ha18.blk 0 rfl) rfl ?_
  have H21 : St w No [hR ki_Wire 66 (.slice none 0 0) ([]), hB g_0_1 70 #[.int .i64 (0), .int .i64 (0), .int .i64 (0), .int .i64 (0), .string (⟨#[]⟩), .slice none 0 0, .int .i64 (0), .int .i64 (0), .int .i64 (0), .int .i64 (0), .int .i64 (0), .int .i64 (0)], hR ki_Channel 142 (.slice B_1_1 l.length c_1_1) l] W16 := Ha18.add0 (q := hR ki_Wire 66 (.slice none 0 0) []) R_nil; clear Ha18
  have H22 : St w No [hM ki_Message zMessage [.int .i64 (0), .int .i64 (0), .int .i64 (0), .int .i64 (0), .string (⟨#[]⟩), .slice none 0 0, .int .i64 (0), .int .i64 (0), .int .i64 (0), .int .i64 (0), .int .i64 (0), .int .i64 (0)], hB g_0_1 70 #[.int .i64 (0), .int .i64 (0), .int .i64 (0), .int .i64 (0), .string (⟨#[]⟩), .slice none 0 0, .int .i64 (0), .int .i64 (0), .int .i64 (0), .int .i64 (0), .int .i64 (0), .int .i64 (0)], hR ki_Channel 142 (.slice B_1_1 l.length c_1_1) l] W16 := H21.swap (l0 := [hR ki_Wire 66 (.slice none 0 0) ([])]) (l' := [hM ki_Message zMessage [.int .i64 (0), .int .i64 (0), .int .i64 (0), .int .i64 (0), .string (⟨#[]⟩), .slice none 0 0, .int .i64 (0), .int .i64 (0), .int .i64 (0), .int .i64 (0), .int .i64 (0), .int .i64 (0)]]) (fun _ h => Star.one (ki_Message_close (x := zMessage) h)); clear H21
  exact ⟨_, _, _, rfl, (H22.pick [2, 0] (by decide) rfl).star, H22.1⟩
set_option maxHeartbeats 4000000 in
set_option maxRecDepth 100000 in
theorem takeS_nil (l : List GChannel) (a b : Int) (A : Option Addr) (c : Nat) (w : World) (hC : C ki_Channel w A l) (hs : sznS szn_Channel l ≤ 1048576) (k : Nat) (hk : k < l.length) (hf : fidx (chP a b) 0 l = (k : Int)) (f t : Int) (hx : l[k] = ⟨f, t, []⟩) : Calls Try.prog 24 #[.slice A l.length c, .int .i64 a, .int .i64 b] w (RetTk ki_Channel 142 (tkL a b l) ki_Message (tkM a b l) (tkB a b l) w) := by
  refine enter 50 [(0, .slice A l.length c), (1, .int .i64 (a)), (2, .int .i64 (b))] Try.func24 rfl (by kernel_rfl) ?_
  intro xj
  have H1 : St w No [] w := St.enter
  have hn : l.length ≤ 1048576 := by unfold sznS at hs; omega
  have hs4 : sznS szn_Channel l ≤ 4194304 := by omega
  refine wp_seq ?_
  refine reg_seq [0, 1, 2] rfl ?_
  refine ops_cons ?_
  refine op_pure rfl (rn_assign rfl) rfl rfl ?_
  refine ops_cons ?_
  refine op_alloc rfl Try.zeroValue70 rfl rfl H1 ?_
  intro g_0_1 W2 hu3 Ha4; clear H1; clear hu3
  refine ops_cons ?_
  refine op_pure rfl (rn_assign rfl) rfl rfl ?_
  refine ops_nil ?_
  refine then_n ?_
  refine wp_seq ?_
  refine reg_seq [0, 1, 2] rfl ?_
  refine ops_cons ?_
  refine op_pure rfl (rn_move rfl) rfl rfl ?_
  refine ops_cons ?_
  refine op_call rfl Try.call86 (vs := #[.slice A l.length c]) rfl rfl rfl (l20Copy_s l _ _ _ (C_upd Ha4.1 hC) hs4) ?_
  rintro e10 W9 ⟨v6, rfl, hR7, hu8⟩; refine ⟨_, rfl, ?_⟩
  obtain ⟨B_1_1, c_1_1, rfl⟩ := R_slice hR7
  have H11 := Ha4.new (q := hR ki_Channel 142 (.slice B_1_1 l.length c_1_1) l) hu8 hR7; clear Ha4
  refine ops_cons ?_
  refine op_pure rfl (rn_assign rfl) rfl rfl ?_
  refine ops_nil ?_
  refine then_n ?_
  refine wp_seq ?_
  refine reg_seq [0, 1, 2, 3, 4] rfl ?_
  refine ops_cons ?_
  refine op_pure rfl (rn_move rfl) rfl rfl ?_
  refine ops_cons ?_
  refine op_pure rfl (rn_move rfl) rfl rfl ?_
  refine ops_cons ?_
  refine op_pure rfl (rn_move rfl) rfl rfl ?_
  refine ops_cons ?_
  refine op_call rfl Try.call87 (vs := #[.slice A l.length c, .int .i64 (a), .int .i64 (b)]) rfl rfl rfl (l20Find_q l a b ((k : Nat) : Int) hf _ _ _ (C_upd H11.1 hC) hn) ?_
  rintro e14 W13 ⟨rfl, hu12⟩; refine ⟨_, rfl, ?_⟩
  have H15 := H11.no hu12; clear H11
  refine ops_cons ?_
  refine op_pure rfl (rn_assign rfl) rfl rfl ?_
  refine ops_nil ?_
  refine then_n ?_
  refine wp_seq ?_
  refine wp_seq ?_
  obtain ⟨ade16, cse16, hAe16, hKe16, hce16⟩ := C_elem hC k hk
  have hle16 := ki_Channel_len hKe16
  have hoe16 := ki_Channel_one hKe16
  rw [hx] at hKe16
  obtain ⟨Aade16_2, cade16_2, rfl, hlade16_2, hCade16_2⟩ := ki_Channel_K hKe16
  refine reg_seq [0, 1, 2, 3, 4, 5, 6, 7, 8, 9, 10] rfl ?_
  refine ops_cons ?_
  refine op_pure rfl (rn_move rfl) rfl rfl ?_
  refine ops_cons ?_
  refine op_pure rfl (rn_decF (p := (((k : Nat) : Int) : Int) < 0) (by omega) (rn_lss (p := ((k : Nat) : Int)) (q := 0) rfl rfl)) rfl rfl ?_
  refine ops_cons ?_
  refine op_pure rfl (rn_move rfl) rfl rfl ?_
  refine ops_cons ?_
  refine op_G rfl rfl rfl rfl (fun _ ho17 => ?_)
  refine op_pure ho17 (rn_move rfl) rfl rfl ?_
  refine ops_cons ?_
  refine op_G rfl rfl rfl rfl (fun _ ho18 => ?_)
  refine op_pure ho18 (rn_move rfl) rfl rfl ?_
  refine ops_cons ?_
  refine op_G rfl rfl rfl rfl (fun _ ho19 => ?_)
  refine op_pure ho19 (rn_indexA (k := k) Try.runUnderlying64 Try.sizeOf142 rfl rfl hAe16 hk) rfl rfl ?_
  refine ops_cons ?_
  refine op_G rfl rfl rfl rfl (fun _ ho20 => ?_)
  refine op_pure ho20 (rn_field fa_142_2 rfl) rfl rfl ?_
  refine ops_cons ?_
  refine op_G rfl rfl rfl rfl (fun _ ho21 => ?_)
  refine op_pure ho21 (rn_loadE (v := .slice Aade16_2 ((⟨f, t, []⟩ : GChannel).List.length) cade16_2) Try.isAgg140 rfl (Cat.upd hce16 H15.1) rfl) rfl rfl ?_
  refine ops_cons ?_
  refine op_G rfl rfl rfl rfl (fun _ ho22 => ?_)
  refine op_pure ho22 (rn_len Try.runUnderlying140 rfl) rfl rfl ?_
  refine ops_cons ?_
  refine op_G rfl rfl rfl rfl (fun _ ho23 => ?_)
  refine op_pure ho23 (rn_decT (p := (((⟨f, t, []⟩ : GChannel).List.length : Nat) : Int) = 0) rfl (rn_eql (p := ((⟨f, t, []⟩ : GChannel).List.length : Nat)) (q := 0) rfl rfl)) rfl rfl ?_
  refine ops_cons ?_
  refine op_pure rfl (rn_pick (v := .bool (true)) (b := false) rfl rfl rfl rfl) rfl rfl ?_
  refine ops_nil ?_
  refine then_n ?_
  refine cond_t rfl ?_
  refine wp_seq ?_
  refine reg_seq [0, 1, 2, 3, 4] rfl ?_
  refine ops_cons ?_
  refine op_pure rfl (rn_move rfl) rfl rfl ?_
  refine ops_cons ?_
  refine op_pure rfl (rn_build (vs := []) (cells := #[.int .i64 (0), .int .i64 (0), .int .i64 (0), .int .i64 (0), .string (⟨#[]⟩), .slice none 0 0, .int .i64 (0), .int .i64 (0), .int .i64 (0), .int .i64 (0), .int .i64 (0), .int .i64 (0)]) rfl (by kernel_rfl)) rfl rfl ?_
  refine ops_cons ?_
  refine op_pure rfl (rn_assign rfl) rfl rfl ?_
  refine ops_cons ?_
  have H27 : St w No [hB g_0_1 70 #[.int .i64 (0), .int .i64 (0), .int .i64 (0), .int .i64 (0), .string (⟨#[]⟩), .slice none 0 0, .int .i64 (0), .int .i64 (0), .int .i64 (0), .int .i64 (0), .int .i64 (0), .int .i64 (0)], hR ki_Channel 142 (.slice B_1_1 l.length c_1_1) l] W13 := H15.pick [1, 0] (by decide) rfl; clear H15
  refine op_storeW rfl Try.sizeOf70 rfl rfl rfl rfl (by simp [Value.oneCell']) H27 ?_
  intro W24 hu25 Ha26; clear H27; clear hu25
  refine ops_cons ?_
  refine op_pure rfl (rn_assign rfl) rfl rfl ?_
  refine ops_nil ?_
  refine then_n ?_
  refine wp_ret ?_
  refine then_r ?_
  obtain ⟨e1, e2, e3⟩ := tk_nil a b l k hk hf f t hx
  rw [e1, e2, e3]
  refine post_tmp_cell_tmp (.inl rfl) Try.results24 Try.isAgg70 Try.sizeOf70 rfl rfl rfl (Ha26.blk 0 rfl) rfl ?_
  have H29 : St w No [hR ki_Wire 66 (.slice none 0 0) ([]), hB g_0_1 70 #[.int .i64 (0), .int .i64 (0), .int .i64 (0), .int .i64 (0), .string (⟨#[]⟩), .slice none 0 0, .int .i64 (0), .int .i64 (0), .int .i64 (0), .int .i64 (0), .int .i64 (0), .int .i64 (0)], hR ki_Channel 142 (.slice B_1_1 l.length c_1_1) l] W24 := Ha26.add0 (q := hR ki_Wire 66 (.slice none 0 0) []) R_nil; clear Ha26
  have H30 : St w No [hM ki_Message zMessage [.int .i64 (0), .int .i64 (0), .int .i64 (0), .int .i64 (0), .string (⟨#[]⟩), .slice none 0 0, .int .i64 (0), .int .i64 (0), .int .i64 (0), .int .i64 (0), .int .i64 (0), .int .i64 (0)], hB g_0_1 70 #[.int .i64 (0), .int .i64 (0), .int .i64 (0), .int .i64 (0), .string (⟨#[]⟩), .slice none 0 0, .int .i64 (0), .int .i64 (0), .int .i64 (0), .int .i64 (0), .int .i64 (0), .int .i64 (0)], hR ki_Channel 142 (.slice B_1_1 l.length c_1_1) l] W24 := H29.swap (l0 := [hR ki_Wire 66 (.slice none 0 0) ([])]) (l' := [hM ki_Message zMessage [.int .i64 (0), .int .i64 (0), .int .i64 (0), .int .i64 (0), .string (⟨#[]⟩), .slice none 0 0, .int .i64 (0), .int .i64 (0), .int .i64 (0), .int .i64 (0), .int .i64 (0), .int .i64 (0)]]) (fun _ h => Star.one (ki_Message_close (x := zMessage) h)); clear H29
  exact ⟨_, _, _, rfl, (H30.pick [2, 0] (by decide) rfl).star, H30.1⟩
set_option maxHeartbeats 4000000 in
set_option maxRecDepth 100000 in
theorem takeS_yes (l : List GChannel) (a b : Int) (A : Option Addr) (c : Nat) (w : World) (hC : C ki_Channel w A l) (hs : sznS szn_Channel l ≤ 1048576) (k : Nat) (hk : k < l.length) (hf : fidx (chP a b) 0 l = (k : Int)) (f t : Int) (m : GMessage) (ms : List GMessage) (hx : l[k] = ⟨f, t, m :: ms⟩) (hms : ms.length ≤ 1048576) : Calls Try.prog 24 #[.slice A l.length c, .int .i64 a, .int .i64 b] w (RetTk ki_Channel 142 (tkL a b l) ki_Message (tkM a b l) (tkB a b l) w) := by
  refine enter 50 [(0, .slice A l.length c), (1, .int .i64 (a)), (2, .int .i64 (b))] Try.func24 rfl (by kernel_rfl) ?_
  intro xj
  have H1 : St w No [] w := St.enter
  have hn : l.length ≤ 1048576 := by unfold sznS at hs; omega
  have hs4 : sznS szn_Channel l ≤ 4194304 := by omega
  have hst : szn_Channel l[k] ≤ 1048576 := by have h1 := sumS_at szn_Channel l k hk; unfold sznS at hs; omega
  rw [hx] at hst
  have hst2 : sznS szn_Message ms ≤ 4194304 := by unfold szn_Channel sznS at hst; simp only [sumS, List.length_cons] at hst; unfold sznS; omega
  have hst3 : szn_Message m ≤ 4194304 := by unfold szn_Channel sznS at hst; simp only [sumS, List.length_cons] at hst; omega
  refine wp_seq ?_
  refine reg_seq [0, 1, 2] rfl ?_
  refine ops_cons ?_
  refine op_pure rfl (rn_assign rfl) rfl rfl ?_
  refine ops_cons ?_
  refine op_alloc rfl Try.zeroValue70 rfl rfl H1 ?_
  intro g_0_1 W2 hu3 Ha4; clear H1; clear hu3
  refine ops_cons ?_
  refine op_pure rfl (rn_assign rfl) rfl rfl ?_
  refine ops_nil ?_
  refine then_n ?_
  refine wp_seq ?_
  refine reg_seq [0, 1, 2] rfl ?_
  refine ops_cons ?_
  refine op_pure rfl (rn_move rfl) rfl rfl ?_
  refine ops_cons ?_
  refine op_call rfl Try.call86 (vs := #[.slice A l.length c]) rfl rfl rfl (l20Copy_s l _ _ _ (C_upd Ha4.1 hC) hs4) ?_
  rintro e10 W9 ⟨v6, rfl, hR7, hu8⟩; refine ⟨_, rfl, ?_⟩
  obtain ⟨B_1_1, c_1_1, rfl⟩ := R_slice hR7
  have H11 := Ha4.new (q := hR ki_Channel 142 (.slice B_1_1 l.length c_1_1) l) hu8 hR7; clear Ha4
  refine ops_cons ?_
  refine op_pure rfl (rn_assign rfl) rfl rfl ?_
  refine ops_nil ?_
  refine then_n ?_
  refine wp_seq ?_
  refine reg_seq [0, 1, 2, 3, 4] rfl ?_
  refine ops_cons ?_
  refine op_pure rfl (rn_move rfl) rfl rfl ?_
  refine ops_cons ?_
  refine op_pure rfl (rn_move rfl) rfl rfl ?_
  refine ops_cons ?_
  refine op_pure rfl (rn_move rfl) rfl rfl ?_
  refine ops_cons ?_
  refine op_call rfl Try.call87 (vs := #[.slice A l.length c, .int .i64 (a), .int .i64 (b)]) rfl rfl rfl (l20Find_q l a b ((k : Nat) : Int) hf _ _ _ (C_upd H11.1 hC) hn) ?_
  rintro e14 W13 ⟨rfl, hu12⟩; refine ⟨_, rfl, ?_⟩
  have H15 := H11.no hu12; clear H11
  refine ops_cons ?_
  refine op_pure rfl (rn_assign rfl) rfl rfl ?_
  refine ops_nil ?_
  refine then_n ?_
  refine wp_seq ?_
  refine wp_seq ?_
  obtain ⟨ade16, cse16, hAe16, hKe16, hce16⟩ := C_elem hC k hk
  have hle16 := ki_Channel_len hKe16
  have hoe16 := ki_Channel_one hKe16
  rw [hx] at hKe16
  obtain ⟨Aade16_2, cade16_2, rfl, hlade16_2, hCade16_2⟩ := ki_Channel_K hKe16
  refine reg_seq [0, 1, 2, 3, 4, 5, 6, 7, 8, 9, 10] rfl ?_
  refine ops_cons ?_
  refine op_pure rfl (rn_move rfl) rfl rfl ?_
  refine ops_cons ?_
  refine op_pure rfl (rn_decF (p := (((k : Nat) : Int) : Int) < 0) (by omega) (rn_lss (p := ((k : Nat) : Int)) (q := 0) rfl rfl)) rfl rfl ?_
  refine ops_cons ?_
  refine op_pure rfl (rn_move rfl) rfl rfl ?_
  refine ops_cons ?_
  refine op_G rfl rfl rfl rfl (fun _ ho17 => ?_)
  refine op_pure ho17 (rn_move rfl) rfl rfl ?_
  refine ops_cons ?_
  refine op_G rfl rfl rfl rfl (fun _ ho18 => ?_)
  refine op_pure ho18 (rn_move rfl) rfl rfl ?_
  refine ops_cons ?_
  refine op_G rfl rfl rfl rfl (fun _ ho19 => ?_)
  refine op_pure ho19 (rn_indexA (k := k) Try.runUnderlying64 Try.sizeOf142 rfl rfl hAe16 hk) rfl rfl ?_
  refine ops_cons ?_
  refine op_G rfl rfl rfl rfl (fun _ ho20 => ?_)
  refine op_pure ho20 (rn_field fa_142_2 rfl) rfl rfl ?_
  refine ops_cons ?_
  refine op_G rfl rfl rfl rfl (fun _ ho21 => ?_)
  refine op_pure ho21 (rn_loadE (v := .slice Aade16_2 ((⟨f, t, m :: ms⟩ : GChannel).List.length) cade16_2) Try.isAgg140 rfl (Cat.upd hce16 H15.1) rfl) rfl rfl ?_
  refine ops_cons ?_
  refine op_G rfl rfl rfl rfl (fun _ ho22 => ?_)
  refine op_pure ho22 (rn_len Try.runUnderlying140 rfl) rfl rfl ?_
  refine ops_cons ?_
  refine op_G rfl rfl rfl rfl (fun _ ho23 => ?_)
  refine op_pure ho23 (rn_decF (p := (((⟨f, t, m :: ms⟩ : GChannel).List.length : Nat) : Int) = 0) (by intro h; cases h) (rn_eql (p := ((⟨f, t, m :: ms⟩ : GChannel).List.length : Nat)) (q := 0) rfl rfl)) rfl rfl ?_
  refine ops_cons ?_
  refine op_pure rfl (rn_pick (v := .bool (false)) (b := false) rfl rfl rfl rfl) rfl rfl ?_
  refine ops_nil ?_
  refine then_n ?_
  refine cond_f rfl ?_
  refine wp_skip ?_
  refine then_n ?_
  refine wp_seq ?_
  obtain ⟨At, hAt, hCt⟩ : ∃ At : Option Addr, (if cade16_2 = 1 then Aade16_2 else (Aade16_2).map (·.add (1 * 12))) = At ∧ C ki_Message w At ms := ⟨_, rfl, C_tail (y := m) hCade16_2 hlade16_2⟩
  obtain ⟨gf24, rfl⟩ := H15.openS (q := k) hk
  obtain ⟨ce25, hn26, H27⟩ := H15.openG (q := k) hk; clear H15
  rw [hx] at H27
  have H28 : St w No [hE ki_Channel 142 gf24 c_1_1 k ce25 l, hM ki_Channel (⟨f, t, m :: ms⟩ : GChannel) ce25, hB g_0_1 70 #[.int .i64 (0), .int .i64 (0), .int .i64 (0), .int .i64 (0), .string (⟨#[]⟩), .slice none 0 0, .int .i64 (0), .int .i64 (0), .int .i64 (0), .int .i64 (0), .int .i64 (0), .int .i64 (0)]] W13 := H27; clear H27
  have H35 : St w No [hM ki_Channel (⟨f, t, m :: ms⟩ : GChannel) ce25, hE ki_Channel 142 gf24 c_1_1 k ce25 l, hB g_0_1 70 #[.int .i64 (0), .int .i64 (0), .int .i64 (0), .int .i64 (0), .string (⟨#[]⟩), .slice none 0 0, .int .i64 (0), .int .i64 (0), .int .i64 (0), .int .i64 (0), .int .i64 (0), .int .i64 (0)]] W13 := H28.pick [1, 0, 2] (by decide) rfl; clear H28
  obtain ⟨F29, hM30, hb31⟩ := H35.unM
  obtain ⟨B33, c34, rfl, hst32⟩ := ki_Channel_open hM30
  have H36 : St w No [hR ki_Message 70 (.slice B33 ((⟨f, t, m :: ms⟩ : GChannel).List.length) c34) ((⟨f, t, m :: ms⟩ : GChannel).List), hE ki_Channel 142 gf24 c_1_1 k [.int .i64 ((⟨f, t, m :: ms⟩ : GChannel).From), .int .i64 ((⟨f, t, m :: ms⟩ : GChannel).To), .slice B33 ((⟨f, t, m :: ms⟩ : GChannel).List.length) c34] l, hB g_0_1 70 #[.int .i64 (0), .int .i64 (0), .int .i64 (0), .int .i64 (0), .string (⟨#[]⟩), .slice none 0 0, .int .i64 (0), .int .i64 (0), .int .i64 (0), .int .i64 (0), .int .i64 (0), .int .i64 (0)]] W13 := hb31 _ hst32; clear H35
  refine reg_seq [0, 1, 2, 3, 4, 5, 6, 7, 8, 9, 10, 11] rfl ?_
  refine ops_cons ?_
  refine op_pure rfl (rn_move rfl) rfl rfl ?_
  refine ops_cons ?_
  refine op_pure rfl (rn_move rfl) rfl rfl ?_
  refine ops_cons ?_
  refine op_pure rfl (rn_move rfl) rfl rfl ?_
  refine ops_cons ?_
  refine op_pure rfl (rn_move rfl) rfl rfl ?_
  refine ops_cons ?_
  refine op_pure rfl (rn_indexA (k := k) Try.runUnderlying64 Try.sizeOf142 rfl rfl hAe16 hk) rfl rfl ?_
  refine ops_cons ?_
  refine op_pure rfl (rn_field fa_142_2 rfl) rfl rfl ?_
  refine ops_cons ?_
  refine op_pure rfl (rn_loadE (v := .slice Aade16_2 ((⟨f, t, m :: ms⟩ : GChannel).List.length) cade16_2) Try.isAgg140 rfl (Cat.upd hce16 H36.1) rfl) rfl rfl ?_
  refine ops_cons ?_
  refine op_pure rfl (rn_sliceL (k := 1) Try.underlying140 Try.sizeOf70 rfl rfl (Nat.le_add_left 1 _) hAt rfl rfl) rfl rfl ?_
  refine ops_cons ?_
  refine op_call rfl Try.call88 (vs := #[.slice At ms.length (cade16_2 - 1)]) rfl rfl rfl (l20CopyList_s ms _ _ _ (C_upd H36.1 hCt) hst2) ?_
  rintro e41 W40 ⟨v37, rfl, hR38, hu39⟩; refine ⟨_, rfl, ?_⟩
  obtain ⟨B_5_8, c_5_8, rfl⟩ := R_slice hR38
  have H42 := H36.new (q := hR ki_Message 70 (.slice B_5_8 ms.length c_5_8) ms) hu39 hR38; clear H36
  refine ops_cons ?_
  refine op_pure rfl (rn_indexA (k := k) Try.runUnderlying64 Try.sizeOf142 rfl rfl rfl (Nat.lt_of_lt_of_eq hk hn26.symm)) rfl rfl ?_
  refine ops_cons ?_
  refine op_pure rfl (rn_field fa_142_2 rfl) rfl rfl ?_
  refine ops_cons ?_
  have H46 : St w No [hE ki_Channel 142 gf24 c_1_1 k [.int .i64 ((⟨f, t, m :: ms⟩ : GChannel).From), .int .i64 ((⟨f, t, m :: ms⟩ : GChannel).To), .slice B33 ((⟨f, t, m :: ms⟩ : GChannel).List.length) c34] l, hR ki_Message 70 (.slice B_5_8 ms.length c_5_8) ms, hR ki_Message 70 (.slice B33 ((⟨f, t, m :: ms⟩ : GChannel).List.length) c34) ((⟨f, t, m :: ms⟩ : GChannel).List), hB g_0_1 70 #[.int .i64 (0), .int .i64 (0), .int .i64 (0), .int .i64 (0), .string (⟨#[]⟩), .slice none 0 0, .int .i64 (0), .int .i64 (0), .int .i64 (0), .int .i64 (0), .int .i64 (0), .int .i64 (0)]] W40 := H42.pick [2, 0, 1, 3] (by decide) rfl; clear H42
  refine op_storeE (dk := ki_Channel) (k := 2) (ce' := [.int .i64 ((⟨f, t, m :: ms⟩ : GChannel).From), .int .i64 ((⟨f, t, m :: ms⟩ : GChannel).To), .slice B_5_8 ms.length c_5_8]) rfl Try.sizeOf140 rfl rfl rfl rfl (Nat.le_of_ble_eq_true rfl) (by simp [Value.cells, Value.oneCell']) rfl H46 ?_
  intro W43 hu44 Ha45; clear H46; clear hu44
  refine ops_nil ?_
  have H48 : St w No [hR ki_Message 70 (.slice B_5_8 ms.length c_5_8) ms, hE ki_Channel 142 gf24 c_1_1 k [.int .i64 ((⟨f, t, m :: ms⟩ : GChannel).From), .int .i64 ((⟨f, t, m :: ms⟩ : GChannel).To), .slice B_5_8 ms.length c_5_8] l, hR ki_Message 70 (.slice B33 ((⟨f, t, m :: ms⟩ : GChannel).List.length) c34) ((⟨f, t, m :: ms⟩ : GChannel).List), hB g_0_1 70 #[.int .i64 (0), .int .i64 (0), .int .i64 (0), .int .i64 (0), .string (⟨#[]⟩), .slice none 0 0, .int .i64 (0), .int .i64 (0), .int .i64 (0), .int .i64 (0), .int .i64 (0), .int .i64 (0)]] W43 := Ha45.pick [1, 0, 2, 3] (by decide) rfl; clear Ha45
  have H49 : St w No [hM ki_Channel (⟨f, t, ms⟩ : GChannel) [.int .i64 ((⟨f, t, m :: ms⟩ : GChannel).From), .int .i64 ((⟨f, t, m :: ms⟩ : GChannel).To), .slice B_5_8 ms.length c_5_8], hE ki_Channel 142 gf24 c_1_1 k [.int .i64 ((⟨f, t, m :: ms⟩ : GChannel).From), .int .i64 ((⟨f, t, m :: ms⟩ : GChannel).To), .slice B_5_8 ms.length c_5_8] l, hR ki_Message 70 (.slice B33 ((⟨f, t, m :: ms⟩ : GChannel).List.length) c34) ((⟨f, t, m :: ms⟩ : GChannel).List), hB g_0_1 70 #[.int .i64 (0), .int .i64 (0), .int .i64 (0), .int .i64 (0), .string (⟨#[]⟩), .slice none 0 0, .int .i64 (0), .int .i64 (0), .int .i64 (0), .int .i64 (0), .int .i64 (0), .int .i64 (0)]] W43 := H48.swap (l0 := [hR ki_Message 70 (.slice B_5_8 ms.length c_5_8) ms]) (l' := [hM ki_Channel (⟨f, t, ms⟩ : GChannel) [.int .i64 ((⟨f, t, m :: ms⟩ : GChannel).From), .int .i64 ((⟨f, t, m :: ms⟩ : GChannel).To), .slice B_5_8 ms.length c_5_8]]) (fun _ h => Star.one (ki_Channel_close (x := (⟨f, t, ms⟩ : GChannel)) h)); clear H48
  have H50 : St w No [hE ki_Channel 142 gf24 c_1_1 k [.int .i64 ((⟨f, t, m :: ms⟩ : GChannel).From), .int .i64 ((⟨f, t, m :: ms⟩ : GChannel).To), .slice B_5_8 ms.length c_5_8] l, hM ki_Channel (⟨f, t, ms⟩ : GChannel) [.int .i64 ((⟨f, t, m :: ms⟩ : GChannel).From), .int .i64 ((⟨f, t, m :: ms⟩ : GChannel).To), .slice B_5_8 ms.length c_5_8], hR ki_Message 70 (.slice B33 ((⟨f, t, m :: ms⟩ : GChannel).List.length) c34) ((⟨f, t, m :: ms⟩ : GChannel).List), hB g_0_1 70 #[.int .i64 (0), .int .i64 (0), .int .i64 (0), .int .i64 (0), .string (⟨#[]⟩), .slice none 0 0, .int .i64 (0), .int .i64 (0), .int .i64 (0), .int .i64 (0), .int .i64 (0), .int .i64 (0)]] W43 := H49.pick [1, 0, 2, 3] (by decide) rfl; clear H49
  have H51 : St w No [hR ki_Channel 142 (.slice (some ⟨gf24, 0, none⟩) l.length c_1_1) (l.set k ⟨f, t, ms⟩), hR ki_Message 70 (.slice B33 ((⟨f, t, m :: ms⟩ : GChannel).List.length) c34) ((⟨f, t, m :: ms⟩ : GChannel).List), hB g_0_1 70 #[.int .i64 (0), .int .i64 (0), .int .i64 (0), .int .i64 (0), .string (⟨#[]⟩), .slice none 0 0, .int .i64 (0), .int .i64 (0), .int .i64 (0), .int .i64 (0), .int .i64 (0), .int .i64 (0)]] W43 := H50.closeG rfl (List.length_set ..).symm; clear H50
  refine then_n ?_
  refine wp_seq ?_
  obtain ⟨ade52, cse52, hAe52, hKe52, hce52⟩ := C_elem hCade16_2 0 (Nat.zero_lt_succ _)
  have hle52 := ki_Message_len hKe52
  have hoe52 := ki_Message_one hKe52
  refine reg_seq [0, 1, 2, 3, 4, 5, 6, 7, 8, 9, 10, 11] rfl ?_
  refine ops_cons ?_
  refine op_pure rfl (rn_move rfl) rfl rfl ?_
  refine ops_cons ?_
  refine op_pure rfl (rn_move rfl) rfl rfl ?_
  refine ops_cons ?_
  refine op_pure rfl (rn_move rfl) rfl rfl ?_
  refine ops_cons ?_
  refine op_pure rfl (rn_indexA (k := k) Try.runUnderlying64 Try.sizeOf142 rfl rfl hAe16 hk) rfl rfl ?_
  refine ops_cons ?_
  refine op_pure rfl (rn_field fa_142_2 rfl) rfl rfl ?_
  refine ops_cons ?_
  refine op_pure rfl (rn_loadE (v := .slice Aade16_2 ((⟨f, t, m :: ms⟩ : GChannel).List.length) cade16_2) Try.isAgg140 rfl (Cat.upd hce16 H51.1) rfl) rfl rfl ?_
  refine ops_cons ?_
  refine op_pure rfl (rn_indexA (k := 0) Try.runUnderlying140 Try.sizeOf70 rfl rfl hAe52 (Nat.zero_lt_succ _)) rfl rfl ?_
  refine ops_cons ?_
  refine op_pure rfl (rn_loadN Try.isAgg70 Try.sizeOf70 rfl (Cat.upd hce52 H51.1) hle52) rfl rfl ?_
  refine ops_cons ?_
  refine op_call rfl Try.call89 (vs := #[.agg (List.toArray cse52)]) rfl rfl rfl (l11Copy_s m _ _ (K_upd H51.1 hKe52) hst3) ?_
  rintro e58 W57 ⟨cs53, rfl, hM54, hu55⟩; refine ⟨_, rfl, ?_⟩
  obtain ⟨B_6_8_5, c_6_8_5, rfl, hst56⟩ := ki_Message_open hM54
  have H59 := H51.news hu55 hst56; clear H51
  refine ops_cons ?_
  refine op_pure rfl (rn_assign rfl) rfl rfl ?_
  refine ops_cons ?_
  have H63 : St w No [hB g_0_1 70 #[.int .i64 (0), .int .i64 (0), .int .i64 (0), .int .i64 (0), .string (⟨#[]⟩), .slice none 0 0, .int .i64 (0), .int .i64 (0), .int .i64 (0), .int .i64 (0), .int .i64 (0), .int .i64 (0)], hR ki_Wire 66 (.slice B_6_8_5 m.Args.length c_6_8_5) m.Args, hR ki_Channel 142 (.slice (some ⟨gf24, 0, none⟩) l.length c_1_1) (l.set k ⟨f, t, ms⟩), hR ki_Message 70 (.slice B33 ((⟨f, t, m :: ms⟩ : GChannel).List.length) c34) ((⟨f, t, m :: ms⟩ : GChannel).List)] W57 := H59.pick [3, 0, 1, 2] (by decide) rfl; clear H59
  refine op_storeW rfl Try.sizeOf70 rfl rfl rfl rfl (by simp [Value.oneCell']) H63 ?_
  intro W60 hu61 Ha62; clear H63; clear hu61
  refine ops_cons ?_
  refine op_pure rfl (rn_assign rfl) rfl rfl ?_
  refine ops_nil ?_
  refine then_n ?_
  refine wp_ret ?_
  obtain ⟨e1, e2, e3⟩ := tk_yes a b l k hk hf f t m ms hx
  rw [e1, e2, e3]
  refine post_tmp_cell_tmp (.inl rfl) Try.results24 Try.isAgg70 Try.sizeOf70 rfl rfl rfl (Ha62.blk 0 rfl) rfl ?_
  have H65 : St w No [hR ki_Wire 66 (.slice B_6_8_5 m.Args.length c_6_8_5) m.Args, hB g_0_1 70 #[.int .i64 (m.Kind), .int .i64 (m.Pos), .int .i64 (m.Answer), .int .i64 (m.Question), .string (m.Name), .slice B_6_8_5 m.Args.length c_6_8_5, .int .i64 (m.Value.Kind), .int .i64 (m.Value.N), .int .i64 (m.Count), .int .i64 (m.Tag.Vat), .int .i64 (m.Tag.Entity), .int .i64 (m.Tag.Seq)], hR ki_Channel 142 (.slice (some ⟨gf24, 0, none⟩) l.length c_1_1) (l.set k ⟨f, t, ms⟩), hR ki_Message 70 (.slice B33 ((⟨f, t, m :: ms⟩ : GChannel).List.length) c34) ((⟨f, t, m :: ms⟩ : GChannel).List)] W60 := Ha62.pick [1, 0, 2, 3] (by decide) rfl; clear Ha62
  have H66 : St w No [hM ki_Message m [.int .i64 (m.Kind), .int .i64 (m.Pos), .int .i64 (m.Answer), .int .i64 (m.Question), .string (m.Name), .slice B_6_8_5 m.Args.length c_6_8_5, .int .i64 (m.Value.Kind), .int .i64 (m.Value.N), .int .i64 (m.Count), .int .i64 (m.Tag.Vat), .int .i64 (m.Tag.Entity), .int .i64 (m.Tag.Seq)], hB g_0_1 70 #[.int .i64 (m.Kind), .int .i64 (m.Pos), .int .i64 (m.Answer), .int .i64 (m.Question), .string (m.Name), .slice B_6_8_5 m.Args.length c_6_8_5, .int .i64 (m.Value.Kind), .int .i64 (m.Value.N), .int .i64 (m.Count), .int .i64 (m.Tag.Vat), .int .i64 (m.Tag.Entity), .int .i64 (m.Tag.Seq)], hR ki_Channel 142 (.slice (some ⟨gf24, 0, none⟩) l.length c_1_1) (l.set k ⟨f, t, ms⟩), hR ki_Message 70 (.slice B33 ((⟨f, t, m :: ms⟩ : GChannel).List.length) c34) ((⟨f, t, m :: ms⟩ : GChannel).List)] W60 := H65.swap (l0 := [hR ki_Wire 66 (.slice B_6_8_5 m.Args.length c_6_8_5) m.Args]) (l' := [hM ki_Message m [.int .i64 (m.Kind), .int .i64 (m.Pos), .int .i64 (m.Answer), .int .i64 (m.Question), .string (m.Name), .slice B_6_8_5 m.Args.length c_6_8_5, .int .i64 (m.Value.Kind), .int .i64 (m.Value.N), .int .i64 (m.Count), .int .i64 (m.Tag.Vat), .int .i64 (m.Tag.Entity), .int .i64 (m.Tag.Seq)]]) (fun _ h => Star.one (ki_Message_close (x := m) h)); clear H65
  refine ⟨_, _, _, by rw [List.length_set], ?_, H66.1⟩
  rw [List.length_set]
  exact (H66.pick [2, 0] (by decide) rfl).star
theorem takeMessage_S (l : List GChannel) (a b : Int) (A : Option Addr) (c : Nat) (w : World) (hC : C ki_Channel w A l) (hs : sznS szn_Channel l ≤ 1048576) : Calls Try.prog 24 #[.slice A l.length c, .int .i64 a, .int .i64 b] w (RetTk ki_Channel 142 (tkL a b l) ki_Message (tkM a b l) (tkB a b l) w) := by
  rcases fidx_case (chP a b) l with hf | ⟨k, hk, hf⟩
  · exact takeS_no l a b A c w hC hs hf
  · have hx : l[k] = ⟨l[k].From, l[k].To, l[k].List⟩ := rfl
    revert hx
    have hb : l[k].List.length ≤ 1048576 := by
      have h1 := sumS_at szn_Channel l k hk
      unfold sznS at hs
      have h2 : l[k].List.length ≤ szn_Channel l[k] := by
        unfold szn_Channel sznS
        omega
      omega
    revert hb
    generalize l[k].From = f
    generalize l[k].To = t
    generalize l[k].List = ml
    intro hb hx
    cases ml with
    | nil => exact takeS_nil l a b A c w hC hs k hk hf f t hx
    | cons m ms =>
      have hms : ms.length ≤ 1048576 := by simp only [List.length_cons] at hb; omega
      exact takeS_yes l a b A c w hC hs k hk hf f t m ms hx hms
set_option maxHeartbeats 4000000 in
set_option maxRecDepth 100000 in
theorem takeMessage_I (l : List GChannel) (a b : Int) (A : Option Addr) (c : Nat) (w : World) (hC : C ki_Channel w A l) (hs : sznS szn_Channel l ≤ 1048576) : Calls Try.prog 26 #[.slice A l.length c, .int .i64 a, .int .i64 b] w (RetTk ki_Channel 142 (tkL a b l) ki_Message (tkM a b l) (tkB a b l) w) := by
  refine enter 24 [(0, .slice A l.length c), (1, .int .i64 (a)), (2, .int .i64 (b))] Try.func26 rfl (by kernel_rfl) ?_
  intro xj
  have H1 : St w No [] w := St.enter
  have hs4 : sznS szn_Channel l ≤ 4194304 := by omega
  refine wp_seq ?_
  refine reg_seq [0, 1, 2] rfl ?_
  refine ops_cons ?_
  refine op_pure rfl (rn_assign rfl) rfl rfl ?_
  refine ops_cons ?_
  refine op_alloc rfl Try.zeroValue70 rfl rfl H1 ?_
  intro g_0_1 W2 hu3 Ha4; clear H1; clear hu3
  refine ops_cons ?_
  refine op_pure rfl (rn_assign rfl) rfl rfl ?_
  refine ops_nil ?_
  refine then_n ?_
  refine wp_seq ?_
  refine reg_seq [0, 1, 2] rfl ?_
  refine ops_cons ?_
  refine op_pure rfl (rn_move rfl) rfl rfl ?_
  refine ops_cons ?_
  refine op_call rfl Try.call91 (vs := #[.slice A l.length c]) rfl rfl rfl (copiedChannels_i l _ _ _ (C_upd Ha4.1 hC) hs4) ?_
  rintro e10 W9 ⟨v6, rfl, hR7, hu8⟩; refine ⟨_, rfl, ?_⟩
  obtain ⟨B_1_1, c_1_1, rfl⟩ := R_slice hR7
  have H11 := Ha4.new (q := hR ki_Channel 142 (.slice B_1_1 l.length c_1_1) l) hu8 hR7; clear Ha4
  refine ops_cons ?_
  refine op_pure rfl (rn_assign rfl) rfl rfl ?_
  refine ops_nil ?_
  refine then_n ?_
  refine wp_seq ?_
  refine reg_seq [0, 1, 2, 3, 4, 5, 6, 7, 8, 9] rfl ?_
  refine ops_cons ?_
  refine op_pure rfl (rn_move rfl) rfl rfl ?_
  refine ops_cons ?_
  refine op_pure rfl (rn_move rfl) rfl rfl ?_
  refine ops_cons ?_
  refine op_pure rfl (rn_move rfl) rfl rfl ?_
  refine ops_cons ?_
  obtain ⟨F12, hs13, _, hfr14⟩ := St.frame (l0 := [hR ki_Channel 142 (.slice B_1_1 l.length c_1_1) l]) (l := [hB g_0_1 70 #[.int .i64 (0), .int .i64 (0), .int .i64 (0), .int .i64 (0), .string (⟨#[]⟩), .slice none 0 0, .int .i64 (0), .int .i64 (0), .int .i64 (0), .int .i64 (0), .int .i64 (0), .int .i64 (0)]]) H11
  have hlen : (tkL a b l).length = l.length := tkL_len a b l
  refine op_call rfl Try.call92 (vs := #[.slice B_1_1 l.length c_1_1, .int .i64 (a), .int .i64 (b)]) rfl rfl rfl (take_i l a b _ _ _ _ hs13 hs) ?_
  rintro e17 W16 ⟨cs_2_3, rfl, Hn15⟩; refine ⟨_, rfl, ?_⟩
  have H18 : St w No [hR ki_Channel 142 (.slice B_1_1 ((tkL a b l).length) c_1_1) (tkL a b l), hM ki_Message (tkM a b l) cs_2_3, hB g_0_1 70 #[.int .i64 (0), .int .i64 (0), .int .i64 (0), .int .i64 (0), .string (⟨#[]⟩), .slice none 0 0, .int .i64 (0), .int .i64 (0), .int .i64 (0), .int .i64 (0), .int .i64 (0), .int .i64 (0)]] W16 := hfr14 (_ :: [_]) _ Hn15; clear H11
  rw [hlen] at H18
  refine ops_cons ?_
  refine op_pure rfl (rn_move rfl) rfl rfl ?_
  refine ops_cons ?_
  refine op_pure rfl (rn_extract (v := .agg (List.toArray cs_2_3)) rfl rfl) rfl rfl ?_
  refine ops_cons ?_
  refine op_pure rfl (rn_extract (v := .bool (tkB a b l)) rfl rfl) rfl rfl ?_
  refine ops_cons ?_
  refine op_alloc rfl Try.zeroValue70 rfl rfl H18 ?_
  intro g_2_7 W19 hu20 Ha21; clear H18; clear hu20
  refine ops_cons ?_
  refine op_storeW rfl Try.sizeOf70 rfl rfl (ki_Message_len (Ha21.kn 2 rfl)) rfl (ki_Message_one (Ha21.kn 2 rfl)) Ha21 ?_
  intro W23 hu24 Ha25; clear Ha21; clear hu24
  refine ops_cons ?_
  refine op_pure rfl (rn_assign rfl) rfl rfl ?_
  refine ops_nil ?_
  refine then_n ?_
  refine wp_seq ?_
  refine reg_draw (fun W' => Blk W' g_2_7 70 (List.toArray cs_2_3)) 6 (by kernel_rfl) ?_
  have H27 := Ha25.drew; clear Ha25
  have hS28 : Blk W23.drew g_2_7 70 (List.toArray cs_2_3) := H27.blk 0 rfl
  refine anyS_take (i := 0) rfl (by kernel_rfl) (by kernel_rfl) (by kernel_rfl) (by kernel_rfl) (by kernel_rfl) (fun _ _ _ h => h) rfl rfl hS28 (fun W' hs' => rn_move rfl) ?_
  refine anyS_take (i := 1) rfl (by kernel_rfl) (by kernel_rfl) (by kernel_rfl) (by kernel_rfl) (by kernel_rfl) (fun _ _ _ h => h) rfl rfl hS28 (fun W' hs' => rn_loadB Try.isAgg70 Try.sizeOf70 rfl hs' (ki_Message_len (H27.kn 2 rfl))) ?_
  refine anyS_take (i := 2) rfl (by kernel_rfl) (by kernel_rfl) (by kernel_rfl) (by kernel_rfl) (by kernel_rfl) (fun _ _ _ h => h) rfl rfl hS28 (fun W' hs' => rn_move rfl) ?_
  refine anyS_take (i := 3) rfl (by kernel_rfl) (by kernel_rfl) (by kernel_rfl) (by kernel_rfl) (by kernel_rfl) (fun _ _ _ h => h) rfl rfl hS28 (fun W' hs' => rn_assign rfl) ?_
  refine anyS_one (i := 4) (by kernel_rfl) ?_
  have H32 : St w No [hB g_0_1 70 #[.int .i64 (0), .int .i64 (0), .int .i64 (0), .int .i64 (0), .string (⟨#[]⟩), .slice none 0 0, .int .i64 (0), .int .i64 (0), .int .i64 (0), .int .i64 (0), .int .i64 (0), .int .i64 (0)], hB g_2_7 70 (List.toArray cs_2_3), hR ki_Channel 142 (.slice B_1_1 l.length c_1_1) (tkL a b l), hM ki_Message (tkM a b l) cs_2_3] W23.drew := H27.pick [3, 0, 1, 2] (by decide) rfl; clear H27
  refine op_storeW rfl Try.sizeOf70 rfl rfl (ki_Message_len (H32.kn 3 rfl)) rfl (ki_Message_one (H32.kn 3 rfl)) H32 ?_
  intro W29 hu30 Ha31; clear H32; clear hu30
  have hS34 := Ha31.blk 1 rfl; refine ⟨fun _ => hS34, ?_⟩
  refine anyS_take (i := 5) rfl (by kernel_rfl) (by kernel_rfl) (by kernel_rfl) (by kernel_rfl) (by kernel_rfl) (fun _ _ _ h => h) rfl rfl hS34 (fun W' hs' => rn_assign rfl) ?_
  refine anyS_done (by kernel_rfl) ?_ _
  refine then_n ?_
  refine wp_ret ?_
  refine post_tmp_cell_tmp (.inl rfl) Try.results26 Try.isAgg70 Try.sizeOf70 rfl rfl rfl (Ha31.blk 0 rfl) (ki_Message_len (Ha31.kn 3 rfl)) ?_
  refine ⟨_, _, _, by rw [tkL_len a b l], ?_, Ha31.1⟩
  rw [tkL_len a b l]
  exact (Ha31.pick [2, 3] (by decide) rfl).star
end Go.Proofs.YtfnedoiplblldaaFam

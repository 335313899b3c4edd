/- What the row needs, packed. No conditions beyond those that each law names. -/
import Derived.Test.YtdfipdpeilegpaaZfn1
import Derived.Test.YtdfipdpeilegpaaProg
import Derived.WalkKit
import Derived.KernelRfl
import Derived.RowKit3
import Derived.Deep.LoopGhost
import Derived.Deep.QuietTactic
import Derived.BigQuiet
import Derived.StillTailTactics
import Derived.Deep.RegionHeld3
namespace Go.Proofs.YtdfipdpeilegpaaFam
open Go.ChangeShapes Go.WideShapes Go.RowKit Go.Proofs.YtdfipdpeilegpaaSep Go.Proofs.YtdfipdpeilegpaaT Go.Proofs.YtdfipdpeilegpaaK
set_option linter.unusedVariables false
set_option linter.unusedSimpArgs false
attribute [local irreducible] wpOps wpOp
set_option maxHeartbeats 4000000
set_option maxRecDepth 100000
theorem eB {α : Type} (p : α → Bool) (l : List α) : fidx p 0 l = -1 ∨ ∃ k : Nat, k < l.length ∧ fidx p 0 l = (k : Int) := by
 rcases fidx_range p l 0 with h | h
 ·exact .inl h
 ·exact .inr ⟨(fidx p 0 l).toNat, by omega, by omega⟩
def tkR (a b : Int) (l : List GChannel) : List GChannel × GMessage × Bool :=
 match l[(fidx (chP a b) 0 l).toNat]? with
 | none => (l, cO, false)
 | some x => if fidx (chP a b) 0 l < 0 then (l, cO, false) else (match x.List with | [] => (l, cO, false) | m :: ms => (l.set (fidx (chP a b) 0 l).toNat ⟨x.From, x.To, ms⟩, m, true))
def tkL (a b : Int) (l : List GChannel) : List GChannel := (tkR a b l).1
def tkM (a b : Int) (l : List GChannel) : GMessage := (tkR a b l).2.1
def tkB (a b : Int) (l : List GChannel) : Bool := (tkR a b l).2.2
theorem tk_no (a b : Int) (l : List GChannel) (h : fidx (chP a b) 0 l = -1) : tkL a b l = l ∧ tkM a b l = cO ∧ tkB a b l = false := by
 have e : tkR a b l = (l, cO, false) := by
  unfold tkR
  rw [h]
  cases l[(-1 : Int).toNat]? <;> rfl
 unfold tkL tkM tkB
 rw [e]
 exact ⟨rfl, rfl, rfl⟩
theorem tk_at (a b : Int) (l : List GChannel) (k : Nat) (hk : k < l.length) (h : fidx (chP a b) 0 l = (k : Int)) : tkR a b l = (match l[k].List with | [] => (l, cO, false) | m :: ms => (l.set k ⟨l[k].From, l[k].To, ms⟩, m, true)) := by
 unfold tkR
 rw [h, Int.toNat_natCast, List.getElem?_eq_getElem hk]
 show (if (k : Int) < 0 then _ else _) = _
 rw [if_neg kO]
theorem tk_nil (a b : Int) (l : List GChannel) (k : Nat) (hk : k < l.length) (h : fidx (chP a b) 0 l = (k : Int)) (f t : Int) (hx : l[k] = ⟨f, t, []⟩) : tkL a b l = l ∧ tkM a b l = cO ∧ tkB a b l = false := by
 have e := tk_at a b l k hk h
 rw [hx] at e
 unfold tkL tkM tkB
 rw [e]
 exact ⟨rfl, rfl, rfl⟩
theorem tk_yes (a b : Int) (l : List GChannel) (k : Nat) (hk : k < l.length) (h : fidx (chP a b) 0 l = (k : Int)) (f t : Int) (m : GMessage) (ms : List GMessage) (hx : l[k] = ⟨f, t, m :: ms⟩) : tkL a b l = l.set k ⟨f, t, ms⟩ ∧ tkM a b l = m ∧ tkB a b l = true := by
 have e := tk_at a b l k hk h
 rw [hx] at e
 unfold tkL tkM tkB
 rw [e]
 exact ⟨rfl, rfl, rfl⟩
theorem St.tailI {α : Type} {d : Kn α} {e g cap : Nat} {ce : List Value} {y : α} {xs : List α} {l : List HP} {W w : World} {F0 : Nat → Prop} (H : St w F0 (hE d e g cap 0 ce (y :: xs) :: l) W) : St w F0 (hT d (if cap = 1 then some ⟨g, 0, none⟩ else (some (⟨g, 0, none⟩ : Addr)).map (·.add (1 * d.sz))) xs :: l) W := by
 refine H.tail (fun hp => ?_)
 obtain ⟨F, cur, Fs, h1, h2, ⟨h3, _⟩, _⟩ := H.get 0 rfl
 simp only [List.length_cons] at h3
 rw [if_neg kO]
 rfl
def RetTk {α β : Type} (d : Kn α) (e0 : Nat) (L : List α) (dm : Kn β) (m : β) (b : Bool) (w : World) (e : Ending) (w' : World) : Prop := ∃ B c cs, e = .returned (.tuple #[.slice B L.length c, .agg cs.toArray, .bool b]) ∧ Star [hR d e0 (.slice B L.length c) L, hM dm m cs] w' (New w) ∧ Upd No w w'
theorem eT (l : List GChannel) (a b q : Int) (hq : fidx (chP a b) 0 l = q) (A : Option Addr) (c : Nat) (w : World) (h : C aC w A l) : Calls Try.prog 56 #[.slice A l.length c, .int .i64 a, .int .i64 b] w (RetInt q w) := hq ▸ channel_i l a b A c w h
theorem l20Find_q (l : List GChannel) (a b q : Int) (hq : fidx (chP a b) 0 l = q) (A : Option Addr) (c : Nat) (w : World) (h : C aC w A l) (hn : l.length ≤ 1048576) : Calls Try.prog 50 #[.slice A l.length c, .int .i64 a, .int .i64 b] w (RetInt q w) := hq ▸ l20Find_s l a b A c w h hn
theorem sumS_setB {α : Type} (s : α → Nat) (y : α) : ∀ (l : List α) (k : Nat), dI s (l.set k y) ≤ dI s l + s y
 | [], k => by simp [dI]
 | x :: l, 0 => by
  simp only [List.set_cons_zero, dI]
  omega
 | x :: l, k + 1 => by
  have := sumS_setB s y l k
  simp only [List.set_cons_succ, dI]
  omega
theorem tkL_len (a b : Int) (l : List GChannel) : (tkL a b l).length = l.length := by
 rcases eB (chP a b) l with hf | ⟨k, hk, hf⟩
 ·rw [(tk_no a b l hf).1]
 ·unfold tkL
  rw [tk_at a b l k hk hf]
  split
  ·rfl
  ·exact List.length_set ..
theorem clone_Messages (l : List GMessage) (A : Option Addr) (c : Nat) (Gs : Nat → Nat → Prop) (w : World) (h : CM aF w A l Gs) (hlt : ∀ j b, Gs j b → b < w.heap.size) (hd : ∀ i j b, Gs i b → Gs j b → i = j) (hn : l.length ≤ 1048576) :
 Calls Try.prog 109 #[.slice A l.length c] w (fun e w' => ∃ v, e = .returned v ∧ R aF 31 w' (fun b => (∃ j, Gs j b) ∨ w.heap.size ≤ b) v l ∧ Upd No w w') := by
 have HC := Sd.mk h
 have HD := Sd.mk hd
 have HL := Sd.mk hlt
 have eqn := fun (w : World) a n c n' c' => Lib.run_eql_slice_nil (P := Try.prog) w 37 31 a n c n' c' Try.underlying37
 clear h hd hlt
 go_enter Try.func109, Try.ntmps109
 rcases A with _ | ad
 ·have h0 : l = [] := by
   cases l with
   | nil => rfl
   | cons x l => obtain ⟨ad, q, _⟩ := HC.out.2 (by simp); cases q
  subst h0
  go_wp2
  go_ret
  exact ⟨_, rfl, R_nil, Upd.refl _ _⟩
 ·go_wp2_with (first | (at_builtin; refine R_appAny (d := aF) (e := 31) (ys := l) (xs := []) (F := New w) rfl _ _ 37 _ _ rfl Try.underlying37 dH rfl kD kD (some ad) c Gs rfl rfl (R_empty w) (CM_upd (Upd.alloc (Upd.refl _ _) _) HC.out) (fun j b q q' => absurd (HL.out j b q) (by simp only [New] at q'; omega)) HD.out (by simp; omega) ?_) | fail)
  intro v1 w1 hR hU
  have hR' := Sd.mk hR
  have HU := Sd.mk (((Upd.refl No w).alloc (.cells #[] 31)).trans hU (fun _ _ q => q) (fun b hb q => absurd hb (by simp only [New] at q; omega)))
  clear hR hU
  go_wp2
  go_ret
  exact ⟨_, rfl, dZ (fun b q => by rcases q with q | ⟨j, _, q⟩ | q; (right; simpa [New] using q); exact .inl ⟨j, q⟩; (right; first | exact q | omega | (simp at q; omega))) hR'.out, HU.out⟩
theorem clone_T (xs : List GMessage) (A : Option Addr) (c : Nat) (F0 : Nat → Prop) (w : World) (h : Star [hT aF A xs] w F0) (hn : xs.length ≤ 1048576) : Calls Try.prog 109 #[.slice A xs.length c] w (fun e' w' => ∃ B c', e' = .returned (.slice B xs.length c') ∧ St w F0 [hR aF 31 (.slice B xs.length c') xs] w') := by
 obtain ⟨F1, F2, h1, _, i1, _, _⟩ := h.uncons
 obtain ⟨Fs, q1, q2, q3, q4⟩ := (hT aF A xs).lt h1
 refine (clone_Messages xs A c Fs w q4 (fun j b hb => (q2 j b hb).2) q3 hn).mono ?_
 rintro e w' ⟨v, rfl, hR', hu⟩
 obtain ⟨B, c', rfl⟩ := bK hR'
 exact ⟨B, c', rfl, hu.mono (fun _ _ q => q.elim), Star.one (dZ (fun b q => q.elim (fun ⟨j, hj⟩ => .inl (i1 b (q2 j b hj).1)) .inr) hR')⟩
theorem take_no (l : List GChannel) (a b : Int) (A0 : Option Addr) (c0 : Nat) (F0 : Nat → Prop) (w : World) (h : Star [hR aC 94 (.slice A0 l.length c0) l] w F0) (hf : fidx (chP a b) 0 l = -1) : Calls Try.prog 58 #[.slice A0 l.length c0, .int .i64 a, .int .i64 b] w (fun e' w' => ∃ cs, e' = .returned (.tuple #[.agg (List.toArray cs), .bool (tkB a b l)]) ∧ St w F0 [hR aC 94 (.slice A0 (tkL a b l).length c0) (tkL a b l), hM aF (tkM a b l) cs] w') := by
 refine enter 45 [(0, .slice A0 l.length c0), (1, .int .i64 (a)), (2, .int .i64 (b))] Try.func58 rfl kR ?_
 intro xj
 have H1 : St w F0 [hR aC 94 (.slice A0 l.length c0) l] w := St.eO h
 refine wp_seq ?_
 refine aK [0, 1] rfl ?_
 refine aA ?_
 refine bW rfl Try.zeroValue31 rfl rfl H1 ?_
 intro g_0_0 W2 hu3 Ha4; clear H1; clear hu3
 refine aA ?_
 refine aB rfl (aG rfl) rfl rfl ?_
 refine aH ?_
 refine aI ?_
 refine wp_seq ?_
 refine aK [0, 1, 2, 3, 4] rfl ?_
 refine aA ?_
 refine aB rfl (aD rfl) rfl rfl ?_
 refine aA ?_
 refine aB rfl (aD rfl) rfl rfl ?_
 refine aA ?_
 refine aB rfl (aD rfl) rfl rfl ?_
 refine aA ?_
 refine aN rfl Try.call56 (vs := #[.slice A0 l.length c0, .int .i64 (a), .int .i64 (b)]) rfl rfl rfl (eT l a b (-1) hf _ _ _ (Ha4.rowC 1 rfl)) ?_
 rintro e8 W7 ⟨rfl, hu6⟩; refine ⟨_, rfl, ?_⟩
 have H9 := Ha4.no hu6; clear Ha4
 refine aA ?_
 refine aB rfl (aG rfl) rfl rfl ?_
 refine aH ?_
 refine aI ?_
 refine wp_seq ?_
 refine wp_seq ?_
 refine aK [0, 1, 2, 3, 4, 5, 6, 7, 8, 9, 10] rfl ?_
 refine aA ?_
 refine aB rfl (aD rfl) rfl rfl ?_
 refine aA ?_
 refine aB rfl (bG (p := ((-1) : Int) < 0) kD (dD (p := (-1)) (q := 0) rfl rfl)) rfl rfl ?_
 refine aA ?_
 refine aB rfl (aD rfl) rfl rfl ?_
 refine aA ?_
 refine aJ rfl rfl rfl rfl rfl rfl rfl ?_
 refine aA ?_
 refine aJ rfl rfl rfl rfl rfl rfl rfl ?_
 refine aA ?_
 refine aJ rfl rfl rfl rfl rfl rfl rfl ?_
 refine aA ?_
 refine aJ rfl rfl rfl rfl rfl rfl rfl ?_
 refine aA ?_
 refine aJ rfl rfl rfl rfl rfl rfl rfl ?_
 refine aA ?_
 refine aJ rfl rfl rfl rfl rfl rfl rfl ?_
 refine aA ?_
 refine aJ rfl rfl rfl rfl rfl rfl rfl ?_
 refine aA ?_
 refine aB rfl (aP (v := .bool (true)) (b := true) rfl rfl rfl rfl) rfl rfl ?_
 refine aH ?_
 refine aI ?_
 refine dO rfl ?_
 refine wp_seq ?_
 refine aK [0, 1, 2] rfl ?_
 refine aA ?_
 refine aB rfl (cK (vs := []) (cells := #[.int .i64 (0), .int .i64 (0), .int .i64 (0), .int .i64 (0), .string (⟨#[]⟩), .slice none 0 0, .int .i64 (0), .int .i64 (0), .int .i64 (0), .int .i64 (0), .int .i64 (0), .int .i64 (0)]) rfl kR) rfl rfl ?_
 refine aA ?_
 refine bE rfl Try.sizeOf31 rfl rfl rfl rfl kS H9 ?_
 intro W10 hu11 Ha12; clear H9; clear hu11
 refine aA ?_
 refine aB rfl (aG rfl) rfl rfl ?_
 refine aH ?_
 refine aI ?_
 refine wp_ret ?_
 refine bV ?_
 obtain ⟨e1, e2, e3⟩ := tk_no a b l hf
 rw [e1, e2, e3]
 refine fP (.inl rfl) Try.results58 Try.isAgg31 Try.sizeOf31 rfl rfl (Ha12.blk 0 rfl) rfl ?_
 have H14 : St w F0 [hR aR 27 (.slice none 0 0) ([]), hB g_0_0 31 #[.int .i64 (0), .int .i64 (0), .int .i64 (0), .int .i64 (0), .string (⟨#[]⟩), .slice none 0 0, .int .i64 (0), .int .i64 (0), .int .i64 (0), .int .i64 (0), .int .i64 (0), .int .i64 (0)], hR aC 94 (.slice A0 l.length c0) l] W10 := Ha12.add0 (q := hR aR 27 (.slice none 0 0) []) R_nil; clear Ha12
 have H15 : St w F0 [hM aF cO [.int .i64 (0), .int .i64 (0), .int .i64 (0), .int .i64 (0), .string (⟨#[]⟩), .slice none 0 0, .int .i64 (0), .int .i64 (0), .int .i64 (0), .int .i64 (0), .int .i64 (0), .int .i64 (0)], hB g_0_0 31 #[.int .i64 (0), .int .i64 (0), .int .i64 (0), .int .i64 (0), .string (⟨#[]⟩), .slice none 0 0, .int .i64 (0), .int .i64 (0), .int .i64 (0), .int .i64 (0), .int .i64 (0), .int .i64 (0)], hR aC 94 (.slice A0 l.length c0) l] W10 := H14.swap (l0 := [hR aR 27 (.slice none 0 0) ([])]) (l' := [hM aF cO [.int .i64 (0), .int .i64 (0), .int .i64 (0), .int .i64 (0), .string (⟨#[]⟩), .slice none 0 0, .int .i64 (0), .int .i64 (0), .int .i64 (0), .int .i64 (0), .int .i64 (0), .int .i64 (0)]]) (fun _ h => Star.one (bN (x := cO) h)); clear H14
 exact ⟨_, rfl, H15.pick [2, 0] kD rfl⟩
theorem take_nil (l : List GChannel) (a b : Int) (A0 : Option Addr) (c0 : Nat) (F0 : Nat → Prop) (w : World) (h : Star [hR aC 94 (.slice A0 l.length c0) l] w F0) (k : Nat) (hk : k < l.length) (hf : fidx (chP a b) 0 l = (k : Int)) (f t : Int) (hx : l[k] = ⟨f, t, []⟩) : Calls Try.prog 58 #[.slice A0 l.length c0, .int .i64 a, .int .i64 b] w (fun e' w' => ∃ cs, e' = .returned (.tuple #[.agg (List.toArray cs), .bool (tkB a b l)]) ∧ St w F0 [hR aC 94 (.slice A0 (tkL a b l).length c0) (tkL a b l), hM aF (tkM a b l) cs] w') := by
 refine enter 45 [(0, .slice A0 l.length c0), (1, .int .i64 (a)), (2, .int .i64 (b))] Try.func58 rfl kR ?_
 intro xj
 have H1 : St w F0 [hR aC 94 (.slice A0 l.length c0) l] w := St.eO h
 refine wp_seq ?_
 refine aK [0, 1] rfl ?_
 refine aA ?_
 refine bW rfl Try.zeroValue31 rfl rfl H1 ?_
 intro g_0_0 W2 hu3 Ha4; clear H1; clear hu3
 refine aA ?_
 refine aB rfl (aG rfl) rfl rfl ?_
 refine aH ?_
 refine aI ?_
 refine wp_seq ?_
 refine aK [0, 1, 2, 3, 4] rfl ?_
 refine aA ?_
 refine aB rfl (aD rfl) rfl rfl ?_
 refine aA ?_
 refine aB rfl (aD rfl) rfl rfl ?_
 refine aA ?_
 refine aB rfl (aD rfl) rfl rfl ?_
 refine aA ?_
 refine aN rfl Try.call56 (vs := #[.slice A0 l.length c0, .int .i64 (a), .int .i64 (b)]) rfl rfl rfl (eT l a b ((k : Nat) : Int) hf _ _ _ (Ha4.rowC 1 rfl)) ?_
 rintro e8 W7 ⟨rfl, hu6⟩; refine ⟨_, rfl, ?_⟩
 have H9 := Ha4.no hu6; clear Ha4
 refine aA ?_
 refine aB rfl (aG rfl) rfl rfl ?_
 refine aH ?_
 refine aI ?_
 refine wp_seq ?_
 refine wp_seq ?_
 have H10 : St w F0 [hR aC 94 (.slice A0 l.length c0) l, hB g_0_0 31 #[.int .i64 (0), .int .i64 (0), .int .i64 (0), .int .i64 (0), .string (⟨#[]⟩), .slice none 0 0, .int .i64 (0), .int .i64 (0), .int .i64 (0), .int .i64 (0), .int .i64 (0), .int .i64 (0)]] W7 := H9.pick [1, 0] kD rfl; clear H9
 obtain ⟨gf11, rfl⟩ := H10.openS (q := k) hk
 obtain ⟨ce12, hn13, H14⟩ := H10.openG (q := k) hk; clear H10
 rw [hx] at H14
 have H15 : St w F0 [hE aC 94 gf11 c0 k ce12 l, hM aC (⟨f, t, []⟩ : GChannel) ce12, hB g_0_0 31 #[.int .i64 (0), .int .i64 (0), .int .i64 (0), .int .i64 (0), .string (⟨#[]⟩), .slice none 0 0, .int .i64 (0), .int .i64 (0), .int .i64 (0), .int .i64 (0), .int .i64 (0), .int .i64 (0)]] W7 := H14; clear H14
 have H22 : St w F0 [hM aC (⟨f, t, []⟩ : GChannel) ce12, hE aC 94 gf11 c0 k ce12 l, hB g_0_0 31 #[.int .i64 (0), .int .i64 (0), .int .i64 (0), .int .i64 (0), .string (⟨#[]⟩), .slice none 0 0, .int .i64 (0), .int .i64 (0), .int .i64 (0), .int .i64 (0), .int .i64 (0), .int .i64 (0)]] W7 := H15.pick [1, 0, 2] kD rfl; clear H15
 obtain ⟨F16, hM17, hb18⟩ := H22.unM
 obtain ⟨B20, c21, rfl, hst19⟩ := bX hM17
 have H23 : St w F0 [hR aF 31 (.slice B20 ((⟨f, t, []⟩ : GChannel).List.length) c21) ((⟨f, t, []⟩ : GChannel).List), hE aC 94 gf11 c0 k [.int .i64 ((⟨f, t, []⟩ : GChannel).From), .int .i64 ((⟨f, t, []⟩ : GChannel).To), .slice B20 ((⟨f, t, []⟩ : GChannel).List.length) c21] l, hB g_0_0 31 #[.int .i64 (0), .int .i64 (0), .int .i64 (0), .int .i64 (0), .string (⟨#[]⟩), .slice none 0 0, .int .i64 (0), .int .i64 (0), .int .i64 (0), .int .i64 (0), .int .i64 (0), .int .i64 (0)]] W7 := hb18 _ hst19; clear H22
 refine aK [0, 1, 2, 3, 4, 5, 6, 7, 8, 9, 10] rfl ?_
 refine aA ?_
 refine aB rfl (aD rfl) rfl rfl ?_
 refine aA ?_
 refine aB rfl (bH (p := (((k : Nat) : Int) : Int) < 0) kO (dD (p := ((k : Nat) : Int)) (q := 0) rfl rfl)) rfl rfl ?_
 refine aA ?_
 refine aB rfl (aD rfl) rfl rfl ?_
 refine aA ?_
 refine aU rfl rfl rfl rfl (fun _ ho24 => ?_)
 refine aB ho24 (aD rfl) rfl rfl ?_
 refine aA ?_
 refine aU rfl rfl rfl rfl (fun _ ho25 => ?_)
 refine aB ho25 (aD rfl) rfl rfl ?_
 refine aA ?_
 refine aU rfl rfl rfl rfl (fun _ ho26 => ?_)
 refine aB ho26 (bB (k := k) Try.runUnderlying24 Try.sizeOf94 rfl rfl rfl (Nat.lt_of_lt_of_eq hk hn13.symm)) rfl rfl ?_
 refine aA ?_
 refine aU rfl rfl rfl rfl (fun _ ho27 => ?_)
 refine aB ho27 (aS bY rfl) rfl rfl ?_
 refine aA ?_
 refine aU rfl rfl rfl rfl (fun _ ho28 => ?_)
 refine aB ho28 (dX (v := .slice B20 ((⟨f, t, []⟩ : GChannel).List.length) c21) Try.isAgg37 rfl (H23.catE 1 rfl) rfl) rfl rfl ?_
 refine aA ?_
 refine aU rfl rfl rfl rfl (fun _ ho29 => ?_)
 refine aB ho29 (bT Try.runUnderlying37 rfl) rfl rfl ?_
 refine aA ?_
 refine aU rfl rfl rfl rfl (fun _ ho30 => ?_)
 refine aB ho30 (bG (p := (((⟨f, t, []⟩ : GChannel).List.length : Nat) : Int) = 0) rfl (bM (p := ((⟨f, t, []⟩ : GChannel).List.length : Nat)) (q := 0) rfl rfl)) rfl rfl ?_
 refine aA ?_
 refine aB rfl (aP (v := .bool (true)) (b := false) rfl rfl rfl rfl) rfl rfl ?_
 refine aH ?_
 refine aI ?_
 refine dO rfl ?_
 refine wp_seq ?_
 refine aK [0, 1, 2] rfl ?_
 refine aA ?_
 refine aB rfl (cK (vs := []) (cells := #[.int .i64 (0), .int .i64 (0), .int .i64 (0), .int .i64 (0), .string (⟨#[]⟩), .slice none 0 0, .int .i64 (0), .int .i64 (0), .int .i64 (0), .int .i64 (0), .int .i64 (0), .int .i64 (0)]) rfl kR) rfl rfl ?_
 refine aA ?_
 have H34 : St w F0 [hB g_0_0 31 #[.int .i64 (0), .int .i64 (0), .int .i64 (0), .int .i64 (0), .string (⟨#[]⟩), .slice none 0 0, .int .i64 (0), .int .i64 (0), .int .i64 (0), .int .i64 (0), .int .i64 (0), .int .i64 (0)], hR aF 31 (.slice B20 ((⟨f, t, []⟩ : GChannel).List.length) c21) ((⟨f, t, []⟩ : GChannel).List), hE aC 94 gf11 c0 k [.int .i64 ((⟨f, t, []⟩ : GChannel).From), .int .i64 ((⟨f, t, []⟩ : GChannel).To), .slice B20 ((⟨f, t, []⟩ : GChannel).List.length) c21] l] W7 := H23.pick [2, 0, 1] kD rfl; clear H23
 refine bE rfl Try.sizeOf31 rfl rfl rfl rfl kS H34 ?_
 intro W31 hu32 Ha33; clear H34; clear hu32
 refine aA ?_
 refine aB rfl (aG rfl) rfl rfl ?_
 refine aH ?_
 have H36 : St w F0 [hR aF 31 (.slice B20 ((⟨f, t, []⟩ : GChannel).List.length) c21) ((⟨f, t, []⟩ : GChannel).List), hB g_0_0 31 #[.int .i64 (0), .int .i64 (0), .int .i64 (0), .int .i64 (0), .string (⟨#[]⟩), .slice none 0 0, .int .i64 (0), .int .i64 (0), .int .i64 (0), .int .i64 (0), .int .i64 (0), .int .i64 (0)], hE aC 94 gf11 c0 k [.int .i64 ((⟨f, t, []⟩ : GChannel).From), .int .i64 ((⟨f, t, []⟩ : GChannel).To), .slice B20 ((⟨f, t, []⟩ : GChannel).List.length) c21] l] W31 := Ha33.pick [1, 0, 2] kD rfl; clear Ha33
 have H37 : St w F0 [hM aC (⟨f, t, []⟩ : GChannel) [.int .i64 ((⟨f, t, []⟩ : GChannel).From), .int .i64 ((⟨f, t, []⟩ : GChannel).To), .slice B20 ((⟨f, t, []⟩ : GChannel).List.length) c21], hB g_0_0 31 #[.int .i64 (0), .int .i64 (0), .int .i64 (0), .int .i64 (0), .string (⟨#[]⟩), .slice none 0 0, .int .i64 (0), .int .i64 (0), .int .i64 (0), .int .i64 (0), .int .i64 (0), .int .i64 (0)], hE aC 94 gf11 c0 k [.int .i64 ((⟨f, t, []⟩ : GChannel).From), .int .i64 ((⟨f, t, []⟩ : GChannel).To), .slice B20 ((⟨f, t, []⟩ : GChannel).List.length) c21] l] W31 := H36.swap (l0 := [hR aF 31 (.slice B20 ((⟨f, t, []⟩ : GChannel).List.length) c21) ((⟨f, t, []⟩ : GChannel).List)]) (l' := [hM aC (⟨f, t, []⟩ : GChannel) [.int .i64 ((⟨f, t, []⟩ : GChannel).From), .int .i64 ((⟨f, t, []⟩ : GChannel).To), .slice B20 ((⟨f, t, []⟩ : GChannel).List.length) c21]]) (fun _ h => Star.one (bD (x := (⟨f, t, []⟩ : GChannel)) h)); clear H36
 have H38 : St w F0 [hE aC 94 gf11 c0 k [.int .i64 ((⟨f, t, []⟩ : GChannel).From), .int .i64 ((⟨f, t, []⟩ : GChannel).To), .slice B20 ((⟨f, t, []⟩ : GChannel).List.length) c21] l, hM aC (⟨f, t, []⟩ : GChannel) [.int .i64 ((⟨f, t, []⟩ : GChannel).From), .int .i64 ((⟨f, t, []⟩ : GChannel).To), .slice B20 ((⟨f, t, []⟩ : GChannel).List.length) c21], hB g_0_0 31 #[.int .i64 (0), .int .i64 (0), .int .i64 (0), .int .i64 (0), .string (⟨#[]⟩), .slice none 0 0, .int .i64 (0), .int .i64 (0), .int .i64 (0), .int .i64 (0), .int .i64 (0), .int .i64 (0)]] W31 := H37.pick [2, 0, 1] kD rfl; clear H37
 have H39 : St w F0 [hR aC 94 (.slice (some ⟨gf11, 0, none⟩) l.length c0) l, hB g_0_0 31 #[.int .i64 (0), .int .i64 (0), .int .i64 (0), .int .i64 (0), .string (⟨#[]⟩), .slice none 0 0, .int .i64 (0), .int .i64 (0), .int .i64 (0), .int .i64 (0), .int .i64 (0), .int .i64 (0)]] W31 := H38.fC (by rw [← hx]; exact List.set_getElem_self ..) rfl; clear H38
 refine aI ?_
 refine wp_ret ?_
 refine bV ?_
 obtain ⟨e1, e2, e3⟩ := tk_nil a b l k hk hf f t hx
 rw [e1, e2, e3]
 refine fP (.inl rfl) Try.results58 Try.isAgg31 Try.sizeOf31 rfl rfl (H39.blk 1 rfl) rfl ?_
 have H40 : St w F0 [hR aR 27 (.slice none 0 0) ([]), hR aC 94 (.slice (some ⟨gf11, 0, none⟩) l.length c0) l, hB g_0_0 31 #[.int .i64 (0), .int .i64 (0), .int .i64 (0), .int .i64 (0), .string (⟨#[]⟩), .slice none 0 0, .int .i64 (0), .int .i64 (0), .int .i64 (0), .int .i64 (0), .int .i64 (0), .int .i64 (0)]] W31 := H39.add0 (q := hR aR 27 (.slice none 0 0) []) R_nil; clear H39
 have H41 : St w F0 [hM aF cO [.int .i64 (0), .int .i64 (0), .int .i64 (0), .int .i64 (0), .string (⟨#[]⟩), .slice none 0 0, .int .i64 (0), .int .i64 (0), .int .i64 (0), .int .i64 (0), .int .i64 (0), .int .i64 (0)], hR aC 94 (.slice (some ⟨gf11, 0, none⟩) l.length c0) l, hB g_0_0 31 #[.int .i64 (0), .int .i64 (0), .int .i64 (0), .int .i64 (0), .string (⟨#[]⟩), .slice none 0 0, .int .i64 (0), .int .i64 (0), .int .i64 (0), .int .i64 (0), .int .i64 (0), .int .i64 (0)]] W31 := H40.swap (l0 := [hR aR 27 (.slice none 0 0) ([])]) (l' := [hM aF cO [.int .i64 (0), .int .i64 (0), .int .i64 (0), .int .i64 (0), .string (⟨#[]⟩), .slice none 0 0, .int .i64 (0), .int .i64 (0), .int .i64 (0), .int .i64 (0), .int .i64 (0), .int .i64 (0)]]) (fun _ h => Star.one (bN (x := cO) h)); clear H40
 exact ⟨_, rfl, H41.pick [1, 0] kD rfl⟩
theorem take_yes (l : List GChannel) (a b : Int) (A0 : Option Addr) (c0 : Nat) (F0 : Nat → Prop) (w : World) (h : Star [hR aC 94 (.slice A0 l.length c0) l] w F0) (k : Nat) (hk : k < l.length) (hf : fidx (chP a b) 0 l = (k : Int)) (f t : Int) (m : GMessage) (ms : List GMessage) (hx : l[k] = ⟨f, t, m :: ms⟩) (hms : ms.length ≤ 1048576) : Calls Try.prog 58 #[.slice A0 l.length c0, .int .i64 a, .int .i64 b] w (fun e' w' => ∃ cs, e' = .returned (.tuple #[.agg (List.toArray cs), .bool (tkB a b l)]) ∧ St w F0 [hR aC 94 (.slice A0 (tkL a b l).length c0) (tkL a b l), hM aF (tkM a b l) cs] w') := by
 refine enter 45 [(0, .slice A0 l.length c0), (1, .int .i64 (a)), (2, .int .i64 (b))] Try.func58 rfl kR ?_
 intro xj
 have H1 : St w F0 [hR aC 94 (.slice A0 l.length c0) l] w := St.eO h
 refine wp_seq ?_
 refine aK [0, 1] rfl ?_
 refine aA ?_
 refine bW rfl Try.zeroValue31 rfl rfl H1 ?_
 intro g_0_0 W2 hu3 Ha4; clear H1; clear hu3
 refine aA ?_
 refine aB rfl (aG rfl) rfl rfl ?_
 refine aH ?_
 refine aI ?_
 refine wp_seq ?_
 refine aK [0, 1, 2, 3, 4] rfl ?_
 refine aA ?_
 refine aB rfl (aD rfl) rfl rfl ?_
 refine aA ?_
 refine aB rfl (aD rfl) rfl rfl ?_
 refine aA ?_
 refine aB rfl (aD rfl) rfl rfl ?_
 refine aA ?_
 refine aN rfl Try.call56 (vs := #[.slice A0 l.length c0, .int .i64 (a), .int .i64 (b)]) rfl rfl rfl (eT l a b ((k : Nat) : Int) hf _ _ _ (Ha4.rowC 1 rfl)) ?_
 rintro e8 W7 ⟨rfl, hu6⟩; refine ⟨_, rfl, ?_⟩
 have H9 := Ha4.no hu6; clear Ha4
 refine aA ?_
 refine aB rfl (aG rfl) rfl rfl ?_
 refine aH ?_
 refine aI ?_
 refine wp_seq ?_
 refine wp_seq ?_
 have H10 : St w F0 [hR aC 94 (.slice A0 l.length c0) l, hB g_0_0 31 #[.int .i64 (0), .int .i64 (0), .int .i64 (0), .int .i64 (0), .string (⟨#[]⟩), .slice none 0 0, .int .i64 (0), .int .i64 (0), .int .i64 (0), .int .i64 (0), .int .i64 (0), .int .i64 (0)]] W7 := H9.pick [1, 0] kD rfl; clear H9
 obtain ⟨gf11, rfl⟩ := H10.openS (q := k) hk
 obtain ⟨ce12, hn13, H14⟩ := H10.openG (q := k) hk; clear H10
 rw [hx] at H14
 have H15 : St w F0 [hE aC 94 gf11 c0 k ce12 l, hM aC (⟨f, t, m :: ms⟩ : GChannel) ce12, hB g_0_0 31 #[.int .i64 (0), .int .i64 (0), .int .i64 (0), .int .i64 (0), .string (⟨#[]⟩), .slice none 0 0, .int .i64 (0), .int .i64 (0), .int .i64 (0), .int .i64 (0), .int .i64 (0), .int .i64 (0)]] W7 := H14; clear H14
 have H22 : St w F0 [hM aC (⟨f, t, m :: ms⟩ : GChannel) ce12, hE aC 94 gf11 c0 k ce12 l, hB g_0_0 31 #[.int .i64 (0), .int .i64 (0), .int .i64 (0), .int .i64 (0), .string (⟨#[]⟩), .slice none 0 0, .int .i64 (0), .int .i64 (0), .int .i64 (0), .int .i64 (0), .int .i64 (0), .int .i64 (0)]] W7 := H15.pick [1, 0, 2] kD rfl; clear H15
 obtain ⟨F16, hM17, hb18⟩ := H22.unM
 obtain ⟨B20, c21, rfl, hst19⟩ := bX hM17
 have H23 : St w F0 [hR aF 31 (.slice B20 ((⟨f, t, m :: ms⟩ : GChannel).List.length) c21) ((⟨f, t, m :: ms⟩ : GChannel).List), hE aC 94 gf11 c0 k [.int .i64 ((⟨f, t, m :: ms⟩ : GChannel).From), .int .i64 ((⟨f, t, m :: ms⟩ : GChannel).To), .slice B20 ((⟨f, t, m :: ms⟩ : GChannel).List.length) c21] l, hB g_0_0 31 #[.int .i64 (0), .int .i64 (0), .int .i64 (0), .int .i64 (0), .string (⟨#[]⟩), .slice none 0 0, .int .i64 (0), .int .i64 (0), .int .i64 (0), .int .i64 (0), .int .i64 (0), .int .i64 (0)]] W7 := hb18 _ hst19; clear H22
 refine aK [0, 1, 2, 3, 4, 5, 6, 7, 8, 9, 10] rfl ?_
 refine aA ?_
 refine aB rfl (aD rfl) rfl rfl ?_
 refine aA ?_
 refine aB rfl (bH (p := (((k : Nat) : Int) : Int) < 0) kO (dD (p := ((k : Nat) : Int)) (q := 0) rfl rfl)) rfl rfl ?_
 refine aA ?_
 refine aB rfl (aD rfl) rfl rfl ?_
 refine aA ?_
 refine aU rfl rfl rfl rfl (fun _ ho24 => ?_)
 refine aB ho24 (aD rfl) rfl rfl ?_
 refine aA ?_
 refine aU rfl rfl rfl rfl (fun _ ho25 => ?_)
 refine aB ho25 (aD rfl) rfl rfl ?_
 refine aA ?_
 refine aU rfl rfl rfl rfl (fun _ ho26 => ?_)
 refine aB ho26 (bB (k := k) Try.runUnderlying24 Try.sizeOf94 rfl rfl rfl (Nat.lt_of_lt_of_eq hk hn13.symm)) rfl rfl ?_
 refine aA ?_
 refine aU rfl rfl rfl rfl (fun _ ho27 => ?_)
 refine aB ho27 (aS bY rfl) rfl rfl ?_
 refine aA ?_
 refine aU rfl rfl rfl rfl (fun _ ho28 => ?_)
 refine aB ho28 (dX (v := .slice B20 ((⟨f, t, m :: ms⟩ : GChannel).List.length) c21) Try.isAgg37 rfl (H23.catE 1 rfl) rfl) rfl rfl ?_
 refine aA ?_
 refine aU rfl rfl rfl rfl (fun _ ho29 => ?_)
 refine aB ho29 (bT Try.runUnderlying37 rfl) rfl rfl ?_
 refine aA ?_
 refine aU rfl rfl rfl rfl (fun _ ho30 => ?_)
 refine aB ho30 (bH (p := (((⟨f, t, m :: ms⟩ : GChannel).List.length : Nat) : Int) = 0) (by intro h; cases h) (bM (p := ((⟨f, t, m :: ms⟩ : GChannel).List.length : Nat)) (q := 0) rfl rfl)) rfl rfl ?_
 refine aA ?_
 refine aB rfl (aP (v := .bool (false)) (b := false) rfl rfl rfl rfl) rfl rfl ?_
 refine aH ?_
 refine aI ?_
 refine dA rfl ?_
 refine wp_skip ?_
 refine aI ?_
 refine wp_seq ?_
 obtain ⟨gf31, rfl⟩ := H23.openS (q := 0) (Nat.zero_lt_succ _)
 obtain ⟨ce32, hn33, H34⟩ := H23.openG (q := 0) (Nat.zero_lt_succ _); clear H23
 have H35 : St w F0 [hE aF 31 gf31 c21 0 ce32 ((⟨f, t, m :: ms⟩ : GChannel).List), hM aF m ce32, hE aC 94 gf11 c0 k [.int .i64 ((⟨f, t, m :: ms⟩ : GChannel).From), .int .i64 ((⟨f, t, m :: ms⟩ : GChannel).To), .slice (some ⟨gf31, 0, none⟩) ((⟨f, t, m :: ms⟩ : GChannel).List.length) c21] l, hB g_0_0 31 #[.int .i64 (0), .int .i64 (0), .int .i64 (0), .int .i64 (0), .string (⟨#[]⟩), .slice none 0 0, .int .i64 (0), .int .i64 (0), .int .i64 (0), .int .i64 (0), .int .i64 (0), .int .i64 (0)]] W7 := H34; clear H34
 have H42 : St w F0 [hM aF m ce32, hE aF 31 gf31 c21 0 ce32 ((⟨f, t, m :: ms⟩ : GChannel).List), hE aC 94 gf11 c0 k [.int .i64 ((⟨f, t, m :: ms⟩ : GChannel).From), .int .i64 ((⟨f, t, m :: ms⟩ : GChannel).To), .slice (some ⟨gf31, 0, none⟩) ((⟨f, t, m :: ms⟩ : GChannel).List.length) c21] l, hB g_0_0 31 #[.int .i64 (0), .int .i64 (0), .int .i64 (0), .int .i64 (0), .string (⟨#[]⟩), .slice none 0 0, .int .i64 (0), .int .i64 (0), .int .i64 (0), .int .i64 (0), .int .i64 (0), .int .i64 (0)]] W7 := H35.pick [1, 0, 2, 3] kD rfl; clear H35
 obtain ⟨F36, hM37, hb38⟩ := H42.unM
 obtain ⟨B40, c41, rfl, hst39⟩ := ki_Message_open hM37
 have H43 : St w F0 [hR aR 27 (.slice B40 m.bF.length c41) m.bF, hE aF 31 gf31 c21 0 [.int .i64 (m.Kind), .int .i64 (m.Pos), .int .i64 (m.bI), .int .i64 (m.Question), .string (m.Name), .slice B40 m.bF.length c41, .int .i64 (m.Value.Kind), .int .i64 (m.Value.N), .int .i64 (m.Count), .int .i64 (m.Tag.Vat), .int .i64 (m.Tag.Entity), .int .i64 (m.Tag.Seq)] ((⟨f, t, m :: ms⟩ : GChannel).List), hE aC 94 gf11 c0 k [.int .i64 ((⟨f, t, m :: ms⟩ : GChannel).From), .int .i64 ((⟨f, t, m :: ms⟩ : GChannel).To), .slice (some ⟨gf31, 0, none⟩) ((⟨f, t, m :: ms⟩ : GChannel).List.length) c21] l, hB g_0_0 31 #[.int .i64 (0), .int .i64 (0), .int .i64 (0), .int .i64 (0), .string (⟨#[]⟩), .slice none 0 0, .int .i64 (0), .int .i64 (0), .int .i64 (0), .int .i64 (0), .int .i64 (0), .int .i64 (0)]] W7 := hb38 _ hst39; clear H42
 refine aK [0, 1, 2, 3, 4, 5, 6, 7, 8] rfl ?_
 refine aA ?_
 refine aB rfl (aD rfl) rfl rfl ?_
 refine aA ?_
 refine aB rfl (aD rfl) rfl rfl ?_
 refine aA ?_
 refine aB rfl (bB (k := k) Try.runUnderlying24 Try.sizeOf94 rfl rfl rfl (Nat.lt_of_lt_of_eq hk hn13.symm)) rfl rfl ?_
 refine aA ?_
 refine aB rfl (aS bY rfl) rfl rfl ?_
 refine aA ?_
 refine aB rfl (dX (v := .slice (some ⟨gf31, 0, none⟩) ((⟨f, t, m :: ms⟩ : GChannel).List.length) c21) Try.isAgg37 rfl (H43.catE 2 rfl) rfl) rfl rfl ?_
 refine aA ?_
 refine aB rfl (bB (k := 0) Try.runUnderlying37 Try.sizeOf31 rfl rfl rfl (Nat.lt_of_lt_of_eq (Nat.zero_lt_succ _) hn33.symm)) rfl rfl ?_
 refine aA ?_
 refine aB rfl (dJ Try.isAgg31 Try.sizeOf31 rfl (H43.catE 1 rfl) rfl) rfl rfl ?_
 refine aA ?_
 refine bW rfl Try.zeroValue31 rfl rfl H43 ?_
 intro g_4_7 W44 hu45 Ha46; clear H43; clear hu45
 refine aA ?_
 refine bE rfl Try.sizeOf31 rfl rfl rfl rfl kS Ha46 ?_
 intro W48 hu49 Ha50; clear Ha46; clear hu49
 refine aH ?_
 refine aI ?_
 refine wp_seq ?_
 refine aK [0, 1, 2, 3, 4, 5, 6, 7, 8, 9, 10, 11] rfl ?_
 refine aA ?_
 refine aB rfl (aD rfl) rfl rfl ?_
 refine aA ?_
 refine aB rfl (aD rfl) rfl rfl ?_
 refine aA ?_
 refine aB rfl (aD rfl) rfl rfl ?_
 refine aA ?_
 refine aB rfl (aD rfl) rfl rfl ?_
 refine aA ?_
 refine aB rfl (bB (k := k) Try.runUnderlying24 Try.sizeOf94 rfl rfl rfl (Nat.lt_of_lt_of_eq hk hn13.symm)) rfl rfl ?_
 refine aA ?_
 refine aB rfl (aS bY rfl) rfl rfl ?_
 refine aA ?_
 refine aB rfl (dX (v := .slice (some ⟨gf31, 0, none⟩) ((⟨f, t, m :: ms⟩ : GChannel).List.length) c21) Try.isAgg37 rfl (Ha50.catE 3 rfl) rfl) rfl rfl ?_
 obtain ⟨At, hAt⟩ : ∃ At : Option Addr, (if c21 = 1 then some ⟨gf31, 0, none⟩ else (some (⟨gf31, 0, none⟩ : Addr)).map (·.add (1 * 12))) = At := ⟨_, rfl⟩
 refine aA ?_
 refine aB rfl (rn_sliceL (k := 1) Try.underlying37 Try.sizeOf31 rfl rfl (Nat.le_add_left 1 _) hAt rfl rfl) rfl rfl ?_
 refine aA ?_
 have H52 : St w F0 [hE aF 31 gf31 c21 0 [.int .i64 (m.Kind), .int .i64 (m.Pos), .int .i64 (m.bI), .int .i64 (m.Question), .string (m.Name), .slice B40 m.bF.length c41, .int .i64 (m.Value.Kind), .int .i64 (m.Value.N), .int .i64 (m.Count), .int .i64 (m.Tag.Vat), .int .i64 (m.Tag.Entity), .int .i64 (m.Tag.Seq)] ((⟨f, t, m :: ms⟩ : GChannel).List), hB g_4_7 31 #[.int .i64 (m.Kind), .int .i64 (m.Pos), .int .i64 (m.bI), .int .i64 (m.Question), .string (m.Name), .slice B40 m.bF.length c41, .int .i64 (m.Value.Kind), .int .i64 (m.Value.N), .int .i64 (m.Count), .int .i64 (m.Tag.Vat), .int .i64 (m.Tag.Entity), .int .i64 (m.Tag.Seq)], hR aR 27 (.slice B40 m.bF.length c41) m.bF, hE aC 94 gf11 c0 k [.int .i64 ((⟨f, t, m :: ms⟩ : GChannel).From), .int .i64 ((⟨f, t, m :: ms⟩ : GChannel).To), .slice (some ⟨gf31, 0, none⟩) ((⟨f, t, m :: ms⟩ : GChannel).List.length) c21] l, hB g_0_0 31 #[.int .i64 (0), .int .i64 (0), .int .i64 (0), .int .i64 (0), .string (⟨#[]⟩), .slice none 0 0, .int .i64 (0), .int .i64 (0), .int .i64 (0), .int .i64 (0), .int .i64 (0), .int .i64 (0)]] W48 := Ha50.pick [2, 0, 1, 3, 4] kD rfl; clear Ha50
 have H53 : St w F0 [hT aF At ms, hB g_4_7 31 #[.int .i64 (m.Kind), .int .i64 (m.Pos), .int .i64 (m.bI), .int .i64 (m.Question), .string (m.Name), .slice B40 m.bF.length c41, .int .i64 (m.Value.Kind), .int .i64 (m.Value.N), .int .i64 (m.Count), .int .i64 (m.Tag.Vat), .int .i64 (m.Tag.Entity), .int .i64 (m.Tag.Seq)], hR aR 27 (.slice B40 m.bF.length c41) m.bF, hE aC 94 gf11 c0 k [.int .i64 ((⟨f, t, m :: ms⟩ : GChannel).From), .int .i64 ((⟨f, t, m :: ms⟩ : GChannel).To), .slice (some ⟨gf31, 0, none⟩) ((⟨f, t, m :: ms⟩ : GChannel).List.length) c21] l, hB g_0_0 31 #[.int .i64 (0), .int .i64 (0), .int .i64 (0), .int .i64 (0), .string (⟨#[]⟩), .slice none 0 0, .int .i64 (0), .int .i64 (0), .int .i64 (0), .int .i64 (0), .int .i64 (0), .int .i64 (0)]] W48 := hAt ▸ St.tailI (y := m) (xs := ms) H52; clear H52
 obtain ⟨F54, hs55, _, hfr56⟩ := St.frame (l0 := [hT aF At ms]) (l := [hB g_4_7 31 #[.int .i64 (m.Kind), .int .i64 (m.Pos), .int .i64 (m.bI), .int .i64 (m.Question), .string (m.Name), .slice B40 m.bF.length c41, .int .i64 (m.Value.Kind), .int .i64 (m.Value.N), .int .i64 (m.Count), .int .i64 (m.Tag.Vat), .int .i64 (m.Tag.Entity), .int .i64 (m.Tag.Seq)], hR aR 27 (.slice B40 m.bF.length c41) m.bF, hE aC 94 gf11 c0 k [.int .i64 ((⟨f, t, m :: ms⟩ : GChannel).From), .int .i64 ((⟨f, t, m :: ms⟩ : GChannel).To), .slice (some ⟨gf31, 0, none⟩) ((⟨f, t, m :: ms⟩ : GChannel).List.length) c21] l, hB g_0_0 31 #[.int .i64 (0), .int .i64 (0), .int .i64 (0), .int .i64 (0), .string (⟨#[]⟩), .slice none 0 0, .int .i64 (0), .int .i64 (0), .int .i64 (0), .int .i64 (0), .int .i64 (0), .int .i64 (0)]]) H53
 refine aN rfl Try.call109 (vs := #[.slice At ms.length (c21 - 1)]) rfl rfl rfl (clone_T ms At _ _ _ hs55 hms) ?_
 rintro e59 W58 ⟨B_5_8, c_5_8, rfl, Hn57⟩; refine ⟨_, rfl, ?_⟩
 have H60 := hfr56 _ _ Hn57; clear H53
 refine aA ?_
 refine aB rfl (bB (k := k) Try.runUnderlying24 Try.sizeOf94 rfl rfl rfl (Nat.lt_of_lt_of_eq hk hn13.symm)) rfl rfl ?_
 refine aA ?_
 refine aB rfl (aS bY rfl) rfl rfl ?_
 refine aA ?_
 have H64 : St w F0 [hE aC 94 gf11 c0 k [.int .i64 ((⟨f, t, m :: ms⟩ : GChannel).From), .int .i64 ((⟨f, t, m :: ms⟩ : GChannel).To), .slice (some ⟨gf31, 0, none⟩) ((⟨f, t, m :: ms⟩ : GChannel).List.length) c21] l, hR aF 31 (.slice B_5_8 ms.length c_5_8) ms, hB g_4_7 31 #[.int .i64 (m.Kind), .int .i64 (m.Pos), .int .i64 (m.bI), .int .i64 (m.Question), .string (m.Name), .slice B40 m.bF.length c41, .int .i64 (m.Value.Kind), .int .i64 (m.Value.N), .int .i64 (m.Count), .int .i64 (m.Tag.Vat), .int .i64 (m.Tag.Entity), .int .i64 (m.Tag.Seq)], hR aR 27 (.slice B40 m.bF.length c41) m.bF, hB g_0_0 31 #[.int .i64 (0), .int .i64 (0), .int .i64 (0), .int .i64 (0), .string (⟨#[]⟩), .slice none 0 0, .int .i64 (0), .int .i64 (0), .int .i64 (0), .int .i64 (0), .int .i64 (0), .int .i64 (0)]] W58 := H60.pick [3, 0, 1, 2, 4] kD rfl; clear H60
 refine fB (dk := aC) (k := 2) (ce' := [.int .i64 ((⟨f, t, m :: ms⟩ : GChannel).From), .int .i64 ((⟨f, t, m :: ms⟩ : GChannel).To), .slice B_5_8 ms.length c_5_8]) rfl Try.sizeOf37 rfl rfl rfl rfl (Nat.le_of_ble_eq_true rfl) (by simp [Value.cells, Value.oneCell']) rfl H64 ?_
 intro W61 hu62 Ha63; clear H64; clear hu62
 refine aH ?_
 have H66 : St w F0 [hR aF 31 (.slice B_5_8 ms.length c_5_8) ms, hE aC 94 gf11 c0 k [.int .i64 ((⟨f, t, m :: ms⟩ : GChannel).From), .int .i64 ((⟨f, t, m :: ms⟩ : GChannel).To), .slice B_5_8 ms.length c_5_8] l, hB g_4_7 31 #[.int .i64 (m.Kind), .int .i64 (m.Pos), .int .i64 (m.bI), .int .i64 (m.Question), .string (m.Name), .slice B40 m.bF.length c41, .int .i64 (m.Value.Kind), .int .i64 (m.Value.N), .int .i64 (m.Count), .int .i64 (m.Tag.Vat), .int .i64 (m.Tag.Entity), .int .i64 (m.Tag.Seq)], hR aR 27 (.slice B40 m.bF.length c41) m.bF, hB g_0_0 31 #[.int .i64 (0), .int .i64 (0), .int .i64 (0), .int .i64 (0), .string (⟨#[]⟩), .slice none 0 0, .int .i64 (0), .int .i64 (0), .int .i64 (0), .int .i64 (0), .int .i64 (0), .int .i64 (0)]] W61 := Ha63.pick [1, 0, 2, 3, 4] kD rfl; clear Ha63
 have H67 : St w F0 [hM aC (⟨f, t, ms⟩ : GChannel) [.int .i64 ((⟨f, t, m :: ms⟩ : GChannel).From), .int .i64 ((⟨f, t, m :: ms⟩ : GChannel).To), .slice B_5_8 ms.length c_5_8], hE aC 94 gf11 c0 k [.int .i64 ((⟨f, t, m :: ms⟩ : GChannel).From), .int .i64 ((⟨f, t, m :: ms⟩ : GChannel).To), .slice B_5_8 ms.length c_5_8] l, hB g_4_7 31 #[.int .i64 (m.Kind), .int .i64 (m.Pos), .int .i64 (m.bI), .int .i64 (m.Question), .string (m.Name), .slice B40 m.bF.length c41, .int .i64 (m.Value.Kind), .int .i64 (m.Value.N), .int .i64 (m.Count), .int .i64 (m.Tag.Vat), .int .i64 (m.Tag.Entity), .int .i64 (m.Tag.Seq)], hR aR 27 (.slice B40 m.bF.length c41) m.bF, hB g_0_0 31 #[.int .i64 (0), .int .i64 (0), .int .i64 (0), .int .i64 (0), .string (⟨#[]⟩), .slice none 0 0, .int .i64 (0), .int .i64 (0), .int .i64 (0), .int .i64 (0), .int .i64 (0), .int .i64 (0)]] W61 := H66.swap (l0 := [hR aF 31 (.slice B_5_8 ms.length c_5_8) ms]) (l' := [hM aC (⟨f, t, ms⟩ : GChannel) [.int .i64 ((⟨f, t, m :: ms⟩ : GChannel).From), .int .i64 ((⟨f, t, m :: ms⟩ : GChannel).To), .slice B_5_8 ms.length c_5_8]]) (fun _ h => Star.one (bD (x := (⟨f, t, ms⟩ : GChannel)) h)); clear H66
 have H68 : St w F0 [hE aC 94 gf11 c0 k [.int .i64 ((⟨f, t, m :: ms⟩ : GChannel).From), .int .i64 ((⟨f, t, m :: ms⟩ : GChannel).To), .slice B_5_8 ms.length c_5_8] l, hM aC (⟨f, t, ms⟩ : GChannel) [.int .i64 ((⟨f, t, m :: ms⟩ : GChannel).From), .int .i64 ((⟨f, t, m :: ms⟩ : GChannel).To), .slice B_5_8 ms.length c_5_8], hB g_4_7 31 #[.int .i64 (m.Kind), .int .i64 (m.Pos), .int .i64 (m.bI), .int .i64 (m.Question), .string (m.Name), .slice B40 m.bF.length c41, .int .i64 (m.Value.Kind), .int .i64 (m.Value.N), .int .i64 (m.Count), .int .i64 (m.Tag.Vat), .int .i64 (m.Tag.Entity), .int .i64 (m.Tag.Seq)], hR aR 27 (.slice B40 m.bF.length c41) m.bF, hB g_0_0 31 #[.int .i64 (0), .int .i64 (0), .int .i64 (0), .int .i64 (0), .string (⟨#[]⟩), .slice none 0 0, .int .i64 (0), .int .i64 (0), .int .i64 (0), .int .i64 (0), .int .i64 (0), .int .i64 (0)]] W61 := H67.pick [1, 0, 2, 3, 4] kD rfl; clear H67
 have H69 : St w F0 [hR aC 94 (.slice (some ⟨gf11, 0, none⟩) l.length c0) (l.set k ⟨f, t, ms⟩), hB g_4_7 31 #[.int .i64 (m.Kind), .int .i64 (m.Pos), .int .i64 (m.bI), .int .i64 (m.Question), .string (m.Name), .slice B40 m.bF.length c41, .int .i64 (m.Value.Kind), .int .i64 (m.Value.N), .int .i64 (m.Count), .int .i64 (m.Tag.Vat), .int .i64 (m.Tag.Entity), .int .i64 (m.Tag.Seq)], hR aR 27 (.slice B40 m.bF.length c41) m.bF, hB g_0_0 31 #[.int .i64 (0), .int .i64 (0), .int .i64 (0), .int .i64 (0), .string (⟨#[]⟩), .slice none 0 0, .int .i64 (0), .int .i64 (0), .int .i64 (0), .int .i64 (0), .int .i64 (0), .int .i64 (0)]] W61 := H68.fC rfl (List.length_set ..).symm; clear H68
 refine aI ?_
 refine wp_seq ?_
 refine aK [0, 1, 2] rfl ?_
 refine aA ?_
 refine aB rfl (cB Try.isAgg31 Try.sizeOf31 rfl (H69.blk 1 rfl) rfl) rfl rfl ?_
 refine aA ?_
 have H73 : St w F0 [hB g_0_0 31 #[.int .i64 (0), .int .i64 (0), .int .i64 (0), .int .i64 (0), .string (⟨#[]⟩), .slice none 0 0, .int .i64 (0), .int .i64 (0), .int .i64 (0), .int .i64 (0), .int .i64 (0), .int .i64 (0)], hR aC 94 (.slice (some ⟨gf11, 0, none⟩) l.length c0) (l.set k ⟨f, t, ms⟩), hB g_4_7 31 #[.int .i64 (m.Kind), .int .i64 (m.Pos), .int .i64 (m.bI), .int .i64 (m.Question), .string (m.Name), .slice B40 m.bF.length c41, .int .i64 (m.Value.Kind), .int .i64 (m.Value.N), .int .i64 (m.Count), .int .i64 (m.Tag.Vat), .int .i64 (m.Tag.Entity), .int .i64 (m.Tag.Seq)], hR aR 27 (.slice B40 m.bF.length c41) m.bF] W61 := H69.pick [3, 0, 1, 2] kD rfl; clear H69
 refine bE rfl Try.sizeOf31 rfl rfl rfl rfl kS H73 ?_
 intro W70 hu71 Ha72; clear H73; clear hu71
 refine aA ?_
 refine aB rfl (aG rfl) rfl rfl ?_
 refine aH ?_
 refine aI ?_
 refine wp_ret ?_
 obtain ⟨e1, e2, e3⟩ := tk_yes a b l k hk hf f t m ms hx
 rw [e1, e2, e3]
 rw [List.length_set]
 refine fP (.inl rfl) Try.results58 Try.isAgg31 Try.sizeOf31 rfl rfl (Ha72.blk 0 rfl) rfl ?_
 have H75 : St w F0 [hR aR 27 (.slice B40 m.bF.length c41) m.bF, hB g_0_0 31 #[.int .i64 (m.Kind), .int .i64 (m.Pos), .int .i64 (m.bI), .int .i64 (m.Question), .string (m.Name), .slice B40 m.bF.length c41, .int .i64 (m.Value.Kind), .int .i64 (m.Value.N), .int .i64 (m.Count), .int .i64 (m.Tag.Vat), .int .i64 (m.Tag.Entity), .int .i64 (m.Tag.Seq)], hR aC 94 (.slice (some ⟨gf11, 0, none⟩) l.length c0) (l.set k ⟨f, t, ms⟩), hB g_4_7 31 #[.int .i64 (m.Kind), .int .i64 (m.Pos), .int .i64 (m.bI), .int .i64 (m.Question), .string (m.Name), .slice B40 m.bF.length c41, .int .i64 (m.Value.Kind), .int .i64 (m.Value.N), .int .i64 (m.Count), .int .i64 (m.Tag.Vat), .int .i64 (m.Tag.Entity), .int .i64 (m.Tag.Seq)]] W70 := Ha72.pick [3, 0, 1, 2] kD rfl; clear Ha72
 have H76 : St w F0 [hM aF m [.int .i64 (m.Kind), .int .i64 (m.Pos), .int .i64 (m.bI), .int .i64 (m.Question), .string (m.Name), .slice B40 m.bF.length c41, .int .i64 (m.Value.Kind), .int .i64 (m.Value.N), .int .i64 (m.Count), .int .i64 (m.Tag.Vat), .int .i64 (m.Tag.Entity), .int .i64 (m.Tag.Seq)], hB g_0_0 31 #[.int .i64 (m.Kind), .int .i64 (m.Pos), .int .i64 (m.bI), .int .i64 (m.Question), .string (m.Name), .slice B40 m.bF.length c41, .int .i64 (m.Value.Kind), .int .i64 (m.Value.N), .int .i64 (m.Count), .int .i64 (m.Tag.Vat), .int .i64 (m.Tag.Entity), .int .i64 (m.Tag.Seq)], hR aC 94 (.slice (some ⟨gf11, 0, none⟩) l.length c0) (l.set k ⟨f, t, ms⟩), hB g_4_7 31 #[.int .i64 (m.Kind), .int .i64 (m.Pos), .int .i64 (m.bI), .int .i64 (m.Question), .string (m.Name), .slice B40 m.bF.length c41, .int .i64 (m.Value.Kind), .int .i64 (m.Value.N), .int .i64 (m.Count), .int .i64 (m.Tag.Vat), .int .i64 (m.Tag.Entity), .int .i64 (m.Tag.Seq)]] W70 := H75.swap (l0 := [hR aR 27 (.slice B40 m.bF.length c41) m.bF]) (l' := [hM aF m [.int .i64 (m.Kind), .int .i64 (m.Pos), .int .i64 (m.bI), .int .i64 (m.Question), .string (m.Name), .slice B40 m.bF.length c41, .int .i64 (m.Value.Kind), .int .i64 (m.Value.N), .int .i64 (m.Count), .int .i64 (m.Tag.Vat), .int .i64 (m.Tag.Entity), .int .i64 (m.Tag.Seq)]]) (fun _ h => Star.one (bN (x := m) h)); clear H75
 exact ⟨_, rfl, H76.pick [2, 0] kD rfl⟩
theorem take_i (l : List GChannel) (a b : Int) (A0 : Option Addr) (c0 : Nat) (F0 : Nat → Prop) (w : World) (h : Star [hR aC 94 (.slice A0 l.length c0) l] w F0) (hs : bJ aL l ≤ 1048576) : Calls Try.prog 58 #[.slice A0 l.length c0, .int .i64 a, .int .i64 b] w (fun e' w' => ∃ cs, e' = .returned (.tuple #[.agg (List.toArray cs), .bool (tkB a b l)]) ∧ St w F0 [hR aC 94 (.slice A0 (tkL a b l).length c0) (tkL a b l), hM aF (tkM a b l) cs] w') := by
 rcases eB (chP a b) l with hf | ⟨k, hk, hf⟩
 ·exact take_no l a b A0 c0 F0 w h hf
 ·have hx : l[k] = ⟨l[k].From, l[k].To, l[k].List⟩ := rfl
  revert hx
  have hb : l[k].List.length ≤ 1048576 := by
   have h1 := fJ aL l k hk
   unfold bJ at hs
   have h2 : l[k].List.length ≤ aL l[k] := by
    unfold aL bJ
    omega
   omega
  revert hb
  generalize l[k].From = f
  generalize l[k].To = t
  generalize l[k].List = ml
  intro hb hx
  cases ml with
  | nil => exact take_nil l a b A0 c0 F0 w h k hk hf f t hx
  | cons m ms =>
   have hms : ms.length ≤ 1048576 := by simp only [List.length_cons] at hb; omega
   exact take_yes l a b A0 c0 F0 w h k hk hf f t m ms hx hms
theorem takeMessage_I (l : List GChannel) (a b : Int) (A : Option Addr) (c : Nat) (w : World) (hC : C aC w A l) (hs : bJ aL l ≤ 1048576) : Calls Try.prog 12 #[.slice A l.length c, .int .i64 a, .int .i64 b] w (RetTk aC 94 (tkL a b l) aF (tkM a b l) (tkB a b l) w) := by
 refine enter 24 [(0, .slice A l.length c), (1, .int .i64 (a)), (2, .int .i64 (b))] Try.func12 rfl kR ?_
 intro xj
 have H1 : St w No [] w := St.enter
 have hs4 : bJ aL l ≤ 4194304 := by omega
 refine wp_seq ?_
 refine aK [0, 1, 2] rfl ?_
 refine aA ?_
 refine aB rfl (aG rfl) rfl rfl ?_
 refine aA ?_
 refine bW rfl Try.zeroValue31 rfl rfl H1 ?_
 intro g_0_1 W2 hu3 Ha4; clear H1; clear hu3
 refine aA ?_
 refine aB rfl (aG rfl) rfl rfl ?_
 refine aH ?_
 refine aI ?_
 refine wp_seq ?_
 refine aK [0, 1, 2] rfl ?_
 refine aA ?_
 refine aB rfl (aD rfl) rfl rfl ?_
 refine aA ?_
 refine aN rfl Try.call46 (vs := #[.slice A l.length c]) rfl rfl rfl (fD l _ _ _ (bQ Ha4.1 hC) hs4) ?_
 rintro e10 W9 ⟨v6, rfl, hR7, hu8⟩; refine ⟨_, rfl, ?_⟩
 obtain ⟨B_1_1, c_1_1, rfl⟩ := bK hR7
 have H11 := Ha4.new (q := hR aC 94 (.slice B_1_1 l.length c_1_1) l) hu8 hR7; clear Ha4
 refine aA ?_
 refine aB rfl (aG rfl) rfl rfl ?_
 refine aH ?_
 refine aI ?_
 refine wp_seq ?_
 refine aK [0, 1, 2, 3, 4, 5, 6, 7, 8, 9] rfl ?_
 refine aA ?_
 refine aB rfl (aD rfl) rfl rfl ?_
 refine aA ?_
 refine aB rfl (aD rfl) rfl rfl ?_
 refine aA ?_
 refine aB rfl (aD rfl) rfl rfl ?_
 refine aA ?_
 obtain ⟨F12, hs13, _, hfr14⟩ := St.frame (l0 := [hR aC 94 (.slice B_1_1 l.length c_1_1) l]) (l := [hB g_0_1 31 #[.int .i64 (0), .int .i64 (0), .int .i64 (0), .int .i64 (0), .string (⟨#[]⟩), .slice none 0 0, .int .i64 (0), .int .i64 (0), .int .i64 (0), .int .i64 (0), .int .i64 (0), .int .i64 (0)]]) H11
 have hlen : (tkL a b l).length = l.length := tkL_len a b l
 refine aN rfl Try.call58 (vs := #[.slice B_1_1 l.length c_1_1, .int .i64 (a), .int .i64 (b)]) rfl rfl rfl (take_i l a b _ _ _ _ hs13 hs) ?_
 rintro e17 W16 ⟨cs_2_3, rfl, Hn15⟩; refine ⟨_, rfl, ?_⟩
 have H18 : St w No [hR aC 94 (.slice B_1_1 ((tkL a b l).length) c_1_1) (tkL a b l), hM aF (tkM a b l) cs_2_3, hB g_0_1 31 #[.int .i64 (0), .int .i64 (0), .int .i64 (0), .int .i64 (0), .string (⟨#[]⟩), .slice none 0 0, .int .i64 (0), .int .i64 (0), .int .i64 (0), .int .i64 (0), .int .i64 (0), .int .i64 (0)]] W16 := hfr14 (_ :: [_]) _ Hn15; clear H11
 rw [hlen] at H18
 refine aA ?_
 refine aB rfl (aD rfl) rfl rfl ?_
 refine aA ?_
 refine aB rfl (bU (v := .agg (List.toArray cs_2_3)) rfl rfl) rfl rfl ?_
 refine aA ?_
 refine aB rfl (bU (v := .bool (tkB a b l)) rfl rfl) rfl rfl ?_
 refine aA ?_
 refine bW rfl Try.zeroValue31 rfl rfl H18 ?_
 intro g_2_7 W19 hu20 Ha21; clear H18; clear hu20
 refine aA ?_
 refine bE rfl Try.sizeOf31 rfl rfl (aX (Ha21.kn 2 rfl)) rfl (bS (Ha21.kn 2 rfl)) Ha21 ?_
 intro W23 hu24 Ha25; clear Ha21; clear hu24
 refine aA ?_
 refine aB rfl (aG rfl) rfl rfl ?_
 refine aH ?_
 refine aI ?_
 refine wp_seq ?_
 refine eF (fun W' => Blk W' g_2_7 31 (List.toArray cs_2_3)) 6 kR ?_
 have H27 := Ha25.drew; clear Ha25
 have hS28 : Blk W23.drew g_2_7 31 (List.toArray cs_2_3) := H27.blk 0 rfl
 refine aM (i := 0) rfl kR kR kR kR kR (fun _ _ _ h => h) rfl rfl hS28 (fun W' hs' => aD rfl) ?_
 refine aM (i := 1) rfl kR kR kR kR kR (fun _ _ _ h => h) rfl rfl hS28 (fun W' hs' => cB Try.isAgg31 Try.sizeOf31 rfl hs' (aX (H27.kn 2 rfl))) ?_
 refine aM (i := 2) rfl kR kR kR kR kR (fun _ _ _ h => h) rfl rfl hS28 (fun W' hs' => aD rfl) ?_
 refine aM (i := 3) rfl kR kR kR kR kR (fun _ _ _ h => h) rfl rfl hS28 (fun W' hs' => aG rfl) ?_
 refine bZ (i := 4) kR ?_
 have H32 : St w No [hB g_0_1 31 #[.int .i64 (0), .int .i64 (0), .int .i64 (0), .int .i64 (0), .string (⟨#[]⟩), .slice none 0 0, .int .i64 (0), .int .i64 (0), .int .i64 (0), .int .i64 (0), .int .i64 (0), .int .i64 (0)], hB g_2_7 31 (List.toArray cs_2_3), hR aC 94 (.slice B_1_1 l.length c_1_1) (tkL a b l), hM aF (tkM a b l) cs_2_3] W23.drew := H27.pick [3, 0, 1, 2] kD rfl; clear H27
 refine bE rfl Try.sizeOf31 rfl rfl (aX (H32.kn 3 rfl)) rfl (bS (H32.kn 3 rfl)) H32 ?_
 intro W29 hu30 Ha31; clear H32; clear hu30
 have hS34 := Ha31.blk 1 rfl; refine ⟨fun _ => hS34, ?_⟩
 refine aM (i := 5) rfl kR kR kR kR kR (fun _ _ _ h => h) rfl rfl hS34 (fun W' hs' => aG rfl) ?_
 refine dY kR ?_ _
 refine aI ?_
 refine wp_ret ?_
 refine post_tmp_cell_tmp (.inl rfl) Try.results12 Try.isAgg31 Try.sizeOf31 rfl rfl rfl (Ha31.blk 0 rfl) (aX (Ha31.kn 3 rfl)) ?_
 refine ⟨_, _, _, by rw [tkL_len a b l], ?_, Ha31.1⟩
 rw [tkL_len a b l]
 exact (Ha31.pick [2, 3] kD rfl).star
section
variable {P : Program} {n : Nat} {x : Nat → Value} {live : List (Nat × Value)} {W : World}
theorem post_tmps {fn : Func} {e : Exit} {i j : Nat} {v v2 : Value} {R : Ending → World → Prop} (he : e = .ret ∨ e = .normal) (hr : fn.results = #[.tmp i, .tmp j]) (hx : evl n live (.tmp i) = some v) (hy : evl n live (.tmp j) = some v2) (h : R (.returned (.tuple #[v, v2])) W) : bodyPost P fn R e (aO n x live) W := by
 have e2 : (aO n x live).tmps.getD i undef = v := aZ (y := .tmp i) hx
 have e3 : (aO n x live).tmps.getD j undef = v2 := aZ (y := .tmp j) hy
 have hrun : (results fn (aO n x live).tmps).run P W = .ok (.tuple #[v, v2]) W := by
  simp only [results, hr]
  simp at e2 e3
  simp [e2, e3]
 rcases he with rfl | rfl <;> exact ⟨rfl, _, hrun, h⟩
theorem post_3c {fn : Func} {e : Exit} {p t g tb m j j2 j3 : Nat} {v0 v v3 : Value} {cs : Array Value} {R : Ending → World → Prop} (he : e = .ret ∨ e = .normal) (hr : fn.results = #[.tmp j, .tmp j2, .tmp j3, .cell p t]) (hA : ∀ w, (isAgg t).run P w = .ok true w) (hS : ∀ w, (sizeOf t).run P w = .ok m w) (hy : evl n live (.tmp j) = some v0) (hy2 : evl n live (.tmp j2) = some v) (hy3 : evl n live (.tmp j3) = some v3) (hx : evl n live (.tmp p) = some (.pointer (some ⟨g, 0, none⟩))) (hb : Blk W g tb cs) (hm : cs.size = m) (h : R (.returned (.tuple #[v0, v, v3, .agg cs])) W) : bodyPost P fn R e (aO n x live) W := by
 have e2 : (aO n x live).tmps.getD p undef = .pointer (some ⟨g, 0, none⟩) := aZ (y := .tmp p) hx
 have e3 : (aO n x live).tmps.getD j undef = v0 := aZ (y := .tmp j) hy
 have e4 : (aO n x live).tmps.getD j2 undef = v := aZ (y := .tmp j2) hy2
 have e5 : (aO n x live).tmps.getD j3 undef = v3 := aZ (y := .tmp j3) hy3
 have hl := run_cell hA hS hb hm
 have hrun : (results fn (aO n x live).tmps).run P W = .ok (.tuple #[v0, v, v3, .agg cs]) W := by
  simp only [results, hr]
  simp at e2 e3 e4 e5
  simp [e2, e3, e4, e5, asAddr, hl]
 rcases he with rfl | rfl <;> exact ⟨rfl, _, hrun, h⟩
end
def ptR (a b : Int) (m : GMessage) (l : List GChannel) : List GChannel × Bool :=
 match l[(fidx (chP a b) 0 l).toNat]? with
 | none => (l, false)
 | some x => if fidx (chP a b) 0 l < 0 then (l, false) else if 200 ≤ x.List.length then (l, false) else (l.set (fidx (chP a b) 0 l).toNat ⟨x.From, x.To, x.List ++ [m]⟩, true)
def ptL (a b : Int) (m : GMessage) (l : List GChannel) : List GChannel := (ptR a b m l).1
def ptB (a b : Int) (m : GMessage) (l : List GChannel) : Bool := (ptR a b m l).2
theorem pt_no (a b : Int) (m : GMessage) (l : List GChannel) (h : fidx (chP a b) 0 l = -1) : ptL a b m l = l ∧ ptB a b m l = false := by
 have e : ptR a b m l = (l, false) := by
  unfold ptR
  rw [h]
  cases l[(-1 : Int).toNat]? <;> rfl
 unfold ptL ptB
 rw [e]
 exact ⟨rfl, rfl⟩
theorem pt_at (a b : Int) (m : GMessage) (l : List GChannel) (k : Nat) (hk : k < l.length) (h : fidx (chP a b) 0 l = (k : Int)) (f t : Int) (ml : List GMessage) (hx : l[k] = ⟨f, t, ml⟩) : ptR a b m l = if 200 ≤ ml.length then (l, false) else (l.set k ⟨f, t, ml ++ [m]⟩, true) := by
 unfold ptR
 rw [h, Int.toNat_natCast, List.getElem?_eq_getElem hk, hx]
 show (if (k : Int) < 0 then _ else _) = _
 rw [if_neg kO]
theorem pt_full (a b : Int) (m : GMessage) (l : List GChannel) (k : Nat) (hk : k < l.length) (h : fidx (chP a b) 0 l = (k : Int)) (f t : Int) (ml : List GMessage) (hx : l[k] = ⟨f, t, ml⟩) (h2 : 200 ≤ ml.length) : ptL a b m l = l ∧ ptB a b m l = false := by
 unfold ptL ptB
 rw [pt_at a b m l k hk h f t ml hx, if_pos h2]
 exact ⟨rfl, rfl⟩
theorem pt_yes (a b : Int) (m : GMessage) (l : List GChannel) (k : Nat) (hk : k < l.length) (h : fidx (chP a b) 0 l = (k : Int)) (f t : Int) (ml : List GMessage) (hx : l[k] = ⟨f, t, ml⟩) (h2 : ml.length < 200) : ptL a b m l = l.set k ⟨f, t, ml ++ [m]⟩ ∧ ptB a b m l = true := by
 unfold ptL ptB
 rw [pt_at a b m l k hk h f t ml hx, if_neg kO]
 exact ⟨rfl, rfl⟩
theorem pt_len (a b : Int) (m : GMessage) (l : List GChannel) : (ptL a b m l).length = l.length := by
 rcases eB (chP a b) l with hf | ⟨k, hk, hf⟩
 ·rw [(pt_no a b m l hf).1]
 ·by_cases h2 : 200 ≤ l[k].List.length
  ·rw [(pt_full a b m l k hk hf _ _ _ rfl h2).1]
  ·rw [(pt_yes a b m l k hk hf _ _ _ rfl (Nat.lt_of_not_le h2)).1]
   exact List.length_set ..
def RetPt {α : Type} (d : Kn α) (e0 : Nat) (L : List α) (b : Bool) (w : World) (e : Ending) (w' : World) : Prop := ∃ B c, e = .returned (.tuple #[.slice B L.length c, .bool b]) ∧ Star [hR d e0 (.slice B L.length c) L] w' (New w) ∧ Upd No w w'
theorem put_no (l : List GChannel) (a b : Int) (m : GMessage) (cm : List Value) (A0 : Option Addr) (c0 : Nat) (F0 : Nat → Prop) (w : World) (h : Star [hR aC 94 (.slice A0 l.length c0) l, hM aF m cm] w F0) (hf : fidx (chP a b) 0 l = -1) : Calls Try.prog 47 #[.slice A0 l.length c0, .int .i64 a, .int .i64 b, .agg (List.toArray cm)] w (fun e' w' => e' = .returned (.bool (ptB a b m l)) ∧ St w F0 [hR aC 94 (.slice A0 (ptL a b m l).length c0) (ptL a b m l)] w') := by
 refine enter 37 [(0, .slice A0 l.length c0), (1, .int .i64 (a)), (2, .int .i64 (b)), (3, .agg (List.toArray cm))] Try.func47 rfl kR ?_
 intro xj
 have H1 : St w F0 [hR aC 94 (.slice A0 l.length c0) l, hM aF m cm] w := St.eO h
 refine wp_seq ?_
 refine aK [0, 1] rfl ?_
 refine aA ?_
 refine eP rfl rfl rfl rfl H1 ?_
 intro g_0_0 W2 hu3 Ha4; clear H1; clear hu3
 refine aA ?_
 refine aB rfl (aG rfl) rfl rfl ?_
 refine aH ?_
 refine aI ?_
 refine wp_seq ?_
 refine aK [0, 1, 2, 3, 4] rfl ?_
 refine aA ?_
 refine aB rfl (aD rfl) rfl rfl ?_
 refine aA ?_
 refine aB rfl (aD rfl) rfl rfl ?_
 refine aA ?_
 refine aB rfl (aD rfl) rfl rfl ?_
 refine aA ?_
 refine aN rfl Try.call56 (vs := #[.slice A0 l.length c0, .int .i64 (a), .int .i64 (b)]) rfl rfl rfl (eT l a b (-1) hf _ _ _ (Ha4.rowC 1 rfl)) ?_
 rintro e8 W7 ⟨rfl, hu6⟩; refine ⟨_, rfl, ?_⟩
 have H9 := Ha4.no hu6; clear Ha4
 refine aA ?_
 refine aB rfl (aG rfl) rfl rfl ?_
 refine aH ?_
 refine aI ?_
 refine wp_seq ?_
 refine wp_seq ?_
 refine aK [0, 1, 2, 3, 4, 5, 6, 7, 8, 9, 10] rfl ?_
 refine aA ?_
 refine aB rfl (aD rfl) rfl rfl ?_
 refine aA ?_
 refine aB rfl (bG (p := ((-1) : Int) < 0) kD (dD (p := (-1)) (q := 0) rfl rfl)) rfl rfl ?_
 refine aA ?_
 refine aB rfl (aD rfl) rfl rfl ?_
 refine aA ?_
 refine aJ rfl rfl rfl rfl rfl rfl rfl ?_
 refine aA ?_
 refine aJ rfl rfl rfl rfl rfl rfl rfl ?_
 refine aA ?_
 refine aJ rfl rfl rfl rfl rfl rfl rfl ?_
 refine aA ?_
 refine aJ rfl rfl rfl rfl rfl rfl rfl ?_
 refine aA ?_
 refine aJ rfl rfl rfl rfl rfl rfl rfl ?_
 refine aA ?_
 refine aJ rfl rfl rfl rfl rfl rfl rfl ?_
 refine aA ?_
 refine aJ rfl rfl rfl rfl rfl rfl rfl ?_
 refine aA ?_
 refine aB rfl (aP (v := .bool (true)) (b := true) rfl rfl rfl rfl) rfl rfl ?_
 refine aH ?_
 refine aI ?_
 refine dO rfl ?_
 refine wp_seq ?_
 refine aK [0] rfl ?_
 refine aA ?_
 refine aB rfl (aG rfl) rfl rfl ?_
 refine aH ?_
 refine aI ?_
 refine wp_ret ?_
 refine bV ?_
 obtain ⟨e1, e2⟩ := pt_no a b m l hf
 rw [e1, e2]
 refine aV (.inl rfl) Try.results47 rfl ?_
 exact ⟨rfl, H9.pick [1] kD rfl⟩
theorem put_full (l : List GChannel) (a b : Int) (m : GMessage) (cm : List Value) (A0 : Option Addr) (c0 : Nat) (F0 : Nat → Prop) (w : World) (h : Star [hR aC 94 (.slice A0 l.length c0) l, hM aF m cm] w F0) (k : Nat) (hk : k < l.length) (hf : fidx (chP a b) 0 l = (k : Int)) (f t : Int) (ml : List GMessage) (hx : l[k] = ⟨f, t, ml⟩) (h2 : 200 ≤ ml.length) : Calls Try.prog 47 #[.slice A0 l.length c0, .int .i64 a, .int .i64 b, .agg (List.toArray cm)] w (fun e' w' => e' = .returned (.bool (ptB a b m l)) ∧ St w F0 [hR aC 94 (.slice A0 (ptL a b m l).length c0) (ptL a b m l)] w') := by
 refine enter 37 [(0, .slice A0 l.length c0), (1, .int .i64 (a)), (2, .int .i64 (b)), (3, .agg (List.toArray cm))] Try.func47 rfl kR ?_
 intro xj
 have H1 : St w F0 [hR aC 94 (.slice A0 l.length c0) l, hM aF m cm] w := St.eO h
 refine wp_seq ?_
 refine aK [0, 1] rfl ?_
 refine aA ?_
 refine eP rfl rfl rfl rfl H1 ?_
 intro g_0_0 W2 hu3 Ha4; clear H1; clear hu3
 refine aA ?_
 refine aB rfl (aG rfl) rfl rfl ?_
 refine aH ?_
 refine aI ?_
 refine wp_seq ?_
 refine aK [0, 1, 2, 3, 4] rfl ?_
 refine aA ?_
 refine aB rfl (aD rfl) rfl rfl ?_
 refine aA ?_
 refine aB rfl (aD rfl) rfl rfl ?_
 refine aA ?_
 refine aB rfl (aD rfl) rfl rfl ?_
 refine aA ?_
 refine aN rfl Try.call56 (vs := #[.slice A0 l.length c0, .int .i64 (a), .int .i64 (b)]) rfl rfl rfl (eT l a b ((k : Nat) : Int) hf _ _ _ (Ha4.rowC 1 rfl)) ?_
 rintro e8 W7 ⟨rfl, hu6⟩; refine ⟨_, rfl, ?_⟩
 have H9 := Ha4.no hu6; clear Ha4
 refine aA ?_
 refine aB rfl (aG rfl) rfl rfl ?_
 refine aH ?_
 refine aI ?_
 refine wp_seq ?_
 refine wp_seq ?_
 have H10 : St w F0 [hR aC 94 (.slice A0 l.length c0) l, hB g_0_0 31 (List.toArray cm), hM aF m cm] W7 := H9.pick [1, 0, 2] kD rfl; clear H9
 obtain ⟨gf11, rfl⟩ := H10.openS (q := k) hk
 obtain ⟨ce12, hn13, H14⟩ := H10.openG (q := k) hk; clear H10
 rw [hx] at H14
 have H15 : St w F0 [hE aC 94 gf11 c0 k ce12 l, hM aC (⟨f, t, ml⟩ : GChannel) ce12, hB g_0_0 31 (List.toArray cm), hM aF m cm] W7 := H14; clear H14
 have H22 : St w F0 [hM aC (⟨f, t, ml⟩ : GChannel) ce12, hE aC 94 gf11 c0 k ce12 l, hB g_0_0 31 (List.toArray cm), hM aF m cm] W7 := H15.pick [1, 0, 2, 3] kD rfl; clear H15
 obtain ⟨F16, hM17, hb18⟩ := H22.unM
 obtain ⟨B20, c21, rfl, hst19⟩ := bX hM17
 have H23 : St w F0 [hR aF 31 (.slice B20 ((⟨f, t, ml⟩ : GChannel).List.length) c21) ((⟨f, t, ml⟩ : GChannel).List), hE aC 94 gf11 c0 k [.int .i64 ((⟨f, t, ml⟩ : GChannel).From), .int .i64 ((⟨f, t, ml⟩ : GChannel).To), .slice B20 ((⟨f, t, ml⟩ : GChannel).List.length) c21] l, hB g_0_0 31 (List.toArray cm), hM aF m cm] W7 := hb18 _ hst19; clear H22
 refine aK [0, 1, 2, 3, 4, 5, 6, 7, 8, 9, 10] rfl ?_
 refine aA ?_
 refine aB rfl (aD rfl) rfl rfl ?_
 refine aA ?_
 refine aB rfl (bH (p := (((k : Nat) : Int) : Int) < 0) kO (dD (p := ((k : Nat) : Int)) (q := 0) rfl rfl)) rfl rfl ?_
 refine aA ?_
 refine aB rfl (aD rfl) rfl rfl ?_
 refine aA ?_
 refine aU rfl rfl rfl rfl (fun _ ho24 => ?_)
 refine aB ho24 (aD rfl) rfl rfl ?_
 refine aA ?_
 refine aU rfl rfl rfl rfl (fun _ ho25 => ?_)
 refine aB ho25 (aD rfl) rfl rfl ?_
 refine aA ?_
 refine aU rfl rfl rfl rfl (fun _ ho26 => ?_)
 refine aB ho26 (bB (k := k) Try.runUnderlying24 Try.sizeOf94 rfl rfl rfl (Nat.lt_of_lt_of_eq hk hn13.symm)) rfl rfl ?_
 refine aA ?_
 refine aU rfl rfl rfl rfl (fun _ ho27 => ?_)
 refine aB ho27 (aS bY rfl) rfl rfl ?_
 refine aA ?_
 refine aU rfl rfl rfl rfl (fun _ ho28 => ?_)
 refine aB ho28 (dX (v := .slice B20 ((⟨f, t, ml⟩ : GChannel).List.length) c21) Try.isAgg37 rfl (H23.catE 1 rfl) rfl) rfl rfl ?_
 refine aA ?_
 refine aU rfl rfl rfl rfl (fun _ ho29 => ?_)
 refine aB ho29 (bT Try.runUnderlying37 rfl) rfl rfl ?_
 refine aA ?_
 refine aU rfl rfl rfl rfl (fun _ ho30 => ?_)
 refine aB ho30 (bG (p := (200 : Int) ≤ ((⟨f, t, ml⟩ : GChannel).List.length : Nat)) (show (200 : Int) ≤ (ml.length : Nat) by omega) (rn_geq (p := ((⟨f, t, ml⟩ : GChannel).List.length : Nat)) (q := 200) rfl rfl)) rfl rfl ?_
 refine aA ?_
 refine aB rfl (aP (v := .bool (true)) (b := false) rfl rfl rfl rfl) rfl rfl ?_
 refine aH ?_
 have H31 : St w F0 [hM aC (⟨f, t, ml⟩ : GChannel) [.int .i64 ((⟨f, t, ml⟩ : GChannel).From), .int .i64 ((⟨f, t, ml⟩ : GChannel).To), .slice B20 ((⟨f, t, ml⟩ : GChannel).List.length) c21], hE aC 94 gf11 c0 k [.int .i64 ((⟨f, t, ml⟩ : GChannel).From), .int .i64 ((⟨f, t, ml⟩ : GChannel).To), .slice B20 ((⟨f, t, ml⟩ : GChannel).List.length) c21] l, hB g_0_0 31 (List.toArray cm), hM aF m cm] W7 := H23.swap (l0 := [hR aF 31 (.slice B20 ((⟨f, t, ml⟩ : GChannel).List.length) c21) ((⟨f, t, ml⟩ : GChannel).List)]) (l' := [hM aC (⟨f, t, ml⟩ : GChannel) [.int .i64 ((⟨f, t, ml⟩ : GChannel).From), .int .i64 ((⟨f, t, ml⟩ : GChannel).To), .slice B20 ((⟨f, t, ml⟩ : GChannel).List.length) c21]]) (fun _ h => Star.one (bD (x := (⟨f, t, ml⟩ : GChannel)) h)); clear H23
 have H32 : St w F0 [hE aC 94 gf11 c0 k [.int .i64 ((⟨f, t, ml⟩ : GChannel).From), .int .i64 ((⟨f, t, ml⟩ : GChannel).To), .slice B20 ((⟨f, t, ml⟩ : GChannel).List.length) c21] l, hM aC (⟨f, t, ml⟩ : GChannel) [.int .i64 ((⟨f, t, ml⟩ : GChannel).From), .int .i64 ((⟨f, t, ml⟩ : GChannel).To), .slice B20 ((⟨f, t, ml⟩ : GChannel).List.length) c21], hB g_0_0 31 (List.toArray cm), hM aF m cm] W7 := H31.pick [1, 0, 2, 3] kD rfl; clear H31
 have H33 : St w F0 [hR aC 94 (.slice (some ⟨gf11, 0, none⟩) l.length c0) l, hB g_0_0 31 (List.toArray cm), hM aF m cm] W7 := H32.fC (by rw [← hx]; exact List.set_getElem_self ..) rfl; clear H32
 refine aI ?_
 refine dO rfl ?_
 refine wp_seq ?_
 refine aK [0] rfl ?_
 refine aA ?_
 refine aB rfl (aG rfl) rfl rfl ?_
 refine aH ?_
 refine aI ?_
 refine wp_ret ?_
 refine bV ?_
 obtain ⟨e1, e2⟩ := pt_full a b m l k hk hf f t ml hx h2
 rw [e1, e2]
 refine aV (.inl rfl) Try.results47 rfl ?_
 exact ⟨rfl, H33.pick [0] kD rfl⟩
theorem put_yes (l : List GChannel) (a b : Int) (m : GMessage) (cm : List Value) (A0 : Option Addr) (c0 : Nat) (F0 : Nat → Prop) (w : World) (h : Star [hR aC 94 (.slice A0 l.length c0) l, hM aF m cm] w F0) (k : Nat) (hk : k < l.length) (hf : fidx (chP a b) 0 l = (k : Int)) (f t : Int) (ml : List GMessage) (hx : l[k] = ⟨f, t, ml⟩) (h2 : ml.length < 200) : Calls Try.prog 47 #[.slice A0 l.length c0, .int .i64 a, .int .i64 b, .agg (List.toArray cm)] w (fun e' w' => e' = .returned (.bool (ptB a b m l)) ∧ St w F0 [hR aC 94 (.slice A0 (ptL a b m l).length c0) (ptL a b m l)] w') := by
 refine enter 37 [(0, .slice A0 l.length c0), (1, .int .i64 (a)), (2, .int .i64 (b)), (3, .agg (List.toArray cm))] Try.func47 rfl kR ?_
 intro xj
 have H1 : St w F0 [hR aC 94 (.slice A0 l.length c0) l, hM aF m cm] w := St.eO h
 refine wp_seq ?_
 refine aK [0, 1] rfl ?_
 refine aA ?_
 refine eP rfl rfl rfl rfl H1 ?_
 intro g_0_0 W2 hu3 Ha4; clear H1; clear hu3
 refine aA ?_
 refine aB rfl (aG rfl) rfl rfl ?_
 refine aH ?_
 refine aI ?_
 refine wp_seq ?_
 refine aK [0, 1, 2, 3, 4] rfl ?_
 refine aA ?_
 refine aB rfl (aD rfl) rfl rfl ?_
 refine aA ?_
 refine aB rfl (aD rfl) rfl rfl ?_
 refine aA ?_
 refine aB rfl (aD rfl) rfl rfl ?_
 refine aA ?_
 refine aN rfl Try.call56 (vs := #[.slice A0 l.length c0, .int .i64 (a), .int .i64 (b)]) rfl rfl rfl (eT l a b ((k : Nat) : Int) hf _ _ _ (Ha4.rowC 1 rfl)) ?_
 rintro e8 W7 ⟨rfl, hu6⟩; refine ⟨_, rfl, ?_⟩
 have H9 := Ha4.no hu6; clear Ha4
 refine aA ?_
 refine aB rfl (aG rfl) rfl rfl ?_
 refine aH ?_
 refine aI ?_
 refine wp_seq ?_
 refine wp_seq ?_
 have H10 : St w F0 [hR aC 94 (.slice A0 l.length c0) l, hB g_0_0 31 (List.toArray cm), hM aF m cm] W7 := H9.pick [1, 0, 2] kD rfl; clear H9
 obtain ⟨gf11, rfl⟩ := H10.openS (q := k) hk
 obtain ⟨ce12, hn13, H14⟩ := H10.openG (q := k) hk; clear H10
 rw [hx] at H14
 have H15 : St w F0 [hE aC 94 gf11 c0 k ce12 l, hM aC (⟨f, t, ml⟩ : GChannel) ce12, hB g_0_0 31 (List.toArray cm), hM aF m cm] W7 := H14; clear H14
 have H22 : St w F0 [hM aC (⟨f, t, ml⟩ : GChannel) ce12, hE aC 94 gf11 c0 k ce12 l, hB g_0_0 31 (List.toArray cm), hM aF m cm] W7 := H15.pick [1, 0, 2, 3] kD rfl; clear H15
 obtain ⟨F16, hM17, hb18⟩ := H22.unM
 obtain ⟨B20, c21, rfl, hst19⟩ := bX hM17
 have H23 : St w F0 [hR aF 31 (.slice B20 ((⟨f, t, ml⟩ : GChannel).List.length) c21) ((⟨f, t, ml⟩ : GChannel).List), hE aC 94 gf11 c0 k [.int .i64 ((⟨f, t, ml⟩ : GChannel).From), .int .i64 ((⟨f, t, ml⟩ : GChannel).To), .slice B20 ((⟨f, t, ml⟩ : GChannel).List.length) c21] l, hB g_0_0 31 (List.toArray cm), hM aF m cm] W7 := hb18 _ hst19; clear H22
 refine aK [0, 1, 2, 3, 4, 5, 6, 7, 8, 9, 10] rfl ?_
 refine aA ?_
 refine aB rfl (aD rfl) rfl rfl ?_
 refine aA ?_
 refine aB rfl (bH (p := (((k : Nat) : Int) : Int) < 0) kO (dD (p := ((k : Nat) : Int)) (q := 0) rfl rfl)) rfl rfl ?_
 refine aA ?_
 refine aB rfl (aD rfl) rfl rfl ?_
 refine aA ?_
 refine aU rfl rfl rfl rfl (fun _ ho24 => ?_)
 refine aB ho24 (aD rfl) rfl rfl ?_
 refine aA ?_
 refine aU rfl rfl rfl rfl (fun _ ho25 => ?_)
 refine aB ho25 (aD rfl) rfl rfl ?_
 refine aA ?_
 refine aU rfl rfl rfl rfl (fun _ ho26 => ?_)
 refine aB ho26 (bB (k := k) Try.runUnderlying24 Try.sizeOf94 rfl rfl rfl (Nat.lt_of_lt_of_eq hk hn13.symm)) rfl rfl ?_
 refine aA ?_
 refine aU rfl rfl rfl rfl (fun _ ho27 => ?_)
 refine aB ho27 (aS bY rfl) rfl rfl ?_
 refine aA ?_
 refine aU rfl rfl rfl rfl (fun _ ho28 => ?_)
 refine aB ho28 (dX (v := .slice B20 ((⟨f, t, ml⟩ : GChannel).List.length) c21) Try.isAgg37 rfl (H23.catE 1 rfl) rfl) rfl rfl ?_
 refine aA ?_
 refine aU rfl rfl rfl rfl (fun _ ho29 => ?_)
 refine aB ho29 (bT Try.runUnderlying37 rfl) rfl rfl ?_
 refine aA ?_
 refine aU rfl rfl rfl rfl (fun _ ho30 => ?_)
 refine aB ho30 (bH (p := (200 : Int) ≤ ((⟨f, t, ml⟩ : GChannel).List.length : Nat)) (show ¬ (200 : Int) ≤ (ml.length : Nat) by omega) (rn_geq (p := ((⟨f, t, ml⟩ : GChannel).List.length : Nat)) (q := 200) rfl rfl)) rfl rfl ?_
 refine aA ?_
 refine aB rfl (aP (v := .bool (false)) (b := false) rfl rfl rfl rfl) rfl rfl ?_
 refine aH ?_
 refine aI ?_
 refine dA rfl ?_
 refine wp_skip ?_
 refine aI ?_
 refine wp_seq ?_
 refine eF (fun W' => Cat W' (Addr.add ⟨gf11, 0, none⟩ (k * 3)) [.int .i64 ((⟨f, t, ml⟩ : GChannel).From), .int .i64 ((⟨f, t, ml⟩ : GChannel).To), .slice B20 ((⟨f, t, ml⟩ : GChannel).List.length) c21] ∧ Blk W' g_0_0 31 (List.toArray cm)) 12 kR ?_
 have H31 := H23.drew; clear H23
 have hS32 : Cat W7.drew (Addr.add ⟨gf11, 0, none⟩ (k * 3)) [.int .i64 ((⟨f, t, ml⟩ : GChannel).From), .int .i64 ((⟨f, t, ml⟩ : GChannel).To), .slice B20 ((⟨f, t, ml⟩ : GChannel).List.length) c21] ∧ Blk W7.drew g_0_0 31 (List.toArray cm) := ⟨(H31.catE 1 rfl), H31.blk 2 rfl⟩
 refine aM (i := 0) rfl kR kR kR kR kR (fun _ _ _ h => h) rfl rfl hS32 (fun W' hs' => aD rfl) ?_
 refine aM (i := 1) rfl kR kR kR kR kR (fun _ _ _ h => h) rfl rfl hS32 (fun W' hs' => aD rfl) ?_
 refine aM (i := 2) rfl kR kR kR kR kR (fun _ _ _ h => h) rfl rfl hS32 (fun W' hs' => aD rfl) ?_
 refine aM (i := 3) rfl kR kR kR kR kR (fun _ _ _ h => h) rfl rfl hS32 (fun W' hs' => aD rfl) ?_
 refine aM (i := 4) rfl kR kR kR kR kR (fun _ _ _ h => h) rfl rfl hS32 (fun W' hs' => bB (k := k) Try.runUnderlying24 Try.sizeOf94 rfl rfl rfl (Nat.lt_of_lt_of_eq hk hn13.symm)) ?_
 refine aM (i := 5) rfl kR kR kR kR kR (fun _ _ _ h => h) rfl rfl hS32 (fun W' hs' => aS bY rfl) ?_
 refine aM (i := 6) rfl kR kR kR kR kR (fun _ _ _ h => h) rfl rfl hS32 (fun W' hs' => dX (v := .slice B20 ((⟨f, t, ml⟩ : GChannel).List.length) c21) Try.isAgg37 rfl hs'.1 rfl) ?_
 refine aM (i := 7) rfl kR kR kR kR kR (fun _ _ _ h => h) rfl rfl hS32 (fun W' hs' => cB Try.isAgg31 Try.sizeOf31 rfl hs'.2 (aX (H31.kn 3 rfl))) ?_
 refine bZ (i := 8) kR ?_
 refine fA rfl Try.runUnderlying37 Try.sizeOf31 kD Try.zeroValue31 rfl (aX (H31.kn 3 rfl)) rfl rfl H31 ?_
 intro g_4_8 W33 hu34 Ha35; clear H31; clear hu34
 have hS37 := And.intro (Ha35.catE 2 rfl) (Ha35.blk 3 rfl); refine ⟨fun _ => hS37, ?_⟩
 refine bZ (i := 9) kR ?_
 have H40 : St w F0 [hR aF 31 (.slice B20 ((⟨f, t, ml⟩ : GChannel).List.length) c21) ((⟨f, t, ml⟩ : GChannel).List), hB g_4_8 31 (List.toArray cm), hM aF m cm, hE aC 94 gf11 c0 k [.int .i64 ((⟨f, t, ml⟩ : GChannel).From), .int .i64 ((⟨f, t, ml⟩ : GChannel).To), .slice B20 ((⟨f, t, ml⟩ : GChannel).List.length) c21] l, hB g_0_0 31 (List.toArray cm)] W33 := Ha35.pick [1, 0, 4, 2, 3] kD rfl; clear Ha35
 refine fH (xs := (⟨f, t, ml⟩ : GChannel).List) (p := m) (n' := (ml ++ [m]).length) (ys := (ml ++ [m])) rfl Try.underlying37 dH rfl kD kD rfl rfl (by show (ml.length + 1) * _ ≤ _; omega) (by rw [List.length_append]; rfl) rfl rfl rfl H40 ?_
 intro B_4_9 c_4_9 W38 Ha39; clear H40
 have hS42 := And.intro (Ha39.catE 1 rfl) (Ha39.blk 2 rfl); refine ⟨fun _ => hS42, ?_⟩
 refine bZ (i := 10) kR ?_
 refine aB rfl (bB (k := k) Try.runUnderlying24 Try.sizeOf94 rfl rfl rfl (Nat.lt_of_lt_of_eq hk hn13.symm)) rfl rfl ?_
 have hS43 := And.intro (Ha39.catE 1 rfl) (Ha39.blk 2 rfl); refine ⟨fun _ => hS43, ?_⟩
 refine aM (i := 11) rfl kR kR kR kR kR (fun _ _ _ h => h) rfl rfl hS43 (fun W' hs' => aS bY rfl) ?_
 refine bZ (i := 12) kR ?_
 have H47 : St w F0 [hE aC 94 gf11 c0 k [.int .i64 ((⟨f, t, ml⟩ : GChannel).From), .int .i64 ((⟨f, t, ml⟩ : GChannel).To), .slice B20 ((⟨f, t, ml⟩ : GChannel).List.length) c21] l, hR aF 31 (.slice B_4_9 ((ml ++ [m]).length) c_4_9) (ml ++ [m]), hB g_0_0 31 (List.toArray cm)] W38 := Ha39.pick [1, 0, 2] kD rfl; clear Ha39
 refine fB (dk := aC) (k := 2) (ce' := [.int .i64 ((⟨f, t, ml⟩ : GChannel).From), .int .i64 ((⟨f, t, ml⟩ : GChannel).To), .slice B_4_9 ((ml ++ [m]).length) c_4_9]) rfl Try.sizeOf37 rfl rfl rfl rfl (Nat.le_of_ble_eq_true rfl) (by simp [Value.cells, Value.oneCell']) rfl H47 ?_
 intro W44 hu45 Ha46; clear H47; clear hu45
 refine ⟨fun h => absS kR h, ?_⟩
 refine dY kR ?_ _
 have H49 : St w F0 [hR aF 31 (.slice B_4_9 ((ml ++ [m]).length) c_4_9) (ml ++ [m]), hE aC 94 gf11 c0 k [.int .i64 ((⟨f, t, ml⟩ : GChannel).From), .int .i64 ((⟨f, t, ml⟩ : GChannel).To), .slice B_4_9 ((ml ++ [m]).length) c_4_9] l, hB g_0_0 31 (List.toArray cm)] W44 := Ha46.pick [1, 0, 2] kD rfl; clear Ha46
 have H50 : St w F0 [hM aC (⟨f, t, ml ++ [m]⟩ : GChannel) [.int .i64 ((⟨f, t, ml⟩ : GChannel).From), .int .i64 ((⟨f, t, ml⟩ : GChannel).To), .slice B_4_9 ((ml ++ [m]).length) c_4_9], hE aC 94 gf11 c0 k [.int .i64 ((⟨f, t, ml⟩ : GChannel).From), .int .i64 ((⟨f, t, ml⟩ : GChannel).To), .slice B_4_9 ((ml ++ [m]).length) c_4_9] l, hB g_0_0 31 (List.toArray cm)] W44 := H49.swap (l0 := [hR aF 31 (.slice B_4_9 ((ml ++ [m]).length) c_4_9) (ml ++ [m])]) (l' := [hM aC (⟨f, t, ml ++ [m]⟩ : GChannel) [.int .i64 ((⟨f, t, ml⟩ : GChannel).From), .int .i64 ((⟨f, t, ml⟩ : GChannel).To), .slice B_4_9 ((ml ++ [m]).length) c_4_9]]) (fun _ h => Star.one (bD (x := (⟨f, t, ml ++ [m]⟩ : GChannel)) h)); clear H49
 have H51 : St w F0 [hE aC 94 gf11 c0 k [.int .i64 ((⟨f, t, ml⟩ : GChannel).From), .int .i64 ((⟨f, t, ml⟩ : GChannel).To), .slice B_4_9 ((ml ++ [m]).length) c_4_9] l, hM aC (⟨f, t, ml ++ [m]⟩ : GChannel) [.int .i64 ((⟨f, t, ml⟩ : GChannel).From), .int .i64 ((⟨f, t, ml⟩ : GChannel).To), .slice B_4_9 ((ml ++ [m]).length) c_4_9], hB g_0_0 31 (List.toArray cm)] W44 := H50.pick [1, 0, 2] kD rfl; clear H50
 have H52 : St w F0 [hR aC 94 (.slice (some ⟨gf11, 0, none⟩) l.length c0) (l.set k ⟨f, t, ml ++ [m]⟩), hB g_0_0 31 (List.toArray cm)] W44 := H51.fC rfl (List.length_set ..).symm; clear H51
 refine aI ?_
 refine wp_seq ?_
 refine aK [0] rfl ?_
 refine aA ?_
 refine aB rfl (aG rfl) rfl rfl ?_
 refine aH ?_
 refine aI ?_
 refine wp_ret ?_
 obtain ⟨e1, e2⟩ := pt_yes a b m l k hk hf f t ml hx h2
 rw [e1, e2]
 rw [List.length_set]
 refine aV (.inl rfl) Try.results47 rfl ?_
 exact ⟨rfl, H52.pick [0] kD rfl⟩
theorem put_i (l : List GChannel) (a b : Int) (m : GMessage) (cm : List Value) (A0 : Option Addr) (c0 : Nat) (F0 : Nat → Prop) (w : World) (h : Star [hR aC 94 (.slice A0 l.length c0) l, hM aF m cm] w F0) : Calls Try.prog 47 #[.slice A0 l.length c0, .int .i64 a, .int .i64 b, .agg (List.toArray cm)] w (fun e' w' => e' = .returned (.bool (ptB a b m l)) ∧ St w F0 [hR aC 94 (.slice A0 (ptL a b m l).length c0) (ptL a b m l)] w') := by
 rcases eB (chP a b) l with hf | ⟨k, hk, hf⟩
 ·exact put_no l a b m cm A0 c0 F0 w h hf
 ·have hx : l[k] = ⟨l[k].From, l[k].To, l[k].List⟩ := rfl
  by_cases h2 : 200 ≤ l[k].List.length
  ·exact put_full l a b m cm A0 c0 F0 w h k hk hf _ _ _ hx h2
  ·exact put_yes l a b m cm A0 c0 F0 w h k hk hf _ _ _ hx kO
theorem putMessage_I (l : List GChannel) (a b : Int) (m : GMessage) (cm : List Value) (A : Option Addr) (c : Nat) (w : World) (hC : C aC w A l) (hs : bJ aL l ≤ 1048576) (hK : aF.K w m cm) (hm : aQ m ≤ 1048576) : Calls Try.prog 8 #[.slice A l.length c, .int .i64 a, .int .i64 b, .agg (List.toArray cm)] w (RetPt aC 94 (ptL a b m l) (ptB a b m l) w) := by
 refine enter 22 [(0, .slice A l.length c), (1, .int .i64 (a)), (2, .int .i64 (b)), (3, .agg (List.toArray cm))] Try.func8 rfl kR ?_
 intro xj
 have H1 : St w No [] w := St.enter
 have hs4 : bJ aL l ≤ 4194304 := by omega
 have hm4 : aQ m ≤ 4194304 := by omega
 refine wp_seq ?_
 refine aK [0, 1, 2] rfl ?_
 refine aA ?_
 refine eP rfl rfl rfl rfl H1 ?_
 intro g_0_0 W2 hu3 Ha4; clear H1; clear hu3
 refine aA ?_
 refine aB rfl (aG rfl) rfl rfl ?_
 refine aA ?_
 refine aB rfl (aG rfl) rfl rfl ?_
 refine aH ?_
 refine aI ?_
 refine wp_seq ?_
 refine aK [0, 1, 2] rfl ?_
 refine aA ?_
 refine aB rfl (aD rfl) rfl rfl ?_
 refine aA ?_
 refine aN rfl Try.call46 (vs := #[.slice A l.length c]) rfl rfl rfl (fD l _ _ _ (bQ Ha4.1 hC) hs4) ?_
 rintro e10 W9 ⟨v6, rfl, hR7, hu8⟩; refine ⟨_, rfl, ?_⟩
 obtain ⟨B_1_1, c_1_1, rfl⟩ := bK hR7
 have H11 := Ha4.new (q := hR aC 94 (.slice B_1_1 l.length c_1_1) l) hu8 hR7; clear Ha4
 refine aA ?_
 refine aB rfl (aG rfl) rfl rfl ?_
 refine aH ?_
 refine aI ?_
 refine wp_seq ?_
 refine aK [0, 1, 2, 3, 4, 5, 6] rfl ?_
 refine aA ?_
 refine aB rfl (aD rfl) rfl rfl ?_
 refine aA ?_
 refine aB rfl (aD rfl) rfl rfl ?_
 refine aA ?_
 refine aB rfl (aD rfl) rfl rfl ?_
 refine aA ?_
 refine aB rfl (cB Try.isAgg31 Try.sizeOf31 rfl (H11.blk 1 rfl) (aX hK)) rfl rfl ?_
 refine aA ?_
 refine aN rfl Try.call48 (vs := #[.agg (List.toArray cm)]) rfl rfl rfl (copied_Message m _ _ (K_upd H11.1 hK) hm4) ?_
 rintro e15 W14 ⟨cs_2_4, rfl, hM12, hu13⟩; refine ⟨_, rfl, ?_⟩
 have H18 := H11.new (q := hM aF m cs_2_4) hu13 hM12; clear H11
 refine aA ?_
 have H19 : St w No [hR aC 94 (.slice B_1_1 l.length c_1_1) l, hM aF m cs_2_4, hB g_0_0 31 (List.toArray cm)] W14 := H18.pick [1, 0, 2] kD rfl; clear H18
 obtain ⟨F20, hs21, _, hfr22⟩ := St.frame (l0 := [hR aC 94 (.slice B_1_1 l.length c_1_1) l, hM aF m cs_2_4]) (l := [hB g_0_0 31 (List.toArray cm)]) H19
 have hlen : (ptL a b m l).length = l.length := pt_len a b m l
 refine aN rfl Try.call47 (vs := #[.slice B_1_1 l.length c_1_1, .int .i64 (a), .int .i64 (b), .agg (List.toArray cs_2_4)]) rfl rfl rfl (put_i l a b m _ _ _ _ _ hs21) ?_
 rintro e25 W24 ⟨rfl, Hn23⟩; refine ⟨_, rfl, ?_⟩
 have H26 := hfr22 _ _ Hn23; clear H19
 rw [hlen] at H26
 refine aA ?_
 refine aB rfl (aG rfl) rfl rfl ?_
 refine aH ?_
 refine aI ?_
 refine wp_seq ?_
 refine aK [0, 1, 2, 3] rfl ?_
 refine aA ?_
 refine aB rfl (aD rfl) rfl rfl ?_
 refine aA ?_
 refine aB rfl (aD rfl) rfl rfl ?_
 refine aA ?_
 refine aB rfl (aG rfl) rfl rfl ?_
 refine aA ?_
 refine aB rfl (aG rfl) rfl rfl ?_
 refine aH ?_
 refine aI ?_
 refine wp_ret ?_
 refine post_tmps (.inl rfl) Try.results8 rfl rfl ?_
 refine ⟨_, _, by rw [pt_len a b m l], ?_, H26.1⟩
 rw [pt_len a b m l]
 exact (H26.pick [0] kD rfl).star
theorem putS_no (l : List GChannel) (a b : Int) (m : GMessage) (cm : List Value) (A : Option Addr) (c : Nat) (w : World) (hC : C aC w A l) (hs : bJ aL l ≤ 1048576) (hK : aF.K w m cm) (hm : aQ m ≤ 1048576) (hf : fidx (chP a b) 0 l = -1) : Calls Try.prog 9 #[.slice A l.length c, .int .i64 a, .int .i64 b, .agg (List.toArray cm)] w (RetPt aC 94 (ptL a b m l) (ptB a b m l) w) := by
 refine enter 44 [(0, .slice A l.length c), (1, .int .i64 (a)), (2, .int .i64 (b)), (3, .agg (List.toArray cm))] Try.func9 rfl kR ?_
 intro xj
 have H1 : St w No [] w := St.enter
 have hs4 : bJ aL l ≤ 4194304 := by omega
 have hm4 : aQ m ≤ 4194304 := by omega
 have hn : l.length ≤ 1048576 := by unfold bJ at hs; omega
 refine wp_seq ?_
 refine aK [0, 1, 2] rfl ?_
 refine aA ?_
 refine eP rfl rfl rfl rfl H1 ?_
 intro g_0_0 W2 hu3 Ha4; clear H1; clear hu3
 refine aA ?_
 refine aB rfl (aG rfl) rfl rfl ?_
 refine aA ?_
 refine aB rfl (aG rfl) rfl rfl ?_
 refine aH ?_
 refine aI ?_
 refine wp_seq ?_
 refine aK [0, 1, 2] rfl ?_
 refine aA ?_
 refine aB rfl (aD rfl) rfl rfl ?_
 refine aA ?_
 refine aN rfl Try.call49 (vs := #[.slice A l.length c]) rfl rfl rfl (l20Copy_s l _ _ _ (bQ Ha4.1 hC) hs4) ?_
 rintro e10 W9 ⟨v6, rfl, hR7, hu8⟩; refine ⟨_, rfl, ?_⟩
 obtain ⟨B_1_1, c_1_1, rfl⟩ := bK hR7
 have H11 := Ha4.new (q := hR aC 94 (.slice B_1_1 l.length c_1_1) l) hu8 hR7; clear Ha4
 refine aA ?_
 refine aB rfl (aG rfl) rfl rfl ?_
 refine aH ?_
 refine aI ?_
 refine wp_seq ?_
 refine aK [0, 1, 2, 3, 4] rfl ?_
 refine aA ?_
 refine aB rfl (aD rfl) rfl rfl ?_
 refine aA ?_
 refine aB rfl (aD rfl) rfl rfl ?_
 refine aA ?_
 refine aB rfl (aD rfl) rfl rfl ?_
 refine aA ?_
 refine aN rfl Try.call50 (vs := #[.slice A l.length c, .int .i64 (a), .int .i64 (b)]) rfl rfl rfl (l20Find_q l a b (-1) hf _ _ _ (bQ H11.1 hC) hn) ?_
 rintro e14 W13 ⟨rfl, hu12⟩; refine ⟨_, rfl, ?_⟩
 have H15 := H11.no hu12; clear H11
 refine aA ?_
 refine aB rfl (aG rfl) rfl rfl ?_
 refine aH ?_
 refine aI ?_
 refine wp_seq ?_
 refine wp_seq ?_
 refine aK [0, 1, 2, 3, 4, 5, 6, 7, 8, 9, 10] rfl ?_
 refine aA ?_
 refine aB rfl (aD rfl) rfl rfl ?_
 refine aA ?_
 refine aB rfl (bG (p := ((-1) : Int) < 0) kD (dD (p := (-1)) (q := 0) rfl rfl)) rfl rfl ?_
 refine aA ?_
 refine aB rfl (aD rfl) rfl rfl ?_
 refine aA ?_
 refine aJ rfl rfl rfl rfl rfl rfl rfl ?_
 refine aA ?_
 refine aJ rfl rfl rfl rfl rfl rfl rfl ?_
 refine aA ?_
 refine aJ rfl rfl rfl rfl rfl rfl rfl ?_
 refine aA ?_
 refine aJ rfl rfl rfl rfl rfl rfl rfl ?_
 refine aA ?_
 refine aJ rfl rfl rfl rfl rfl rfl rfl ?_
 refine aA ?_
 refine aJ rfl rfl rfl rfl rfl rfl rfl ?_
 refine aA ?_
 refine aJ rfl rfl rfl rfl rfl rfl rfl ?_
 refine aA ?_
 refine aB rfl (aP (v := .bool (true)) (b := true) rfl rfl rfl rfl) rfl rfl ?_
 refine aH ?_
 refine aI ?_
 refine dO rfl ?_
 refine wp_seq ?_
 refine aK [0, 1, 2] rfl ?_
 refine aA ?_
 refine aB rfl (aD rfl) rfl rfl ?_
 refine aA ?_
 refine aB rfl (aG rfl) rfl rfl ?_
 refine aA ?_
 refine aB rfl (aG rfl) rfl rfl ?_
 refine aH ?_
 refine aI ?_
 refine wp_ret ?_
 refine bV ?_
 obtain ⟨e1, e2⟩ := pt_no a b m l hf
 rw [e1, e2]
 refine post_tmps (.inl rfl) Try.results9 rfl rfl ?_
 refine ⟨_, _, rfl, ?_, H15.1⟩
 exact (H15.pick [0] kD rfl).star
theorem putS_full (l : List GChannel) (a b : Int) (m : GMessage) (cm : List Value) (A : Option Addr) (c : Nat) (w : World) (hC : C aC w A l) (hs : bJ aL l ≤ 1048576) (hK : aF.K w m cm) (hm : aQ m ≤ 1048576) (k : Nat) (hk : k < l.length) (hf : fidx (chP a b) 0 l = (k : Int)) (f t : Int) (ml : List GMessage) (hx : l[k] = ⟨f, t, ml⟩) (h2 : 200 ≤ ml.length) : Calls Try.prog 9 #[.slice A l.length c, .int .i64 a, .int .i64 b, .agg (List.toArray cm)] w (RetPt aC 94 (ptL a b m l) (ptB a b m l) w) := by
 refine enter 44 [(0, .slice A l.length c), (1, .int .i64 (a)), (2, .int .i64 (b)), (3, .agg (List.toArray cm))] Try.func9 rfl kR ?_
 intro xj
 have H1 : St w No [] w := St.enter
 have hs4 : bJ aL l ≤ 4194304 := by omega
 have hm4 : aQ m ≤ 4194304 := by omega
 have hn : l.length ≤ 1048576 := by unfold bJ at hs; omega
 refine wp_seq ?_
 refine aK [0, 1, 2] rfl ?_
 refine aA ?_
 refine eP rfl rfl rfl rfl H1 ?_
 intro g_0_0 W2 hu3 Ha4; clear H1; clear hu3
 refine aA ?_
 refine aB rfl (aG rfl) rfl rfl ?_
 refine aA ?_
 refine aB rfl (aG rfl) rfl rfl ?_
 refine aH ?_
 refine aI ?_
 refine wp_seq ?_
 refine aK [0, 1, 2] rfl ?_
 refine aA ?_
 refine aB rfl (aD rfl) rfl rfl ?_
 refine aA ?_
 refine aN rfl Try.call49 (vs := #[.slice A l.length c]) rfl rfl rfl (l20Copy_s l _ _ _ (bQ Ha4.1 hC) hs4) ?_
 rintro e10 W9 ⟨v6, rfl, hR7, hu8⟩; refine ⟨_, rfl, ?_⟩
 obtain ⟨B_1_1, c_1_1, rfl⟩ := bK hR7
 have H11 := Ha4.new (q := hR aC 94 (.slice B_1_1 l.length c_1_1) l) hu8 hR7; clear Ha4
 refine aA ?_
 refine aB rfl (aG rfl) rfl rfl ?_
 refine aH ?_
 refine aI ?_
 refine wp_seq ?_
 refine aK [0, 1, 2, 3, 4] rfl ?_
 refine aA ?_
 refine aB rfl (aD rfl) rfl rfl ?_
 refine aA ?_
 refine aB rfl (aD rfl) rfl rfl ?_
 refine aA ?_
 refine aB rfl (aD rfl) rfl rfl ?_
 refine aA ?_
 refine aN rfl Try.call50 (vs := #[.slice A l.length c, .int .i64 (a), .int .i64 (b)]) rfl rfl rfl (l20Find_q l a b ((k : Nat) : Int) hf _ _ _ (bQ H11.1 hC) hn) ?_
 rintro e14 W13 ⟨rfl, hu12⟩; refine ⟨_, rfl, ?_⟩
 have H15 := H11.no hu12; clear H11
 refine aA ?_
 refine aB rfl (aG rfl) rfl rfl ?_
 refine aH ?_
 refine aI ?_
 refine wp_seq ?_
 refine wp_seq ?_
 obtain ⟨ade16, cse16, hAe16, hKe16, hce16⟩ := eZ hC k hk
 have hle16 := dQ hKe16
 have hoe16 := dR hKe16
 rw [hx] at hKe16
 obtain ⟨Aade16_2, cade16_2, rfl, hlade16_2, hCade16_2⟩ := dK hKe16
 refine aK [0, 1, 2, 3, 4, 5, 6, 7, 8, 9, 10] rfl ?_
 refine aA ?_
 refine aB rfl (aD rfl) rfl rfl ?_
 refine aA ?_
 refine aB rfl (bH (p := (((k : Nat) : Int) : Int) < 0) kO (dD (p := ((k : Nat) : Int)) (q := 0) rfl rfl)) rfl rfl ?_
 refine aA ?_
 refine aB rfl (aD rfl) rfl rfl ?_
 refine aA ?_
 refine aU rfl rfl rfl rfl (fun _ ho17 => ?_)
 refine aB ho17 (aD rfl) rfl rfl ?_
 refine aA ?_
 refine aU rfl rfl rfl rfl (fun _ ho18 => ?_)
 refine aB ho18 (aD rfl) rfl rfl ?_
 refine aA ?_
 refine aU rfl rfl rfl rfl (fun _ ho19 => ?_)
 refine aB ho19 (bB (k := k) Try.runUnderlying24 Try.sizeOf94 rfl rfl hAe16 hk) rfl rfl ?_
 refine aA ?_
 refine aU rfl rfl rfl rfl (fun _ ho20 => ?_)
 refine aB ho20 (aS bY rfl) rfl rfl ?_
 refine aA ?_
 refine aU rfl rfl rfl rfl (fun _ ho21 => ?_)
 refine aB ho21 (dX (v := .slice Aade16_2 ((⟨f, t, ml⟩ : GChannel).List.length) cade16_2) Try.isAgg37 rfl (Cat.upd hce16 H15.1) rfl) rfl rfl ?_
 refine aA ?_
 refine aU rfl rfl rfl rfl (fun _ ho22 => ?_)
 refine aB ho22 (bT Try.runUnderlying37 rfl) rfl rfl ?_
 refine aA ?_
 refine aU rfl rfl rfl rfl (fun _ ho23 => ?_)
 refine aB ho23 (bG (p := (200 : Int) ≤ ((⟨f, t, ml⟩ : GChannel).List.length : Nat)) (show (200 : Int) ≤ (ml.length : Nat) by omega) (rn_geq (p := ((⟨f, t, ml⟩ : GChannel).List.length : Nat)) (q := 200) rfl rfl)) rfl rfl ?_
 refine aA ?_
 refine aB rfl (aP (v := .bool (true)) (b := false) rfl rfl rfl rfl) rfl rfl ?_
 refine aH ?_
 refine aI ?_
 refine dO rfl ?_
 refine wp_seq ?_
 refine aK [0, 1, 2] rfl ?_
 refine aA ?_
 refine aB rfl (aD rfl) rfl rfl ?_
 refine aA ?_
 refine aB rfl (aG rfl) rfl rfl ?_
 refine aA ?_
 refine aB rfl (aG rfl) rfl rfl ?_
 refine aH ?_
 refine aI ?_
 refine wp_ret ?_
 refine bV ?_
 obtain ⟨e1, e2⟩ := pt_full a b m l k hk hf f t ml hx h2
 rw [e1, e2]
 refine post_tmps (.inl rfl) Try.results9 rfl rfl ?_
 refine ⟨_, _, rfl, ?_, H15.1⟩
 exact (H15.pick [0] kD rfl).star
theorem putS_yes (l : List GChannel) (a b : Int) (m : GMessage) (cm : List Value) (A : Option Addr) (c : Nat) (w : World) (hC : C aC w A l) (hs : bJ aL l ≤ 1048576) (hK : aF.K w m cm) (hm : aQ m ≤ 1048576) (k : Nat) (hk : k < l.length) (hf : fidx (chP a b) 0 l = (k : Int)) (f t : Int) (ml : List GMessage) (hx : l[k] = ⟨f, t, ml⟩) (h2 : ml.length < 200) : Calls Try.prog 9 #[.slice A l.length c, .int .i64 a, .int .i64 b, .agg (List.toArray cm)] w (RetPt aC 94 (ptL a b m l) (ptB a b m l) w) := by
 refine enter 44 [(0, .slice A l.length c), (1, .int .i64 (a)), (2, .int .i64 (b)), (3, .agg (List.toArray cm))] Try.func9 rfl kR ?_
 intro xj
 have H1 : St w No [] w := St.enter
 have hs4 : bJ aL l ≤ 4194304 := by omega
 have hm4 : aQ m ≤ 4194304 := by omega
 have hn : l.length ≤ 1048576 := by unfold bJ at hs; omega
 refine wp_seq ?_
 refine aK [0, 1, 2] rfl ?_
 refine aA ?_
 refine eP rfl rfl rfl rfl H1 ?_
 intro g_0_0 W2 hu3 Ha4; clear H1; clear hu3
 refine aA ?_
 refine aB rfl (aG rfl) rfl rfl ?_
 refine aA ?_
 refine aB rfl (aG rfl) rfl rfl ?_
 refine aH ?_
 refine aI ?_
 refine wp_seq ?_
 refine aK [0, 1, 2] rfl ?_
 refine aA ?_
 refine aB rfl (aD rfl) rfl rfl ?_
 refine aA ?_
 refine aN rfl Try.call49 (vs := #[.slice A l.length c]) rfl rfl rfl (l20Copy_s l _ _ _ (bQ Ha4.1 hC) hs4) ?_
 rintro e10 W9 ⟨v6, rfl, hR7, hu8⟩; refine ⟨_, rfl, ?_⟩
 obtain ⟨B_1_1, c_1_1, rfl⟩ := bK hR7
 have H11 := Ha4.new (q := hR aC 94 (.slice B_1_1 l.length c_1_1) l) hu8 hR7; clear Ha4
 refine aA ?_
 refine aB rfl (aG rfl) rfl rfl ?_
 refine aH ?_
 refine aI ?_
 refine wp_seq ?_
 refine aK [0, 1, 2, 3, 4] rfl ?_
 refine aA ?_
 refine aB rfl (aD rfl) rfl rfl ?_
 refine aA ?_
 refine aB rfl (aD rfl) rfl rfl ?_
 refine aA ?_
 refine aB rfl (aD rfl) rfl rfl ?_
 refine aA ?_
 refine aN rfl Try.call50 (vs := #[.slice A l.length c, .int .i64 (a), .int .i64 (b)]) rfl rfl rfl (l20Find_q l a b ((k : Nat) : Int) hf _ _ _ (bQ H11.1 hC) hn) ?_
 rintro e14 W13 ⟨rfl, hu12⟩; refine ⟨_, rfl, ?_⟩
 have H15 := H11.no hu12; clear H11
 refine aA ?_
 refine aB rfl (aG rfl) rfl rfl ?_
 refine aH ?_
 refine aI ?_
 refine wp_seq ?_
 refine wp_seq ?_
 obtain ⟨ade16, cse16, hAe16, hKe16, hce16⟩ := eZ hC k hk
 have hle16 := dQ hKe16
 have hoe16 := dR hKe16
 rw [hx] at hKe16
 obtain ⟨Aade16_2, cade16_2, rfl, hlade16_2, hCade16_2⟩ := dK hKe16
 refine aK [0, 1, 2, 3, 4, 5, 6, 7, 8, 9, 10] rfl ?_
 refine aA ?_
 refine aB rfl (aD rfl) rfl rfl ?_
 refine aA ?_
 refine aB rfl (bH (p := (((k : Nat) : Int) : Int) < 0) kO (dD (p := ((k : Nat) : Int)) (q := 0) rfl rfl)) rfl rfl ?_
 refine aA ?_
 refine aB rfl (aD rfl) rfl rfl ?_
 refine aA ?_
 refine aU rfl rfl rfl rfl (fun _ ho17 => ?_)
 refine aB ho17 (aD rfl) rfl rfl ?_
 refine aA ?_
 refine aU rfl rfl rfl rfl (fun _ ho18 => ?_)
 refine aB ho18 (aD rfl) rfl rfl ?_
 refine aA ?_
 refine aU rfl rfl rfl rfl (fun _ ho19 => ?_)
 refine aB ho19 (bB (k := k) Try.runUnderlying24 Try.sizeOf94 rfl rfl hAe16 hk) rfl rfl ?_
 refine aA ?_
 refine aU rfl rfl rfl rfl (fun _ ho20 => ?_)
 refine aB ho20 (aS bY rfl) rfl rfl ?_
 refine aA ?_
 refine aU rfl rfl rfl rfl (fun _ ho21 => ?_)
 refine aB ho21 (dX (v := .slice Aade16_2 ((⟨f, t, ml⟩ : GChannel).List.length) cade16_2) Try.isAgg37 rfl (Cat.upd hce16 H15.1) rfl) rfl rfl ?_
 refine aA ?_
 refine aU rfl rfl rfl rfl (fun _ ho22 => ?_)
 refine aB ho22 (bT Try.runUnderlying37 rfl) rfl rfl ?_
 refine aA ?_
 refine aU rfl rfl rfl rfl (fun _ ho23 => ?_)
 refine aB ho23 (bH (p := (200 : Int) ≤ ((⟨f, t, ml⟩ : GChannel).List.length : Nat)) (show ¬ (200 : Int) ≤ (ml.length : Nat) by omega) (rn_geq (p := ((⟨f, t, ml⟩ : GChannel).List.length : Nat)) (q := 200) rfl rfl)) rfl rfl ?_
 refine aA ?_
 refine aB rfl (aP (v := .bool (false)) (b := false) rfl rfl rfl rfl) rfl rfl ?_
 refine aH ?_
 refine aI ?_
 refine dA rfl ?_
 refine wp_skip ?_
 refine aI ?_
 refine wp_seq ?_
 obtain ⟨gf24, rfl⟩ := H15.openS (q := k) hk
 obtain ⟨ce25, hn26, H27⟩ := H15.openG (q := k) hk; clear H15
 rw [hx] at H27
 have H28 : St w No [hE aC 94 gf24 c_1_1 k ce25 l, hM aC (⟨f, t, ml⟩ : GChannel) ce25, hB g_0_0 31 (List.toArray cm)] W13 := H27; clear H27
 have H35 : St w No [hM aC (⟨f, t, ml⟩ : GChannel) ce25, hE aC 94 gf24 c_1_1 k ce25 l, hB g_0_0 31 (List.toArray cm)] W13 := H28.pick [1, 0, 2] kD rfl; clear H28
 obtain ⟨F29, hM30, hb31⟩ := H35.unM
 obtain ⟨B33, c34, rfl, hst32⟩ := bX hM30
 have H36 : St w No [hR aF 31 (.slice B33 ((⟨f, t, ml⟩ : GChannel).List.length) c34) ((⟨f, t, ml⟩ : GChannel).List), hE aC 94 gf24 c_1_1 k [.int .i64 ((⟨f, t, ml⟩ : GChannel).From), .int .i64 ((⟨f, t, ml⟩ : GChannel).To), .slice B33 ((⟨f, t, ml⟩ : GChannel).List.length) c34] l, hB g_0_0 31 (List.toArray cm)] W13 := hb31 _ hst32; clear H35
 refine eF (fun W' => Cat W' (Addr.add ⟨gf24, 0, none⟩ (k * 3)) [.int .i64 ((⟨f, t, ml⟩ : GChannel).From), .int .i64 ((⟨f, t, ml⟩ : GChannel).To), .slice B33 ((⟨f, t, ml⟩ : GChannel).List.length) c34] ∧ Blk W' g_0_0 31 (List.toArray cm)) 13 kR ?_
 have H37 := H36.drew; clear H36
 have hS38 : Cat W13.drew (Addr.add ⟨gf24, 0, none⟩ (k * 3)) [.int .i64 ((⟨f, t, ml⟩ : GChannel).From), .int .i64 ((⟨f, t, ml⟩ : GChannel).To), .slice B33 ((⟨f, t, ml⟩ : GChannel).List.length) c34] ∧ Blk W13.drew g_0_0 31 (List.toArray cm) := ⟨(H37.catE 1 rfl), H37.blk 2 rfl⟩
 refine aM (i := 0) rfl kR kR kR kR kR (fun _ _ _ h => h) rfl rfl hS38 (fun W' hs' => aD rfl) ?_
 refine aM (i := 1) rfl kR kR kR kR kR (fun _ _ _ h => h) rfl rfl hS38 (fun W' hs' => aD rfl) ?_
 refine aM (i := 2) rfl kR kR kR kR kR (fun _ _ _ h => h) rfl rfl hS38 (fun W' hs' => aD rfl) ?_
 refine aM (i := 3) rfl kR kR kR kR kR (fun _ _ _ h => h) rfl rfl hS38 (fun W' hs' => aD rfl) ?_
 refine aM (i := 4) rfl kR kR kR kR kR (fun _ _ _ h => h) rfl rfl hS38 (fun W' hs' => bB (k := k) Try.runUnderlying24 Try.sizeOf94 rfl rfl rfl (Nat.lt_of_lt_of_eq hk hn26.symm)) ?_
 refine aM (i := 5) rfl kR kR kR kR kR (fun _ _ _ h => h) rfl rfl hS38 (fun W' hs' => aS bY rfl) ?_
 refine aM (i := 6) rfl kR kR kR kR kR (fun _ _ _ h => h) rfl rfl hS38 (fun W' hs' => dX (v := .slice B33 ((⟨f, t, ml⟩ : GChannel).List.length) c34) Try.isAgg37 rfl hs'.1 rfl) ?_
 refine aM (i := 7) rfl kR kR kR kR kR (fun _ _ _ h => h) rfl rfl hS38 (fun W' hs' => cB Try.isAgg31 Try.sizeOf31 rfl hs'.2 (aX hK)) ?_
 refine bZ (i := 8) kR ?_
 refine aN rfl Try.call51 (vs := #[.agg (List.toArray cm)]) rfl rfl rfl (l11Copy_s m _ _ (K_upd H37.1 hK) hm4) ?_
 rintro e42 W41 ⟨cs_5_8, rfl, hM39, hu40⟩; refine ⟨_, rfl, ?_⟩
 have H45 := H37.new (q := hM aF m cs_5_8) hu40 hM39; clear H37
 have hS46 := And.intro (H45.catE 2 rfl) (H45.blk 3 rfl); refine ⟨fun _ => hS46, ?_⟩
 refine bZ (i := 9) kR ?_
 refine fA rfl Try.runUnderlying37 Try.sizeOf31 kD Try.zeroValue31 rfl (aX (H45.kn 0 rfl)) rfl rfl H45 ?_
 intro g_5_9 W47 hu48 Ha49; clear H45; clear hu48
 have hS51 := And.intro (Ha49.catE 3 rfl) (Ha49.blk 4 rfl); refine ⟨fun _ => hS51, ?_⟩
 refine bZ (i := 10) kR ?_
 have H54 : St w No [hR aF 31 (.slice B33 ((⟨f, t, ml⟩ : GChannel).List.length) c34) ((⟨f, t, ml⟩ : GChannel).List), hB g_5_9 31 (List.toArray cs_5_8), hM aF m cs_5_8, hE aC 94 gf24 c_1_1 k [.int .i64 ((⟨f, t, ml⟩ : GChannel).From), .int .i64 ((⟨f, t, ml⟩ : GChannel).To), .slice B33 ((⟨f, t, ml⟩ : GChannel).List.length) c34] l, hB g_0_0 31 (List.toArray cm)] W47 := Ha49.pick [2, 0, 1, 3, 4] kD rfl; clear Ha49
 refine fH (xs := (⟨f, t, ml⟩ : GChannel).List) (p := m) (n' := (ml ++ [m]).length) (ys := (ml ++ [m])) rfl Try.underlying37 dH rfl kD kD rfl rfl (by show (ml.length + 1) * _ ≤ _; omega) (by rw [List.length_append]; rfl) rfl rfl rfl H54 ?_
 intro B_5_10 c_5_10 W52 Ha53; clear H54
 have hS56 := And.intro (Ha53.catE 1 rfl) (Ha53.blk 2 rfl); refine ⟨fun _ => hS56, ?_⟩
 refine bZ (i := 11) kR ?_
 refine aB rfl (bB (k := k) Try.runUnderlying24 Try.sizeOf94 rfl rfl rfl (Nat.lt_of_lt_of_eq hk hn26.symm)) rfl rfl ?_
 have hS57 := And.intro (Ha53.catE 1 rfl) (Ha53.blk 2 rfl); refine ⟨fun _ => hS57, ?_⟩
 refine aM (i := 12) rfl kR kR kR kR kR (fun _ _ _ h => h) rfl rfl hS57 (fun W' hs' => aS bY rfl) ?_
 refine bZ (i := 13) kR ?_
 have H61 : St w No [hE aC 94 gf24 c_1_1 k [.int .i64 ((⟨f, t, ml⟩ : GChannel).From), .int .i64 ((⟨f, t, ml⟩ : GChannel).To), .slice B33 ((⟨f, t, ml⟩ : GChannel).List.length) c34] l, hR aF 31 (.slice B_5_10 ((ml ++ [m]).length) c_5_10) (ml ++ [m]), hB g_0_0 31 (List.toArray cm)] W52 := Ha53.pick [1, 0, 2] kD rfl; clear Ha53
 refine fB (dk := aC) (k := 2) (ce' := [.int .i64 ((⟨f, t, ml⟩ : GChannel).From), .int .i64 ((⟨f, t, ml⟩ : GChannel).To), .slice B_5_10 ((ml ++ [m]).length) c_5_10]) rfl Try.sizeOf37 rfl rfl rfl rfl (Nat.le_of_ble_eq_true rfl) (by simp [Value.cells, Value.oneCell']) rfl H61 ?_
 intro W58 hu59 Ha60; clear H61; clear hu59
 refine ⟨fun h => absS kR h, ?_⟩
 refine dY kR ?_ _
 have H63 : St w No [hR aF 31 (.slice B_5_10 ((ml ++ [m]).length) c_5_10) (ml ++ [m]), hE aC 94 gf24 c_1_1 k [.int .i64 ((⟨f, t, ml⟩ : GChannel).From), .int .i64 ((⟨f, t, ml⟩ : GChannel).To), .slice B_5_10 ((ml ++ [m]).length) c_5_10] l, hB g_0_0 31 (List.toArray cm)] W58 := Ha60.pick [1, 0, 2] kD rfl; clear Ha60
 have H64 : St w No [hM aC (⟨f, t, ml ++ [m]⟩ : GChannel) [.int .i64 ((⟨f, t, ml⟩ : GChannel).From), .int .i64 ((⟨f, t, ml⟩ : GChannel).To), .slice B_5_10 ((ml ++ [m]).length) c_5_10], hE aC 94 gf24 c_1_1 k [.int .i64 ((⟨f, t, ml⟩ : GChannel).From), .int .i64 ((⟨f, t, ml⟩ : GChannel).To), .slice B_5_10 ((ml ++ [m]).length) c_5_10] l, hB g_0_0 31 (List.toArray cm)] W58 := H63.swap (l0 := [hR aF 31 (.slice B_5_10 ((ml ++ [m]).length) c_5_10) (ml ++ [m])]) (l' := [hM aC (⟨f, t, ml ++ [m]⟩ : GChannel) [.int .i64 ((⟨f, t, ml⟩ : GChannel).From), .int .i64 ((⟨f, t, ml⟩ : GChannel).To), .slice B_5_10 ((ml ++ [m]).length) c_5_10]]) (fun _ h => Star.one (bD (x := (⟨f, t, ml ++ [m]⟩ : GChannel)) h)); clear H63
 have H65 : St w No [hE aC 94 gf24 c_1_1 k [.int .i64 ((⟨f, t, ml⟩ : GChannel).From), .int .i64 ((⟨f, t, ml⟩ : GChannel).To), .slice B_5_10 ((ml ++ [m]).length) c_5_10] l, hM aC (⟨f, t, ml ++ [m]⟩ : GChannel) [.int .i64 ((⟨f, t, ml⟩ : GChannel).From), .int .i64 ((⟨f, t, ml⟩ : GChannel).To), .slice B_5_10 ((ml ++ [m]).length) c_5_10], hB g_0_0 31 (List.toArray cm)] W58 := H64.pick [1, 0, 2] kD rfl; clear H64
 have H66 : St w No [hR aC 94 (.slice (some ⟨gf24, 0, none⟩) l.length c_1_1) (l.set k ⟨f, t, ml ++ [m]⟩), hB g_0_0 31 (List.toArray cm)] W58 := H65.fC rfl (List.length_set ..).symm; clear H65
 refine aI ?_
 refine wp_seq ?_
 refine aK [0, 1, 2] rfl ?_
 refine aA ?_
 refine aB rfl (aD rfl) rfl rfl ?_
 refine aA ?_
 refine aB rfl (aG rfl) rfl rfl ?_
 refine aA ?_
 refine aB rfl (aG rfl) rfl rfl ?_
 refine aH ?_
 refine aI ?_
 refine wp_ret ?_
 obtain ⟨e1, e2⟩ := pt_yes a b m l k hk hf f t ml hx h2
 rw [e1, e2]
 refine post_tmps (.inl rfl) Try.results9 rfl rfl ?_
 refine ⟨_, _, by rw [List.length_set], ?_, H66.1⟩
 rw [List.length_set]
 exact (H66.pick [0] kD rfl).star
theorem putMessage_S (l : List GChannel) (a b : Int) (m : GMessage) (cm : List Value) (A : Option Addr) (c : Nat) (w : World) (hC : C aC w A l) (hs : bJ aL l ≤ 1048576) (hK : aF.K w m cm) (hm : aQ m ≤ 1048576) : Calls Try.prog 9 #[.slice A l.length c, .int .i64 a, .int .i64 b, .agg (List.toArray cm)] w (RetPt aC 94 (ptL a b m l) (ptB a b m l) w) := by
 rcases eB (chP a b) l with hf | ⟨k, hk, hf⟩
 ·exact putS_no l a b m cm A c w hC hs hK hm hf
 ·have hx : l[k] = ⟨l[k].From, l[k].To, l[k].List⟩ := rfl
  by_cases h2 : 200 ≤ l[k].List.length
  ·exact putS_full l a b m cm A c w hC hs hK hm k hk hf _ _ _ hx h2
  ·exact putS_yes l a b m cm A c w hC hs hK hm k hk hf _ _ _ hx kO
theorem wsum : ∀ l : List GWire, dI szn_Wire l = 0
 | [] => rfl
 | _ :: r => by unfold dI; rw [wsum r]; rfl
theorem msz (a b c d e : Int) (s : ByteArray) (L : List GWire) (v : GWire) (t : GTag) (hs : s.size ≤ 6) (hL : L.length ≤ 8) : aQ ⟨a, b, c, d, s, L, ⟨v.Kind, v.N⟩, e, t⟩ ≤ 20 := by
 unfold aQ bJ
 rw [wsum]
 show s.size + (L.length + 0) ≤ 20
 omega
theorem wire_s  (bs : List Int) (gc cb : Nat) (A : Option Addr) (F0 : Nat → Prop) (w : World) (hV : CV A bs F0 w) (hn : bs.length ≤ 1048576) (h : Star [aY gc 157 A bs.length cb] w F0) : Calls Try.prog 103 #[.pointer (some ⟨gc, 0, none⟩)] w (fun e' w' => ∃ k v : Int, e' = .returned (.agg #[.int .i64 k, .int .i64 v]) ∧ St w F0 [aY gc 157 A bs.length cb] w') := by
 refine enter 23 [(0, .pointer (some ⟨gc, 0, none⟩))] Try.func103 rfl kR ?_
 intro xj
 have H1 : St w F0 [aY gc 157 A bs.length cb] w := St.eO h
 refine wp_seq ?_
 refine aK [0] rfl ?_
 refine aA ?_
 refine bW rfl Try.zeroValue27 rfl rfl H1 ?_
 intro g_0_0 W2 hu3 Ha4; clear H1; clear hu3
 refine aH ?_
 refine aI ?_
 refine wp_seq ?_
 refine wp_seq ?_
 refine aK [0, 1] rfl ?_
 refine aA ?_
 refine aB rfl (aD rfl) rfl rfl ?_
 refine aA ?_
 have H8 : St w F0 [aY gc 157 A bs.length cb, hB g_0_0 27 #[.int .i64 (0), .int .i64 (0)]] W2 := Ha4.pick [1, 0] kD rfl; clear Ha4
 obtain ⟨F9, hs10, hF11, hfr12⟩ := St.frame (l0 := [aY gc 157 A bs.length cb]) (l := [hB g_0_0 27 #[.int .i64 (0), .int .i64 (0)]]) H8
 refine aN rfl Try.call44 (vs := #[.pointer (some ⟨gc, 0, none⟩), .int .i64 (5)]) rfl rfl rfl (bP 5 _ _ _ _ _ _ (CV.step hV H8.1 hF11) hn hs10) ?_
 rintro e15 W14 ⟨q6, rfl, hq7, Hn13⟩; refine ⟨_, rfl, ?_⟩
 have H16 := hfr12 _ _ Hn13; clear H8
 refine aH ?_
 refine aI ?_
 refine wp_block ?_
 refine wp_seq ?_
 refine aK [0, 1] rfl ?_
 refine aA ?_
 refine aB rfl (bM rfl rfl) rfl rfl ?_
 refine aA ?_
 refine aB rfl (aG rfl) rfl rfl ?_
 refine aH ?_
 refine aI ?_
 refine bL rfl (fun hc17 => ?_) (fun hc17 => ?_)
 ·refine wp_seq ?_
  refine aK [0, 1, 2, 3, 4] rfl ?_
  refine aA ?_
  refine aB rfl (aD rfl) rfl rfl ?_
  refine aA ?_
  obtain ⟨F20, hs21, hF22, hfr23⟩ := St.frame (l0 := [aY gc 157 A bs.length cb]) (l := [hB g_0_0 27 #[.int .i64 (0), .int .i64 (0)]]) H16
  refine aN rfl Try.call44 (vs := #[.pointer (some ⟨gc, 0, none⟩), .int .i64 (4)]) rfl rfl rfl (bP 4 _ _ _ _ _ _ (CV.step hV H16.1 hF22) hn hs21) ?_
  rintro e26 W25 ⟨q18, rfl, hq19, Hn24⟩; refine ⟨_, rfl, ?_⟩
  have H27 := hfr23 _ _ Hn24; clear H16
  refine aA ?_
  refine aB rfl (dF rfl rfl kO) rfl rfl ?_
  refine aA ?_
  refine aB rfl (cK (vs := [(0, .int .i64 (1)), (1, .int .i64 ((1 + q18)))]) (cells := #[.int .i64 (1), .int .i64 ((1 + q18))]) rfl kR) rfl rfl ?_
  refine aA ?_
  have H31 : St w F0 [hB g_0_0 27 #[.int .i64 (0), .int .i64 (0)], aY gc 157 A bs.length cb] W25 := H27.pick [1, 0] kD rfl; clear H27
  refine bE rfl Try.sizeOf27 rfl rfl rfl rfl kS H31 ?_
  intro W28 hu29 Ha30; clear H31; clear hu29
  refine aH ?_
  refine aI ?_
  refine wp_ret ?_
  refine inB_r ?_
  refine bV ?_
  refine d9 (.inl rfl) Try.results103 Try.isAgg27 Try.sizeOf27 rfl (Ha30.blk 0 rfl) rfl ?_
  exact ⟨_, _, rfl, Ha30.pick [1] kD rfl⟩
 ·refine wp_seq ?_
  refine aK [0, 1] rfl ?_
  refine aA ?_
  refine aB rfl (bM rfl rfl) rfl rfl ?_
  refine aA ?_
  refine aB rfl (aG rfl) rfl rfl ?_
  refine aH ?_
  refine aI ?_
  refine bL rfl (fun hc33 => ?_) (fun hc33 => ?_)
  ·refine wp_seq ?_
   refine aK [0, 1, 2, 3, 4] rfl ?_
   refine aA ?_
   refine aB rfl (aD rfl) rfl rfl ?_
   refine aA ?_
   obtain ⟨F36, hs37, hF38, hfr39⟩ := St.frame (l0 := [aY gc 157 A bs.length cb]) (l := [hB g_0_0 27 #[.int .i64 (0), .int .i64 (0)]]) H16
   refine aN rfl Try.call44 (vs := #[.pointer (some ⟨gc, 0, none⟩), .int .i64 (4)]) rfl rfl rfl (bP 4 _ _ _ _ _ _ (CV.step hV H16.1 hF38) hn hs37) ?_
   rintro e42 W41 ⟨q34, rfl, hq35, Hn40⟩; refine ⟨_, rfl, ?_⟩
   have H43 := hfr39 _ _ Hn40; clear H16
   refine aA ?_
   refine aB rfl (dF rfl rfl kO) rfl rfl ?_
   refine aA ?_
   refine aB rfl (cK (vs := [(0, .int .i64 (2)), (1, .int .i64 ((1 + q34)))]) (cells := #[.int .i64 (2), .int .i64 ((1 + q34))]) rfl kR) rfl rfl ?_
   refine aA ?_
   have H47 : St w F0 [hB g_0_0 27 #[.int .i64 (0), .int .i64 (0)], aY gc 157 A bs.length cb] W41 := H43.pick [1, 0] kD rfl; clear H43
   refine bE rfl Try.sizeOf27 rfl rfl rfl rfl kS H47 ?_
   intro W44 hu45 Ha46; clear H47; clear hu45
   refine aH ?_
   refine aI ?_
   refine wp_ret ?_
   refine inB_r ?_
   refine bV ?_
   refine d9 (.inl rfl) Try.results103 Try.isAgg27 Try.sizeOf27 rfl (Ha46.blk 0 rfl) rfl ?_
   exact ⟨_, _, rfl, Ha46.pick [1] kD rfl⟩
  ·refine wp_seq ?_
   refine aK [0, 1] rfl ?_
   refine aA ?_
   refine aB rfl (bM rfl rfl) rfl rfl ?_
   refine aA ?_
   refine aB rfl (aG rfl) rfl rfl ?_
   refine aH ?_
   refine aI ?_
   refine bL rfl (fun hc49 => ?_) (fun hc49 => ?_)
   ·refine wp_seq ?_
    refine aK [0, 1] rfl ?_
    refine aA ?_
    refine aB rfl (cK (vs := [(0, .int .i64 (3))]) (cells := #[.int .i64 (3), .int .i64 (0)]) rfl kR) rfl rfl ?_
    refine aA ?_
    have H53 : St w F0 [hB g_0_0 27 #[.int .i64 (0), .int .i64 (0)], aY gc 157 A bs.length cb] W14 := H16.pick [1, 0] kD rfl; clear H16
    refine bE rfl Try.sizeOf27 rfl rfl rfl rfl kS H53 ?_
    intro W50 hu51 Ha52; clear H53; clear hu51
    refine aH ?_
    refine aI ?_
    refine wp_ret ?_
    refine inB_r ?_
    refine bV ?_
    refine d9 (.inl rfl) Try.results103 Try.isAgg27 Try.sizeOf27 rfl (Ha52.blk 0 rfl) rfl ?_
    exact ⟨_, _, rfl, Ha52.pick [1] kD rfl⟩
   ·refine wp_skip ?_
    refine dW ?_
    refine aI ?_
    refine wp_seq ?_
    refine aK [0, 1, 2, 3] rfl ?_
    refine aA ?_
    refine aB rfl (aD rfl) rfl rfl ?_
    refine aA ?_
    obtain ⟨F57, hs58, hF59, hfr60⟩ := St.frame (l0 := [aY gc 157 A bs.length cb]) (l := [hB g_0_0 27 #[.int .i64 (0), .int .i64 (0)]]) H16
    refine aN rfl Try.call44 (vs := #[.pointer (some ⟨gc, 0, none⟩), .int .i64 (300)]) rfl rfl rfl (bP 300 _ _ _ _ _ _ (CV.step hV H16.1 hF59) hn hs58) ?_
    rintro e63 W62 ⟨q55, rfl, hq56, Hn61⟩; refine ⟨_, rfl, ?_⟩
    have H64 := hfr60 _ _ Hn61; clear H16
    refine aA ?_
    refine aB rfl (cK (vs := [(1, .int .i64 (q55))]) (cells := #[.int .i64 (0), .int .i64 (q55)]) rfl kR) rfl rfl ?_
    refine aA ?_
    have H68 : St w F0 [hB g_0_0 27 #[.int .i64 (0), .int .i64 (0)], aY gc 157 A bs.length cb] W62 := H64.pick [1, 0] kD rfl; clear H64
    refine bE rfl Try.sizeOf27 rfl rfl rfl rfl kS H68 ?_
    intro W65 hu66 Ha67; clear H68; clear hu66
    refine aH ?_
    refine aI ?_
    refine wp_ret ?_
    refine d9 (.inl rfl) Try.results103 Try.isAgg27 Try.sizeOf27 rfl (Ha67.blk 0 rfl) rfl ?_
    exact ⟨_, _, rfl, Ha67.pick [1] kD rfl⟩
theorem message_s  (bs : List Int) (gc cb : Nat) (A : Option Addr) (F0 : Nat → Prop) (w : World) (hV : CV A bs F0 w) (hn : bs.length ≤ 1048576) (h : Star [aY gc 157 A bs.length cb] w F0) : Calls Try.prog 45 #[.pointer (some ⟨gc, 0, none⟩)] w (fun e' w' => ∃ m cs, e' = .returned (.agg (List.toArray cs)) ∧ aQ m ≤ 20 ∧ St w F0 [hM aF m cs, aY gc 157 A bs.length cb] w') := by
 refine enter 68 [(0, .pointer (some ⟨gc, 0, none⟩))] Try.func45 rfl kR ?_
 intro xj
 have H1 : St w F0 [aY gc 157 A bs.length cb] w := St.eO h
 refine wp_seq ?_
 refine aK [0] rfl ?_
 refine aA ?_
 refine bW rfl Try.zeroValue31 rfl rfl H1 ?_
 intro g_0_0 W2 hu3 Ha4; clear H1; clear hu3
 refine aH ?_
 refine aI ?_
 refine wp_seq ?_
 refine aK [0, 1, 2, 3] rfl ?_
 refine aA ?_
 refine aB rfl (aD rfl) rfl rfl ?_
 refine aA ?_
 have H8 : St w F0 [aY gc 157 A bs.length cb, hB g_0_0 31 #[.int .i64 (0), .int .i64 (0), .int .i64 (0), .int .i64 (0), .string (⟨#[]⟩), .slice none 0 0, .int .i64 (0), .int .i64 (0), .int .i64 (0), .int .i64 (0), .int .i64 (0), .int .i64 (0)]] W2 := Ha4.pick [1, 0] kD rfl; clear Ha4
 obtain ⟨F9, hs10, hF11, hfr12⟩ := St.frame (l0 := [aY gc 157 A bs.length cb]) (l := [hB g_0_0 31 #[.int .i64 (0), .int .i64 (0), .int .i64 (0), .int .i64 (0), .string (⟨#[]⟩), .slice none 0 0, .int .i64 (0), .int .i64 (0), .int .i64 (0), .int .i64 (0), .int .i64 (0), .int .i64 (0)]]) H8
 refine aN rfl Try.call44 (vs := #[.pointer (some ⟨gc, 0, none⟩), .int .i64 (4)]) rfl rfl rfl (bP 4 _ _ _ _ _ _ (CV.step hV H8.1 hF11) hn hs10) ?_
 rintro e15 W14 ⟨q6, rfl, hq7, Hn13⟩; refine ⟨_, rfl, ?_⟩
 have H16 := hfr12 _ _ Hn13; clear H8
 refine aA ?_
 refine aB rfl (dF rfl rfl kO) rfl rfl ?_
 refine aA ?_
 refine aB rfl (aG rfl) rfl rfl ?_
 refine aH ?_
 refine aI ?_
 refine wp_seq ?_
 refine wp_seq ?_
 refine aK [0, 1] rfl ?_
 refine aA ?_
 refine aB rfl (aD rfl) rfl rfl ?_
 refine aA ?_
 obtain ⟨F19, hs20, hF21, hfr22⟩ := St.frame (l0 := [aY gc 157 A bs.length cb]) (l := [hB g_0_0 31 #[.int .i64 (0), .int .i64 (0), .int .i64 (0), .int .i64 (0), .string (⟨#[]⟩), .slice none 0 0, .int .i64 (0), .int .i64 (0), .int .i64 (0), .int .i64 (0), .int .i64 (0), .int .i64 (0)]]) H16
 refine aN rfl Try.call44 (vs := #[.pointer (some ⟨gc, 0, none⟩), .int .i64 (7)]) rfl rfl rfl (bP 7 _ _ _ _ _ _ (CV.step hV H16.1 hF21) hn hs20) ?_
 rintro e25 W24 ⟨q17, rfl, hq18, Hn23⟩; refine ⟨_, rfl, ?_⟩
 have H26 := hfr22 _ _ Hn23; clear H16
 refine aH ?_
 refine aI ?_
 refine wp_block ?_
 refine wp_seq ?_
 refine aK [0, 1] rfl ?_
 refine aA ?_
 refine aB rfl (bM rfl rfl) rfl rfl ?_
 refine aA ?_
 refine aB rfl (aG rfl) rfl rfl ?_
 refine aH ?_
 refine aI ?_
 refine bL rfl (fun hc27 => ?_) (fun hc27 => ?_)
 ·refine wp_seq ?_
  refine aK [0, 1, 2, 3, 4] rfl ?_
  refine aA ?_
  refine aB rfl (aD rfl) rfl rfl ?_
  refine aA ?_
  refine aB rfl (aD rfl) rfl rfl ?_
  refine aA ?_
  obtain ⟨F30, hs31, hF32, hfr33⟩ := St.frame (l0 := [aY gc 157 A bs.length cb]) (l := [hB g_0_0 31 #[.int .i64 (0), .int .i64 (0), .int .i64 (0), .int .i64 (0), .string (⟨#[]⟩), .slice none 0 0, .int .i64 (0), .int .i64 (0), .int .i64 (0), .int .i64 (0), .int .i64 (0), .int .i64 (0)]]) H26
  refine aN rfl Try.call103 (vs := #[.pointer (some ⟨gc, 0, none⟩)]) rfl rfl rfl (wire_s _ _ _ _ _ _ (CV.step hV H26.1 hF32) hn hs31) ?_
  rintro e36 W35 ⟨k28, v29, rfl, Hn34⟩; refine ⟨_, rfl, ?_⟩
  have H37 := hfr33 _ _ Hn34; clear H26
  refine aA ?_
  refine aB rfl (cK (vs := [(0, .int .i64 (2)), (3, .int .i64 ((1 + q6))), (6, .agg #[.int .i64 (k28), .int .i64 (v29)])]) (cells := #[.int .i64 (2), .int .i64 (0), .int .i64 (0), .int .i64 ((1 + q6)), .string (⟨#[]⟩), .slice none 0 0, .int .i64 (k28), .int .i64 (v29), .int .i64 (0), .int .i64 (0), .int .i64 (0), .int .i64 (0)]) rfl kR) rfl rfl ?_
  refine aA ?_
  have H41 : St w F0 [hB g_0_0 31 #[.int .i64 (0), .int .i64 (0), .int .i64 (0), .int .i64 (0), .string (⟨#[]⟩), .slice none 0 0, .int .i64 (0), .int .i64 (0), .int .i64 (0), .int .i64 (0), .int .i64 (0), .int .i64 (0)], aY gc 157 A bs.length cb] W35 := H37.pick [1, 0] kD rfl; clear H37
  refine bE rfl Try.sizeOf31 rfl rfl rfl rfl kS H41 ?_
  intro W38 hu39 Ha40; clear H41; clear hu39
  refine aH ?_
  refine aI ?_
  refine wp_ret ?_
  refine inB_r ?_
  refine bV ?_
  refine d9 (.inl rfl) Try.results45 Try.isAgg31 Try.sizeOf31 rfl (Ha40.blk 0 rfl) rfl ?_
  have H43 : St w F0 [hR aR 27 (.slice none 0 0) ([]), hB g_0_0 31 #[.int .i64 (2), .int .i64 (0), .int .i64 (0), .int .i64 ((1 + q6)), .string (⟨#[]⟩), .slice none 0 0, .int .i64 (k28), .int .i64 (v29), .int .i64 (0), .int .i64 (0), .int .i64 (0), .int .i64 (0)], aY gc 157 A bs.length cb] W38 := Ha40.add0 (q := hR aR 27 (.slice none 0 0) []) R_nil; clear Ha40
  have H44 : St w F0 [hM aF (⟨2, 0, 0, (1 + q6), ⟨#[]⟩, [], (⟨k28, v29⟩ : GWire), 0, (⟨0, 0, 0⟩ : GTag)⟩ : GMessage) [.int .i64 (2), .int .i64 (0), .int .i64 (0), .int .i64 ((1 + q6)), .string (⟨#[]⟩), .slice none 0 0, .int .i64 (k28), .int .i64 (v29), .int .i64 (0), .int .i64 (0), .int .i64 (0), .int .i64 (0)], hB g_0_0 31 #[.int .i64 (2), .int .i64 (0), .int .i64 (0), .int .i64 ((1 + q6)), .string (⟨#[]⟩), .slice none 0 0, .int .i64 (k28), .int .i64 (v29), .int .i64 (0), .int .i64 (0), .int .i64 (0), .int .i64 (0)], aY gc 157 A bs.length cb] W38 := H43.swap (l0 := [hR aR 27 (.slice none 0 0) ([])]) (l' := [hM aF (⟨2, 0, 0, (1 + q6), ⟨#[]⟩, [], (⟨k28, v29⟩ : GWire), 0, (⟨0, 0, 0⟩ : GTag)⟩ : GMessage) [.int .i64 (2), .int .i64 (0), .int .i64 (0), .int .i64 ((1 + q6)), .string (⟨#[]⟩), .slice none 0 0, .int .i64 (k28), .int .i64 (v29), .int .i64 (0), .int .i64 (0), .int .i64 (0), .int .i64 (0)]]) (fun _ h => Star.one (bN (x := (⟨2, 0, 0, (1 + q6), ⟨#[]⟩, [], (⟨k28, v29⟩ : GWire), 0, (⟨0, 0, 0⟩ : GTag)⟩ : GMessage)) h)); clear H43
  exact ⟨(⟨2, 0, 0, (1 + q6), ⟨#[]⟩, [], (⟨k28, v29⟩ : GWire), 0, (⟨0, 0, 0⟩ : GTag)⟩ : GMessage), _, rfl, msz _ _ _ _ _ _ _ ⟨_, _⟩ _ kD kD, H44.pick [0, 2] kD rfl⟩
 ·refine wp_seq ?_
  refine aK [0, 1] rfl ?_
  refine aA ?_
  refine aB rfl (bM rfl rfl) rfl rfl ?_
  refine aA ?_
  refine aB rfl (aG rfl) rfl rfl ?_
  refine aH ?_
  refine aI ?_
  refine bL rfl (fun hc45 => ?_) (fun hc45 => ?_)
  ·refine wp_seq ?_
   refine aK [0, 1, 2, 3, 4, 5] rfl ?_
   refine aA ?_
   refine aB rfl (aD rfl) rfl rfl ?_
   refine aA ?_
   obtain ⟨F48, hs49, hF50, hfr51⟩ := St.frame (l0 := [aY gc 157 A bs.length cb]) (l := [hB g_0_0 31 #[.int .i64 (0), .int .i64 (0), .int .i64 (0), .int .i64 (0), .string (⟨#[]⟩), .slice none 0 0, .int .i64 (0), .int .i64 (0), .int .i64 (0), .int .i64 (0), .int .i64 (0), .int .i64 (0)]]) H26
   refine aN rfl Try.call44 (vs := #[.pointer (some ⟨gc, 0, none⟩), .int .i64 (3)]) rfl rfl rfl (bP 3 _ _ _ _ _ _ (CV.step hV H26.1 hF50) hn hs49) ?_
   rintro e54 W53 ⟨q46, rfl, hq47, Hn52⟩; refine ⟨_, rfl, ?_⟩
   have H55 := hfr51 _ _ Hn52; clear H26
   refine aA ?_
   refine aB rfl (dF rfl rfl kO) rfl rfl ?_
   refine aA ?_
   refine aB rfl (aD rfl) rfl rfl ?_
   refine aA ?_
   refine aB rfl (cK (vs := [(0, .int .i64 ((3 + q46))), (3, .int .i64 ((1 + q6)))]) (cells := #[.int .i64 ((3 + q46)), .int .i64 (0), .int .i64 (0), .int .i64 ((1 + q6)), .string (⟨#[]⟩), .slice none 0 0, .int .i64 (0), .int .i64 (0), .int .i64 (0), .int .i64 (0), .int .i64 (0), .int .i64 (0)]) rfl kR) rfl rfl ?_
   refine aA ?_
   have H59 : St w F0 [hB g_0_0 31 #[.int .i64 (0), .int .i64 (0), .int .i64 (0), .int .i64 (0), .string (⟨#[]⟩), .slice none 0 0, .int .i64 (0), .int .i64 (0), .int .i64 (0), .int .i64 (0), .int .i64 (0), .int .i64 (0)], aY gc 157 A bs.length cb] W53 := H55.pick [1, 0] kD rfl; clear H55
   refine bE rfl Try.sizeOf31 rfl rfl rfl rfl kS H59 ?_
   intro W56 hu57 Ha58; clear H59; clear hu57
   refine aH ?_
   refine aI ?_
   refine wp_ret ?_
   refine inB_r ?_
   refine bV ?_
   refine d9 (.inl rfl) Try.results45 Try.isAgg31 Try.sizeOf31 rfl (Ha58.blk 0 rfl) rfl ?_
   have H61 : St w F0 [hR aR 27 (.slice none 0 0) ([]), hB g_0_0 31 #[.int .i64 ((3 + q46)), .int .i64 (0), .int .i64 (0), .int .i64 ((1 + q6)), .string (⟨#[]⟩), .slice none 0 0, .int .i64 (0), .int .i64 (0), .int .i64 (0), .int .i64 (0), .int .i64 (0), .int .i64 (0)], aY gc 157 A bs.length cb] W56 := Ha58.add0 (q := hR aR 27 (.slice none 0 0) []) R_nil; clear Ha58
   have H62 : St w F0 [hM aF (⟨(3 + q46), 0, 0, (1 + q6), ⟨#[]⟩, [], (⟨0, 0⟩ : GWire), 0, (⟨0, 0, 0⟩ : GTag)⟩ : GMessage) [.int .i64 ((3 + q46)), .int .i64 (0), .int .i64 (0), .int .i64 ((1 + q6)), .string (⟨#[]⟩), .slice none 0 0, .int .i64 (0), .int .i64 (0), .int .i64 (0), .int .i64 (0), .int .i64 (0), .int .i64 (0)], hB g_0_0 31 #[.int .i64 ((3 + q46)), .int .i64 (0), .int .i64 (0), .int .i64 ((1 + q6)), .string (⟨#[]⟩), .slice none 0 0, .int .i64 (0), .int .i64 (0), .int .i64 (0), .int .i64 (0), .int .i64 (0), .int .i64 (0)], aY gc 157 A bs.length cb] W56 := H61.swap (l0 := [hR aR 27 (.slice none 0 0) ([])]) (l' := [hM aF (⟨(3 + q46), 0, 0, (1 + q6), ⟨#[]⟩, [], (⟨0, 0⟩ : GWire), 0, (⟨0, 0, 0⟩ : GTag)⟩ : GMessage) [.int .i64 ((3 + q46)), .int .i64 (0), .int .i64 (0), .int .i64 ((1 + q6)), .string (⟨#[]⟩), .slice none 0 0, .int .i64 (0), .int .i64 (0), .int .i64 (0), .int .i64 (0), .int .i64 (0), .int .i64 (0)]]) (fun _ h => Star.one (bN (x := (⟨(3 + q46), 0, 0, (1 + q6), ⟨#[]⟩, [], (⟨0, 0⟩ : GWire), 0, (⟨0, 0, 0⟩ : GTag)⟩ : GMessage)) h)); clear H61
   exact ⟨(⟨(3 + q46), 0, 0, (1 + q6), ⟨#[]⟩, [], (⟨0, 0⟩ : GWire), 0, (⟨0, 0, 0⟩ : GTag)⟩ : GMessage), _, rfl, msz _ _ _ _ _ _ _ ⟨_, _⟩ _ kD kD, H62.pick [0, 2] kD rfl⟩
  ·refine wp_seq ?_
   refine aK [0, 1] rfl ?_
   refine aA ?_
   refine aB rfl (bM rfl rfl) rfl rfl ?_
   refine aA ?_
   refine aB rfl (aG rfl) rfl rfl ?_
   refine aH ?_
   refine aI ?_
   refine bL rfl (fun hc63 => ?_) (fun hc63 => ?_)
   ·refine wp_seq ?_
    refine aK [0, 1, 2, 3, 4, 5] rfl ?_
    refine aA ?_
    refine aB rfl (aD rfl) rfl rfl ?_
    refine aA ?_
    refine aB rfl (aD rfl) rfl rfl ?_
    refine aA ?_
    obtain ⟨F66, hs67, hF68, hfr69⟩ := St.frame (l0 := [aY gc 157 A bs.length cb]) (l := [hB g_0_0 31 #[.int .i64 (0), .int .i64 (0), .int .i64 (0), .int .i64 (0), .string (⟨#[]⟩), .slice none 0 0, .int .i64 (0), .int .i64 (0), .int .i64 (0), .int .i64 (0), .int .i64 (0), .int .i64 (0)]]) H26
    refine aN rfl Try.call44 (vs := #[.pointer (some ⟨gc, 0, none⟩), .int .i64 (3)]) rfl rfl rfl (bP 3 _ _ _ _ _ _ (CV.step hV H26.1 hF68) hn hs67) ?_
    rintro e72 W71 ⟨q64, rfl, hq65, Hn70⟩; refine ⟨_, rfl, ?_⟩
    have H73 := hfr69 _ _ Hn70; clear H26
    refine aA ?_
    refine aB rfl (dF rfl rfl kO) rfl rfl ?_
    refine aA ?_
    refine aB rfl (cK (vs := [(0, .int .i64 (6)), (1, .int .i64 ((1 + q6))), (7, .int .i64 ((1 + q64)))]) (cells := #[.int .i64 (6), .int .i64 ((1 + q6)), .int .i64 (0), .int .i64 (0), .string (⟨#[]⟩), .slice none 0 0, .int .i64 (0), .int .i64 (0), .int .i64 ((1 + q64)), .int .i64 (0), .int .i64 (0), .int .i64 (0)]) rfl kR) rfl rfl ?_
    refine aA ?_
    have H77 : St w F0 [hB g_0_0 31 #[.int .i64 (0), .int .i64 (0), .int .i64 (0), .int .i64 (0), .string (⟨#[]⟩), .slice none 0 0, .int .i64 (0), .int .i64 (0), .int .i64 (0), .int .i64 (0), .int .i64 (0), .int .i64 (0)], aY gc 157 A bs.length cb] W71 := H73.pick [1, 0] kD rfl; clear H73
    refine bE rfl Try.sizeOf31 rfl rfl rfl rfl kS H77 ?_
    intro W74 hu75 Ha76; clear H77; clear hu75
    refine aH ?_
    refine aI ?_
    refine wp_ret ?_
    refine inB_r ?_
    refine bV ?_
    refine d9 (.inl rfl) Try.results45 Try.isAgg31 Try.sizeOf31 rfl (Ha76.blk 0 rfl) rfl ?_
    have H79 : St w F0 [hR aR 27 (.slice none 0 0) ([]), hB g_0_0 31 #[.int .i64 (6), .int .i64 ((1 + q6)), .int .i64 (0), .int .i64 (0), .string (⟨#[]⟩), .slice none 0 0, .int .i64 (0), .int .i64 (0), .int .i64 ((1 + q64)), .int .i64 (0), .int .i64 (0), .int .i64 (0)], aY gc 157 A bs.length cb] W74 := Ha76.add0 (q := hR aR 27 (.slice none 0 0) []) R_nil; clear Ha76
    have H80 : St w F0 [hM aF (⟨6, (1 + q6), 0, 0, ⟨#[]⟩, [], (⟨0, 0⟩ : GWire), (1 + q64), (⟨0, 0, 0⟩ : GTag)⟩ : GMessage) [.int .i64 (6), .int .i64 ((1 + q6)), .int .i64 (0), .int .i64 (0), .string (⟨#[]⟩), .slice none 0 0, .int .i64 (0), .int .i64 (0), .int .i64 ((1 + q64)), .int .i64 (0), .int .i64 (0), .int .i64 (0)], hB g_0_0 31 #[.int .i64 (6), .int .i64 ((1 + q6)), .int .i64 (0), .int .i64 (0), .string (⟨#[]⟩), .slice none 0 0, .int .i64 (0), .int .i64 (0), .int .i64 ((1 + q64)), .int .i64 (0), .int .i64 (0), .int .i64 (0)], aY gc 157 A bs.length cb] W74 := H79.swap (l0 := [hR aR 27 (.slice none 0 0) ([])]) (l' := [hM aF (⟨6, (1 + q6), 0, 0, ⟨#[]⟩, [], (⟨0, 0⟩ : GWire), (1 + q64), (⟨0, 0, 0⟩ : GTag)⟩ : GMessage) [.int .i64 (6), .int .i64 ((1 + q6)), .int .i64 (0), .int .i64 (0), .string (⟨#[]⟩), .slice none 0 0, .int .i64 (0), .int .i64 (0), .int .i64 ((1 + q64)), .int .i64 (0), .int .i64 (0), .int .i64 (0)]]) (fun _ h => Star.one (bN (x := (⟨6, (1 + q6), 0, 0, ⟨#[]⟩, [], (⟨0, 0⟩ : GWire), (1 + q64), (⟨0, 0, 0⟩ : GTag)⟩ : GMessage)) h)); clear H79
    exact ⟨(⟨6, (1 + q6), 0, 0, ⟨#[]⟩, [], (⟨0, 0⟩ : GWire), (1 + q64), (⟨0, 0, 0⟩ : GTag)⟩ : GMessage), _, rfl, msz _ _ _ _ _ _ _ ⟨_, _⟩ _ kD kD, H80.pick [0, 2] kD rfl⟩
   ·refine wp_skip ?_
    refine dW ?_
    refine aI ?_
    refine wp_seq ?_
    refine aK [0, 1, 2, 3, 4, 5, 6, 7, 8, 9, 10, 11, 12, 13, 14] rfl ?_
    refine aA ?_
    refine aB rfl (aD rfl) rfl rfl ?_
    refine aA ?_
    refine aB rfl (aD rfl) rfl rfl ?_
    refine aA ?_
    obtain ⟨F83, hs84, hF85, hfr86⟩ := St.frame (l0 := [aY gc 157 A bs.length cb]) (l := [hB g_0_0 31 #[.int .i64 (0), .int .i64 (0), .int .i64 (0), .int .i64 (0), .string (⟨#[]⟩), .slice none 0 0, .int .i64 (0), .int .i64 (0), .int .i64 (0), .int .i64 (0), .int .i64 (0), .int .i64 (0)]]) H26
    refine aN rfl Try.call63 (vs := #[.pointer (some ⟨gc, 0, none⟩)]) rfl rfl rfl (name_s _ _ _ _ _ _ (CV.step hV H26.1 hF85) hn hs84) ?_
    rintro e89 W88 ⟨s81, rfl, hs82, Hn87⟩; refine ⟨_, rfl, ?_⟩
    have H90 := hfr86 _ _ Hn87; clear H26
    refine aA ?_
    refine aB rfl (aD rfl) rfl rfl ?_
    refine aA ?_
    obtain ⟨F93, hs94, hF95, hfr96⟩ := St.frame (l0 := [aY gc 157 A bs.length cb]) (l := [hB g_0_0 31 #[.int .i64 (0), .int .i64 (0), .int .i64 (0), .int .i64 (0), .string (⟨#[]⟩), .slice none 0 0, .int .i64 (0), .int .i64 (0), .int .i64 (0), .int .i64 (0), .int .i64 (0), .int .i64 (0)]]) H90
    refine aN rfl Try.call44 (vs := #[.pointer (some ⟨gc, 0, none⟩), .int .i64 (3)]) rfl rfl rfl (bP 3 _ _ _ _ _ _ (CV.step hV H90.1 hF95) hn hs94) ?_
    rintro e99 W98 ⟨q91, rfl, hq92, Hn97⟩; refine ⟨_, rfl, ?_⟩
    have H100 := hfr96 _ _ Hn97; clear H90
    refine aA ?_
    refine aB rfl (dF rfl rfl kO) rfl rfl ?_
    refine aA ?_
    refine aB rfl (aD rfl) rfl rfl ?_
    refine aA ?_
    obtain ⟨F103, hs104, hF105, hfr106⟩ := St.frame (l0 := [aY gc 157 A bs.length cb]) (l := [hB g_0_0 31 #[.int .i64 (0), .int .i64 (0), .int .i64 (0), .int .i64 (0), .string (⟨#[]⟩), .slice none 0 0, .int .i64 (0), .int .i64 (0), .int .i64 (0), .int .i64 (0), .int .i64 (0), .int .i64 (0)]]) H100
    refine aN rfl Try.call44 (vs := #[.pointer (some ⟨gc, 0, none⟩), .int .i64 (4)]) rfl rfl rfl (bP 4 _ _ _ _ _ _ (CV.step hV H100.1 hF105) hn hs104) ?_
    rintro e109 W108 ⟨q101, rfl, hq102, Hn107⟩; refine ⟨_, rfl, ?_⟩
    have H110 := hfr106 _ _ Hn107; clear H100
    refine aA ?_
    refine aB rfl (aD rfl) rfl rfl ?_
    refine aA ?_
    obtain ⟨F113, hs114, hF115, hfr116⟩ := St.frame (l0 := [aY gc 157 A bs.length cb]) (l := [hB g_0_0 31 #[.int .i64 (0), .int .i64 (0), .int .i64 (0), .int .i64 (0), .string (⟨#[]⟩), .slice none 0 0, .int .i64 (0), .int .i64 (0), .int .i64 (0), .int .i64 (0), .int .i64 (0), .int .i64 (0)]]) H110
    refine aN rfl Try.call44 (vs := #[.pointer (some ⟨gc, 0, none⟩), .int .i64 (9)]) rfl rfl rfl (bP 9 _ _ _ _ _ _ (CV.step hV H110.1 hF115) hn hs114) ?_
    rintro e119 W118 ⟨q111, rfl, hq112, Hn117⟩; refine ⟨_, rfl, ?_⟩
    have H120 := hfr116 _ _ Hn117; clear H110
    refine aA ?_
    refine aB rfl (dF rfl rfl kO) rfl rfl ?_
    refine aA ?_
    refine aB rfl (cK (vs := [(0, .int .i64 ((1 + q91))), (1, .int .i64 (q101)), (2, .int .i64 ((1 + q111)))]) (cells := #[.int .i64 ((1 + q91)), .int .i64 (q101), .int .i64 ((1 + q111))]) rfl kR) rfl rfl ?_
    refine aA ?_
    refine aB rfl (cK (vs := [(0, .int .i64 (1)), (3, .int .i64 ((1 + q6))), (4, .string (s81)), (8, .agg #[.int .i64 ((1 + q91)), .int .i64 (q101), .int .i64 ((1 + q111))])]) (cells := #[.int .i64 (1), .int .i64 (0), .int .i64 (0), .int .i64 ((1 + q6)), .string (s81), .slice none 0 0, .int .i64 (0), .int .i64 (0), .int .i64 (0), .int .i64 ((1 + q91)), .int .i64 (q101), .int .i64 ((1 + q111))]) rfl kR) rfl rfl ?_
    refine aA ?_
    refine bW rfl Try.zeroValue31 rfl rfl H120 ?_
    intro g_9_13 W121 hu122 Ha123; clear H120; clear hu122
    refine aA ?_
    refine bE rfl Try.sizeOf31 rfl rfl rfl rfl kS Ha123 ?_
    intro W125 hu126 Ha127; clear Ha123; clear hu126
    refine aH ?_
    refine aI ?_
    refine wp_seq ?_
    refine wp_seq ?_
    refine aK [0, 1] rfl ?_
    refine aA ?_
    refine aB rfl (aD rfl) rfl rfl ?_
    refine aA ?_
    have H130 : St w F0 [aY gc 157 A bs.length cb, hB g_9_13 31 #[.int .i64 (1), .int .i64 (0), .int .i64 (0), .int .i64 ((1 + q6)), .string (s81), .slice none 0 0, .int .i64 (0), .int .i64 (0), .int .i64 (0), .int .i64 ((1 + q91)), .int .i64 (q101), .int .i64 ((1 + q111))], hB g_0_0 31 #[.int .i64 (0), .int .i64 (0), .int .i64 (0), .int .i64 (0), .string (⟨#[]⟩), .slice none 0 0, .int .i64 (0), .int .i64 (0), .int .i64 (0), .int .i64 (0), .int .i64 (0), .int .i64 (0)]] W125 := Ha127.pick [1, 0, 2] kD rfl; clear Ha127
    obtain ⟨F131, hs132, hF133, hfr134⟩ := St.frame (l0 := [aY gc 157 A bs.length cb]) (l := [hB g_9_13 31 #[.int .i64 (1), .int .i64 (0), .int .i64 (0), .int .i64 ((1 + q6)), .string (s81), .slice none 0 0, .int .i64 (0), .int .i64 (0), .int .i64 (0), .int .i64 ((1 + q91)), .int .i64 (q101), .int .i64 ((1 + q111))], hB g_0_0 31 #[.int .i64 (0), .int .i64 (0), .int .i64 (0), .int .i64 (0), .string (⟨#[]⟩), .slice none 0 0, .int .i64 (0), .int .i64 (0), .int .i64 (0), .int .i64 (0), .int .i64 (0), .int .i64 (0)]]) H130
    refine aN rfl Try.call43 (vs := #[.pointer (some ⟨gc, 0, none⟩), .int .i64 (3)]) rfl rfl rfl (once_s 3 _ _ _ _ _ _ (CV.step hV H130.1 hF133) hn hs132) ?_
    rintro e137 W136 ⟨b129, rfl, Hn135⟩; refine ⟨_, rfl, ?_⟩
    have H138 := hfr134 _ _ Hn135; clear H130
    refine aH ?_
    refine aI ?_
    refine cond_b (b := b129) rfl (fun hc139 => ?_) (fun hc139 => ?_)
    ·refine aK [0, 1, 2, 3, 4] rfl ?_
     refine aA ?_
     refine aB rfl (aD rfl) rfl rfl ?_
     refine aA ?_
     obtain ⟨F142, hs143, hF144, hfr145⟩ := St.frame (l0 := [aY gc 157 A bs.length cb]) (l := [hB g_9_13 31 #[.int .i64 (1), .int .i64 (0), .int .i64 (0), .int .i64 ((1 + q6)), .string (s81), .slice none 0 0, .int .i64 (0), .int .i64 (0), .int .i64 (0), .int .i64 ((1 + q91)), .int .i64 (q101), .int .i64 ((1 + q111))], hB g_0_0 31 #[.int .i64 (0), .int .i64 (0), .int .i64 (0), .int .i64 (0), .string (⟨#[]⟩), .slice none 0 0, .int .i64 (0), .int .i64 (0), .int .i64 (0), .int .i64 (0), .int .i64 (0), .int .i64 (0)]]) H138
     refine aN rfl Try.call44 (vs := #[.pointer (some ⟨gc, 0, none⟩), .int .i64 (4)]) rfl rfl rfl (bP 4 _ _ _ _ _ _ (CV.step hV H138.1 hF144) hn hs143) ?_
     rintro e148 W147 ⟨q140, rfl, hq141, Hn146⟩; refine ⟨_, rfl, ?_⟩
     have H149 := hfr145 _ _ Hn146; clear H138
     refine aA ?_
     refine aB rfl (dF rfl rfl kO) rfl rfl ?_
     refine aA ?_
     refine aB rfl (aS fa_31_2 rfl) rfl rfl ?_
     refine aA ?_
     have H153 : St w F0 [hB g_9_13 31 #[.int .i64 (1), .int .i64 (0), .int .i64 (0), .int .i64 ((1 + q6)), .string (s81), .slice none 0 0, .int .i64 (0), .int .i64 (0), .int .i64 (0), .int .i64 ((1 + q91)), .int .i64 (q101), .int .i64 ((1 + q111))], aY gc 157 A bs.length cb, hB g_0_0 31 #[.int .i64 (0), .int .i64 (0), .int .i64 (0), .int .i64 (0), .string (⟨#[]⟩), .slice none 0 0, .int .i64 (0), .int .i64 (0), .int .i64 (0), .int .i64 (0), .int .i64 (0), .int .i64 (0)]] W147 := H149.pick [1, 0, 2] kD rfl; clear H149
     refine fM rfl Try.sizeOf3 rfl rfl rfl (Nat.le_of_ble_eq_true rfl) (by simp [Value.cells, Value.oneCell']) H153 ?_
     intro W150 hu151 Ha152; clear H153; clear hu151
     refine aH ?_
     refine aI ?_
     refine wp_seq ?_
     refine wp_seq ?_
     refine aK [0, 1, 2] rfl ?_
     refine aA ?_
     refine aB rfl (aD rfl) rfl rfl ?_
     refine aA ?_
     have H158 : St w F0 [aY gc 157 A bs.length cb, hB g_9_13 31 #[.int .i64 (1), .int .i64 (0), .int .i64 ((1 + q140)), .int .i64 ((1 + q6)), .string (s81), .slice none 0 0, .int .i64 (0), .int .i64 (0), .int .i64 (0), .int .i64 ((1 + q91)), .int .i64 (q101), .int .i64 ((1 + q111))], hB g_0_0 31 #[.int .i64 (0), .int .i64 (0), .int .i64 (0), .int .i64 (0), .string (⟨#[]⟩), .slice none 0 0, .int .i64 (0), .int .i64 (0), .int .i64 (0), .int .i64 (0), .int .i64 (0), .int .i64 (0)]] W150 := Ha152.pick [1, 0, 2] kD rfl; clear Ha152
     obtain ⟨F159, hs160, hF161, hfr162⟩ := St.frame (l0 := [aY gc 157 A bs.length cb]) (l := [hB g_9_13 31 #[.int .i64 (1), .int .i64 (0), .int .i64 ((1 + q140)), .int .i64 ((1 + q6)), .string (s81), .slice none 0 0, .int .i64 (0), .int .i64 (0), .int .i64 (0), .int .i64 ((1 + q91)), .int .i64 (q101), .int .i64 ((1 + q111))], hB g_0_0 31 #[.int .i64 (0), .int .i64 (0), .int .i64 (0), .int .i64 (0), .string (⟨#[]⟩), .slice none 0 0, .int .i64 (0), .int .i64 (0), .int .i64 (0), .int .i64 (0), .int .i64 (0), .int .i64 (0)]]) H158
     refine aN rfl Try.call44 (vs := #[.pointer (some ⟨gc, 0, none⟩), .int .i64 (3)]) rfl rfl rfl (bP 3 _ _ _ _ _ _ (CV.step hV H158.1 hF161) hn hs160) ?_
     rintro e165 W164 ⟨q155, rfl, hq156, Hn163⟩; refine ⟨_, rfl, ?_⟩
     have H166 := hfr162 _ _ Hn163; clear H158
     obtain ⟨n157, rfl⟩ : ∃ z : Nat, q155 = z := ⟨q155.toNat, by omega⟩
     refine aA ?_
     refine aB rfl (aG rfl) rfl rfl ?_
     refine aH ?_
     refine aI ?_
     refine wp_block ?_
     have H167 : St w F0 [hR aR 27 (.slice none 0 0) ([]), aY gc 157 A bs.length cb, hB g_9_13 31 #[.int .i64 (1), .int .i64 (0), .int .i64 ((1 + q140)), .int .i64 ((1 + q6)), .string (s81), .slice none 0 0, .int .i64 (0), .int .i64 (0), .int .i64 (0), .int .i64 ((1 + q91)), .int .i64 (q101), .int .i64 ((1 + q111))], hB g_0_0 31 #[.int .i64 (0), .int .i64 (0), .int .i64 (0), .int .i64 (0), .string (⟨#[]⟩), .slice none 0 0, .int .i64 (0), .int .i64 (0), .int .i64 (0), .int .i64 (0), .int .i64 (0), .int .i64 (0)]] W164 := H166.add0 (q := hR aR 27 (.slice none 0 0) []) R_nil; clear H166
     refine wp_loop_ghost (fun r a' W' => ∃ (d : Nat) (L : List GWire) (AL : Option Addr) (cL : Nat) (x' : Nat → Value), a' = aO 68 x' [(0, .pointer (some ⟨gc, 0, none⟩)), (2, .pointer (some ⟨g_0_0, 0, none⟩)), (4, .pointer (some ⟨g_9_13, 0, none⟩)), (5, .int .i64 (((d : Nat) : Int)))] ∧ (d = r) ∧ (L.length + d ≤ 8) ∧ St w F0 [hR aR 27 (.slice AL L.length cL) L, aY gc 157 A bs.length cb, hB g_9_13 31 #[.int .i64 (1), .int .i64 (0), .int .i64 ((1 + q140)), .int .i64 ((1 + q6)), .string (s81), .slice AL L.length cL, .int .i64 (0), .int .i64 (0), .int .i64 (0), .int .i64 ((1 + q91)), .int .i64 (q101), .int .i64 ((1 + q111))], hB g_0_0 31 #[.int .i64 (0), .int .i64 (0), .int .i64 (0), .int .i64 (0), .string (⟨#[]⟩), .slice none 0 0, .int .i64 (0), .int .i64 (0), .int .i64 (0), .int .i64 (0), .int .i64 (0), .int .i64 (0)]] W') n157 ?_ ?_
     ·exact (aW [(0, .pointer (some ⟨gc, 0, none⟩)), (2, .pointer (some ⟨g_0_0, 0, none⟩)), (4, .pointer (some ⟨g_9_13, 0, none⟩)), (5, .int .i64 (((n157 : Nat) : Int)))] rfl).elim fun x' hx => ⟨n157, [], none, 0, x', hx, rfl, (show 0 + _ ≤ _ by omega), H167⟩
     ·rintro r168 _ W169 ⟨d, L, AL, cL, x170, rfl, hd, hL, H171⟩; clear H167
      refine wp_seq ?_
      refine wp_seq ?_
      refine aK [0, 1] rfl ?_
      refine aA ?_
      refine aB rfl (aD rfl) rfl rfl ?_
      refine aA ?_
      refine aB rfl (rn_gtr rfl rfl) rfl rfl ?_
      refine aH ?_
      refine aI ?_
      refine bL rfl (fun hc172 => ?_) (fun hc172 => ?_)
      ·refine wp_skip ?_
       refine aI ?_
       refine wp_seq ?_
       refine wp_block ?_
       refine eF (fun W' => Blk W' g_9_13 31 #[.int .i64 (1), .int .i64 (0), .int .i64 ((1 + q140)), .int .i64 ((1 + q6)), .string (s81), .slice AL L.length cL, .int .i64 (0), .int .i64 (0), .int .i64 (0), .int .i64 ((1 + q91)), .int .i64 (q101), .int .i64 ((1 + q111))]) 7 kR ?_
       have H173 := H171.drew; clear H171
       have hS174 : Blk W169.drew g_9_13 31 #[.int .i64 (1), .int .i64 (0), .int .i64 ((1 + q140)), .int .i64 ((1 + q6)), .string (s81), .slice AL L.length cL, .int .i64 (0), .int .i64 (0), .int .i64 (0), .int .i64 ((1 + q91)), .int .i64 (q101), .int .i64 ((1 + q111))] := H173.blk 2 rfl
       refine aM (i := 0) rfl kR kR kR kR kR (fun _ _ _ h => h) rfl rfl hS174 (fun W' hs' => aS fa_31_5 rfl) ?_
       refine aM (i := 1) rfl kR kR kR kR kR (fun _ _ _ h => h) rfl rfl hS174 (fun W' hs' => bC (k := 5) (v := .slice AL L.length cL) Try.isAgg25 rfl hs' rfl) ?_
       refine aM (i := 2) rfl kR kR kR kR kR (fun _ _ _ h => h) rfl rfl hS174 (fun W' hs' => aD rfl) ?_
       refine bZ (i := 3) kR ?_
       have H177 : St w F0 [aY gc 157 A bs.length cb, hR aR 27 (.slice AL L.length cL) L, hB g_9_13 31 #[.int .i64 (1), .int .i64 (0), .int .i64 ((1 + q140)), .int .i64 ((1 + q6)), .string (s81), .slice AL L.length cL, .int .i64 (0), .int .i64 (0), .int .i64 (0), .int .i64 ((1 + q91)), .int .i64 (q101), .int .i64 ((1 + q111))], hB g_0_0 31 #[.int .i64 (0), .int .i64 (0), .int .i64 (0), .int .i64 (0), .string (⟨#[]⟩), .slice none 0 0, .int .i64 (0), .int .i64 (0), .int .i64 (0), .int .i64 (0), .int .i64 (0), .int .i64 (0)]] W169.drew := H173.pick [1, 0, 2, 3] kD rfl; clear H173
       obtain ⟨F178, hs179, hF180, hfr181⟩ := St.frame (l0 := [aY gc 157 A bs.length cb]) (l := [hR aR 27 (.slice AL L.length cL) L, hB g_9_13 31 #[.int .i64 (1), .int .i64 (0), .int .i64 ((1 + q140)), .int .i64 ((1 + q6)), .string (s81), .slice AL L.length cL, .int .i64 (0), .int .i64 (0), .int .i64 (0), .int .i64 ((1 + q91)), .int .i64 (q101), .int .i64 ((1 + q111))], hB g_0_0 31 #[.int .i64 (0), .int .i64 (0), .int .i64 (0), .int .i64 (0), .string (⟨#[]⟩), .slice none 0 0, .int .i64 (0), .int .i64 (0), .int .i64 (0), .int .i64 (0), .int .i64 (0), .int .i64 (0)]]) H177
       refine aN rfl Try.call103 (vs := #[.pointer (some ⟨gc, 0, none⟩)]) rfl rfl rfl (wire_s _ _ _ _ _ _ (CV.step hV H177.1 hF180) hn hs179) ?_
       rintro e184 W183 ⟨k175, v176, rfl, Hn182⟩; refine ⟨_, rfl, ?_⟩
       have H185 := hfr181 _ _ Hn182; clear H177
       have hS186 := H185.blk 2 rfl; refine ⟨fun _ => hS186, ?_⟩
       refine bZ (i := 4) kR ?_
       refine fA rfl Try.runUnderlying25 Try.sizeOf27 kD Try.zeroValue27 rfl rfl rfl rfl H185 ?_
       intro g_16_4 W187 hu188 Ha189; clear H185; clear hu188
       have hS191 := Ha189.blk 3 rfl; refine ⟨fun _ => hS191, ?_⟩
       refine bZ (i := 5) kR ?_
       have H194 : St w F0 [hR aR 27 (.slice AL L.length cL) L, hB g_16_4 27 #[.int .i64 (k175), .int .i64 (v176)], aY gc 157 A bs.length cb, hB g_9_13 31 #[.int .i64 (1), .int .i64 (0), .int .i64 ((1 + q140)), .int .i64 ((1 + q6)), .string (s81), .slice AL L.length cL, .int .i64 (0), .int .i64 (0), .int .i64 (0), .int .i64 ((1 + q91)), .int .i64 (q101), .int .i64 ((1 + q111))], hB g_0_0 31 #[.int .i64 (0), .int .i64 (0), .int .i64 (0), .int .i64 (0), .string (⟨#[]⟩), .slice none 0 0, .int .i64 (0), .int .i64 (0), .int .i64 (0), .int .i64 (0), .int .i64 (0), .int .i64 (0)]] W187 := Ha189.pick [2, 0, 1, 3, 4] kD rfl; clear Ha189
       refine op_append1f' (xs := L) (p := (⟨k175, v176⟩ : GWire)) (n' := (L ++ [(⟨k175, v176⟩ : GWire)]).length) (ys := (L ++ [(⟨k175, v176⟩ : GWire)])) rfl Try.underlying25 fK rfl kD kD rfl rfl (ki_Wire_mk _ No (⟨k175, v176⟩ : GWire)) kO (by rw [List.length_append]; rfl) rfl rfl rfl H194 ?_
       intro B_16_5 c_16_5 W192 Ha193; clear H194
       have hS196 := Ha193.blk 2 rfl; refine ⟨fun _ => hS196, ?_⟩
       refine aM (i := 6) rfl kR kR kR kR kR (fun _ _ _ h => h) rfl rfl hS196 (fun W' hs' => aS fa_31_5 rfl) ?_
       refine bZ (i := 7) kR ?_
       have H200 : St w F0 [hB g_9_13 31 #[.int .i64 (1), .int .i64 (0), .int .i64 ((1 + q140)), .int .i64 ((1 + q6)), .string (s81), .slice AL L.length cL, .int .i64 (0), .int .i64 (0), .int .i64 (0), .int .i64 ((1 + q91)), .int .i64 (q101), .int .i64 ((1 + q111))], hR aR 27 (.slice B_16_5 ((L ++ [(⟨k175, v176⟩ : GWire)]).length) c_16_5) (L ++ [(⟨k175, v176⟩ : GWire)]), aY gc 157 A bs.length cb, hB g_0_0 31 #[.int .i64 (0), .int .i64 (0), .int .i64 (0), .int .i64 (0), .string (⟨#[]⟩), .slice none 0 0, .int .i64 (0), .int .i64 (0), .int .i64 (0), .int .i64 (0), .int .i64 (0), .int .i64 (0)]] W192 := Ha193.pick [2, 0, 1, 3] kD rfl; clear Ha193
       refine fM rfl Try.sizeOf25 rfl rfl rfl (Nat.le_of_ble_eq_true rfl) (by simp [Value.cells, Value.oneCell']) H200 ?_
       intro W197 hu198 Ha199; clear H200; clear hu198
       refine ⟨fun h => absS kR h, ?_⟩
       refine dY kR ?_ _
       refine dW ?_
       refine aI ?_
       refine aK [0, 1, 2] rfl ?_
       refine aA ?_
       refine aB rfl (aD rfl) rfl rfl ?_
       refine aA ?_
       refine aB rfl (rn_int (q := ((d - 1 : Nat) : Int)) kO (rn_sub rfl rfl kO)) rfl rfl ?_
       refine aA ?_
       refine aB rfl (aG rfl) rfl rfl ?_
       refine aH ?_
       refine aI ?_
       exact (aW [(0, .pointer (some ⟨gc, 0, none⟩)), (2, .pointer (some ⟨g_0_0, 0, none⟩)), (4, .pointer (some ⟨g_9_13, 0, none⟩)), (5, .int .i64 (((d - 1 : Nat) : Int)))] rfl).elim fun x' hx => ⟨r168 - 1, kO, d - 1, (L ++ [(⟨k175, v176⟩ : GWire)]), B_16_5, c_16_5, x', hx, kO, (by rw [List.length_append]; show L.length + 1 + _ ≤ _; omega), Ha199.pick [1, 2, 0, 3] kD rfl⟩
      ·refine wp_exit ?_
       refine bR ?_
       refine bR ?_
       refine inB_x ?_
       refine aI ?_
       refine wp_seq ?_
       refine aK [0, 1] rfl ?_
       refine aA ?_
       refine aB rfl (cB Try.isAgg31 Try.sizeOf31 rfl (H171.blk 2 rfl) rfl) rfl rfl ?_
       refine aA ?_
       have H205 : St w F0 [hB g_0_0 31 #[.int .i64 (0), .int .i64 (0), .int .i64 (0), .int .i64 (0), .string (⟨#[]⟩), .slice none 0 0, .int .i64 (0), .int .i64 (0), .int .i64 (0), .int .i64 (0), .int .i64 (0), .int .i64 (0)], hR aR 27 (.slice AL L.length cL) L, aY gc 157 A bs.length cb, hB g_9_13 31 #[.int .i64 (1), .int .i64 (0), .int .i64 ((1 + q140)), .int .i64 ((1 + q6)), .string (s81), .slice AL L.length cL, .int .i64 (0), .int .i64 (0), .int .i64 (0), .int .i64 ((1 + q91)), .int .i64 (q101), .int .i64 ((1 + q111))]] W169 := H171.pick [3, 0, 1, 2] kD rfl; clear H171
       refine bE rfl Try.sizeOf31 rfl rfl rfl rfl kS H205 ?_
       intro W202 hu203 Ha204; clear H205; clear hu203
       refine aH ?_
       refine aI ?_
       refine wp_ret ?_
       refine d9 (.inl rfl) Try.results45 Try.isAgg31 Try.sizeOf31 rfl (Ha204.blk 0 rfl) rfl ?_
       have H207 : St w F0 [hR aR 27 (.slice AL L.length cL) L, hB g_0_0 31 #[.int .i64 (1), .int .i64 (0), .int .i64 ((1 + q140)), .int .i64 ((1 + q6)), .string (s81), .slice AL L.length cL, .int .i64 (0), .int .i64 (0), .int .i64 (0), .int .i64 ((1 + q91)), .int .i64 (q101), .int .i64 ((1 + q111))], aY gc 157 A bs.length cb, hB g_9_13 31 #[.int .i64 (1), .int .i64 (0), .int .i64 ((1 + q140)), .int .i64 ((1 + q6)), .string (s81), .slice AL L.length cL, .int .i64 (0), .int .i64 (0), .int .i64 (0), .int .i64 ((1 + q91)), .int .i64 (q101), .int .i64 ((1 + q111))]] W202 := Ha204.pick [1, 0, 2, 3] kD rfl; clear Ha204
       have H208 : St w F0 [hM aF (⟨1, 0, (1 + q140), (1 + q6), s81, L, (⟨0, 0⟩ : GWire), 0, (⟨(1 + q91), q101, (1 + q111)⟩ : GTag)⟩ : GMessage) [.int .i64 (1), .int .i64 (0), .int .i64 ((1 + q140)), .int .i64 ((1 + q6)), .string (s81), .slice AL L.length cL, .int .i64 (0), .int .i64 (0), .int .i64 (0), .int .i64 ((1 + q91)), .int .i64 (q101), .int .i64 ((1 + q111))], hB g_0_0 31 #[.int .i64 (1), .int .i64 (0), .int .i64 ((1 + q140)), .int .i64 ((1 + q6)), .string (s81), .slice AL L.length cL, .int .i64 (0), .int .i64 (0), .int .i64 (0), .int .i64 ((1 + q91)), .int .i64 (q101), .int .i64 ((1 + q111))], aY gc 157 A bs.length cb, hB g_9_13 31 #[.int .i64 (1), .int .i64 (0), .int .i64 ((1 + q140)), .int .i64 ((1 + q6)), .string (s81), .slice AL L.length cL, .int .i64 (0), .int .i64 (0), .int .i64 (0), .int .i64 ((1 + q91)), .int .i64 (q101), .int .i64 ((1 + q111))]] W202 := H207.swap (l0 := [hR aR 27 (.slice AL L.length cL) L]) (l' := [hM aF (⟨1, 0, (1 + q140), (1 + q6), s81, L, (⟨0, 0⟩ : GWire), 0, (⟨(1 + q91), q101, (1 + q111)⟩ : GTag)⟩ : GMessage) [.int .i64 (1), .int .i64 (0), .int .i64 ((1 + q140)), .int .i64 ((1 + q6)), .string (s81), .slice AL L.length cL, .int .i64 (0), .int .i64 (0), .int .i64 (0), .int .i64 ((1 + q91)), .int .i64 (q101), .int .i64 ((1 + q111))]]) (fun _ h => Star.one (bN (x := (⟨1, 0, (1 + q140), (1 + q6), s81, L, (⟨0, 0⟩ : GWire), 0, (⟨(1 + q91), q101, (1 + q111)⟩ : GTag)⟩ : GMessage)) h)); clear H207
       exact ⟨(⟨1, 0, (1 + q140), (1 + q6), s81, L, (⟨0, 0⟩ : GWire), 0, (⟨(1 + q91), q101, (1 + q111)⟩ : GTag)⟩ : GMessage), _, rfl, msz _ _ _ _ _ _ _ ⟨_, _⟩ _ hs82 kO, H208.pick [0, 2] kD rfl⟩
    ·refine aK [0, 1, 2, 3, 4] rfl ?_
     refine aA ?_
     refine aB rfl (aD rfl) rfl rfl ?_
     refine aA ?_
     obtain ⟨F211, hs212, hF213, hfr214⟩ := St.frame (l0 := [aY gc 157 A bs.length cb]) (l := [hB g_9_13 31 #[.int .i64 (1), .int .i64 (0), .int .i64 (0), .int .i64 ((1 + q6)), .string (s81), .slice none 0 0, .int .i64 (0), .int .i64 (0), .int .i64 (0), .int .i64 ((1 + q91)), .int .i64 (q101), .int .i64 ((1 + q111))], hB g_0_0 31 #[.int .i64 (0), .int .i64 (0), .int .i64 (0), .int .i64 (0), .string (⟨#[]⟩), .slice none 0 0, .int .i64 (0), .int .i64 (0), .int .i64 (0), .int .i64 (0), .int .i64 (0), .int .i64 (0)]]) H138
     refine aN rfl Try.call44 (vs := #[.pointer (some ⟨gc, 0, none⟩), .int .i64 (4)]) rfl rfl rfl (bP 4 _ _ _ _ _ _ (CV.step hV H138.1 hF213) hn hs212) ?_
     rintro e217 W216 ⟨q209, rfl, hq210, Hn215⟩; refine ⟨_, rfl, ?_⟩
     have H218 := hfr214 _ _ Hn215; clear H138
     refine aA ?_
     refine aB rfl (dF rfl rfl kO) rfl rfl ?_
     refine aA ?_
     refine aB rfl (aS fa_31_1 rfl) rfl rfl ?_
     refine aA ?_
     have H222 : St w F0 [hB g_9_13 31 #[.int .i64 (1), .int .i64 (0), .int .i64 (0), .int .i64 ((1 + q6)), .string (s81), .slice none 0 0, .int .i64 (0), .int .i64 (0), .int .i64 (0), .int .i64 ((1 + q91)), .int .i64 (q101), .int .i64 ((1 + q111))], aY gc 157 A bs.length cb, hB g_0_0 31 #[.int .i64 (0), .int .i64 (0), .int .i64 (0), .int .i64 (0), .string (⟨#[]⟩), .slice none 0 0, .int .i64 (0), .int .i64 (0), .int .i64 (0), .int .i64 (0), .int .i64 (0), .int .i64 (0)]] W216 := H218.pick [1, 0, 2] kD rfl; clear H218
     refine fM rfl Try.sizeOf3 rfl rfl rfl (Nat.le_of_ble_eq_true rfl) (by simp [Value.cells, Value.oneCell']) H222 ?_
     intro W219 hu220 Ha221; clear H222; clear hu220
     refine aH ?_
     refine aI ?_
     refine wp_seq ?_
     refine wp_seq ?_
     refine aK [0, 1, 2] rfl ?_
     refine aA ?_
     refine aB rfl (aD rfl) rfl rfl ?_
     refine aA ?_
     have H227 : St w F0 [aY gc 157 A bs.length cb, hB g_9_13 31 #[.int .i64 (1), .int .i64 ((1 + q209)), .int .i64 (0), .int .i64 ((1 + q6)), .string (s81), .slice none 0 0, .int .i64 (0), .int .i64 (0), .int .i64 (0), .int .i64 ((1 + q91)), .int .i64 (q101), .int .i64 ((1 + q111))], hB g_0_0 31 #[.int .i64 (0), .int .i64 (0), .int .i64 (0), .int .i64 (0), .string (⟨#[]⟩), .slice none 0 0, .int .i64 (0), .int .i64 (0), .int .i64 (0), .int .i64 (0), .int .i64 (0), .int .i64 (0)]] W219 := Ha221.pick [1, 0, 2] kD rfl; clear Ha221
     obtain ⟨F228, hs229, hF230, hfr231⟩ := St.frame (l0 := [aY gc 157 A bs.length cb]) (l := [hB g_9_13 31 #[.int .i64 (1), .int .i64 ((1 + q209)), .int .i64 (0), .int .i64 ((1 + q6)), .string (s81), .slice none 0 0, .int .i64 (0), .int .i64 (0), .int .i64 (0), .int .i64 ((1 + q91)), .int .i64 (q101), .int .i64 ((1 + q111))], hB g_0_0 31 #[.int .i64 (0), .int .i64 (0), .int .i64 (0), .int .i64 (0), .string (⟨#[]⟩), .slice none 0 0, .int .i64 (0), .int .i64 (0), .int .i64 (0), .int .i64 (0), .int .i64 (0), .int .i64 (0)]]) H227
     refine aN rfl Try.call44 (vs := #[.pointer (some ⟨gc, 0, none⟩), .int .i64 (3)]) rfl rfl rfl (bP 3 _ _ _ _ _ _ (CV.step hV H227.1 hF230) hn hs229) ?_
     rintro e234 W233 ⟨q224, rfl, hq225, Hn232⟩; refine ⟨_, rfl, ?_⟩
     have H235 := hfr231 _ _ Hn232; clear H227
     obtain ⟨n226, rfl⟩ : ∃ z : Nat, q224 = z := ⟨q224.toNat, by omega⟩
     refine aA ?_
     refine aB rfl (aG rfl) rfl rfl ?_
     refine aH ?_
     refine aI ?_
     refine wp_block ?_
     have H236 : St w F0 [hR aR 27 (.slice none 0 0) ([]), aY gc 157 A bs.length cb, hB g_9_13 31 #[.int .i64 (1), .int .i64 ((1 + q209)), .int .i64 (0), .int .i64 ((1 + q6)), .string (s81), .slice none 0 0, .int .i64 (0), .int .i64 (0), .int .i64 (0), .int .i64 ((1 + q91)), .int .i64 (q101), .int .i64 ((1 + q111))], hB g_0_0 31 #[.int .i64 (0), .int .i64 (0), .int .i64 (0), .int .i64 (0), .string (⟨#[]⟩), .slice none 0 0, .int .i64 (0), .int .i64 (0), .int .i64 (0), .int .i64 (0), .int .i64 (0), .int .i64 (0)]] W233 := H235.add0 (q := hR aR 27 (.slice none 0 0) []) R_nil; clear H235
     refine wp_loop_ghost (fun r a' W' => ∃ (d : Nat) (L : List GWire) (AL : Option Addr) (cL : Nat) (x' : Nat → Value), a' = aO 68 x' [(0, .pointer (some ⟨gc, 0, none⟩)), (2, .pointer (some ⟨g_0_0, 0, none⟩)), (4, .pointer (some ⟨g_9_13, 0, none⟩)), (5, .int .i64 (((d : Nat) : Int)))] ∧ (d = r) ∧ (L.length + d ≤ 8) ∧ St w F0 [hR aR 27 (.slice AL L.length cL) L, aY gc 157 A bs.length cb, hB g_9_13 31 #[.int .i64 (1), .int .i64 ((1 + q209)), .int .i64 (0), .int .i64 ((1 + q6)), .string (s81), .slice AL L.length cL, .int .i64 (0), .int .i64 (0), .int .i64 (0), .int .i64 ((1 + q91)), .int .i64 (q101), .int .i64 ((1 + q111))], hB g_0_0 31 #[.int .i64 (0), .int .i64 (0), .int .i64 (0), .int .i64 (0), .string (⟨#[]⟩), .slice none 0 0, .int .i64 (0), .int .i64 (0), .int .i64 (0), .int .i64 (0), .int .i64 (0), .int .i64 (0)]] W') n226 ?_ ?_
     ·exact (aW [(0, .pointer (some ⟨gc, 0, none⟩)), (2, .pointer (some ⟨g_0_0, 0, none⟩)), (4, .pointer (some ⟨g_9_13, 0, none⟩)), (5, .int .i64 (((n226 : Nat) : Int)))] rfl).elim fun x' hx => ⟨n226, [], none, 0, x', hx, rfl, (show 0 + _ ≤ _ by omega), H236⟩
     ·rintro r237 _ W238 ⟨d, L, AL, cL, x239, rfl, hd, hL, H240⟩; clear H236
      refine wp_seq ?_
      refine wp_seq ?_
      refine aK [0, 1] rfl ?_
      refine aA ?_
      refine aB rfl (aD rfl) rfl rfl ?_
      refine aA ?_
      refine aB rfl (rn_gtr rfl rfl) rfl rfl ?_
      refine aH ?_
      refine aI ?_
      refine bL rfl (fun hc241 => ?_) (fun hc241 => ?_)
      ·refine wp_skip ?_
       refine aI ?_
       refine wp_seq ?_
       refine wp_block ?_
       refine eF (fun W' => Blk W' g_9_13 31 #[.int .i64 (1), .int .i64 ((1 + q209)), .int .i64 (0), .int .i64 ((1 + q6)), .string (s81), .slice AL L.length cL, .int .i64 (0), .int .i64 (0), .int .i64 (0), .int .i64 ((1 + q91)), .int .i64 (q101), .int .i64 ((1 + q111))]) 7 kR ?_
       have H242 := H240.drew; clear H240
       have hS243 : Blk W238.drew g_9_13 31 #[.int .i64 (1), .int .i64 ((1 + q209)), .int .i64 (0), .int .i64 ((1 + q6)), .string (s81), .slice AL L.length cL, .int .i64 (0), .int .i64 (0), .int .i64 (0), .int .i64 ((1 + q91)), .int .i64 (q101), .int .i64 ((1 + q111))] := H242.blk 2 rfl
       refine aM (i := 0) rfl kR kR kR kR kR (fun _ _ _ h => h) rfl rfl hS243 (fun W' hs' => aS fa_31_5 rfl) ?_
       refine aM (i := 1) rfl kR kR kR kR kR (fun _ _ _ h => h) rfl rfl hS243 (fun W' hs' => bC (k := 5) (v := .slice AL L.length cL) Try.isAgg25 rfl hs' rfl) ?_
       refine aM (i := 2) rfl kR kR kR kR kR (fun _ _ _ h => h) rfl rfl hS243 (fun W' hs' => aD rfl) ?_
       refine bZ (i := 3) kR ?_
       have H246 : St w F0 [aY gc 157 A bs.length cb, hR aR 27 (.slice AL L.length cL) L, hB g_9_13 31 #[.int .i64 (1), .int .i64 ((1 + q209)), .int .i64 (0), .int .i64 ((1 + q6)), .string (s81), .slice AL L.length cL, .int .i64 (0), .int .i64 (0), .int .i64 (0), .int .i64 ((1 + q91)), .int .i64 (q101), .int .i64 ((1 + q111))], hB g_0_0 31 #[.int .i64 (0), .int .i64 (0), .int .i64 (0), .int .i64 (0), .string (⟨#[]⟩), .slice none 0 0, .int .i64 (0), .int .i64 (0), .int .i64 (0), .int .i64 (0), .int .i64 (0), .int .i64 (0)]] W238.drew := H242.pick [1, 0, 2, 3] kD rfl; clear H242
       obtain ⟨F247, hs248, hF249, hfr250⟩ := St.frame (l0 := [aY gc 157 A bs.length cb]) (l := [hR aR 27 (.slice AL L.length cL) L, hB g_9_13 31 #[.int .i64 (1), .int .i64 ((1 + q209)), .int .i64 (0), .int .i64 ((1 + q6)), .string (s81), .slice AL L.length cL, .int .i64 (0), .int .i64 (0), .int .i64 (0), .int .i64 ((1 + q91)), .int .i64 (q101), .int .i64 ((1 + q111))], hB g_0_0 31 #[.int .i64 (0), .int .i64 (0), .int .i64 (0), .int .i64 (0), .string (⟨#[]⟩), .slice none 0 0, .int .i64 (0), .int .i64 (0), .int .i64 (0), .int .i64 (0), .int .i64 (0), .int .i64 (0)]]) H246
       refine aN rfl Try.call103 (vs := #[.pointer (some ⟨gc, 0, none⟩)]) rfl rfl rfl (wire_s _ _ _ _ _ _ (CV.step hV H246.1 hF249) hn hs248) ?_
       rintro e253 W252 ⟨k244, v245, rfl, Hn251⟩; refine ⟨_, rfl, ?_⟩
       have H254 := hfr250 _ _ Hn251; clear H246
       have hS255 := H254.blk 2 rfl; refine ⟨fun _ => hS255, ?_⟩
       refine bZ (i := 4) kR ?_
       refine fA rfl Try.runUnderlying25 Try.sizeOf27 kD Try.zeroValue27 rfl rfl rfl rfl H254 ?_
       intro g_16_4 W256 hu257 Ha258; clear H254; clear hu257
       have hS260 := Ha258.blk 3 rfl; refine ⟨fun _ => hS260, ?_⟩
       refine bZ (i := 5) kR ?_
       have H263 : St w F0 [hR aR 27 (.slice AL L.length cL) L, hB g_16_4 27 #[.int .i64 (k244), .int .i64 (v245)], aY gc 157 A bs.length cb, hB g_9_13 31 #[.int .i64 (1), .int .i64 ((1 + q209)), .int .i64 (0), .int .i64 ((1 + q6)), .string (s81), .slice AL L.length cL, .int .i64 (0), .int .i64 (0), .int .i64 (0), .int .i64 ((1 + q91)), .int .i64 (q101), .int .i64 ((1 + q111))], hB g_0_0 31 #[.int .i64 (0), .int .i64 (0), .int .i64 (0), .int .i64 (0), .string (⟨#[]⟩), .slice none 0 0, .int .i64 (0), .int .i64 (0), .int .i64 (0), .int .i64 (0), .int .i64 (0), .int .i64 (0)]] W256 := Ha258.pick [2, 0, 1, 3, 4] kD rfl; clear Ha258
       refine op_append1f' (xs := L) (p := (⟨k244, v245⟩ : GWire)) (n' := (L ++ [(⟨k244, v245⟩ : GWire)]).length) (ys := (L ++ [(⟨k244, v245⟩ : GWire)])) rfl Try.underlying25 fK rfl kD kD rfl rfl (ki_Wire_mk _ No (⟨k244, v245⟩ : GWire)) kO (by rw [List.length_append]; rfl) rfl rfl rfl H263 ?_
       intro B_16_5 c_16_5 W261 Ha262; clear H263
       have hS265 := Ha262.blk 2 rfl; refine ⟨fun _ => hS265, ?_⟩
       refine aM (i := 6) rfl kR kR kR kR kR (fun _ _ _ h => h) rfl rfl hS265 (fun W' hs' => aS fa_31_5 rfl) ?_
       refine bZ (i := 7) kR ?_
       have H269 : St w F0 [hB g_9_13 31 #[.int .i64 (1), .int .i64 ((1 + q209)), .int .i64 (0), .int .i64 ((1 + q6)), .string (s81), .slice AL L.length cL, .int .i64 (0), .int .i64 (0), .int .i64 (0), .int .i64 ((1 + q91)), .int .i64 (q101), .int .i64 ((1 + q111))], hR aR 27 (.slice B_16_5 ((L ++ [(⟨k244, v245⟩ : GWire)]).length) c_16_5) (L ++ [(⟨k244, v245⟩ : GWire)]), aY gc 157 A bs.length cb, hB g_0_0 31 #[.int .i64 (0), .int .i64 (0), .int .i64 (0), .int .i64 (0), .string (⟨#[]⟩), .slice none 0 0, .int .i64 (0), .int .i64 (0), .int .i64 (0), .int .i64 (0), .int .i64 (0), .int .i64 (0)]] W261 := Ha262.pick [2, 0, 1, 3] kD rfl; clear Ha262
       refine fM rfl Try.sizeOf25 rfl rfl rfl (Nat.le_of_ble_eq_true rfl) (by simp [Value.cells, Value.oneCell']) H269 ?_
       intro W266 hu267 Ha268; clear H269; clear hu267
       refine ⟨fun h => absS kR h, ?_⟩
       refine dY kR ?_ _
       refine dW ?_
       refine aI ?_
       refine aK [0, 1, 2] rfl ?_
       refine aA ?_
       refine aB rfl (aD rfl) rfl rfl ?_
       refine aA ?_
       refine aB rfl (rn_int (q := ((d - 1 : Nat) : Int)) kO (rn_sub rfl rfl kO)) rfl rfl ?_
       refine aA ?_
       refine aB rfl (aG rfl) rfl rfl ?_
       refine aH ?_
       refine aI ?_
       exact (aW [(0, .pointer (some ⟨gc, 0, none⟩)), (2, .pointer (some ⟨g_0_0, 0, none⟩)), (4, .pointer (some ⟨g_9_13, 0, none⟩)), (5, .int .i64 (((d - 1 : Nat) : Int)))] rfl).elim fun x' hx => ⟨r237 - 1, kO, d - 1, (L ++ [(⟨k244, v245⟩ : GWire)]), B_16_5, c_16_5, x', hx, kO, (by rw [List.length_append]; show L.length + 1 + _ ≤ _; omega), Ha268.pick [1, 2, 0, 3] kD rfl⟩
      ·refine wp_exit ?_
       refine bR ?_
       refine bR ?_
       refine inB_x ?_
       refine aI ?_
       refine wp_seq ?_
       refine aK [0, 1] rfl ?_
       refine aA ?_
       refine aB rfl (cB Try.isAgg31 Try.sizeOf31 rfl (H240.blk 2 rfl) rfl) rfl rfl ?_
       refine aA ?_
       have H274 : St w F0 [hB g_0_0 31 #[.int .i64 (0), .int .i64 (0), .int .i64 (0), .int .i64 (0), .string (⟨#[]⟩), .slice none 0 0, .int .i64 (0), .int .i64 (0), .int .i64 (0), .int .i64 (0), .int .i64 (0), .int .i64 (0)], hR aR 27 (.slice AL L.length cL) L, aY gc 157 A bs.length cb, hB g_9_13 31 #[.int .i64 (1), .int .i64 ((1 + q209)), .int .i64 (0), .int .i64 ((1 + q6)), .string (s81), .slice AL L.length cL, .int .i64 (0), .int .i64 (0), .int .i64 (0), .int .i64 ((1 + q91)), .int .i64 (q101), .int .i64 ((1 + q111))]] W238 := H240.pick [3, 0, 1, 2] kD rfl; clear H240
       refine bE rfl Try.sizeOf31 rfl rfl rfl rfl kS H274 ?_
       intro W271 hu272 Ha273; clear H274; clear hu272
       refine aH ?_
       refine aI ?_
       refine wp_ret ?_
       refine d9 (.inl rfl) Try.results45 Try.isAgg31 Try.sizeOf31 rfl (Ha273.blk 0 rfl) rfl ?_
       have H276 : St w F0 [hR aR 27 (.slice AL L.length cL) L, hB g_0_0 31 #[.int .i64 (1), .int .i64 ((1 + q209)), .int .i64 (0), .int .i64 ((1 + q6)), .string (s81), .slice AL L.length cL, .int .i64 (0), .int .i64 (0), .int .i64 (0), .int .i64 ((1 + q91)), .int .i64 (q101), .int .i64 ((1 + q111))], aY gc 157 A bs.length cb, hB g_9_13 31 #[.int .i64 (1), .int .i64 ((1 + q209)), .int .i64 (0), .int .i64 ((1 + q6)), .string (s81), .slice AL L.length cL, .int .i64 (0), .int .i64 (0), .int .i64 (0), .int .i64 ((1 + q91)), .int .i64 (q101), .int .i64 ((1 + q111))]] W271 := Ha273.pick [1, 0, 2, 3] kD rfl; clear Ha273
       have H277 : St w F0 [hM aF (⟨1, (1 + q209), 0, (1 + q6), s81, L, (⟨0, 0⟩ : GWire), 0, (⟨(1 + q91), q101, (1 + q111)⟩ : GTag)⟩ : GMessage) [.int .i64 (1), .int .i64 ((1 + q209)), .int .i64 (0), .int .i64 ((1 + q6)), .string (s81), .slice AL L.length cL, .int .i64 (0), .int .i64 (0), .int .i64 (0), .int .i64 ((1 + q91)), .int .i64 (q101), .int .i64 ((1 + q111))], hB g_0_0 31 #[.int .i64 (1), .int .i64 ((1 + q209)), .int .i64 (0), .int .i64 ((1 + q6)), .string (s81), .slice AL L.length cL, .int .i64 (0), .int .i64 (0), .int .i64 (0), .int .i64 ((1 + q91)), .int .i64 (q101), .int .i64 ((1 + q111))], aY gc 157 A bs.length cb, hB g_9_13 31 #[.int .i64 (1), .int .i64 ((1 + q209)), .int .i64 (0), .int .i64 ((1 + q6)), .string (s81), .slice AL L.length cL, .int .i64 (0), .int .i64 (0), .int .i64 (0), .int .i64 ((1 + q91)), .int .i64 (q101), .int .i64 ((1 + q111))]] W271 := H276.swap (l0 := [hR aR 27 (.slice AL L.length cL) L]) (l' := [hM aF (⟨1, (1 + q209), 0, (1 + q6), s81, L, (⟨0, 0⟩ : GWire), 0, (⟨(1 + q91), q101, (1 + q111)⟩ : GTag)⟩ : GMessage) [.int .i64 (1), .int .i64 ((1 + q209)), .int .i64 (0), .int .i64 ((1 + q6)), .string (s81), .slice AL L.length cL, .int .i64 (0), .int .i64 (0), .int .i64 (0), .int .i64 ((1 + q91)), .int .i64 (q101), .int .i64 ((1 + q111))]]) (fun _ h => Star.one (bN (x := (⟨1, (1 + q209), 0, (1 + q6), s81, L, (⟨0, 0⟩ : GWire), 0, (⟨(1 + q91), q101, (1 + q111)⟩ : GTag)⟩ : GMessage)) h)); clear H276
       exact ⟨(⟨1, (1 + q209), 0, (1 + q6), s81, L, (⟨0, 0⟩ : GWire), 0, (⟨(1 + q91), q101, (1 + q111)⟩ : GTag)⟩ : GMessage), _, rfl, msz _ _ _ _ _ _ _ ⟨_, _⟩ _ hs82 kO, H277.pick [0, 2] kD rfl⟩
theorem sumS_set {α : Type} (s : α → Nat) (y : α) : ∀ (l : List α) (k : Nat) (h : k < l.length), dI s (l.set k y) + s l[k] = dI s l + s y
 | [], _, h => (Nat.not_lt_zero _ h).elim
 | x :: r, 0, _ => by
  show s y + dI s r + s x = s x + dI s r + s y
  omega
 | x :: r, k + 1, h => by
  have q := sumS_set s y r k (Nat.lt_of_succ_lt_succ h)
  show s x + dI s (r.set k y) + s (r[k]'(Nat.lt_of_succ_lt_succ h)) = s x + dI s r + s y
  omega
theorem pt_bd (a b : Int) (m : GMessage) (l : List GChannel) : bJ aL (ptL a b m l) ≤ bJ aL l + aQ m + 1 := by
 rcases eB (chP a b) l with hf | ⟨k, hk, hf⟩
 ·rw [(pt_no a b m l hf).1]
  omega
 ·by_cases h2 : 200 ≤ l[k].List.length
  ·rw [(pt_full a b m l k hk hf _ _ _ rfl h2).1]
   omega
  ·rw [(pt_yes a b m l k hk hf l[k].From l[k].To l[k].List rfl (Nat.lt_of_not_le h2)).1]
   have h3 := sumS_setB aL ⟨l[k].From, l[k].To, l[k].List ++ [m]⟩ l k
   have h5 := fJ aL l k hk
   have h4 : aL ⟨l[k].From, l[k].To, l[k].List ++ [m]⟩ = aL l[k] + aQ m + 1 := by
    show bJ aQ (l[k].List ++ [m]) = bJ aQ l[k].List + aQ m + 1
    unfold bJ
    rw [fO, List.length_append]
    show l[k].List.length + 1 + (dI aQ l[k].List + (aQ m + 0)) = _
    omega
   have h6 := sumS_set aL ⟨l[k].From, l[k].To, l[k].List ++ [m]⟩ l k hk
   unfold bJ
   rw [List.length_set]
   omega
theorem al_bd (v : Int) (h1 : 1 ≤ v) (h2 : v ≤ 4) : bJ aL (alO v) ≤ 1000 := by
 unfold alO
 rw [if_pos ⟨h1, h2⟩]
 obtain ⟨n, rfl⟩ : ∃ n : Nat, v = n := ⟨v.toNat, by omega⟩
 rw [Int.toNat_natCast]
 match n, h1, h2 with
 | 1, _, _ => exact Nat.le_of_ble_eq_true kR
 | 2, _, _ => exact Nat.le_of_ble_eq_true kR
 | 3, _, _ => exact Nat.le_of_ble_eq_true kR
 | 4, _, _ => exact Nat.le_of_ble_eq_true kR
 | 0, h, _ => omega
 | n + 5, _, h => omega
theorem channels_s  (bs : List Int) (gc cb : Nat) (A : Option Addr) (F0 : Nat → Prop) (w : World) (hV : CV A bs F0 w) (hn : bs.length ≤ 1048576) (h : Star [aY gc 157 A bs.length cb] w F0) : Calls Try.prog 42 #[.pointer (some ⟨gc, 0, none⟩)] w (fun e' w' => ∃ B X c, e' = .returned (.slice B X.length c) ∧ bJ aL X ≤ 2000 ∧ St w F0 [hR aC 94 (.slice B X.length c) X, aY gc 157 A bs.length cb] w') := by
 refine enter 29 [(0, .pointer (some ⟨gc, 0, none⟩))] Try.func42 rfl kR ?_
 intro xj
 have H1 : St w F0 [aY gc 157 A bs.length cb] w := St.eO h
 refine wp_seq ?_
 refine aK [0] rfl ?_
 refine aA ?_
 refine aB rfl (aG rfl) rfl rfl ?_
 refine aH ?_
 refine aI ?_
 refine wp_seq ?_
 refine aK [0, 1, 2, 3, 4] rfl ?_
 refine aA ?_
 refine aB rfl (aD rfl) rfl rfl ?_
 refine aA ?_
 obtain ⟨F4, hs5, hF6, hfr7⟩ := St.frame (l0 := [aY gc 157 A bs.length cb]) (l := []) H1
 refine aN rfl Try.call44 (vs := #[.pointer (some ⟨gc, 0, none⟩), .int .i64 (3)]) rfl rfl rfl (bP 3 _ _ _ _ _ _ (CV.step hV H1.1 hF6) hn hs5) ?_
 rintro e10 W9 ⟨q2, rfl, hq3, Hn8⟩; refine ⟨_, rfl, ?_⟩
 have H11 := hfr7 _ _ Hn8; clear H1
 refine aA ?_
 refine aB rfl (dF rfl rfl kO) rfl rfl ?_
 refine aA ?_
 refine aN rfl Try.call18 (vs := #[.int .i64 ((1 + q2))]) rfl rfl rfl (allCh_sA (1 + q2) _) ?_
 rintro e16 W15 ⟨v12, rfl, hR13, hu14⟩; refine ⟨_, rfl, ?_⟩
 obtain ⟨B_1_3, c_1_3, rfl⟩ := bK hR13
 have H17 := H11.new (q := hR aC 94 (.slice B_1_3 ((alO (1 + q2)).length) c_1_3) (alO (1 + q2))) hu14 hR13; clear H11
 refine aA ?_
 refine aB rfl (aG rfl) rfl rfl ?_
 refine aH ?_
 refine aI ?_
 refine wp_seq ?_
 refine wp_seq ?_
 refine aK [0, 1, 2] rfl ?_
 refine aA ?_
 refine aB rfl (aD rfl) rfl rfl ?_
 refine aA ?_
 have H21 : St w F0 [aY gc 157 A bs.length cb, hR aC 94 (.slice B_1_3 ((alO (1 + q2)).length) c_1_3) (alO (1 + q2))] W15 := H17.pick [1, 0] kD rfl; clear H17
 obtain ⟨F22, hs23, hF24, hfr25⟩ := St.frame (l0 := [aY gc 157 A bs.length cb]) (l := [hR aC 94 (.slice B_1_3 ((alO (1 + q2)).length) c_1_3) (alO (1 + q2))]) H21
 refine aN rfl Try.call44 (vs := #[.pointer (some ⟨gc, 0, none⟩), .int .i64 (6)]) rfl rfl rfl (bP 6 _ _ _ _ _ _ (CV.step hV H21.1 hF24) hn hs23) ?_
 rintro e28 W27 ⟨q18, rfl, hq19, Hn26⟩; refine ⟨_, rfl, ?_⟩
 have H29 := hfr25 _ _ Hn26; clear H21
 obtain ⟨n20, rfl⟩ : ∃ z : Nat, q18 = z := ⟨q18.toNat, by omega⟩
 refine aA ?_
 refine aB rfl (aG rfl) rfl rfl ?_
 refine aH ?_
 refine aI ?_
 refine wp_block ?_
 have hal := al_bd (1 + q2) kO kO
 refine wp_loop_ghost (fun r a' W' => ∃ (d : Nat) (X : List GChannel) (AX : Option Addr) (cX : Nat) (x' : Nat → Value), a' = aO 29 x' [(0, .pointer (some ⟨gc, 0, none⟩)), (3, .slice AX X.length cX), (4, .int .i64 (((d : Nat) : Int)))] ∧ (d = r) ∧ (bJ aL X + 100 * d ≤ 2000) ∧ St w F0 [hR aC 94 (.slice AX X.length cX) X, aY gc 157 A bs.length cb] W') n20 ?_ ?_
 ·exact (aW [(0, .pointer (some ⟨gc, 0, none⟩)), (3, .slice B_1_3 ((alO (1 + q2)).length) c_1_3), (4, .int .i64 (((n20 : Nat) : Int)))] rfl).elim fun x' hx => ⟨n20, (alO (1 + q2)), B_1_3, c_1_3, x', hx, rfl, kO, H29.pick [1, 0] kD rfl⟩
 ·rintro r30 _ W31 ⟨d, X, AX, cX, x32, rfl, hd, hX, H33⟩; clear H29
  refine wp_seq ?_
  refine wp_seq ?_
  refine aK [0, 1] rfl ?_
  refine aA ?_
  refine aB rfl (aD rfl) rfl rfl ?_
  refine aA ?_
  refine aB rfl (rn_gtr rfl rfl) rfl rfl ?_
  refine aH ?_
  refine aI ?_
  refine bL rfl (fun hc34 => ?_) (fun hc34 => ?_)
  ·refine wp_skip ?_
   refine aI ?_
   refine wp_seq ?_
   refine wp_block ?_
   refine aK [0, 1, 2, 3, 4, 5, 6, 7, 8, 9, 10, 11, 12, 13] rfl ?_
   refine aA ?_
   refine aB rfl (aD rfl) rfl rfl ?_
   refine aA ?_
   refine aB rfl (aD rfl) rfl rfl ?_
   refine aA ?_
   have H37 : St w F0 [aY gc 157 A bs.length cb, hR aC 94 (.slice AX X.length cX) X] W31 := H33.pick [1, 0] kD rfl; clear H33
   obtain ⟨F38, hs39, hF40, hfr41⟩ := St.frame (l0 := [aY gc 157 A bs.length cb]) (l := [hR aC 94 (.slice AX X.length cX) X]) H37
   refine aN rfl Try.call44 (vs := #[.pointer (some ⟨gc, 0, none⟩), .int .i64 (3)]) rfl rfl rfl (bP 3 _ _ _ _ _ _ (CV.step hV H37.1 hF40) hn hs39) ?_
   rintro e44 W43 ⟨q35, rfl, hq36, Hn42⟩; refine ⟨_, rfl, ?_⟩
   have H45 := hfr41 _ _ Hn42; clear H37
   refine aA ?_
   refine aB rfl (dF rfl rfl kO) rfl rfl ?_
   refine aA ?_
   refine aB rfl (aD rfl) rfl rfl ?_
   refine aA ?_
   obtain ⟨F48, hs49, hF50, hfr51⟩ := St.frame (l0 := [aY gc 157 A bs.length cb]) (l := [hR aC 94 (.slice AX X.length cX) X]) H45
   refine aN rfl Try.call44 (vs := #[.pointer (some ⟨gc, 0, none⟩), .int .i64 (3)]) rfl rfl rfl (bP 3 _ _ _ _ _ _ (CV.step hV H45.1 hF50) hn hs49) ?_
   rintro e54 W53 ⟨q46, rfl, hq47, Hn52⟩; refine ⟨_, rfl, ?_⟩
   have H55 := hfr51 _ _ Hn52; clear H45
   refine aA ?_
   refine aB rfl (dF rfl rfl kO) rfl rfl ?_
   refine aA ?_
   refine aB rfl (aD rfl) rfl rfl ?_
   refine aA ?_
   obtain ⟨F59, hs60, hF61, hfr62⟩ := St.frame (l0 := [aY gc 157 A bs.length cb]) (l := [hR aC 94 (.slice AX X.length cX) X]) H55
   refine aN rfl Try.call45 (vs := #[.pointer (some ⟨gc, 0, none⟩)]) rfl rfl rfl (message_s _ _ _ _ _ _ (CV.step hV H55.1 hF61) hn hs60) ?_
   rintro e65 W64 ⟨m56, cs57, rfl, hm58, Hn63⟩; refine ⟨_, rfl, ?_⟩
   have H66 : St w F0 [hM aF m56 cs57, aY gc 157 A bs.length cb, hR aC 94 (.slice AX X.length cX) X] W64 := hfr62 (_ :: [_]) _ Hn63; clear H55
   refine aA ?_
   refine aN rfl Try.call9 (vs := #[.slice AX X.length cX, .int .i64 ((1 + q35)), .int .i64 ((1 + q46)), .agg (List.toArray cs57)]) rfl rfl rfl (putMessage_S X (1 + q35) (1 + q46) m56 _ _ _ _ (H66.rowC 2 rfl) kO (H66.kn 0 rfl) kO) ?_
   rintro e70 W69 ⟨B_5_9, c_5_9, rfl, hst67, hu68⟩; refine ⟨_, rfl, ?_⟩
   have H71 := H66.news hu68 hst67; clear H66
   refine aA ?_
   refine aB rfl (aD rfl) rfl rfl ?_
   refine aA ?_
   refine aB rfl (bU (v := .slice B_5_9 ((ptL (1 + q35) (1 + q46) m56 X).length) c_5_9) rfl rfl) rfl rfl ?_
   refine aA ?_
   refine aB rfl (bU (v := .bool ((ptB (1 + q35) (1 + q46) m56 X))) rfl rfl) rfl rfl ?_
   refine aA ?_
   refine aB rfl (aG rfl) rfl rfl ?_
   refine aH ?_
   refine dW ?_
   refine aI ?_
   refine aK [0, 1, 2] rfl ?_
   refine aA ?_
   refine aB rfl (aD rfl) rfl rfl ?_
   refine aA ?_
   refine aB rfl (rn_int (q := ((d - 1 : Nat) : Int)) kO (rn_sub rfl rfl kO)) rfl rfl ?_
   refine aA ?_
   refine aB rfl (aG rfl) rfl rfl ?_
   refine aH ?_
   refine aI ?_
   have hb72 := pt_bd (1 + q35) (1 + q46) m56 X
   exact (aW [(0, .pointer (some ⟨gc, 0, none⟩)), (3, .slice B_5_9 ((ptL (1 + q35) (1 + q46) m56 X).length) c_5_9), (4, .int .i64 (((d - 1 : Nat) : Int)))] rfl).elim fun x' hx => ⟨r30 - 1, kO, d - 1, (ptL (1 + q35) (1 + q46) m56 X), B_5_9, c_5_9, x', hx, kO, kO, H71.pick [0, 2] kD rfl⟩
  ·refine wp_exit ?_
   refine bR ?_
   refine bR ?_
   refine inB_x ?_
   refine aI ?_
   refine wp_seq ?_
   refine aK [0, 1] rfl ?_
   refine aA ?_
   refine aB rfl (aD rfl) rfl rfl ?_
   refine aA ?_
   refine aB rfl (aG rfl) rfl rfl ?_
   refine aH ?_
   refine aI ?_
   refine wp_ret ?_
   refine aV (.inl rfl) Try.results42 rfl ?_
   exact ⟨_, _, _, rfl, by omega, H33.pick [0, 1] kD rfl⟩
theorem szn_app (L : List GMessage) (m : GMessage) : bJ aQ (L ++ [m]) = bJ aQ L + aQ m + 1 := by
 unfold bJ
 rw [fO, List.length_append]
 show L.length + 1 + (dI aQ L + (aQ m + 0)) = _
 omega
theorem set_bd (X : List GChannel) (y : GChannel) (h : bJ aL X ≤ 2000) (hy : aL y ≤ 10000) (k : Nat) : bJ aL (X.set k y) ≤ 20000 := by
 have h1 := sumS_setB aL y X k
 unfold bJ at h ⊢
 rw [List.length_set]
 omega
theorem drawPut_s (bs : List Int) (cb : Nat) (A : Option Addr) (w : World) (hC : C Kn.u8 w A bs) (hn : bs.length ≤ 1048576) : Calls Try.prog 7 #[.slice A bs.length cb] w (fun e' w' => ∃ B c X a b m cs, e' = .returned (.tuple #[.slice B X.length c, .int .i64 a, .int .i64 b, .agg (List.toArray cs)]) ∧ (bJ aL X ≤ 20000 ∧ aQ m ≤ 20) ∧ Star [hR aC 94 (.slice B X.length c) X, hM aF m cs] w' (New w) ∧ Upd No w w') := by
 refine enter 48 [(0, .slice A bs.length cb)] Try.func7 rfl kR ?_
 intro xj
 have H1 : St w No [] w := St.enter
 have hV : CV A bs No w := CV.of hC
 refine wp_seq ?_
 refine aK [0, 1, 2, 3] rfl ?_
 refine aA ?_
 refine aB rfl (aG rfl) rfl rfl ?_
 refine aA ?_
 refine aB rfl (aG rfl) rfl rfl ?_
 refine aA ?_
 refine aB rfl (aG rfl) rfl rfl ?_
 refine aA ?_
 refine bW rfl Try.zeroValue31 rfl rfl H1 ?_
 intro g_0_3 W2 hu3 Ha4; clear H1; clear hu3
 refine aH ?_
 refine aI ?_
 refine wp_seq ?_
 refine aK [0, 1, 2] rfl ?_
 refine aA ?_
 refine aB rfl (aD rfl) rfl rfl ?_
 refine aA ?_
 refine aN rfl Try.call41 (vs := #[.slice A bs.length cb]) rfl rfl rfl (new_s bs cb A _ (bQ Ha4.1 hC) hn) ?_
 rintro e8 W7 ⟨gc, rfl, hq6⟩; refine ⟨_, rfl, ?_⟩
 have H9 := Ha4.news hq6.1 hq6.star; clear Ha4
 refine aA ?_
 refine aB rfl (aG rfl) rfl rfl ?_
 refine aH ?_
 refine aI ?_
 refine wp_seq ?_
 refine aK [0, 1, 2] rfl ?_
 refine aA ?_
 refine aB rfl (aD rfl) rfl rfl ?_
 refine aA ?_
 obtain ⟨F14, hs15, hF16, hfr17⟩ := St.frame (l0 := [aY gc 157 A bs.length cb]) (l := [hB g_0_3 31 #[.int .i64 (0), .int .i64 (0), .int .i64 (0), .int .i64 (0), .string (⟨#[]⟩), .slice none 0 0, .int .i64 (0), .int .i64 (0), .int .i64 (0), .int .i64 (0), .int .i64 (0), .int .i64 (0)]]) H9
 refine aN rfl Try.call42 (vs := #[.pointer (some ⟨gc, 0, none⟩)]) rfl rfl rfl (channels_s _ _ _ _ _ _ (CV.step hV H9.1 hF16) hn hs15) ?_
 rintro e20 W19 ⟨B10, X11, c12, rfl, hX13, Hn18⟩; refine ⟨_, rfl, ?_⟩
 have H21 : St w No [hR aC 94 (.slice B10 X11.length c12) X11, aY gc 157 A bs.length cb, hB g_0_3 31 #[.int .i64 (0), .int .i64 (0), .int .i64 (0), .int .i64 (0), .string (⟨#[]⟩), .slice none 0 0, .int .i64 (0), .int .i64 (0), .int .i64 (0), .int .i64 (0), .int .i64 (0), .int .i64 (0)]] W19 := hfr17 (_ :: [_]) _ Hn18; clear H9
 refine aA ?_
 refine aB rfl (aG rfl) rfl rfl ?_
 refine aH ?_
 refine aI ?_
 refine wp_seq ?_
 refine wp_seq ?_
 refine aK [0, 1, 2, 3, 4, 5, 6] rfl ?_
 refine aA ?_
 refine aB rfl (aD rfl) rfl rfl ?_
 refine aA ?_
 have H23 : St w No [aY gc 157 A bs.length cb, hR aC 94 (.slice B10 X11.length c12) X11, hB g_0_3 31 #[.int .i64 (0), .int .i64 (0), .int .i64 (0), .int .i64 (0), .string (⟨#[]⟩), .slice none 0 0, .int .i64 (0), .int .i64 (0), .int .i64 (0), .int .i64 (0), .int .i64 (0), .int .i64 (0)]] W19 := H21.pick [1, 0, 2] kD rfl; clear H21
 obtain ⟨F24, hs25, hF26, hfr27⟩ := St.frame (l0 := [aY gc 157 A bs.length cb]) (l := [hR aC 94 (.slice B10 X11.length c12) X11, hB g_0_3 31 #[.int .i64 (0), .int .i64 (0), .int .i64 (0), .int .i64 (0), .string (⟨#[]⟩), .slice none 0 0, .int .i64 (0), .int .i64 (0), .int .i64 (0), .int .i64 (0), .int .i64 (0), .int .i64 (0)]]) H23
 refine aN rfl Try.call43 (vs := #[.pointer (some ⟨gc, 0, none⟩), .int .i64 (10)]) rfl rfl rfl (once_s 10 _ _ _ _ _ _ (CV.step hV H23.1 hF26) hn hs25) ?_
 rintro e30 W29 ⟨b22, rfl, Hn28⟩; refine ⟨_, rfl, ?_⟩
 have H31 := hfr27 _ _ Hn28; clear H23
 by_cases hg32 : b22 = true
 ·refine aA ?_
  refine aB rfl (fG (b := b22) hg32 (aD rfl)) rfl rfl ?_
  refine aA ?_
  refine aU rfl rfl rfl rfl (fun _ ho33 => ?_)
  refine aB ho33 (aD rfl) rfl rfl ?_
  refine aA ?_
  refine aU rfl rfl rfl rfl (fun _ ho34 => ?_)
  refine aB ho34 (bT Try.runUnderlying24 rfl) rfl rfl ?_
  by_cases hg35 : (0 : Int) < (X11.length : Nat)
  ·refine aA ?_
   refine aU rfl rfl rfl rfl (fun _ ho36 => ?_)
   refine aB ho36 (bG hg35 (rn_gtr rfl rfl)) rfl rfl ?_
   refine aA ?_
   refine aB rfl (aP (v := .bool (true)) (b := true) rfl rfl rfl rfl) rfl rfl ?_
   refine aH ?_
   refine aI ?_
   refine dO rfl ?_
   refine wp_block ?_
   have hlt0 : 0 < X11.length := by omega
   obtain ⟨f, t, ml, hx⟩ : ∃ f t ml, X11[0] = (⟨f, t, ml⟩ : GChannel) := ⟨_, _, _, rfl⟩
   have hml : bJ aQ ml ≤ 2000 := by have h1 := fJ aL X11 0 hlt0; rw [hx, show aL (⟨f, t, ml⟩ : GChannel) = bJ aQ ml from rfl] at h1; have h2 := hX13; unfold bJ at h2; unfold bJ at h1 ⊢; omega
   have H37 : St w No [hR aC 94 (.slice B10 X11.length c12) X11, aY gc 157 A bs.length cb, hB g_0_3 31 #[.int .i64 (0), .int .i64 (0), .int .i64 (0), .int .i64 (0), .string (⟨#[]⟩), .slice none 0 0, .int .i64 (0), .int .i64 (0), .int .i64 (0), .int .i64 (0), .int .i64 (0), .int .i64 (0)]] W29 := H31.pick [1, 0, 2] kD rfl; clear H31
   obtain ⟨gf38, rfl⟩ := H37.openS (q := 0) hlt0
   obtain ⟨ce39, hn40, H41⟩ := H37.openG (q := 0) hlt0; clear H37
   rw [hx] at H41
   have H42 : St w No [hE aC 94 gf38 c12 0 ce39 X11, hM aC (⟨f, t, ml⟩ : GChannel) ce39, aY gc 157 A bs.length cb, hB g_0_3 31 #[.int .i64 (0), .int .i64 (0), .int .i64 (0), .int .i64 (0), .string (⟨#[]⟩), .slice none 0 0, .int .i64 (0), .int .i64 (0), .int .i64 (0), .int .i64 (0), .int .i64 (0), .int .i64 (0)]] W29 := H41; clear H41
   have H49 : St w No [hM aC (⟨f, t, ml⟩ : GChannel) ce39, hE aC 94 gf38 c12 0 ce39 X11, aY gc 157 A bs.length cb, hB g_0_3 31 #[.int .i64 (0), .int .i64 (0), .int .i64 (0), .int .i64 (0), .string (⟨#[]⟩), .slice none 0 0, .int .i64 (0), .int .i64 (0), .int .i64 (0), .int .i64 (0), .int .i64 (0), .int .i64 (0)]] W29 := H42.pick [1, 0, 2, 3] kD rfl; clear H42
   obtain ⟨F43, hM44, hb45⟩ := H49.unM
   obtain ⟨B47, c48, rfl, hst46⟩ := bX hM44
   have H50 : St w No [hR aF 31 (.slice B47 ((⟨f, t, ml⟩ : GChannel).List.length) c48) ((⟨f, t, ml⟩ : GChannel).List), hE aC 94 gf38 c12 0 [.int .i64 ((⟨f, t, ml⟩ : GChannel).From), .int .i64 ((⟨f, t, ml⟩ : GChannel).To), .slice B47 ((⟨f, t, ml⟩ : GChannel).List.length) c48] X11, aY gc 157 A bs.length cb, hB g_0_3 31 #[.int .i64 (0), .int .i64 (0), .int .i64 (0), .int .i64 (0), .string (⟨#[]⟩), .slice none 0 0, .int .i64 (0), .int .i64 (0), .int .i64 (0), .int .i64 (0), .int .i64 (0), .int .i64 (0)]] W29 := hb45 _ hst46; clear H49
   refine wp_loop_ghost (fun r a' W' => ∃ (L : List GMessage) (AL : Option Addr) (cL : Nat) (x' : Nat → Value), a' = aO 48 x' [(5, .pointer (some ⟨g_0_3, 0, none⟩)), (6, .pointer (some ⟨gc, 0, none⟩)), (7, .slice (some ⟨gf38, 0, none⟩) X11.length c12)] ∧ (200 ≤ L.length + r) ∧ (bJ aQ L + 20 * r ≤ 10000) ∧ St w No [hR aF 31 (.slice AL L.length cL) L, hE aC 94 gf38 c12 0 [.int .i64 ((⟨f, t, ml⟩ : GChannel).From), .int .i64 ((⟨f, t, ml⟩ : GChannel).To), .slice AL L.length cL] X11, aY gc 157 A bs.length cb, hB g_0_3 31 #[.int .i64 (0), .int .i64 (0), .int .i64 (0), .int .i64 (0), .string (⟨#[]⟩), .slice none 0 0, .int .i64 (0), .int .i64 (0), .int .i64 (0), .int .i64 (0), .int .i64 (0), .int .i64 (0)]] W') 200 ?_ ?_
   ·exact (aW [(5, .pointer (some ⟨g_0_3, 0, none⟩)), (6, .pointer (some ⟨gc, 0, none⟩)), (7, .slice (some ⟨gf38, 0, none⟩) X11.length c12)] rfl).elim fun x' hx => ⟨ml, B47, c48, x', hx, kO, kO, H50⟩
   ·rintro r51 _ W52 ⟨L, AL, cL, x53, rfl, hL, hL2, H54⟩; clear H50
    refine wp_seq ?_
    refine wp_seq ?_
    refine aK [0, 1, 2, 3, 4, 5] rfl ?_
    refine aA ?_
    refine aB rfl (aD rfl) rfl rfl ?_
    refine aA ?_
    refine aB rfl (bB (k := 0) Try.runUnderlying24 Try.sizeOf94 rfl rfl rfl (Nat.lt_of_lt_of_eq hlt0 hn40.symm)) rfl rfl ?_
    refine aA ?_
    refine aB rfl (aS bY rfl) rfl rfl ?_
    refine aA ?_
    refine aB rfl (dX (v := .slice AL L.length cL) Try.isAgg37 rfl (H54.catE 1 rfl) rfl) rfl rfl ?_
    refine aA ?_
    refine aB rfl (bT Try.runUnderlying37 rfl) rfl rfl ?_
    refine aA ?_
    refine aB rfl (dD rfl rfl) rfl rfl ?_
    refine aH ?_
    refine aI ?_
    refine bL rfl (fun hc55 => ?_) (fun hc55 => ?_)
    ·refine wp_skip ?_
     refine aI ?_
     refine wp_block ?_
     refine aK [0, 1, 2, 3, 4, 5, 6, 7, 8, 9, 10] rfl ?_
     refine aA ?_
     refine aB rfl (aD rfl) rfl rfl ?_
     refine aA ?_
     refine aB rfl (aD rfl) rfl rfl ?_
     refine aA ?_
     refine aB rfl (bB (k := 0) Try.runUnderlying24 Try.sizeOf94 rfl rfl rfl (Nat.lt_of_lt_of_eq hlt0 hn40.symm)) rfl rfl ?_
     refine aA ?_
     refine aB rfl (aS bY rfl) rfl rfl ?_
     refine aA ?_
     refine aB rfl (dX (v := .slice AL L.length cL) Try.isAgg37 rfl (H54.catE 1 rfl) rfl) rfl rfl ?_
     refine aA ?_
     refine aB rfl (cK (vs := [(0, .int .i64 (5)), (3, .int .i64 (1))]) (cells := #[.int .i64 (5), .int .i64 (0), .int .i64 (0), .int .i64 (1), .string (⟨#[]⟩), .slice none 0 0, .int .i64 (0), .int .i64 (0), .int .i64 (0), .int .i64 (0), .int .i64 (0), .int .i64 (0)]) rfl kR) rfl rfl ?_
     refine aA ?_
     refine fA rfl Try.runUnderlying37 Try.sizeOf31 kD Try.zeroValue31 rfl rfl rfl rfl H54 ?_
     intro g_5_6 W56 hu57 Ha58; clear H54; clear hu57
     refine aA ?_
     have H62 : St w No [hR aR 27 (.slice none 0 0) ([]), hB g_5_6 31 #[.int .i64 (5), .int .i64 (0), .int .i64 (0), .int .i64 (1), .string (⟨#[]⟩), .slice none 0 0, .int .i64 (0), .int .i64 (0), .int .i64 (0), .int .i64 (0), .int .i64 (0), .int .i64 (0)], hR aF 31 (.slice AL L.length cL) L, hE aC 94 gf38 c12 0 [.int .i64 ((⟨f, t, ml⟩ : GChannel).From), .int .i64 ((⟨f, t, ml⟩ : GChannel).To), .slice AL L.length cL] X11, aY gc 157 A bs.length cb, hB g_0_3 31 #[.int .i64 (0), .int .i64 (0), .int .i64 (0), .int .i64 (0), .string (⟨#[]⟩), .slice none 0 0, .int .i64 (0), .int .i64 (0), .int .i64 (0), .int .i64 (0), .int .i64 (0), .int .i64 (0)]] W56 := Ha58.add0 (q := hR aR 27 (.slice none 0 0) []) R_nil; clear Ha58
     have H63 : St w No [hM aF (⟨5, 0, 0, 1, ⟨#[]⟩, [], (⟨0, 0⟩ : GWire), 0, (⟨0, 0, 0⟩ : GTag)⟩ : GMessage) [.int .i64 (5), .int .i64 (0), .int .i64 (0), .int .i64 (1), .string (⟨#[]⟩), .slice none 0 0, .int .i64 (0), .int .i64 (0), .int .i64 (0), .int .i64 (0), .int .i64 (0), .int .i64 (0)], hB g_5_6 31 #[.int .i64 (5), .int .i64 (0), .int .i64 (0), .int .i64 (1), .string (⟨#[]⟩), .slice none 0 0, .int .i64 (0), .int .i64 (0), .int .i64 (0), .int .i64 (0), .int .i64 (0), .int .i64 (0)], hR aF 31 (.slice AL L.length cL) L, hE aC 94 gf38 c12 0 [.int .i64 ((⟨f, t, ml⟩ : GChannel).From), .int .i64 ((⟨f, t, ml⟩ : GChannel).To), .slice AL L.length cL] X11, aY gc 157 A bs.length cb, hB g_0_3 31 #[.int .i64 (0), .int .i64 (0), .int .i64 (0), .int .i64 (0), .string (⟨#[]⟩), .slice none 0 0, .int .i64 (0), .int .i64 (0), .int .i64 (0), .int .i64 (0), .int .i64 (0), .int .i64 (0)]] W56 := H62.swap (l0 := [hR aR 27 (.slice none 0 0) ([])]) (l' := [hM aF (⟨5, 0, 0, 1, ⟨#[]⟩, [], (⟨0, 0⟩ : GWire), 0, (⟨0, 0, 0⟩ : GTag)⟩ : GMessage) [.int .i64 (5), .int .i64 (0), .int .i64 (0), .int .i64 (1), .string (⟨#[]⟩), .slice none 0 0, .int .i64 (0), .int .i64 (0), .int .i64 (0), .int .i64 (0), .int .i64 (0), .int .i64 (0)]]) (fun _ h => Star.one (bN (x := (⟨5, 0, 0, 1, ⟨#[]⟩, [], (⟨0, 0⟩ : GWire), 0, (⟨0, 0, 0⟩ : GTag)⟩ : GMessage)) h)); clear H62
     have H64 : St w No [hR aF 31 (.slice AL L.length cL) L, hB g_5_6 31 #[.int .i64 (5), .int .i64 (0), .int .i64 (0), .int .i64 (1), .string (⟨#[]⟩), .slice none 0 0, .int .i64 (0), .int .i64 (0), .int .i64 (0), .int .i64 (0), .int .i64 (0), .int .i64 (0)], hM aF (⟨5, 0, 0, 1, ⟨#[]⟩, [], (⟨0, 0⟩ : GWire), 0, (⟨0, 0, 0⟩ : GTag)⟩ : GMessage) [.int .i64 (5), .int .i64 (0), .int .i64 (0), .int .i64 (1), .string (⟨#[]⟩), .slice none 0 0, .int .i64 (0), .int .i64 (0), .int .i64 (0), .int .i64 (0), .int .i64 (0), .int .i64 (0)], hE aC 94 gf38 c12 0 [.int .i64 ((⟨f, t, ml⟩ : GChannel).From), .int .i64 ((⟨f, t, ml⟩ : GChannel).To), .slice AL L.length cL] X11, aY gc 157 A bs.length cb, hB g_0_3 31 #[.int .i64 (0), .int .i64 (0), .int .i64 (0), .int .i64 (0), .string (⟨#[]⟩), .slice none 0 0, .int .i64 (0), .int .i64 (0), .int .i64 (0), .int .i64 (0), .int .i64 (0), .int .i64 (0)]] W56 := H63.pick [2, 1, 0, 3, 4, 5] kD rfl; clear H63
     refine fH (xs := L) (p := (⟨5, 0, 0, 1, ⟨#[]⟩, [], (⟨0, 0⟩ : GWire), 0, (⟨0, 0, 0⟩ : GTag)⟩ : GMessage)) (n' := (L ++ [(⟨5, 0, 0, 1, ⟨#[]⟩, [], (⟨0, 0⟩ : GWire), 0, (⟨0, 0, 0⟩ : GTag)⟩ : GMessage)]).length) (ys := (L ++ [(⟨5, 0, 0, 1, ⟨#[]⟩, [], (⟨0, 0⟩ : GWire), 0, (⟨0, 0, 0⟩ : GTag)⟩ : GMessage)])) rfl Try.underlying37 dH rfl kD kD rfl rfl (by show (L.length + 1) * _ ≤ _; omega) (by rw [List.length_append]; rfl) rfl rfl rfl H64 ?_
     intro B_5_7 c_5_7 W60 Ha61; clear H64
     refine aA ?_
     refine aB rfl (bB (k := 0) Try.runUnderlying24 Try.sizeOf94 rfl rfl rfl (Nat.lt_of_lt_of_eq hlt0 hn40.symm)) rfl rfl ?_
     refine aA ?_
     refine aB rfl (aS bY rfl) rfl rfl ?_
     refine aA ?_
     have H69 : St w No [hE aC 94 gf38 c12 0 [.int .i64 ((⟨f, t, ml⟩ : GChannel).From), .int .i64 ((⟨f, t, ml⟩ : GChannel).To), .slice AL L.length cL] X11, hR aF 31 (.slice B_5_7 ((L ++ [(⟨5, 0, 0, 1, ⟨#[]⟩, [], (⟨0, 0⟩ : GWire), 0, (⟨0, 0, 0⟩ : GTag)⟩ : GMessage)]).length) c_5_7) (L ++ [(⟨5, 0, 0, 1, ⟨#[]⟩, [], (⟨0, 0⟩ : GWire), 0, (⟨0, 0, 0⟩ : GTag)⟩ : GMessage)]), aY gc 157 A bs.length cb, hB g_0_3 31 #[.int .i64 (0), .int .i64 (0), .int .i64 (0), .int .i64 (0), .string (⟨#[]⟩), .slice none 0 0, .int .i64 (0), .int .i64 (0), .int .i64 (0), .int .i64 (0), .int .i64 (0), .int .i64 (0)]] W60 := Ha61.pick [1, 0, 2, 3] kD rfl; clear Ha61
     refine fB (dk := aC) (k := 2) (ce' := [.int .i64 ((⟨f, t, ml⟩ : GChannel).From), .int .i64 ((⟨f, t, ml⟩ : GChannel).To), .slice B_5_7 ((L ++ [(⟨5, 0, 0, 1, ⟨#[]⟩, [], (⟨0, 0⟩ : GWire), 0, (⟨0, 0, 0⟩ : GTag)⟩ : GMessage)]).length) c_5_7]) rfl Try.sizeOf37 rfl rfl rfl rfl (Nat.le_of_ble_eq_true rfl) (by simp [Value.cells, Value.oneCell']) rfl H69 ?_
     intro W66 hu67 Ha68; clear H69; clear hu67
     refine aH ?_
     refine dW ?_
     refine aI ?_
     have hz := szn_app L (⟨5, 0, 0, 1, ⟨#[]⟩, [], (⟨0, 0⟩ : GWire), 0, (⟨0, 0, 0⟩ : GTag)⟩ : GMessage)
     have hz2 : aQ (⟨5, 0, 0, 1, ⟨#[]⟩, [], (⟨0, 0⟩ : GWire), 0, (⟨0, 0, 0⟩ : GTag)⟩ : GMessage) = 0 := rfl
     exact (aW [(5, .pointer (some ⟨g_0_3, 0, none⟩)), (6, .pointer (some ⟨gc, 0, none⟩)), (7, .slice (some ⟨gf38, 0, none⟩) X11.length c12)] rfl).elim fun x' hx => ⟨r51 - 1, kO, (L ++ [(⟨5, 0, 0, 1, ⟨#[]⟩, [], (⟨0, 0⟩ : GWire), 0, (⟨0, 0, 0⟩ : GTag)⟩ : GMessage)]), B_5_7, c_5_7, x', hx, (by rw [List.length_append]; show 200 ≤ L.length + 1 + _; omega), kO, Ha68.pick [1, 0, 2, 3] kD rfl⟩
    ·have H71 : St w No [hM aC (⟨f, t, L⟩ : GChannel) [.int .i64 ((⟨f, t, ml⟩ : GChannel).From), .int .i64 ((⟨f, t, ml⟩ : GChannel).To), .slice AL L.length cL], hE aC 94 gf38 c12 0 [.int .i64 ((⟨f, t, ml⟩ : GChannel).From), .int .i64 ((⟨f, t, ml⟩ : GChannel).To), .slice AL L.length cL] X11, aY gc 157 A bs.length cb, hB g_0_3 31 #[.int .i64 (0), .int .i64 (0), .int .i64 (0), .int .i64 (0), .string (⟨#[]⟩), .slice none 0 0, .int .i64 (0), .int .i64 (0), .int .i64 (0), .int .i64 (0), .int .i64 (0), .int .i64 (0)]] W52 := H54.swap (l0 := [hR aF 31 (.slice AL L.length cL) L]) (l' := [hM aC (⟨f, t, L⟩ : GChannel) [.int .i64 ((⟨f, t, ml⟩ : GChannel).From), .int .i64 ((⟨f, t, ml⟩ : GChannel).To), .slice AL L.length cL]]) (fun _ h => Star.one (bD (x := (⟨f, t, L⟩ : GChannel)) h)); clear H54
     have H72 : St w No [hE aC 94 gf38 c12 0 [.int .i64 ((⟨f, t, ml⟩ : GChannel).From), .int .i64 ((⟨f, t, ml⟩ : GChannel).To), .slice AL L.length cL] X11, hM aC (⟨f, t, L⟩ : GChannel) [.int .i64 ((⟨f, t, ml⟩ : GChannel).From), .int .i64 ((⟨f, t, ml⟩ : GChannel).To), .slice AL L.length cL], aY gc 157 A bs.length cb, hB g_0_3 31 #[.int .i64 (0), .int .i64 (0), .int .i64 (0), .int .i64 (0), .string (⟨#[]⟩), .slice none 0 0, .int .i64 (0), .int .i64 (0), .int .i64 (0), .int .i64 (0), .int .i64 (0), .int .i64 (0)]] W52 := H71.pick [1, 0, 2, 3] kD rfl; clear H71
     have H73 : St w No [hR aC 94 (.slice (some ⟨gf38, 0, none⟩) X11.length c12) (X11.set 0 ⟨f, t, L⟩), aY gc 157 A bs.length cb, hB g_0_3 31 #[.int .i64 (0), .int .i64 (0), .int .i64 (0), .int .i64 (0), .string (⟨#[]⟩), .slice none 0 0, .int .i64 (0), .int .i64 (0), .int .i64 (0), .int .i64 (0), .int .i64 (0), .int .i64 (0)]] W52 := H72.fC rfl (List.length_set ..).symm; clear H72
     refine wp_exit ?_
     refine bR ?_
     refine bR ?_
     refine inB_x ?_
     refine aI ?_
     refine wp_seq ?_
     refine aK [0, 1, 2, 3] rfl ?_
     refine aA ?_
     refine aB rfl (aD rfl) rfl rfl ?_
     refine aA ?_
     have H76 : St w No [aY gc 157 A bs.length cb, hR aC 94 (.slice (some ⟨gf38, 0, none⟩) X11.length c12) (X11.set 0 ⟨f, t, L⟩), hB g_0_3 31 #[.int .i64 (0), .int .i64 (0), .int .i64 (0), .int .i64 (0), .string (⟨#[]⟩), .slice none 0 0, .int .i64 (0), .int .i64 (0), .int .i64 (0), .int .i64 (0), .int .i64 (0), .int .i64 (0)]] W52 := H73.pick [1, 0, 2] kD rfl; clear H73
     obtain ⟨F77, hs78, hF79, hfr80⟩ := St.frame (l0 := [aY gc 157 A bs.length cb]) (l := [hR aC 94 (.slice (some ⟨gf38, 0, none⟩) X11.length c12) (X11.set 0 ⟨f, t, L⟩), hB g_0_3 31 #[.int .i64 (0), .int .i64 (0), .int .i64 (0), .int .i64 (0), .string (⟨#[]⟩), .slice none 0 0, .int .i64 (0), .int .i64 (0), .int .i64 (0), .int .i64 (0), .int .i64 (0), .int .i64 (0)]]) H76
     refine aN rfl Try.call44 (vs := #[.pointer (some ⟨gc, 0, none⟩), .int .i64 (4)]) rfl rfl rfl (bP 4 _ _ _ _ _ _ (CV.step hV H76.1 hF79) hn hs78) ?_
     rintro e83 W82 ⟨q74, rfl, hq75, Hn81⟩; refine ⟨_, rfl, ?_⟩
     have H84 := hfr80 _ _ Hn81; clear H76
     refine aA ?_
     refine aB rfl (dF rfl rfl kO) rfl rfl ?_
     refine aA ?_
     refine aB rfl (aG rfl) rfl rfl ?_
     refine aH ?_
     refine aI ?_
     refine wp_seq ?_
     refine aK [0, 1, 2, 3] rfl ?_
     refine aA ?_
     refine aB rfl (aD rfl) rfl rfl ?_
     refine aA ?_
     obtain ⟨F87, hs88, hF89, hfr90⟩ := St.frame (l0 := [aY gc 157 A bs.length cb]) (l := [hR aC 94 (.slice (some ⟨gf38, 0, none⟩) X11.length c12) (X11.set 0 ⟨f, t, L⟩), hB g_0_3 31 #[.int .i64 (0), .int .i64 (0), .int .i64 (0), .int .i64 (0), .string (⟨#[]⟩), .slice none 0 0, .int .i64 (0), .int .i64 (0), .int .i64 (0), .int .i64 (0), .int .i64 (0), .int .i64 (0)]]) H84
     refine aN rfl Try.call44 (vs := #[.pointer (some ⟨gc, 0, none⟩), .int .i64 (4)]) rfl rfl rfl (bP 4 _ _ _ _ _ _ (CV.step hV H84.1 hF89) hn hs88) ?_
     rintro e93 W92 ⟨q85, rfl, hq86, Hn91⟩; refine ⟨_, rfl, ?_⟩
     have H94 := hfr90 _ _ Hn91; clear H84
     refine aA ?_
     refine aB rfl (dF rfl rfl kO) rfl rfl ?_
     refine aA ?_
     refine aB rfl (aG rfl) rfl rfl ?_
     refine aH ?_
     refine aI ?_
     refine wp_seq ?_
     refine aK [0, 1, 2, 3, 4, 5, 6, 7, 8] rfl ?_
     refine aA ?_
     refine aB rfl (aD rfl) rfl rfl ?_
     refine aA ?_
     refine aB rfl (aD rfl) rfl rfl ?_
     refine aA ?_
     refine aB rfl (aD rfl) rfl rfl ?_
     refine aA ?_
     refine aB rfl (aD rfl) rfl rfl ?_
     refine aA ?_
     obtain ⟨F98, hs99, hF100, hfr101⟩ := St.frame (l0 := [aY gc 157 A bs.length cb]) (l := [hR aC 94 (.slice (some ⟨gf38, 0, none⟩) X11.length c12) (X11.set 0 ⟨f, t, L⟩), hB g_0_3 31 #[.int .i64 (0), .int .i64 (0), .int .i64 (0), .int .i64 (0), .string (⟨#[]⟩), .slice none 0 0, .int .i64 (0), .int .i64 (0), .int .i64 (0), .int .i64 (0), .int .i64 (0), .int .i64 (0)]]) H94
     refine aN rfl Try.call45 (vs := #[.pointer (some ⟨gc, 0, none⟩)]) rfl rfl rfl (message_s _ _ _ _ _ _ (CV.step hV H94.1 hF100) hn hs99) ?_
     rintro e104 W103 ⟨m95, cs96, rfl, hm97, Hn102⟩; refine ⟨_, rfl, ?_⟩
     have H105 : St w No [hM aF m95 cs96, aY gc 157 A bs.length cb, hR aC 94 (.slice (some ⟨gf38, 0, none⟩) X11.length c12) (X11.set 0 ⟨f, t, L⟩), hB g_0_3 31 #[.int .i64 (0), .int .i64 (0), .int .i64 (0), .int .i64 (0), .string (⟨#[]⟩), .slice none 0 0, .int .i64 (0), .int .i64 (0), .int .i64 (0), .int .i64 (0), .int .i64 (0), .int .i64 (0)]] W103 := hfr101 (_ :: [_]) _ Hn102; clear H94
     refine aA ?_
     refine aB rfl (aG rfl) rfl rfl ?_
     refine aA ?_
     refine aB rfl (aG rfl) rfl rfl ?_
     refine aA ?_
     refine aB rfl (aG rfl) rfl rfl ?_
     refine aA ?_
     have H109 : St w No [hB g_0_3 31 #[.int .i64 (0), .int .i64 (0), .int .i64 (0), .int .i64 (0), .string (⟨#[]⟩), .slice none 0 0, .int .i64 (0), .int .i64 (0), .int .i64 (0), .int .i64 (0), .int .i64 (0), .int .i64 (0)], hM aF m95 cs96, aY gc 157 A bs.length cb, hR aC 94 (.slice (some ⟨gf38, 0, none⟩) X11.length c12) (X11.set 0 ⟨f, t, L⟩)] W103 := H105.pick [3, 0, 1, 2] kD rfl; clear H105
     refine bE rfl Try.sizeOf31 rfl rfl (aX (H109.kn 1 rfl)) rfl (bS (H109.kn 1 rfl)) H109 ?_
     intro W106 hu107 Ha108; clear H109; clear hu107
     refine aH ?_
     refine aI ?_
     refine wp_ret ?_
     refine post_3c (.inl rfl) Try.results7 Try.isAgg31 Try.sizeOf31 rfl rfl rfl rfl (Ha108.blk 0 rfl) (aX (Ha108.kn 1 rfl)) ?_
     refine ⟨_, _, (X11.set 0 ⟨f, t, L⟩), _, _, m95, _, by rw [List.length_set], ⟨set_bd _ _ hX13 (show aL (⟨f, t, L⟩ : GChannel) ≤ 10000 from (show bJ aQ L ≤ 10000 by omega)) 0, hm97⟩, ?_, Ha108.1⟩
     rw [List.length_set]
     exact (Ha108.pick [3, 1] kD rfl).star
  ·refine aA ?_
   refine aU rfl rfl rfl rfl (fun _ ho111 => ?_)
   refine aB ho111 (bH hg35 (rn_gtr rfl rfl)) rfl rfl ?_
   refine aA ?_
   refine aB rfl (aP (v := .bool (false)) (b := true) rfl rfl rfl rfl) rfl rfl ?_
   refine aH ?_
   refine aI ?_
   refine dA rfl ?_
   refine wp_skip ?_
   refine aI ?_
   refine wp_seq ?_
   refine aK [0, 1, 2, 3] rfl ?_
   refine aA ?_
   refine aB rfl (aD rfl) rfl rfl ?_
   refine aA ?_
   obtain ⟨F114, hs115, hF116, hfr117⟩ := St.frame (l0 := [aY gc 157 A bs.length cb]) (l := [hR aC 94 (.slice B10 X11.length c12) X11, hB g_0_3 31 #[.int .i64 (0), .int .i64 (0), .int .i64 (0), .int .i64 (0), .string (⟨#[]⟩), .slice none 0 0, .int .i64 (0), .int .i64 (0), .int .i64 (0), .int .i64 (0), .int .i64 (0), .int .i64 (0)]]) H31
   refine aN rfl Try.call44 (vs := #[.pointer (some ⟨gc, 0, none⟩), .int .i64 (4)]) rfl rfl rfl (bP 4 _ _ _ _ _ _ (CV.step hV H31.1 hF116) hn hs115) ?_
   rintro e120 W119 ⟨q112, rfl, hq113, Hn118⟩; refine ⟨_, rfl, ?_⟩
   have H121 := hfr117 _ _ Hn118; clear H31
   refine aA ?_
   refine aB rfl (dF rfl rfl kO) rfl rfl ?_
   refine aA ?_
   refine aB rfl (aG rfl) rfl rfl ?_
   refine aH ?_
   refine aI ?_
   refine wp_seq ?_
   refine aK [0, 1, 2, 3] rfl ?_
   refine aA ?_
   refine aB rfl (aD rfl) rfl rfl ?_
   refine aA ?_
   obtain ⟨F124, hs125, hF126, hfr127⟩ := St.frame (l0 := [aY gc 157 A bs.length cb]) (l := [hR aC 94 (.slice B10 X11.length c12) X11, hB g_0_3 31 #[.int .i64 (0), .int .i64 (0), .int .i64 (0), .int .i64 (0), .string (⟨#[]⟩), .slice none 0 0, .int .i64 (0), .int .i64 (0), .int .i64 (0), .int .i64 (0), .int .i64 (0), .int .i64 (0)]]) H121
   refine aN rfl Try.call44 (vs := #[.pointer (some ⟨gc, 0, none⟩), .int .i64 (4)]) rfl rfl rfl (bP 4 _ _ _ _ _ _ (CV.step hV H121.1 hF126) hn hs125) ?_
   rintro e130 W129 ⟨q122, rfl, hq123, Hn128⟩; refine ⟨_, rfl, ?_⟩
   have H131 := hfr127 _ _ Hn128; clear H121
   refine aA ?_
   refine aB rfl (dF rfl rfl kO) rfl rfl ?_
   refine aA ?_
   refine aB rfl (aG rfl) rfl rfl ?_
   refine aH ?_
   refine aI ?_
   refine wp_seq ?_
   refine aK [0, 1, 2, 3, 4, 5, 6, 7, 8] rfl ?_
   refine aA ?_
   refine aB rfl (aD rfl) rfl rfl ?_
   refine aA ?_
   refine aB rfl (aD rfl) rfl rfl ?_
   refine aA ?_
   refine aB rfl (aD rfl) rfl rfl ?_
   refine aA ?_
   refine aB rfl (aD rfl) rfl rfl ?_
   refine aA ?_
   obtain ⟨F135, hs136, hF137, hfr138⟩ := St.frame (l0 := [aY gc 157 A bs.length cb]) (l := [hR aC 94 (.slice B10 X11.length c12) X11, hB g_0_3 31 #[.int .i64 (0), .int .i64 (0), .int .i64 (0), .int .i64 (0), .string (⟨#[]⟩), .slice none 0 0, .int .i64 (0), .int .i64 (0), .int .i64 (0), .int .i64 (0), .int .i64 (0), .int .i64 (0)]]) H131
   refine aN rfl Try.call45 (vs := #[.pointer (some ⟨gc, 0, none⟩)]) rfl rfl rfl (message_s _ _ _ _ _ _ (CV.step hV H131.1 hF137) hn hs136) ?_
   rintro e141 W140 ⟨m132, cs133, rfl, hm134, Hn139⟩; refine ⟨_, rfl, ?_⟩
   have H142 : St w No [hM aF m132 cs133, aY gc 157 A bs.length cb, hR aC 94 (.slice B10 X11.length c12) X11, hB g_0_3 31 #[.int .i64 (0), .int .i64 (0), .int .i64 (0), .int .i64 (0), .string (⟨#[]⟩), .slice none 0 0, .int .i64 (0), .int .i64 (0), .int .i64 (0), .int .i64 (0), .int .i64 (0), .int .i64 (0)]] W140 := hfr138 (_ :: [_]) _ Hn139; clear H131
   refine aA ?_
   refine aB rfl (aG rfl) rfl rfl ?_
   refine aA ?_
   refine aB rfl (aG rfl) rfl rfl ?_
   refine aA ?_
   refine aB rfl (aG rfl) rfl rfl ?_
   refine aA ?_
   have H146 : St w No [hB g_0_3 31 #[.int .i64 (0), .int .i64 (0), .int .i64 (0), .int .i64 (0), .string (⟨#[]⟩), .slice none 0 0, .int .i64 (0), .int .i64 (0), .int .i64 (0), .int .i64 (0), .int .i64 (0), .int .i64 (0)], hM aF m132 cs133, aY gc 157 A bs.length cb, hR aC 94 (.slice B10 X11.length c12) X11] W140 := H142.pick [3, 0, 1, 2] kD rfl; clear H142
   refine bE rfl Try.sizeOf31 rfl rfl (aX (H146.kn 1 rfl)) rfl (bS (H146.kn 1 rfl)) H146 ?_
   intro W143 hu144 Ha145; clear H146; clear hu144
   refine aH ?_
   refine aI ?_
   refine wp_ret ?_
   refine post_3c (.inl rfl) Try.results7 Try.isAgg31 Try.sizeOf31 rfl rfl rfl rfl (Ha145.blk 0 rfl) (aX (Ha145.kn 1 rfl)) ?_
   exact ⟨_, _, X11, _, _, m132, _, rfl, ⟨by omega, hm134⟩, (Ha145.pick [3, 1] kD rfl).star, Ha145.1⟩
 ·refine aA ?_
  refine aB rfl (fG (b := b22) (eq_false_of_ne_true hg32) (aD rfl)) rfl rfl ?_
  refine aA ?_
  refine aJ rfl rfl rfl rfl rfl rfl rfl ?_
  refine aA ?_
  refine aJ rfl rfl rfl rfl rfl rfl rfl ?_
  refine aA ?_
  refine aJ rfl rfl rfl rfl rfl rfl rfl ?_
  refine aA ?_
  refine aB rfl (aP (v := .bool (false)) (b := false) rfl rfl rfl rfl) rfl rfl ?_
  refine aH ?_
  refine aI ?_
  refine dA rfl ?_
  refine wp_skip ?_
  refine aI ?_
  refine wp_seq ?_
  refine aK [0, 1, 2, 3] rfl ?_
  refine aA ?_
  refine aB rfl (aD rfl) rfl rfl ?_
  refine aA ?_
  obtain ⟨F150, hs151, hF152, hfr153⟩ := St.frame (l0 := [aY gc 157 A bs.length cb]) (l := [hR aC 94 (.slice B10 X11.length c12) X11, hB g_0_3 31 #[.int .i64 (0), .int .i64 (0), .int .i64 (0), .int .i64 (0), .string (⟨#[]⟩), .slice none 0 0, .int .i64 (0), .int .i64 (0), .int .i64 (0), .int .i64 (0), .int .i64 (0), .int .i64 (0)]]) H31
  refine aN rfl Try.call44 (vs := #[.pointer (some ⟨gc, 0, none⟩), .int .i64 (4)]) rfl rfl rfl (bP 4 _ _ _ _ _ _ (CV.step hV H31.1 hF152) hn hs151) ?_
  rintro e156 W155 ⟨q148, rfl, hq149, Hn154⟩; refine ⟨_, rfl, ?_⟩
  have H157 := hfr153 _ _ Hn154; clear H31
  refine aA ?_
  refine aB rfl (dF rfl rfl kO) rfl rfl ?_
  refine aA ?_
  refine aB rfl (aG rfl) rfl rfl ?_
  refine aH ?_
  refine aI ?_
  refine wp_seq ?_
  refine aK [0, 1, 2, 3] rfl ?_
  refine aA ?_
  refine aB rfl (aD rfl) rfl rfl ?_
  refine aA ?_
  obtain ⟨F160, hs161, hF162, hfr163⟩ := St.frame (l0 := [aY gc 157 A bs.length cb]) (l := [hR aC 94 (.slice B10 X11.length c12) X11, hB g_0_3 31 #[.int .i64 (0), .int .i64 (0), .int .i64 (0), .int .i64 (0), .string (⟨#[]⟩), .slice none 0 0, .int .i64 (0), .int .i64 (0), .int .i64 (0), .int .i64 (0), .int .i64 (0), .int .i64 (0)]]) H157
  refine aN rfl Try.call44 (vs := #[.pointer (some ⟨gc, 0, none⟩), .int .i64 (4)]) rfl rfl rfl (bP 4 _ _ _ _ _ _ (CV.step hV H157.1 hF162) hn hs161) ?_
  rintro e166 W165 ⟨q158, rfl, hq159, Hn164⟩; refine ⟨_, rfl, ?_⟩
  have H167 := hfr163 _ _ Hn164; clear H157
  refine aA ?_
  refine aB rfl (dF rfl rfl kO) rfl rfl ?_
  refine aA ?_
  refine aB rfl (aG rfl) rfl rfl ?_
  refine aH ?_
  refine aI ?_
  refine wp_seq ?_
  refine aK [0, 1, 2, 3, 4, 5, 6, 7, 8] rfl ?_
  refine aA ?_
  refine aB rfl (aD rfl) rfl rfl ?_
  refine aA ?_
  refine aB rfl (aD rfl) rfl rfl ?_
  refine aA ?_
  refine aB rfl (aD rfl) rfl rfl ?_
  refine aA ?_
  refine aB rfl (aD rfl) rfl rfl ?_
  refine aA ?_
  obtain ⟨F171, hs172, hF173, hfr174⟩ := St.frame (l0 := [aY gc 157 A bs.length cb]) (l := [hR aC 94 (.slice B10 X11.length c12) X11, hB g_0_3 31 #[.int .i64 (0), .int .i64 (0), .int .i64 (0), .int .i64 (0), .string (⟨#[]⟩), .slice none 0 0, .int .i64 (0), .int .i64 (0), .int .i64 (0), .int .i64 (0), .int .i64 (0), .int .i64 (0)]]) H167
  refine aN rfl Try.call45 (vs := #[.pointer (some ⟨gc, 0, none⟩)]) rfl rfl rfl (message_s _ _ _ _ _ _ (CV.step hV H167.1 hF173) hn hs172) ?_
  rintro e177 W176 ⟨m168, cs169, rfl, hm170, Hn175⟩; refine ⟨_, rfl, ?_⟩
  have H178 : St w No [hM aF m168 cs169, aY gc 157 A bs.length cb, hR aC 94 (.slice B10 X11.length c12) X11, hB g_0_3 31 #[.int .i64 (0), .int .i64 (0), .int .i64 (0), .int .i64 (0), .string (⟨#[]⟩), .slice none 0 0, .int .i64 (0), .int .i64 (0), .int .i64 (0), .int .i64 (0), .int .i64 (0), .int .i64 (0)]] W176 := hfr174 (_ :: [_]) _ Hn175; clear H167
  refine aA ?_
  refine aB rfl (aG rfl) rfl rfl ?_
  refine aA ?_
  refine aB rfl (aG rfl) rfl rfl ?_
  refine aA ?_
  refine aB rfl (aG rfl) rfl rfl ?_
  refine aA ?_
  have H182 : St w No [hB g_0_3 31 #[.int .i64 (0), .int .i64 (0), .int .i64 (0), .int .i64 (0), .string (⟨#[]⟩), .slice none 0 0, .int .i64 (0), .int .i64 (0), .int .i64 (0), .int .i64 (0), .int .i64 (0), .int .i64 (0)], hM aF m168 cs169, aY gc 157 A bs.length cb, hR aC 94 (.slice B10 X11.length c12) X11] W176 := H178.pick [3, 0, 1, 2] kD rfl; clear H178
  refine bE rfl Try.sizeOf31 rfl rfl (aX (H182.kn 1 rfl)) rfl (bS (H182.kn 1 rfl)) H182 ?_
  intro W179 hu180 Ha181; clear H182; clear hu180
  refine aH ?_
  refine aI ?_
  refine wp_ret ?_
  refine post_3c (.inl rfl) Try.results7 Try.isAgg31 Try.sizeOf31 rfl rfl rfl rfl (Ha181.blk 0 rfl) (aX (Ha181.kn 1 rfl)) ?_
  exact ⟨_, _, X11, _, _, m168, _, rfl, ⟨by omega, hm170⟩, (Ha181.pick [3, 1] kD rfl).star, Ha181.1⟩
theorem drawAll_s (bs : List Int) (cb : Nat) (A : Option Addr) (w : World) (hC : C Kn.u8 w A bs) (hn : bs.length ≤ 1048576) : Calls Try.prog 16 #[.slice A bs.length cb] w (fun e' w' => ∃ v : Int, e' = .returned (.int .i64 v) ∧ Upd No w w') := by
 refine enter 9 [(0, .slice A bs.length cb)] Try.func16 rfl kR ?_
 intro xj
 have H1 : St w No [] w := St.enter
 have hV : CV A bs No w := CV.of hC
 refine wp_seq ?_
 refine aK [0] rfl ?_
 refine aA ?_
 refine aB rfl (aG rfl) rfl rfl ?_
 refine aH ?_
 refine aI ?_
 refine wp_seq ?_
 refine aK [0, 1, 2] rfl ?_
 refine aA ?_
 refine aB rfl (aD rfl) rfl rfl ?_
 refine aA ?_
 refine aN rfl Try.call41 (vs := #[.slice A bs.length cb]) rfl rfl rfl (new_s bs cb A _ (bQ H1.1 hC) hn) ?_
 rintro e4 W3 ⟨gc, rfl, hq2⟩; refine ⟨_, rfl, ?_⟩
 have H5 := H1.news hq2.1 hq2.star; clear H1
 refine aA ?_
 refine aB rfl (aG rfl) rfl rfl ?_
 refine aH ?_
 refine aI ?_
 refine wp_seq ?_
 refine aK [0, 1, 2, 3] rfl ?_
 refine aA ?_
 refine aB rfl (aD rfl) rfl rfl ?_
 refine aA ?_
 obtain ⟨F8, hs9, hF10, hfr11⟩ := St.frame (l0 := [aY gc 157 A bs.length cb]) (l := []) H5
 refine aN rfl Try.call44 (vs := #[.pointer (some ⟨gc, 0, none⟩), .int .i64 (7)]) rfl rfl rfl (bP 7 _ _ _ _ _ _ (CV.step hV H5.1 hF10) hn hs9) ?_
 rintro e14 W13 ⟨q6, rfl, hq7, Hn12⟩; refine ⟨_, rfl, ?_⟩
 have H15 := hfr11 _ _ Hn12; clear H5
 refine aA ?_
 refine aB rfl (rn_sub rfl rfl kO) rfl rfl ?_
 refine aA ?_
 refine aB rfl (aG rfl) rfl rfl ?_
 refine aH ?_
 refine aI ?_
 refine wp_ret ?_
 refine aV (.inl rfl) Try.results16 rfl ?_
 exact ⟨_, rfl, H15.1⟩
section
variable {P : Program} {n ty : Nat} {x : Nat → Value} {live : List (Nat × Value)} {W : World} {pos : String} {aft : Array Edge} {y z : Operand}
theorem rn_fld {dst : Option Nat} {st f : Nat} {v v2 : Value} (hx : evl n live y = some v) (hf : ∀ w, (Instr.field st v f).run P w = .ok v2 w) : Rn P ⟨dst, .field st y f, ty, pos, aft, none⟩ (aO n x live) W v2 := by
 unfold Rn
 simp [execOp, aZ hx, hf, Result.andThen]
end
theorem fld_List (p q : Int) (A : Option Addr) (n c : Nat) (w : World) : (Instr.field 94 (.agg #[.int .i64 p, .int .i64 q, .slice A n c]) 2).run Try.prog w = .ok (.slice A n c) w := by
 simp [Instr.field, run_underlying Try.underlying94, asAgg, go_sem]
def mtO (a b : Int) (l : List GChannel) : List GMessage :=
 match l[(fidx (chP a b) 0 l).toNat]? with
 | none => []
 | some x => if fidx (chP a b) 0 l < 0 then [] else x.List
theorem mt_no (a b : Int) (l : List GChannel) (h : fidx (chP a b) 0 l = -1) : mtO a b l = [] := by
 unfold mtO
 rw [h]
 cases l[(-1 : Int).toNat]? <;> rfl
theorem mt_yes (a b : Int) (l : List GChannel) (k : Nat) (hk : k < l.length) (h : fidx (chP a b) 0 l = (k : Int)) : mtO a b l = l[k].List := by
 unfold mtO
 rw [h, Int.toNat_natCast, List.getElem?_eq_getElem hk]
 show (if (k : Int) < 0 then _ else _) = _
 rw [if_neg kO]
def cfN : List GChannel → Nat
 | [] => 0
 | x :: r => x.List.length + cfN r
theorem cfN_step (l : List GChannel) (i : Nat) (h : i < l.length) : cfN (l.drop i) = l[i].List.length + cfN (l.drop (i + 1)) := by
 rw [List.drop_eq_getElem_cons h]
 rfl
theorem cfN_end (l : List GChannel) (i : Nat) (h : l.length ≤ i) : cfN (l.drop i) = 0 := by
 rw [List.drop_eq_nil_of_le h]
 rfl
def clr (a b : Int) (x : GChannel) : GChannel := if (x.From = a ∧ x.To = b) ∨ (x.From = b ∧ x.To = a) then ⟨x.From, x.To, []⟩ else x
def clA (a b : Int) (l : List GChannel) : List GChannel := l.map (clr a b)
def clL (a b : Int) (l : List GChannel) (i : Nat) : List GChannel := (l.take i).map (clr a b) ++ l.drop i
theorem clL_len (a b : Int) (l : List GChannel) (i : Nat) : (clL a b l i).length = l.length := by
 unfold clL
 rw [List.length_append, List.length_map, List.length_take, List.length_drop]
 omega
theorem clL_at (a b : Int) (l : List GChannel) (i : Nat) (h : i < (clL a b l i).length) (h2 : i < l.length) : (clL a b l i)[i] = l[i] := by
 have e : (clL a b l i)[i]? = some l[i] := by
  unfold clL
  rw [List.getElem?_append_right (by rw [List.length_map, List.length_take]; omega), List.length_map, List.length_take, show i - min i l.length = 0 by omega, List.getElem?_drop, Nat.add_zero]
  exact List.getElem?_eq_getElem h2
 exact Option.some.inj ((List.getElem?_eq_getElem h).symm.trans e)
theorem clL_set (a b : Int) (l : List GChannel) (i : Nat) (h : i < l.length) (y : GChannel) (hy : clr a b l[i] = y) : (clL a b l i).set i y = clL a b l (i + 1) := by
 subst hy
 have e : clL a b l (i + 1) = ((l.take i).map (clr a b) ++ [clr a b l[i]]) ++ l.drop (i + 1) := by
  unfold clL
  rw [List.take_succ_eq_append_getElem h, List.map_append]
  rfl
 rw [e]
 unfold clL
 rw [List.drop_eq_getElem_cons h, List.set_append_right _ _ (by rw [List.length_map, List.length_take]; omega), List.append_assoc]
 congr 1
 rw [List.length_map, List.length_take, show i - min i l.length = 0 by omega]
 rfl
theorem clL_end (a b : Int) (l : List GChannel) : clL a b l l.length = clA a b l := by
 unfold clL clA
 rw [List.take_length, List.drop_length, List.append_nil]
theorem msgsTo_no (l : List GChannel) (a b : Int) (A : Option Addr) (c : Nat) (w : World) (hC : C aC w A l) (hs : bJ aL l ≤ 4194304) (hf : fidx (chP a b) 0 l = -1) : Calls Try.prog 11 #[.slice A l.length c, .int .i64 a, .int .i64 b] w (eH aF 31 (mtO a b l) w) := by
 refine enter 20 [(0, .slice A l.length c), (1, .int .i64 (a)), (2, .int .i64 (b))] Try.func11 rfl kR ?_
 intro xj
 have H1 : St w No [] w := St.enter
 refine wp_seq ?_
 refine aK [0] rfl ?_
 refine aA ?_
 refine aB rfl (aG rfl) rfl rfl ?_
 refine aH ?_
 refine aI ?_
 refine wp_seq ?_
 refine aK [0, 1, 2, 3, 4] rfl ?_
 refine aA ?_
 refine aB rfl (aD rfl) rfl rfl ?_
 refine aA ?_
 refine aB rfl (aD rfl) rfl rfl ?_
 refine aA ?_
 refine aB rfl (aD rfl) rfl rfl ?_
 refine aA ?_
 refine aN rfl Try.call56 (vs := #[.slice A l.length c, .int .i64 (a), .int .i64 (b)]) rfl rfl rfl (eT l a b (-1) hf _ _ _ (bQ H1.1 hC)) ?_
 rintro e4 W3 ⟨rfl, hu2⟩; refine ⟨_, rfl, ?_⟩
 have H5 := H1.no hu2; clear H1
 refine aA ?_
 refine aB rfl (aG rfl) rfl rfl ?_
 refine aH ?_
 refine aI ?_
 refine wp_seq ?_
 refine wp_seq ?_
 refine aK [0, 1] rfl ?_
 refine aA ?_
 refine aB rfl (aD rfl) rfl rfl ?_
 refine aA ?_
 refine aB rfl (bG (p := ((-1) : Int) < 0) kD (dD (p := (-1)) (q := 0) rfl rfl)) rfl rfl ?_
 refine aH ?_
 refine aI ?_
 refine dO rfl ?_
 refine wp_seq ?_
 refine aK [0] rfl ?_
 refine aA ?_
 refine aB rfl (aG rfl) rfl rfl ?_
 refine aH ?_
 refine aI ?_
 refine wp_ret ?_
 refine bV ?_
 rw [mt_no a b l hf]
 refine aV (.inl rfl) Try.results11 rfl ?_
 exact ⟨_, rfl, R_nil, H5.1⟩
theorem msgsTo_yes (l : List GChannel) (a b : Int) (A : Option Addr) (c : Nat) (w : World) (hC : C aC w A l) (hs : bJ aL l ≤ 4194304) (k : Nat) (hk : k < l.length) (hf : fidx (chP a b) 0 l = (k : Int)) : Calls Try.prog 11 #[.slice A l.length c, .int .i64 a, .int .i64 b] w (eH aF 31 (mtO a b l) w) := by
 refine enter 20 [(0, .slice A l.length c), (1, .int .i64 (a)), (2, .int .i64 (b))] Try.func11 rfl kR ?_
 intro xj
 have H1 : St w No [] w := St.enter
 have hk4 : aL l[k] ≤ 4194304 := by have h1 := fJ aL l k hk; unfold bJ at hs; omega
 refine wp_seq ?_
 refine aK [0] rfl ?_
 refine aA ?_
 refine aB rfl (aG rfl) rfl rfl ?_
 refine aH ?_
 refine aI ?_
 refine wp_seq ?_
 refine aK [0, 1, 2, 3, 4] rfl ?_
 refine aA ?_
 refine aB rfl (aD rfl) rfl rfl ?_
 refine aA ?_
 refine aB rfl (aD rfl) rfl rfl ?_
 refine aA ?_
 refine aB rfl (aD rfl) rfl rfl ?_
 refine aA ?_
 refine aN rfl Try.call56 (vs := #[.slice A l.length c, .int .i64 (a), .int .i64 (b)]) rfl rfl rfl (eT l a b ((k : Nat) : Int) hf _ _ _ (bQ H1.1 hC)) ?_
 rintro e4 W3 ⟨rfl, hu2⟩; refine ⟨_, rfl, ?_⟩
 have H5 := H1.no hu2; clear H1
 refine aA ?_
 refine aB rfl (aG rfl) rfl rfl ?_
 refine aH ?_
 refine aI ?_
 refine wp_seq ?_
 refine wp_seq ?_
 refine aK [0, 1] rfl ?_
 refine aA ?_
 refine aB rfl (aD rfl) rfl rfl ?_
 refine aA ?_
 refine aB rfl (bH (p := (((k : Nat) : Int) : Int) < 0) kO (dD (p := ((k : Nat) : Int)) (q := 0) rfl rfl)) rfl rfl ?_
 refine aH ?_
 refine aI ?_
 refine dA rfl ?_
 refine wp_skip ?_
 refine aI ?_
 refine wp_seq ?_
 obtain ⟨ade6, cse6, hAe6, hKe6, hce6⟩ := eZ hC k hk
 have hle6 := dQ hKe6
 have hoe6 := dR hKe6
 refine aK [0, 1, 2, 3, 4, 5, 6] rfl ?_
 refine aA ?_
 refine aB rfl (aD rfl) rfl rfl ?_
 refine aA ?_
 refine aB rfl (aD rfl) rfl rfl ?_
 refine aA ?_
 refine aB rfl (bB (k := k) Try.runUnderlying24 Try.sizeOf94 rfl rfl hAe6 hk) rfl rfl ?_
 refine aA ?_
 refine aB rfl (dJ Try.isAgg94 Try.sizeOf94 rfl (Cat.upd hce6 H5.1) hle6) rfl rfl ?_
 refine aA ?_
 refine aN rfl Try.call57 (vs := #[.agg (List.toArray cse6)]) rfl rfl rfl (copied_Channel l[k] _ _ (K_upd H5.1 hKe6) hk4) ?_
 rintro e12 W11 ⟨cs7, rfl, hM8, hu9⟩; refine ⟨_, rfl, ?_⟩
 obtain ⟨B_4_4_2, c_4_4_2, rfl, hst10⟩ := bX hM8
 have H13 := H5.news hu9 hst10; clear H5
 refine aA ?_
 refine aB rfl (rn_fld rfl (fld_List _ _ _ _ _)) rfl rfl ?_
 refine aA ?_
 refine aB rfl (aG rfl) rfl rfl ?_
 refine aH ?_
 refine aI ?_
 refine wp_ret ?_
 rw [mt_yes a b l k hk hf]
 refine aV (.inl rfl) Try.results11 rfl ?_
 have hq := (H13.pick [0] kD rfl : St w No [hR aF 31 (.slice B_4_4_2 (l[k].List.length) c_4_4_2) (l[k].List)] W11).fin1
 exact ⟨_, rfl, hq.1, hq.2⟩
theorem messagesTo_i (l : List GChannel) (a b : Int) (A : Option Addr) (c : Nat) (w : World) (hC : C aC w A l) (hs : bJ aL l ≤ 4194304) : Calls Try.prog 11 #[.slice A l.length c, .int .i64 a, .int .i64 b] w (eH aF 31 (mtO a b l) w) := by
 rcases eB (chP a b) l with hf | ⟨k, hk, hf⟩
 ·exact msgsTo_no l a b A c w hC hs hf
 ·exact msgsTo_yes l a b A c w hC hs k hk hf
theorem countFlight_i (l : List GChannel) (A : Option Addr) (c : Nat) (w : World) (hC : C aC w A l) (hs : l.length ≤ 1048576) (hb : cfN l ≤ 1000000000) : Calls Try.prog 14 #[.slice A l.length c] w (RetInt ((cfN l : Nat) : Int) w) := by
 refine enter 19 [(0, .slice A l.length c)] Try.func14 rfl kR ?_
 intro xj
 have H1 : St w No [] w := St.enter
 refine wp_seq ?_
 refine aK [0] rfl ?_
 refine aA ?_
 refine aB rfl (aG rfl) rfl rfl ?_
 refine aH ?_
 refine aI ?_
 refine wp_seq ?_
 refine aK [0] rfl ?_
 refine aA ?_
 refine aB rfl (aG rfl) rfl rfl ?_
 refine aH ?_
 refine aI ?_
 refine wp_seq ?_
 refine wp_seq ?_
 refine aK [0, 1, 2] rfl ?_
 refine aA ?_
 refine aB rfl (aD rfl) rfl rfl ?_
 refine aA ?_
 refine aB rfl (bT Try.runUnderlying24 rfl) rfl rfl ?_
 refine aA ?_
 refine aB rfl (aD rfl) rfl rfl ?_
 refine aH ?_
 refine aI ?_
 refine wp_block ?_
 refine wp_loop_ghost (fun r a' W' => ∃ (i1 : Nat) (s : Nat) (x' : Nat → Value), a' = aO 19 x' [(3, .int .i64 (((s : Nat) : Int))), (6, .slice A l.length c), (7, .int .i64 ((l.length : Nat))), (8, .int .i64 (((i1 : Nat) : Int)))] ∧ (i1 + r = l.length) ∧ (s + cfN (l.drop i1) = cfN l) ∧ St w No [] W') l.length ?_ ?_
 ·exact (aW [(3, .int .i64 (((0 : Nat) : Int))), (6, .slice A l.length c), (7, .int .i64 ((l.length : Nat))), (8, .int .i64 (((0 : Nat) : Int)))] rfl).elim fun x' hx => ⟨0, 0, x', hx, kO, (Nat.zero_add _), H1⟩
 ·rintro r2 _ W3 ⟨i1, s, x4, rfl, hi1, hf1, H5⟩; clear H1
  refine wp_seq ?_
  refine aK [0] rfl ?_
  refine aA ?_
  refine aB rfl (dD rfl rfl) rfl rfl ?_
  refine aH ?_
  refine aI ?_
  refine wp_seq ?_
  refine bL rfl (fun hc6 => ?_) (fun hc6 => ?_)
  ·have hlt1 : i1 < l.length := by omega
   obtain ⟨ade7, cse7, hAe7, hKe7, hce7⟩ := eZ hC i1 hlt1
   have hle7 := dQ hKe7
   have hoe7 := dR hKe7
   obtain ⟨Aade7_2, cade7_2, rfl, hlade7_2, hCade7_2⟩ := dK hKe7
   have hst := cfN_step l i1 hlt1
   refine wp_skip ?_
   refine aI ?_
   refine wp_seq ?_
   refine wp_block ?_
   refine wp_seq ?_
   refine aK [0, 1, 2, 3] rfl ?_
   refine aA ?_
   refine aB rfl (bB (k := i1) Try.runUnderlying24 Try.sizeOf94 rfl rfl hAe7 hlt1) rfl rfl ?_
   refine aA ?_
   refine aB rfl (dJ Try.isAgg94 Try.sizeOf94 rfl (Cat.upd hce7 H5.1) rfl) rfl rfl ?_
   refine aA ?_
   refine bW rfl Try.zeroValue94 rfl rfl H5 ?_
   intro g_4_2 W8 hu9 Ha10; clear H5; clear hu9
   refine aA ?_
   refine bE rfl Try.sizeOf94 rfl rfl rfl rfl kS Ha10 ?_
   intro W12 hu13 Ha14; clear Ha10; clear hu13
   refine aH ?_
   refine aI ?_
   refine aK [0, 1, 2, 3, 4, 5] rfl ?_
   refine aA ?_
   refine aB rfl (aD rfl) rfl rfl ?_
   refine aA ?_
   refine aB rfl (aS bY rfl) rfl rfl ?_
   refine aA ?_
   refine aB rfl (bC (k := 2) (v := .slice Aade7_2 (l[i1].List.length) cade7_2) Try.isAgg37 rfl (Ha14.blk 0 rfl) rfl) rfl rfl ?_
   refine aA ?_
   refine aB rfl (bT Try.runUnderlying37 rfl) rfl rfl ?_
   refine aA ?_
   refine aB rfl (rn_int (q := ((s + l[i1].List.length : Nat) : Int)) kO (dF rfl rfl kO)) rfl rfl ?_
   refine aA ?_
   refine aB rfl (aG rfl) rfl rfl ?_
   refine aH ?_
   refine dW ?_
   refine aI ?_
   refine aK [0, 1] rfl ?_
   refine aA ?_
   refine aB rfl (dP (k := i1) rfl rfl kO) rfl rfl ?_
   refine aA ?_
   refine aB rfl (aD rfl) rfl rfl ?_
   refine aH ?_
   refine aI ?_
   exact (aW [(3, .int .i64 (((s + l[i1].List.length : Nat) : Int))), (6, .slice A l.length c), (7, .int .i64 ((l.length : Nat))), (8, .int .i64 (((i1 + 1 : Nat) : Int)))] rfl).elim fun x' hx => ⟨r2 - 1, kO, i1 + 1, (s + l[i1].List.length), x', hx, kO, kO, Ha14.pick [] kD rfl⟩
  ·have hge1 : l.length ≤ i1 := by omega
   refine wp_exit ?_
   refine bR ?_
   refine bR ?_
   refine inB_x ?_
   refine aI ?_
   refine wp_seq ?_
   refine aK [0, 1] rfl ?_
   refine aA ?_
   refine aB rfl (aD rfl) rfl rfl ?_
   refine aA ?_
   refine aB rfl (aG rfl) rfl rfl ?_
   refine aH ?_
   refine aI ?_
   refine wp_ret ?_
   have hz := cfN_end l i1 hge1
   obtain rfl : s = cfN l := by omega
   refine aV (.inl rfl) Try.results14 rfl ?_
   exact ⟨rfl, H5.1⟩
theorem clear_i (l : List GChannel) (a b : Int) (A0 : Option Addr) (c0 : Nat) (F0 : Nat → Prop) (w : World) (h : Star [hR aC 94 (.slice A0 l.length c0) l] w F0) (hn : l.length ≤ 4194304) : Calls Try.prog 59 #[.slice A0 l.length c0, .int .i64 a, .int .i64 b] w (fun e' w' => e' = .returned (.tuple #[]) ∧ St w F0 [hR aC 94 (.slice A0 l.length c0) (clA a b l)] w') := by
 refine enter 42 [(0, .slice A0 l.length c0), (1, .int .i64 (a)), (2, .int .i64 (b))] Try.func59 rfl kR ?_
 intro xj
 have H1 : St w F0 [hR aC 94 (.slice A0 l.length c0) l] w := St.eO h
 refine wp_seq ?_
 refine aK [0, 1, 2] rfl ?_
 refine aA ?_
 refine aB rfl (aD rfl) rfl rfl ?_
 refine aA ?_
 refine aB rfl (bT Try.runUnderlying24 rfl) rfl rfl ?_
 refine aA ?_
 refine aB rfl (aD rfl) rfl rfl ?_
 refine aH ?_
 refine aI ?_
 refine wp_block ?_
 refine wp_loop_ghost (fun r a' W' => ∃ (i1 : Nat) (x' : Nat → Value), a' = aO 42 x' [(0, .slice A0 l.length c0), (1, .int .i64 (a)), (2, .int .i64 (b)), (8, .slice A0 l.length c0), (9, .int .i64 ((l.length : Nat))), (10, .int .i64 (((i1 : Nat) : Int)))] ∧ (i1 + r = l.length) ∧ (True) ∧ St w F0 [hR aC 94 (.slice A0 l.length c0) (clL a b l i1)] W') l.length ?_ ?_
 ·exact (aW [(0, .slice A0 l.length c0), (1, .int .i64 (a)), (2, .int .i64 (b)), (8, .slice A0 l.length c0), (9, .int .i64 ((l.length : Nat))), (10, .int .i64 (((0 : Nat) : Int)))] rfl).elim fun x' hx => ⟨0, x', hx, kO, trivial, H1⟩
 ·rintro r2 _ W3 ⟨i1, x4, rfl, hi1, hf1, H5⟩; clear H1
  refine wp_seq ?_
  refine aK [0] rfl ?_
  refine aA ?_
  refine aB rfl (dD rfl rfl) rfl rfl ?_
  refine aH ?_
  refine aI ?_
  refine wp_seq ?_
  refine bL rfl (fun hc6 => ?_) (fun hc6 => ?_)
  ·have hlt1 : i1 < l.length := by omega
   have hlc : i1 < (clL a b l i1).length := by rw [clL_len]; exact hlt1
   obtain ⟨gf7, rfl⟩ := H5.openS (q := i1) hlc
   obtain ⟨ce8, hn9, H10⟩ := H5.openG (q := i1) hlc; clear H5
   rw [clL_at a b l i1 hlc hlt1] at H10
   have H11 : St w F0 [hE aC 94 gf7 c0 i1 ce8 (clL a b l i1), hM aC (l[i1]) ce8] W3 := H10; clear H10
   have H18 : St w F0 [hM aC (l[i1]) ce8, hE aC 94 gf7 c0 i1 ce8 (clL a b l i1)] W3 := H11.pick [1, 0] kD rfl; clear H11
   obtain ⟨F12, hM13, hb14⟩ := H18.unM
   obtain ⟨B16, c17, rfl, hst15⟩ := bX hM13
   have H19 : St w F0 [hR aF 31 (.slice B16 ((l[i1]).List.length) c17) ((l[i1]).List), hE aC 94 gf7 c0 i1 [.int .i64 ((l[i1]).From), .int .i64 ((l[i1]).To), .slice B16 ((l[i1]).List.length) c17] (clL a b l i1)] W3 := hb14 _ hst15; clear H18
   refine wp_skip ?_
   refine aI ?_
   refine wp_seq ?_
   refine wp_block ?_
   refine wp_seq ?_
   refine aK [0, 1, 2, 3, 4, 5] rfl ?_
   refine aA ?_
   refine aB rfl (aD rfl) rfl rfl ?_
   refine aA ?_
   refine aB rfl (bB (k := i1) Try.runUnderlying24 Try.sizeOf94 rfl rfl rfl (Nat.lt_of_lt_of_eq hlc hn9.symm)) rfl rfl ?_
   refine aA ?_
   refine aB rfl (dJ Try.isAgg94 Try.sizeOf94 rfl (H19.catE 1 rfl) rfl) rfl rfl ?_
   refine aA ?_
   refine bW rfl Try.zeroValue94 rfl rfl H19 ?_
   intro g_2_3 W20 hu21 Ha22; clear H19; clear hu21
   refine aA ?_
   refine aB rfl (aG rfl) rfl rfl ?_
   refine aA ?_
   refine bE rfl Try.sizeOf94 rfl rfl rfl rfl kS Ha22 ?_
   intro W24 hu25 Ha26; clear Ha22; clear hu25
   refine aH ?_
   refine aI ?_
   refine wp_seq ?_
   refine aK [0, 1, 2, 3, 4, 5, 6, 7, 8, 9, 10, 11, 12, 13, 14, 15, 16, 17, 18, 19, 20, 21] rfl ?_
   refine aA ?_
   refine aB rfl (aS fa_94_0 rfl) rfl rfl ?_
   refine aA ?_
   refine aB rfl (bC (k := 0) (v := .int .i64 ((l[i1]).From)) Try.isAgg3 rfl (Ha26.blk 0 rfl) rfl) rfl rfl ?_
   refine aA ?_
   refine aB rfl (aD rfl) rfl rfl ?_
   by_cases hg28 : (((l[i1]).From) : Int) = a
   ·refine aA ?_
    refine aB rfl (bG hg28 (bM rfl rfl)) rfl rfl ?_
    refine aA ?_
    refine aB rfl (aD rfl) rfl rfl ?_
    refine aA ?_
    refine aU rfl rfl rfl rfl (fun _ ho29 => ?_)
    refine aB ho29 (aS fa_94_1 rfl) rfl rfl ?_
    refine aA ?_
    refine aU rfl rfl rfl rfl (fun _ ho30 => ?_)
    refine aB ho30 (bC (k := 1) (v := .int .i64 ((l[i1]).To)) Try.isAgg3 rfl (Ha26.blk 0 rfl) rfl) rfl rfl ?_
    refine aA ?_
    refine aU rfl rfl rfl rfl (fun _ ho31 => ?_)
    refine aB ho31 (aD rfl) rfl rfl ?_
    by_cases hg32 : (((l[i1]).To) : Int) = b
    ·refine aA ?_
     refine aU rfl rfl rfl rfl (fun _ ho33 => ?_)
     refine aB ho33 (bG hg32 (bM rfl rfl)) rfl rfl ?_
     refine aA ?_
     refine aB rfl (aP (v := .bool (true)) (b := true) rfl rfl rfl rfl) rfl rfl ?_
     refine aA ?_
     refine aB rfl (aD rfl) rfl rfl ?_
     refine aA ?_
     refine aJ rfl rfl rfl rfl rfl rfl rfl ?_
     refine aA ?_
     refine aJ rfl rfl rfl rfl rfl rfl rfl ?_
     refine aA ?_
     refine aJ rfl rfl rfl rfl rfl rfl rfl ?_
     refine aA ?_
     refine aJ rfl rfl rfl rfl rfl rfl rfl ?_
     refine aA ?_
     refine aJ rfl rfl rfl rfl rfl rfl rfl ?_
     refine aA ?_
     refine op_skipU rfl rfl rfl rfl rfl rfl ?_
     refine aA ?_
     refine op_skipU rfl rfl rfl rfl rfl rfl ?_
     refine aA ?_
     refine op_skipU rfl rfl rfl rfl rfl rfl ?_
     refine aA ?_
     refine op_skipU rfl rfl rfl rfl rfl rfl ?_
     refine aA ?_
     refine aJ rfl rfl rfl rfl rfl rfl rfl ?_
     refine aA ?_
     refine aB rfl (aP (v := .bool (true)) (b := true) rfl rfl rfl rfl) rfl rfl ?_
     refine aH ?_
     refine aI ?_
     refine dO rfl ?_
     refine aK [0, 1, 2, 3, 4] rfl ?_
     refine aA ?_
     refine aB rfl (aD rfl) rfl rfl ?_
     refine aA ?_
     refine aB rfl (aD rfl) rfl rfl ?_
     refine aA ?_
     refine aB rfl (bB (k := i1) Try.runUnderlying24 Try.sizeOf94 rfl rfl rfl (Nat.lt_of_lt_of_eq hlc hn9.symm)) rfl rfl ?_
     refine aA ?_
     refine aB rfl (aS bY rfl) rfl rfl ?_
     refine aA ?_
     have H37 : St w F0 [hE aC 94 gf7 c0 i1 [.int .i64 ((l[i1]).From), .int .i64 ((l[i1]).To), .slice B16 ((l[i1]).List.length) c17] (clL a b l i1), hB g_2_3 94 #[.int .i64 ((l[i1]).From), .int .i64 ((l[i1]).To), .slice B16 ((l[i1]).List.length) c17], hR aF 31 (.slice B16 ((l[i1]).List.length) c17) ((l[i1]).List)] W24 := Ha26.pick [2, 0, 1] kD rfl; clear Ha26
     refine fB (dk := aC) (k := 2) (ce' := [.int .i64 ((l[i1]).From), .int .i64 ((l[i1]).To), .slice none 0 0]) rfl Try.sizeOf37 rfl rfl rfl rfl (Nat.le_of_ble_eq_true rfl) (by simp [Value.cells, Value.oneCell']) rfl H37 ?_
     intro W34 hu35 Ha36; clear H37; clear hu35
     refine aH ?_
     refine dW ?_
     refine aI ?_
     refine aK [0, 1] rfl ?_
     refine aA ?_
     refine aB rfl (dP (k := i1) rfl rfl kO) rfl rfl ?_
     refine aA ?_
     refine aB rfl (aD rfl) rfl rfl ?_
     refine aH ?_
     refine aI ?_
     have hclr : clr a b l[i1] = (⟨l[i1].From, l[i1].To, []⟩ : GChannel) := if_pos (by first | exact .inl ⟨by assumption, by assumption⟩ | exact .inr ⟨by assumption, by assumption⟩)
     have H39 : St w F0 [hR aF 31 (.slice none 0 0) ([]), hE aC 94 gf7 c0 i1 [.int .i64 ((l[i1]).From), .int .i64 ((l[i1]).To), .slice none 0 0] (clL a b l i1), hB g_2_3 94 #[.int .i64 ((l[i1]).From), .int .i64 ((l[i1]).To), .slice B16 ((l[i1]).List.length) c17], hR aF 31 (.slice B16 ((l[i1]).List.length) c17) ((l[i1]).List)] W34 := Ha36.add0 (q := hR aF 31 (.slice none 0 0) []) R_nil; clear Ha36
     have H40 : St w F0 [hM aC (⟨l[i1].From, l[i1].To, []⟩ : GChannel) [.int .i64 ((l[i1]).From), .int .i64 ((l[i1]).To), .slice none 0 0], hE aC 94 gf7 c0 i1 [.int .i64 ((l[i1]).From), .int .i64 ((l[i1]).To), .slice none 0 0] (clL a b l i1), hB g_2_3 94 #[.int .i64 ((l[i1]).From), .int .i64 ((l[i1]).To), .slice B16 ((l[i1]).List.length) c17], hR aF 31 (.slice B16 ((l[i1]).List.length) c17) ((l[i1]).List)] W34 := H39.swap (l0 := [hR aF 31 (.slice none 0 0) ([])]) (l' := [hM aC (⟨l[i1].From, l[i1].To, []⟩ : GChannel) [.int .i64 ((l[i1]).From), .int .i64 ((l[i1]).To), .slice none 0 0]]) (fun _ h => Star.one (bD (x := (⟨l[i1].From, l[i1].To, []⟩ : GChannel)) h)); clear H39
     have H41 : St w F0 [hE aC 94 gf7 c0 i1 [.int .i64 ((l[i1]).From), .int .i64 ((l[i1]).To), .slice none 0 0] (clL a b l i1), hM aC (⟨l[i1].From, l[i1].To, []⟩ : GChannel) [.int .i64 ((l[i1]).From), .int .i64 ((l[i1]).To), .slice none 0 0], hB g_2_3 94 #[.int .i64 ((l[i1]).From), .int .i64 ((l[i1]).To), .slice B16 ((l[i1]).List.length) c17], hR aF 31 (.slice B16 ((l[i1]).List.length) c17) ((l[i1]).List)] W34 := H40.pick [1, 0, 2, 3] kD rfl; clear H40
     have H42 : St w F0 [hR aC 94 (.slice (some ⟨gf7, 0, none⟩) l.length c0) (clL a b l (i1 + 1)), hB g_2_3 94 #[.int .i64 ((l[i1]).From), .int .i64 ((l[i1]).To), .slice B16 ((l[i1]).List.length) c17], hR aF 31 (.slice B16 ((l[i1]).List.length) c17) ((l[i1]).List)] W34 := H41.fC (clL_set a b l i1 hlt1 (⟨l[i1].From, l[i1].To, []⟩ : GChannel) hclr) (clL_len a b l (i1 + 1)).symm; clear H41
     exact (aW [(0, .slice (some ⟨gf7, 0, none⟩) l.length c0), (1, .int .i64 (a)), (2, .int .i64 (b)), (8, .slice (some ⟨gf7, 0, none⟩) l.length c0), (9, .int .i64 ((l.length : Nat))), (10, .int .i64 (((i1 + 1 : Nat) : Int)))] rfl).elim fun x' hx => ⟨r2 - 1, kO, i1 + 1, x', hx, kO, trivial, H42.pick [0] kD rfl⟩
    ·refine aA ?_
     refine aU rfl rfl rfl rfl (fun _ ho43 => ?_)
     refine aB ho43 (bH hg32 (bM rfl rfl)) rfl rfl ?_
     refine aA ?_
     refine aB rfl (aP (v := .bool (false)) (b := true) rfl rfl rfl rfl) rfl rfl ?_
     refine aA ?_
     refine aB rfl (aD rfl) rfl rfl ?_
     refine aA ?_
     refine aU rfl rfl rfl rfl (fun _ ho44 => ?_)
     refine aB ho44 (aS fa_94_0 rfl) rfl rfl ?_
     refine aA ?_
     refine aU rfl rfl rfl rfl (fun _ ho45 => ?_)
     refine aB ho45 (bC (k := 0) (v := .int .i64 ((l[i1]).From)) Try.isAgg3 rfl (Ha26.blk 0 rfl) rfl) rfl rfl ?_
     refine aA ?_
     refine aU rfl rfl rfl rfl (fun _ ho46 => ?_)
     refine aB ho46 (aD rfl) rfl rfl ?_
     by_cases hg47 : (((l[i1]).From) : Int) = b
     ·refine aA ?_
      refine aU rfl rfl rfl rfl (fun _ ho48 => ?_)
      refine aB ho48 (bG hg47 (bM rfl rfl)) rfl rfl ?_
      refine aA ?_
      refine aU rfl rfl rfl rfl (fun _ ho49 => ?_)
      refine aB ho49 (aD rfl) rfl rfl ?_
      refine aA ?_
      refine aU rfl rfl rfl rfl (fun _ ho50 => ?_)
      refine aB ho50 (aS fa_94_1 rfl) rfl rfl ?_
      refine aA ?_
      refine aU rfl rfl rfl rfl (fun _ ho51 => ?_)
      refine aB ho51 (bC (k := 1) (v := .int .i64 ((l[i1]).To)) Try.isAgg3 rfl (Ha26.blk 0 rfl) rfl) rfl rfl ?_
      refine aA ?_
      refine aU rfl rfl rfl rfl (fun _ ho52 => ?_)
      refine aB ho52 (aD rfl) rfl rfl ?_
      by_cases hg53 : (((l[i1]).To) : Int) = a
      ·refine aA ?_
       refine aU rfl rfl rfl rfl (fun _ ho54 => ?_)
       refine aB ho54 (bG hg53 (bM rfl rfl)) rfl rfl ?_
       refine aA ?_
       refine aU rfl rfl rfl rfl (fun _ ho55 => ?_)
       refine aB ho55 (aP (v := .bool (true)) (b := true) rfl rfl rfl rfl) rfl rfl ?_
       refine aA ?_
       refine aB rfl (aP (v := .bool (true)) (b := false) rfl rfl rfl rfl) rfl rfl ?_
       refine aH ?_
       refine aI ?_
       refine dO rfl ?_
       refine aK [0, 1, 2, 3, 4] rfl ?_
       refine aA ?_
       refine aB rfl (aD rfl) rfl rfl ?_
       refine aA ?_
       refine aB rfl (aD rfl) rfl rfl ?_
       refine aA ?_
       refine aB rfl (bB (k := i1) Try.runUnderlying24 Try.sizeOf94 rfl rfl rfl (Nat.lt_of_lt_of_eq hlc hn9.symm)) rfl rfl ?_
       refine aA ?_
       refine aB rfl (aS bY rfl) rfl rfl ?_
       refine aA ?_
       have H59 : St w F0 [hE aC 94 gf7 c0 i1 [.int .i64 ((l[i1]).From), .int .i64 ((l[i1]).To), .slice B16 ((l[i1]).List.length) c17] (clL a b l i1), hB g_2_3 94 #[.int .i64 ((l[i1]).From), .int .i64 ((l[i1]).To), .slice B16 ((l[i1]).List.length) c17], hR aF 31 (.slice B16 ((l[i1]).List.length) c17) ((l[i1]).List)] W24 := Ha26.pick [2, 0, 1] kD rfl; clear Ha26
       refine fB (dk := aC) (k := 2) (ce' := [.int .i64 ((l[i1]).From), .int .i64 ((l[i1]).To), .slice none 0 0]) rfl Try.sizeOf37 rfl rfl rfl rfl (Nat.le_of_ble_eq_true rfl) (by simp [Value.cells, Value.oneCell']) rfl H59 ?_
       intro W56 hu57 Ha58; clear H59; clear hu57
       refine aH ?_
       refine dW ?_
       refine aI ?_
       refine aK [0, 1] rfl ?_
       refine aA ?_
       refine aB rfl (dP (k := i1) rfl rfl kO) rfl rfl ?_
       refine aA ?_
       refine aB rfl (aD rfl) rfl rfl ?_
       refine aH ?_
       refine aI ?_
       have hclr : clr a b l[i1] = (⟨l[i1].From, l[i1].To, []⟩ : GChannel) := if_pos (by first | exact .inl ⟨by assumption, by assumption⟩ | exact .inr ⟨by assumption, by assumption⟩)
       have H61 : St w F0 [hR aF 31 (.slice none 0 0) ([]), hE aC 94 gf7 c0 i1 [.int .i64 ((l[i1]).From), .int .i64 ((l[i1]).To), .slice none 0 0] (clL a b l i1), hB g_2_3 94 #[.int .i64 ((l[i1]).From), .int .i64 ((l[i1]).To), .slice B16 ((l[i1]).List.length) c17], hR aF 31 (.slice B16 ((l[i1]).List.length) c17) ((l[i1]).List)] W56 := Ha58.add0 (q := hR aF 31 (.slice none 0 0) []) R_nil; clear Ha58
       have H62 : St w F0 [hM aC (⟨l[i1].From, l[i1].To, []⟩ : GChannel) [.int .i64 ((l[i1]).From), .int .i64 ((l[i1]).To), .slice none 0 0], hE aC 94 gf7 c0 i1 [.int .i64 ((l[i1]).From), .int .i64 ((l[i1]).To), .slice none 0 0] (clL a b l i1), hB g_2_3 94 #[.int .i64 ((l[i1]).From), .int .i64 ((l[i1]).To), .slice B16 ((l[i1]).List.length) c17], hR aF 31 (.slice B16 ((l[i1]).List.length) c17) ((l[i1]).List)] W56 := H61.swap (l0 := [hR aF 31 (.slice none 0 0) ([])]) (l' := [hM aC (⟨l[i1].From, l[i1].To, []⟩ : GChannel) [.int .i64 ((l[i1]).From), .int .i64 ((l[i1]).To), .slice none 0 0]]) (fun _ h => Star.one (bD (x := (⟨l[i1].From, l[i1].To, []⟩ : GChannel)) h)); clear H61
       have H63 : St w F0 [hE aC 94 gf7 c0 i1 [.int .i64 ((l[i1]).From), .int .i64 ((l[i1]).To), .slice none 0 0] (clL a b l i1), hM aC (⟨l[i1].From, l[i1].To, []⟩ : GChannel) [.int .i64 ((l[i1]).From), .int .i64 ((l[i1]).To), .slice none 0 0], hB g_2_3 94 #[.int .i64 ((l[i1]).From), .int .i64 ((l[i1]).To), .slice B16 ((l[i1]).List.length) c17], hR aF 31 (.slice B16 ((l[i1]).List.length) c17) ((l[i1]).List)] W56 := H62.pick [1, 0, 2, 3] kD rfl; clear H62
       have H64 : St w F0 [hR aC 94 (.slice (some ⟨gf7, 0, none⟩) l.length c0) (clL a b l (i1 + 1)), hB g_2_3 94 #[.int .i64 ((l[i1]).From), .int .i64 ((l[i1]).To), .slice B16 ((l[i1]).List.length) c17], hR aF 31 (.slice B16 ((l[i1]).List.length) c17) ((l[i1]).List)] W56 := H63.fC (clL_set a b l i1 hlt1 (⟨l[i1].From, l[i1].To, []⟩ : GChannel) hclr) (clL_len a b l (i1 + 1)).symm; clear H63
       exact (aW [(0, .slice (some ⟨gf7, 0, none⟩) l.length c0), (1, .int .i64 (a)), (2, .int .i64 (b)), (8, .slice (some ⟨gf7, 0, none⟩) l.length c0), (9, .int .i64 ((l.length : Nat))), (10, .int .i64 (((i1 + 1 : Nat) : Int)))] rfl).elim fun x' hx => ⟨r2 - 1, kO, i1 + 1, x', hx, kO, trivial, H64.pick [0] kD rfl⟩
      ·refine aA ?_
       refine aU rfl rfl rfl rfl (fun _ ho65 => ?_)
       refine aB ho65 (bH hg53 (bM rfl rfl)) rfl rfl ?_
       refine aA ?_
       refine aU rfl rfl rfl rfl (fun _ ho66 => ?_)
       refine aB ho66 (aP (v := .bool (false)) (b := true) rfl rfl rfl rfl) rfl rfl ?_
       refine aA ?_
       refine aB rfl (aP (v := .bool (false)) (b := false) rfl rfl rfl rfl) rfl rfl ?_
       refine aH ?_
       refine aI ?_
       refine dA rfl ?_
       refine wp_skip ?_
       refine dW ?_
       refine aI ?_
       refine aK [0, 1] rfl ?_
       refine aA ?_
       refine aB rfl (dP (k := i1) rfl rfl kO) rfl rfl ?_
       refine aA ?_
       refine aB rfl (aD rfl) rfl rfl ?_
       refine aH ?_
       refine aI ?_
       have hclr : clr a b l[i1] = l[i1] := if_neg (by rintro (⟨q1, q2⟩ | ⟨q1, q2⟩) <;> omega)
       have H67 : St w F0 [hR aF 31 (.slice B16 ((l[i1]).List.length) c17) ((l[i1]).List), hB g_2_3 94 #[.int .i64 ((l[i1]).From), .int .i64 ((l[i1]).To), .slice B16 ((l[i1]).List.length) c17], hE aC 94 gf7 c0 i1 [.int .i64 ((l[i1]).From), .int .i64 ((l[i1]).To), .slice B16 ((l[i1]).List.length) c17] (clL a b l i1)] W24 := Ha26.pick [1, 0, 2] kD rfl; clear Ha26
       have H68 : St w F0 [hM aC (l[i1]) [.int .i64 ((l[i1]).From), .int .i64 ((l[i1]).To), .slice B16 ((l[i1]).List.length) c17], hB g_2_3 94 #[.int .i64 ((l[i1]).From), .int .i64 ((l[i1]).To), .slice B16 ((l[i1]).List.length) c17], hE aC 94 gf7 c0 i1 [.int .i64 ((l[i1]).From), .int .i64 ((l[i1]).To), .slice B16 ((l[i1]).List.length) c17] (clL a b l i1)] W24 := H67.swap (l0 := [hR aF 31 (.slice B16 ((l[i1]).List.length) c17) ((l[i1]).List)]) (l' := [hM aC (l[i1]) [.int .i64 ((l[i1]).From), .int .i64 ((l[i1]).To), .slice B16 ((l[i1]).List.length) c17]]) (fun _ h => Star.one (bD (x := l[i1]) h)); clear H67
       have H69 : St w F0 [hE aC 94 gf7 c0 i1 [.int .i64 ((l[i1]).From), .int .i64 ((l[i1]).To), .slice B16 ((l[i1]).List.length) c17] (clL a b l i1), hM aC (l[i1]) [.int .i64 ((l[i1]).From), .int .i64 ((l[i1]).To), .slice B16 ((l[i1]).List.length) c17], hB g_2_3 94 #[.int .i64 ((l[i1]).From), .int .i64 ((l[i1]).To), .slice B16 ((l[i1]).List.length) c17]] W24 := H68.pick [2, 0, 1] kD rfl; clear H68
       have H70 : St w F0 [hR aC 94 (.slice (some ⟨gf7, 0, none⟩) l.length c0) (clL a b l (i1 + 1)), hB g_2_3 94 #[.int .i64 ((l[i1]).From), .int .i64 ((l[i1]).To), .slice B16 ((l[i1]).List.length) c17]] W24 := H69.fC (clL_set a b l i1 hlt1 l[i1] hclr) (clL_len a b l (i1 + 1)).symm; clear H69
       exact (aW [(0, .slice (some ⟨gf7, 0, none⟩) l.length c0), (1, .int .i64 (a)), (2, .int .i64 (b)), (8, .slice (some ⟨gf7, 0, none⟩) l.length c0), (9, .int .i64 ((l.length : Nat))), (10, .int .i64 (((i1 + 1 : Nat) : Int)))] rfl).elim fun x' hx => ⟨r2 - 1, kO, i1 + 1, x', hx, kO, trivial, H70.pick [0] kD rfl⟩
     ·refine aA ?_
      refine aU rfl rfl rfl rfl (fun _ ho71 => ?_)
      refine aB ho71 (bH hg47 (bM rfl rfl)) rfl rfl ?_
      refine aA ?_
      refine aU rfl rfl rfl rfl (fun _ ho72 => ?_)
      refine aB ho72 (aD rfl) rfl rfl ?_
      refine aA ?_
      refine aJ rfl rfl rfl rfl rfl rfl rfl ?_
      refine aA ?_
      refine aJ rfl rfl rfl rfl rfl rfl rfl ?_
      refine aA ?_
      refine aJ rfl rfl rfl rfl rfl rfl rfl ?_
      refine aA ?_
      refine aJ rfl rfl rfl rfl rfl rfl rfl ?_
      refine aA ?_
      refine aU rfl rfl rfl rfl (fun _ ho73 => ?_)
      refine aB ho73 (aP (v := .bool (false)) (b := false) rfl rfl rfl rfl) rfl rfl ?_
      refine aA ?_
      refine aB rfl (aP (v := .bool (false)) (b := false) rfl rfl rfl rfl) rfl rfl ?_
      refine aH ?_
      refine aI ?_
      refine dA rfl ?_
      refine wp_skip ?_
      refine dW ?_
      refine aI ?_
      refine aK [0, 1] rfl ?_
      refine aA ?_
      refine aB rfl (dP (k := i1) rfl rfl kO) rfl rfl ?_
      refine aA ?_
      refine aB rfl (aD rfl) rfl rfl ?_
      refine aH ?_
      refine aI ?_
      have hclr : clr a b l[i1] = l[i1] := if_neg (by rintro (⟨q1, q2⟩ | ⟨q1, q2⟩) <;> omega)
      have H74 : St w F0 [hR aF 31 (.slice B16 ((l[i1]).List.length) c17) ((l[i1]).List), hB g_2_3 94 #[.int .i64 ((l[i1]).From), .int .i64 ((l[i1]).To), .slice B16 ((l[i1]).List.length) c17], hE aC 94 gf7 c0 i1 [.int .i64 ((l[i1]).From), .int .i64 ((l[i1]).To), .slice B16 ((l[i1]).List.length) c17] (clL a b l i1)] W24 := Ha26.pick [1, 0, 2] kD rfl; clear Ha26
      have H75 : St w F0 [hM aC (l[i1]) [.int .i64 ((l[i1]).From), .int .i64 ((l[i1]).To), .slice B16 ((l[i1]).List.length) c17], hB g_2_3 94 #[.int .i64 ((l[i1]).From), .int .i64 ((l[i1]).To), .slice B16 ((l[i1]).List.length) c17], hE aC 94 gf7 c0 i1 [.int .i64 ((l[i1]).From), .int .i64 ((l[i1]).To), .slice B16 ((l[i1]).List.length) c17] (clL a b l i1)] W24 := H74.swap (l0 := [hR aF 31 (.slice B16 ((l[i1]).List.length) c17) ((l[i1]).List)]) (l' := [hM aC (l[i1]) [.int .i64 ((l[i1]).From), .int .i64 ((l[i1]).To), .slice B16 ((l[i1]).List.length) c17]]) (fun _ h => Star.one (bD (x := l[i1]) h)); clear H74
      have H76 : St w F0 [hE aC 94 gf7 c0 i1 [.int .i64 ((l[i1]).From), .int .i64 ((l[i1]).To), .slice B16 ((l[i1]).List.length) c17] (clL a b l i1), hM aC (l[i1]) [.int .i64 ((l[i1]).From), .int .i64 ((l[i1]).To), .slice B16 ((l[i1]).List.length) c17], hB g_2_3 94 #[.int .i64 ((l[i1]).From), .int .i64 ((l[i1]).To), .slice B16 ((l[i1]).List.length) c17]] W24 := H75.pick [2, 0, 1] kD rfl; clear H75
      have H77 : St w F0 [hR aC 94 (.slice (some ⟨gf7, 0, none⟩) l.length c0) (clL a b l (i1 + 1)), hB g_2_3 94 #[.int .i64 ((l[i1]).From), .int .i64 ((l[i1]).To), .slice B16 ((l[i1]).List.length) c17]] W24 := H76.fC (clL_set a b l i1 hlt1 l[i1] hclr) (clL_len a b l (i1 + 1)).symm; clear H76
      exact (aW [(0, .slice (some ⟨gf7, 0, none⟩) l.length c0), (1, .int .i64 (a)), (2, .int .i64 (b)), (8, .slice (some ⟨gf7, 0, none⟩) l.length c0), (9, .int .i64 ((l.length : Nat))), (10, .int .i64 (((i1 + 1 : Nat) : Int)))] rfl).elim fun x' hx => ⟨r2 - 1, kO, i1 + 1, x', hx, kO, trivial, H77.pick [0] kD rfl⟩
   ·refine aA ?_
    refine aB rfl (bH hg28 (bM rfl rfl)) rfl rfl ?_
    refine aA ?_
    refine aB rfl (aD rfl) rfl rfl ?_
    refine aA ?_
    refine aJ rfl rfl rfl rfl rfl rfl rfl ?_
    refine aA ?_
    refine aJ rfl rfl rfl rfl rfl rfl rfl ?_
    refine aA ?_
    refine aJ rfl rfl rfl rfl rfl rfl rfl ?_
    refine aA ?_
    refine aJ rfl rfl rfl rfl rfl rfl rfl ?_
    refine aA ?_
    refine aB rfl (aP (v := .bool (false)) (b := false) rfl rfl rfl rfl) rfl rfl ?_
    refine aA ?_
    refine aB rfl (aD rfl) rfl rfl ?_
    refine aA ?_
    refine aU rfl rfl rfl rfl (fun _ ho78 => ?_)
    refine aB ho78 (aS fa_94_0 rfl) rfl rfl ?_
    refine aA ?_
    refine aU rfl rfl rfl rfl (fun _ ho79 => ?_)
    refine aB ho79 (bC (k := 0) (v := .int .i64 ((l[i1]).From)) Try.isAgg3 rfl (Ha26.blk 0 rfl) rfl) rfl rfl ?_
    refine aA ?_
    refine aU rfl rfl rfl rfl (fun _ ho80 => ?_)
    refine aB ho80 (aD rfl) rfl rfl ?_
    by_cases hg81 : (((l[i1]).From) : Int) = b
    ·refine aA ?_
     refine aU rfl rfl rfl rfl (fun _ ho82 => ?_)
     refine aB ho82 (bG hg81 (bM rfl rfl)) rfl rfl ?_
     refine aA ?_
     refine aU rfl rfl rfl rfl (fun _ ho83 => ?_)
     refine aB ho83 (aD rfl) rfl rfl ?_
     refine aA ?_
     refine aU rfl rfl rfl rfl (fun _ ho84 => ?_)
     refine aB ho84 (aS fa_94_1 rfl) rfl rfl ?_
     refine aA ?_
     refine aU rfl rfl rfl rfl (fun _ ho85 => ?_)
     refine aB ho85 (bC (k := 1) (v := .int .i64 ((l[i1]).To)) Try.isAgg3 rfl (Ha26.blk 0 rfl) rfl) rfl rfl ?_
     refine aA ?_
     refine aU rfl rfl rfl rfl (fun _ ho86 => ?_)
     refine aB ho86 (aD rfl) rfl rfl ?_
     by_cases hg87 : (((l[i1]).To) : Int) = a
     ·refine aA ?_
      refine aU rfl rfl rfl rfl (fun _ ho88 => ?_)
      refine aB ho88 (bG hg87 (bM rfl rfl)) rfl rfl ?_
      refine aA ?_
      refine aU rfl rfl rfl rfl (fun _ ho89 => ?_)
      refine aB ho89 (aP (v := .bool (true)) (b := true) rfl rfl rfl rfl) rfl rfl ?_
      refine aA ?_
      refine aB rfl (aP (v := .bool (true)) (b := false) rfl rfl rfl rfl) rfl rfl ?_
      refine aH ?_
      refine aI ?_
      refine dO rfl ?_
      refine aK [0, 1, 2, 3, 4] rfl ?_
      refine aA ?_
      refine aB rfl (aD rfl) rfl rfl ?_
      refine aA ?_
      refine aB rfl (aD rfl) rfl rfl ?_
      refine aA ?_
      refine aB rfl (bB (k := i1) Try.runUnderlying24 Try.sizeOf94 rfl rfl rfl (Nat.lt_of_lt_of_eq hlc hn9.symm)) rfl rfl ?_
      refine aA ?_
      refine aB rfl (aS bY rfl) rfl rfl ?_
      refine aA ?_
      have H93 : St w F0 [hE aC 94 gf7 c0 i1 [.int .i64 ((l[i1]).From), .int .i64 ((l[i1]).To), .slice B16 ((l[i1]).List.length) c17] (clL a b l i1), hB g_2_3 94 #[.int .i64 ((l[i1]).From), .int .i64 ((l[i1]).To), .slice B16 ((l[i1]).List.length) c17], hR aF 31 (.slice B16 ((l[i1]).List.length) c17) ((l[i1]).List)] W24 := Ha26.pick [2, 0, 1] kD rfl; clear Ha26
      refine fB (dk := aC) (k := 2) (ce' := [.int .i64 ((l[i1]).From), .int .i64 ((l[i1]).To), .slice none 0 0]) rfl Try.sizeOf37 rfl rfl rfl rfl (Nat.le_of_ble_eq_true rfl) (by simp [Value.cells, Value.oneCell']) rfl H93 ?_
      intro W90 hu91 Ha92; clear H93; clear hu91
      refine aH ?_
      refine dW ?_
      refine aI ?_
      refine aK [0, 1] rfl ?_
      refine aA ?_
      refine aB rfl (dP (k := i1) rfl rfl kO) rfl rfl ?_
      refine aA ?_
      refine aB rfl (aD rfl) rfl rfl ?_
      refine aH ?_
      refine aI ?_
      have hclr : clr a b l[i1] = (⟨l[i1].From, l[i1].To, []⟩ : GChannel) := if_pos (by first | exact .inl ⟨by assumption, by assumption⟩ | exact .inr ⟨by assumption, by assumption⟩)
      have H95 : St w F0 [hR aF 31 (.slice none 0 0) ([]), hE aC 94 gf7 c0 i1 [.int .i64 ((l[i1]).From), .int .i64 ((l[i1]).To), .slice none 0 0] (clL a b l i1), hB g_2_3 94 #[.int .i64 ((l[i1]).From), .int .i64 ((l[i1]).To), .slice B16 ((l[i1]).List.length) c17], hR aF 31 (.slice B16 ((l[i1]).List.length) c17) ((l[i1]).List)] W90 := Ha92.add0 (q := hR aF 31 (.slice none 0 0) []) R_nil; clear Ha92
      have H96 : St w F0 [hM aC (⟨l[i1].From, l[i1].To, []⟩ : GChannel) [.int .i64 ((l[i1]).From), .int .i64 ((l[i1]).To), .slice none 0 0], hE aC 94 gf7 c0 i1 [.int .i64 ((l[i1]).From), .int .i64 ((l[i1]).To), .slice none 0 0] (clL a b l i1), hB g_2_3 94 #[.int .i64 ((l[i1]).From), .int .i64 ((l[i1]).To), .slice B16 ((l[i1]).List.length) c17], hR aF 31 (.slice B16 ((l[i1]).List.length) c17) ((l[i1]).List)] W90 := H95.swap (l0 := [hR aF 31 (.slice none 0 0) ([])]) (l' := [hM aC (⟨l[i1].From, l[i1].To, []⟩ : GChannel) [.int .i64 ((l[i1]).From), .int .i64 ((l[i1]).To), .slice none 0 0]]) (fun _ h => Star.one (bD (x := (⟨l[i1].From, l[i1].To, []⟩ : GChannel)) h)); clear H95
      have H97 : St w F0 [hE aC 94 gf7 c0 i1 [.int .i64 ((l[i1]).From), .int .i64 ((l[i1]).To), .slice none 0 0] (clL a b l i1), hM aC (⟨l[i1].From, l[i1].To, []⟩ : GChannel) [.int .i64 ((l[i1]).From), .int .i64 ((l[i1]).To), .slice none 0 0], hB g_2_3 94 #[.int .i64 ((l[i1]).From), .int .i64 ((l[i1]).To), .slice B16 ((l[i1]).List.length) c17], hR aF 31 (.slice B16 ((l[i1]).List.length) c17) ((l[i1]).List)] W90 := H96.pick [1, 0, 2, 3] kD rfl; clear H96
      have H98 : St w F0 [hR aC 94 (.slice (some ⟨gf7, 0, none⟩) l.length c0) (clL a b l (i1 + 1)), hB g_2_3 94 #[.int .i64 ((l[i1]).From), .int .i64 ((l[i1]).To), .slice B16 ((l[i1]).List.length) c17], hR aF 31 (.slice B16 ((l[i1]).List.length) c17) ((l[i1]).List)] W90 := H97.fC (clL_set a b l i1 hlt1 (⟨l[i1].From, l[i1].To, []⟩ : GChannel) hclr) (clL_len a b l (i1 + 1)).symm; clear H97
      exact (aW [(0, .slice (some ⟨gf7, 0, none⟩) l.length c0), (1, .int .i64 (a)), (2, .int .i64 (b)), (8, .slice (some ⟨gf7, 0, none⟩) l.length c0), (9, .int .i64 ((l.length : Nat))), (10, .int .i64 (((i1 + 1 : Nat) : Int)))] rfl).elim fun x' hx => ⟨r2 - 1, kO, i1 + 1, x', hx, kO, trivial, H98.pick [0] kD rfl⟩
     ·refine aA ?_
      refine aU rfl rfl rfl rfl (fun _ ho99 => ?_)
      refine aB ho99 (bH hg87 (bM rfl rfl)) rfl rfl ?_
      refine aA ?_
      refine aU rfl rfl rfl rfl (fun _ ho100 => ?_)
      refine aB ho100 (aP (v := .bool (false)) (b := true) rfl rfl rfl rfl) rfl rfl ?_
      refine aA ?_
      refine aB rfl (aP (v := .bool (false)) (b := false) rfl rfl rfl rfl) rfl rfl ?_
      refine aH ?_
      refine aI ?_
      refine dA rfl ?_
      refine wp_skip ?_
      refine dW ?_
      refine aI ?_
      refine aK [0, 1] rfl ?_
      refine aA ?_
      refine aB rfl (dP (k := i1) rfl rfl kO) rfl rfl ?_
      refine aA ?_
      refine aB rfl (aD rfl) rfl rfl ?_
      refine aH ?_
      refine aI ?_
      have hclr : clr a b l[i1] = l[i1] := if_neg (by rintro (⟨q1, q2⟩ | ⟨q1, q2⟩) <;> omega)
      have H101 : St w F0 [hR aF 31 (.slice B16 ((l[i1]).List.length) c17) ((l[i1]).List), hB g_2_3 94 #[.int .i64 ((l[i1]).From), .int .i64 ((l[i1]).To), .slice B16 ((l[i1]).List.length) c17], hE aC 94 gf7 c0 i1 [.int .i64 ((l[i1]).From), .int .i64 ((l[i1]).To), .slice B16 ((l[i1]).List.length) c17] (clL a b l i1)] W24 := Ha26.pick [1, 0, 2] kD rfl; clear Ha26
      have H102 : St w F0 [hM aC (l[i1]) [.int .i64 ((l[i1]).From), .int .i64 ((l[i1]).To), .slice B16 ((l[i1]).List.length) c17], hB g_2_3 94 #[.int .i64 ((l[i1]).From), .int .i64 ((l[i1]).To), .slice B16 ((l[i1]).List.length) c17], hE aC 94 gf7 c0 i1 [.int .i64 ((l[i1]).From), .int .i64 ((l[i1]).To), .slice B16 ((l[i1]).List.length) c17] (clL a b l i1)] W24 := H101.swap (l0 := [hR aF 31 (.slice B16 ((l[i1]).List.length) c17) ((l[i1]).List)]) (l' := [hM aC (l[i1]) [.int .i64 ((l[i1]).From), .int .i64 ((l[i1]).To), .slice B16 ((l[i1]).List.length) c17]]) (fun _ h => Star.one (bD (x := l[i1]) h)); clear H101
      have H103 : St w F0 [hE aC 94 gf7 c0 i1 [.int .i64 ((l[i1]).From), .int .i64 ((l[i1]).To), .slice B16 ((l[i1]).List.length) c17] (clL a b l i1), hM aC (l[i1]) [.int .i64 ((l[i1]).From), .int .i64 ((l[i1]).To), .slice B16 ((l[i1]).List.length) c17], hB g_2_3 94 #[.int .i64 ((l[i1]).From), .int .i64 ((l[i1]).To), .slice B16 ((l[i1]).List.length) c17]] W24 := H102.pick [2, 0, 1] kD rfl; clear H102
      have H104 : St w F0 [hR aC 94 (.slice (some ⟨gf7, 0, none⟩) l.length c0) (clL a b l (i1 + 1)), hB g_2_3 94 #[.int .i64 ((l[i1]).From), .int .i64 ((l[i1]).To), .slice B16 ((l[i1]).List.length) c17]] W24 := H103.fC (clL_set a b l i1 hlt1 l[i1] hclr) (clL_len a b l (i1 + 1)).symm; clear H103
      exact (aW [(0, .slice (some ⟨gf7, 0, none⟩) l.length c0), (1, .int .i64 (a)), (2, .int .i64 (b)), (8, .slice (some ⟨gf7, 0, none⟩) l.length c0), (9, .int .i64 ((l.length : Nat))), (10, .int .i64 (((i1 + 1 : Nat) : Int)))] rfl).elim fun x' hx => ⟨r2 - 1, kO, i1 + 1, x', hx, kO, trivial, H104.pick [0] kD rfl⟩
    ·refine aA ?_
     refine aU rfl rfl rfl rfl (fun _ ho105 => ?_)
     refine aB ho105 (bH hg81 (bM rfl rfl)) rfl rfl ?_
     refine aA ?_
     refine aU rfl rfl rfl rfl (fun _ ho106 => ?_)
     refine aB ho106 (aD rfl) rfl rfl ?_
     refine aA ?_
     refine aJ rfl rfl rfl rfl rfl rfl rfl ?_
     refine aA ?_
     refine aJ rfl rfl rfl rfl rfl rfl rfl ?_
     refine aA ?_
     refine aJ rfl rfl rfl rfl rfl rfl rfl ?_
     refine aA ?_
     refine aJ rfl rfl rfl rfl rfl rfl rfl ?_
     refine aA ?_
     refine aU rfl rfl rfl rfl (fun _ ho107 => ?_)
     refine aB ho107 (aP (v := .bool (false)) (b := false) rfl rfl rfl rfl) rfl rfl ?_
     refine aA ?_
     refine aB rfl (aP (v := .bool (false)) (b := false) rfl rfl rfl rfl) rfl rfl ?_
     refine aH ?_
     refine aI ?_
     refine dA rfl ?_
     refine wp_skip ?_
     refine dW ?_
     refine aI ?_
     refine aK [0, 1] rfl ?_
     refine aA ?_
     refine aB rfl (dP (k := i1) rfl rfl kO) rfl rfl ?_
     refine aA ?_
     refine aB rfl (aD rfl) rfl rfl ?_
     refine aH ?_
     refine aI ?_
     have hclr : clr a b l[i1] = l[i1] := if_neg (by rintro (⟨q1, q2⟩ | ⟨q1, q2⟩) <;> omega)
     have H108 : St w F0 [hR aF 31 (.slice B16 ((l[i1]).List.length) c17) ((l[i1]).List), hB g_2_3 94 #[.int .i64 ((l[i1]).From), .int .i64 ((l[i1]).To), .slice B16 ((l[i1]).List.length) c17], hE aC 94 gf7 c0 i1 [.int .i64 ((l[i1]).From), .int .i64 ((l[i1]).To), .slice B16 ((l[i1]).List.length) c17] (clL a b l i1)] W24 := Ha26.pick [1, 0, 2] kD rfl; clear Ha26
     have H109 : St w F0 [hM aC (l[i1]) [.int .i64 ((l[i1]).From), .int .i64 ((l[i1]).To), .slice B16 ((l[i1]).List.length) c17], hB g_2_3 94 #[.int .i64 ((l[i1]).From), .int .i64 ((l[i1]).To), .slice B16 ((l[i1]).List.length) c17], hE aC 94 gf7 c0 i1 [.int .i64 ((l[i1]).From), .int .i64 ((l[i1]).To), .slice B16 ((l[i1]).List.length) c17] (clL a b l i1)] W24 := H108.swap (l0 := [hR aF 31 (.slice B16 ((l[i1]).List.length) c17) ((l[i1]).List)]) (l' := [hM aC (l[i1]) [.int .i64 ((l[i1]).From), .int .i64 ((l[i1]).To), .slice B16 ((l[i1]).List.length) c17]]) (fun _ h => Star.one (bD (x := l[i1]) h)); clear H108
     have H110 : St w F0 [hE aC 94 gf7 c0 i1 [.int .i64 ((l[i1]).From), .int .i64 ((l[i1]).To), .slice B16 ((l[i1]).List.length) c17] (clL a b l i1), hM aC (l[i1]) [.int .i64 ((l[i1]).From), .int .i64 ((l[i1]).To), .slice B16 ((l[i1]).List.length) c17], hB g_2_3 94 #[.int .i64 ((l[i1]).From), .int .i64 ((l[i1]).To), .slice B16 ((l[i1]).List.length) c17]] W24 := H109.pick [2, 0, 1] kD rfl; clear H109
     have H111 : St w F0 [hR aC 94 (.slice (some ⟨gf7, 0, none⟩) l.length c0) (clL a b l (i1 + 1)), hB g_2_3 94 #[.int .i64 ((l[i1]).From), .int .i64 ((l[i1]).To), .slice B16 ((l[i1]).List.length) c17]] W24 := H110.fC (clL_set a b l i1 hlt1 l[i1] hclr) (clL_len a b l (i1 + 1)).symm; clear H110
     exact (aW [(0, .slice (some ⟨gf7, 0, none⟩) l.length c0), (1, .int .i64 (a)), (2, .int .i64 (b)), (8, .slice (some ⟨gf7, 0, none⟩) l.length c0), (9, .int .i64 ((l.length : Nat))), (10, .int .i64 (((i1 + 1 : Nat) : Int)))] rfl).elim fun x' hx => ⟨r2 - 1, kO, i1 + 1, x', hx, kO, trivial, H111.pick [0] kD rfl⟩
  ·have hge1 : l.length ≤ i1 := by omega
   refine wp_exit ?_
   refine bR ?_
   refine bR ?_
   refine inB_x ?_
   obtain rfl : i1 = l.length := by omega
   rw [clL_end] at H5
   refine post_void (.inr rfl) Try.results59 ?_
   exact ⟨rfl, H5.pick [0] kD rfl⟩
theorem clearChannel_i (l : List GChannel) (a b : Int) (A : Option Addr) (c : Nat) (w : World) (hC : C aC w A l) (hs : bJ aL l ≤ 4194304) : Calls Try.prog 15 #[.slice A l.length c, .int .i64 a, .int .i64 b] w (eH aC 94 (clA a b l) w) := by
 refine enter 15 [(0, .slice A l.length c), (1, .int .i64 (a)), (2, .int .i64 (b))] Try.func15 rfl kR ?_
 intro xj
 have H1 : St w No [] w := St.enter
 have hn : l.length ≤ 4194304 := by unfold bJ at hs; omega
 refine wp_seq ?_
 refine aK [0] rfl ?_
 refine aA ?_
 refine aB rfl (aG rfl) rfl rfl ?_
 refine aH ?_
 refine aI ?_
 refine wp_seq ?_
 refine aK [0, 1, 2] rfl ?_
 refine aA ?_
 refine aB rfl (aD rfl) rfl rfl ?_
 refine aA ?_
 refine aN rfl Try.call46 (vs := #[.slice A l.length c]) rfl rfl rfl (fD l _ _ _ (bQ H1.1 hC) hs) ?_
 rintro e6 W5 ⟨v2, rfl, hR3, hu4⟩; refine ⟨_, rfl, ?_⟩
 obtain ⟨B_1_1, c_1_1, rfl⟩ := bK hR3
 have H7 := H1.new (q := hR aC 94 (.slice B_1_1 l.length c_1_1) l) hu4 hR3; clear H1
 refine aA ?_
 refine aB rfl (aG rfl) rfl rfl ?_
 refine aH ?_
 refine aI ?_
 refine wp_seq ?_
 refine aK [0, 1, 2, 3] rfl ?_
 refine aA ?_
 refine aB rfl (aD rfl) rfl rfl ?_
 refine aA ?_
 refine aB rfl (aD rfl) rfl rfl ?_
 refine aA ?_
 refine aB rfl (aD rfl) rfl rfl ?_
 refine aA ?_
 obtain ⟨F8, hs9, _, hfr10⟩ := St.frame (l0 := [hR aC 94 (.slice B_1_1 l.length c_1_1) l]) (l := []) H7
 refine aN rfl Try.call59 (vs := #[.slice B_1_1 l.length c_1_1, .int .i64 (a), .int .i64 (b)]) rfl rfl rfl (clear_i l a b _ _ _ _ hs9 hn) ?_
 rintro e13 W12 ⟨rfl, Hn11⟩; refine ⟨_, rfl, ?_⟩
 have H14 := hfr10 _ _ Hn11; clear H7
 refine aH ?_
 refine aI ?_
 refine wp_seq ?_
 refine aK [0, 1] rfl ?_
 refine aA ?_
 refine aB rfl (aD rfl) rfl rfl ?_
 refine aA ?_
 refine aB rfl (aG rfl) rfl rfl ?_
 refine aH ?_
 refine aI ?_
 refine wp_ret ?_
 refine aV (.inl rfl) Try.results15 rfl ?_
 have hq := (H14.pick [0] kD rfl : St w No [hR aC 94 (.slice B_1_1 l.length c_1_1) (clA a b l)] W12).fin1
 exact ⟨_, rfl, hq.1, hq.2⟩
end Go.Proofs.YtdfipdpeilegpaaFam
namespace Go.Proofs.YtdfipdpeilegpaaT
open Go.Proofs.YtdfipdpeilegpaaSep
def dB {α : Type} (f : α → α → Bool) : List α → List α → Bool
 | [], [] => true
 | x :: l, y :: k => f x y && dB f l k
 | [], _ :: _ => false
 | _ :: _, [] => false
section
variable {α : Type} (f : α → α → Bool)
theorem eqlS_len : ∀ l k : List α, l.length ≠ k.length → dB f l k = false
 | [], [], h => absurd rfl h
 | x :: l, y :: k, h => by simp [dB, eqlS_len l k (by simpa using h)]
 | [], _ :: _, _ => rfl
 | _ :: _, [], _ => rfl
theorem eqlS_yes (l k : List α) (i : Nat) (h : i < l.length) (h' : i < k.length) (hf : f l[i] k[i] = true) : dB f (l.drop i) (k.drop i) = dB f (l.drop (i + 1)) (k.drop (i + 1)) := by
 rw [List.drop_eq_getElem_cons h, List.drop_eq_getElem_cons h', dB, hf, Bool.true_and]
theorem eqlS_no (l k : List α) (i : Nat) (h : i < l.length) (h' : i < k.length) (hf : f l[i] k[i] = false) : dB f (l.drop i) (k.drop i) = false := by
 rw [List.drop_eq_getElem_cons h, List.drop_eq_getElem_cons h', dB, hf, Bool.false_and]
theorem eqlS_end (l k : List α) (i : Nat) (h : l.length ≤ i) (h' : k.length ≤ i) : dB f (l.drop i) (k.drop i) = true := by
 rw [List.drop_eq_nil_of_le h, List.drop_eq_nil_of_le h']; rfl
theorem eqlS_rfl (hf : ∀ x, f x x = true) : ∀ l : List α, dB f l l = true
 | [] => rfl
 | x :: l => by simp [dB, hf, eqlS_rfl hf l]
end
def bO (x y : GWire) : Bool := (x.Kind == y.Kind) && (x.N == y.N)
def eqb_Tag (x y : GTag) : Bool := (x.Vat == y.Vat) && (x.Entity == y.Entity) && (x.Seq == y.Seq)
def aT (x y : GMessage) : Bool := (x.Kind == y.Kind) && (x.Pos == y.Pos) && (x.bI == y.bI) && (x.Question == y.Question) && (x.Name.toList == y.Name.toList) && dB bO x.bF y.bF && bO x.Value y.Value && (x.Count == y.Count) && eqb_Tag x.Tag y.Tag
def bA (x y : GChannel) : Bool := (x.From == y.From) && (x.To == y.To) && dB aT x.List y.List
end Go.Proofs.YtdfipdpeilegpaaT
namespace Go.Proofs.YtdfipdpeilegpaaFam
open Go.ChangeShapes Go.WideShapes Go.RowKit Go.Proofs.YtdfipdpeilegpaaSep Go.Proofs.YtdfipdpeilegpaaT Go.Proofs.YtdfipdpeilegpaaK
set_option linter.unusedVariables false
set_option linter.unusedSimpArgs false
attribute [local irreducible] wpOps wpOp
theorem eqr_Wire (x y : GWire) (W : World) (k : Nat) : (Op.equalIn (k + 2) 27 (.agg #[.int .i64 (x.Kind), .int .i64 (x.N)]) (.agg #[.int .i64 (y.Kind), .int .i64 (y.N)])).run Try.prog W = .ok (bO x y) W := by
 rw [show k + 2 = (k + 1) + 1 from rfl, run_equalIn_struct (P := Try.prog) W _ 27 _ _ (by simp [Program.fieldsOf, Try.underlying27]) Try.stoodInHeld27]
 simp [Program.fieldsOf, Try.underlying27, Op.eqFields, part, Try.isAgg3, Try.sizeOf3, Try.isAgg9, Try.sizeOf9, Try.isAgg27, Try.sizeOf27, Try.isAgg4, Try.sizeOf4, Try.underlying3, Try.underlying4, Try.underlying9, run_equalIn_int, run_equalIn_string, run_equalIn_bool', Sem.run_pure, bO, Result.andThen]
 (repeat' split) <;> simp [*]
theorem eqr_Tag (x y : GTag) (W : World) (k : Nat) : (Op.equalIn (k + 2) 29 (.agg #[.int .i64 (x.Vat), .int .i64 (x.Entity), .int .i64 (x.Seq)]) (.agg #[.int .i64 (y.Vat), .int .i64 (y.Entity), .int .i64 (y.Seq)])).run Try.prog W = .ok (eqb_Tag x y) W := by
 rw [show k + 2 = (k + 1) + 1 from rfl, run_equalIn_struct (P := Try.prog) W _ 29 _ _ (by simp [Program.fieldsOf, Try.underlying29]) Try.stoodInHeld29]
 simp [Program.fieldsOf, Try.underlying29, Op.eqFields, part, Try.isAgg9, Try.sizeOf9, Try.isAgg3, Try.sizeOf3, Try.isAgg4, Try.sizeOf4, Try.isAgg29, Try.sizeOf29, Try.underlying3, Try.underlying4, Try.underlying9, run_equalIn_int, run_equalIn_string, run_equalIn_bool', Sem.run_pure, eqb_Tag, Result.andThen]
 (repeat' split) <;> simp [*]
end Go.Proofs.YtdfipdpeilegpaaFam

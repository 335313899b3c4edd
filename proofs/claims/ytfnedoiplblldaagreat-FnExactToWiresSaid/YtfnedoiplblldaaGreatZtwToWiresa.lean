/- What the row needs, packed. No conditions beyond those that each law names. -/
import Derived.Test.YtfnedoiplblldaaGreatZtw5
import Derived.Test.YtfnedoiplblldaaGreatProg
import Derived.Test.YtfnedoiplblldaaGreatZtw1
namespace Go.Proofs.YtfnedoiplblldaaGreatFam
open Go.ChangeShapes Go.WideShapes Go.RowKit Go.Proofs.YtfnedoiplblldaaGreatSep Go.Proofs.YtfnedoiplblldaaGreatT Go.Proofs.YtfnedoiplblldaaGreatK
set_option linter.unusedVariables false
set_option linter.unusedSimpArgs false
attribute [local irreducible] wpOps wpOp
set_option maxHeartbeats 4000000
set_option maxRecDepth 100000
def RetAR {α : Type} (d : Kn α) (x : α) (e1 : Nat) (l : List GWire) (w : World) (e : Ending) (w' : World) : Prop := ∃ cs B cB, e = .returned (.tuple #[.agg cs.toArray, .slice B l.length cB]) ∧ Star [hM d x cs, hR bW e1 (.slice B l.length cB) l] w' (New w) ∧ Upd No w w'
def tsP (p : Int) (x : GVat) (vs : List GValue) : GVat × List GWire := vs.foldl (fun s v => (twV p v s.1, s.2 ++ [twR p v s.1])) (x, [])
def tsX (p : Int) (x : GVat) (vs : List GValue) (i : Nat) : GVat := (tsP p x (vs.take i)).1
def tsO (p : Int) (x : GVat) (vs : List GValue) (i : Nat) : List GWire := (tsP p x (vs.take i)).2
theorem ts_succ (p : Int) (x : GVat) (vs : List GValue) (i : Nat) (h : i < vs.length) : tsX p x vs (i + 1) = twV p vs[i] (tsX p x vs i) ∧ tsO p x vs (i + 1) = tsO p x vs i ++ [twR p vs[i] (tsX p x vs i)] := by
 unfold tsX tsO tsP
 rw [List.take_succ_eq_append_getElem h, List.foldl_append]
 exact ⟨rfl, rfl⟩
theorem ts_len (p : Int) (x : GVat) (vs : List GValue) : ∀ i, i ≤ vs.length → (tsO p x vs i).length = i
 | 0, _ => rfl
 | i + 1, h => by
  rw [(ts_succ p x vs i h).2, List.length_append, ts_len p x vs i kO]
  rfl
theorem sumS_set1 {α : Type} (s : α → Nat) (y : α) : ∀ (l : List α) (k : Nat) (h : k < l.length), gX s (l.set k y) + s l[k] = gX s l + s y
 | [], k, h => by simp at h
 | x :: l, 0, _ => by
  simp only [List.set_cons_zero, gX, List.getElem_cons_zero]
  omega
 | x :: l, k + 1, h => by
  have := sumS_set1 s y l k (by simpa using h)
  simp only [List.set_cons_succ, gX, List.getElem_cons_succ]
  omega
theorem twL_sz1 (le : List GEntity) (ll : List GLink) (p : Int) (u : GValue) : bN bQ (twL le ll p u) ≤ bN bQ ll + 1 := by
 unfold twL
 split
 ·omega
 ·split
  ·split
   ·omega
   ·by_cases hk : (fidx (peP p) 0 ll).toNat < ll.length
    ·have h1 := sumS_set1 bQ (pxV u.N (twK ll p)) ll _ hk
     have h2 := pxV_sz u.N (twK ll p)
     have h3 : twK ll p = ll[(fidx (peP p) 0 ll).toNat] := by
      unfold twK
      simp [List.getD, hk]
     rw [← h3] at h1
     unfold bN
     rw [List.length_set]
     omega
    ·rw [List.set_eq_of_length_le kO]
     omega
  ·omega
theorem twV_sz1 (p : Int) (v : GValue) (x : GVat) : bR (twV p v x) ≤ bR x + 1 := by
 have h1 := twL_sz1 x.aA x.aD p (twU v x)
 unfold bR
 simp only [twV]
 omega
theorem ts_sz (p : Int) (x : GVat) (vs : List GValue) : ∀ i, i ≤ vs.length → bR (tsX p x vs i) ≤ bR x + i
 | 0, _ => Nat.le_refl _
 | i + 1, h => by
  have h1 := ts_sz p x vs i kO
  have h2 := twV_sz1 p vs[i] (tsX p x vs i)
  rw [(ts_succ p x vs i h).1]
  omega
theorem ts_bl (x : GVat) (h : bR x ≤ 4194304) : ∀ (q : Nat) (h : q < x.aD.length), x.aD[q].aH.length ≤ 4194304 := by
 intro q hq
 have s_Links : bN bQ x.aD ≤ 4194304 := by unfold bR at h; omega
 have h1 := gT bQ x.aD q hq
 unfold bN at s_Links
 have h4 : bQ x.aD[q] ≤ 4194304 := by omega
 have h5 : bN fK x.aD[q].aH ≤ 4194304 := by unfold bQ at h4; omega
 unfold bN at h5
 omega
theorem ts_ne (x : GVat) (h : bR x ≤ 4194304) : x.aA.length ≤ 4194304 := by
 have h1 : bN dD x.aA ≤ 4194304 := by unfold bR at h; omega
 unfold bN at h1
 omega
theorem toAll_s (x : GVat) (p : Int) (vs : List GValue) (g cE cS cL cO cV : Nat) (AE AS AL AO AV : Option Addr) (F0 : Nat → Prop) (w : World) (h : Star [hB g 68 #[.int .i64 (x.Id), .slice AE x.aA.length cE, .slice AS x.Loop.length cS, .slice AL x.aD.length cL, .slice AO x.Out.length cO], hR aJ 171 (.slice AE x.aA.length cE) x.aA, hR aX 235 (.slice AS x.Loop.length cS) x.Loop, hR aO 178 (.slice AL x.aD.length cL) x.aD, hR aP 147 (.slice AO x.Out.length cO) x.Out] w F0) (hs : bR x ≤ 1048576) (hV : ∀ W', Upd F0 w W' → C aT W' AV vs) (hn : vs.length ≤ 1048576) : Calls Tryz.prog 131 #[.pointer (some ⟨g, 0, none⟩), .int .i64 p, .slice AV vs.length cV] w (fun e' w' => ∃ A c B cB, e' = .returned (.slice B (tsO p x vs vs.length).length cB) ∧ St w F0 [hB g 68 #[.int .i64 ((tsX p x vs vs.length).Id), .slice AE ((tsX p x vs vs.length).aA.length) cE, .slice AS ((tsX p x vs vs.length).Loop.length) cS, .slice A ((tsX p x vs vs.length).aD.length) c, .slice AO ((tsX p x vs vs.length).Out.length) cO], hR aJ 171 (.slice AE ((tsX p x vs vs.length).aA.length) cE) ((tsX p x vs vs.length).aA), hR aX 235 (.slice AS ((tsX p x vs vs.length).Loop.length) cS) ((tsX p x vs vs.length).Loop), hR aO 178 (.slice A ((tsX p x vs vs.length).aD.length) c) ((tsX p x vs vs.length).aD), hR aP 147 (.slice AO ((tsX p x vs vs.length).Out.length) cO) ((tsX p x vs vs.length).Out), hR bW 72 (.slice B (tsO p x vs vs.length).length cB) (tsO p x vs vs.length)] w') := by
 refine enter 27 [(0, .pointer (some ⟨g, 0, none⟩)), (1, .int .i64 (p)), (2, .slice AV vs.length cV)] Tryz.func131 rfl kR ?_
 intro xj
 have H1 : St w F0 [hB g 68 #[.int .i64 (x.Id), .slice AE x.aA.length cE, .slice AS x.Loop.length cS, .slice AL x.aD.length cL, .slice AO x.Out.length cO], hR aJ 171 (.slice AE x.aA.length cE) x.aA, hR aX 235 (.slice AS x.Loop.length cS) x.Loop, hR aO 178 (.slice AL x.aD.length cL) x.aD, hR aP 147 (.slice AO x.Out.length cO) x.Out] w := St.kP h
 refine wp_seq ?_
 refine aS [0] rfl ?_
 refine aB ?_
 refine aC rfl (aW rfl) rfl rfl ?_
 refine aN ?_
 refine aM ?_
 refine wp_seq ?_
 refine aS [0, 1] rfl ?_
 refine aB ?_
 refine op_slice0 (dk := bW) rfl Tryz.runUnderlying71 Tryz.sizeOf72 rfl rfl H1 ?_
 intro A_1_0 W2 hu3 Ha4; clear H1; clear hu3
 refine aB ?_
 refine aC rfl (aW rfl) rfl rfl ?_
 refine aN ?_
 refine aM ?_
 refine wp_seq ?_
 refine wp_seq ?_
 refine aS [0] rfl ?_
 refine aB ?_
 refine aC rfl (aW rfl) rfl rfl ?_
 refine aN ?_
 refine aM ?_
 refine wp_block ?_
 refine wp_loop_ghost (fun r a' W' => ∃ (i1 : Nat) (AL1 : Option Addr) (cL1 : Nat) (AC : Option Addr) (cC : Nat) (x' : Nat → Value), a' = bO 27 x' [(0, .pointer (some ⟨g, 0, none⟩)), (1, .int .i64 (p)), (2, .slice AV vs.length cV), (7, .slice AC ((tsO p x vs i1).length) cC), (8, .int .i64 (((i1 : Nat) : Int)))] ∧ (i1 + r = vs.length) ∧ St w F0 [hB g 68 #[.int .i64 ((tsX p x vs i1).Id), .slice AE ((tsX p x vs i1).aA.length) cE, .slice AS ((tsX p x vs i1).Loop.length) cS, .slice AL1 ((tsX p x vs i1).aD.length) cL1, .slice AO ((tsX p x vs i1).Out.length) cO], hR aJ 171 (.slice AE ((tsX p x vs i1).aA.length) cE) ((tsX p x vs i1).aA), hR aX 235 (.slice AS ((tsX p x vs i1).Loop.length) cS) ((tsX p x vs i1).Loop), hR aO 178 (.slice AL1 ((tsX p x vs i1).aD.length) cL1) ((tsX p x vs i1).aD), hR aP 147 (.slice AO ((tsX p x vs i1).Out.length) cO) ((tsX p x vs i1).Out), hR bW 72 (.slice AC ((tsO p x vs i1).length) cC) (tsO p x vs i1)] W') vs.length ?_ ?_
 ·exact (aZ [(0, .pointer (some ⟨g, 0, none⟩)), (1, .int .i64 (p)), (2, .slice AV vs.length cV), (7, .slice A_1_0 0 0), (8, .int .i64 (((0 : Nat) : Int)))] rfl).elim fun x' hx => ⟨0, AL, cL, A_1_0, 0, x', hx, kO, Ha4.pick [1, 2, 3, 4, 5, 0] kD rfl⟩
 ·rintro r6 _ W7 ⟨i1, AL1, cL1, AC, cC, x8, rfl, hi1, H9⟩; clear Ha4
  refine wp_seq ?_
  refine wp_seq ?_
  refine aS [0, 1, 2, 3] rfl ?_
  refine aB ?_
  refine aC rfl (aK rfl) rfl rfl ?_
  refine aB ?_
  refine aC rfl (aK rfl) rfl rfl ?_
  refine aB ?_
  refine aC rfl (jY Tryz.runUnderlying85 rfl) rfl rfl ?_
  refine aB ?_
  refine aC rfl (iW rfl rfl) rfl rfl ?_
  refine aN ?_
  refine aM ?_
  refine gU rfl (fun hc10 => ?_) (fun hc10 => ?_)
  ·have hlt1 : i1 < vs.length := by omega
   have hsx := ts_succ p x vs i1 hlt1
   have hsX : bR (tsX p x vs i1) ≤ 4194304 := by have := ts_sz p x vs i1 kO; omega
   refine wp_skip ?_
   refine aM ?_
   refine wp_seq ?_
   refine wp_block ?_
   obtain ⟨ade, cse, hAe, hKe, hce⟩ := lS (hV _ H9.1) i1 hlt1
   obtain rfl := j6 hKe
   refine aS [0, 1, 2, 3, 4, 5, 6, 7, 8, 9, 10] rfl ?_
   refine aB ?_
   refine aC rfl (aK rfl) rfl rfl ?_
   refine aB ?_
   refine aC rfl (aK rfl) rfl rfl ?_
   refine aB ?_
   refine aC rfl (aK rfl) rfl rfl ?_
   refine aB ?_
   refine aC rfl (aK rfl) rfl rfl ?_
   refine aB ?_
   refine aC rfl (aK rfl) rfl rfl ?_
   refine aB ?_
   refine aC rfl (fD (k := i1) Tryz.runUnderlying85 Tryz.sizeOf95 rfl rfl hAe hlt1) rfl rfl ?_
   refine aB ?_
   refine aC rfl (jF Tryz.isAgg95 Tryz.sizeOf95 rfl hce rfl) rfl rfl ?_
   refine aB ?_
   obtain ⟨F11, hs12, _, hfr13⟩ := St.frame (l0 := [hB g 68 #[.int .i64 ((tsX p x vs i1).Id), .slice AE ((tsX p x vs i1).aA.length) cE, .slice AS ((tsX p x vs i1).Loop.length) cS, .slice AL1 ((tsX p x vs i1).aD.length) cL1, .slice AO ((tsX p x vs i1).Out.length) cO], hR aJ 171 (.slice AE ((tsX p x vs i1).aA.length) cE) ((tsX p x vs i1).aA), hR aX 235 (.slice AS ((tsX p x vs i1).Loop.length) cS) ((tsX p x vs i1).Loop), hR aO 178 (.slice AL1 ((tsX p x vs i1).aD.length) cL1) ((tsX p x vs i1).aD), hR aP 147 (.slice AO ((tsX p x vs i1).Out.length) cO) ((tsX p x vs i1).Out)]) (l := [hR bW 72 (.slice AC ((tsO p x vs i1).length) cC) (tsO p x vs i1)]) H9
   refine aV rfl Tryz.call129 (vs := #[.pointer (some ⟨g, 0, none⟩), .int .i64 (p), .agg #[.int .i64 (vs[i1].Kind), .int .i64 (vs[i1].N)]]) rfl rfl rfl (l13To_s (tsX p x vs i1) p vs[i1].Kind vs[i1].N _ _ _ _ _ _ _ _ _ _ _ hs12 hsX) ?_
   rintro e16 W15 ⟨A_5_7, c_5_7, rfl, Hn14⟩; refine ⟨_, rfl, ?_⟩
   have H17 := hfr13 _ _ Hn14; clear H9
   refine aB ?_
   refine kK rfl Tryz.runUnderlying71 Tryz.sizeOf72 kD Tryz.zeroValue72 rfl rfl rfl rfl H17 ?_
   intro g_5_8 W18 hu19 Ha20; clear H17; clear hu19
   refine aB ?_
   have H24 : St w F0 [hR bW 72 (.slice AC ((tsO p x vs i1).length) cC) (tsO p x vs i1), hB g_5_8 72 #[.int .i64 ((twW (tsX p x vs i1).aA (tsX p x vs i1).aD p (dW (tsX p x vs i1).aA ((tsX p x vs i1).aA.length + 1) vs[i1].Kind vs[i1].N)).Kind), .int .i64 ((twW (tsX p x vs i1).aA (tsX p x vs i1).aD p (dW (tsX p x vs i1).aA ((tsX p x vs i1).aA.length + 1) vs[i1].Kind vs[i1].N)).N)], hB g 68 #[.int .i64 ((tsX p x vs i1).Id), .slice AE ((tsX p x vs i1).aA.length) cE, .slice AS ((tsX p x vs i1).Loop.length) cS, .slice A_5_7 ((twL (tsX p x vs i1).aA (tsX p x vs i1).aD p (dW (tsX p x vs i1).aA ((tsX p x vs i1).aA.length + 1) vs[i1].Kind vs[i1].N)).length) c_5_7, .slice AO ((tsX p x vs i1).Out.length) cO], hR aJ 171 (.slice AE ((tsX p x vs i1).aA.length) cE) ((tsX p x vs i1).aA), hR aX 235 (.slice AS ((tsX p x vs i1).Loop.length) cS) ((tsX p x vs i1).Loop), hR aO 178 (.slice A_5_7 ((twL (tsX p x vs i1).aA (tsX p x vs i1).aD p (dW (tsX p x vs i1).aA ((tsX p x vs i1).aA.length + 1) vs[i1].Kind vs[i1].N)).length) c_5_7) (twL (tsX p x vs i1).aA (tsX p x vs i1).aD p (dW (tsX p x vs i1).aA ((tsX p x vs i1).aA.length + 1) vs[i1].Kind vs[i1].N)), hR aP 147 (.slice AO ((tsX p x vs i1).Out.length) cO) ((tsX p x vs i1).Out)] W18 := Ha20.pick [6, 0, 1, 2, 3, 4, 5] kD rfl; clear Ha20
   refine nG (xs := (tsO p x vs i1)) (p := (twR p vs[i1] (tsX p x vs i1))) (n' := (tsO p x vs (i1 + 1)).length) (ys := (tsO p x vs (i1 + 1))) rfl Tryz.underlying71 mI rfl kD kD rfl rfl (lV _ No (twR p vs[i1] (tsX p x vs i1))) (by rw [ts_len p x vs i1 kO]; omega) (by rw [hsx.2, List.length_append]; rfl) hsx.2.symm rfl rfl H24 ?_
   intro B_5_9 c_5_9 W22 Ha23; clear H24
   refine aB ?_
   refine aC rfl (aW rfl) rfl rfl ?_
   refine aN ?_
   refine inB_n ?_
   refine aM ?_
   refine aS [0, 1, 2] rfl ?_
   refine aB ?_
   refine aC rfl (aK rfl) rfl rfl ?_
   refine aB ?_
   refine aC rfl (lT (k := i1) rfl rfl kO) rfl rfl ?_
   refine aB ?_
   refine aC rfl (aW rfl) rfl rfl ?_
   refine aN ?_
   refine aM ?_
   have H26 : St w F0 [hB g 68 #[.int .i64 ((tsX p x vs (i1 + 1)).Id), .slice AE ((tsX p x vs (i1 + 1)).aA.length) cE, .slice AS ((tsX p x vs (i1 + 1)).Loop.length) cS, .slice A_5_7 ((tsX p x vs (i1 + 1)).aD.length) c_5_7, .slice AO ((tsX p x vs (i1 + 1)).Out.length) cO], hR aJ 171 (.slice AE ((tsX p x vs (i1 + 1)).aA.length) cE) ((tsX p x vs (i1 + 1)).aA), hR aX 235 (.slice AS ((tsX p x vs (i1 + 1)).Loop.length) cS) ((tsX p x vs (i1 + 1)).Loop), hR aO 178 (.slice A_5_7 ((tsX p x vs (i1 + 1)).aD.length) c_5_7) ((tsX p x vs (i1 + 1)).aD), hR aP 147 (.slice AO ((tsX p x vs (i1 + 1)).Out.length) cO) ((tsX p x vs (i1 + 1)).Out), hR bW 72 (.slice B_5_9 ((tsO p x vs (i1 + 1)).length) c_5_9) (tsO p x vs (i1 + 1))] W22 := by rw [hsx.1]; exact Ha23.pick [1, 2, 3, 4, 5, 0] kD rfl
   exact (aZ [(0, .pointer (some ⟨g, 0, none⟩)), (1, .int .i64 (p)), (2, .slice AV vs.length cV), (7, .slice B_5_9 ((tsO p x vs (i1 + 1)).length) c_5_9), (8, .int .i64 (((i1 + 1 : Nat) : Int)))] rfl).elim fun x' hx => ⟨r6 - 1, kO, i1 + 1, A_5_7, c_5_7, B_5_9, c_5_9, x', hx, kO, H26⟩
  ·obtain rfl : i1 = vs.length := by omega
   refine wp_exit ?_
   refine iF ?_
   refine iF ?_
   refine inB_x ?_
   refine aM ?_
   refine wp_seq ?_
   refine aS [0, 1] rfl ?_
   refine aB ?_
   refine aC rfl (aK rfl) rfl rfl ?_
   refine aB ?_
   refine aC rfl (aW rfl) rfl rfl ?_
   refine aN ?_
   refine aM ?_
   refine wp_ret ?_
   refine eY (.inl rfl) Tryz.results131 rfl ?_
   exact ⟨_, _, _, _, rfl, H9.pick [0, 1, 2, 3, 4, 5] kD rfl⟩
theorem toAll_i (x : GVat) (p : Int) (vs : List GValue) (g cE cS cL cO cV : Nat) (AE AS AL AO AV : Option Addr) (F0 : Nat → Prop) (w : World) (h : Star [hB g 68 #[.int .i64 (x.Id), .slice AE x.aA.length cE, .slice AS x.Loop.length cS, .slice AL x.aD.length cL, .slice AO x.Out.length cO], hR aJ 171 (.slice AE x.aA.length cE) x.aA, hR aX 235 (.slice AS x.Loop.length cS) x.Loop, hR aO 178 (.slice AL x.aD.length cL) x.aD, hR aP 147 (.slice AO x.Out.length cO) x.Out] w F0) (hs : bR x ≤ 1048576) (hV : ∀ W', Upd F0 w W' → C aT W' AV vs) (hn : vs.length ≤ 1048576) : Calls Tryz.prog 132 #[.pointer (some ⟨g, 0, none⟩), .int .i64 p, .slice AV vs.length cV] w (fun e' w' => ∃ A c B cB, e' = .returned (.slice B (tsO p x vs vs.length).length cB) ∧ St w F0 [hB g 68 #[.int .i64 ((tsX p x vs vs.length).Id), .slice AE ((tsX p x vs vs.length).aA.length) cE, .slice AS ((tsX p x vs vs.length).Loop.length) cS, .slice A ((tsX p x vs vs.length).aD.length) c, .slice AO ((tsX p x vs vs.length).Out.length) cO], hR aJ 171 (.slice AE ((tsX p x vs vs.length).aA.length) cE) ((tsX p x vs vs.length).aA), hR aX 235 (.slice AS ((tsX p x vs vs.length).Loop.length) cS) ((tsX p x vs vs.length).Loop), hR aO 178 (.slice A ((tsX p x vs vs.length).aD.length) c) ((tsX p x vs vs.length).aD), hR aP 147 (.slice AO ((tsX p x vs vs.length).Out.length) cO) ((tsX p x vs vs.length).Out), hR bW 72 (.slice B (tsO p x vs vs.length).length cB) (tsO p x vs vs.length)] w') := by
 refine enter 26 [(0, .pointer (some ⟨g, 0, none⟩)), (1, .int .i64 (p)), (2, .slice AV vs.length cV)] Tryz.func132 rfl kR ?_
 intro xj
 have H1 : St w F0 [hB g 68 #[.int .i64 (x.Id), .slice AE x.aA.length cE, .slice AS x.Loop.length cS, .slice AL x.aD.length cL, .slice AO x.Out.length cO], hR aJ 171 (.slice AE x.aA.length cE) x.aA, hR aX 235 (.slice AS x.Loop.length cS) x.Loop, hR aO 178 (.slice AL x.aD.length cL) x.aD, hR aP 147 (.slice AO x.Out.length cO) x.Out] w := St.kP h
 refine wp_seq ?_
 refine aS [0] rfl ?_
 refine aB ?_
 refine aC rfl (aW rfl) rfl rfl ?_
 refine aN ?_
 refine aM ?_
 refine wp_seq ?_
 refine aS [0, 1] rfl ?_
 refine aB ?_
 refine op_slice0 (dk := bW) rfl Tryz.runUnderlying71 Tryz.sizeOf72 rfl rfl H1 ?_
 intro A_1_0 W2 hu3 Ha4; clear H1; clear hu3
 refine aB ?_
 refine aC rfl (aW rfl) rfl rfl ?_
 refine aN ?_
 refine aM ?_
 refine wp_seq ?_
 refine wp_seq ?_
 refine aS [0, 1, 2] rfl ?_
 refine aB ?_
 refine aC rfl (aK rfl) rfl rfl ?_
 refine aB ?_
 refine aC rfl (jY Tryz.runUnderlying85 rfl) rfl rfl ?_
 refine aB ?_
 refine aC rfl (aK rfl) rfl rfl ?_
 refine aN ?_
 refine aM ?_
 refine wp_block ?_
 refine wp_loop_ghost (fun r a' W' => ∃ (i1 : Nat) (AL1 : Option Addr) (cL1 : Nat) (AC : Option Addr) (cC : Nat) (x' : Nat → Value), a' = bO 26 x' [(0, .pointer (some ⟨g, 0, none⟩)), (1, .int .i64 (p)), (7, .slice AC ((tsO p x vs i1).length) cC), (11, .slice AV vs.length cV), (12, .int .i64 ((vs.length : Nat))), (13, .int .i64 (((i1 : Nat) : Int)))] ∧ (i1 + r = vs.length) ∧ St w F0 [hB g 68 #[.int .i64 ((tsX p x vs i1).Id), .slice AE ((tsX p x vs i1).aA.length) cE, .slice AS ((tsX p x vs i1).Loop.length) cS, .slice AL1 ((tsX p x vs i1).aD.length) cL1, .slice AO ((tsX p x vs i1).Out.length) cO], hR aJ 171 (.slice AE ((tsX p x vs i1).aA.length) cE) ((tsX p x vs i1).aA), hR aX 235 (.slice AS ((tsX p x vs i1).Loop.length) cS) ((tsX p x vs i1).Loop), hR aO 178 (.slice AL1 ((tsX p x vs i1).aD.length) cL1) ((tsX p x vs i1).aD), hR aP 147 (.slice AO ((tsX p x vs i1).Out.length) cO) ((tsX p x vs i1).Out), hR bW 72 (.slice AC ((tsO p x vs i1).length) cC) (tsO p x vs i1)] W') vs.length ?_ ?_
 ·exact (aZ [(0, .pointer (some ⟨g, 0, none⟩)), (1, .int .i64 (p)), (7, .slice A_1_0 0 0), (11, .slice AV vs.length cV), (12, .int .i64 ((vs.length : Nat))), (13, .int .i64 (((0 : Nat) : Int)))] rfl).elim fun x' hx => ⟨0, AL, cL, A_1_0, 0, x', hx, kO, Ha4.pick [1, 2, 3, 4, 5, 0] kD rfl⟩
 ·rintro r6 _ W7 ⟨i1, AL1, cL1, AC, cC, x8, rfl, hi1, H9⟩; clear Ha4
  refine wp_seq ?_
  refine aS [0] rfl ?_
  refine aB ?_
  refine aC rfl (iW rfl rfl) rfl rfl ?_
  refine aN ?_
  refine aM ?_
  refine wp_seq ?_
  refine gU rfl (fun hc10 => ?_) (fun hc10 => ?_)
  ·have hlt1 : i1 < vs.length := by omega
   have hsx := ts_succ p x vs i1 hlt1
   have hsX : bR (tsX p x vs i1) ≤ 4194304 := by have := ts_sz p x vs i1 kO; omega
   refine wp_skip ?_
   refine aM ?_
   refine wp_seq ?_
   refine wp_block ?_
   refine wp_seq ?_
   obtain ⟨ade, cse, hAe, hKe, hce⟩ := lS (hV _ H9.1) i1 hlt1
   obtain rfl := j6 hKe
   refine aS [0, 1, 2, 3] rfl ?_
   refine aB ?_
   refine aC rfl (fD (k := i1) Tryz.runUnderlying85 Tryz.sizeOf95 rfl rfl hAe hlt1) rfl rfl ?_
   refine aB ?_
   refine aC rfl (jF Tryz.isAgg95 Tryz.sizeOf95 rfl hce rfl) rfl rfl ?_
   refine aB ?_
   refine bA rfl Tryz.zeroValue95 rfl rfl H9 ?_
   intro g_4_2 W11 hu12 Ha13; clear H9; clear hu12
   refine aB ?_
   refine aR rfl Tryz.sizeOf95 rfl rfl rfl rfl kS Ha13 ?_
   intro W15 hu16 Ha17; clear Ha13; clear hu16
   refine aN ?_
   refine aM ?_
   refine aS [0, 1, 2, 3, 4, 5, 6, 7] rfl ?_
   refine aB ?_
   refine aC rfl (aK rfl) rfl rfl ?_
   refine aB ?_
   refine aC rfl (aK rfl) rfl rfl ?_
   refine aB ?_
   refine aC rfl (aK rfl) rfl rfl ?_
   refine aB ?_
   refine aC rfl (bI Tryz.isAgg95 Tryz.sizeOf95 rfl (Ha17.blk 0 rfl) rfl) rfl rfl ?_
   refine aB ?_
   have H19 : St w F0 [hB g 68 #[.int .i64 ((tsX p x vs i1).Id), .slice AE ((tsX p x vs i1).aA.length) cE, .slice AS ((tsX p x vs i1).Loop.length) cS, .slice AL1 ((tsX p x vs i1).aD.length) cL1, .slice AO ((tsX p x vs i1).Out.length) cO], hR aJ 171 (.slice AE ((tsX p x vs i1).aA.length) cE) ((tsX p x vs i1).aA), hR aO 178 (.slice AL1 ((tsX p x vs i1).aD.length) cL1) ((tsX p x vs i1).aD), hB g_4_2 95 #[.int .i64 (vs[i1].Kind), .int .i64 (vs[i1].N)], hR aX 235 (.slice AS ((tsX p x vs i1).Loop.length) cS) ((tsX p x vs i1).Loop), hR aP 147 (.slice AO ((tsX p x vs i1).Out.length) cO) ((tsX p x vs i1).Out), hR bW 72 (.slice AC ((tsO p x vs i1).length) cC) (tsO p x vs i1)] W15 := Ha17.pick [1, 2, 4, 0, 3, 5, 6] kD rfl; clear Ha17
   obtain ⟨F20, hs21, _, hfr22⟩ := St.frame (l0 := [hB g 68 #[.int .i64 ((tsX p x vs i1).Id), .slice AE ((tsX p x vs i1).aA.length) cE, .slice AS ((tsX p x vs i1).Loop.length) cS, .slice AL1 ((tsX p x vs i1).aD.length) cL1, .slice AO ((tsX p x vs i1).Out.length) cO], hR aJ 171 (.slice AE ((tsX p x vs i1).aA.length) cE) ((tsX p x vs i1).aA), hR aO 178 (.slice AL1 ((tsX p x vs i1).aD.length) cL1) ((tsX p x vs i1).aD)]) (l := [hB g_4_2 95 #[.int .i64 (vs[i1].Kind), .int .i64 (vs[i1].N)], hR aX 235 (.slice AS ((tsX p x vs i1).Loop.length) cS) ((tsX p x vs i1).Loop), hR aP 147 (.slice AO ((tsX p x vs i1).Out.length) cO) ((tsX p x vs i1).Out), hR bW 72 (.slice AC ((tsO p x vs i1).length) cC) (tsO p x vs i1)]) H19
   refine aV rfl Tryz.call130 (vs := #[.pointer (some ⟨g, 0, none⟩), .int .i64 (p), .agg #[.int .i64 (vs[i1].Kind), .int .i64 (vs[i1].N)]]) rfl rfl rfl (toWire_i (tsX p x vs i1).aA (tsX p x vs i1).aD p vs[i1].Kind vs[i1].N _ _ _ _ _ _ _ _ _ _ hs21 (ts_ne (tsX p x vs i1) hsX) (ts_bl (tsX p x vs i1) hsX)) ?_
   rintro e25 W24 ⟨A_5_4, c_5_4, rfl, Hn23⟩; refine ⟨_, rfl, ?_⟩
   have H26 := hfr22 _ _ Hn23; clear H19
   refine aB ?_
   refine kK rfl Tryz.runUnderlying71 Tryz.sizeOf72 kD Tryz.zeroValue72 rfl rfl rfl rfl H26 ?_
   intro g_5_5 W27 hu28 Ha29; clear H26; clear hu28
   refine aB ?_
   have H33 : St w F0 [hR bW 72 (.slice AC ((tsO p x vs i1).length) cC) (tsO p x vs i1), hB g_5_5 72 #[.int .i64 ((twW (tsX p x vs i1).aA (tsX p x vs i1).aD p (dW (tsX p x vs i1).aA ((tsX p x vs i1).aA.length + 1) vs[i1].Kind vs[i1].N)).Kind), .int .i64 ((twW (tsX p x vs i1).aA (tsX p x vs i1).aD p (dW (tsX p x vs i1).aA ((tsX p x vs i1).aA.length + 1) vs[i1].Kind vs[i1].N)).N)], hB g 68 #[.int .i64 ((tsX p x vs i1).Id), .slice AE ((tsX p x vs i1).aA.length) cE, .slice AS ((tsX p x vs i1).Loop.length) cS, .slice A_5_4 ((twL (tsX p x vs i1).aA (tsX p x vs i1).aD p (dW (tsX p x vs i1).aA ((tsX p x vs i1).aA.length + 1) vs[i1].Kind vs[i1].N)).length) c_5_4, .slice AO ((tsX p x vs i1).Out.length) cO], hR aJ 171 (.slice AE ((tsX p x vs i1).aA.length) cE) ((tsX p x vs i1).aA), hR aO 178 (.slice A_5_4 ((twL (tsX p x vs i1).aA (tsX p x vs i1).aD p (dW (tsX p x vs i1).aA ((tsX p x vs i1).aA.length + 1) vs[i1].Kind vs[i1].N)).length) c_5_4) (twL (tsX p x vs i1).aA (tsX p x vs i1).aD p (dW (tsX p x vs i1).aA ((tsX p x vs i1).aA.length + 1) vs[i1].Kind vs[i1].N)), hB g_4_2 95 #[.int .i64 (vs[i1].Kind), .int .i64 (vs[i1].N)], hR aX 235 (.slice AS ((tsX p x vs i1).Loop.length) cS) ((tsX p x vs i1).Loop), hR aP 147 (.slice AO ((tsX p x vs i1).Out.length) cO) ((tsX p x vs i1).Out)] W27 := Ha29.pick [7, 0, 1, 2, 3, 4, 5, 6] kD rfl; clear Ha29
   refine nG (xs := (tsO p x vs i1)) (p := (twR p vs[i1] (tsX p x vs i1))) (n' := (tsO p x vs (i1 + 1)).length) (ys := (tsO p x vs (i1 + 1))) rfl Tryz.underlying71 mI rfl kD kD rfl rfl (lV _ No (twR p vs[i1] (tsX p x vs i1))) (by rw [ts_len p x vs i1 kO]; omega) (by rw [hsx.2, List.length_append]; rfl) hsx.2.symm rfl rfl H33 ?_
   intro B_5_6 c_5_6 W31 Ha32; clear H33
   refine aB ?_
   refine aC rfl (aW rfl) rfl rfl ?_
   refine aN ?_
   refine inB_n ?_
   refine aM ?_
   refine aS [0, 1] rfl ?_
   refine aB ?_
   refine aC rfl (lT (k := i1) rfl rfl kO) rfl rfl ?_
   refine aB ?_
   refine aC rfl (aK rfl) rfl rfl ?_
   refine aN ?_
   refine aM ?_
   have H35 : St w F0 [hB g 68 #[.int .i64 ((tsX p x vs (i1 + 1)).Id), .slice AE ((tsX p x vs (i1 + 1)).aA.length) cE, .slice AS ((tsX p x vs (i1 + 1)).Loop.length) cS, .slice A_5_4 ((tsX p x vs (i1 + 1)).aD.length) c_5_4, .slice AO ((tsX p x vs (i1 + 1)).Out.length) cO], hR aJ 171 (.slice AE ((tsX p x vs (i1 + 1)).aA.length) cE) ((tsX p x vs (i1 + 1)).aA), hR aX 235 (.slice AS ((tsX p x vs (i1 + 1)).Loop.length) cS) ((tsX p x vs (i1 + 1)).Loop), hR aO 178 (.slice A_5_4 ((tsX p x vs (i1 + 1)).aD.length) c_5_4) ((tsX p x vs (i1 + 1)).aD), hR aP 147 (.slice AO ((tsX p x vs (i1 + 1)).Out.length) cO) ((tsX p x vs (i1 + 1)).Out), hR bW 72 (.slice B_5_6 ((tsO p x vs (i1 + 1)).length) c_5_6) (tsO p x vs (i1 + 1))] W31 := by rw [hsx.1]; exact Ha32.pick [1, 2, 5, 3, 6, 0] kD rfl
   exact (aZ [(0, .pointer (some ⟨g, 0, none⟩)), (1, .int .i64 (p)), (7, .slice B_5_6 ((tsO p x vs (i1 + 1)).length) c_5_6), (11, .slice AV vs.length cV), (12, .int .i64 ((vs.length : Nat))), (13, .int .i64 (((i1 + 1 : Nat) : Int)))] rfl).elim fun x' hx => ⟨r6 - 1, kO, i1 + 1, A_5_4, c_5_4, B_5_6, c_5_6, x', hx, kO, H35⟩
  ·obtain rfl : i1 = vs.length := by omega
   refine wp_exit ?_
   refine iF ?_
   refine iF ?_
   refine inB_x ?_
   refine aM ?_
   refine wp_seq ?_
   refine aS [0, 1] rfl ?_
   refine aB ?_
   refine aC rfl (aK rfl) rfl rfl ?_
   refine aB ?_
   refine aC rfl (aW rfl) rfl rfl ?_
   refine aN ?_
   refine aM ?_
   refine wp_ret ?_
   refine eY (.inl rfl) Tryz.results132 rfl ?_
   exact ⟨_, _, _, _, rfl, H9.pick [0, 1, 2, 3, 4, 5] kD rfl⟩
theorem toWires_S (x : GVat) (p : Int) (vs : List GValue) (cs : List Value) (Av : Option Addr) (cv : Nat) (w : World) (h : aG.K w x cs) (hs : bR x ≤ 1048576) (hCv : C aT w Av vs) (hnv : vs.length ≤ 1048576) : Calls Tryz.prog 47 #[.agg cs.toArray, .int .i64 p, .slice Av vs.length cv] w (RetAR aG (tsX p x vs vs.length) 72 (tsO p x vs vs.length) w) := by
 obtain ⟨Ax1, cx1, Ax2, cx2, Ax3, cx3, Ax4, cx4, rfl, hlx1, hCx1, hlx2, hCx2, hlx3, hCx3, hlx4, hCx4⟩ := kJ h
 have hs4 : bR x ≤ 4194304 := by omega
 refine enter 17 [(0, .agg #[.int .i64 (x.Id), .slice Ax1 x.aA.length cx1, .slice Ax2 x.Loop.length cx2, .slice Ax3 x.aD.length cx3, .slice Ax4 x.Out.length cx4]), (1, .int .i64 (p)), (2, .slice Av vs.length cv)] Tryz.func47 rfl kR ?_
 intro xj
 have H1 : St w No [] w := St.enter
 refine wp_seq ?_
 refine aS [0, 1, 2] rfl ?_
 refine aB ?_
 refine gG rfl rfl rfl rfl H1 ?_
 intro g_0_0 W2 hu3 Ha4; clear H1; clear hu3
 refine aB ?_
 refine bA rfl Tryz.zeroValue68 rfl rfl Ha4 ?_
 intro g_0_1 W6 hu7 Ha8; clear Ha4; clear hu7
 refine aB ?_
 refine aC rfl (aW rfl) rfl rfl ?_
 refine aN ?_
 refine aM ?_
 refine wp_seq ?_
 refine aS [0, 1, 2, 3] rfl ?_
 refine aB ?_
 refine aC rfl (bI Tryz.isAgg68 Tryz.sizeOf68 rfl (Ha8.blk 1 rfl) rfl) rfl rfl ?_
 refine aB ?_
 refine aV rfl Tryz.call90 (vs := #[.agg #[.int .i64 (x.Id), .slice Ax1 x.aA.length cx1, .slice Ax2 x.Loop.length cx2, .slice Ax3 x.aD.length cx3, .slice Ax4 x.Out.length cx4]]) rfl rfl rfl (l12Copy_s x _ _ (fM _ x hlx1 (bK Ha8.1 hCx1) hlx2 (bK Ha8.1 hCx2) hlx3 (bK Ha8.1 hCx3) hlx4 (bK Ha8.1 hCx4)) hs4) ?_
 rintro e15 W14 ⟨cs10, rfl, hM11, hu12⟩; refine ⟨_, rfl, ?_⟩
 obtain ⟨B_1_1_1, c_1_1_1, B_1_1_2, c_1_1_2, B_1_1_3, c_1_1_3, B_1_1_4, c_1_1_4, rfl, hst13⟩ := nY hM11
 have H16 := Ha8.news hu12 hst13; clear Ha8
 refine aB ?_
 refine bA rfl Tryz.zeroValue68 rfl rfl H16 ?_
 intro g_1_2 W17 hu18 Ha19; clear H16; clear hu18
 refine aB ?_
 refine aR rfl Tryz.sizeOf68 rfl rfl rfl rfl kS Ha19 ?_
 intro W21 hu22 Ha23; clear Ha19; clear hu22
 refine aN ?_
 refine aM ?_
 refine wp_seq ?_
 refine aS [0, 1, 2, 3] rfl ?_
 refine aB ?_
 refine aC rfl (aK rfl) rfl rfl ?_
 refine aB ?_
 refine aC rfl (aK rfl) rfl rfl ?_
 refine aB ?_
 obtain ⟨F25, hs26, hF27, hfr28⟩ := St.frame (l0 := [hB g_1_2 68 #[.int .i64 (x.Id), .slice B_1_1_1 x.aA.length c_1_1_1, .slice B_1_1_2 x.Loop.length c_1_1_2, .slice B_1_1_3 x.aD.length c_1_1_3, .slice B_1_1_4 x.Out.length c_1_1_4], hR aJ 171 (.slice B_1_1_1 x.aA.length c_1_1_1) x.aA, hR aX 235 (.slice B_1_1_2 x.Loop.length c_1_1_2) x.Loop, hR aO 178 (.slice B_1_1_3 x.aD.length c_1_1_3) x.aD, hR aP 147 (.slice B_1_1_4 x.Out.length c_1_1_4) x.Out]) (l := [hB g_0_1 68 #[.int .i64 (0), .slice none 0 0, .slice none 0 0, .slice none 0 0, .slice none 0 0], hB g_0_0 68 #[.int .i64 (x.Id), .slice Ax1 x.aA.length cx1, .slice Ax2 x.Loop.length cx2, .slice Ax3 x.aD.length cx3, .slice Ax4 x.Out.length cx4]]) Ha23
 refine aV rfl Tryz.call131 (vs := #[.pointer (some ⟨g_1_2, 0, none⟩), .int .i64 (p), .slice Av vs.length cv]) rfl rfl rfl (toAll_s x p vs _ _ _ _ _ _ _ _ _ _ _ _ _ hs26 hs (fun W' hu => bK (Upd.trans Ha23.1 hu (fun _ _ q => q) (fun b hb q => (hF27 b q).1.resolve_right kO)) hCv) hnv) ?_
 rintro e31 W30 ⟨A_2_2, c_2_2, B_2_2_2, c_2_2_2, rfl, Hn29⟩; refine ⟨_, rfl, ?_⟩
 have H32 : St w No [hB g_1_2 68 #[.int .i64 ((tsX p x vs vs.length).Id), .slice B_1_1_1 ((tsX p x vs vs.length).aA.length) c_1_1_1, .slice B_1_1_2 ((tsX p x vs vs.length).Loop.length) c_1_1_2, .slice A_2_2 ((tsX p x vs vs.length).aD.length) c_2_2, .slice B_1_1_4 ((tsX p x vs vs.length).Out.length) c_1_1_4], hR aJ 171 (.slice B_1_1_1 ((tsX p x vs vs.length).aA.length) c_1_1_1) ((tsX p x vs vs.length).aA), hR aX 235 (.slice B_1_1_2 ((tsX p x vs vs.length).Loop.length) c_1_1_2) ((tsX p x vs vs.length).Loop), hR aO 178 (.slice A_2_2 ((tsX p x vs vs.length).aD.length) c_2_2) ((tsX p x vs vs.length).aD), hR aP 147 (.slice B_1_1_4 ((tsX p x vs vs.length).Out.length) c_1_1_4) ((tsX p x vs vs.length).Out), hR bW 72 (.slice B_2_2_2 ((tsO p x vs vs.length).length) c_2_2_2) (tsO p x vs vs.length), hB g_0_1 68 #[.int .i64 (0), .slice none 0 0, .slice none 0 0, .slice none 0 0, .slice none 0 0], hB g_0_0 68 #[.int .i64 (x.Id), .slice Ax1 x.aA.length cx1, .slice Ax2 x.Loop.length cx2, .slice Ax3 x.aD.length cx3, .slice Ax4 x.Out.length cx4]] W30 := hfr28 (_ :: _ :: _ :: _ :: _ :: [_]) _ Hn29; clear Ha23
 refine aB ?_
 refine aC rfl (aW rfl) rfl rfl ?_
 refine aN ?_
 refine aM ?_
 refine wp_seq ?_
 refine aS [0, 1, 2, 3] rfl ?_
 refine aB ?_
 refine aC rfl (bI Tryz.isAgg68 Tryz.sizeOf68 rfl (H32.blk 0 rfl) rfl) rfl rfl ?_
 refine aB ?_
 refine aC rfl (aK rfl) rfl rfl ?_
 refine aB ?_
 have H36 : St w No [hB g_0_1 68 #[.int .i64 (0), .slice none 0 0, .slice none 0 0, .slice none 0 0, .slice none 0 0], hB g_1_2 68 #[.int .i64 ((tsX p x vs vs.length).Id), .slice B_1_1_1 ((tsX p x vs vs.length).aA.length) c_1_1_1, .slice B_1_1_2 ((tsX p x vs vs.length).Loop.length) c_1_1_2, .slice A_2_2 ((tsX p x vs vs.length).aD.length) c_2_2, .slice B_1_1_4 ((tsX p x vs vs.length).Out.length) c_1_1_4], hR aJ 171 (.slice B_1_1_1 ((tsX p x vs vs.length).aA.length) c_1_1_1) ((tsX p x vs vs.length).aA), hR aX 235 (.slice B_1_1_2 ((tsX p x vs vs.length).Loop.length) c_1_1_2) ((tsX p x vs vs.length).Loop), hR aO 178 (.slice A_2_2 ((tsX p x vs vs.length).aD.length) c_2_2) ((tsX p x vs vs.length).aD), hR aP 147 (.slice B_1_1_4 ((tsX p x vs vs.length).Out.length) c_1_1_4) ((tsX p x vs vs.length).Out), hR bW 72 (.slice B_2_2_2 ((tsO p x vs vs.length).length) c_2_2_2) (tsO p x vs vs.length), hB g_0_0 68 #[.int .i64 (x.Id), .slice Ax1 x.aA.length cx1, .slice Ax2 x.Loop.length cx2, .slice Ax3 x.aD.length cx3, .slice Ax4 x.Out.length cx4]] W30 := H32.pick [6, 0, 1, 2, 3, 4, 5, 7] kD rfl; clear H32
 refine aR rfl Tryz.sizeOf68 rfl rfl rfl rfl kS H36 ?_
 intro W33 hu34 Ha35; clear H36; clear hu34
 refine aB ?_
 refine aC rfl (aW rfl) rfl rfl ?_
 refine aN ?_
 refine aM ?_
 refine wp_ret ?_
 refine mV (.inl rfl) Tryz.results47 Tryz.isAgg68 Tryz.sizeOf68 rfl rfl (Ha35.blk 0 rfl) rfl ?_
 have H38 : St w No [hR aJ 171 (.slice B_1_1_1 ((tsX p x vs vs.length).aA.length) c_1_1_1) ((tsX p x vs vs.length).aA), hR aX 235 (.slice B_1_1_2 ((tsX p x vs vs.length).Loop.length) c_1_1_2) ((tsX p x vs vs.length).Loop), hR aO 178 (.slice A_2_2 ((tsX p x vs vs.length).aD.length) c_2_2) ((tsX p x vs vs.length).aD), hR aP 147 (.slice B_1_1_4 ((tsX p x vs vs.length).Out.length) c_1_1_4) ((tsX p x vs vs.length).Out), hB g_0_1 68 #[.int .i64 ((tsX p x vs vs.length).Id), .slice B_1_1_1 ((tsX p x vs vs.length).aA.length) c_1_1_1, .slice B_1_1_2 ((tsX p x vs vs.length).Loop.length) c_1_1_2, .slice A_2_2 ((tsX p x vs vs.length).aD.length) c_2_2, .slice B_1_1_4 ((tsX p x vs vs.length).Out.length) c_1_1_4], hB g_1_2 68 #[.int .i64 ((tsX p x vs vs.length).Id), .slice B_1_1_1 ((tsX p x vs vs.length).aA.length) c_1_1_1, .slice B_1_1_2 ((tsX p x vs vs.length).Loop.length) c_1_1_2, .slice A_2_2 ((tsX p x vs vs.length).aD.length) c_2_2, .slice B_1_1_4 ((tsX p x vs vs.length).Out.length) c_1_1_4], hR bW 72 (.slice B_2_2_2 ((tsO p x vs vs.length).length) c_2_2_2) (tsO p x vs vs.length), hB g_0_0 68 #[.int .i64 (x.Id), .slice Ax1 x.aA.length cx1, .slice Ax2 x.Loop.length cx2, .slice Ax3 x.aD.length cx3, .slice Ax4 x.Out.length cx4]] W33 := Ha35.pick [2, 3, 4, 5, 0, 1, 6, 7] kD rfl; clear Ha35
 have H39 : St w No [hM aG (tsX p x vs vs.length) [.int .i64 ((tsX p x vs vs.length).Id), .slice B_1_1_1 ((tsX p x vs vs.length).aA.length) c_1_1_1, .slice B_1_1_2 ((tsX p x vs vs.length).Loop.length) c_1_1_2, .slice A_2_2 ((tsX p x vs vs.length).aD.length) c_2_2, .slice B_1_1_4 ((tsX p x vs vs.length).Out.length) c_1_1_4], hB g_0_1 68 #[.int .i64 ((tsX p x vs vs.length).Id), .slice B_1_1_1 ((tsX p x vs vs.length).aA.length) c_1_1_1, .slice B_1_1_2 ((tsX p x vs vs.length).Loop.length) c_1_1_2, .slice A_2_2 ((tsX p x vs vs.length).aD.length) c_2_2, .slice B_1_1_4 ((tsX p x vs vs.length).Out.length) c_1_1_4], hB g_1_2 68 #[.int .i64 ((tsX p x vs vs.length).Id), .slice B_1_1_1 ((tsX p x vs vs.length).aA.length) c_1_1_1, .slice B_1_1_2 ((tsX p x vs vs.length).Loop.length) c_1_1_2, .slice A_2_2 ((tsX p x vs vs.length).aD.length) c_2_2, .slice B_1_1_4 ((tsX p x vs vs.length).Out.length) c_1_1_4], hR bW 72 (.slice B_2_2_2 ((tsO p x vs vs.length).length) c_2_2_2) (tsO p x vs vs.length), hB g_0_0 68 #[.int .i64 (x.Id), .slice Ax1 x.aA.length cx1, .slice Ax2 x.Loop.length cx2, .slice Ax3 x.aD.length cx3, .slice Ax4 x.Out.length cx4]] W33 := H38.swap (l0 := [hR aJ 171 (.slice B_1_1_1 ((tsX p x vs vs.length).aA.length) c_1_1_1) ((tsX p x vs vs.length).aA), hR aX 235 (.slice B_1_1_2 ((tsX p x vs vs.length).Loop.length) c_1_1_2) ((tsX p x vs vs.length).Loop), hR aO 178 (.slice A_2_2 ((tsX p x vs vs.length).aD.length) c_2_2) ((tsX p x vs vs.length).aD), hR aP 147 (.slice B_1_1_4 ((tsX p x vs vs.length).Out.length) c_1_1_4) ((tsX p x vs vs.length).Out)]) (l' := [hM aG (tsX p x vs vs.length) [.int .i64 ((tsX p x vs vs.length).Id), .slice B_1_1_1 ((tsX p x vs vs.length).aA.length) c_1_1_1, .slice B_1_1_2 ((tsX p x vs vs.length).Loop.length) c_1_1_2, .slice A_2_2 ((tsX p x vs vs.length).aD.length) c_2_2, .slice B_1_1_4 ((tsX p x vs vs.length).Out.length) c_1_1_4]]) (fun _ h => Star.one (lF (x := (tsX p x vs vs.length)) h)); clear H38
 exact ⟨_, _, _, rfl, (H39.pick [0, 3] kD rfl).star, H39.1⟩
theorem toWires_I (x : GVat) (p : Int) (vs : List GValue) (cs : List Value) (Av : Option Addr) (cv : Nat) (w : World) (h : aG.K w x cs) (hs : bR x ≤ 1048576) (hCv : C aT w Av vs) (hnv : vs.length ≤ 1048576) : Calls Tryz.prog 48 #[.agg cs.toArray, .int .i64 p, .slice Av vs.length cv] w (RetAR aG (tsX p x vs vs.length) 72 (tsO p x vs vs.length) w) := by
 obtain ⟨Ax1, cx1, Ax2, cx2, Ax3, cx3, Ax4, cx4, rfl, hlx1, hCx1, hlx2, hCx2, hlx3, hCx3, hlx4, hCx4⟩ := kJ h
 have hs4 : bR x ≤ 4194304 := by omega
 refine enter 17 [(0, .agg #[.int .i64 (x.Id), .slice Ax1 x.aA.length cx1, .slice Ax2 x.Loop.length cx2, .slice Ax3 x.aD.length cx3, .slice Ax4 x.Out.length cx4]), (1, .int .i64 (p)), (2, .slice Av vs.length cv)] Tryz.func48 rfl kR ?_
 intro xj
 have H1 : St w No [] w := St.enter
 refine wp_seq ?_
 refine aS [0, 1, 2] rfl ?_
 refine aB ?_
 refine gG rfl rfl rfl rfl H1 ?_
 intro g_0_0 W2 hu3 Ha4; clear H1; clear hu3
 refine aB ?_
 refine bA rfl Tryz.zeroValue68 rfl rfl Ha4 ?_
 intro g_0_1 W6 hu7 Ha8; clear Ha4; clear hu7
 refine aB ?_
 refine aC rfl (aW rfl) rfl rfl ?_
 refine aN ?_
 refine aM ?_
 refine wp_seq ?_
 refine aS [0, 1, 2, 3] rfl ?_
 refine aB ?_
 refine aC rfl (bI Tryz.isAgg68 Tryz.sizeOf68 rfl (Ha8.blk 1 rfl) rfl) rfl rfl ?_
 refine aB ?_
 refine aV rfl Tryz.call99 (vs := #[.agg #[.int .i64 (x.Id), .slice Ax1 x.aA.length cx1, .slice Ax2 x.Loop.length cx2, .slice Ax3 x.aD.length cx3, .slice Ax4 x.Out.length cx4]]) rfl rfl rfl (copied_Vat x _ _ (fM _ x hlx1 (bK Ha8.1 hCx1) hlx2 (bK Ha8.1 hCx2) hlx3 (bK Ha8.1 hCx3) hlx4 (bK Ha8.1 hCx4)) hs4) ?_
 rintro e15 W14 ⟨cs10, rfl, hM11, hu12⟩; refine ⟨_, rfl, ?_⟩
 obtain ⟨B_1_1_1, c_1_1_1, B_1_1_2, c_1_1_2, B_1_1_3, c_1_1_3, B_1_1_4, c_1_1_4, rfl, hst13⟩ := nY hM11
 have H16 := Ha8.news hu12 hst13; clear Ha8
 refine aB ?_
 refine bA rfl Tryz.zeroValue68 rfl rfl H16 ?_
 intro g_1_2 W17 hu18 Ha19; clear H16; clear hu18
 refine aB ?_
 refine aR rfl Tryz.sizeOf68 rfl rfl rfl rfl kS Ha19 ?_
 intro W21 hu22 Ha23; clear Ha19; clear hu22
 refine aN ?_
 refine aM ?_
 refine wp_seq ?_
 refine aS [0, 1, 2, 3] rfl ?_
 refine aB ?_
 refine aC rfl (aK rfl) rfl rfl ?_
 refine aB ?_
 refine aC rfl (aK rfl) rfl rfl ?_
 refine aB ?_
 obtain ⟨F25, hs26, hF27, hfr28⟩ := St.frame (l0 := [hB g_1_2 68 #[.int .i64 (x.Id), .slice B_1_1_1 x.aA.length c_1_1_1, .slice B_1_1_2 x.Loop.length c_1_1_2, .slice B_1_1_3 x.aD.length c_1_1_3, .slice B_1_1_4 x.Out.length c_1_1_4], hR aJ 171 (.slice B_1_1_1 x.aA.length c_1_1_1) x.aA, hR aX 235 (.slice B_1_1_2 x.Loop.length c_1_1_2) x.Loop, hR aO 178 (.slice B_1_1_3 x.aD.length c_1_1_3) x.aD, hR aP 147 (.slice B_1_1_4 x.Out.length c_1_1_4) x.Out]) (l := [hB g_0_1 68 #[.int .i64 (0), .slice none 0 0, .slice none 0 0, .slice none 0 0, .slice none 0 0], hB g_0_0 68 #[.int .i64 (x.Id), .slice Ax1 x.aA.length cx1, .slice Ax2 x.Loop.length cx2, .slice Ax3 x.aD.length cx3, .slice Ax4 x.Out.length cx4]]) Ha23
 refine aV rfl Tryz.call132 (vs := #[.pointer (some ⟨g_1_2, 0, none⟩), .int .i64 (p), .slice Av vs.length cv]) rfl rfl rfl (toAll_i x p vs _ _ _ _ _ _ _ _ _ _ _ _ _ hs26 hs (fun W' hu => bK (Upd.trans Ha23.1 hu (fun _ _ q => q) (fun b hb q => (hF27 b q).1.resolve_right kO)) hCv) hnv) ?_
 rintro e31 W30 ⟨A_2_2, c_2_2, B_2_2_2, c_2_2_2, rfl, Hn29⟩; refine ⟨_, rfl, ?_⟩
 have H32 : St w No [hB g_1_2 68 #[.int .i64 ((tsX p x vs vs.length).Id), .slice B_1_1_1 ((tsX p x vs vs.length).aA.length) c_1_1_1, .slice B_1_1_2 ((tsX p x vs vs.length).Loop.length) c_1_1_2, .slice A_2_2 ((tsX p x vs vs.length).aD.length) c_2_2, .slice B_1_1_4 ((tsX p x vs vs.length).Out.length) c_1_1_4], hR aJ 171 (.slice B_1_1_1 ((tsX p x vs vs.length).aA.length) c_1_1_1) ((tsX p x vs vs.length).aA), hR aX 235 (.slice B_1_1_2 ((tsX p x vs vs.length).Loop.length) c_1_1_2) ((tsX p x vs vs.length).Loop), hR aO 178 (.slice A_2_2 ((tsX p x vs vs.length).aD.length) c_2_2) ((tsX p x vs vs.length).aD), hR aP 147 (.slice B_1_1_4 ((tsX p x vs vs.length).Out.length) c_1_1_4) ((tsX p x vs vs.length).Out), hR bW 72 (.slice B_2_2_2 ((tsO p x vs vs.length).length) c_2_2_2) (tsO p x vs vs.length), hB g_0_1 68 #[.int .i64 (0), .slice none 0 0, .slice none 0 0, .slice none 0 0, .slice none 0 0], hB g_0_0 68 #[.int .i64 (x.Id), .slice Ax1 x.aA.length cx1, .slice Ax2 x.Loop.length cx2, .slice Ax3 x.aD.length cx3, .slice Ax4 x.Out.length cx4]] W30 := hfr28 (_ :: _ :: _ :: _ :: _ :: [_]) _ Hn29; clear Ha23
 refine aB ?_
 refine aC rfl (aW rfl) rfl rfl ?_
 refine aN ?_
 refine aM ?_
 refine wp_seq ?_
 refine aS [0, 1, 2, 3] rfl ?_
 refine aB ?_
 refine aC rfl (bI Tryz.isAgg68 Tryz.sizeOf68 rfl (H32.blk 0 rfl) rfl) rfl rfl ?_
 refine aB ?_
 refine aC rfl (aK rfl) rfl rfl ?_
 refine aB ?_
 have H36 : St w No [hB g_0_1 68 #[.int .i64 (0), .slice none 0 0, .slice none 0 0, .slice none 0 0, .slice none 0 0], hB g_1_2 68 #[.int .i64 ((tsX p x vs vs.length).Id), .slice B_1_1_1 ((tsX p x vs vs.length).aA.length) c_1_1_1, .slice B_1_1_2 ((tsX p x vs vs.length).Loop.length) c_1_1_2, .slice A_2_2 ((tsX p x vs vs.length).aD.length) c_2_2, .slice B_1_1_4 ((tsX p x vs vs.length).Out.length) c_1_1_4], hR aJ 171 (.slice B_1_1_1 ((tsX p x vs vs.length).aA.length) c_1_1_1) ((tsX p x vs vs.length).aA), hR aX 235 (.slice B_1_1_2 ((tsX p x vs vs.length).Loop.length) c_1_1_2) ((tsX p x vs vs.length).Loop), hR aO 178 (.slice A_2_2 ((tsX p x vs vs.length).aD.length) c_2_2) ((tsX p x vs vs.length).aD), hR aP 147 (.slice B_1_1_4 ((tsX p x vs vs.length).Out.length) c_1_1_4) ((tsX p x vs vs.length).Out), hR bW 72 (.slice B_2_2_2 ((tsO p x vs vs.length).length) c_2_2_2) (tsO p x vs vs.length), hB g_0_0 68 #[.int .i64 (x.Id), .slice Ax1 x.aA.length cx1, .slice Ax2 x.Loop.length cx2, .slice Ax3 x.aD.length cx3, .slice Ax4 x.Out.length cx4]] W30 := H32.pick [6, 0, 1, 2, 3, 4, 5, 7] kD rfl; clear H32
 refine aR rfl Tryz.sizeOf68 rfl rfl rfl rfl kS H36 ?_
 intro W33 hu34 Ha35; clear H36; clear hu34
 refine aB ?_
 refine aC rfl (aW rfl) rfl rfl ?_
 refine aN ?_
 refine aM ?_
 refine wp_ret ?_
 refine mV (.inl rfl) Tryz.results48 Tryz.isAgg68 Tryz.sizeOf68 rfl rfl (Ha35.blk 0 rfl) rfl ?_
 have H38 : St w No [hR aJ 171 (.slice B_1_1_1 ((tsX p x vs vs.length).aA.length) c_1_1_1) ((tsX p x vs vs.length).aA), hR aX 235 (.slice B_1_1_2 ((tsX p x vs vs.length).Loop.length) c_1_1_2) ((tsX p x vs vs.length).Loop), hR aO 178 (.slice A_2_2 ((tsX p x vs vs.length).aD.length) c_2_2) ((tsX p x vs vs.length).aD), hR aP 147 (.slice B_1_1_4 ((tsX p x vs vs.length).Out.length) c_1_1_4) ((tsX p x vs vs.length).Out), hB g_0_1 68 #[.int .i64 ((tsX p x vs vs.length).Id), .slice B_1_1_1 ((tsX p x vs vs.length).aA.length) c_1_1_1, .slice B_1_1_2 ((tsX p x vs vs.length).Loop.length) c_1_1_2, .slice A_2_2 ((tsX p x vs vs.length).aD.length) c_2_2, .slice B_1_1_4 ((tsX p x vs vs.length).Out.length) c_1_1_4], hB g_1_2 68 #[.int .i64 ((tsX p x vs vs.length).Id), .slice B_1_1_1 ((tsX p x vs vs.length).aA.length) c_1_1_1, .slice B_1_1_2 ((tsX p x vs vs.length).Loop.length) c_1_1_2, .slice A_2_2 ((tsX p x vs vs.length).aD.length) c_2_2, .slice B_1_1_4 ((tsX p x vs vs.length).Out.length) c_1_1_4], hR bW 72 (.slice B_2_2_2 ((tsO p x vs vs.length).length) c_2_2_2) (tsO p x vs vs.length), hB g_0_0 68 #[.int .i64 (x.Id), .slice Ax1 x.aA.length cx1, .slice Ax2 x.Loop.length cx2, .slice Ax3 x.aD.length cx3, .slice Ax4 x.Out.length cx4]] W33 := Ha35.pick [2, 3, 4, 5, 0, 1, 6, 7] kD rfl; clear Ha35
 have H39 : St w No [hM aG (tsX p x vs vs.length) [.int .i64 ((tsX p x vs vs.length).Id), .slice B_1_1_1 ((tsX p x vs vs.length).aA.length) c_1_1_1, .slice B_1_1_2 ((tsX p x vs vs.length).Loop.length) c_1_1_2, .slice A_2_2 ((tsX p x vs vs.length).aD.length) c_2_2, .slice B_1_1_4 ((tsX p x vs vs.length).Out.length) c_1_1_4], hB g_0_1 68 #[.int .i64 ((tsX p x vs vs.length).Id), .slice B_1_1_1 ((tsX p x vs vs.length).aA.length) c_1_1_1, .slice B_1_1_2 ((tsX p x vs vs.length).Loop.length) c_1_1_2, .slice A_2_2 ((tsX p x vs vs.length).aD.length) c_2_2, .slice B_1_1_4 ((tsX p x vs vs.length).Out.length) c_1_1_4], hB g_1_2 68 #[.int .i64 ((tsX p x vs vs.length).Id), .slice B_1_1_1 ((tsX p x vs vs.length).aA.length) c_1_1_1, .slice B_1_1_2 ((tsX p x vs vs.length).Loop.length) c_1_1_2, .slice A_2_2 ((tsX p x vs vs.length).aD.length) c_2_2, .slice B_1_1_4 ((tsX p x vs vs.length).Out.length) c_1_1_4], hR bW 72 (.slice B_2_2_2 ((tsO p x vs vs.length).length) c_2_2_2) (tsO p x vs vs.length), hB g_0_0 68 #[.int .i64 (x.Id), .slice Ax1 x.aA.length cx1, .slice Ax2 x.Loop.length cx2, .slice Ax3 x.aD.length cx3, .slice Ax4 x.Out.length cx4]] W33 := H38.swap (l0 := [hR aJ 171 (.slice B_1_1_1 ((tsX p x vs vs.length).aA.length) c_1_1_1) ((tsX p x vs vs.length).aA), hR aX 235 (.slice B_1_1_2 ((tsX p x vs vs.length).Loop.length) c_1_1_2) ((tsX p x vs vs.length).Loop), hR aO 178 (.slice A_2_2 ((tsX p x vs vs.length).aD.length) c_2_2) ((tsX p x vs vs.length).aD), hR aP 147 (.slice B_1_1_4 ((tsX p x vs vs.length).Out.length) c_1_1_4) ((tsX p x vs vs.length).Out)]) (l' := [hM aG (tsX p x vs vs.length) [.int .i64 ((tsX p x vs vs.length).Id), .slice B_1_1_1 ((tsX p x vs vs.length).aA.length) c_1_1_1, .slice B_1_1_2 ((tsX p x vs vs.length).Loop.length) c_1_1_2, .slice A_2_2 ((tsX p x vs vs.length).aD.length) c_2_2, .slice B_1_1_4 ((tsX p x vs vs.length).Out.length) c_1_1_4]]) (fun _ h => Star.one (lF (x := (tsX p x vs vs.length)) h)); clear H38
 exact ⟨_, _, _, rfl, (H39.pick [0, 3] kD rfl).star, H39.1⟩
theorem law_FnExactToWires (w : World) (x0 : GVat) (cs0 : List Value) (hK0 : kl_Vat.K w x0 cs0) (hG0 : Gd_Vat x0) (a1 : Int) (w1 : (Lit.int .i64 a1).wf = true) (l2 : List GValue) (A2 : Option Addr) (c2 : Nat) (hC2 : C gB w A2 l2) (hl2 : l2.length ≤ c2) (hG2 : l2.length ≤ 9223372036854775807 ∧ ∀ y ∈ l2, gP y) : Calls Tryz.prog 9 #[.agg cs0.toArray, .int .i64 a1, .slice A2 l2.length c2] w (eX true w) := by
 have hl0_ : cs0.length = 5 := kl_Vat.l8 hK0
 have ho0_ : ∀ u ∈ (List.toArray cs0).toList, u.oneCell' = true := kl_Vat.K_one hK0
 refine enter 140 [(0, .agg (List.toArray cs0)), (1, .int .i64 (a1)), (2, .slice A2 l2.length c2)] Tryz.func9 rfl kR ?_
 intro xj
 have H1 : St w No [] w := St.enter
 refine wp_seq ?_
 refine aS [0, 1] rfl ?_
 refine aB ?_
 refine gG rfl rfl rfl rfl H1 ?_
 intro g_0_0 W2 hu3 Ha4; clear H1; clear hu3
 refine aB ?_
 refine aC rfl (aW rfl) rfl rfl ?_
 refine aN ?_
 refine aM ?_
 refine wp_seq ?_
 refine aS [0] rfl ?_
 refine aB ?_
 refine aC rfl (aW rfl) rfl rfl ?_
 refine aN ?_
 refine aM ?_
 refine wp_seq ?_
 refine aS [0, 1, 2, 3] rfl ?_
 refine aB ?_
 refine aC rfl (bI Tryz.isAgg55 Tryz.sizeOf55 rfl (Ha4.blk 0 rfl) hl0_) rfl rfl ?_
 refine aB ?_
 refine aC rfl (aK rfl) rfl rfl ?_
 refine aB ?_
 refine aV rfl Tryz.call24 (vs := #[.agg (List.toArray cs0), .int .i64 (1048576)]) rfl rfl rfl (sz_Vat x0 _ _ _ (fV Ha4.1 hK0) (Bd_of_Vat hG0) kO kO) ?_
 rintro e10 W9 ⟨n7, rfl, hr8, hu6⟩; refine ⟨_, rfl, ?_⟩
 have H11 := Ha4.no hu6; clear Ha4
 refine aB ?_
 refine aC rfl (aW rfl) rfl rfl ?_
 refine aN ?_
 refine aM ?_
 refine wp_seq ?_
 refine wp_seq ?_
 refine aS [0, 1] rfl ?_
 refine aB ?_
 refine aC rfl (aK rfl) rfl rfl ?_
 refine aB ?_
 refine aC rfl (iW rfl rfl) rfl rfl ?_
 refine aN ?_
 refine aM ?_
 refine gU rfl (fun hc12 => ?_) (fun hc12 => ?_)
 ·refine wp_seq ?_
  refine aS [0] rfl ?_
  refine aB ?_
  refine aC rfl (aW rfl) rfl rfl ?_
  refine aN ?_
  refine aM ?_
  refine wp_ret ?_
  refine eB ?_
  refine eY (.inl rfl) Tryz.results9 rfl ?_
  exact ⟨rfl, H11.1⟩
 ·have hs_x0 : bR x0 ≤ 1048576 := by omega
  refine wp_skip ?_
  refine aM ?_
  refine wp_seq ?_
  refine aS [0, 1, 2, 3] rfl ?_
  refine aB ?_
  refine aC rfl (aK rfl) rfl rfl ?_
  refine aB ?_
  refine aC rfl (aK rfl) rfl rfl ?_
  refine aB ?_
  refine aV rfl Tryz.call35 (vs := #[.slice A2 l2.length c2, .int .i64 (n7)]) rfl rfl rfl (szS_Value l2 _ _ _ _ (bK H11.1 hC2) kO kO) ?_
  rintro e17 W16 ⟨n14, rfl, hr15, hu13⟩; refine ⟨_, rfl, ?_⟩
  have H18 := H11.no hu13; clear H11
  refine aB ?_
  refine aC rfl (aW rfl) rfl rfl ?_
  refine aN ?_
  refine aM ?_
  refine wp_seq ?_
  refine wp_seq ?_
  refine aS [0, 1] rfl ?_
  refine aB ?_
  refine aC rfl (aK rfl) rfl rfl ?_
  refine aB ?_
  refine aC rfl (iW rfl rfl) rfl rfl ?_
  refine aN ?_
  refine aM ?_
  refine gU rfl (fun hc19 => ?_) (fun hc19 => ?_)
  ·refine wp_seq ?_
   refine aS [0] rfl ?_
   refine aB ?_
   refine aC rfl (aW rfl) rfl rfl ?_
   refine aN ?_
   refine aM ?_
   refine wp_ret ?_
   refine eB ?_
   refine eY (.inl rfl) Tryz.results9 rfl ?_
   exact ⟨rfl, H18.1⟩
  ·have hs_l2 : bN dO l2 ≤ 1048576 := by omega
   have hn_l2 : l2.length ≤ 1048576 := by unfold bN at hs_l2; omega
   refine wp_skip ?_
   refine aM ?_
   refine wp_seq ?_
   have nn20 : 0 ≤ bL x0 := oG x0
   have nn20b := oH x0
   have nn20c : bR x0 ≤ 4194304 := (Nat.le_trans hs_x0 kD)
   have nn21 : 0 ≤ bU bJ l2 := fE bJ gV l2
   have nn21b := gN bJ dO cnt_Value_le l2
   have nn21c : bN dO l2 ≤ 4194304 := (Nat.le_trans hs_l2 kD)
   have nn22 : 0 ≤ bL (tsX a1 x0 l2 l2.length) := oG (tsX a1 x0 l2 l2.length)
   have nn22b := oH (tsX a1 x0 l2 l2.length)
   have nn22c : bR (tsX a1 x0 l2 l2.length) ≤ 4194304 := (by have := ts_sz a1 x0 l2 l2.length (Nat.le_refl _); omega)
   have nn23 : 0 ≤ bU cZ (tsO a1 x0 l2 l2.length) := fE cZ jS (tsO a1 x0 l2 l2.length)
   have nn23b := gN cZ iD cnt_Wire_le (tsO a1 x0 l2 l2.length)
   have nn23c : bN iD (tsO a1 x0 l2 l2.length) ≤ 4194304 := (by have h1 := ts_len a1 x0 l2 l2.length (Nat.le_refl _); have h2 := sumS_zero iD (fun _ => rfl) (tsO a1 x0 l2 l2.length); unfold bN; omega)
   refine aS [0, 1, 2, 3, 4, 5, 6, 7, 8, 9, 10, 11] rfl ?_
   refine aB ?_
   refine aC rfl (bI Tryz.isAgg55 Tryz.sizeOf55 rfl (H18.blk 0 rfl) hl0_) rfl rfl ?_
   refine aB ?_
   refine aV rfl Tryz.call27 (vs := #[.agg (List.toArray cs0)]) rfl rfl rfl (lH x0 _ _ (fV H18.1 hK0) hs_x0) ?_
   rintro e28 W27 ⟨cs_8_1, rfl, hM25, hu26⟩; refine ⟨_, rfl, ?_⟩
   have H31 := H18.new (q := hM aG x0 cs_8_1) hu26 hM25; clear H18
   refine aB ?_
   refine aC rfl (aK rfl) rfl rfl ?_
   refine aB ?_
   refine aC rfl (aK rfl) rfl rfl ?_
   refine aB ?_
   refine aV rfl Tryz.call37 (vs := #[.slice A2 l2.length c2]) rfl rfl rfl (nL l2 _ _ _ (bK H31.1 hC2) hs_l2) ?_
   rintro e36 W35 ⟨v33, rfl, hR34, hu32⟩; refine ⟨_, rfl, ?_⟩
   obtain ⟨B_8_4, c_8_4, rfl⟩ := dA hR34
   have H37 := H31.new (q := hR aT 95 (.slice B_8_4 l2.length c_8_4) l2) hu32 hR34; clear H31
   refine aB ?_
   refine aV rfl Tryz.call47 (vs := #[.agg (List.toArray cs_8_1), .int .i64 (a1), .slice B_8_4 l2.length c_8_4]) rfl rfl rfl (toWires_S x0 a1 l2 _ _ _ _ (H37.kn 1 rfl) hs_x0 (H37.fC 0 rfl) hn_l2) ?_
   rintro e41 W40 ⟨cs_8_5, B_8_5, c_8_5, rfl, hst38, hu39⟩; refine ⟨_, rfl, ?_⟩
   have H42 := H37.news hu39 hst38; clear H37
   refine aB ?_
   refine aC rfl (aK rfl) rfl rfl ?_
   refine aB ?_
   refine aC rfl (aY (v := .agg (List.toArray cs_8_5)) rfl rfl) rfl rfl ?_
   refine aB ?_
   refine aC rfl (aY (v := .slice B_8_5 ((tsO a1 x0 l2 l2.length).length) c_8_5) rfl rfl) rfl rfl ?_
   refine aB ?_
   refine bA rfl Tryz.zeroValue68 rfl rfl H42 ?_
   intro g_8_9 W43 hu44 Ha45; clear H42; clear hu44
   refine aB ?_
   refine aR rfl Tryz.sizeOf68 rfl rfl (bE (Ha45.kn 1 rfl)) rfl (bP (Ha45.kn 1 rfl)) Ha45 ?_
   intro W47 hu48 Ha49; clear Ha45; clear hu48
   refine aB ?_
   refine aC rfl (aW rfl) rfl rfl ?_
   refine aN ?_
   refine aM ?_
   refine wp_seq ?_
   refine aS [0, 1, 2, 3] rfl ?_
   refine aB ?_
   refine aC rfl (bI Tryz.isAgg55 Tryz.sizeOf55 rfl (Ha49.blk 5 rfl) hl0_) rfl rfl ?_
   refine aB ?_
   refine aV rfl Tryz.call27 (vs := #[.agg (List.toArray cs0)]) rfl rfl rfl (lH x0 _ _ (fV Ha49.1 hK0) hs_x0) ?_
   rintro e55 W54 ⟨cs_9_1, rfl, hM52, hu53⟩; refine ⟨_, rfl, ?_⟩
   have H58 := Ha49.new (q := hM aG x0 cs_9_1) hu53 hM52; clear Ha49
   refine aB ?_
   refine bA rfl Tryz.zeroValue68 rfl rfl H58 ?_
   intro g_9_2 W59 hu60 Ha61; clear H58; clear hu60
   refine aB ?_
   refine aR rfl Tryz.sizeOf68 rfl rfl (bE (Ha61.kn 1 rfl)) rfl (bP (Ha61.kn 1 rfl)) Ha61 ?_
   intro W63 hu64 Ha65; clear Ha61; clear hu64
   refine aN ?_
   refine aM ?_
   refine wp_seq ?_
   refine aS [0, 1, 2] rfl ?_
   refine aB ?_
   refine aC rfl (aK rfl) rfl rfl ?_
   refine aB ?_
   refine aV rfl Tryz.call37 (vs := #[.slice A2 l2.length c2]) rfl rfl rfl (nL l2 _ _ _ (bK Ha65.1 hC2) hs_l2) ?_
   rintro e71 W70 ⟨v68, rfl, hR69, hu67⟩; refine ⟨_, rfl, ?_⟩
   obtain ⟨B_10_1, c_10_1, rfl⟩ := dA hR69
   have H72 := Ha65.new (q := hR aT 95 (.slice B_10_1 l2.length c_10_1) l2) hu67 hR69; clear Ha65
   refine aB ?_
   refine aC rfl (aW rfl) rfl rfl ?_
   refine aN ?_
   refine aM ?_
   refine wp_seq ?_
   refine aS [0, 1, 2, 3, 4, 5, 6, 7, 8, 9] rfl ?_
   refine aB ?_
   refine aC rfl (bI Tryz.isAgg68 Tryz.sizeOf68 rfl (H72.blk 1 rfl) (bE (H72.kn 2 rfl))) rfl rfl ?_
   refine aB ?_
   refine aC rfl (aK rfl) rfl rfl ?_
   refine aB ?_
   refine aC rfl (aK rfl) rfl rfl ?_
   refine aB ?_
   refine aV rfl Tryz.call48 (vs := #[.agg (List.toArray cs_9_1), .int .i64 (a1), .slice B_10_1 l2.length c_10_1]) rfl rfl rfl (toWires_I x0 a1 l2 _ _ _ _ (H72.kn 2 rfl) hs_x0 (H72.fC 0 rfl) hn_l2) ?_
   rintro e76 W75 ⟨cs_11_3, B_11_3, c_11_3, rfl, hst73, hu74⟩; refine ⟨_, rfl, ?_⟩
   have H77 := H72.news hu74 hst73; clear H72
   refine aB ?_
   refine aC rfl (aK rfl) rfl rfl ?_
   refine aB ?_
   refine aC rfl (aY (v := .agg (List.toArray cs_11_3)) rfl rfl) rfl rfl ?_
   refine aB ?_
   refine aC rfl (aY (v := .slice B_11_3 ((tsO a1 x0 l2 l2.length).length) c_11_3) rfl rfl) rfl rfl ?_
   refine aB ?_
   refine bA rfl Tryz.zeroValue68 rfl rfl H77 ?_
   intro g_11_7 W78 hu79 Ha80; clear H77; clear hu79
   refine aB ?_
   refine aR rfl Tryz.sizeOf68 rfl rfl (bE (Ha80.kn 1 rfl)) rfl (bP (Ha80.kn 1 rfl)) Ha80 ?_
   intro W82 hu83 Ha84; clear Ha80; clear hu83
   refine aB ?_
   refine aC rfl (aW rfl) rfl rfl ?_
   refine aN ?_
   refine aM ?_
   refine wp_seq ?_
   refine wp_seq ?_
   refine aS [0, 1, 2, 3, 4, 5, 6, 7, 8, 9] rfl ?_
   refine aB ?_
   refine aC rfl (bI Tryz.isAgg68 Tryz.sizeOf68 rfl (Ha84.blk 0 rfl) (bE (Ha84.kn 1 rfl))) rfl rfl ?_
   refine aB ?_
   refine aC rfl (bI Tryz.isAgg68 Tryz.sizeOf68 rfl (Ha84.blk 6 rfl) (bE (Ha84.kn 7 rfl))) rfl rfl ?_
   refine aB ?_
   refine aV rfl Tryz.call30 (vs := #[.agg (List.toArray cs_11_3), .agg (List.toArray cs_8_5)]) rfl rfl rfl (eq_Vat (tsX a1 x0 l2 l2.length) _ _ _ (Ha84.kn 1 rfl) (Ha84.kn 7 rfl)) ?_
   rintro e88 W87 ⟨rfl, hu86⟩; refine ⟨_, rfl, ?_⟩
   have H89 := Ha84.no hu86; clear Ha84
   refine aB ?_
   refine aC rfl (iP rfl) rfl rfl ?_
   refine aB ?_
   refine aC rfl (aK rfl) rfl rfl ?_
   refine aB ?_
   refine eO rfl rfl rfl rfl (fun _ ho90 => ?_)
   refine aC ho90 (aK rfl) rfl rfl ?_
   refine aB ?_
   refine eO rfl rfl rfl rfl (fun _ ho91 => ?_)
   refine aC ho91 (aK rfl) rfl rfl ?_
   refine aB ?_
   refine eO rfl rfl rfl rfl (fun _ ho92 => ?_)
   refine aV ho92 Tryz.call49 (vs := #[.slice B_11_3 ((tsO a1 x0 l2 l2.length).length) c_11_3, .slice B_8_5 ((tsO a1 x0 l2 l2.length).length) c_8_5]) rfl rfl rfl (eqS_Wire (tsO a1 x0 l2 l2.length) _ _ _ _ _ (H89.fC 2 rfl) (H89.fC 8 rfl)) ?_
   rintro e95 W94 ⟨rfl, hu93⟩; refine ⟨_, rfl, ?_⟩
   have H96 := H89.no hu93; clear H89
   refine aB ?_
   refine eO rfl rfl rfl rfl (fun _ ho97 => ?_)
   refine aC ho97 (iP rfl) rfl rfl ?_
   refine aB ?_
   refine aC rfl (dS (v := .bool (false)) (b := false) rfl rfl rfl rfl) rfl rfl ?_
   refine aN ?_
   refine aM ?_
   refine fO rfl ?_
   refine wp_skip ?_
   refine aM ?_
   refine wp_seq ?_
   refine wp_seq ?_
   refine eH (fun W' => Blk W' g_9_2 68 (List.toArray cs_9_1) ∧ Blk W' g_0_0 55 (List.toArray cs0)) 5 kR ?_
   have H98 := H96.drew; clear H96
   have hS99 : Blk W94.drew g_9_2 68 (List.toArray cs_9_1) ∧ Blk W94.drew g_0_0 55 (List.toArray cs0) := ⟨H98.blk 4 rfl, H98.blk 11 rfl⟩
   refine aF (i := 0) rfl kR kR kR kR kR (fun _ _ _ h => h) rfl rfl hS99 (fun W' hs' => bI Tryz.isAgg68 Tryz.sizeOf68 rfl hs'.1 (bE (H98.kn 5 rfl))) ?_
   refine aF (i := 1) rfl kR kR kR kR kR (fun _ _ _ h => h) rfl rfl hS99 (fun W' hs' => bI Tryz.isAgg55 Tryz.sizeOf55 rfl hs'.2 hl0_) ?_
   refine aL (i := 2) kR ?_
   refine aV rfl Tryz.call27 (vs := #[.agg (List.toArray cs0)]) rfl rfl rfl (lH x0 _ _ (fV H98.1 hK0) hs_x0) ?_
   rintro e104 W103 ⟨cs_14_2, rfl, hM101, hu102⟩; refine ⟨_, rfl, ?_⟩
   have H107 := H98.new (q := hM aG x0 cs_14_2) hu102 hM101; clear H98
   have hS108 := And.intro (H107.blk 5 rfl) (H107.blk 12 rfl); refine ⟨fun _ => hS108, ?_⟩
   refine aL (i := 3) kR ?_
   refine aV rfl Tryz.call30 (vs := #[.agg (List.toArray cs_9_1), .agg (List.toArray cs_14_2)]) rfl rfl rfl (eq_Vat x0 _ _ _ (H107.kn 6 rfl) (H107.kn 0 rfl)) ?_
   rintro e111 W110 ⟨rfl, hu109⟩; refine ⟨_, rfl, ?_⟩
   have H112 := H107.no hu109; clear H107
   have hS113 := And.intro (H112.blk 5 rfl) (H112.blk 12 rfl); refine ⟨fun _ => hS113, ?_⟩
   refine aF (i := 4) rfl kR kR kR kR kR (fun _ _ _ h => h) rfl rfl hS113 (fun W' hs' => iP rfl) ?_
   refine bD kR ?_ _
   refine aM ?_
   refine fO rfl ?_
   refine wp_skip ?_
   refine aM ?_
   refine wp_seq ?_
   refine wp_seq ?_
   refine aS [0, 1, 2, 3, 4] rfl ?_
   refine aB ?_
   refine aC rfl (aK rfl) rfl rfl ?_
   refine aB ?_
   refine aC rfl (aK rfl) rfl rfl ?_
   refine aB ?_
   refine aV rfl Tryz.call37 (vs := #[.slice A2 l2.length c2]) rfl rfl rfl (nL l2 _ _ _ (bK H112.1 hC2) hs_l2) ?_
   rintro e118 W117 ⟨v115, rfl, hR116, hu114⟩; refine ⟨_, rfl, ?_⟩
   obtain ⟨B_16_2, c_16_2, rfl⟩ := dA hR116
   have H119 := H112.new (q := hR aT 95 (.slice B_16_2 l2.length c_16_2) l2) hu114 hR116; clear H112
   refine aB ?_
   refine aV rfl Tryz.call39 (vs := #[.slice B_10_1 l2.length c_10_1, .slice B_16_2 l2.length c_16_2]) rfl rfl rfl (eqS_Value l2 _ _ _ _ _ (H119.fC 5 rfl) (H119.fC 0 rfl)) ?_
   rintro e122 W121 ⟨rfl, hu120⟩; refine ⟨_, rfl, ?_⟩
   have H123 := H119.no hu120; clear H119
   refine aB ?_
   refine aC rfl (iP rfl) rfl rfl ?_
   refine aN ?_
   refine aM ?_
   refine fO rfl ?_
   refine wp_skip ?_
   refine aM ?_
   refine wp_seq ?_
   refine aS [0] rfl ?_
   refine aB ?_
   refine aC rfl (aW rfl) rfl rfl ?_
   refine aN ?_
   refine aM ?_
   refine wp_seq ?_
   refine aS [0, 1, 2, 3] rfl ?_
   refine aB ?_
   refine aC rfl (bI Tryz.isAgg68 Tryz.sizeOf68 rfl (H123.blk 6 rfl) (bE (H123.kn 7 rfl))) rfl rfl ?_
   refine aB ?_
   refine aC rfl (aK rfl) rfl rfl ?_
   refine aB ?_
   have H130 : St w No [hM aG x0 cs_9_1, hR aT 95 (.slice B_16_2 l2.length c_16_2) l2, hM aG x0 cs_14_2, hB g_11_7 68 (List.toArray cs_11_3), hM aG (tsX a1 x0 l2 l2.length) cs_11_3, hR bW 72 (.slice B_11_3 ((tsO a1 x0 l2 l2.length).length) c_11_3) (tsO a1 x0 l2 l2.length), hR aT 95 (.slice B_10_1 l2.length c_10_1) l2, hB g_9_2 68 (List.toArray cs_9_1), hB g_8_9 68 (List.toArray cs_8_5), hM aG (tsX a1 x0 l2 l2.length) cs_8_5, hR bW 72 (.slice B_8_5 ((tsO a1 x0 l2 l2.length).length) c_8_5) (tsO a1 x0 l2 l2.length), hR aT 95 (.slice B_8_4 l2.length c_8_4) l2, hM aG x0 cs_8_1, hB g_0_0 55 (List.toArray cs0)] W121 := H123.pick [7, 0, 1, 2, 3, 4, 5, 6, 8, 9, 10, 11, 12, 13] kD rfl; clear H123
   obtain ⟨F125, hM126, hF127, hT128⟩ := H130.turn
   refine aV rfl Tryz.call32 (vs := #[.agg (List.toArray cs_9_1), .int .i64 (1)]) rfl rfl rfl (oC x0 _ F125 _ _ hM126 kO kO) ?_
   rintro e132 W131 ⟨rfl, hM129, hu124⟩; refine ⟨_, rfl, ?_⟩
   have H133 : St w No [hM aG (bM 1 x0) cs_9_1, hR aT 95 (.slice B_16_2 l2.length c_16_2) l2, hM aG x0 cs_14_2, hB g_11_7 68 (List.toArray cs_11_3), hM aG (tsX a1 x0 l2 l2.length) cs_11_3, hR bW 72 (.slice B_11_3 ((tsO a1 x0 l2 l2.length).length) c_11_3) (tsO a1 x0 l2 l2.length), hR aT 95 (.slice B_10_1 l2.length c_10_1) l2, hB g_9_2 68 (List.toArray cs_9_1), hB g_8_9 68 (List.toArray cs_8_5), hM aG (tsX a1 x0 l2 l2.length) cs_8_5, hR bW 72 (.slice B_8_5 ((tsO a1 x0 l2 l2.length).length) c_8_5) (tsO a1 x0 l2 l2.length), hR aT 95 (.slice B_8_4 l2.length c_8_4) l2, hM aG x0 cs_8_1, hB g_0_0 55 (List.toArray cs0)] W131 := hT128 (hM aG (bM 1 x0) cs_9_1) _ hu124 ((hM aG (bM 1 x0) cs_9_1).mono (fun _ q => .inl q) hM129); clear H130
   refine aB ?_
   refine aC rfl (aW rfl) rfl rfl ?_
   refine aN ?_
   refine aM ?_
   refine wp_seq ?_
   refine aS [0, 1, 2, 3] rfl ?_
   refine aB ?_
   refine aC rfl (aK rfl) rfl rfl ?_
   refine aB ?_
   refine aC rfl (aK rfl) rfl rfl ?_
   refine aB ?_
   have H140 : St w No [hR aT 95 (.slice B_10_1 l2.length c_10_1) l2, hM aG (bM 1 x0) cs_9_1, hR aT 95 (.slice B_16_2 l2.length c_16_2) l2, hM aG x0 cs_14_2, hB g_11_7 68 (List.toArray cs_11_3), hM aG (tsX a1 x0 l2 l2.length) cs_11_3, hR bW 72 (.slice B_11_3 ((tsO a1 x0 l2 l2.length).length) c_11_3) (tsO a1 x0 l2 l2.length), hB g_9_2 68 (List.toArray cs_9_1), hB g_8_9 68 (List.toArray cs_8_5), hM aG (tsX a1 x0 l2 l2.length) cs_8_5, hR bW 72 (.slice B_8_5 ((tsO a1 x0 l2 l2.length).length) c_8_5) (tsO a1 x0 l2 l2.length), hR aT 95 (.slice B_8_4 l2.length c_8_4) l2, hM aG x0 cs_8_1, hB g_0_0 55 (List.toArray cs0)] W131 := H133.pick [6, 0, 1, 2, 3, 4, 5, 7, 8, 9, 10, 11, 12, 13] kD rfl; clear H133
   obtain ⟨F135, hM136, hF137, hT138⟩ := H140.turn
   refine aV rfl Tryz.call40 (vs := #[.slice B_10_1 l2.length c_10_1, .int .i64 ((1 + bL x0))]) rfl rfl rfl (markS_Value l2 _ F135 _ _ hM136 kO kO) ?_
   rintro e142 W141 ⟨rfl, hM139, hu134⟩; refine ⟨_, rfl, ?_⟩
   have H143 : St w No [hR aT 95 (.slice B_10_1 l2.length c_10_1) (mkS fZ bJ (1 + bL x0) l2), hM aG (bM 1 x0) cs_9_1, hR aT 95 (.slice B_16_2 l2.length c_16_2) l2, hM aG x0 cs_14_2, hB g_11_7 68 (List.toArray cs_11_3), hM aG (tsX a1 x0 l2 l2.length) cs_11_3, hR bW 72 (.slice B_11_3 ((tsO a1 x0 l2 l2.length).length) c_11_3) (tsO a1 x0 l2 l2.length), hB g_9_2 68 (List.toArray cs_9_1), hB g_8_9 68 (List.toArray cs_8_5), hM aG (tsX a1 x0 l2 l2.length) cs_8_5, hR bW 72 (.slice B_8_5 ((tsO a1 x0 l2 l2.length).length) c_8_5) (tsO a1 x0 l2 l2.length), hR aT 95 (.slice B_8_4 l2.length c_8_4) l2, hM aG x0 cs_8_1, hB g_0_0 55 (List.toArray cs0)] W141 := hT138 (hR aT 95 (.slice B_10_1 l2.length c_10_1) (mkS fZ bJ (1 + bL x0) l2)) _ hu134 ((hR aT 95 (.slice B_10_1 l2.length c_10_1) (mkS fZ bJ (1 + bL x0) l2)).mono (fun _ q => .inl q) hM139); clear H140
   refine aB ?_
   refine aC rfl (aW rfl) rfl rfl ?_
   refine aN ?_
   refine aM ?_
   refine wp_seq ?_
   refine wp_seq ?_
   refine aS [0, 1, 2, 3, 4, 5, 6, 7, 8, 9, 10, 11, 12, 13] rfl ?_
   refine aB ?_
   refine aC rfl (aK rfl) rfl rfl ?_
   refine aB ?_
   refine aC rfl (fB (p := (((1 + bL x0) + bU bJ l2) : Int) < 0) kO (iW (p := ((1 + bL x0) + bU bJ l2)) (q := 0) rfl rfl)) rfl rfl ?_
   refine aB ?_
   refine aC rfl (aK rfl) rfl rfl ?_
   refine aB ?_
   refine eO rfl rfl rfl rfl (fun _ ho144 => ?_)
   refine aC ho144 (bI Tryz.isAgg68 Tryz.sizeOf68 rfl (H143.blk 4 rfl) (bE (H143.kn 5 rfl))) rfl rfl ?_
   refine aB ?_
   refine eO rfl rfl rfl rfl (fun _ ho145 => ?_)
   refine aC ho145 (bI Tryz.isAgg68 Tryz.sizeOf68 rfl (H143.blk 8 rfl) (bE (H143.kn 9 rfl))) rfl rfl ?_
   refine aB ?_
   refine eO rfl rfl rfl rfl (fun _ ho146 => ?_)
   refine aV ho146 Tryz.call30 (vs := #[.agg (List.toArray cs_11_3), .agg (List.toArray cs_8_5)]) rfl rfl rfl (eq_Vat (tsX a1 x0 l2 l2.length) _ _ _ (H143.kn 5 rfl) (H143.kn 9 rfl)) ?_
   rintro e149 W148 ⟨rfl, hu147⟩; refine ⟨_, rfl, ?_⟩
   have H150 := H143.no hu147; clear H143
   refine aB ?_
   refine eO rfl rfl rfl rfl (fun _ ho151 => ?_)
   refine aC ho151 (iP rfl) rfl rfl ?_
   refine aB ?_
   refine aC rfl (dS (v := .bool (false)) (b := false) rfl rfl rfl rfl) rfl rfl ?_
   refine aB ?_
   refine aC rfl (aK rfl) rfl rfl ?_
   refine aB ?_
   refine eO rfl rfl rfl rfl (fun _ ho152 => ?_)
   refine aC ho152 (aK rfl) rfl rfl ?_
   refine aB ?_
   refine eO rfl rfl rfl rfl (fun _ ho153 => ?_)
   refine aC ho153 (aK rfl) rfl rfl ?_
   refine aB ?_
   refine eO rfl rfl rfl rfl (fun _ ho154 => ?_)
   refine aV ho154 Tryz.call49 (vs := #[.slice B_11_3 ((tsO a1 x0 l2 l2.length).length) c_11_3, .slice B_8_5 ((tsO a1 x0 l2 l2.length).length) c_8_5]) rfl rfl rfl (eqS_Wire (tsO a1 x0 l2 l2.length) _ _ _ _ _ (H150.fC 6 rfl) (H150.fC 10 rfl)) ?_
   rintro e157 W156 ⟨rfl, hu155⟩; refine ⟨_, rfl, ?_⟩
   have H158 := H150.no hu155; clear H150
   refine aB ?_
   refine eO rfl rfl rfl rfl (fun _ ho159 => ?_)
   refine aC ho159 (iP rfl) rfl rfl ?_
   refine aB ?_
   refine aC rfl (dS (v := .bool (false)) (b := false) rfl rfl rfl rfl) rfl rfl ?_
   refine aN ?_
   refine aM ?_
   refine fO rfl ?_
   refine wp_skip ?_
   refine aM ?_
   refine wp_seq ?_
   refine aS [0] rfl ?_
   refine aB ?_
   refine aC rfl (aW rfl) rfl rfl ?_
   refine aN ?_
   refine aM ?_
   refine wp_seq ?_
   refine aS [0, 1, 2, 3] rfl ?_
   refine aB ?_
   refine aC rfl (bI Tryz.isAgg68 Tryz.sizeOf68 rfl (H158.blk 4 rfl) (bE (H158.kn 5 rfl))) rfl rfl ?_
   refine aB ?_
   refine aC rfl (aK rfl) rfl rfl ?_
   refine aB ?_
   have H166 : St w No [hM aG (tsX a1 x0 l2 l2.length) cs_11_3, hR aT 95 (.slice B_10_1 l2.length c_10_1) (mkS fZ bJ (1 + bL x0) l2), hM aG (bM 1 x0) cs_9_1, hR aT 95 (.slice B_16_2 l2.length c_16_2) l2, hM aG x0 cs_14_2, hB g_11_7 68 (List.toArray cs_11_3), hR bW 72 (.slice B_11_3 ((tsO a1 x0 l2 l2.length).length) c_11_3) (tsO a1 x0 l2 l2.length), hB g_9_2 68 (List.toArray cs_9_1), hB g_8_9 68 (List.toArray cs_8_5), hM aG (tsX a1 x0 l2 l2.length) cs_8_5, hR bW 72 (.slice B_8_5 ((tsO a1 x0 l2 l2.length).length) c_8_5) (tsO a1 x0 l2 l2.length), hR aT 95 (.slice B_8_4 l2.length c_8_4) l2, hM aG x0 cs_8_1, hB g_0_0 55 (List.toArray cs0)] W156 := H158.pick [5, 0, 1, 2, 3, 4, 6, 7, 8, 9, 10, 11, 12, 13] kD rfl; clear H158
   obtain ⟨F161, hM162, hF163, hT164⟩ := H166.turn
   refine aV rfl Tryz.call32 (vs := #[.agg (List.toArray cs_11_3), .int .i64 (1)]) rfl rfl rfl (oC (tsX a1 x0 l2 l2.length) _ F161 _ _ hM162 kO kO) ?_
   rintro e168 W167 ⟨rfl, hM165, hu160⟩; refine ⟨_, rfl, ?_⟩
   have H169 : St w No [hM aG (bM 1 (tsX a1 x0 l2 l2.length)) cs_11_3, hR aT 95 (.slice B_10_1 l2.length c_10_1) (mkS fZ bJ (1 + bL x0) l2), hM aG (bM 1 x0) cs_9_1, hR aT 95 (.slice B_16_2 l2.length c_16_2) l2, hM aG x0 cs_14_2, hB g_11_7 68 (List.toArray cs_11_3), hR bW 72 (.slice B_11_3 ((tsO a1 x0 l2 l2.length).length) c_11_3) (tsO a1 x0 l2 l2.length), hB g_9_2 68 (List.toArray cs_9_1), hB g_8_9 68 (List.toArray cs_8_5), hM aG (tsX a1 x0 l2 l2.length) cs_8_5, hR bW 72 (.slice B_8_5 ((tsO a1 x0 l2 l2.length).length) c_8_5) (tsO a1 x0 l2 l2.length), hR aT 95 (.slice B_8_4 l2.length c_8_4) l2, hM aG x0 cs_8_1, hB g_0_0 55 (List.toArray cs0)] W167 := hT164 (hM aG (bM 1 (tsX a1 x0 l2 l2.length)) cs_11_3) _ hu160 ((hM aG (bM 1 (tsX a1 x0 l2 l2.length)) cs_11_3).mono (fun _ q => .inl q) hM165); clear H166
   refine aB ?_
   refine aC rfl (aW rfl) rfl rfl ?_
   refine aN ?_
   refine aM ?_
   refine wp_seq ?_
   refine aS [0, 1, 2, 3] rfl ?_
   refine aB ?_
   refine aC rfl (aK rfl) rfl rfl ?_
   refine aB ?_
   refine aC rfl (aK rfl) rfl rfl ?_
   refine aB ?_
   have H176 : St w No [hR bW 72 (.slice B_11_3 ((tsO a1 x0 l2 l2.length).length) c_11_3) (tsO a1 x0 l2 l2.length), hM aG (bM 1 (tsX a1 x0 l2 l2.length)) cs_11_3, hR aT 95 (.slice B_10_1 l2.length c_10_1) (mkS fZ bJ (1 + bL x0) l2), hM aG (bM 1 x0) cs_9_1, hR aT 95 (.slice B_16_2 l2.length c_16_2) l2, hM aG x0 cs_14_2, hB g_11_7 68 (List.toArray cs_11_3), hB g_9_2 68 (List.toArray cs_9_1), hB g_8_9 68 (List.toArray cs_8_5), hM aG (tsX a1 x0 l2 l2.length) cs_8_5, hR bW 72 (.slice B_8_5 ((tsO a1 x0 l2 l2.length).length) c_8_5) (tsO a1 x0 l2 l2.length), hR aT 95 (.slice B_8_4 l2.length c_8_4) l2, hM aG x0 cs_8_1, hB g_0_0 55 (List.toArray cs0)] W167 := H169.pick [6, 0, 1, 2, 3, 4, 5, 7, 8, 9, 10, 11, 12, 13] kD rfl; clear H169
   obtain ⟨F171, hM172, hF173, hT174⟩ := H176.turn
   refine aV rfl Tryz.call50 (vs := #[.slice B_11_3 ((tsO a1 x0 l2 l2.length).length) c_11_3, .int .i64 ((1 + bL (tsX a1 x0 l2 l2.length)))]) rfl rfl rfl (markS_Wire (tsO a1 x0 l2 l2.length) _ F171 _ _ hM172 kO kO) ?_
   rintro e178 W177 ⟨rfl, hM175, hu170⟩; refine ⟨_, rfl, ?_⟩
   have H179 : St w No [hR bW 72 (.slice B_11_3 ((tsO a1 x0 l2 l2.length).length) c_11_3) (mkS j5 cZ (1 + bL (tsX a1 x0 l2 l2.length)) (tsO a1 x0 l2 l2.length)), hM aG (bM 1 (tsX a1 x0 l2 l2.length)) cs_11_3, hR aT 95 (.slice B_10_1 l2.length c_10_1) (mkS fZ bJ (1 + bL x0) l2), hM aG (bM 1 x0) cs_9_1, hR aT 95 (.slice B_16_2 l2.length c_16_2) l2, hM aG x0 cs_14_2, hB g_11_7 68 (List.toArray cs_11_3), hB g_9_2 68 (List.toArray cs_9_1), hB g_8_9 68 (List.toArray cs_8_5), hM aG (tsX a1 x0 l2 l2.length) cs_8_5, hR bW 72 (.slice B_8_5 ((tsO a1 x0 l2 l2.length).length) c_8_5) (tsO a1 x0 l2 l2.length), hR aT 95 (.slice B_8_4 l2.length c_8_4) l2, hM aG x0 cs_8_1, hB g_0_0 55 (List.toArray cs0)] W177 := hT174 (hR bW 72 (.slice B_11_3 ((tsO a1 x0 l2 l2.length).length) c_11_3) (mkS j5 cZ (1 + bL (tsX a1 x0 l2 l2.length)) (tsO a1 x0 l2 l2.length))) _ hu170 ((hR bW 72 (.slice B_11_3 ((tsO a1 x0 l2 l2.length).length) c_11_3) (mkS j5 cZ (1 + bL (tsX a1 x0 l2 l2.length)) (tsO a1 x0 l2 l2.length))).mono (fun _ q => .inl q) hM175); clear H176
   refine aB ?_
   refine aC rfl (aW rfl) rfl rfl ?_
   refine aN ?_
   refine aM ?_
   refine wp_seq ?_
   refine aS [0] rfl ?_
   refine aB ?_
   refine aC rfl (aW rfl) rfl rfl ?_
   refine aN ?_
   refine aM ?_
   refine wp_seq ?_
   refine aS [0, 1, 2, 3] rfl ?_
   refine aB ?_
   refine aC rfl (bI Tryz.isAgg68 Tryz.sizeOf68 rfl (H179.blk 6 rfl) (bE (H179.kn 1 rfl))) rfl rfl ?_
   refine aB ?_
   refine aC rfl (aK rfl) rfl rfl ?_
   refine aB ?_
   refine aV rfl Tryz.call34 (vs := #[.agg (List.toArray cs_11_3), .int .i64 (1)]) rfl rfl rfl (oD (tsX a1 x0 l2 l2.length) _ _ _ (H179.kn 1 rfl) kO kO) ?_
   rintro e182 W181 ⟨rfl, hu180⟩; refine ⟨_, rfl, ?_⟩
   have H183 := H179.no hu180; clear H179
   refine aB ?_
   refine aC rfl (aW rfl) rfl rfl ?_
   refine aN ?_
   refine aM ?_
   refine wp_seq ?_
   refine wp_seq ?_
   refine aS [0, 1] rfl ?_
   refine aB ?_
   refine aC rfl (aK rfl) rfl rfl ?_
   refine aB ?_
   refine aC rfl (fB (p := ((1 + bL (tsX a1 x0 l2 l2.length)) : Int) < 0) kO (iW (p := (1 + bL (tsX a1 x0 l2 l2.length))) (q := 0) rfl rfl)) rfl rfl ?_
   refine aN ?_
   refine aM ?_
   refine fO rfl ?_
   refine wp_skip ?_
   refine aM ?_
   refine wp_seq ?_
   refine aS [0, 1, 2, 3] rfl ?_
   refine aB ?_
   refine aC rfl (aK rfl) rfl rfl ?_
   refine aB ?_
   refine aC rfl (aK rfl) rfl rfl ?_
   refine aB ?_
   refine aV rfl Tryz.call51 (vs := #[.slice B_11_3 ((tsO a1 x0 l2 l2.length).length) c_11_3, .int .i64 ((1 + bL (tsX a1 x0 l2 l2.length)))]) rfl rfl rfl (heldS_Wire (tsO a1 x0 l2 l2.length) _ _ _ _ (H183.fC 0 rfl) kO kO) ?_
   rintro e186 W185 ⟨rfl, hu184⟩; refine ⟨_, rfl, ?_⟩
   have H187 := H183.no hu184; clear H183
   refine aB ?_
   refine aC rfl (aW rfl) rfl rfl ?_
   refine aN ?_
   refine aM ?_
   refine wp_seq ?_
   refine wp_seq ?_
   refine aS [0, 1] rfl ?_
   refine aB ?_
   refine aC rfl (aK rfl) rfl rfl ?_
   refine aB ?_
   refine aC rfl (fB (p := (((1 + bL (tsX a1 x0 l2 l2.length)) + bU cZ (tsO a1 x0 l2 l2.length)) : Int) < 0) kO (iW (p := ((1 + bL (tsX a1 x0 l2 l2.length)) + bU cZ (tsO a1 x0 l2 l2.length))) (q := 0) rfl rfl)) rfl rfl ?_
   refine aN ?_
   refine aM ?_
   refine fO rfl ?_
   refine wp_skip ?_
   refine aM ?_
   refine wp_seq ?_
   refine wp_seq ?_
   refine aS [0, 1, 2] rfl ?_
   refine aB ?_
   refine aC rfl (aK rfl) rfl rfl ?_
   refine aB ?_
   refine aC rfl (aK rfl) rfl rfl ?_
   refine aB ?_
   refine aC rfl (fB (p := ¬ (((1 + bL (tsX a1 x0 l2 l2.length)) + bU cZ (tsO a1 x0 l2 l2.length)) : Int) = ((1 + bL (tsX a1 x0 l2 l2.length)) + bU cZ (tsO a1 x0 l2 l2.length))) (not_not_intro rfl) (iR (p := ((1 + bL (tsX a1 x0 l2 l2.length)) + bU cZ (tsO a1 x0 l2 l2.length))) (q := ((1 + bL (tsX a1 x0 l2 l2.length)) + bU cZ (tsO a1 x0 l2 l2.length))) rfl rfl)) rfl rfl ?_
   refine aN ?_
   refine aM ?_
   refine fO rfl ?_
   refine wp_skip ?_
   refine aM ?_
   refine wp_seq ?_
   refine aS [0, 1, 2, 3, 4, 5, 6, 7, 8, 9, 10, 11] rfl ?_
   refine aB ?_
   refine aC rfl (bI Tryz.isAgg55 Tryz.sizeOf55 rfl (H187.blk 13 rfl) hl0_) rfl rfl ?_
   refine aB ?_
   refine aV rfl Tryz.call27 (vs := #[.agg (List.toArray cs0)]) rfl rfl rfl (lH x0 _ _ (fV H187.1 hK0) hs_x0) ?_
   rintro e192 W191 ⟨cs_35_1, rfl, hM189, hu190⟩; refine ⟨_, rfl, ?_⟩
   have H195 := H187.new (q := hM aG x0 cs_35_1) hu190 hM189; clear H187
   refine aB ?_
   refine aC rfl (aK rfl) rfl rfl ?_
   refine aB ?_
   refine aC rfl (aK rfl) rfl rfl ?_
   refine aB ?_
   refine aV rfl Tryz.call37 (vs := #[.slice A2 l2.length c2]) rfl rfl rfl (nL l2 _ _ _ (bK H195.1 hC2) hs_l2) ?_
   rintro e200 W199 ⟨v197, rfl, hR198, hu196⟩; refine ⟨_, rfl, ?_⟩
   obtain ⟨B_35_4, c_35_4, rfl⟩ := dA hR198
   have H201 := H195.new (q := hR aT 95 (.slice B_35_4 l2.length c_35_4) l2) hu196 hR198; clear H195
   refine aB ?_
   refine aV rfl Tryz.call48 (vs := #[.agg (List.toArray cs_35_1), .int .i64 (a1), .slice B_35_4 l2.length c_35_4]) rfl rfl rfl (toWires_I x0 a1 l2 _ _ _ _ (H201.kn 1 rfl) hs_x0 (H201.fC 0 rfl) hn_l2) ?_
   rintro e205 W204 ⟨cs_35_5, B_35_5, c_35_5, rfl, hst202, hu203⟩; refine ⟨_, rfl, ?_⟩
   have H206 := H201.news hu203 hst202; clear H201
   refine aB ?_
   refine aC rfl (aK rfl) rfl rfl ?_
   refine aB ?_
   refine aC rfl (aY (v := .agg (List.toArray cs_35_5)) rfl rfl) rfl rfl ?_
   refine aB ?_
   refine aC rfl (aY (v := .slice B_35_5 ((tsO a1 x0 l2 l2.length).length) c_35_5) rfl rfl) rfl rfl ?_
   refine aB ?_
   refine bA rfl Tryz.zeroValue68 rfl rfl H206 ?_
   intro g_35_9 W207 hu208 Ha209; clear H206; clear hu208
   refine aB ?_
   refine aR rfl Tryz.sizeOf68 rfl rfl (bE (Ha209.kn 1 rfl)) rfl (bP (Ha209.kn 1 rfl)) Ha209 ?_
   intro W211 hu212 Ha213; clear Ha209; clear hu212
   refine aB ?_
   refine aC rfl (aW rfl) rfl rfl ?_
   refine aN ?_
   refine aM ?_
   refine wp_seq ?_
   refine wp_seq ?_
   refine aS [0, 1, 2, 3, 4, 5, 6, 7, 8, 9] rfl ?_
   refine aB ?_
   refine aC rfl (bI Tryz.isAgg68 Tryz.sizeOf68 rfl (Ha213.blk 0 rfl) (bE (Ha213.kn 1 rfl))) rfl rfl ?_
   refine aB ?_
   refine aC rfl (bI Tryz.isAgg68 Tryz.sizeOf68 rfl (Ha213.blk 13 rfl) (bE (Ha213.kn 14 rfl))) rfl rfl ?_
   refine aB ?_
   refine aV rfl Tryz.call30 (vs := #[.agg (List.toArray cs_35_5), .agg (List.toArray cs_8_5)]) rfl rfl rfl (eq_Vat (tsX a1 x0 l2 l2.length) _ _ _ (Ha213.kn 1 rfl) (Ha213.kn 14 rfl)) ?_
   rintro e217 W216 ⟨rfl, hu215⟩; refine ⟨_, rfl, ?_⟩
   have H218 := Ha213.no hu215; clear Ha213
   refine aB ?_
   refine aC rfl (iP rfl) rfl rfl ?_
   refine aB ?_
   refine aC rfl (aK rfl) rfl rfl ?_
   refine aB ?_
   refine eO rfl rfl rfl rfl (fun _ ho219 => ?_)
   refine aC ho219 (aK rfl) rfl rfl ?_
   refine aB ?_
   refine eO rfl rfl rfl rfl (fun _ ho220 => ?_)
   refine aC ho220 (aK rfl) rfl rfl ?_
   refine aB ?_
   refine eO rfl rfl rfl rfl (fun _ ho221 => ?_)
   refine aV ho221 Tryz.call49 (vs := #[.slice B_35_5 ((tsO a1 x0 l2 l2.length).length) c_35_5, .slice B_8_5 ((tsO a1 x0 l2 l2.length).length) c_8_5]) rfl rfl rfl (eqS_Wire (tsO a1 x0 l2 l2.length) _ _ _ _ _ (H218.fC 2 rfl) (H218.fC 15 rfl)) ?_
   rintro e224 W223 ⟨rfl, hu222⟩; refine ⟨_, rfl, ?_⟩
   have H225 := H218.no hu222; clear H218
   refine aB ?_
   refine eO rfl rfl rfl rfl (fun _ ho226 => ?_)
   refine aC ho226 (iP rfl) rfl rfl ?_
   refine aB ?_
   refine aC rfl (dS (v := .bool (false)) (b := false) rfl rfl rfl rfl) rfl rfl ?_
   refine aN ?_
   refine aM ?_
   refine fO rfl ?_
   refine wp_skip ?_
   refine aM ?_
   refine wp_seq ?_
   refine aS [0] rfl ?_
   refine aB ?_
   refine aC rfl (aW rfl) rfl rfl ?_
   refine aN ?_
   refine aM ?_
   refine wp_seq ?_
   refine aS [0, 1, 2, 3] rfl ?_
   refine aB ?_
   refine aC rfl (bI Tryz.isAgg68 Tryz.sizeOf68 rfl (H225.blk 11 rfl) (bE (H225.kn 6 rfl))) rfl rfl ?_
   refine aB ?_
   refine aC rfl (aK rfl) rfl rfl ?_
   refine aB ?_
   refine aV rfl Tryz.call34 (vs := #[.agg (List.toArray cs_11_3), .int .i64 (1)]) rfl rfl rfl (oD (tsX a1 x0 l2 l2.length) _ _ _ (H225.kn 6 rfl) kO kO) ?_
   rintro e229 W228 ⟨rfl, hu227⟩; refine ⟨_, rfl, ?_⟩
   have H230 := H225.no hu227; clear H225
   refine aB ?_
   refine aC rfl (aW rfl) rfl rfl ?_
   refine aN ?_
   refine aM ?_
   refine wp_seq ?_
   refine wp_seq ?_
   refine aS [0, 1] rfl ?_
   refine aB ?_
   refine aC rfl (aK rfl) rfl rfl ?_
   refine aB ?_
   refine aC rfl (fB (p := ((1 + bL (tsX a1 x0 l2 l2.length)) : Int) < 0) kO (iW (p := (1 + bL (tsX a1 x0 l2 l2.length))) (q := 0) rfl rfl)) rfl rfl ?_
   refine aN ?_
   refine aM ?_
   refine fO rfl ?_
   refine wp_skip ?_
   refine aM ?_
   refine wp_seq ?_
   refine aS [0, 1, 2, 3] rfl ?_
   refine aB ?_
   refine aC rfl (aK rfl) rfl rfl ?_
   refine aB ?_
   refine aC rfl (aK rfl) rfl rfl ?_
   refine aB ?_
   refine aV rfl Tryz.call51 (vs := #[.slice B_11_3 ((tsO a1 x0 l2 l2.length).length) c_11_3, .int .i64 ((1 + bL (tsX a1 x0 l2 l2.length)))]) rfl rfl rfl (heldS_Wire (tsO a1 x0 l2 l2.length) _ _ _ _ (H230.fC 5 rfl) kO kO) ?_
   rintro e233 W232 ⟨rfl, hu231⟩; refine ⟨_, rfl, ?_⟩
   have H234 := H230.no hu231; clear H230
   refine aB ?_
   refine aC rfl (aW rfl) rfl rfl ?_
   refine aN ?_
   refine aM ?_
   refine wp_seq ?_
   refine wp_seq ?_
   refine aS [0, 1] rfl ?_
   refine aB ?_
   refine aC rfl (aK rfl) rfl rfl ?_
   refine aB ?_
   refine aC rfl (fB (p := (((1 + bL (tsX a1 x0 l2 l2.length)) + bU cZ (tsO a1 x0 l2 l2.length)) : Int) < 0) kO (iW (p := ((1 + bL (tsX a1 x0 l2 l2.length)) + bU cZ (tsO a1 x0 l2 l2.length))) (q := 0) rfl rfl)) rfl rfl ?_
   refine aN ?_
   refine aM ?_
   refine fO rfl ?_
   refine wp_skip ?_
   refine aM ?_
   refine wp_seq ?_
   refine wp_seq ?_
   refine aS [0, 1, 2] rfl ?_
   refine aB ?_
   refine aC rfl (aK rfl) rfl rfl ?_
   refine aB ?_
   refine aC rfl (aK rfl) rfl rfl ?_
   refine aB ?_
   refine aC rfl (fB (p := ¬ (((1 + bL (tsX a1 x0 l2 l2.length)) + bU cZ (tsO a1 x0 l2 l2.length)) : Int) = ((1 + bL (tsX a1 x0 l2 l2.length)) + bU cZ (tsO a1 x0 l2 l2.length))) (not_not_intro rfl) (iR (p := ((1 + bL (tsX a1 x0 l2 l2.length)) + bU cZ (tsO a1 x0 l2 l2.length))) (q := ((1 + bL (tsX a1 x0 l2 l2.length)) + bU cZ (tsO a1 x0 l2 l2.length))) rfl rfl)) rfl rfl ?_
   refine aN ?_
   refine aM ?_
   refine fO rfl ?_
   refine wp_skip ?_
   refine aM ?_
   refine wp_seq ?_
   refine aS [0] rfl ?_
   refine aB ?_
   refine aC rfl (aW rfl) rfl rfl ?_
   refine aN ?_
   refine aM ?_
   refine wp_ret ?_
   refine eY (.inl rfl) Tryz.results9 rfl ?_
   exact ⟨rfl, H234.1⟩
end Go.Proofs.YtfnedoiplblldaaGreatFam

/- The law FnExactEventName holds for every input, where the listed variable reads as the program's text lays it. No other conditions. -/
import Derived.Test.YtjmkciiifiajeaaDoorRows
import Derived.Test.YtjmkciiifiajeaaDoorTie
import Derived.Test.YtjmkciiifiajeaaDoorCards
import Derived.Test.YtjmkciiifiajeaaDoorEvWalk
import Derived.ProofKit
import Derived.LaidMore
import Derived.OpenShut
import Derived.ShutString
import Derived.OpenVars
import Derived.ChangeVars
import Derived.ChangeArms
import Derived.Carry
import Derived.ChangeOld
import Derived.Stop.Joined
import Derived.SevenTiedAt
namespace Go.Proofs.YtjmkciiifiajeaaDoor.ev
open Go Go.ChangeShapes Go.WideShapes Go.ChangeAt Go.WideMaps Go.WideElems Go.RowKit
theorem own : ownKnob Tryd.prog.godebug = none := by kernel_rfl
theorem laidOut : laidOutB Tryd.prog = true := by kernel_rfl
theorem gN : Tryd.prog.globalNamed "loop.example/g00591/impl.eventNames" = some 0 := by kernel_rfl
theorem tN : (Tryd.prog.globals[0]?).map (·.type) = some 26 := by kernel_rfl
def laid1 : List (String × DataW Unit) := [("loop.example/g00591/impl.eventNames", Rows.laid_loop_example_g00591_impl_eventNames)]
theorem door_met (os : Os) (args : Array Value) : laidMetH Tryd.prog laid1 ((World.doorLaid Tryd.prog 400 os).forCall (fun _ _ => 0) ⟨#[], args, []⟩).memory :=
  laidMetH_of_parts3 (fuel := 8) (laidMet_of_run' 8 (by kernel_rfl) (by kernel_rfl)) (by kernel_rfl) (by kernel_rfl)
set_option maxRecDepth 100000 in
theorem of_laid {W : World} (h : laidMetH Tryd.prog laid1 W) : cellsAt W := by
  rw [MakeChecks.laidMetH_plain _ _ _ (by kernel_rfl)] at h
  obtain ⟨ps, ⟨g0, t0, cs0, f0, p0, q0, hg0, ht0, hv0, hd0, _, _⟩, _, _⟩ := h
  obtain rfl := Option.some.inj (gN.symm.trans hg0)
  obtain rfl := Option.some.inj (tN.symm.trans ht0)
  obtain ⟨xs, m1, rfl, hx1, hlen, hn3, hel⟩ := DataW.trod_array Tryd.underlying26 hd0
  have c9 : Tryd.prog.cellsOf 9 = 1 := by kernel_rfl
  simp only [c9, Nat.mul_one] at hel
  simp only [Prod.mk.injEq, Rows.laid_loop_example_g00591_impl_eventNames, DataW.agg.injEq] at hx1
  have key : ∀ (i : Nat) (s : ByteArray), i < 8 → (xs.map (·.1))[i]? = some (.lit (.string s.data.toList)) → W.cell? ⟨0, i, none⟩ = some (.string s) := by
    intro i s hi hs
    rw [List.getElem?_map] at hs
    obtain ⟨x, hx, hxs⟩ := Option.map_eq_some_iff.1 hs
    obtain ⟨b, e1, e2, _⟩ := DataW.trod_string Tryd.underlying9 ((hel i hi).trans hx)
    rw [e2] at hxs
    simp only [DataW.lit.injEq, Lit.string.injEq] at hxs
    have hb : b = s := by
      obtain ⟨⟨l1⟩⟩ := b
      obtain ⟨⟨l2⟩⟩ := s
      simp at hxs
      rw [hxs]
    subst hb
    rw [World.var?_cell hg0 hv0 i]
    have h2 : ((cs0.toList.drop i).take 1)[0]? = some (.string b) := by rw [e1]; rfl
    simpa using h2
  rw [← hx1.1] at key
  exact ⟨key 0 ⟨#[]⟩ (by decide) rfl, key 1 ⟨#[115, 101, 110, 100]⟩ (by decide) rfl, key 2 ⟨#[116, 117, 114, 110]⟩ (by decide) rfl, key 3 ⟨#[100, 101, 108, 105, 118, 101, 114]⟩ (by decide) rfl, key 4 ⟨#[99, 117, 116]⟩ (by decide) rfl, key 5 ⟨#[106, 111, 105, 110]⟩ (by decide) rfl, key 6 ⟨#[115, 119, 101, 101, 112]⟩ (by decide) rfl, key 7 ⟨#[109, 97, 107, 101]⟩ (by decide) rfl⟩
set_option maxHeartbeats 1000000 in
set_option maxRecDepth 100000 in
theorem law_x (k : Int) (W : World) (hc : cellsAt W) : Calls Tryd.prog 3 #[.int .i64 k] W (fun e W' => e = .returned (.bool true) ∧ Below W.heap.size W W') := by
  have two : ∀ (s : ByteArray), (∀ w : World, Calls Tryd.prog 4 #[.int .i64 k] w (fun e w' => e = .returned (.string s) ∧ Below w.heap.size w w')) → (∀ w : World, cellsAt w → Calls Tryd.prog 5 #[.int .i64 k] w (fun e w' => e = .returned (.string s) ∧ Below w.heap.size w w')) → Calls Tryd.prog 3 #[.int .i64 k] W (fun e W' => e = .returned (.bool true) ∧ Below W.heap.size W W') := by
    intro s hs hi
    go_enter Tryd.func3, Tryd.ntmps3
    go_wp2_with fail
    refine (hs _).mono ?_
    rintro e w1 ⟨rfl, b1⟩
    have hc1 : cellsAt w1 := by
      have z : 0 < W.heap.size := by
        obtain ⟨h0, _⟩ := hc
        exact World.block_lt_of_cell? W _ h0
      obtain ⟨h0, h1, h2, h3, h4, h5, h6, h7⟩ := hc
      exact ⟨(b1.cell z).trans h0, (b1.cell z).trans h1, (b1.cell z).trans h2, (b1.cell z).trans h3, (b1.cell z).trans h4, (b1.cell z).trans h5, (b1.cell z).trans h6, (b1.cell z).trans h7⟩
    go_wp2_with fail
    refine (hi _ hc1).mono ?_
    rintro e w2 ⟨rfl, b2⟩
    go_wp2
    go_ret
    exact ⟨rfl, b1.trans (b2.mono b1.size)⟩
  by_cases hk : 1 ≤ k ∧ k ≤ 7
  · rcases cases7 k hk.1 hk.2 with rfl | rfl | rfl | rfl | rfl | rfl | rfl
    · exact two _ ev_s1 ev_i1
    · exact two _ ev_s2 ev_i2
    · exact two _ ev_s3 ev_i3
    · exact two _ ev_s4 ev_i4
    · exact two _ ev_s5 ev_i5
    · exact two _ ev_s6 ev_i6
    · exact two _ ev_s7 ev_i7
  · exact two _ (ev_sx k hk) (fun w _ => ev_ix k hk w)
set_option maxRecDepth 100000 in
theorem lifted (os : Os) (started : os.Started) (H : Type) (enc : TypeId × Value → H) :
    ReturnsInHanded {} Tryd.checked os 3 .any (fun w args => (Rows.fnExactEventNameSpec.pre enc Tryd.prog Tryd.f3 [] false w args ∧ laidMetH Tryd.prog laid1 w) ∧ sizedMet enc Tryd.prog Tryd.f3 (OpenSpec.ofChange Rows.fnExactEventNameSpec) false w args)
      (Rows.fnExactEventNameSpec.post enc Tryd.prog Tryd.f3 false true false false) := by
  refine returnsInHanded_of_change_and (C := Tryd.checked) (X := fun w _ => laidMetH Tryd.prog laid1 w) (fun _ _ _ hh h => h.of_heap hh) own started (by kernel_rfl) Tryd.func3
    (ChangeSpec.witness_shaped (enc := enc) (C := Tryd.checked) (os := os) (X := fun w _ => laidMetH Tryd.prog laid1 w) false (World.doorLaid Tryd.prog 400 os) #[.int .i64 0] 8 rfl (World.shaped_of_RefB (by kernel_rfl) (by kernel_rfl)) (by kernel_rfl) (by kernel_rfl) (by kernel_rfl) (door_met os _)) ?_
  intro W base args ds gs before hval0 hW _ _ hL _
  have hval : ∀ (j : Nat) t v, Tryd.f3.params[j]? = some t → args[j]? = some v → Value.okWide Tryd.prog W .any base t v := hval0
  have hW' := hW
  obtain ⟨p, q, hA0, hV, rfl, hfz, hnd⟩ := hW
  have hA : DataW.TrodAll enc Tryd.prog W 0 (fun _ => true) true Tryd.f3.params.toList args.toList ds p := hA0
  rw [Tryd.params3] at hA hval
  obtain ⟨v0, d0, rfl, rfl, h0⟩ := trodAll_one hA
  have hV0 := hV
  obtain ⟨g, t, cs, fuel, d, pd, rfl, _⟩ := trodVars_one hV
  obtain ⟨k, rfl, rfl, rfl, hwf⟩ := open_int Tryd.underlying3 (hval 0 3 v0 rfl rfl) h0
  refine (law_x k W (of_laid hL)).mono fun e W' ⟨he, bel⟩ => ?_
  subst he
  exact ⟨_, rfl, _, _, _, [], [], _, hW', trodAll_mk1 (shut_bool Tryd.underlying4 _), trodAll_mk1 (shut_int Tryd.underlying3 hwf), Below.trodVars laidOut bel (by kernel_rfl) hV0, bel.frame _, fun h => by cases h⟩
theorem over : Rows.FnExactEventNameSaid :=
  OpenClaim.holds_of_wide 3 Tryd.f3 rfl rfl rfl rfl rfl rfl rfl ⟨rfl, rfl, rfl, rfl, rfl⟩ rfl rfl rfl rfl rfl (by kernel_rfl) Tryd.func3 (by kernel_rfl)
    (of_decide_eq_true (by kernel_rfl)) (by unfold Func.isWrapper; first | (rw [if_pos (by decide +kernel)]; kernel_rfl) | (rw [if_neg (by decide +kernel)]; exact ⟨rfl, rfl⟩))
    (fun os started H enc _ => lifted os started H enc)
end Go.Proofs.YtjmkciiifiajeaaDoor.ev
namespace Go.Proofs.YtjmkciiifiajeaaDoor
/-- The tied card. -/
theorem fnExactEventName_holds : Rows.FnExactEventNameCardSaid :=
  Claim7.holds_tied_plain_at .later [] [.data] true (true, "7e6e888e8dbced3edf5f234d7b58dacc7d6533237967cc375e22e8d3afc84548") false
    ev.over (fun _ h => by cases h) (by kernel_rfl) (fun _ h => by cases h) fnExactEventName_row_tie rfl ⟨rfl, rfl⟩ (by kernel_rfl) rfl
    (fun f fn hf hfn => by
      obtain rfl : f = 3 := Option.some.inj ((show Tryd.prog.funcNamed "loop.example/g00591/laws.FnExactEventName" = some 3 by kernel_rfl).symm.trans hf) |>.symm
      obtain rfl : fn = Tryd.f3 := (Option.some.inj (Tryd.func3.symm.trans hfn)).symm
      exact ⟨by kernel_rfl, fun j t ht => by
        rw [Tryd.params3] at ht
        have hm : t ∈ [3] := by simpa using Array.mem_of_getElem? ht
        have hall : ([3].all fun u => !Tryd.prog.wantsStandIn u) = true := by kernel_rfl
        exact (show Tryd.prog.wantsStandIn t = false by simpa using List.all_eq_true.1 hall t hm)⟩)
    (by kernel_rfl)
#print axioms fnExactEventName_holds
end Go.Proofs.YtjmkciiifiajeaaDoor

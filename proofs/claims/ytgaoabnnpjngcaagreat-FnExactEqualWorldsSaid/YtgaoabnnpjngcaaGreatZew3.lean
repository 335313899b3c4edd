/- What the row needs, packed. No conditions beyond those that each law names. -/
import Derived.Test.YtgaoabnnpjngcaaGreatZew2
import Derived.Test.YtgaoabnnpjngcaaGreatProg
import Derived.Test.YtgaoabnnpjngcaaGreatZew1
namespace Go.Proofs.YtgaoabnnpjngcaaGreatFam
open Go.ChangeShapes Go.WideShapes Go.RowKit Go.Proofs.YtgaoabnnpjngcaaGreatSep Go.Proofs.YtgaoabnnpjngcaaGreatT Go.Proofs.YtgaoabnnpjngcaaGreatK
set_option linter.unusedVariables false
set_option linter.unusedSimpArgs false
attribute [local irreducible] wpOps wpOp
set_option maxHeartbeats 4000000
set_option maxRecDepth 100000
theorem eqI_Wire (l k : List GWire) (A A' : Option Addr) (c c' : Nat) (w : World) (h : C fT w A l) (h' : C fT w A' k) : Calls Tryz.prog 121 #[.slice A l.length c, .slice A' k.length c'] w (bW (aV eF l k) w) := by
 have nx := h.1
 refine enter 26 [(0, .slice A l.length c), (1, .slice A' k.length c')] Tryz.func121 rfl kR ?_
 intro xj
 have H1 : St w No [] w := St.enter
 refine wp_seq ?_
 refine aM [0] rfl ?_
 refine aA ?_
 refine aB rfl (aJ rfl) rfl rfl ?_
 refine aH ?_
 refine aG ?_
 refine wp_seq ?_
 refine wp_seq ?_
 refine aM [0, 1, 2, 3, 4] rfl ?_
 refine aA ?_
 refine aB rfl (aF rfl) rfl rfl ?_
 refine aA ?_
 refine aB rfl (bQ Tryz.runUnderlying138 rfl) rfl rfl ?_
 refine aA ?_
 refine aB rfl (aF rfl) rfl rfl ?_
 refine aA ?_
 refine aB rfl (bQ Tryz.runUnderlying138 rfl) rfl rfl ?_
 by_cases hg2 : ¬ ((l.length : Nat) : Int) = (k.length : Nat)
 ·refine aA ?_
  refine aB rfl (bV hg2 (bN rfl rfl)) rfl rfl ?_
  refine aH ?_
  refine aG ?_
  refine bX rfl ?_
  refine wp_seq ?_
  refine aM [0] rfl ?_
  refine aA ?_
  refine aB rfl (aJ rfl) rfl rfl ?_
  refine aH ?_
  refine aG ?_
  refine wp_ret ?_
  refine aU ?_
  have hz3 : ∀ f, aV f l k = false := fun f => eY f l k kO
  have hr4 : aV eF l k = false := by simp [hz3]
  refine aQ (.inl rfl) Tryz.results121 rfl ?_
  rw [hr4]
  exact ⟨rfl, H1.1⟩
 ·refine aA ?_
  refine aB rfl (bO hg2 (bN rfl rfl)) rfl rfl ?_
  refine aH ?_
  refine aG ?_
  refine dU rfl ?_
  refine wp_skip ?_
  refine aG ?_
  refine wp_seq ?_
  refine wp_seq ?_
  refine aM [0, 1, 2] rfl ?_
  refine aA ?_
  refine aB rfl (aF rfl) rfl rfl ?_
  refine aA ?_
  refine aB rfl (bQ Tryz.runUnderlying138 rfl) rfl rfl ?_
  refine aA ?_
  refine aB rfl (aF rfl) rfl rfl ?_
  refine aH ?_
  refine aG ?_
  refine wp_block ?_
  refine wp_loop_ghost (fun r a' W' => ∃ (i1 : Nat) (x' : Nat → Value), a' = bT 26 x' [(0, .slice A l.length c), (1, .slice A' k.length c'), (12, .int .i64 ((l.length : Nat))), (13, .int .i64 (((i1 : Nat) : Int)))] ∧ (i1 + r = l.length) ∧ (aV eF l k = aV eF (l.drop i1) (k.drop i1)) ∧ St w No [] W') l.length ?_ ?_
  ·exact (bA [(0, .slice A l.length c), (1, .slice A' k.length c'), (12, .int .i64 ((l.length : Nat))), (13, .int .i64 (((0 : Nat) : Int)))] rfl).elim fun x' hx => ⟨0, x', hx, kO, rfl, H1⟩
  ·rintro r5 _ W6 ⟨i1, x7, rfl, hi1, hf1, H8⟩; clear H1
   refine wp_seq ?_
   refine aM [0] rfl ?_
   refine aA ?_
   refine aB rfl (gY rfl rfl) rfl rfl ?_
   refine aH ?_
   refine aG ?_
   refine wp_seq ?_
   refine eP rfl (fun hc9 => ?_) (fun hc9 => ?_)
   ·have hlt1 : i1 < l.length := by omega
    have hlu1 : i1 < k.length := by omega
    obtain ⟨ade10, cse10, hAe10, hKe10, hce10⟩ := dO h i1 hlt1
    have hle10 := o8 hKe10
    have hoe10 := o9 hKe10
    obtain ⟨ade11, cse11, hAe11, hKe11, hce11⟩ := dO h' i1 hlu1
    have hle11 := o8 hKe11
    have hoe11 := o9 hKe11
    obtain rfl := kZ hKe10
    obtain rfl := kZ hKe11
    refine wp_skip ?_
    refine aG ?_
    refine wp_seq ?_
    refine wp_block ?_
    refine wp_seq ?_
    refine aM [0, 1] rfl ?_
    refine aA ?_
    refine aB rfl (aF rfl) rfl rfl ?_
    refine aA ?_
    refine aB rfl (aJ rfl) rfl rfl ?_
    refine aH ?_
    refine aG ?_
    refine wp_seq ?_
    by_cases hg12 : (eF (l[i1]) (k[i1])) = true
    ·refine dD (fun W' => Cat W' (Addr.add ade10 (i1 * 2)) [.int .i64 (l[i1].Kind), .int .i64 (l[i1].N)] ∧ Cat W' (Addr.add ade11 (i1 * 2)) [.int .i64 (k[i1].Kind), .int .i64 (k[i1].N)]) 9 kR ?_
     have H13 := H8.drew; clear H8
     have hS14 : Cat W6.drew (Addr.add ade10 (i1 * 2)) [.int .i64 (l[i1].Kind), .int .i64 (l[i1].N)] ∧ Cat W6.drew (Addr.add ade11 (i1 * 2)) [.int .i64 (k[i1].Kind), .int .i64 (k[i1].N)] := ⟨(Cat.upd hce10 H13.1), (Cat.upd hce11 H13.1)⟩
     refine aD (i := 0) rfl kR kR kR kR kR (fun _ _ _ h => h) rfl rfl hS14 (fun W' hs' => aF rfl) ?_
     refine aD (i := 1) rfl kR kR kR kR kR (fun _ _ _ h => h) rfl rfl hS14 (fun W' hs' => aF rfl) ?_
     refine aD (i := 2) rfl kR kR kR kR kR (fun _ _ _ h => h) rfl rfl hS14 (fun W' hs' => aP (k := i1) Tryz.runUnderlying138 Tryz.sizeOf139 rfl rfl hAe10 hlt1) ?_
     refine aD (i := 3) rfl kR kR kR kR kR (fun _ _ _ h => h) rfl rfl hS14 (fun W' hs' => aY Tryz.isAgg139 Tryz.sizeOf139 rfl hs'.1 rfl) ?_
     refine aD (i := 4) rfl kR kR kR kR kR (fun _ _ _ h => h) rfl rfl hS14 (fun W' hs' => aF rfl) ?_
     refine aD (i := 5) rfl kR kR kR kR kR (fun _ _ _ h => h) rfl rfl hS14 (fun W' hs' => aF rfl) ?_
     refine aD (i := 6) rfl kR kR kR kR kR (fun _ _ _ h => h) rfl rfl hS14 (fun W' hs' => aP (k := i1) Tryz.runUnderlying138 Tryz.sizeOf139 rfl rfl hAe11 hlu1) ?_
     refine aD (i := 7) rfl kR kR kR kR kR (fun _ _ _ h => h) rfl rfl hS14 (fun W' hs' => aY Tryz.isAgg139 Tryz.sizeOf139 rfl hs'.2 rfl) ?_
     refine aD (i := 8) rfl kR kR kR kR kR (fun _ _ _ h => h) rfl rfl hS14 (fun W' hs' => cZ (b := !(eF (l[i1]) (k[i1]))) (by rw [hg12]) (fJ Tryz.eqGuardType139 rfl rfl (nP (l[i1]) (k[i1]) _ 9998))) ?_
     refine bU kR ?_ _
     refine aG ?_
     refine dU rfl ?_
     refine wp_skip ?_
     refine iY ?_
     refine aG ?_
     refine aM [0, 1] rfl ?_
     refine aA ?_
     refine aB rfl (iB (k := i1) rfl rfl kO) rfl rfl ?_
     refine aA ?_
     refine aB rfl (aF rfl) rfl rfl ?_
     refine aH ?_
     refine aG ?_
     exact (bA [(0, .slice A l.length c), (1, .slice A' k.length c'), (12, .int .i64 ((l.length : Nat))), (13, .int .i64 (((i1 + 1 : Nat) : Int)))] rfl).elim fun x' hx => ⟨r5 - 1, kO, i1 + 1, x', hx, kO, (hf1.trans (fC eF l k i1 hlt1 hlu1 hg12)), H13⟩
    ·refine dD (fun W' => Cat W' (Addr.add ade10 (i1 * 2)) [.int .i64 (l[i1].Kind), .int .i64 (l[i1].N)] ∧ Cat W' (Addr.add ade11 (i1 * 2)) [.int .i64 (k[i1].Kind), .int .i64 (k[i1].N)]) 9 kR ?_
     have H15 := H8.drew; clear H8
     have hS16 : Cat W6.drew (Addr.add ade10 (i1 * 2)) [.int .i64 (l[i1].Kind), .int .i64 (l[i1].N)] ∧ Cat W6.drew (Addr.add ade11 (i1 * 2)) [.int .i64 (k[i1].Kind), .int .i64 (k[i1].N)] := ⟨(Cat.upd hce10 H15.1), (Cat.upd hce11 H15.1)⟩
     refine aD (i := 0) rfl kR kR kR kR kR (fun _ _ _ h => h) rfl rfl hS16 (fun W' hs' => aF rfl) ?_
     refine aD (i := 1) rfl kR kR kR kR kR (fun _ _ _ h => h) rfl rfl hS16 (fun W' hs' => aF rfl) ?_
     refine aD (i := 2) rfl kR kR kR kR kR (fun _ _ _ h => h) rfl rfl hS16 (fun W' hs' => aP (k := i1) Tryz.runUnderlying138 Tryz.sizeOf139 rfl rfl hAe10 hlt1) ?_
     refine aD (i := 3) rfl kR kR kR kR kR (fun _ _ _ h => h) rfl rfl hS16 (fun W' hs' => aY Tryz.isAgg139 Tryz.sizeOf139 rfl hs'.1 rfl) ?_
     refine aD (i := 4) rfl kR kR kR kR kR (fun _ _ _ h => h) rfl rfl hS16 (fun W' hs' => aF rfl) ?_
     refine aD (i := 5) rfl kR kR kR kR kR (fun _ _ _ h => h) rfl rfl hS16 (fun W' hs' => aF rfl) ?_
     refine aD (i := 6) rfl kR kR kR kR kR (fun _ _ _ h => h) rfl rfl hS16 (fun W' hs' => aP (k := i1) Tryz.runUnderlying138 Tryz.sizeOf139 rfl rfl hAe11 hlu1) ?_
     refine aD (i := 7) rfl kR kR kR kR kR (fun _ _ _ h => h) rfl rfl hS16 (fun W' hs' => aY Tryz.isAgg139 Tryz.sizeOf139 rfl hs'.2 rfl) ?_
     refine aD (i := 8) rfl kR kR kR kR kR (fun _ _ _ h => h) rfl rfl hS16 (fun W' hs' => cZ (b := !(eF (l[i1]) (k[i1]))) (by rw [(eq_false_of_ne_true hg12)]) (fJ Tryz.eqGuardType139 rfl rfl (nP (l[i1]) (k[i1]) _ 9998))) ?_
     refine bU kR ?_ _
     refine aG ?_
     refine bX rfl ?_
     refine wp_seq ?_
     refine aM [0] rfl ?_
     refine aA ?_
     refine aB rfl (aJ rfl) rfl rfl ?_
     refine aH ?_
     refine aG ?_
     refine wp_ret ?_
     refine dS ?_
     refine aU ?_
     refine aU ?_
     refine dS ?_
     refine aU ?_
     have hz17 : aV eF l k = false := hf1.trans (eG eF l k i1 hlt1 hlu1 (eq_false_of_ne_true hg12))
     have hr18 : aV eF l k = false := by simp [hg12, hz17]
     refine aQ (.inl rfl) Tryz.results121 rfl ?_
     rw [hr18]
     exact ⟨rfl, H15.1⟩
   ·have hd1 : aV eF l k = true := hf1.trans (fD eF l k i1 kO kO)
    refine wp_exit ?_
    refine dP ?_
    refine dP ?_
    refine iZ ?_
    refine aG ?_
    refine wp_seq ?_
    refine aM [0] rfl ?_
    refine aA ?_
    refine aB rfl (aJ rfl) rfl rfl ?_
    refine aH ?_
    refine aG ?_
    refine wp_ret ?_
    have hr19 : aV eF l k = true := by simp [hd1]
    refine aQ (.inl rfl) Tryz.results121 rfl ?_
    rw [hr19]
    exact ⟨rfl, H8.1⟩
theorem eqI_Instr (l k : List GInstr) (A A' : Option Addr) (c c' : Nat) (w : World) (h : C fU w A l) (h' : C fU w A' k) : Calls Tryz.prog 75 #[.slice A l.length c, .slice A' k.length c'] w (bW (aV fA l k) w) := by
 have nx := h.1
 refine enter 26 [(0, .slice A l.length c), (1, .slice A' k.length c')] Tryz.func75 rfl kR ?_
 intro xj
 have H1 : St w No [] w := St.enter
 refine wp_seq ?_
 refine aM [0] rfl ?_
 refine aA ?_
 refine aB rfl (aJ rfl) rfl rfl ?_
 refine aH ?_
 refine aG ?_
 refine wp_seq ?_
 refine wp_seq ?_
 refine aM [0, 1, 2, 3, 4] rfl ?_
 refine aA ?_
 refine aB rfl (aF rfl) rfl rfl ?_
 refine aA ?_
 refine aB rfl (bQ Tryz.runUnderlying120 rfl) rfl rfl ?_
 refine aA ?_
 refine aB rfl (aF rfl) rfl rfl ?_
 refine aA ?_
 refine aB rfl (bQ Tryz.runUnderlying120 rfl) rfl rfl ?_
 by_cases hg2 : ¬ ((l.length : Nat) : Int) = (k.length : Nat)
 ·refine aA ?_
  refine aB rfl (bV hg2 (bN rfl rfl)) rfl rfl ?_
  refine aH ?_
  refine aG ?_
  refine bX rfl ?_
  refine wp_seq ?_
  refine aM [0] rfl ?_
  refine aA ?_
  refine aB rfl (aJ rfl) rfl rfl ?_
  refine aH ?_
  refine aG ?_
  refine wp_ret ?_
  refine aU ?_
  have hz3 : ∀ f, aV f l k = false := fun f => eY f l k kO
  have hr4 : aV fA l k = false := by simp [hz3]
  refine aQ (.inl rfl) Tryz.results75 rfl ?_
  rw [hr4]
  exact ⟨rfl, H1.1⟩
 ·refine aA ?_
  refine aB rfl (bO hg2 (bN rfl rfl)) rfl rfl ?_
  refine aH ?_
  refine aG ?_
  refine dU rfl ?_
  refine wp_skip ?_
  refine aG ?_
  refine wp_seq ?_
  refine wp_seq ?_
  refine aM [0, 1, 2] rfl ?_
  refine aA ?_
  refine aB rfl (aF rfl) rfl rfl ?_
  refine aA ?_
  refine aB rfl (bQ Tryz.runUnderlying120 rfl) rfl rfl ?_
  refine aA ?_
  refine aB rfl (aF rfl) rfl rfl ?_
  refine aH ?_
  refine aG ?_
  refine wp_block ?_
  refine wp_loop_ghost (fun r a' W' => ∃ (i1 : Nat) (x' : Nat → Value), a' = bT 26 x' [(0, .slice A l.length c), (1, .slice A' k.length c'), (12, .int .i64 ((l.length : Nat))), (13, .int .i64 (((i1 : Nat) : Int)))] ∧ (i1 + r = l.length) ∧ (aV fA l k = aV fA (l.drop i1) (k.drop i1)) ∧ St w No [] W') l.length ?_ ?_
  ·exact (bA [(0, .slice A l.length c), (1, .slice A' k.length c'), (12, .int .i64 ((l.length : Nat))), (13, .int .i64 (((0 : Nat) : Int)))] rfl).elim fun x' hx => ⟨0, x', hx, kO, rfl, H1⟩
  ·rintro r5 _ W6 ⟨i1, x7, rfl, hi1, hf1, H8⟩; clear H1
   refine wp_seq ?_
   refine aM [0] rfl ?_
   refine aA ?_
   refine aB rfl (gY rfl rfl) rfl rfl ?_
   refine aH ?_
   refine aG ?_
   refine wp_seq ?_
   refine eP rfl (fun hc9 => ?_) (fun hc9 => ?_)
   ·have hlt1 : i1 < l.length := by omega
    have hlu1 : i1 < k.length := by omega
    obtain ⟨ade10, cse10, hAe10, hKe10, hce10⟩ := dO h i1 hlt1
    have hle10 := nY hKe10
    have hoe10 := nZ hKe10
    obtain ⟨ade11, cse11, hAe11, hKe11, hce11⟩ := dO h' i1 hlu1
    have hle11 := nY hKe11
    have hoe11 := nZ hKe11
    obtain rfl := kN hKe10
    obtain rfl := kN hKe11
    refine wp_skip ?_
    refine aG ?_
    refine wp_seq ?_
    refine wp_block ?_
    refine wp_seq ?_
    refine aM [0, 1] rfl ?_
    refine aA ?_
    refine aB rfl (aF rfl) rfl rfl ?_
    refine aA ?_
    refine aB rfl (aJ rfl) rfl rfl ?_
    refine aH ?_
    refine aG ?_
    refine wp_seq ?_
    by_cases hg12 : (fA (l[i1]) (k[i1])) = true
    ·refine dD (fun W' => Cat W' (Addr.add ade10 (i1 * 6)) [.int .i64 (l[i1].Op), .int .i64 (l[i1].A), .int .i64 (l[i1].B), .int .i64 (l[i1].C), .int .i64 (l[i1].D), .string (l[i1].Name)] ∧ Cat W' (Addr.add ade11 (i1 * 6)) [.int .i64 (k[i1].Op), .int .i64 (k[i1].A), .int .i64 (k[i1].B), .int .i64 (k[i1].C), .int .i64 (k[i1].D), .string (k[i1].Name)]) 9 kR ?_
     have H13 := H8.drew; clear H8
     have hS14 : Cat W6.drew (Addr.add ade10 (i1 * 6)) [.int .i64 (l[i1].Op), .int .i64 (l[i1].A), .int .i64 (l[i1].B), .int .i64 (l[i1].C), .int .i64 (l[i1].D), .string (l[i1].Name)] ∧ Cat W6.drew (Addr.add ade11 (i1 * 6)) [.int .i64 (k[i1].Op), .int .i64 (k[i1].A), .int .i64 (k[i1].B), .int .i64 (k[i1].C), .int .i64 (k[i1].D), .string (k[i1].Name)] := ⟨(Cat.upd hce10 H13.1), (Cat.upd hce11 H13.1)⟩
     refine aD (i := 0) rfl kR kR kR kR kR (fun _ _ _ h => h) rfl rfl hS14 (fun W' hs' => aF rfl) ?_
     refine aD (i := 1) rfl kR kR kR kR kR (fun _ _ _ h => h) rfl rfl hS14 (fun W' hs' => aF rfl) ?_
     refine aD (i := 2) rfl kR kR kR kR kR (fun _ _ _ h => h) rfl rfl hS14 (fun W' hs' => aP (k := i1) Tryz.runUnderlying120 Tryz.sizeOf124 rfl rfl hAe10 hlt1) ?_
     refine aD (i := 3) rfl kR kR kR kR kR (fun _ _ _ h => h) rfl rfl hS14 (fun W' hs' => aY Tryz.isAgg124 Tryz.sizeOf124 rfl hs'.1 rfl) ?_
     refine aD (i := 4) rfl kR kR kR kR kR (fun _ _ _ h => h) rfl rfl hS14 (fun W' hs' => aF rfl) ?_
     refine aD (i := 5) rfl kR kR kR kR kR (fun _ _ _ h => h) rfl rfl hS14 (fun W' hs' => aF rfl) ?_
     refine aD (i := 6) rfl kR kR kR kR kR (fun _ _ _ h => h) rfl rfl hS14 (fun W' hs' => aP (k := i1) Tryz.runUnderlying120 Tryz.sizeOf124 rfl rfl hAe11 hlu1) ?_
     refine aD (i := 7) rfl kR kR kR kR kR (fun _ _ _ h => h) rfl rfl hS14 (fun W' hs' => aY Tryz.isAgg124 Tryz.sizeOf124 rfl hs'.2 rfl) ?_
     refine aD (i := 8) rfl kR kR kR kR kR (fun _ _ _ h => h) rfl rfl hS14 (fun W' hs' => cZ (b := !(fA (l[i1]) (k[i1]))) (by rw [hg12]) (fJ Tryz.eqGuardType124 rfl rfl (eqr_Instr (l[i1]) (k[i1]) _ 9998))) ?_
     refine bU kR ?_ _
     refine aG ?_
     refine dU rfl ?_
     refine wp_skip ?_
     refine iY ?_
     refine aG ?_
     refine aM [0, 1] rfl ?_
     refine aA ?_
     refine aB rfl (iB (k := i1) rfl rfl kO) rfl rfl ?_
     refine aA ?_
     refine aB rfl (aF rfl) rfl rfl ?_
     refine aH ?_
     refine aG ?_
     exact (bA [(0, .slice A l.length c), (1, .slice A' k.length c'), (12, .int .i64 ((l.length : Nat))), (13, .int .i64 (((i1 + 1 : Nat) : Int)))] rfl).elim fun x' hx => ⟨r5 - 1, kO, i1 + 1, x', hx, kO, (hf1.trans (fC fA l k i1 hlt1 hlu1 hg12)), H13⟩
    ·refine dD (fun W' => Cat W' (Addr.add ade10 (i1 * 6)) [.int .i64 (l[i1].Op), .int .i64 (l[i1].A), .int .i64 (l[i1].B), .int .i64 (l[i1].C), .int .i64 (l[i1].D), .string (l[i1].Name)] ∧ Cat W' (Addr.add ade11 (i1 * 6)) [.int .i64 (k[i1].Op), .int .i64 (k[i1].A), .int .i64 (k[i1].B), .int .i64 (k[i1].C), .int .i64 (k[i1].D), .string (k[i1].Name)]) 9 kR ?_
     have H15 := H8.drew; clear H8
     have hS16 : Cat W6.drew (Addr.add ade10 (i1 * 6)) [.int .i64 (l[i1].Op), .int .i64 (l[i1].A), .int .i64 (l[i1].B), .int .i64 (l[i1].C), .int .i64 (l[i1].D), .string (l[i1].Name)] ∧ Cat W6.drew (Addr.add ade11 (i1 * 6)) [.int .i64 (k[i1].Op), .int .i64 (k[i1].A), .int .i64 (k[i1].B), .int .i64 (k[i1].C), .int .i64 (k[i1].D), .string (k[i1].Name)] := ⟨(Cat.upd hce10 H15.1), (Cat.upd hce11 H15.1)⟩
     refine aD (i := 0) rfl kR kR kR kR kR (fun _ _ _ h => h) rfl rfl hS16 (fun W' hs' => aF rfl) ?_
     refine aD (i := 1) rfl kR kR kR kR kR (fun _ _ _ h => h) rfl rfl hS16 (fun W' hs' => aF rfl) ?_
     refine aD (i := 2) rfl kR kR kR kR kR (fun _ _ _ h => h) rfl rfl hS16 (fun W' hs' => aP (k := i1) Tryz.runUnderlying120 Tryz.sizeOf124 rfl rfl hAe10 hlt1) ?_
     refine aD (i := 3) rfl kR kR kR kR kR (fun _ _ _ h => h) rfl rfl hS16 (fun W' hs' => aY Tryz.isAgg124 Tryz.sizeOf124 rfl hs'.1 rfl) ?_
     refine aD (i := 4) rfl kR kR kR kR kR (fun _ _ _ h => h) rfl rfl hS16 (fun W' hs' => aF rfl) ?_
     refine aD (i := 5) rfl kR kR kR kR kR (fun _ _ _ h => h) rfl rfl hS16 (fun W' hs' => aF rfl) ?_
     refine aD (i := 6) rfl kR kR kR kR kR (fun _ _ _ h => h) rfl rfl hS16 (fun W' hs' => aP (k := i1) Tryz.runUnderlying120 Tryz.sizeOf124 rfl rfl hAe11 hlu1) ?_
     refine aD (i := 7) rfl kR kR kR kR kR (fun _ _ _ h => h) rfl rfl hS16 (fun W' hs' => aY Tryz.isAgg124 Tryz.sizeOf124 rfl hs'.2 rfl) ?_
     refine aD (i := 8) rfl kR kR kR kR kR (fun _ _ _ h => h) rfl rfl hS16 (fun W' hs' => cZ (b := !(fA (l[i1]) (k[i1]))) (by rw [(eq_false_of_ne_true hg12)]) (fJ Tryz.eqGuardType124 rfl rfl (eqr_Instr (l[i1]) (k[i1]) _ 9998))) ?_
     refine bU kR ?_ _
     refine aG ?_
     refine bX rfl ?_
     refine wp_seq ?_
     refine aM [0] rfl ?_
     refine aA ?_
     refine aB rfl (aJ rfl) rfl rfl ?_
     refine aH ?_
     refine aG ?_
     refine wp_ret ?_
     refine dS ?_
     refine aU ?_
     refine aU ?_
     refine dS ?_
     refine aU ?_
     have hz17 : aV fA l k = false := hf1.trans (eG fA l k i1 hlt1 hlu1 (eq_false_of_ne_true hg12))
     have hr18 : aV fA l k = false := by simp [hg12, hz17]
     refine aQ (.inl rfl) Tryz.results75 rfl ?_
     rw [hr18]
     exact ⟨rfl, H15.1⟩
   ·have hd1 : aV fA l k = true := hf1.trans (fD fA l k i1 kO kO)
    refine wp_exit ?_
    refine dP ?_
    refine dP ?_
    refine iZ ?_
    refine aG ?_
    refine wp_seq ?_
    refine aM [0] rfl ?_
    refine aA ?_
    refine aB rfl (aJ rfl) rfl rfl ?_
    refine aH ?_
    refine aG ?_
    refine wp_ret ?_
    have hr19 : aV fA l k = true := by simp [hd1]
    refine aQ (.inl rfl) Tryz.results75 rfl ?_
    rw [hr19]
    exact ⟨rfl, H8.1⟩
theorem eqI_Note (l k : List GNote) (A A' : Option Addr) (c c' : Nat) (w : World) (h : C iD w A l) (h' : C iD w A' k) : Calls Tryz.prog 48 #[.slice A l.length c, .slice A' k.length c'] w (bW (aV fZ l k) w) := by
 have nx := h.1
 refine enter 26 [(0, .slice A l.length c), (1, .slice A' k.length c')] Tryz.func48 rfl kR ?_
 intro xj
 have H1 : St w No [] w := St.enter
 refine wp_seq ?_
 refine aM [0] rfl ?_
 refine aA ?_
 refine aB rfl (aJ rfl) rfl rfl ?_
 refine aH ?_
 refine aG ?_
 refine wp_seq ?_
 refine wp_seq ?_
 refine aM [0, 1, 2, 3, 4] rfl ?_
 refine aA ?_
 refine aB rfl (aF rfl) rfl rfl ?_
 refine aA ?_
 refine aB rfl (bQ Tryz.runUnderlying33 rfl) rfl rfl ?_
 refine aA ?_
 refine aB rfl (aF rfl) rfl rfl ?_
 refine aA ?_
 refine aB rfl (bQ Tryz.runUnderlying33 rfl) rfl rfl ?_
 by_cases hg2 : ¬ ((l.length : Nat) : Int) = (k.length : Nat)
 ·refine aA ?_
  refine aB rfl (bV hg2 (bN rfl rfl)) rfl rfl ?_
  refine aH ?_
  refine aG ?_
  refine bX rfl ?_
  refine wp_seq ?_
  refine aM [0] rfl ?_
  refine aA ?_
  refine aB rfl (aJ rfl) rfl rfl ?_
  refine aH ?_
  refine aG ?_
  refine wp_ret ?_
  refine aU ?_
  have hz3 : ∀ f, aV f l k = false := fun f => eY f l k kO
  have hr4 : aV fZ l k = false := by simp [hz3]
  refine aQ (.inl rfl) Tryz.results48 rfl ?_
  rw [hr4]
  exact ⟨rfl, H1.1⟩
 ·refine aA ?_
  refine aB rfl (bO hg2 (bN rfl rfl)) rfl rfl ?_
  refine aH ?_
  refine aG ?_
  refine dU rfl ?_
  refine wp_skip ?_
  refine aG ?_
  refine wp_seq ?_
  refine wp_seq ?_
  refine aM [0, 1, 2] rfl ?_
  refine aA ?_
  refine aB rfl (aF rfl) rfl rfl ?_
  refine aA ?_
  refine aB rfl (bQ Tryz.runUnderlying33 rfl) rfl rfl ?_
  refine aA ?_
  refine aB rfl (aF rfl) rfl rfl ?_
  refine aH ?_
  refine aG ?_
  refine wp_block ?_
  refine wp_loop_ghost (fun r a' W' => ∃ (i1 : Nat) (x' : Nat → Value), a' = bT 26 x' [(0, .slice A l.length c), (1, .slice A' k.length c'), (12, .int .i64 ((l.length : Nat))), (13, .int .i64 (((i1 : Nat) : Int)))] ∧ (i1 + r = l.length) ∧ (aV fZ l k = aV fZ (l.drop i1) (k.drop i1)) ∧ St w No [] W') l.length ?_ ?_
  ·exact (bA [(0, .slice A l.length c), (1, .slice A' k.length c'), (12, .int .i64 ((l.length : Nat))), (13, .int .i64 (((0 : Nat) : Int)))] rfl).elim fun x' hx => ⟨0, x', hx, kO, rfl, H1⟩
  ·rintro r5 _ W6 ⟨i1, x7, rfl, hi1, hf1, H8⟩; clear H1
   refine wp_seq ?_
   refine aM [0] rfl ?_
   refine aA ?_
   refine aB rfl (gY rfl rfl) rfl rfl ?_
   refine aH ?_
   refine aG ?_
   refine wp_seq ?_
   refine eP rfl (fun hc9 => ?_) (fun hc9 => ?_)
   ·have hlt1 : i1 < l.length := by omega
    have hlu1 : i1 < k.length := by omega
    obtain ⟨ade10, cse10, hAe10, hKe10, hce10⟩ := dO h i1 hlt1
    have hle10 := pE hKe10
    have hoe10 := pF hKe10
    obtain ⟨ade11, cse11, hAe11, hKe11, hce11⟩ := dO h' i1 hlu1
    have hle11 := pE hKe11
    have hoe11 := pF hKe11
    obtain rfl := lZ hKe10
    obtain rfl := lZ hKe11
    refine wp_skip ?_
    refine aG ?_
    refine wp_seq ?_
    refine wp_block ?_
    refine wp_seq ?_
    refine aM [0, 1] rfl ?_
    refine aA ?_
    refine aB rfl (aF rfl) rfl rfl ?_
    refine aA ?_
    refine aB rfl (aJ rfl) rfl rfl ?_
    refine aH ?_
    refine aG ?_
    refine wp_seq ?_
    by_cases hg12 : (fZ (l[i1]) (k[i1])) = true
    ·refine dD (fun W' => Cat W' (Addr.add ade10 (i1 * 6)) [.int .i64 (l[i1].Kind), .int .i64 (l[i1].Vat), .int .i64 (l[i1].Entity), .int .i64 (l[i1].Tag.Vat), .int .i64 (l[i1].Tag.Entity), .int .i64 (l[i1].Tag.Seq)] ∧ Cat W' (Addr.add ade11 (i1 * 6)) [.int .i64 (k[i1].Kind), .int .i64 (k[i1].Vat), .int .i64 (k[i1].Entity), .int .i64 (k[i1].Tag.Vat), .int .i64 (k[i1].Tag.Entity), .int .i64 (k[i1].Tag.Seq)]) 9 kR ?_
     have H13 := H8.drew; clear H8
     have hS14 : Cat W6.drew (Addr.add ade10 (i1 * 6)) [.int .i64 (l[i1].Kind), .int .i64 (l[i1].Vat), .int .i64 (l[i1].Entity), .int .i64 (l[i1].Tag.Vat), .int .i64 (l[i1].Tag.Entity), .int .i64 (l[i1].Tag.Seq)] ∧ Cat W6.drew (Addr.add ade11 (i1 * 6)) [.int .i64 (k[i1].Kind), .int .i64 (k[i1].Vat), .int .i64 (k[i1].Entity), .int .i64 (k[i1].Tag.Vat), .int .i64 (k[i1].Tag.Entity), .int .i64 (k[i1].Tag.Seq)] := ⟨(Cat.upd hce10 H13.1), (Cat.upd hce11 H13.1)⟩
     refine aD (i := 0) rfl kR kR kR kR kR (fun _ _ _ h => h) rfl rfl hS14 (fun W' hs' => aF rfl) ?_
     refine aD (i := 1) rfl kR kR kR kR kR (fun _ _ _ h => h) rfl rfl hS14 (fun W' hs' => aF rfl) ?_
     refine aD (i := 2) rfl kR kR kR kR kR (fun _ _ _ h => h) rfl rfl hS14 (fun W' hs' => aP (k := i1) Tryz.runUnderlying33 Tryz.sizeOf52 rfl rfl hAe10 hlt1) ?_
     refine aD (i := 3) rfl kR kR kR kR kR (fun _ _ _ h => h) rfl rfl hS14 (fun W' hs' => aY Tryz.isAgg52 Tryz.sizeOf52 rfl hs'.1 rfl) ?_
     refine aD (i := 4) rfl kR kR kR kR kR (fun _ _ _ h => h) rfl rfl hS14 (fun W' hs' => aF rfl) ?_
     refine aD (i := 5) rfl kR kR kR kR kR (fun _ _ _ h => h) rfl rfl hS14 (fun W' hs' => aF rfl) ?_
     refine aD (i := 6) rfl kR kR kR kR kR (fun _ _ _ h => h) rfl rfl hS14 (fun W' hs' => aP (k := i1) Tryz.runUnderlying33 Tryz.sizeOf52 rfl rfl hAe11 hlu1) ?_
     refine aD (i := 7) rfl kR kR kR kR kR (fun _ _ _ h => h) rfl rfl hS14 (fun W' hs' => aY Tryz.isAgg52 Tryz.sizeOf52 rfl hs'.2 rfl) ?_
     refine aD (i := 8) rfl kR kR kR kR kR (fun _ _ _ h => h) rfl rfl hS14 (fun W' hs' => cZ (b := !(fZ (l[i1]) (k[i1]))) (by rw [hg12]) (fJ Tryz.eqGuardType52 rfl rfl (eqr_Note (l[i1]) (k[i1]) _ 9997))) ?_
     refine bU kR ?_ _
     refine aG ?_
     refine dU rfl ?_
     refine wp_skip ?_
     refine iY ?_
     refine aG ?_
     refine aM [0, 1] rfl ?_
     refine aA ?_
     refine aB rfl (iB (k := i1) rfl rfl kO) rfl rfl ?_
     refine aA ?_
     refine aB rfl (aF rfl) rfl rfl ?_
     refine aH ?_
     refine aG ?_
     exact (bA [(0, .slice A l.length c), (1, .slice A' k.length c'), (12, .int .i64 ((l.length : Nat))), (13, .int .i64 (((i1 + 1 : Nat) : Int)))] rfl).elim fun x' hx => ⟨r5 - 1, kO, i1 + 1, x', hx, kO, (hf1.trans (fC fZ l k i1 hlt1 hlu1 hg12)), H13⟩
    ·refine dD (fun W' => Cat W' (Addr.add ade10 (i1 * 6)) [.int .i64 (l[i1].Kind), .int .i64 (l[i1].Vat), .int .i64 (l[i1].Entity), .int .i64 (l[i1].Tag.Vat), .int .i64 (l[i1].Tag.Entity), .int .i64 (l[i1].Tag.Seq)] ∧ Cat W' (Addr.add ade11 (i1 * 6)) [.int .i64 (k[i1].Kind), .int .i64 (k[i1].Vat), .int .i64 (k[i1].Entity), .int .i64 (k[i1].Tag.Vat), .int .i64 (k[i1].Tag.Entity), .int .i64 (k[i1].Tag.Seq)]) 9 kR ?_
     have H15 := H8.drew; clear H8
     have hS16 : Cat W6.drew (Addr.add ade10 (i1 * 6)) [.int .i64 (l[i1].Kind), .int .i64 (l[i1].Vat), .int .i64 (l[i1].Entity), .int .i64 (l[i1].Tag.Vat), .int .i64 (l[i1].Tag.Entity), .int .i64 (l[i1].Tag.Seq)] ∧ Cat W6.drew (Addr.add ade11 (i1 * 6)) [.int .i64 (k[i1].Kind), .int .i64 (k[i1].Vat), .int .i64 (k[i1].Entity), .int .i64 (k[i1].Tag.Vat), .int .i64 (k[i1].Tag.Entity), .int .i64 (k[i1].Tag.Seq)] := ⟨(Cat.upd hce10 H15.1), (Cat.upd hce11 H15.1)⟩
     refine aD (i := 0) rfl kR kR kR kR kR (fun _ _ _ h => h) rfl rfl hS16 (fun W' hs' => aF rfl) ?_
     refine aD (i := 1) rfl kR kR kR kR kR (fun _ _ _ h => h) rfl rfl hS16 (fun W' hs' => aF rfl) ?_
     refine aD (i := 2) rfl kR kR kR kR kR (fun _ _ _ h => h) rfl rfl hS16 (fun W' hs' => aP (k := i1) Tryz.runUnderlying33 Tryz.sizeOf52 rfl rfl hAe10 hlt1) ?_
     refine aD (i := 3) rfl kR kR kR kR kR (fun _ _ _ h => h) rfl rfl hS16 (fun W' hs' => aY Tryz.isAgg52 Tryz.sizeOf52 rfl hs'.1 rfl) ?_
     refine aD (i := 4) rfl kR kR kR kR kR (fun _ _ _ h => h) rfl rfl hS16 (fun W' hs' => aF rfl) ?_
     refine aD (i := 5) rfl kR kR kR kR kR (fun _ _ _ h => h) rfl rfl hS16 (fun W' hs' => aF rfl) ?_
     refine aD (i := 6) rfl kR kR kR kR kR (fun _ _ _ h => h) rfl rfl hS16 (fun W' hs' => aP (k := i1) Tryz.runUnderlying33 Tryz.sizeOf52 rfl rfl hAe11 hlu1) ?_
     refine aD (i := 7) rfl kR kR kR kR kR (fun _ _ _ h => h) rfl rfl hS16 (fun W' hs' => aY Tryz.isAgg52 Tryz.sizeOf52 rfl hs'.2 rfl) ?_
     refine aD (i := 8) rfl kR kR kR kR kR (fun _ _ _ h => h) rfl rfl hS16 (fun W' hs' => cZ (b := !(fZ (l[i1]) (k[i1]))) (by rw [(eq_false_of_ne_true hg12)]) (fJ Tryz.eqGuardType52 rfl rfl (eqr_Note (l[i1]) (k[i1]) _ 9997))) ?_
     refine bU kR ?_ _
     refine aG ?_
     refine bX rfl ?_
     refine wp_seq ?_
     refine aM [0] rfl ?_
     refine aA ?_
     refine aB rfl (aJ rfl) rfl rfl ?_
     refine aH ?_
     refine aG ?_
     refine wp_ret ?_
     refine dS ?_
     refine aU ?_
     refine aU ?_
     refine dS ?_
     refine aU ?_
     have hz17 : aV fZ l k = false := hf1.trans (eG fZ l k i1 hlt1 hlu1 (eq_false_of_ne_true hg12))
     have hr18 : aV fZ l k = false := by simp [hg12, hz17]
     refine aQ (.inl rfl) Tryz.results48 rfl ?_
     rw [hr18]
     exact ⟨rfl, H15.1⟩
   ·have hd1 : aV fZ l k = true := hf1.trans (fD fZ l k i1 kO kO)
    refine wp_exit ?_
    refine dP ?_
    refine dP ?_
    refine iZ ?_
    refine aG ?_
    refine wp_seq ?_
    refine aM [0] rfl ?_
    refine aA ?_
    refine aB rfl (aJ rfl) rfl rfl ?_
    refine aH ?_
    refine aG ?_
    refine wp_ret ?_
    have hr19 : aV fZ l k = true := by simp [hd1]
    refine aQ (.inl rfl) Tryz.results48 rfl ?_
    rw [hr19]
    exact ⟨rfl, H8.1⟩
theorem eqc_Method (x y : GMethod) (cx cy : List Value) (w : World) (h : eD.K w x cx) (h' : eD.K w y cy) : Calls Tryz.prog 74 #[.agg cx.toArray, .agg cy.toArray] w (bW (dJ x y) w) := by
 obtain ⟨Ax1, cx1, rfl, hlx1, hCx1⟩ := kP h
 obtain ⟨Ay1, cy1, rfl, hly1, hCy1⟩ := kP h'
 have nx1 := hCx1.1
 refine enter 17 [(0, .agg #[.string (x.Name), .slice Ax1 x.Code.length cx1]), (1, .agg #[.string (y.Name), .slice Ay1 y.Code.length cy1])] Tryz.func74 rfl kR ?_
 intro xj
 have H1 : St w No [] w := St.enter
 refine wp_seq ?_
 refine aM [0, 1, 2] rfl ?_
 refine aA ?_
 refine gX rfl rfl rfl rfl H1 ?_
 intro g_0_0 W2 hu3 Ha4; clear H1; clear hu3
 refine aA ?_
 refine gX rfl rfl rfl rfl Ha4 ?_
 intro g_0_1 W6 hu7 Ha8; clear Ha4; clear hu7
 refine aA ?_
 refine aB rfl (aJ rfl) rfl rfl ?_
 refine aH ?_
 refine aG ?_
 refine wp_seq ?_
 refine aM [0, 1, 2, 3, 4, 5, 6, 7, 8, 9, 10, 11, 12] rfl ?_
 refine aA ?_
 refine aB rfl (aL fa_122_0 rfl) rfl rfl ?_
 refine aA ?_
 refine aB rfl (aN (k := 0) (v := .string (x.Name)) Tryz.isAgg9 rfl (Ha8.blk 1 rfl) rfl) rfl rfl ?_
 refine aA ?_
 refine aB rfl (aL fa_122_0 rfl) rfl rfl ?_
 refine aA ?_
 refine aB rfl (aN (k := 0) (v := .string (y.Name)) Tryz.isAgg9 rfl (Ha8.blk 0 rfl) rfl) rfl rfl ?_
 by_cases hg10 : (x.Name.toList == y.Name.toList) = true
 ·refine aA ?_
  refine aB rfl (cZ (b := x.Name.toList == y.Name.toList) hg10 (lW rfl rfl)) rfl rfl ?_
  refine aA ?_
  refine aB rfl (aF rfl) rfl rfl ?_
  refine aA ?_
  refine aR rfl rfl rfl rfl (fun _ ho11 => ?_)
  refine aB ho11 (aL l9 rfl) rfl rfl ?_
  refine aA ?_
  refine aR rfl rfl rfl rfl (fun _ ho12 => ?_)
  refine aB ho12 (aN (k := 1) (v := .slice Ax1 x.Code.length cx1) Tryz.isAgg120 rfl (Ha8.blk 1 rfl) rfl) rfl rfl ?_
  refine aA ?_
  refine aR rfl rfl rfl rfl (fun _ ho13 => ?_)
  refine aB ho13 (aL l9 rfl) rfl rfl ?_
  refine aA ?_
  refine aR rfl rfl rfl rfl (fun _ ho14 => ?_)
  refine aB ho14 (aN (k := 1) (v := .slice Ay1 y.Code.length cy1) Tryz.isAgg120 rfl (Ha8.blk 0 rfl) rfl) rfl rfl ?_
  by_cases hg15 : (aV fA x.Code y.Code) = true
  ·refine aA ?_
   refine aR rfl rfl rfl rfl (fun _ ho16 => ?_)
   refine bP ho16 Tryz.call75 (vs := #[.slice Ax1 x.Code.length cx1, .slice Ay1 y.Code.length cy1]) rfl rfl rfl (fK (eqI_Instr x.Code y.Code _ _ _ _ _ (aS Ha8.1 hCx1) (aS Ha8.1 hCy1)) hg15) ?_
   rintro e19 W18 ⟨rfl, hu17⟩; refine ⟨_, rfl, ?_⟩
   have H20 := Ha8.no hu17; clear Ha8
   refine aA ?_
   refine aB rfl (aI (v := .bool (true)) (b := true) rfl rfl rfl rfl) rfl rfl ?_
   refine aA ?_
   refine aB rfl (aJ rfl) rfl rfl ?_
   refine aH ?_
   refine aG ?_
   refine wp_ret ?_
   have hr21 : dJ x y = true := by simp [dJ, hg10, hg15]
   refine aQ (.inl rfl) Tryz.results74 rfl ?_
   rw [hr21]
   exact ⟨rfl, H20.1⟩
  ·refine aA ?_
   refine aR rfl rfl rfl rfl (fun _ ho22 => ?_)
   refine bP ho22 Tryz.call75 (vs := #[.slice Ax1 x.Code.length cx1, .slice Ay1 y.Code.length cy1]) rfl rfl rfl (fK (eqI_Instr x.Code y.Code _ _ _ _ _ (aS Ha8.1 hCx1) (aS Ha8.1 hCy1)) (eq_false_of_ne_true hg15)) ?_
   rintro e25 W24 ⟨rfl, hu23⟩; refine ⟨_, rfl, ?_⟩
   have H26 := Ha8.no hu23; clear Ha8
   refine aA ?_
   refine aB rfl (aI (v := .bool (false)) (b := true) rfl rfl rfl rfl) rfl rfl ?_
   refine aA ?_
   refine aB rfl (aJ rfl) rfl rfl ?_
   refine aH ?_
   refine aG ?_
   refine wp_ret ?_
   have hr27 : dJ x y = false := by simp [dJ, hg10, hg15]
   refine aQ (.inl rfl) Tryz.results74 rfl ?_
   rw [hr27]
   exact ⟨rfl, H26.1⟩
 ·refine aA ?_
  refine aB rfl (cZ (b := x.Name.toList == y.Name.toList) (eq_false_of_ne_true hg10) (lW rfl rfl)) rfl rfl ?_
  refine aA ?_
  refine aB rfl (aF rfl) rfl rfl ?_
  refine aA ?_
  refine aC rfl rfl rfl rfl rfl rfl rfl ?_
  refine aA ?_
  refine aC rfl rfl rfl rfl rfl rfl rfl ?_
  refine aA ?_
  refine aC rfl rfl rfl rfl rfl rfl rfl ?_
  refine aA ?_
  refine aC rfl rfl rfl rfl rfl rfl rfl ?_
  refine aA ?_
  refine aC rfl rfl rfl rfl rfl rfl rfl ?_
  refine aA ?_
  refine aB rfl (aI (v := .bool (false)) (b := false) rfl rfl rfl rfl) rfl rfl ?_
  refine aA ?_
  refine aB rfl (aJ rfl) rfl rfl ?_
  refine aH ?_
  refine aG ?_
  refine wp_ret ?_
  have hr28 : dJ x y = false := by simp [dJ, hg10]
  refine aQ (.inl rfl) Tryz.results74 rfl ?_
  rw [hr28]
  exact ⟨rfl, Ha8.1⟩
theorem eqF_Method (l k : List GMethod) (A A' : Option Addr) (c c' : Nat) (w : World) (h : C eD w A l) (h' : C eD w A' k) : Calls Tryz.prog 73 #[.slice A l.length c, .slice A' k.length c', .func (.func 74) #[] #[]] w (bW (aV dJ l k) w) := by
 have nx := h.1
 refine enter 32 [(0, .slice A l.length c), (1, .slice A' k.length c'), (2, .func (.func 74) #[] #[])] Tryz.func73 rfl kR ?_
 intro xj
 have H1 : St w No [] w := St.enter
 refine wp_seq ?_
 refine aM [0] rfl ?_
 refine aA ?_
 refine aB rfl (aJ rfl) rfl rfl ?_
 refine aH ?_
 refine aG ?_
 refine wp_seq ?_
 refine wp_seq ?_
 refine aM [0, 1, 2, 3, 4] rfl ?_
 refine aA ?_
 refine aB rfl (aF rfl) rfl rfl ?_
 refine aA ?_
 refine aB rfl (bQ Tryz.runUnderlying71 rfl) rfl rfl ?_
 refine aA ?_
 refine aB rfl (aF rfl) rfl rfl ?_
 refine aA ?_
 refine aB rfl (bQ Tryz.runUnderlying71 rfl) rfl rfl ?_
 by_cases hg2 : ¬ ((l.length : Nat) : Int) = (k.length : Nat)
 ·refine aA ?_
  refine aB rfl (bV hg2 (bN rfl rfl)) rfl rfl ?_
  refine aH ?_
  refine aG ?_
  refine bX rfl ?_
  refine wp_seq ?_
  refine aM [0] rfl ?_
  refine aA ?_
  refine aB rfl (aJ rfl) rfl rfl ?_
  refine aH ?_
  refine aG ?_
  refine wp_ret ?_
  refine aU ?_
  have hz3 : ∀ f, aV f l k = false := fun f => eY f l k kO
  have hr4 : aV dJ l k = false := by simp [hz3]
  refine aQ (.inl rfl) Tryz.results73 rfl ?_
  rw [hr4]
  exact ⟨rfl, H1.1⟩
 ·refine aA ?_
  refine aB rfl (bO hg2 (bN rfl rfl)) rfl rfl ?_
  refine aH ?_
  refine aG ?_
  refine dU rfl ?_
  refine wp_skip ?_
  refine aG ?_
  refine wp_seq ?_
  refine wp_seq ?_
  refine aM [0, 1, 2] rfl ?_
  refine aA ?_
  refine aB rfl (aF rfl) rfl rfl ?_
  refine aA ?_
  refine aB rfl (bQ Tryz.runUnderlying71 rfl) rfl rfl ?_
  refine aA ?_
  refine aB rfl (aF rfl) rfl rfl ?_
  refine aH ?_
  refine aG ?_
  refine wp_block ?_
  refine wp_loop_ghost (fun r a' W' => ∃ (i1 : Nat) (x' : Nat → Value), a' = bT 32 x' [(1, .slice A' k.length c'), (2, .func (.func 74) #[] #[]), (15, .slice A l.length c), (16, .int .i64 ((l.length : Nat))), (17, .int .i64 (((i1 : Nat) : Int)))] ∧ (i1 + r = l.length) ∧ (aV dJ l k = aV dJ (l.drop i1) (k.drop i1)) ∧ St w No [] W') l.length ?_ ?_
  ·exact (bA [(1, .slice A' k.length c'), (2, .func (.func 74) #[] #[]), (15, .slice A l.length c), (16, .int .i64 ((l.length : Nat))), (17, .int .i64 (((0 : Nat) : Int)))] rfl).elim fun x' hx => ⟨0, x', hx, kO, rfl, H1⟩
  ·rintro r5 _ W6 ⟨i1, x7, rfl, hi1, hf1, H8⟩; clear H1
   refine wp_seq ?_
   refine aM [0] rfl ?_
   refine aA ?_
   refine aB rfl (gY rfl rfl) rfl rfl ?_
   refine aH ?_
   refine aG ?_
   refine wp_seq ?_
   refine eP rfl (fun hc9 => ?_) (fun hc9 => ?_)
   ·have hlt1 : i1 < l.length := by omega
    have hlu1 : i1 < k.length := by omega
    obtain ⟨ade10, cse10, hAe10, hKe10, hce10⟩ := dO h i1 hlt1
    have hle10 := nA hKe10
    have hoe10 := nC hKe10
    obtain ⟨ade11, cse11, hAe11, hKe11, hce11⟩ := dO h' i1 hlu1
    have hle11 := nA hKe11
    have hoe11 := nC hKe11
    refine wp_skip ?_
    refine aG ?_
    refine wp_seq ?_
    refine wp_block ?_
    refine wp_seq ?_
    refine aM [0, 1, 2, 3, 4, 5] rfl ?_
    refine aA ?_
    refine aB rfl (aF rfl) rfl rfl ?_
    refine aA ?_
    refine aB rfl (aP (k := i1) Tryz.runUnderlying71 Tryz.sizeOf122 rfl rfl hAe10 hlt1) rfl rfl ?_
    refine aA ?_
    refine aB rfl (aY Tryz.isAgg122 Tryz.sizeOf122 rfl (Cat.upd hce10 H8.1) hle10) rfl rfl ?_
    refine aA ?_
    refine gZ rfl Tryz.zeroValue122 rfl rfl H8 ?_
    intro g_5_3 W12 hu13 Ha14; clear H8; clear hu13
    refine aA ?_
    refine aB rfl (aJ rfl) rfl rfl ?_
    refine aA ?_
    refine gN rfl Tryz.sizeOf122 rfl rfl hle10 rfl hoe10 Ha14 ?_
    intro W16 hu17 Ha18; clear Ha14; clear hu17
    refine aH ?_
    refine aG ?_
    refine wp_seq ?_
    refine aM [0, 1, 2, 3, 4, 5] rfl ?_
    refine aA ?_
    refine aB rfl (aF rfl) rfl rfl ?_
    refine aA ?_
    refine aB rfl (aF rfl) rfl rfl ?_
    refine aA ?_
    refine aB rfl (aP (k := i1) Tryz.runUnderlying71 Tryz.sizeOf122 rfl rfl hAe11 hlu1) rfl rfl ?_
    refine aA ?_
    refine aB rfl (aY Tryz.isAgg122 Tryz.sizeOf122 rfl (Cat.upd hce11 Ha18.1) hle11) rfl rfl ?_
    refine aA ?_
    refine gZ rfl Tryz.zeroValue122 rfl rfl Ha18 ?_
    intro g_6_4 W20 hu21 Ha22; clear Ha18; clear hu21
    refine aA ?_
    refine gN rfl Tryz.sizeOf122 rfl rfl hle11 rfl hoe11 Ha22 ?_
    intro W24 hu25 Ha26; clear Ha22; clear hu25
    refine aH ?_
    refine aG ?_
    refine wp_seq ?_
    refine aM [0, 1, 2, 3, 4] rfl ?_
    refine aA ?_
    refine aB rfl (aF rfl) rfl rfl ?_
    refine aA ?_
    refine aB rfl (fH Tryz.isAgg122 Tryz.sizeOf122 rfl (Ha26.blk 1 rfl) hle10) rfl rfl ?_
    refine aA ?_
    refine aB rfl (fH Tryz.isAgg122 Tryz.sizeOf122 rfl (Ha26.blk 0 rfl) hle11) rfl rfl ?_
    by_cases hg28 : dJ (l[i1]) (k[i1]) = true
    ·refine aA ?_
     refine iQ rfl rfl Tryz.call74 (vs := #[.agg (List.toArray cse10), .agg (List.toArray cse11)]) rfl rfl rfl (fK (eqc_Method (l[i1]) (k[i1]) _ _ _ (fE Ha26.1 hKe10) (fE Ha26.1 hKe11)) hg28) ?_
     rintro e31 W30 ⟨rfl, hu29⟩; refine ⟨_, rfl, ?_⟩
     have H32 := Ha26.no hu29; clear Ha26
     refine aA ?_
     refine aB rfl (gD rfl) rfl rfl ?_
     refine aH ?_
     refine aG ?_
     refine dU rfl ?_
     refine wp_skip ?_
     refine iY ?_
     refine aG ?_
     refine aM [0, 1] rfl ?_
     refine aA ?_
     refine aB rfl (iB (k := i1) rfl rfl kO) rfl rfl ?_
     refine aA ?_
     refine aB rfl (aF rfl) rfl rfl ?_
     refine aH ?_
     refine aG ?_
     exact (bA [(1, .slice A' k.length c'), (2, .func (.func 74) #[] #[]), (15, .slice A l.length c), (16, .int .i64 ((l.length : Nat))), (17, .int .i64 (((i1 + 1 : Nat) : Int)))] rfl).elim fun x' hx => ⟨r5 - 1, kO, i1 + 1, x', hx, kO, (hf1.trans (fC dJ l k i1 hlt1 hlu1 hg28)), H32.pick [] kD rfl⟩
    ·refine aA ?_
     refine iQ rfl rfl Tryz.call74 (vs := #[.agg (List.toArray cse10), .agg (List.toArray cse11)]) rfl rfl rfl (fK (eqc_Method (l[i1]) (k[i1]) _ _ _ (fE Ha26.1 hKe10) (fE Ha26.1 hKe11)) (eq_false_of_ne_true hg28)) ?_
     rintro e35 W34 ⟨rfl, hu33⟩; refine ⟨_, rfl, ?_⟩
     have H36 := Ha26.no hu33; clear Ha26
     refine aA ?_
     refine aB rfl (gD rfl) rfl rfl ?_
     refine aH ?_
     refine aG ?_
     refine bX rfl ?_
     refine wp_seq ?_
     refine aM [0] rfl ?_
     refine aA ?_
     refine aB rfl (aJ rfl) rfl rfl ?_
     refine aH ?_
     refine aG ?_
     refine wp_ret ?_
     refine dS ?_
     refine aU ?_
     refine aU ?_
     refine dS ?_
     refine aU ?_
     have hz37 : aV dJ l k = false := hf1.trans (eG dJ l k i1 hlt1 hlu1 (eq_false_of_ne_true hg28))
     have hr38 : aV dJ l k = false := by simp [hg28, hz37]
     refine aQ (.inl rfl) Tryz.results73 rfl ?_
     rw [hr38]
     exact ⟨rfl, H36.1⟩
   ·have hd1 : aV dJ l k = true := hf1.trans (fD dJ l k i1 kO kO)
    refine wp_exit ?_
    refine dP ?_
    refine dP ?_
    refine iZ ?_
    refine aG ?_
    refine wp_seq ?_
    refine aM [0] rfl ?_
    refine aA ?_
    refine aB rfl (aJ rfl) rfl rfl ?_
    refine aH ?_
    refine aG ?_
    refine wp_ret ?_
    have hr39 : aV dJ l k = true := by simp [hd1]
    refine aQ (.inl rfl) Tryz.results73 rfl ?_
    rw [hr39]
    exact ⟨rfl, H8.1⟩
theorem equalScripts_i (x y : GScript) (cx cy : List Value) (w : World) (h : eU.K w x cx) (h' : eU.K w y cy) : Calls Tryz.prog 44 #[.agg cx.toArray, .agg cy.toArray] w (bW (cO x y) w) := by
 obtain ⟨Ax1, cx1, rfl, hlx1, hCx1⟩ := kQ h
 obtain ⟨Ay1, cy1, rfl, hly1, hCy1⟩ := kQ h'
 have nx1 := hCx1.1
 refine enter 17 [(0, .agg #[.string (x.Name), .slice Ax1 x.Methods.length cx1]), (1, .agg #[.string (y.Name), .slice Ay1 y.Methods.length cy1])] Tryz.func44 rfl kR ?_
 intro xj
 have H1 : St w No [] w := St.enter
 refine wp_seq ?_
 refine aM [0, 1, 2] rfl ?_
 refine aA ?_
 refine gX rfl rfl rfl rfl H1 ?_
 intro g_0_0 W2 hu3 Ha4; clear H1; clear hu3
 refine aA ?_
 refine gX rfl rfl rfl rfl Ha4 ?_
 intro g_0_1 W6 hu7 Ha8; clear Ha4; clear hu7
 refine aA ?_
 refine aB rfl (aJ rfl) rfl rfl ?_
 refine aH ?_
 refine aG ?_
 refine wp_seq ?_
 refine aM [0, 1, 2, 3, 4, 5, 6, 7, 8, 9, 10, 11, 12] rfl ?_
 refine aA ?_
 refine aB rfl (aL fa_73_0 rfl) rfl rfl ?_
 refine aA ?_
 refine aB rfl (aN (k := 0) (v := .string (x.Name)) Tryz.isAgg9 rfl (Ha8.blk 1 rfl) rfl) rfl rfl ?_
 refine aA ?_
 refine aB rfl (aL fa_73_0 rfl) rfl rfl ?_
 refine aA ?_
 refine aB rfl (aN (k := 0) (v := .string (y.Name)) Tryz.isAgg9 rfl (Ha8.blk 0 rfl) rfl) rfl rfl ?_
 by_cases hg10 : (x.Name.toList == y.Name.toList) = true
 ·refine aA ?_
  refine aB rfl (cZ (b := x.Name.toList == y.Name.toList) hg10 (lW rfl rfl)) rfl rfl ?_
  refine aA ?_
  refine aB rfl (aF rfl) rfl rfl ?_
  refine aA ?_
  refine aR rfl rfl rfl rfl (fun _ ho11 => ?_)
  refine aB ho11 (aL fa_73_1 rfl) rfl rfl ?_
  refine aA ?_
  refine aR rfl rfl rfl rfl (fun _ ho12 => ?_)
  refine aB ho12 (aN (k := 1) (v := .slice Ax1 x.Methods.length cx1) Tryz.isAgg71 rfl (Ha8.blk 1 rfl) rfl) rfl rfl ?_
  refine aA ?_
  refine aR rfl rfl rfl rfl (fun _ ho13 => ?_)
  refine aB ho13 (aL fa_73_1 rfl) rfl rfl ?_
  refine aA ?_
  refine aR rfl rfl rfl rfl (fun _ ho14 => ?_)
  refine aB ho14 (aN (k := 1) (v := .slice Ay1 y.Methods.length cy1) Tryz.isAgg71 rfl (Ha8.blk 0 rfl) rfl) rfl rfl ?_
  by_cases hg15 : (aV dJ x.Methods y.Methods) = true
  ·refine aA ?_
   refine aR rfl rfl rfl rfl (fun _ ho16 => ?_)
   refine bP ho16 Tryz.call73 (vs := #[.slice Ax1 x.Methods.length cx1, .slice Ay1 y.Methods.length cy1, .func (.func 74) #[] #[]]) rfl rfl rfl (fK (eqF_Method x.Methods y.Methods _ _ _ _ _ (aS Ha8.1 hCx1) (aS Ha8.1 hCy1)) hg15) ?_
   rintro e19 W18 ⟨rfl, hu17⟩; refine ⟨_, rfl, ?_⟩
   have H20 := Ha8.no hu17; clear Ha8
   refine aA ?_
   refine aB rfl (aI (v := .bool (true)) (b := true) rfl rfl rfl rfl) rfl rfl ?_
   refine aA ?_
   refine aB rfl (aJ rfl) rfl rfl ?_
   refine aH ?_
   refine aG ?_
   refine wp_ret ?_
   have hr21 : cO x y = true := by simp [cO, hg10, hg15]
   refine aQ (.inl rfl) Tryz.results44 rfl ?_
   rw [hr21]
   exact ⟨rfl, H20.1⟩
  ·refine aA ?_
   refine aR rfl rfl rfl rfl (fun _ ho22 => ?_)
   refine bP ho22 Tryz.call73 (vs := #[.slice Ax1 x.Methods.length cx1, .slice Ay1 y.Methods.length cy1, .func (.func 74) #[] #[]]) rfl rfl rfl (fK (eqF_Method x.Methods y.Methods _ _ _ _ _ (aS Ha8.1 hCx1) (aS Ha8.1 hCy1)) (eq_false_of_ne_true hg15)) ?_
   rintro e25 W24 ⟨rfl, hu23⟩; refine ⟨_, rfl, ?_⟩
   have H26 := Ha8.no hu23; clear Ha8
   refine aA ?_
   refine aB rfl (aI (v := .bool (false)) (b := true) rfl rfl rfl rfl) rfl rfl ?_
   refine aA ?_
   refine aB rfl (aJ rfl) rfl rfl ?_
   refine aH ?_
   refine aG ?_
   refine wp_ret ?_
   have hr27 : cO x y = false := by simp [cO, hg10, hg15]
   refine aQ (.inl rfl) Tryz.results44 rfl ?_
   rw [hr27]
   exact ⟨rfl, H26.1⟩
 ·refine aA ?_
  refine aB rfl (cZ (b := x.Name.toList == y.Name.toList) (eq_false_of_ne_true hg10) (lW rfl rfl)) rfl rfl ?_
  refine aA ?_
  refine aB rfl (aF rfl) rfl rfl ?_
  refine aA ?_
  refine aC rfl rfl rfl rfl rfl rfl rfl ?_
  refine aA ?_
  refine aC rfl rfl rfl rfl rfl rfl rfl ?_
  refine aA ?_
  refine aC rfl rfl rfl rfl rfl rfl rfl ?_
  refine aA ?_
  refine aC rfl rfl rfl rfl rfl rfl rfl ?_
  refine aA ?_
  refine aC rfl rfl rfl rfl rfl rfl rfl ?_
  refine aA ?_
  refine aB rfl (aI (v := .bool (false)) (b := false) rfl rfl rfl rfl) rfl rfl ?_
  refine aA ?_
  refine aB rfl (aJ rfl) rfl rfl ?_
  refine aH ?_
  refine aG ?_
  refine wp_ret ?_
  have hr28 : cO x y = false := by simp [cO, hg10]
  refine aQ (.inl rfl) Tryz.results44 rfl ?_
  rw [hr28]
  exact ⟨rfl, Ha8.1⟩
theorem eqF_Script (l k : List GScript) (A A' : Option Addr) (c c' : Nat) (w : World) (h : C eU w A l) (h' : C eU w A' k) : Calls Tryz.prog 43 #[.slice A l.length c, .slice A' k.length c', .func (.func 44) #[] #[]] w (bW (aV cO l k) w) := by
 have nx := h.1
 refine enter 32 [(0, .slice A l.length c), (1, .slice A' k.length c'), (2, .func (.func 44) #[] #[])] Tryz.func43 rfl kR ?_
 intro xj
 have H1 : St w No [] w := St.enter
 refine wp_seq ?_
 refine aM [0] rfl ?_
 refine aA ?_
 refine aB rfl (aJ rfl) rfl rfl ?_
 refine aH ?_
 refine aG ?_
 refine wp_seq ?_
 refine wp_seq ?_
 refine aM [0, 1, 2, 3, 4] rfl ?_
 refine aA ?_
 refine aB rfl (aF rfl) rfl rfl ?_
 refine aA ?_
 refine aB rfl (bQ Tryz.runUnderlying30 rfl) rfl rfl ?_
 refine aA ?_
 refine aB rfl (aF rfl) rfl rfl ?_
 refine aA ?_
 refine aB rfl (bQ Tryz.runUnderlying30 rfl) rfl rfl ?_
 by_cases hg2 : ¬ ((l.length : Nat) : Int) = (k.length : Nat)
 ·refine aA ?_
  refine aB rfl (bV hg2 (bN rfl rfl)) rfl rfl ?_
  refine aH ?_
  refine aG ?_
  refine bX rfl ?_
  refine wp_seq ?_
  refine aM [0] rfl ?_
  refine aA ?_
  refine aB rfl (aJ rfl) rfl rfl ?_
  refine aH ?_
  refine aG ?_
  refine wp_ret ?_
  refine aU ?_
  have hz3 : ∀ f, aV f l k = false := fun f => eY f l k kO
  have hr4 : aV cO l k = false := by simp [hz3]
  refine aQ (.inl rfl) Tryz.results43 rfl ?_
  rw [hr4]
  exact ⟨rfl, H1.1⟩
 ·refine aA ?_
  refine aB rfl (bO hg2 (bN rfl rfl)) rfl rfl ?_
  refine aH ?_
  refine aG ?_
  refine dU rfl ?_
  refine wp_skip ?_
  refine aG ?_
  refine wp_seq ?_
  refine wp_seq ?_
  refine aM [0, 1, 2] rfl ?_
  refine aA ?_
  refine aB rfl (aF rfl) rfl rfl ?_
  refine aA ?_
  refine aB rfl (bQ Tryz.runUnderlying30 rfl) rfl rfl ?_
  refine aA ?_
  refine aB rfl (aF rfl) rfl rfl ?_
  refine aH ?_
  refine aG ?_
  refine wp_block ?_
  refine wp_loop_ghost (fun r a' W' => ∃ (i1 : Nat) (x' : Nat → Value), a' = bT 32 x' [(1, .slice A' k.length c'), (2, .func (.func 44) #[] #[]), (15, .slice A l.length c), (16, .int .i64 ((l.length : Nat))), (17, .int .i64 (((i1 : Nat) : Int)))] ∧ (i1 + r = l.length) ∧ (aV cO l k = aV cO (l.drop i1) (k.drop i1)) ∧ St w No [] W') l.length ?_ ?_
  ·exact (bA [(1, .slice A' k.length c'), (2, .func (.func 44) #[] #[]), (15, .slice A l.length c), (16, .int .i64 ((l.length : Nat))), (17, .int .i64 (((0 : Nat) : Int)))] rfl).elim fun x' hx => ⟨0, x', hx, kO, rfl, H1⟩
  ·rintro r5 _ W6 ⟨i1, x7, rfl, hi1, hf1, H8⟩; clear H1
   refine wp_seq ?_
   refine aM [0] rfl ?_
   refine aA ?_
   refine aB rfl (gY rfl rfl) rfl rfl ?_
   refine aH ?_
   refine aG ?_
   refine wp_seq ?_
   refine eP rfl (fun hc9 => ?_) (fun hc9 => ?_)
   ·have hlt1 : i1 < l.length := by omega
    have hlu1 : i1 < k.length := by omega
    obtain ⟨ade10, cse10, hAe10, hKe10, hce10⟩ := dO h i1 hlt1
    have hle10 := nD hKe10
    have hoe10 := nE hKe10
    obtain ⟨ade11, cse11, hAe11, hKe11, hce11⟩ := dO h' i1 hlu1
    have hle11 := nD hKe11
    have hoe11 := nE hKe11
    refine wp_skip ?_
    refine aG ?_
    refine wp_seq ?_
    refine wp_block ?_
    refine wp_seq ?_
    refine aM [0, 1, 2, 3, 4, 5] rfl ?_
    refine aA ?_
    refine aB rfl (aF rfl) rfl rfl ?_
    refine aA ?_
    refine aB rfl (aP (k := i1) Tryz.runUnderlying30 Tryz.sizeOf73 rfl rfl hAe10 hlt1) rfl rfl ?_
    refine aA ?_
    refine aB rfl (aY Tryz.isAgg73 Tryz.sizeOf73 rfl (Cat.upd hce10 H8.1) hle10) rfl rfl ?_
    refine aA ?_
    refine gZ rfl Tryz.zeroValue73 rfl rfl H8 ?_
    intro g_5_3 W12 hu13 Ha14; clear H8; clear hu13
    refine aA ?_
    refine aB rfl (aJ rfl) rfl rfl ?_
    refine aA ?_
    refine gN rfl Tryz.sizeOf73 rfl rfl hle10 rfl hoe10 Ha14 ?_
    intro W16 hu17 Ha18; clear Ha14; clear hu17
    refine aH ?_
    refine aG ?_
    refine wp_seq ?_
    refine aM [0, 1, 2, 3, 4, 5] rfl ?_
    refine aA ?_
    refine aB rfl (aF rfl) rfl rfl ?_
    refine aA ?_
    refine aB rfl (aF rfl) rfl rfl ?_
    refine aA ?_
    refine aB rfl (aP (k := i1) Tryz.runUnderlying30 Tryz.sizeOf73 rfl rfl hAe11 hlu1) rfl rfl ?_
    refine aA ?_
    refine aB rfl (aY Tryz.isAgg73 Tryz.sizeOf73 rfl (Cat.upd hce11 Ha18.1) hle11) rfl rfl ?_
    refine aA ?_
    refine gZ rfl Tryz.zeroValue73 rfl rfl Ha18 ?_
    intro g_6_4 W20 hu21 Ha22; clear Ha18; clear hu21
    refine aA ?_
    refine gN rfl Tryz.sizeOf73 rfl rfl hle11 rfl hoe11 Ha22 ?_
    intro W24 hu25 Ha26; clear Ha22; clear hu25
    refine aH ?_
    refine aG ?_
    refine wp_seq ?_
    refine aM [0, 1, 2, 3, 4] rfl ?_
    refine aA ?_
    refine aB rfl (aF rfl) rfl rfl ?_
    refine aA ?_
    refine aB rfl (fH Tryz.isAgg73 Tryz.sizeOf73 rfl (Ha26.blk 1 rfl) hle10) rfl rfl ?_
    refine aA ?_
    refine aB rfl (fH Tryz.isAgg73 Tryz.sizeOf73 rfl (Ha26.blk 0 rfl) hle11) rfl rfl ?_
    by_cases hg28 : cO (l[i1]) (k[i1]) = true
    ·refine aA ?_
     refine iQ rfl rfl Tryz.call44 (vs := #[.agg (List.toArray cse10), .agg (List.toArray cse11)]) rfl rfl rfl (fK (equalScripts_i (l[i1]) (k[i1]) _ _ _ (fE Ha26.1 hKe10) (fE Ha26.1 hKe11)) hg28) ?_
     rintro e31 W30 ⟨rfl, hu29⟩; refine ⟨_, rfl, ?_⟩
     have H32 := Ha26.no hu29; clear Ha26
     refine aA ?_
     refine aB rfl (gD rfl) rfl rfl ?_
     refine aH ?_
     refine aG ?_
     refine dU rfl ?_
     refine wp_skip ?_
     refine iY ?_
     refine aG ?_
     refine aM [0, 1] rfl ?_
     refine aA ?_
     refine aB rfl (iB (k := i1) rfl rfl kO) rfl rfl ?_
     refine aA ?_
     refine aB rfl (aF rfl) rfl rfl ?_
     refine aH ?_
     refine aG ?_
     exact (bA [(1, .slice A' k.length c'), (2, .func (.func 44) #[] #[]), (15, .slice A l.length c), (16, .int .i64 ((l.length : Nat))), (17, .int .i64 (((i1 + 1 : Nat) : Int)))] rfl).elim fun x' hx => ⟨r5 - 1, kO, i1 + 1, x', hx, kO, (hf1.trans (fC cO l k i1 hlt1 hlu1 hg28)), H32.pick [] kD rfl⟩
    ·refine aA ?_
     refine iQ rfl rfl Tryz.call44 (vs := #[.agg (List.toArray cse10), .agg (List.toArray cse11)]) rfl rfl rfl (fK (equalScripts_i (l[i1]) (k[i1]) _ _ _ (fE Ha26.1 hKe10) (fE Ha26.1 hKe11)) (eq_false_of_ne_true hg28)) ?_
     rintro e35 W34 ⟨rfl, hu33⟩; refine ⟨_, rfl, ?_⟩
     have H36 := Ha26.no hu33; clear Ha26
     refine aA ?_
     refine aB rfl (gD rfl) rfl rfl ?_
     refine aH ?_
     refine aG ?_
     refine bX rfl ?_
     refine wp_seq ?_
     refine aM [0] rfl ?_
     refine aA ?_
     refine aB rfl (aJ rfl) rfl rfl ?_
     refine aH ?_
     refine aG ?_
     refine wp_ret ?_
     refine dS ?_
     refine aU ?_
     refine aU ?_
     refine dS ?_
     refine aU ?_
     have hz37 : aV cO l k = false := hf1.trans (eG cO l k i1 hlt1 hlu1 (eq_false_of_ne_true hg28))
     have hr38 : aV cO l k = false := by simp [hg28, hz37]
     refine aQ (.inl rfl) Tryz.results43 rfl ?_
     rw [hr38]
     exact ⟨rfl, H36.1⟩
   ·have hd1 : aV cO l k = true := hf1.trans (fD cO l k i1 kO kO)
    refine wp_exit ?_
    refine dP ?_
    refine dP ?_
    refine iZ ?_
    refine aG ?_
    refine wp_seq ?_
    refine aM [0] rfl ?_
    refine aA ?_
    refine aB rfl (aJ rfl) rfl rfl ?_
    refine aH ?_
    refine aG ?_
    refine wp_ret ?_
    have hr39 : aV cO l k = true := by simp [hd1]
    refine aQ (.inl rfl) Tryz.results43 rfl ?_
    rw [hr39]
    exact ⟨rfl, H8.1⟩
theorem equalSent_i (x y : GSent) (cx cy : List Value) (w : World) (h : eX.K w x cx) (h' : eX.K w y cy) : Calls Tryz.prog 118 #[.agg cx.toArray, .agg cy.toArray] w (bW (bS x y) w) := by
 obtain ⟨Ax2, cx2, rfl, hlx2, hCx2⟩ := mU h
 obtain ⟨Ay2, cy2, rfl, hly2, hCy2⟩ := mU h'
 have nx2 := hCx2.1
 refine enter 38 [(0, .agg #[.int .i64 (x.Target), .string (x.Name), .slice Ax2 x.bD.length cx2, .int .i64 (x.Result), .int .i64 (x.Tag.Vat), .int .i64 (x.Tag.Entity), .int .i64 (x.Tag.Seq)]), (1, .agg #[.int .i64 (y.Target), .string (y.Name), .slice Ay2 y.bD.length cy2, .int .i64 (y.Result), .int .i64 (y.Tag.Vat), .int .i64 (y.Tag.Entity), .int .i64 (y.Tag.Seq)])] Tryz.func118 rfl kR ?_
 intro xj
 have H1 : St w No [] w := St.enter
 refine wp_seq ?_
 refine aM [0, 1, 2] rfl ?_
 refine aA ?_
 refine gX rfl rfl rfl rfl H1 ?_
 intro g_0_0 W2 hu3 Ha4; clear H1; clear hu3
 refine aA ?_
 refine gX rfl rfl rfl rfl Ha4 ?_
 intro g_0_1 W6 hu7 Ha8; clear Ha4; clear hu7
 refine aA ?_
 refine aB rfl (aJ rfl) rfl rfl ?_
 refine aH ?_
 refine aG ?_
 refine wp_seq ?_
 refine aM [0, 1, 2, 3, 4, 5, 6, 7, 8, 9, 10, 11, 12, 13, 14, 15, 16, 17, 18, 19, 20, 21, 22, 23, 24, 25, 26, 27, 28, 29, 30, 31, 32, 33] rfl ?_
 refine aA ?_
 refine aB rfl (aL jK rfl) rfl rfl ?_
 refine aA ?_
 refine aB rfl (aN (k := 0) (v := .int .i64 (x.Target)) Tryz.isAgg3 rfl (Ha8.blk 1 rfl) rfl) rfl rfl ?_
 refine aA ?_
 refine aB rfl (aL jK rfl) rfl rfl ?_
 refine aA ?_
 refine aB rfl (aN (k := 0) (v := .int .i64 (y.Target)) Tryz.isAgg3 rfl (Ha8.blk 0 rfl) rfl) rfl rfl ?_
 by_cases hg10 : (x.Target : Int) = y.Target
 ·refine aA ?_
  refine aB rfl (bV hg10 (eH rfl rfl)) rfl rfl ?_
  refine aA ?_
  refine aB rfl (aF rfl) rfl rfl ?_
  refine aA ?_
  refine aR rfl rfl rfl rfl (fun _ ho11 => ?_)
  refine aB ho11 (aL kG rfl) rfl rfl ?_
  refine aA ?_
  refine aR rfl rfl rfl rfl (fun _ ho12 => ?_)
  refine aB ho12 (aN (k := 1) (v := .string (x.Name)) Tryz.isAgg9 rfl (Ha8.blk 1 rfl) rfl) rfl rfl ?_
  refine aA ?_
  refine aR rfl rfl rfl rfl (fun _ ho13 => ?_)
  refine aB ho13 (aL kG rfl) rfl rfl ?_
  refine aA ?_
  refine aR rfl rfl rfl rfl (fun _ ho14 => ?_)
  refine aB ho14 (aN (k := 1) (v := .string (y.Name)) Tryz.isAgg9 rfl (Ha8.blk 0 rfl) rfl) rfl rfl ?_
  by_cases hg15 : (x.Name.toList == y.Name.toList) = true
  ·refine aA ?_
   refine aR rfl rfl rfl rfl (fun _ ho16 => ?_)
   refine aB ho16 (cZ (b := x.Name.toList == y.Name.toList) hg15 (lW rfl rfl)) rfl rfl ?_
   refine aA ?_
   refine aB rfl (aI (v := .bool (true)) (b := true) rfl rfl rfl rfl) rfl rfl ?_
   refine aA ?_
   refine aB rfl (aF rfl) rfl rfl ?_
   refine aA ?_
   refine aR rfl rfl rfl rfl (fun _ ho17 => ?_)
   refine aB ho17 (aL lI rfl) rfl rfl ?_
   refine aA ?_
   refine aR rfl rfl rfl rfl (fun _ ho18 => ?_)
   refine aB ho18 (aN (k := 2) (v := .slice Ax2 x.bD.length cx2) Tryz.isAgg127 rfl (Ha8.blk 1 rfl) rfl) rfl rfl ?_
   refine aA ?_
   refine aR rfl rfl rfl rfl (fun _ ho19 => ?_)
   refine aB ho19 (aL lI rfl) rfl rfl ?_
   refine aA ?_
   refine aR rfl rfl rfl rfl (fun _ ho20 => ?_)
   refine aB ho20 (aN (k := 2) (v := .slice Ay2 y.bD.length cy2) Tryz.isAgg127 rfl (Ha8.blk 0 rfl) rfl) rfl rfl ?_
   by_cases hg21 : (aV dI x.bD y.bD) = true
   ·refine aA ?_
    refine aR rfl rfl rfl rfl (fun _ ho22 => ?_)
    refine bP ho22 Tryz.call115 (vs := #[.slice Ax2 x.bD.length cx2, .slice Ay2 y.bD.length cy2]) rfl rfl rfl (fK (eqI_Value x.bD y.bD _ _ _ _ _ (aS Ha8.1 hCx2) (aS Ha8.1 hCy2)) hg21) ?_
    rintro e25 W24 ⟨rfl, hu23⟩; refine ⟨_, rfl, ?_⟩
    have H26 := Ha8.no hu23; clear Ha8
    refine aA ?_
    refine aB rfl (aI (v := .bool (true)) (b := true) rfl rfl rfl rfl) rfl rfl ?_
    refine aA ?_
    refine aB rfl (aF rfl) rfl rfl ?_
    refine aA ?_
    refine aR rfl rfl rfl rfl (fun _ ho27 => ?_)
    refine aB ho27 (aL nM rfl) rfl rfl ?_
    refine aA ?_
    refine aR rfl rfl rfl rfl (fun _ ho28 => ?_)
    refine aB ho28 (aN (k := 3) (v := .int .i64 (x.Result)) Tryz.isAgg3 rfl (H26.blk 1 rfl) rfl) rfl rfl ?_
    refine aA ?_
    refine aR rfl rfl rfl rfl (fun _ ho29 => ?_)
    refine aB ho29 (aL nM rfl) rfl rfl ?_
    refine aA ?_
    refine aR rfl rfl rfl rfl (fun _ ho30 => ?_)
    refine aB ho30 (aN (k := 3) (v := .int .i64 (y.Result)) Tryz.isAgg3 rfl (H26.blk 0 rfl) rfl) rfl rfl ?_
    by_cases hg31 : (x.Result : Int) = y.Result
    ·refine aA ?_
     refine aR rfl rfl rfl rfl (fun _ ho32 => ?_)
     refine aB ho32 (bV hg31 (eH rfl rfl)) rfl rfl ?_
     refine aA ?_
     refine aB rfl (aI (v := .bool (true)) (b := true) rfl rfl rfl rfl) rfl rfl ?_
     refine aA ?_
     refine aB rfl (aF rfl) rfl rfl ?_
     refine aA ?_
     refine aR rfl rfl rfl rfl (fun _ ho33 => ?_)
     refine aB ho33 (aL fa_178_4 rfl) rfl rfl ?_
     refine aA ?_
     refine aR rfl rfl rfl rfl (fun _ ho34 => ?_)
     refine aB ho34 (iX (sub := #[.int .i64 (x.Tag.Vat), .int .i64 (x.Tag.Entity), .int .i64 (x.Tag.Seq)]) Tryz.isAgg50 Tryz.sizeOf50 rfl (H26.blk 1 rfl) rfl rfl) rfl rfl ?_
     refine aA ?_
     refine aR rfl rfl rfl rfl (fun _ ho35 => ?_)
     refine aB ho35 (aL fa_178_4 rfl) rfl rfl ?_
     refine aA ?_
     refine aR rfl rfl rfl rfl (fun _ ho36 => ?_)
     refine aB ho36 (iX (sub := #[.int .i64 (y.Tag.Vat), .int .i64 (y.Tag.Entity), .int .i64 (y.Tag.Seq)]) Tryz.isAgg50 Tryz.sizeOf50 rfl (H26.blk 0 rfl) rfl rfl) rfl rfl ?_
     by_cases hg37 : (jN x.Tag y.Tag) = true
     ·refine aA ?_
      refine aR rfl rfl rfl rfl (fun _ ho38 => ?_)
      refine aB ho38 (cZ (b := jN x.Tag y.Tag) hg37 (rn_eqlA Tryz.eqGuardType50 rfl rfl (oH x.Tag y.Tag _ 9998))) rfl rfl ?_
      refine aA ?_
      refine aB rfl (aI (v := .bool (true)) (b := true) rfl rfl rfl rfl) rfl rfl ?_
      refine aA ?_
      refine aB rfl (aJ rfl) rfl rfl ?_
      refine aH ?_
      refine aG ?_
      refine wp_ret ?_
      have hr39 : bS x y = true := by simp [bS, hg10, hg15, hg21, hg31, hg37]
      refine aQ (.inl rfl) Tryz.results118 rfl ?_
      rw [hr39]
      exact ⟨rfl, H26.1⟩
     ·refine aA ?_
      refine aR rfl rfl rfl rfl (fun _ ho40 => ?_)
      refine aB ho40 (cZ (b := jN x.Tag y.Tag) (eq_false_of_ne_true hg37) (rn_eqlA Tryz.eqGuardType50 rfl rfl (oH x.Tag y.Tag _ 9998))) rfl rfl ?_
      refine aA ?_
      refine aB rfl (aI (v := .bool (false)) (b := true) rfl rfl rfl rfl) rfl rfl ?_
      refine aA ?_
      refine aB rfl (aJ rfl) rfl rfl ?_
      refine aH ?_
      refine aG ?_
      refine wp_ret ?_
      have hr41 : bS x y = false := by simp [bS, hg10, hg15, hg21, hg31, hg37]
      refine aQ (.inl rfl) Tryz.results118 rfl ?_
      rw [hr41]
      exact ⟨rfl, H26.1⟩
    ·refine aA ?_
     refine aR rfl rfl rfl rfl (fun _ ho42 => ?_)
     refine aB ho42 (bO hg31 (eH rfl rfl)) rfl rfl ?_
     refine aA ?_
     refine aB rfl (aI (v := .bool (false)) (b := true) rfl rfl rfl rfl) rfl rfl ?_
     refine aA ?_
     refine aB rfl (aF rfl) rfl rfl ?_
     refine aA ?_
     refine aC rfl rfl rfl rfl rfl rfl rfl ?_
     refine aA ?_
     refine aC rfl rfl rfl rfl rfl rfl rfl ?_
     refine aA ?_
     refine aC rfl rfl rfl rfl rfl rfl rfl ?_
     refine aA ?_
     refine aC rfl rfl rfl rfl rfl rfl rfl ?_
     refine aA ?_
     refine aC rfl rfl rfl rfl rfl rfl rfl ?_
     refine aA ?_
     refine aB rfl (aI (v := .bool (false)) (b := false) rfl rfl rfl rfl) rfl rfl ?_
     refine aA ?_
     refine aB rfl (aJ rfl) rfl rfl ?_
     refine aH ?_
     refine aG ?_
     refine wp_ret ?_
     have hr43 : bS x y = false := by simp [bS, hg10, hg15, hg21, hg31]
     refine aQ (.inl rfl) Tryz.results118 rfl ?_
     rw [hr43]
     exact ⟨rfl, H26.1⟩
   ·refine aA ?_
    refine aR rfl rfl rfl rfl (fun _ ho44 => ?_)
    refine bP ho44 Tryz.call115 (vs := #[.slice Ax2 x.bD.length cx2, .slice Ay2 y.bD.length cy2]) rfl rfl rfl (fK (eqI_Value x.bD y.bD _ _ _ _ _ (aS Ha8.1 hCx2) (aS Ha8.1 hCy2)) (eq_false_of_ne_true hg21)) ?_
    rintro e47 W46 ⟨rfl, hu45⟩; refine ⟨_, rfl, ?_⟩
    have H48 := Ha8.no hu45; clear Ha8
    refine aA ?_
    refine aB rfl (aI (v := .bool (false)) (b := true) rfl rfl rfl rfl) rfl rfl ?_
    refine aA ?_
    refine aB rfl (aF rfl) rfl rfl ?_
    refine aA ?_
    refine aC rfl rfl rfl rfl rfl rfl rfl ?_
    refine aA ?_
    refine aC rfl rfl rfl rfl rfl rfl rfl ?_
    refine aA ?_
    refine aC rfl rfl rfl rfl rfl rfl rfl ?_
    refine aA ?_
    refine aC rfl rfl rfl rfl rfl rfl rfl ?_
    refine aA ?_
    refine aC rfl rfl rfl rfl rfl rfl rfl ?_
    refine aA ?_
    refine aB rfl (aI (v := .bool (false)) (b := false) rfl rfl rfl rfl) rfl rfl ?_
    refine aA ?_
    refine aB rfl (aF rfl) rfl rfl ?_
    refine aA ?_
    refine aC rfl rfl rfl rfl rfl rfl rfl ?_
    refine aA ?_
    refine aC rfl rfl rfl rfl rfl rfl rfl ?_
    refine aA ?_
    refine aC rfl rfl rfl rfl rfl rfl rfl ?_
    refine aA ?_
    refine aC rfl rfl rfl rfl rfl rfl rfl ?_
    refine aA ?_
    refine aC rfl rfl rfl rfl rfl rfl rfl ?_
    refine aA ?_
    refine aB rfl (aI (v := .bool (false)) (b := false) rfl rfl rfl rfl) rfl rfl ?_
    refine aA ?_
    refine aB rfl (aJ rfl) rfl rfl ?_
    refine aH ?_
    refine aG ?_
    refine wp_ret ?_
    have hr49 : bS x y = false := by simp [bS, hg10, hg15, hg21]
    refine aQ (.inl rfl) Tryz.results118 rfl ?_
    rw [hr49]
    exact ⟨rfl, H48.1⟩
  ·refine aA ?_
   refine aR rfl rfl rfl rfl (fun _ ho50 => ?_)
   refine aB ho50 (cZ (b := x.Name.toList == y.Name.toList) (eq_false_of_ne_true hg15) (lW rfl rfl)) rfl rfl ?_
   refine aA ?_
   refine aB rfl (aI (v := .bool (false)) (b := true) rfl rfl rfl rfl) rfl rfl ?_
   refine aA ?_
   refine aB rfl (aF rfl) rfl rfl ?_
   refine aA ?_
   refine aC rfl rfl rfl rfl rfl rfl rfl ?_
   refine aA ?_
   refine aC rfl rfl rfl rfl rfl rfl rfl ?_
   refine aA ?_
   refine aC rfl rfl rfl rfl rfl rfl rfl ?_
   refine aA ?_
   refine aC rfl rfl rfl rfl rfl rfl rfl ?_
   refine aA ?_
   refine aC rfl rfl rfl rfl rfl rfl rfl ?_
   refine aA ?_
   refine aB rfl (aI (v := .bool (false)) (b := false) rfl rfl rfl rfl) rfl rfl ?_
   refine aA ?_
   refine aB rfl (aF rfl) rfl rfl ?_
   refine aA ?_
   refine aC rfl rfl rfl rfl rfl rfl rfl ?_
   refine aA ?_
   refine aC rfl rfl rfl rfl rfl rfl rfl ?_
   refine aA ?_
   refine aC rfl rfl rfl rfl rfl rfl rfl ?_
   refine aA ?_
   refine aC rfl rfl rfl rfl rfl rfl rfl ?_
   refine aA ?_
   refine aC rfl rfl rfl rfl rfl rfl rfl ?_
   refine aA ?_
   refine aB rfl (aI (v := .bool (false)) (b := false) rfl rfl rfl rfl) rfl rfl ?_
   refine aA ?_
   refine aB rfl (aF rfl) rfl rfl ?_
   refine aA ?_
   refine aC rfl rfl rfl rfl rfl rfl rfl ?_
   refine aA ?_
   refine aC rfl rfl rfl rfl rfl rfl rfl ?_
   refine aA ?_
   refine aC rfl rfl rfl rfl rfl rfl rfl ?_
   refine aA ?_
   refine aC rfl rfl rfl rfl rfl rfl rfl ?_
   refine aA ?_
   refine aC rfl rfl rfl rfl rfl rfl rfl ?_
   refine aA ?_
   refine aB rfl (aI (v := .bool (false)) (b := false) rfl rfl rfl rfl) rfl rfl ?_
   refine aA ?_
   refine aB rfl (aJ rfl) rfl rfl ?_
   refine aH ?_
   refine aG ?_
   refine wp_ret ?_
   have hr51 : bS x y = false := by simp [bS, hg10, hg15]
   refine aQ (.inl rfl) Tryz.results118 rfl ?_
   rw [hr51]
   exact ⟨rfl, Ha8.1⟩
 ·refine aA ?_
  refine aB rfl (bO hg10 (eH rfl rfl)) rfl rfl ?_
  refine aA ?_
  refine aB rfl (aF rfl) rfl rfl ?_
  refine aA ?_
  refine aC rfl rfl rfl rfl rfl rfl rfl ?_
  refine aA ?_
  refine aC rfl rfl rfl rfl rfl rfl rfl ?_
  refine aA ?_
  refine aC rfl rfl rfl rfl rfl rfl rfl ?_
  refine aA ?_
  refine aC rfl rfl rfl rfl rfl rfl rfl ?_
  refine aA ?_
  refine aC rfl rfl rfl rfl rfl rfl rfl ?_
  refine aA ?_
  refine aB rfl (aI (v := .bool (false)) (b := false) rfl rfl rfl rfl) rfl rfl ?_
  refine aA ?_
  refine aB rfl (aF rfl) rfl rfl ?_
  refine aA ?_
  refine aC rfl rfl rfl rfl rfl rfl rfl ?_
  refine aA ?_
  refine aC rfl rfl rfl rfl rfl rfl rfl ?_
  refine aA ?_
  refine aC rfl rfl rfl rfl rfl rfl rfl ?_
  refine aA ?_
  refine aC rfl rfl rfl rfl rfl rfl rfl ?_
  refine aA ?_
  refine aC rfl rfl rfl rfl rfl rfl rfl ?_
  refine aA ?_
  refine aB rfl (aI (v := .bool (false)) (b := false) rfl rfl rfl rfl) rfl rfl ?_
  refine aA ?_
  refine aB rfl (aF rfl) rfl rfl ?_
  refine aA ?_
  refine aC rfl rfl rfl rfl rfl rfl rfl ?_
  refine aA ?_
  refine aC rfl rfl rfl rfl rfl rfl rfl ?_
  refine aA ?_
  refine aC rfl rfl rfl rfl rfl rfl rfl ?_
  refine aA ?_
  refine aC rfl rfl rfl rfl rfl rfl rfl ?_
  refine aA ?_
  refine aC rfl rfl rfl rfl rfl rfl rfl ?_
  refine aA ?_
  refine aB rfl (aI (v := .bool (false)) (b := false) rfl rfl rfl rfl) rfl rfl ?_
  refine aA ?_
  refine aB rfl (aF rfl) rfl rfl ?_
  refine aA ?_
  refine aC rfl rfl rfl rfl rfl rfl rfl ?_
  refine aA ?_
  refine aC rfl rfl rfl rfl rfl rfl rfl ?_
  refine aA ?_
  refine aC rfl rfl rfl rfl rfl rfl rfl ?_
  refine aA ?_
  refine aC rfl rfl rfl rfl rfl rfl rfl ?_
  refine aA ?_
  refine aC rfl rfl rfl rfl rfl rfl rfl ?_
  refine aA ?_
  refine aB rfl (aI (v := .bool (false)) (b := false) rfl rfl rfl rfl) rfl rfl ?_
  refine aA ?_
  refine aB rfl (aJ rfl) rfl rfl ?_
  refine aH ?_
  refine aG ?_
  refine wp_ret ?_
  have hr52 : bS x y = false := by simp [bS, hg10]
  refine aQ (.inl rfl) Tryz.results118 rfl ?_
  rw [hr52]
  exact ⟨rfl, Ha8.1⟩
theorem eqF_Sent (l k : List GSent) (A A' : Option Addr) (c c' : Nat) (w : World) (h : C eX w A l) (h' : C eX w A' k) : Calls Tryz.prog 117 #[.slice A l.length c, .slice A' k.length c', .func (.func 118) #[] #[]] w (bW (aV bS l k) w) := by
 have nx := h.1
 refine enter 32 [(0, .slice A l.length c), (1, .slice A' k.length c'), (2, .func (.func 118) #[] #[])] Tryz.func117 rfl kR ?_
 intro xj
 have H1 : St w No [] w := St.enter
 refine wp_seq ?_
 refine aM [0] rfl ?_
 refine aA ?_
 refine aB rfl (aJ rfl) rfl rfl ?_
 refine aH ?_
 refine aG ?_
 refine wp_seq ?_
 refine wp_seq ?_
 refine aM [0, 1, 2, 3, 4] rfl ?_
 refine aA ?_
 refine aB rfl (aF rfl) rfl rfl ?_
 refine aA ?_
 refine aB rfl (bQ Tryz.runUnderlying76 rfl) rfl rfl ?_
 refine aA ?_
 refine aB rfl (aF rfl) rfl rfl ?_
 refine aA ?_
 refine aB rfl (bQ Tryz.runUnderlying76 rfl) rfl rfl ?_
 by_cases hg2 : ¬ ((l.length : Nat) : Int) = (k.length : Nat)
 ·refine aA ?_
  refine aB rfl (bV hg2 (bN rfl rfl)) rfl rfl ?_
  refine aH ?_
  refine aG ?_
  refine bX rfl ?_
  refine wp_seq ?_
  refine aM [0] rfl ?_
  refine aA ?_
  refine aB rfl (aJ rfl) rfl rfl ?_
  refine aH ?_
  refine aG ?_
  refine wp_ret ?_
  refine aU ?_
  have hz3 : ∀ f, aV f l k = false := fun f => eY f l k kO
  have hr4 : aV bS l k = false := by simp [hz3]
  refine aQ (.inl rfl) Tryz.results117 rfl ?_
  rw [hr4]
  exact ⟨rfl, H1.1⟩
 ·refine aA ?_
  refine aB rfl (bO hg2 (bN rfl rfl)) rfl rfl ?_
  refine aH ?_
  refine aG ?_
  refine dU rfl ?_
  refine wp_skip ?_
  refine aG ?_
  refine wp_seq ?_
  refine wp_seq ?_
  refine aM [0, 1, 2] rfl ?_
  refine aA ?_
  refine aB rfl (aF rfl) rfl rfl ?_
  refine aA ?_
  refine aB rfl (bQ Tryz.runUnderlying76 rfl) rfl rfl ?_
  refine aA ?_
  refine aB rfl (aF rfl) rfl rfl ?_
  refine aH ?_
  refine aG ?_
  refine wp_block ?_
  refine wp_loop_ghost (fun r a' W' => ∃ (i1 : Nat) (x' : Nat → Value), a' = bT 32 x' [(1, .slice A' k.length c'), (2, .func (.func 118) #[] #[]), (15, .slice A l.length c), (16, .int .i64 ((l.length : Nat))), (17, .int .i64 (((i1 : Nat) : Int)))] ∧ (i1 + r = l.length) ∧ (aV bS l k = aV bS (l.drop i1) (k.drop i1)) ∧ St w No [] W') l.length ?_ ?_
  ·exact (bA [(1, .slice A' k.length c'), (2, .func (.func 118) #[] #[]), (15, .slice A l.length c), (16, .int .i64 ((l.length : Nat))), (17, .int .i64 (((0 : Nat) : Int)))] rfl).elim fun x' hx => ⟨0, x', hx, kO, rfl, H1⟩
  ·rintro r5 _ W6 ⟨i1, x7, rfl, hi1, hf1, H8⟩; clear H1
   refine wp_seq ?_
   refine aM [0] rfl ?_
   refine aA ?_
   refine aB rfl (gY rfl rfl) rfl rfl ?_
   refine aH ?_
   refine aG ?_
   refine wp_seq ?_
   refine eP rfl (fun hc9 => ?_) (fun hc9 => ?_)
   ·have hlt1 : i1 < l.length := by omega
    have hlu1 : i1 < k.length := by omega
    obtain ⟨ade10, cse10, hAe10, hKe10, hce10⟩ := dO h i1 hlt1
    have hle10 := oZ hKe10
    have hoe10 := o5 hKe10
    obtain ⟨ade11, cse11, hAe11, hKe11, hce11⟩ := dO h' i1 hlu1
    have hle11 := oZ hKe11
    have hoe11 := o5 hKe11
    refine wp_skip ?_
    refine aG ?_
    refine wp_seq ?_
    refine wp_block ?_
    refine wp_seq ?_
    refine aM [0, 1, 2, 3, 4, 5] rfl ?_
    refine aA ?_
    refine aB rfl (aF rfl) rfl rfl ?_
    refine aA ?_
    refine aB rfl (aP (k := i1) Tryz.runUnderlying76 Tryz.sizeOf178 rfl rfl hAe10 hlt1) rfl rfl ?_
    refine aA ?_
    refine aB rfl (aY Tryz.isAgg178 Tryz.sizeOf178 rfl (Cat.upd hce10 H8.1) hle10) rfl rfl ?_
    refine aA ?_
    refine gZ rfl Tryz.zeroValue178 rfl rfl H8 ?_
    intro g_5_3 W12 hu13 Ha14; clear H8; clear hu13
    refine aA ?_
    refine aB rfl (aJ rfl) rfl rfl ?_
    refine aA ?_
    refine gN rfl Tryz.sizeOf178 rfl rfl hle10 rfl hoe10 Ha14 ?_
    intro W16 hu17 Ha18; clear Ha14; clear hu17
    refine aH ?_
    refine aG ?_
    refine wp_seq ?_
    refine aM [0, 1, 2, 3, 4, 5] rfl ?_
    refine aA ?_
    refine aB rfl (aF rfl) rfl rfl ?_
    refine aA ?_
    refine aB rfl (aF rfl) rfl rfl ?_
    refine aA ?_
    refine aB rfl (aP (k := i1) Tryz.runUnderlying76 Tryz.sizeOf178 rfl rfl hAe11 hlu1) rfl rfl ?_
    refine aA ?_
    refine aB rfl (aY Tryz.isAgg178 Tryz.sizeOf178 rfl (Cat.upd hce11 Ha18.1) hle11) rfl rfl ?_
    refine aA ?_
    refine gZ rfl Tryz.zeroValue178 rfl rfl Ha18 ?_
    intro g_6_4 W20 hu21 Ha22; clear Ha18; clear hu21
    refine aA ?_
    refine gN rfl Tryz.sizeOf178 rfl rfl hle11 rfl hoe11 Ha22 ?_
    intro W24 hu25 Ha26; clear Ha22; clear hu25
    refine aH ?_
    refine aG ?_
    refine wp_seq ?_
    refine aM [0, 1, 2, 3, 4] rfl ?_
    refine aA ?_
    refine aB rfl (aF rfl) rfl rfl ?_
    refine aA ?_
    refine aB rfl (fH Tryz.isAgg178 Tryz.sizeOf178 rfl (Ha26.blk 1 rfl) hle10) rfl rfl ?_
    refine aA ?_
    refine aB rfl (fH Tryz.isAgg178 Tryz.sizeOf178 rfl (Ha26.blk 0 rfl) hle11) rfl rfl ?_
    by_cases hg28 : bS (l[i1]) (k[i1]) = true
    ·refine aA ?_
     refine iQ rfl rfl Tryz.call118 (vs := #[.agg (List.toArray cse10), .agg (List.toArray cse11)]) rfl rfl rfl (fK (equalSent_i (l[i1]) (k[i1]) _ _ _ (fE Ha26.1 hKe10) (fE Ha26.1 hKe11)) hg28) ?_
     rintro e31 W30 ⟨rfl, hu29⟩; refine ⟨_, rfl, ?_⟩
     have H32 := Ha26.no hu29; clear Ha26
     refine aA ?_
     refine aB rfl (gD rfl) rfl rfl ?_
     refine aH ?_
     refine aG ?_
     refine dU rfl ?_
     refine wp_skip ?_
     refine iY ?_
     refine aG ?_
     refine aM [0, 1] rfl ?_
     refine aA ?_
     refine aB rfl (iB (k := i1) rfl rfl kO) rfl rfl ?_
     refine aA ?_
     refine aB rfl (aF rfl) rfl rfl ?_
     refine aH ?_
     refine aG ?_
     exact (bA [(1, .slice A' k.length c'), (2, .func (.func 118) #[] #[]), (15, .slice A l.length c), (16, .int .i64 ((l.length : Nat))), (17, .int .i64 (((i1 + 1 : Nat) : Int)))] rfl).elim fun x' hx => ⟨r5 - 1, kO, i1 + 1, x', hx, kO, (hf1.trans (fC bS l k i1 hlt1 hlu1 hg28)), H32.pick [] kD rfl⟩
    ·refine aA ?_
     refine iQ rfl rfl Tryz.call118 (vs := #[.agg (List.toArray cse10), .agg (List.toArray cse11)]) rfl rfl rfl (fK (equalSent_i (l[i1]) (k[i1]) _ _ _ (fE Ha26.1 hKe10) (fE Ha26.1 hKe11)) (eq_false_of_ne_true hg28)) ?_
     rintro e35 W34 ⟨rfl, hu33⟩; refine ⟨_, rfl, ?_⟩
     have H36 := Ha26.no hu33; clear Ha26
     refine aA ?_
     refine aB rfl (gD rfl) rfl rfl ?_
     refine aH ?_
     refine aG ?_
     refine bX rfl ?_
     refine wp_seq ?_
     refine aM [0] rfl ?_
     refine aA ?_
     refine aB rfl (aJ rfl) rfl rfl ?_
     refine aH ?_
     refine aG ?_
     refine wp_ret ?_
     refine dS ?_
     refine aU ?_
     refine aU ?_
     refine dS ?_
     refine aU ?_
     have hz37 : aV bS l k = false := hf1.trans (eG bS l k i1 hlt1 hlu1 (eq_false_of_ne_true hg28))
     have hr38 : aV bS l k = false := by simp [hg28, hz37]
     refine aQ (.inl rfl) Tryz.results117 rfl ?_
     rw [hr38]
     exact ⟨rfl, H36.1⟩
   ·have hd1 : aV bS l k = true := hf1.trans (fD bS l k i1 kO kO)
    refine wp_exit ?_
    refine dP ?_
    refine dP ?_
    refine iZ ?_
    refine aG ?_
    refine wp_seq ?_
    refine aM [0] rfl ?_
    refine aA ?_
    refine aB rfl (aJ rfl) rfl rfl ?_
    refine aH ?_
    refine aG ?_
    refine wp_ret ?_
    have hr39 : aV bS l k = true := by simp [hd1]
    refine aQ (.inl rfl) Tryz.results117 rfl ?_
    rw [hr39]
    exact ⟨rfl, H8.1⟩
theorem oK (l k : List GSent) (A A' : Option Addr) (c c' : Nat) (w : World) (h : C eX w A l) (h' : C eX w A' k) : Calls Tryz.prog 78 #[.slice A l.length c, .slice A' k.length c'] w (bW (aV bS l k) w) := by
 have nx := h.1
 refine enter 8 [(0, .slice A l.length c), (1, .slice A' k.length c')] Tryz.func78 rfl kR ?_
 intro xj
 have H1 : St w No [] w := St.enter
 refine wp_seq ?_
 refine aM [0] rfl ?_
 refine aA ?_
 refine aB rfl (aJ rfl) rfl rfl ?_
 refine aH ?_
 refine aG ?_
 refine wp_seq ?_
 refine aM [0, 1, 2, 3] rfl ?_
 refine aA ?_
 refine aB rfl (aF rfl) rfl rfl ?_
 refine aA ?_
 refine aB rfl (aF rfl) rfl rfl ?_
 by_cases hg2 : (aV bS l k) = true
 ·refine aA ?_
  refine bP rfl Tryz.call117 (vs := #[.slice A l.length c, .slice A' k.length c', .func (.func 118) #[] #[]]) rfl rfl rfl (fK (eqF_Sent l k _ _ _ _ _ (aS H1.1 h) (aS H1.1 h')) hg2) ?_
  rintro e5 W4 ⟨rfl, hu3⟩; refine ⟨_, rfl, ?_⟩
  have H6 := H1.no hu3; clear H1
  refine aA ?_
  refine aB rfl (aJ rfl) rfl rfl ?_
  refine aH ?_
  refine aG ?_
  refine wp_ret ?_
  have hr7 : aV bS l k = true := by simp [hg2]
  refine aQ (.inl rfl) Tryz.results78 rfl ?_
  rw [hr7]
  exact ⟨rfl, H6.1⟩
 ·refine aA ?_
  refine bP rfl Tryz.call117 (vs := #[.slice A l.length c, .slice A' k.length c', .func (.func 118) #[] #[]]) rfl rfl rfl (fK (eqF_Sent l k _ _ _ _ _ (aS H1.1 h) (aS H1.1 h')) (eq_false_of_ne_true hg2)) ?_
  rintro e10 W9 ⟨rfl, hu8⟩; refine ⟨_, rfl, ?_⟩
  have H11 := H1.no hu8; clear H1
  refine aA ?_
  refine aB rfl (aJ rfl) rfl rfl ?_
  refine aH ?_
  refine aG ?_
  refine wp_ret ?_
  have hr12 : aV bS l k = false := by simp [hg2]
  refine aQ (.inl rfl) Tryz.results78 rfl ?_
  rw [hr12]
  exact ⟨rfl, H11.1⟩
theorem equalEntities_i (x y : GEntity) (cx cy : List Value) (w : World) (h : dW.K w x cx) (h' : dW.K w y cy) : Calls Tryz.prog 77 #[.agg cx.toArray, .agg cy.toArray] w (bW (aZ x y) w) := by
 obtain ⟨Ax2, cx2, Ax6, cx6, Ax7, cx7, rfl, hlx2, hCx2, hlx6, hCx6, hlx7, hCx7⟩ := kU h
 obtain ⟨Ay2, cy2, Ay6, cy6, Ay7, cy7, rfl, hly2, hCy2, hly6, hCy6, hly7, hCy7⟩ := kU h'
 have nx2 := hCx2.1
 have nx6 := hCx6.1
 have nx7 := hCx7.1
 refine enter 80 [(0, .agg #[.int .i64 (x.Kind), .int .i64 (x.Script), .slice Ax2 x.eB.length cx2, .int .i64 (x.State), .int .i64 (x.Value.Kind), .int .i64 (x.Value.N), .slice Ax6 x.Queue.length cx6, .slice Ax7 x.bJ.length cx7, .int .i64 (x.dZ), .int .i64 (x.Pos), .int .i64 (x.Count), .int .i64 (x.Sent)]), (1, .agg #[.int .i64 (y.Kind), .int .i64 (y.Script), .slice Ay2 y.eB.length cy2, .int .i64 (y.State), .int .i64 (y.Value.Kind), .int .i64 (y.Value.N), .slice Ay6 y.Queue.length cy6, .slice Ay7 y.bJ.length cy7, .int .i64 (y.dZ), .int .i64 (y.Pos), .int .i64 (y.Count), .int .i64 (y.Sent)])] Tryz.func77 rfl kR ?_
 intro xj
 have H1 : St w No [] w := St.enter
 refine wp_seq ?_
 refine aM [0, 1, 2] rfl ?_
 refine aA ?_
 refine gX rfl rfl rfl rfl H1 ?_
 intro g_0_0 W2 hu3 Ha4; clear H1; clear hu3
 refine aA ?_
 refine gX rfl rfl rfl rfl Ha4 ?_
 intro g_0_1 W6 hu7 Ha8; clear Ha4; clear hu7
 refine aA ?_
 refine aB rfl (aJ rfl) rfl rfl ?_
 refine aH ?_
 refine aG ?_
 refine wp_seq ?_
 refine aM [0, 1, 2, 3, 4, 5, 6, 7, 8, 9, 10, 11, 12, 13, 14, 15, 16, 17, 18, 19, 20, 21, 22, 23, 24, 25, 26, 27, 28, 29, 30, 31, 32, 33, 34, 35, 36, 37, 38, 39, 40, 41, 42, 43, 44, 45, 46, 47, 48, 49, 50, 51, 52, 53, 54, 55, 56, 57, 58, 59, 60, 61, 62, 63, 64, 65, 66, 67, 68, 69, 70, 71, 72, 73, 74, 75] rfl ?_
 refine aA ?_
 refine aB rfl (aL fa_132_0 rfl) rfl rfl ?_
 refine aA ?_
 refine aB rfl (aN (k := 0) (v := .int .i64 (x.Kind)) Tryz.isAgg3 rfl (Ha8.blk 1 rfl) rfl) rfl rfl ?_
 refine aA ?_
 refine aB rfl (aL fa_132_0 rfl) rfl rfl ?_
 refine aA ?_
 refine aB rfl (aN (k := 0) (v := .int .i64 (y.Kind)) Tryz.isAgg3 rfl (Ha8.blk 0 rfl) rfl) rfl rfl ?_
 by_cases hg10 : (x.Kind : Int) = y.Kind
 ·refine aA ?_
  refine aB rfl (bV hg10 (eH rfl rfl)) rfl rfl ?_
  refine aA ?_
  refine aB rfl (aF rfl) rfl rfl ?_
  refine aA ?_
  refine aR rfl rfl rfl rfl (fun _ ho11 => ?_)
  refine aB ho11 (aL fa_132_1 rfl) rfl rfl ?_
  refine aA ?_
  refine aR rfl rfl rfl rfl (fun _ ho12 => ?_)
  refine aB ho12 (aN (k := 1) (v := .int .i64 (x.Script)) Tryz.isAgg3 rfl (Ha8.blk 1 rfl) rfl) rfl rfl ?_
  refine aA ?_
  refine aR rfl rfl rfl rfl (fun _ ho13 => ?_)
  refine aB ho13 (aL fa_132_1 rfl) rfl rfl ?_
  refine aA ?_
  refine aR rfl rfl rfl rfl (fun _ ho14 => ?_)
  refine aB ho14 (aN (k := 1) (v := .int .i64 (y.Script)) Tryz.isAgg3 rfl (Ha8.blk 0 rfl) rfl) rfl rfl ?_
  by_cases hg15 : (x.Script : Int) = y.Script
  ·refine aA ?_
   refine aR rfl rfl rfl rfl (fun _ ho16 => ?_)
   refine aB ho16 (bV hg15 (eH rfl rfl)) rfl rfl ?_
   refine aA ?_
   refine aB rfl (aI (v := .bool (true)) (b := true) rfl rfl rfl rfl) rfl rfl ?_
   refine aA ?_
   refine aB rfl (aF rfl) rfl rfl ?_
   refine aA ?_
   refine aR rfl rfl rfl rfl (fun _ ho17 => ?_)
   refine aB ho17 (aL fa_132_2 rfl) rfl rfl ?_
   refine aA ?_
   refine aR rfl rfl rfl rfl (fun _ ho18 => ?_)
   refine aB ho18 (aN (k := 2) (v := .slice Ax2 x.eB.length cx2) Tryz.isAgg127 rfl (Ha8.blk 1 rfl) rfl) rfl rfl ?_
   refine aA ?_
   refine aR rfl rfl rfl rfl (fun _ ho19 => ?_)
   refine aB ho19 (aL fa_132_2 rfl) rfl rfl ?_
   refine aA ?_
   refine aR rfl rfl rfl rfl (fun _ ho20 => ?_)
   refine aB ho20 (aN (k := 2) (v := .slice Ay2 y.eB.length cy2) Tryz.isAgg127 rfl (Ha8.blk 0 rfl) rfl) rfl rfl ?_
   by_cases hg21 : (aV dI x.eB y.eB) = true
   ·refine aA ?_
    refine aR rfl rfl rfl rfl (fun _ ho22 => ?_)
    refine bP ho22 Tryz.call115 (vs := #[.slice Ax2 x.eB.length cx2, .slice Ay2 y.eB.length cy2]) rfl rfl rfl (fK (eqI_Value x.eB y.eB _ _ _ _ _ (aS Ha8.1 hCx2) (aS Ha8.1 hCy2)) hg21) ?_
    rintro e25 W24 ⟨rfl, hu23⟩; refine ⟨_, rfl, ?_⟩
    have H26 := Ha8.no hu23; clear Ha8
    refine aA ?_
    refine aB rfl (aI (v := .bool (true)) (b := true) rfl rfl rfl rfl) rfl rfl ?_
    refine aA ?_
    refine aB rfl (aF rfl) rfl rfl ?_
    refine aA ?_
    refine aR rfl rfl rfl rfl (fun _ ho27 => ?_)
    refine aB ho27 (aL fa_132_3 rfl) rfl rfl ?_
    refine aA ?_
    refine aR rfl rfl rfl rfl (fun _ ho28 => ?_)
    refine aB ho28 (aN (k := 3) (v := .int .i64 (x.State)) Tryz.isAgg3 rfl (H26.blk 1 rfl) rfl) rfl rfl ?_
    refine aA ?_
    refine aR rfl rfl rfl rfl (fun _ ho29 => ?_)
    refine aB ho29 (aL fa_132_3 rfl) rfl rfl ?_
    refine aA ?_
    refine aR rfl rfl rfl rfl (fun _ ho30 => ?_)
    refine aB ho30 (aN (k := 3) (v := .int .i64 (y.State)) Tryz.isAgg3 rfl (H26.blk 0 rfl) rfl) rfl rfl ?_
    by_cases hg31 : (x.State : Int) = y.State
    ·refine aA ?_
     refine aR rfl rfl rfl rfl (fun _ ho32 => ?_)
     refine aB ho32 (bV hg31 (eH rfl rfl)) rfl rfl ?_
     refine aA ?_
     refine aB rfl (aI (v := .bool (true)) (b := true) rfl rfl rfl rfl) rfl rfl ?_
     refine aA ?_
     refine aB rfl (aF rfl) rfl rfl ?_
     refine aA ?_
     refine aR rfl rfl rfl rfl (fun _ ho33 => ?_)
     refine aB ho33 (aL fa_132_4 rfl) rfl rfl ?_
     refine aA ?_
     refine aR rfl rfl rfl rfl (fun _ ho34 => ?_)
     refine aB ho34 (iX (sub := #[.int .i64 (x.Value.Kind), .int .i64 (x.Value.N)]) Tryz.isAgg129 Tryz.sizeOf129 rfl (H26.blk 1 rfl) rfl rfl) rfl rfl ?_
     refine aA ?_
     refine aR rfl rfl rfl rfl (fun _ ho35 => ?_)
     refine aB ho35 (aL fa_132_4 rfl) rfl rfl ?_
     refine aA ?_
     refine aR rfl rfl rfl rfl (fun _ ho36 => ?_)
     refine aB ho36 (iX (sub := #[.int .i64 (y.Value.Kind), .int .i64 (y.Value.N)]) Tryz.isAgg129 Tryz.sizeOf129 rfl (H26.blk 0 rfl) rfl rfl) rfl rfl ?_
     by_cases hg37 : (dI x.Value y.Value) = true
     ·refine aA ?_
      refine aR rfl rfl rfl rfl (fun _ ho38 => ?_)
      refine aB ho38 (cZ (b := dI x.Value y.Value) hg37 (rn_eqlA Tryz.eqGuardType129 rfl rfl (l8 x.Value y.Value _ 9998))) rfl rfl ?_
      refine aA ?_
      refine aB rfl (aI (v := .bool (true)) (b := true) rfl rfl rfl rfl) rfl rfl ?_
      refine aA ?_
      refine aB rfl (aF rfl) rfl rfl ?_
      refine aA ?_
      refine aR rfl rfl rfl rfl (fun _ ho39 => ?_)
      refine aB ho39 (aL fa_132_5 rfl) rfl rfl ?_
      refine aA ?_
      refine aR rfl rfl rfl rfl (fun _ ho40 => ?_)
      refine aB ho40 (aN (k := 6) (v := .slice Ax6 x.Queue.length cx6) Tryz.isAgg76 rfl (H26.blk 1 rfl) rfl) rfl rfl ?_
      refine aA ?_
      refine aR rfl rfl rfl rfl (fun _ ho41 => ?_)
      refine aB ho41 (aL fa_132_5 rfl) rfl rfl ?_
      refine aA ?_
      refine aR rfl rfl rfl rfl (fun _ ho42 => ?_)
      refine aB ho42 (aN (k := 6) (v := .slice Ay6 y.Queue.length cy6) Tryz.isAgg76 rfl (H26.blk 0 rfl) rfl) rfl rfl ?_
      by_cases hg43 : (aV bS x.Queue y.Queue) = true
      ·refine aA ?_
       refine aR rfl rfl rfl rfl (fun _ ho44 => ?_)
       refine bP ho44 Tryz.call78 (vs := #[.slice Ax6 x.Queue.length cx6, .slice Ay6 y.Queue.length cy6]) rfl rfl rfl (fK (oK x.Queue y.Queue _ _ _ _ _ (aS H26.1 hCx6) (aS H26.1 hCy6)) hg43) ?_
       rintro e47 W46 ⟨rfl, hu45⟩; refine ⟨_, rfl, ?_⟩
       have H48 := H26.no hu45; clear H26
       refine aA ?_
       refine aB rfl (aI (v := .bool (true)) (b := true) rfl rfl rfl rfl) rfl rfl ?_
       refine aA ?_
       refine aB rfl (aF rfl) rfl rfl ?_
       refine aA ?_
       refine aR rfl rfl rfl rfl (fun _ ho49 => ?_)
       refine aB ho49 (aL mD rfl) rfl rfl ?_
       refine aA ?_
       refine aR rfl rfl rfl rfl (fun _ ho50 => ?_)
       refine aB ho50 (aN (k := 7) (v := .slice Ax7 x.bJ.length cx7) Tryz.isAgg130 rfl (H48.blk 1 rfl) rfl) rfl rfl ?_
       refine aA ?_
       refine aR rfl rfl rfl rfl (fun _ ho51 => ?_)
       refine aB ho51 (aL mD rfl) rfl rfl ?_
       refine aA ?_
       refine aR rfl rfl rfl rfl (fun _ ho52 => ?_)
       refine aB ho52 (aN (k := 7) (v := .slice Ay7 y.bJ.length cy7) Tryz.isAgg130 rfl (H48.blk 0 rfl) rfl) rfl rfl ?_
       by_cases hg53 : (aV fB x.bJ y.bJ) = true
       ·refine aA ?_
        refine aR rfl rfl rfl rfl (fun _ ho54 => ?_)
        refine bP ho54 Tryz.call116 (vs := #[.slice Ax7 x.bJ.length cx7, .slice Ay7 y.bJ.length cy7]) rfl rfl rfl (fK (eqI_Asker x.bJ y.bJ _ _ _ _ _ (aS H48.1 hCx7) (aS H48.1 hCy7)) hg53) ?_
        rintro e57 W56 ⟨rfl, hu55⟩; refine ⟨_, rfl, ?_⟩
        have H58 := H48.no hu55; clear H48
        refine aA ?_
        refine aB rfl (aI (v := .bool (true)) (b := true) rfl rfl rfl rfl) rfl rfl ?_
        refine aA ?_
        refine aB rfl (aF rfl) rfl rfl ?_
        refine aA ?_
        refine aR rfl rfl rfl rfl (fun _ ho59 => ?_)
        refine aB ho59 (aL fa_132_7 rfl) rfl rfl ?_
        refine aA ?_
        refine aR rfl rfl rfl rfl (fun _ ho60 => ?_)
        refine aB ho60 (aN (k := 8) (v := .int .i64 (x.dZ)) Tryz.isAgg3 rfl (H58.blk 1 rfl) rfl) rfl rfl ?_
        refine aA ?_
        refine aR rfl rfl rfl rfl (fun _ ho61 => ?_)
        refine aB ho61 (aL fa_132_7 rfl) rfl rfl ?_
        refine aA ?_
        refine aR rfl rfl rfl rfl (fun _ ho62 => ?_)
        refine aB ho62 (aN (k := 8) (v := .int .i64 (y.dZ)) Tryz.isAgg3 rfl (H58.blk 0 rfl) rfl) rfl rfl ?_
        by_cases hg63 : (x.dZ : Int) = y.dZ
        ·refine aA ?_
         refine aR rfl rfl rfl rfl (fun _ ho64 => ?_)
         refine aB ho64 (bV hg63 (eH rfl rfl)) rfl rfl ?_
         refine aA ?_
         refine aB rfl (aI (v := .bool (true)) (b := true) rfl rfl rfl rfl) rfl rfl ?_
         refine aA ?_
         refine aB rfl (aF rfl) rfl rfl ?_
         refine aA ?_
         refine aR rfl rfl rfl rfl (fun _ ho65 => ?_)
         refine aB ho65 (aL fa_132_8 rfl) rfl rfl ?_
         refine aA ?_
         refine aR rfl rfl rfl rfl (fun _ ho66 => ?_)
         refine aB ho66 (aN (k := 9) (v := .int .i64 (x.Pos)) Tryz.isAgg3 rfl (H58.blk 1 rfl) rfl) rfl rfl ?_
         refine aA ?_
         refine aR rfl rfl rfl rfl (fun _ ho67 => ?_)
         refine aB ho67 (aL fa_132_8 rfl) rfl rfl ?_
         refine aA ?_
         refine aR rfl rfl rfl rfl (fun _ ho68 => ?_)
         refine aB ho68 (aN (k := 9) (v := .int .i64 (y.Pos)) Tryz.isAgg3 rfl (H58.blk 0 rfl) rfl) rfl rfl ?_
         by_cases hg69 : (x.Pos : Int) = y.Pos
         ·refine aA ?_
          refine aR rfl rfl rfl rfl (fun _ ho70 => ?_)
          refine aB ho70 (bV hg69 (eH rfl rfl)) rfl rfl ?_
          refine aA ?_
          refine aB rfl (aI (v := .bool (true)) (b := true) rfl rfl rfl rfl) rfl rfl ?_
          refine aA ?_
          refine aB rfl (aF rfl) rfl rfl ?_
          refine aA ?_
          refine aR rfl rfl rfl rfl (fun _ ho71 => ?_)
          refine aB ho71 (aL fa_132_9 rfl) rfl rfl ?_
          refine aA ?_
          refine aR rfl rfl rfl rfl (fun _ ho72 => ?_)
          refine aB ho72 (aN (k := 10) (v := .int .i64 (x.Count)) Tryz.isAgg3 rfl (H58.blk 1 rfl) rfl) rfl rfl ?_
          refine aA ?_
          refine aR rfl rfl rfl rfl (fun _ ho73 => ?_)
          refine aB ho73 (aL fa_132_9 rfl) rfl rfl ?_
          refine aA ?_
          refine aR rfl rfl rfl rfl (fun _ ho74 => ?_)
          refine aB ho74 (aN (k := 10) (v := .int .i64 (y.Count)) Tryz.isAgg3 rfl (H58.blk 0 rfl) rfl) rfl rfl ?_
          by_cases hg75 : (x.Count : Int) = y.Count
          ·refine aA ?_
           refine aR rfl rfl rfl rfl (fun _ ho76 => ?_)
           refine aB ho76 (bV hg75 (eH rfl rfl)) rfl rfl ?_
           refine aA ?_
           refine aB rfl (aI (v := .bool (true)) (b := true) rfl rfl rfl rfl) rfl rfl ?_
           refine aA ?_
           refine aB rfl (aF rfl) rfl rfl ?_
           refine aA ?_
           refine aR rfl rfl rfl rfl (fun _ ho77 => ?_)
           refine aB ho77 (aL fa_132_10 rfl) rfl rfl ?_
           refine aA ?_
           refine aR rfl rfl rfl rfl (fun _ ho78 => ?_)
           refine aB ho78 (aN (k := 11) (v := .int .i64 (x.Sent)) Tryz.isAgg3 rfl (H58.blk 1 rfl) rfl) rfl rfl ?_
           refine aA ?_
           refine aR rfl rfl rfl rfl (fun _ ho79 => ?_)
           refine aB ho79 (aL fa_132_10 rfl) rfl rfl ?_
           refine aA ?_
           refine aR rfl rfl rfl rfl (fun _ ho80 => ?_)
           refine aB ho80 (aN (k := 11) (v := .int .i64 (y.Sent)) Tryz.isAgg3 rfl (H58.blk 0 rfl) rfl) rfl rfl ?_
           by_cases hg81 : (x.Sent : Int) = y.Sent
           ·refine aA ?_
            refine aR rfl rfl rfl rfl (fun _ ho82 => ?_)
            refine aB ho82 (bV hg81 (eH rfl rfl)) rfl rfl ?_
            refine aA ?_
            refine aB rfl (aI (v := .bool (true)) (b := true) rfl rfl rfl rfl) rfl rfl ?_
            refine aA ?_
            refine aB rfl (aJ rfl) rfl rfl ?_
            refine aH ?_
            refine aG ?_
            refine wp_ret ?_
            have hr83 : aZ x y = true := by simp [aZ, hg10, hg15, hg21, hg31, hg37, hg43, hg53, hg63, hg69, hg75, hg81]
            refine aQ (.inl rfl) Tryz.results77 rfl ?_
            rw [hr83]
            exact ⟨rfl, H58.1⟩
           ·refine aA ?_
            refine aR rfl rfl rfl rfl (fun _ ho84 => ?_)
            refine aB ho84 (bO hg81 (eH rfl rfl)) rfl rfl ?_
            refine aA ?_
            refine aB rfl (aI (v := .bool (false)) (b := true) rfl rfl rfl rfl) rfl rfl ?_
            refine aA ?_
            refine aB rfl (aJ rfl) rfl rfl ?_
            refine aH ?_
            refine aG ?_
            refine wp_ret ?_
            have hr85 : aZ x y = false := by simp [aZ, hg10, hg15, hg21, hg31, hg37, hg43, hg53, hg63, hg69, hg75, hg81]
            refine aQ (.inl rfl) Tryz.results77 rfl ?_
            rw [hr85]
            exact ⟨rfl, H58.1⟩
          ·refine aA ?_
           refine aR rfl rfl rfl rfl (fun _ ho86 => ?_)
           refine aB ho86 (bO hg75 (eH rfl rfl)) rfl rfl ?_
           refine aA ?_
           refine aB rfl (aI (v := .bool (false)) (b := true) rfl rfl rfl rfl) rfl rfl ?_
           refine aA ?_
           refine aB rfl (aF rfl) rfl rfl ?_
           refine aA ?_
           refine aC rfl rfl rfl rfl rfl rfl rfl ?_
           refine aA ?_
           refine aC rfl rfl rfl rfl rfl rfl rfl ?_
           refine aA ?_
           refine aC rfl rfl rfl rfl rfl rfl rfl ?_
           refine aA ?_
           refine aC rfl rfl rfl rfl rfl rfl rfl ?_
           refine aA ?_
           refine aC rfl rfl rfl rfl rfl rfl rfl ?_
           refine aA ?_
           refine aB rfl (aI (v := .bool (false)) (b := false) rfl rfl rfl rfl) rfl rfl ?_
           refine aA ?_
           refine aB rfl (aJ rfl) rfl rfl ?_
           refine aH ?_
           refine aG ?_
           refine wp_ret ?_
           have hr87 : aZ x y = false := by simp [aZ, hg10, hg15, hg21, hg31, hg37, hg43, hg53, hg63, hg69, hg75]
           refine aQ (.inl rfl) Tryz.results77 rfl ?_
           rw [hr87]
           exact ⟨rfl, H58.1⟩
         ·refine aA ?_
          refine aR rfl rfl rfl rfl (fun _ ho88 => ?_)
          refine aB ho88 (bO hg69 (eH rfl rfl)) rfl rfl ?_
          refine aA ?_
          refine aB rfl (aI (v := .bool (false)) (b := true) rfl rfl rfl rfl) rfl rfl ?_
          refine aA ?_
          refine aB rfl (aF rfl) rfl rfl ?_
          refine aA ?_
          refine aC rfl rfl rfl rfl rfl rfl rfl ?_
          refine aA ?_
          refine aC rfl rfl rfl rfl rfl rfl rfl ?_
          refine aA ?_
          refine aC rfl rfl rfl rfl rfl rfl rfl ?_
          refine aA ?_
          refine aC rfl rfl rfl rfl rfl rfl rfl ?_
          refine aA ?_
          refine aC rfl rfl rfl rfl rfl rfl rfl ?_
          refine aA ?_
          refine aB rfl (aI (v := .bool (false)) (b := false) rfl rfl rfl rfl) rfl rfl ?_
          refine aA ?_
          refine aB rfl (aF rfl) rfl rfl ?_
          refine aA ?_
          refine aC rfl rfl rfl rfl rfl rfl rfl ?_
          refine aA ?_
          refine aC rfl rfl rfl rfl rfl rfl rfl ?_
          refine aA ?_
          refine aC rfl rfl rfl rfl rfl rfl rfl ?_
          refine aA ?_
          refine aC rfl rfl rfl rfl rfl rfl rfl ?_
          refine aA ?_
          refine aC rfl rfl rfl rfl rfl rfl rfl ?_
          refine aA ?_
          refine aB rfl (aI (v := .bool (false)) (b := false) rfl rfl rfl rfl) rfl rfl ?_
          refine aA ?_
          refine aB rfl (aJ rfl) rfl rfl ?_
          refine aH ?_
          refine aG ?_
          refine wp_ret ?_
          have hr89 : aZ x y = false := by simp [aZ, hg10, hg15, hg21, hg31, hg37, hg43, hg53, hg63, hg69]
          refine aQ (.inl rfl) Tryz.results77 rfl ?_
          rw [hr89]
          exact ⟨rfl, H58.1⟩
        ·refine aA ?_
         refine aR rfl rfl rfl rfl (fun _ ho90 => ?_)
         refine aB ho90 (bO hg63 (eH rfl rfl)) rfl rfl ?_
         refine aA ?_
         refine aB rfl (aI (v := .bool (false)) (b := true) rfl rfl rfl rfl) rfl rfl ?_
         refine aA ?_
         refine aB rfl (aF rfl) rfl rfl ?_
         refine aA ?_
         refine aC rfl rfl rfl rfl rfl rfl rfl ?_
         refine aA ?_
         refine aC rfl rfl rfl rfl rfl rfl rfl ?_
         refine aA ?_
         refine aC rfl rfl rfl rfl rfl rfl rfl ?_
         refine aA ?_
         refine aC rfl rfl rfl rfl rfl rfl rfl ?_
         refine aA ?_
         refine aC rfl rfl rfl rfl rfl rfl rfl ?_
         refine aA ?_
         refine aB rfl (aI (v := .bool (false)) (b := false) rfl rfl rfl rfl) rfl rfl ?_
         refine aA ?_
         refine aB rfl (aF rfl) rfl rfl ?_
         refine aA ?_
         refine aC rfl rfl rfl rfl rfl rfl rfl ?_
         refine aA ?_
         refine aC rfl rfl rfl rfl rfl rfl rfl ?_
         refine aA ?_
         refine aC rfl rfl rfl rfl rfl rfl rfl ?_
         refine aA ?_
         refine aC rfl rfl rfl rfl rfl rfl rfl ?_
         refine aA ?_
         refine aC rfl rfl rfl rfl rfl rfl rfl ?_
         refine aA ?_
         refine aB rfl (aI (v := .bool (false)) (b := false) rfl rfl rfl rfl) rfl rfl ?_
         refine aA ?_
         refine aB rfl (aF rfl) rfl rfl ?_
         refine aA ?_
         refine aC rfl rfl rfl rfl rfl rfl rfl ?_
         refine aA ?_
         refine aC rfl rfl rfl rfl rfl rfl rfl ?_
         refine aA ?_
         refine aC rfl rfl rfl rfl rfl rfl rfl ?_
         refine aA ?_
         refine aC rfl rfl rfl rfl rfl rfl rfl ?_
         refine aA ?_
         refine aC rfl rfl rfl rfl rfl rfl rfl ?_
         refine aA ?_
         refine aB rfl (aI (v := .bool (false)) (b := false) rfl rfl rfl rfl) rfl rfl ?_
         refine aA ?_
         refine aB rfl (aJ rfl) rfl rfl ?_
         refine aH ?_
         refine aG ?_
         refine wp_ret ?_
         have hr91 : aZ x y = false := by simp [aZ, hg10, hg15, hg21, hg31, hg37, hg43, hg53, hg63]
         refine aQ (.inl rfl) Tryz.results77 rfl ?_
         rw [hr91]
         exact ⟨rfl, H58.1⟩
       ·refine aA ?_
        refine aR rfl rfl rfl rfl (fun _ ho92 => ?_)
        refine bP ho92 Tryz.call116 (vs := #[.slice Ax7 x.bJ.length cx7, .slice Ay7 y.bJ.length cy7]) rfl rfl rfl (fK (eqI_Asker x.bJ y.bJ _ _ _ _ _ (aS H48.1 hCx7) (aS H48.1 hCy7)) (eq_false_of_ne_true hg53)) ?_
        rintro e95 W94 ⟨rfl, hu93⟩; refine ⟨_, rfl, ?_⟩
        have H96 := H48.no hu93; clear H48
        refine aA ?_
        refine aB rfl (aI (v := .bool (false)) (b := true) rfl rfl rfl rfl) rfl rfl ?_
        refine aA ?_
        refine aB rfl (aF rfl) rfl rfl ?_
        refine aA ?_
        refine aC rfl rfl rfl rfl rfl rfl rfl ?_
        refine aA ?_
        refine aC rfl rfl rfl rfl rfl rfl rfl ?_
        refine aA ?_
        refine aC rfl rfl rfl rfl rfl rfl rfl ?_
        refine aA ?_
        refine aC rfl rfl rfl rfl rfl rfl rfl ?_
        refine aA ?_
        refine aC rfl rfl rfl rfl rfl rfl rfl ?_
        refine aA ?_
        refine aB rfl (aI (v := .bool (false)) (b := false) rfl rfl rfl rfl) rfl rfl ?_
        refine aA ?_
        refine aB rfl (aF rfl) rfl rfl ?_
        refine aA ?_
        refine aC rfl rfl rfl rfl rfl rfl rfl ?_
        refine aA ?_
        refine aC rfl rfl rfl rfl rfl rfl rfl ?_
        refine aA ?_
        refine aC rfl rfl rfl rfl rfl rfl rfl ?_
        refine aA ?_
        refine aC rfl rfl rfl rfl rfl rfl rfl ?_
        refine aA ?_
        refine aC rfl rfl rfl rfl rfl rfl rfl ?_
        refine aA ?_
        refine aB rfl (aI (v := .bool (false)) (b := false) rfl rfl rfl rfl) rfl rfl ?_
        refine aA ?_
        refine aB rfl (aF rfl) rfl rfl ?_
        refine aA ?_
        refine aC rfl rfl rfl rfl rfl rfl rfl ?_
        refine aA ?_
        refine aC rfl rfl rfl rfl rfl rfl rfl ?_
        refine aA ?_
        refine aC rfl rfl rfl rfl rfl rfl rfl ?_
        refine aA ?_
        refine aC rfl rfl rfl rfl rfl rfl rfl ?_
        refine aA ?_
        refine aC rfl rfl rfl rfl rfl rfl rfl ?_
        refine aA ?_
        refine aB rfl (aI (v := .bool (false)) (b := false) rfl rfl rfl rfl) rfl rfl ?_
        refine aA ?_
        refine aB rfl (aF rfl) rfl rfl ?_
        refine aA ?_
        refine aC rfl rfl rfl rfl rfl rfl rfl ?_
        refine aA ?_
        refine aC rfl rfl rfl rfl rfl rfl rfl ?_
        refine aA ?_
        refine aC rfl rfl rfl rfl rfl rfl rfl ?_
        refine aA ?_
        refine aC rfl rfl rfl rfl rfl rfl rfl ?_
        refine aA ?_
        refine aC rfl rfl rfl rfl rfl rfl rfl ?_
        refine aA ?_
        refine aB rfl (aI (v := .bool (false)) (b := false) rfl rfl rfl rfl) rfl rfl ?_
        refine aA ?_
        refine aB rfl (aJ rfl) rfl rfl ?_
        refine aH ?_
        refine aG ?_
        refine wp_ret ?_
        have hr97 : aZ x y = false := by simp [aZ, hg10, hg15, hg21, hg31, hg37, hg43, hg53]
        refine aQ (.inl rfl) Tryz.results77 rfl ?_
        rw [hr97]
        exact ⟨rfl, H96.1⟩
      ·refine aA ?_
       refine aR rfl rfl rfl rfl (fun _ ho98 => ?_)
       refine bP ho98 Tryz.call78 (vs := #[.slice Ax6 x.Queue.length cx6, .slice Ay6 y.Queue.length cy6]) rfl rfl rfl (fK (oK x.Queue y.Queue _ _ _ _ _ (aS H26.1 hCx6) (aS H26.1 hCy6)) (eq_false_of_ne_true hg43)) ?_
       rintro e101 W100 ⟨rfl, hu99⟩; refine ⟨_, rfl, ?_⟩
       have H102 := H26.no hu99; clear H26
       refine aA ?_
       refine aB rfl (aI (v := .bool (false)) (b := true) rfl rfl rfl rfl) rfl rfl ?_
       refine aA ?_
       refine aB rfl (aF rfl) rfl rfl ?_
       refine aA ?_
       refine aC rfl rfl rfl rfl rfl rfl rfl ?_
       refine aA ?_
       refine aC rfl rfl rfl rfl rfl rfl rfl ?_
       refine aA ?_
       refine aC rfl rfl rfl rfl rfl rfl rfl ?_
       refine aA ?_
       refine aC rfl rfl rfl rfl rfl rfl rfl ?_
       refine aA ?_
       refine aC rfl rfl rfl rfl rfl rfl rfl ?_
       refine aA ?_
       refine aB rfl (aI (v := .bool (false)) (b := false) rfl rfl rfl rfl) rfl rfl ?_
       refine aA ?_
       refine aB rfl (aF rfl) rfl rfl ?_
       refine aA ?_
       refine aC rfl rfl rfl rfl rfl rfl rfl ?_
       refine aA ?_
       refine aC rfl rfl rfl rfl rfl rfl rfl ?_
       refine aA ?_
       refine aC rfl rfl rfl rfl rfl rfl rfl ?_
       refine aA ?_
       refine aC rfl rfl rfl rfl rfl rfl rfl ?_
       refine aA ?_
       refine aC rfl rfl rfl rfl rfl rfl rfl ?_
       refine aA ?_
       refine aB rfl (aI (v := .bool (false)) (b := false) rfl rfl rfl rfl) rfl rfl ?_
       refine aA ?_
       refine aB rfl (aF rfl) rfl rfl ?_
       refine aA ?_
       refine aC rfl rfl rfl rfl rfl rfl rfl ?_
       refine aA ?_
       refine aC rfl rfl rfl rfl rfl rfl rfl ?_
       refine aA ?_
       refine aC rfl rfl rfl rfl rfl rfl rfl ?_
       refine aA ?_
       refine aC rfl rfl rfl rfl rfl rfl rfl ?_
       refine aA ?_
       refine aC rfl rfl rfl rfl rfl rfl rfl ?_
       refine aA ?_
       refine aB rfl (aI (v := .bool (false)) (b := false) rfl rfl rfl rfl) rfl rfl ?_
       refine aA ?_
       refine aB rfl (aF rfl) rfl rfl ?_
       refine aA ?_
       refine aC rfl rfl rfl rfl rfl rfl rfl ?_
       refine aA ?_
       refine aC rfl rfl rfl rfl rfl rfl rfl ?_
       refine aA ?_
       refine aC rfl rfl rfl rfl rfl rfl rfl ?_
       refine aA ?_
       refine aC rfl rfl rfl rfl rfl rfl rfl ?_
       refine aA ?_
       refine aC rfl rfl rfl rfl rfl rfl rfl ?_
       refine aA ?_
       refine aB rfl (aI (v := .bool (false)) (b := false) rfl rfl rfl rfl) rfl rfl ?_
       refine aA ?_
       refine aB rfl (aF rfl) rfl rfl ?_
       refine aA ?_
       refine aC rfl rfl rfl rfl rfl rfl rfl ?_
       refine aA ?_
       refine aC rfl rfl rfl rfl rfl rfl rfl ?_
       refine aA ?_
       refine aC rfl rfl rfl rfl rfl rfl rfl ?_
       refine aA ?_
       refine aC rfl rfl rfl rfl rfl rfl rfl ?_
       refine aA ?_
       refine aC rfl rfl rfl rfl rfl rfl rfl ?_
       refine aA ?_
       refine aB rfl (aI (v := .bool (false)) (b := false) rfl rfl rfl rfl) rfl rfl ?_
       refine aA ?_
       refine aB rfl (aJ rfl) rfl rfl ?_
       refine aH ?_
       refine aG ?_
       refine wp_ret ?_
       have hr103 : aZ x y = false := by simp [aZ, hg10, hg15, hg21, hg31, hg37, hg43]
       refine aQ (.inl rfl) Tryz.results77 rfl ?_
       rw [hr103]
       exact ⟨rfl, H102.1⟩
     ·refine aA ?_
      refine aR rfl rfl rfl rfl (fun _ ho104 => ?_)
      refine aB ho104 (cZ (b := dI x.Value y.Value) (eq_false_of_ne_true hg37) (rn_eqlA Tryz.eqGuardType129 rfl rfl (l8 x.Value y.Value _ 9998))) rfl rfl ?_
      refine aA ?_
      refine aB rfl (aI (v := .bool (false)) (b := true) rfl rfl rfl rfl) rfl rfl ?_
      refine aA ?_
      refine aB rfl (aF rfl) rfl rfl ?_
      refine aA ?_
      refine aC rfl rfl rfl rfl rfl rfl rfl ?_
      refine aA ?_
      refine aC rfl rfl rfl rfl rfl rfl rfl ?_
      refine aA ?_
      refine aC rfl rfl rfl rfl rfl rfl rfl ?_
      refine aA ?_
      refine aC rfl rfl rfl rfl rfl rfl rfl ?_
      refine aA ?_
      refine aC rfl rfl rfl rfl rfl rfl rfl ?_
      refine aA ?_
      refine aB rfl (aI (v := .bool (false)) (b := false) rfl rfl rfl rfl) rfl rfl ?_
      refine aA ?_
      refine aB rfl (aF rfl) rfl rfl ?_
      refine aA ?_
      refine aC rfl rfl rfl rfl rfl rfl rfl ?_
      refine aA ?_
      refine aC rfl rfl rfl rfl rfl rfl rfl ?_
      refine aA ?_
      refine aC rfl rfl rfl rfl rfl rfl rfl ?_
      refine aA ?_
      refine aC rfl rfl rfl rfl rfl rfl rfl ?_
      refine aA ?_
      refine aC rfl rfl rfl rfl rfl rfl rfl ?_
      refine aA ?_
      refine aB rfl (aI (v := .bool (false)) (b := false) rfl rfl rfl rfl) rfl rfl ?_
      refine aA ?_
      refine aB rfl (aF rfl) rfl rfl ?_
      refine aA ?_
      refine aC rfl rfl rfl rfl rfl rfl rfl ?_
      refine aA ?_
      refine aC rfl rfl rfl rfl rfl rfl rfl ?_
      refine aA ?_
      refine aC rfl rfl rfl rfl rfl rfl rfl ?_
      refine aA ?_
      refine aC rfl rfl rfl rfl rfl rfl rfl ?_
      refine aA ?_
      refine aC rfl rfl rfl rfl rfl rfl rfl ?_
      refine aA ?_
      refine aB rfl (aI (v := .bool (false)) (b := false) rfl rfl rfl rfl) rfl rfl ?_
      refine aA ?_
      refine aB rfl (aF rfl) rfl rfl ?_
      refine aA ?_
      refine aC rfl rfl rfl rfl rfl rfl rfl ?_
      refine aA ?_
      refine aC rfl rfl rfl rfl rfl rfl rfl ?_
      refine aA ?_
      refine aC rfl rfl rfl rfl rfl rfl rfl ?_
      refine aA ?_
      refine aC rfl rfl rfl rfl rfl rfl rfl ?_
      refine aA ?_
      refine aC rfl rfl rfl rfl rfl rfl rfl ?_
      refine aA ?_
      refine aB rfl (aI (v := .bool (false)) (b := false) rfl rfl rfl rfl) rfl rfl ?_
      refine aA ?_
      refine aB rfl (aF rfl) rfl rfl ?_
      refine aA ?_
      refine aC rfl rfl rfl rfl rfl rfl rfl ?_
      refine aA ?_
      refine aC rfl rfl rfl rfl rfl rfl rfl ?_
      refine aA ?_
      refine aC rfl rfl rfl rfl rfl rfl rfl ?_
      refine aA ?_
      refine aC rfl rfl rfl rfl rfl rfl rfl ?_
      refine aA ?_
      refine aC rfl rfl rfl rfl rfl rfl rfl ?_
      refine aA ?_
      refine aB rfl (aI (v := .bool (false)) (b := false) rfl rfl rfl rfl) rfl rfl ?_
      refine aA ?_
      refine aB rfl (aF rfl) rfl rfl ?_
      refine aA ?_
      refine aC rfl rfl rfl rfl rfl rfl rfl ?_
      refine aA ?_
      refine aC rfl rfl rfl rfl rfl rfl rfl ?_
      refine aA ?_
      refine aC rfl rfl rfl rfl rfl rfl rfl ?_
      refine aA ?_
      refine aC rfl rfl rfl rfl rfl rfl rfl ?_
      refine aA ?_
      refine aC rfl rfl rfl rfl rfl rfl rfl ?_
      refine aA ?_
      refine aB rfl (aI (v := .bool (false)) (b := false) rfl rfl rfl rfl) rfl rfl ?_
      refine aA ?_
      refine aB rfl (aJ rfl) rfl rfl ?_
      refine aH ?_
      refine aG ?_
      refine wp_ret ?_
      have hr105 : aZ x y = false := by simp [aZ, hg10, hg15, hg21, hg31, hg37]
      refine aQ (.inl rfl) Tryz.results77 rfl ?_
      rw [hr105]
      exact ⟨rfl, H26.1⟩
    ·refine aA ?_
     refine aR rfl rfl rfl rfl (fun _ ho106 => ?_)
     refine aB ho106 (bO hg31 (eH rfl rfl)) rfl rfl ?_
     refine aA ?_
     refine aB rfl (aI (v := .bool (false)) (b := true) rfl rfl rfl rfl) rfl rfl ?_
     refine aA ?_
     refine aB rfl (aF rfl) rfl rfl ?_
     refine aA ?_
     refine aC rfl rfl rfl rfl rfl rfl rfl ?_
     refine aA ?_
     refine aC rfl rfl rfl rfl rfl rfl rfl ?_
     refine aA ?_
     refine aC rfl rfl rfl rfl rfl rfl rfl ?_
     refine aA ?_
     refine aC rfl rfl rfl rfl rfl rfl rfl ?_
     refine aA ?_
     refine aC rfl rfl rfl rfl rfl rfl rfl ?_
     refine aA ?_
     refine aB rfl (aI (v := .bool (false)) (b := false) rfl rfl rfl rfl) rfl rfl ?_
     refine aA ?_
     refine aB rfl (aF rfl) rfl rfl ?_
     refine aA ?_
     refine aC rfl rfl rfl rfl rfl rfl rfl ?_
     refine aA ?_
     refine aC rfl rfl rfl rfl rfl rfl rfl ?_
     refine aA ?_
     refine aC rfl rfl rfl rfl rfl rfl rfl ?_
     refine aA ?_
     refine aC rfl rfl rfl rfl rfl rfl rfl ?_
     refine aA ?_
     refine aC rfl rfl rfl rfl rfl rfl rfl ?_
     refine aA ?_
     refine aB rfl (aI (v := .bool (false)) (b := false) rfl rfl rfl rfl) rfl rfl ?_
     refine aA ?_
     refine aB rfl (aF rfl) rfl rfl ?_
     refine aA ?_
     refine aC rfl rfl rfl rfl rfl rfl rfl ?_
     refine aA ?_
     refine aC rfl rfl rfl rfl rfl rfl rfl ?_
     refine aA ?_
     refine aC rfl rfl rfl rfl rfl rfl rfl ?_
     refine aA ?_
     refine aC rfl rfl rfl rfl rfl rfl rfl ?_
     refine aA ?_
     refine aC rfl rfl rfl rfl rfl rfl rfl ?_
     refine aA ?_
     refine aB rfl (aI (v := .bool (false)) (b := false) rfl rfl rfl rfl) rfl rfl ?_
     refine aA ?_
     refine aB rfl (aF rfl) rfl rfl ?_
     refine aA ?_
     refine aC rfl rfl rfl rfl rfl rfl rfl ?_
     refine aA ?_
     refine aC rfl rfl rfl rfl rfl rfl rfl ?_
     refine aA ?_
     refine aC rfl rfl rfl rfl rfl rfl rfl ?_
     refine aA ?_
     refine aC rfl rfl rfl rfl rfl rfl rfl ?_
     refine aA ?_
     refine aC rfl rfl rfl rfl rfl rfl rfl ?_
     refine aA ?_
     refine aB rfl (aI (v := .bool (false)) (b := false) rfl rfl rfl rfl) rfl rfl ?_
     refine aA ?_
     refine aB rfl (aF rfl) rfl rfl ?_
     refine aA ?_
     refine aC rfl rfl rfl rfl rfl rfl rfl ?_
     refine aA ?_
     refine aC rfl rfl rfl rfl rfl rfl rfl ?_
     refine aA ?_
     refine aC rfl rfl rfl rfl rfl rfl rfl ?_
     refine aA ?_
     refine aC rfl rfl rfl rfl rfl rfl rfl ?_
     refine aA ?_
     refine aC rfl rfl rfl rfl rfl rfl rfl ?_
     refine aA ?_
     refine aB rfl (aI (v := .bool (false)) (b := false) rfl rfl rfl rfl) rfl rfl ?_
     refine aA ?_
     refine aB rfl (aF rfl) rfl rfl ?_
     refine aA ?_
     refine aC rfl rfl rfl rfl rfl rfl rfl ?_
     refine aA ?_
     refine aC rfl rfl rfl rfl rfl rfl rfl ?_
     refine aA ?_
     refine aC rfl rfl rfl rfl rfl rfl rfl ?_
     refine aA ?_
     refine aC rfl rfl rfl rfl rfl rfl rfl ?_
     refine aA ?_
     refine aC rfl rfl rfl rfl rfl rfl rfl ?_
     refine aA ?_
     refine aB rfl (aI (v := .bool (false)) (b := false) rfl rfl rfl rfl) rfl rfl ?_
     refine aA ?_
     refine aB rfl (aF rfl) rfl rfl ?_
     refine aA ?_
     refine aC rfl rfl rfl rfl rfl rfl rfl ?_
     refine aA ?_
     refine aC rfl rfl rfl rfl rfl rfl rfl ?_
     refine aA ?_
     refine aC rfl rfl rfl rfl rfl rfl rfl ?_
     refine aA ?_
     refine aC rfl rfl rfl rfl rfl rfl rfl ?_
     refine aA ?_
     refine aC rfl rfl rfl rfl rfl rfl rfl ?_
     refine aA ?_
     refine aB rfl (aI (v := .bool (false)) (b := false) rfl rfl rfl rfl) rfl rfl ?_
     refine aA ?_
     refine aB rfl (aJ rfl) rfl rfl ?_
     refine aH ?_
     refine aG ?_
     refine wp_ret ?_
     have hr107 : aZ x y = false := by simp [aZ, hg10, hg15, hg21, hg31]
     refine aQ (.inl rfl) Tryz.results77 rfl ?_
     rw [hr107]
     exact ⟨rfl, H26.1⟩
   ·refine aA ?_
    refine aR rfl rfl rfl rfl (fun _ ho108 => ?_)
    refine bP ho108 Tryz.call115 (vs := #[.slice Ax2 x.eB.length cx2, .slice Ay2 y.eB.length cy2]) rfl rfl rfl (fK (eqI_Value x.eB y.eB _ _ _ _ _ (aS Ha8.1 hCx2) (aS Ha8.1 hCy2)) (eq_false_of_ne_true hg21)) ?_
    rintro e111 W110 ⟨rfl, hu109⟩; refine ⟨_, rfl, ?_⟩
    have H112 := Ha8.no hu109; clear Ha8
    refine aA ?_
    refine aB rfl (aI (v := .bool (false)) (b := true) rfl rfl rfl rfl) rfl rfl ?_
    refine aA ?_
    refine aB rfl (aF rfl) rfl rfl ?_
    refine aA ?_
    refine aC rfl rfl rfl rfl rfl rfl rfl ?_
    refine aA ?_
    refine aC rfl rfl rfl rfl rfl rfl rfl ?_
    refine aA ?_
    refine aC rfl rfl rfl rfl rfl rfl rfl ?_
    refine aA ?_
    refine aC rfl rfl rfl rfl rfl rfl rfl ?_
    refine aA ?_
    refine aC rfl rfl rfl rfl rfl rfl rfl ?_
    refine aA ?_
    refine aB rfl (aI (v := .bool (false)) (b := false) rfl rfl rfl rfl) rfl rfl ?_
    refine aA ?_
    refine aB rfl (aF rfl) rfl rfl ?_
    refine aA ?_
    refine aC rfl rfl rfl rfl rfl rfl rfl ?_
    refine aA ?_
    refine aC rfl rfl rfl rfl rfl rfl rfl ?_
    refine aA ?_
    refine aC rfl rfl rfl rfl rfl rfl rfl ?_
    refine aA ?_
    refine aC rfl rfl rfl rfl rfl rfl rfl ?_
    refine aA ?_
    refine aC rfl rfl rfl rfl rfl rfl rfl ?_
    refine aA ?_
    refine aB rfl (aI (v := .bool (false)) (b := false) rfl rfl rfl rfl) rfl rfl ?_
    refine aA ?_
    refine aB rfl (aF rfl) rfl rfl ?_
    refine aA ?_
    refine aC rfl rfl rfl rfl rfl rfl rfl ?_
    refine aA ?_
    refine aC rfl rfl rfl rfl rfl rfl rfl ?_
    refine aA ?_
    refine aC rfl rfl rfl rfl rfl rfl rfl ?_
    refine aA ?_
    refine aC rfl rfl rfl rfl rfl rfl rfl ?_
    refine aA ?_
    refine aC rfl rfl rfl rfl rfl rfl rfl ?_
    refine aA ?_
    refine aB rfl (aI (v := .bool (false)) (b := false) rfl rfl rfl rfl) rfl rfl ?_
    refine aA ?_
    refine aB rfl (aF rfl) rfl rfl ?_
    refine aA ?_
    refine aC rfl rfl rfl rfl rfl rfl rfl ?_
    refine aA ?_
    refine aC rfl rfl rfl rfl rfl rfl rfl ?_
    refine aA ?_
    refine aC rfl rfl rfl rfl rfl rfl rfl ?_
    refine aA ?_
    refine aC rfl rfl rfl rfl rfl rfl rfl ?_
    refine aA ?_
    refine aC rfl rfl rfl rfl rfl rfl rfl ?_
    refine aA ?_
    refine aB rfl (aI (v := .bool (false)) (b := false) rfl rfl rfl rfl) rfl rfl ?_
    refine aA ?_
    refine aB rfl (aF rfl) rfl rfl ?_
    refine aA ?_
    refine aC rfl rfl rfl rfl rfl rfl rfl ?_
    refine aA ?_
    refine aC rfl rfl rfl rfl rfl rfl rfl ?_
    refine aA ?_
    refine aC rfl rfl rfl rfl rfl rfl rfl ?_
    refine aA ?_
    refine aC rfl rfl rfl rfl rfl rfl rfl ?_
    refine aA ?_
    refine aC rfl rfl rfl rfl rfl rfl rfl ?_
    refine aA ?_
    refine aB rfl (aI (v := .bool (false)) (b := false) rfl rfl rfl rfl) rfl rfl ?_
    refine aA ?_
    refine aB rfl (aF rfl) rfl rfl ?_
    refine aA ?_
    refine aC rfl rfl rfl rfl rfl rfl rfl ?_
    refine aA ?_
    refine aC rfl rfl rfl rfl rfl rfl rfl ?_
    refine aA ?_
    refine aC rfl rfl rfl rfl rfl rfl rfl ?_
    refine aA ?_
    refine aC rfl rfl rfl rfl rfl rfl rfl ?_
    refine aA ?_
    refine aC rfl rfl rfl rfl rfl rfl rfl ?_
    refine aA ?_
    refine aB rfl (aI (v := .bool (false)) (b := false) rfl rfl rfl rfl) rfl rfl ?_
    refine aA ?_
    refine aB rfl (aF rfl) rfl rfl ?_
    refine aA ?_
    refine aC rfl rfl rfl rfl rfl rfl rfl ?_
    refine aA ?_
    refine aC rfl rfl rfl rfl rfl rfl rfl ?_
    refine aA ?_
    refine aC rfl rfl rfl rfl rfl rfl rfl ?_
    refine aA ?_
    refine aC rfl rfl rfl rfl rfl rfl rfl ?_
    refine aA ?_
    refine aC rfl rfl rfl rfl rfl rfl rfl ?_
    refine aA ?_
    refine aB rfl (aI (v := .bool (false)) (b := false) rfl rfl rfl rfl) rfl rfl ?_
    refine aA ?_
    refine aB rfl (aF rfl) rfl rfl ?_
    refine aA ?_
    refine aC rfl rfl rfl rfl rfl rfl rfl ?_
    refine aA ?_
    refine aC rfl rfl rfl rfl rfl rfl rfl ?_
    refine aA ?_
    refine aC rfl rfl rfl rfl rfl rfl rfl ?_
    refine aA ?_
    refine aC rfl rfl rfl rfl rfl rfl rfl ?_
    refine aA ?_
    refine aC rfl rfl rfl rfl rfl rfl rfl ?_
    refine aA ?_
    refine aB rfl (aI (v := .bool (false)) (b := false) rfl rfl rfl rfl) rfl rfl ?_
    refine aA ?_
    refine aB rfl (aJ rfl) rfl rfl ?_
    refine aH ?_
    refine aG ?_
    refine wp_ret ?_
    have hr113 : aZ x y = false := by simp [aZ, hg10, hg15, hg21]
    refine aQ (.inl rfl) Tryz.results77 rfl ?_
    rw [hr113]
    exact ⟨rfl, H112.1⟩
  ·refine aA ?_
   refine aR rfl rfl rfl rfl (fun _ ho114 => ?_)
   refine aB ho114 (bO hg15 (eH rfl rfl)) rfl rfl ?_
   refine aA ?_
   refine aB rfl (aI (v := .bool (false)) (b := true) rfl rfl rfl rfl) rfl rfl ?_
   refine aA ?_
   refine aB rfl (aF rfl) rfl rfl ?_
   refine aA ?_
   refine aC rfl rfl rfl rfl rfl rfl rfl ?_
   refine aA ?_
   refine aC rfl rfl rfl rfl rfl rfl rfl ?_
   refine aA ?_
   refine aC rfl rfl rfl rfl rfl rfl rfl ?_
   refine aA ?_
   refine aC rfl rfl rfl rfl rfl rfl rfl ?_
   refine aA ?_
   refine aC rfl rfl rfl rfl rfl rfl rfl ?_
   refine aA ?_
   refine aB rfl (aI (v := .bool (false)) (b := false) rfl rfl rfl rfl) rfl rfl ?_
   refine aA ?_
   refine aB rfl (aF rfl) rfl rfl ?_
   refine aA ?_
   refine aC rfl rfl rfl rfl rfl rfl rfl ?_
   refine aA ?_
   refine aC rfl rfl rfl rfl rfl rfl rfl ?_
   refine aA ?_
   refine aC rfl rfl rfl rfl rfl rfl rfl ?_
   refine aA ?_
   refine aC rfl rfl rfl rfl rfl rfl rfl ?_
   refine aA ?_
   refine aC rfl rfl rfl rfl rfl rfl rfl ?_
   refine aA ?_
   refine aB rfl (aI (v := .bool (false)) (b := false) rfl rfl rfl rfl) rfl rfl ?_
   refine aA ?_
   refine aB rfl (aF rfl) rfl rfl ?_
   refine aA ?_
   refine aC rfl rfl rfl rfl rfl rfl rfl ?_
   refine aA ?_
   refine aC rfl rfl rfl rfl rfl rfl rfl ?_
   refine aA ?_
   refine aC rfl rfl rfl rfl rfl rfl rfl ?_
   refine aA ?_
   refine aC rfl rfl rfl rfl rfl rfl rfl ?_
   refine aA ?_
   refine aC rfl rfl rfl rfl rfl rfl rfl ?_
   refine aA ?_
   refine aB rfl (aI (v := .bool (false)) (b := false) rfl rfl rfl rfl) rfl rfl ?_
   refine aA ?_
   refine aB rfl (aF rfl) rfl rfl ?_
   refine aA ?_
   refine aC rfl rfl rfl rfl rfl rfl rfl ?_
   refine aA ?_
   refine aC rfl rfl rfl rfl rfl rfl rfl ?_
   refine aA ?_
   refine aC rfl rfl rfl rfl rfl rfl rfl ?_
   refine aA ?_
   refine aC rfl rfl rfl rfl rfl rfl rfl ?_
   refine aA ?_
   refine aC rfl rfl rfl rfl rfl rfl rfl ?_
   refine aA ?_
   refine aB rfl (aI (v := .bool (false)) (b := false) rfl rfl rfl rfl) rfl rfl ?_
   refine aA ?_
   refine aB rfl (aF rfl) rfl rfl ?_
   refine aA ?_
   refine aC rfl rfl rfl rfl rfl rfl rfl ?_
   refine aA ?_
   refine aC rfl rfl rfl rfl rfl rfl rfl ?_
   refine aA ?_
   refine aC rfl rfl rfl rfl rfl rfl rfl ?_
   refine aA ?_
   refine aC rfl rfl rfl rfl rfl rfl rfl ?_
   refine aA ?_
   refine aC rfl rfl rfl rfl rfl rfl rfl ?_
   refine aA ?_
   refine aB rfl (aI (v := .bool (false)) (b := false) rfl rfl rfl rfl) rfl rfl ?_
   refine aA ?_
   refine aB rfl (aF rfl) rfl rfl ?_
   refine aA ?_
   refine aC rfl rfl rfl rfl rfl rfl rfl ?_
   refine aA ?_
   refine aC rfl rfl rfl rfl rfl rfl rfl ?_
   refine aA ?_
   refine aC rfl rfl rfl rfl rfl rfl rfl ?_
   refine aA ?_
   refine aC rfl rfl rfl rfl rfl rfl rfl ?_
   refine aA ?_
   refine aC rfl rfl rfl rfl rfl rfl rfl ?_
   refine aA ?_
   refine aB rfl (aI (v := .bool (false)) (b := false) rfl rfl rfl rfl) rfl rfl ?_
   refine aA ?_
   refine aB rfl (aF rfl) rfl rfl ?_
   refine aA ?_
   refine aC rfl rfl rfl rfl rfl rfl rfl ?_
   refine aA ?_
   refine aC rfl rfl rfl rfl rfl rfl rfl ?_
   refine aA ?_
   refine aC rfl rfl rfl rfl rfl rfl rfl ?_
   refine aA ?_
   refine aC rfl rfl rfl rfl rfl rfl rfl ?_
   refine aA ?_
   refine aC rfl rfl rfl rfl rfl rfl rfl ?_
   refine aA ?_
   refine aB rfl (aI (v := .bool (false)) (b := false) rfl rfl rfl rfl) rfl rfl ?_
   refine aA ?_
   refine aB rfl (aF rfl) rfl rfl ?_
   refine aA ?_
   refine aC rfl rfl rfl rfl rfl rfl rfl ?_
   refine aA ?_
   refine aC rfl rfl rfl rfl rfl rfl rfl ?_
   refine aA ?_
   refine aC rfl rfl rfl rfl rfl rfl rfl ?_
   refine aA ?_
   refine aC rfl rfl rfl rfl rfl rfl rfl ?_
   refine aA ?_
   refine aC rfl rfl rfl rfl rfl rfl rfl ?_
   refine aA ?_
   refine aB rfl (aI (v := .bool (false)) (b := false) rfl rfl rfl rfl) rfl rfl ?_
   refine aA ?_
   refine aB rfl (aF rfl) rfl rfl ?_
   refine aA ?_
   refine aC rfl rfl rfl rfl rfl rfl rfl ?_
   refine aA ?_
   refine aC rfl rfl rfl rfl rfl rfl rfl ?_
   refine aA ?_
   refine aC rfl rfl rfl rfl rfl rfl rfl ?_
   refine aA ?_
   refine aC rfl rfl rfl rfl rfl rfl rfl ?_
   refine aA ?_
   refine aC rfl rfl rfl rfl rfl rfl rfl ?_
   refine aA ?_
   refine aB rfl (aI (v := .bool (false)) (b := false) rfl rfl rfl rfl) rfl rfl ?_
   refine aA ?_
   refine aB rfl (aJ rfl) rfl rfl ?_
   refine aH ?_
   refine aG ?_
   refine wp_ret ?_
   have hr115 : aZ x y = false := by simp [aZ, hg10, hg15]
   refine aQ (.inl rfl) Tryz.results77 rfl ?_
   rw [hr115]
   exact ⟨rfl, Ha8.1⟩
 ·refine aA ?_
  refine aB rfl (bO hg10 (eH rfl rfl)) rfl rfl ?_
  refine aA ?_
  refine aB rfl (aF rfl) rfl rfl ?_
  refine aA ?_
  refine aC rfl rfl rfl rfl rfl rfl rfl ?_
  refine aA ?_
  refine aC rfl rfl rfl rfl rfl rfl rfl ?_
  refine aA ?_
  refine aC rfl rfl rfl rfl rfl rfl rfl ?_
  refine aA ?_
  refine aC rfl rfl rfl rfl rfl rfl rfl ?_
  refine aA ?_
  refine aC rfl rfl rfl rfl rfl rfl rfl ?_
  refine aA ?_
  refine aB rfl (aI (v := .bool (false)) (b := false) rfl rfl rfl rfl) rfl rfl ?_
  refine aA ?_
  refine aB rfl (aF rfl) rfl rfl ?_
  refine aA ?_
  refine aC rfl rfl rfl rfl rfl rfl rfl ?_
  refine aA ?_
  refine aC rfl rfl rfl rfl rfl rfl rfl ?_
  refine aA ?_
  refine aC rfl rfl rfl rfl rfl rfl rfl ?_
  refine aA ?_
  refine aC rfl rfl rfl rfl rfl rfl rfl ?_
  refine aA ?_
  refine aC rfl rfl rfl rfl rfl rfl rfl ?_
  refine aA ?_
  refine aB rfl (aI (v := .bool (false)) (b := false) rfl rfl rfl rfl) rfl rfl ?_
  refine aA ?_
  refine aB rfl (aF rfl) rfl rfl ?_
  refine aA ?_
  refine aC rfl rfl rfl rfl rfl rfl rfl ?_
  refine aA ?_
  refine aC rfl rfl rfl rfl rfl rfl rfl ?_
  refine aA ?_
  refine aC rfl rfl rfl rfl rfl rfl rfl ?_
  refine aA ?_
  refine aC rfl rfl rfl rfl rfl rfl rfl ?_
  refine aA ?_
  refine aC rfl rfl rfl rfl rfl rfl rfl ?_
  refine aA ?_
  refine aB rfl (aI (v := .bool (false)) (b := false) rfl rfl rfl rfl) rfl rfl ?_
  refine aA ?_
  refine aB rfl (aF rfl) rfl rfl ?_
  refine aA ?_
  refine aC rfl rfl rfl rfl rfl rfl rfl ?_
  refine aA ?_
  refine aC rfl rfl rfl rfl rfl rfl rfl ?_
  refine aA ?_
  refine aC rfl rfl rfl rfl rfl rfl rfl ?_
  refine aA ?_
  refine aC rfl rfl rfl rfl rfl rfl rfl ?_
  refine aA ?_
  refine aC rfl rfl rfl rfl rfl rfl rfl ?_
  refine aA ?_
  refine aB rfl (aI (v := .bool (false)) (b := false) rfl rfl rfl rfl) rfl rfl ?_
  refine aA ?_
  refine aB rfl (aF rfl) rfl rfl ?_
  refine aA ?_
  refine aC rfl rfl rfl rfl rfl rfl rfl ?_
  refine aA ?_
  refine aC rfl rfl rfl rfl rfl rfl rfl ?_
  refine aA ?_
  refine aC rfl rfl rfl rfl rfl rfl rfl ?_
  refine aA ?_
  refine aC rfl rfl rfl rfl rfl rfl rfl ?_
  refine aA ?_
  refine aC rfl rfl rfl rfl rfl rfl rfl ?_
  refine aA ?_
  refine aB rfl (aI (v := .bool (false)) (b := false) rfl rfl rfl rfl) rfl rfl ?_
  refine aA ?_
  refine aB rfl (aF rfl) rfl rfl ?_
  refine aA ?_
  refine aC rfl rfl rfl rfl rfl rfl rfl ?_
  refine aA ?_
  refine aC rfl rfl rfl rfl rfl rfl rfl ?_
  refine aA ?_
  refine aC rfl rfl rfl rfl rfl rfl rfl ?_
  refine aA ?_
  refine aC rfl rfl rfl rfl rfl rfl rfl ?_
  refine aA ?_
  refine aC rfl rfl rfl rfl rfl rfl rfl ?_
  refine aA ?_
  refine aB rfl (aI (v := .bool (false)) (b := false) rfl rfl rfl rfl) rfl rfl ?_
  refine aA ?_
  refine aB rfl (aF rfl) rfl rfl ?_
  refine aA ?_
  refine aC rfl rfl rfl rfl rfl rfl rfl ?_
  refine aA ?_
  refine aC rfl rfl rfl rfl rfl rfl rfl ?_
  refine aA ?_
  refine aC rfl rfl rfl rfl rfl rfl rfl ?_
  refine aA ?_
  refine aC rfl rfl rfl rfl rfl rfl rfl ?_
  refine aA ?_
  refine aC rfl rfl rfl rfl rfl rfl rfl ?_
  refine aA ?_
  refine aB rfl (aI (v := .bool (false)) (b := false) rfl rfl rfl rfl) rfl rfl ?_
  refine aA ?_
  refine aB rfl (aF rfl) rfl rfl ?_
  refine aA ?_
  refine aC rfl rfl rfl rfl rfl rfl rfl ?_
  refine aA ?_
  refine aC rfl rfl rfl rfl rfl rfl rfl ?_
  refine aA ?_
  refine aC rfl rfl rfl rfl rfl rfl rfl ?_
  refine aA ?_
  refine aC rfl rfl rfl rfl rfl rfl rfl ?_
  refine aA ?_
  refine aC rfl rfl rfl rfl rfl rfl rfl ?_
  refine aA ?_
  refine aB rfl (aI (v := .bool (false)) (b := false) rfl rfl rfl rfl) rfl rfl ?_
  refine aA ?_
  refine aB rfl (aF rfl) rfl rfl ?_
  refine aA ?_
  refine aC rfl rfl rfl rfl rfl rfl rfl ?_
  refine aA ?_
  refine aC rfl rfl rfl rfl rfl rfl rfl ?_
  refine aA ?_
  refine aC rfl rfl rfl rfl rfl rfl rfl ?_
  refine aA ?_
  refine aC rfl rfl rfl rfl rfl rfl rfl ?_
  refine aA ?_
  refine aC rfl rfl rfl rfl rfl rfl rfl ?_
  refine aA ?_
  refine aB rfl (aI (v := .bool (false)) (b := false) rfl rfl rfl rfl) rfl rfl ?_
  refine aA ?_
  refine aB rfl (aF rfl) rfl rfl ?_
  refine aA ?_
  refine aC rfl rfl rfl rfl rfl rfl rfl ?_
  refine aA ?_
  refine aC rfl rfl rfl rfl rfl rfl rfl ?_
  refine aA ?_
  refine aC rfl rfl rfl rfl rfl rfl rfl ?_
  refine aA ?_
  refine aC rfl rfl rfl rfl rfl rfl rfl ?_
  refine aA ?_
  refine aC rfl rfl rfl rfl rfl rfl rfl ?_
  refine aA ?_
  refine aB rfl (aI (v := .bool (false)) (b := false) rfl rfl rfl rfl) rfl rfl ?_
  refine aA ?_
  refine aB rfl (aJ rfl) rfl rfl ?_
  refine aH ?_
  refine aG ?_
  refine wp_ret ?_
  have hr116 : aZ x y = false := by simp [aZ, hg10]
  refine aQ (.inl rfl) Tryz.results77 rfl ?_
  rw [hr116]
  exact ⟨rfl, Ha8.1⟩
theorem eqF_Entity (l k : List GEntity) (A A' : Option Addr) (c c' : Nat) (w : World) (h : C dW w A l) (h' : C dW w A' k) : Calls Tryz.prog 76 #[.slice A l.length c, .slice A' k.length c', .func (.func 77) #[] #[]] w (bW (aV aZ l k) w) := by
 have nx := h.1
 refine enter 32 [(0, .slice A l.length c), (1, .slice A' k.length c'), (2, .func (.func 77) #[] #[])] Tryz.func76 rfl kR ?_
 intro xj
 have H1 : St w No [] w := St.enter
 refine wp_seq ?_
 refine aM [0] rfl ?_
 refine aA ?_
 refine aB rfl (aJ rfl) rfl rfl ?_
 refine aH ?_
 refine aG ?_
 refine wp_seq ?_
 refine wp_seq ?_
 refine aM [0, 1, 2, 3, 4] rfl ?_
 refine aA ?_
 refine aB rfl (aF rfl) rfl rfl ?_
 refine aA ?_
 refine aB rfl (bQ Tryz.runUnderlying75 rfl) rfl rfl ?_
 refine aA ?_
 refine aB rfl (aF rfl) rfl rfl ?_
 refine aA ?_
 refine aB rfl (bQ Tryz.runUnderlying75 rfl) rfl rfl ?_
 by_cases hg2 : ¬ ((l.length : Nat) : Int) = (k.length : Nat)
 ·refine aA ?_
  refine aB rfl (bV hg2 (bN rfl rfl)) rfl rfl ?_
  refine aH ?_
  refine aG ?_
  refine bX rfl ?_
  refine wp_seq ?_
  refine aM [0] rfl ?_
  refine aA ?_
  refine aB rfl (aJ rfl) rfl rfl ?_
  refine aH ?_
  refine aG ?_
  refine wp_ret ?_
  refine aU ?_
  have hz3 : ∀ f, aV f l k = false := fun f => eY f l k kO
  have hr4 : aV aZ l k = false := by simp [hz3]
  refine aQ (.inl rfl) Tryz.results76 rfl ?_
  rw [hr4]
  exact ⟨rfl, H1.1⟩
 ·refine aA ?_
  refine aB rfl (bO hg2 (bN rfl rfl)) rfl rfl ?_
  refine aH ?_
  refine aG ?_
  refine dU rfl ?_
  refine wp_skip ?_
  refine aG ?_
  refine wp_seq ?_
  refine wp_seq ?_
  refine aM [0, 1, 2] rfl ?_
  refine aA ?_
  refine aB rfl (aF rfl) rfl rfl ?_
  refine aA ?_
  refine aB rfl (bQ Tryz.runUnderlying75 rfl) rfl rfl ?_
  refine aA ?_
  refine aB rfl (aF rfl) rfl rfl ?_
  refine aH ?_
  refine aG ?_
  refine wp_block ?_
  refine wp_loop_ghost (fun r a' W' => ∃ (i1 : Nat) (x' : Nat → Value), a' = bT 32 x' [(1, .slice A' k.length c'), (2, .func (.func 77) #[] #[]), (15, .slice A l.length c), (16, .int .i64 ((l.length : Nat))), (17, .int .i64 (((i1 : Nat) : Int)))] ∧ (i1 + r = l.length) ∧ (aV aZ l k = aV aZ (l.drop i1) (k.drop i1)) ∧ St w No [] W') l.length ?_ ?_
  ·exact (bA [(1, .slice A' k.length c'), (2, .func (.func 77) #[] #[]), (15, .slice A l.length c), (16, .int .i64 ((l.length : Nat))), (17, .int .i64 (((0 : Nat) : Int)))] rfl).elim fun x' hx => ⟨0, x', hx, kO, rfl, H1⟩
  ·rintro r5 _ W6 ⟨i1, x7, rfl, hi1, hf1, H8⟩; clear H1
   refine wp_seq ?_
   refine aM [0] rfl ?_
   refine aA ?_
   refine aB rfl (gY rfl rfl) rfl rfl ?_
   refine aH ?_
   refine aG ?_
   refine wp_seq ?_
   refine eP rfl (fun hc9 => ?_) (fun hc9 => ?_)
   ·have hlt1 : i1 < l.length := by omega
    have hlu1 : i1 < k.length := by omega
    obtain ⟨ade10, cse10, hAe10, hKe10, hce10⟩ := dO h i1 hlt1
    have hle10 := nG hKe10
    have hoe10 := nH hKe10
    obtain ⟨ade11, cse11, hAe11, hKe11, hce11⟩ := dO h' i1 hlu1
    have hle11 := nG hKe11
    have hoe11 := nH hKe11
    refine wp_skip ?_
    refine aG ?_
    refine wp_seq ?_
    refine wp_block ?_
    refine wp_seq ?_
    refine aM [0, 1, 2, 3, 4, 5] rfl ?_
    refine aA ?_
    refine aB rfl (aF rfl) rfl rfl ?_
    refine aA ?_
    refine aB rfl (aP (k := i1) Tryz.runUnderlying75 Tryz.sizeOf132 rfl rfl hAe10 hlt1) rfl rfl ?_
    refine aA ?_
    refine aB rfl (aY Tryz.isAgg132 Tryz.sizeOf132 rfl (Cat.upd hce10 H8.1) hle10) rfl rfl ?_
    refine aA ?_
    refine gZ rfl Tryz.zeroValue132 rfl rfl H8 ?_
    intro g_5_3 W12 hu13 Ha14; clear H8; clear hu13
    refine aA ?_
    refine aB rfl (aJ rfl) rfl rfl ?_
    refine aA ?_
    refine gN rfl Tryz.sizeOf132 rfl rfl hle10 rfl hoe10 Ha14 ?_
    intro W16 hu17 Ha18; clear Ha14; clear hu17
    refine aH ?_
    refine aG ?_
    refine wp_seq ?_
    refine aM [0, 1, 2, 3, 4, 5] rfl ?_
    refine aA ?_
    refine aB rfl (aF rfl) rfl rfl ?_
    refine aA ?_
    refine aB rfl (aF rfl) rfl rfl ?_
    refine aA ?_
    refine aB rfl (aP (k := i1) Tryz.runUnderlying75 Tryz.sizeOf132 rfl rfl hAe11 hlu1) rfl rfl ?_
    refine aA ?_
    refine aB rfl (aY Tryz.isAgg132 Tryz.sizeOf132 rfl (Cat.upd hce11 Ha18.1) hle11) rfl rfl ?_
    refine aA ?_
    refine gZ rfl Tryz.zeroValue132 rfl rfl Ha18 ?_
    intro g_6_4 W20 hu21 Ha22; clear Ha18; clear hu21
    refine aA ?_
    refine gN rfl Tryz.sizeOf132 rfl rfl hle11 rfl hoe11 Ha22 ?_
    intro W24 hu25 Ha26; clear Ha22; clear hu25
    refine aH ?_
    refine aG ?_
    refine wp_seq ?_
    refine aM [0, 1, 2, 3, 4] rfl ?_
    refine aA ?_
    refine aB rfl (aF rfl) rfl rfl ?_
    refine aA ?_
    refine aB rfl (fH Tryz.isAgg132 Tryz.sizeOf132 rfl (Ha26.blk 1 rfl) hle10) rfl rfl ?_
    refine aA ?_
    refine aB rfl (fH Tryz.isAgg132 Tryz.sizeOf132 rfl (Ha26.blk 0 rfl) hle11) rfl rfl ?_
    by_cases hg28 : aZ (l[i1]) (k[i1]) = true
    ·refine aA ?_
     refine iQ rfl rfl Tryz.call77 (vs := #[.agg (List.toArray cse10), .agg (List.toArray cse11)]) rfl rfl rfl (fK (equalEntities_i (l[i1]) (k[i1]) _ _ _ (fE Ha26.1 hKe10) (fE Ha26.1 hKe11)) hg28) ?_
     rintro e31 W30 ⟨rfl, hu29⟩; refine ⟨_, rfl, ?_⟩
     have H32 := Ha26.no hu29; clear Ha26
     refine aA ?_
     refine aB rfl (gD rfl) rfl rfl ?_
     refine aH ?_
     refine aG ?_
     refine dU rfl ?_
     refine wp_skip ?_
     refine iY ?_
     refine aG ?_
     refine aM [0, 1] rfl ?_
     refine aA ?_
     refine aB rfl (iB (k := i1) rfl rfl kO) rfl rfl ?_
     refine aA ?_
     refine aB rfl (aF rfl) rfl rfl ?_
     refine aH ?_
     refine aG ?_
     exact (bA [(1, .slice A' k.length c'), (2, .func (.func 77) #[] #[]), (15, .slice A l.length c), (16, .int .i64 ((l.length : Nat))), (17, .int .i64 (((i1 + 1 : Nat) : Int)))] rfl).elim fun x' hx => ⟨r5 - 1, kO, i1 + 1, x', hx, kO, (hf1.trans (fC aZ l k i1 hlt1 hlu1 hg28)), H32.pick [] kD rfl⟩
    ·refine aA ?_
     refine iQ rfl rfl Tryz.call77 (vs := #[.agg (List.toArray cse10), .agg (List.toArray cse11)]) rfl rfl rfl (fK (equalEntities_i (l[i1]) (k[i1]) _ _ _ (fE Ha26.1 hKe10) (fE Ha26.1 hKe11)) (eq_false_of_ne_true hg28)) ?_
     rintro e35 W34 ⟨rfl, hu33⟩; refine ⟨_, rfl, ?_⟩
     have H36 := Ha26.no hu33; clear Ha26
     refine aA ?_
     refine aB rfl (gD rfl) rfl rfl ?_
     refine aH ?_
     refine aG ?_
     refine bX rfl ?_
     refine wp_seq ?_
     refine aM [0] rfl ?_
     refine aA ?_
     refine aB rfl (aJ rfl) rfl rfl ?_
     refine aH ?_
     refine aG ?_
     refine wp_ret ?_
     refine dS ?_
     refine aU ?_
     refine aU ?_
     refine dS ?_
     refine aU ?_
     have hz37 : aV aZ l k = false := hf1.trans (eG aZ l k i1 hlt1 hlu1 (eq_false_of_ne_true hg28))
     have hr38 : aV aZ l k = false := by simp [hg28, hz37]
     refine aQ (.inl rfl) Tryz.results76 rfl ?_
     rw [hr38]
     exact ⟨rfl, H36.1⟩
   ·have hd1 : aV aZ l k = true := hf1.trans (fD aZ l k i1 kO kO)
    refine wp_exit ?_
    refine dP ?_
    refine dP ?_
    refine iZ ?_
    refine aG ?_
    refine wp_seq ?_
    refine aM [0] rfl ?_
    refine aA ?_
    refine aB rfl (aJ rfl) rfl rfl ?_
    refine aH ?_
    refine aG ?_
    refine wp_ret ?_
    have hr39 : aV aZ l k = true := by simp [hd1]
    refine aQ (.inl rfl) Tryz.results76 rfl ?_
    rw [hr39]
    exact ⟨rfl, H8.1⟩
theorem equalLinks_i (x y : GLink) (cx cy : List Value) (w : World) (h : gK.K w x cx) (h' : gK.K w y cy) : Calls Tryz.prog 80 #[.agg cx.toArray, .agg cy.toArray] w (bW (cK x y) w) := by
 obtain ⟨Ax2, cx2, Ax4, cx4, Ax6, cx6, rfl, hlx2, hCx2, hlx4, hCx4, hlx6, hCx6⟩ := mV h
 obtain ⟨Ay2, cy2, Ay4, cy4, Ay6, cy6, rfl, hly2, hCy2, hly4, hCy4, hly6, hCy6⟩ := mV h'
 have nx2 := hCx2.1
 have nx4 := hCx4.1
 have nx6 := hCx6.1
 refine enter 52 [(0, .agg #[.int .i64 (x.dZ), .bool (x.Up), .slice Ax2 x.aW.length cx2, .int .i64 (x.Next), .slice Ax4 x.bF.length cx4, .int .i64 (x.iO), .slice Ax6 x.cB.length cx6]), (1, .agg #[.int .i64 (y.dZ), .bool (y.Up), .slice Ay2 y.aW.length cy2, .int .i64 (y.Next), .slice Ay4 y.bF.length cy4, .int .i64 (y.iO), .slice Ay6 y.cB.length cy6])] Tryz.func80 rfl kR ?_
 intro xj
 have H1 : St w No [] w := St.enter
 refine wp_seq ?_
 refine aM [0, 1, 2] rfl ?_
 refine aA ?_
 refine gX rfl rfl rfl rfl H1 ?_
 intro g_0_0 W2 hu3 Ha4; clear H1; clear hu3
 refine aA ?_
 refine gX rfl rfl rfl rfl Ha4 ?_
 intro g_0_1 W6 hu7 Ha8; clear Ha4; clear hu7
 refine aA ?_
 refine aB rfl (aJ rfl) rfl rfl ?_
 refine aH ?_
 refine aG ?_
 refine wp_seq ?_
 refine aM [0, 1, 2, 3, 4, 5, 6, 7, 8, 9, 10, 11, 12, 13, 14, 15, 16, 17, 18, 19, 20, 21, 22, 23, 24, 25, 26, 27, 28, 29, 30, 31, 32, 33, 34, 35, 36, 37, 38, 39, 40, 41, 42, 43, 44, 45, 46, 47] rfl ?_
 refine aA ?_
 refine aB rfl (aL fa_137_0 rfl) rfl rfl ?_
 refine aA ?_
 refine aB rfl (aN (k := 0) (v := .int .i64 (x.dZ)) Tryz.isAgg3 rfl (Ha8.blk 1 rfl) rfl) rfl rfl ?_
 refine aA ?_
 refine aB rfl (aL fa_137_0 rfl) rfl rfl ?_
 refine aA ?_
 refine aB rfl (aN (k := 0) (v := .int .i64 (y.dZ)) Tryz.isAgg3 rfl (Ha8.blk 0 rfl) rfl) rfl rfl ?_
 by_cases hg10 : (x.dZ : Int) = y.dZ
 ·refine aA ?_
  refine aB rfl (bV hg10 (eH rfl rfl)) rfl rfl ?_
  refine aA ?_
  refine aB rfl (aF rfl) rfl rfl ?_
  refine aA ?_
  refine aR rfl rfl rfl rfl (fun _ ho11 => ?_)
  refine aB ho11 (aL fa_137_1 rfl) rfl rfl ?_
  refine aA ?_
  refine aR rfl rfl rfl rfl (fun _ ho12 => ?_)
  refine aB ho12 (aN (k := 1) (v := .bool (x.Up)) Tryz.isAgg4 rfl (Ha8.blk 1 rfl) rfl) rfl rfl ?_
  refine aA ?_
  refine aR rfl rfl rfl rfl (fun _ ho13 => ?_)
  refine aB ho13 (aL fa_137_1 rfl) rfl rfl ?_
  refine aA ?_
  refine aR rfl rfl rfl rfl (fun _ ho14 => ?_)
  refine aB ho14 (aN (k := 1) (v := .bool (y.Up)) Tryz.isAgg4 rfl (Ha8.blk 0 rfl) rfl) rfl rfl ?_
  by_cases hg15 : (x.Up == y.Up) = true
  ·refine aA ?_
   refine aR rfl rfl rfl rfl (fun _ ho16 => ?_)
   refine aB ho16 (cZ (b := x.Up == y.Up) hg15 (rn_eqlB Tryz.underlying4 rfl rfl)) rfl rfl ?_
   refine aA ?_
   refine aB rfl (aI (v := .bool (true)) (b := true) rfl rfl rfl rfl) rfl rfl ?_
   refine aA ?_
   refine aB rfl (aF rfl) rfl rfl ?_
   refine aA ?_
   refine aR rfl rfl rfl rfl (fun _ ho17 => ?_)
   refine aB ho17 (aL mE rfl) rfl rfl ?_
   refine aA ?_
   refine aR rfl rfl rfl rfl (fun _ ho18 => ?_)
   refine aB ho18 (aN (k := 2) (v := .slice Ax2 x.aW.length cx2) Tryz.isAgg134 rfl (Ha8.blk 1 rfl) rfl) rfl rfl ?_
   refine aA ?_
   refine aR rfl rfl rfl rfl (fun _ ho19 => ?_)
   refine aB ho19 (aL mE rfl) rfl rfl ?_
   refine aA ?_
   refine aR rfl rfl rfl rfl (fun _ ho20 => ?_)
   refine aB ho20 (aN (k := 2) (v := .slice Ay2 y.aW.length cy2) Tryz.isAgg134 rfl (Ha8.blk 0 rfl) rfl) rfl rfl ?_
   by_cases hg21 : (aV dV x.aW y.aW) = true
   ·refine aA ?_
    refine aR rfl rfl rfl rfl (fun _ ho22 => ?_)
    refine bP ho22 Tryz.call119 (vs := #[.slice Ax2 x.aW.length cx2, .slice Ay2 y.aW.length cy2]) rfl rfl rfl (fK (eqI_Export x.aW y.aW _ _ _ _ _ (aS Ha8.1 hCx2) (aS Ha8.1 hCy2)) hg21) ?_
    rintro e25 W24 ⟨rfl, hu23⟩; refine ⟨_, rfl, ?_⟩
    have H26 := Ha8.no hu23; clear Ha8
    refine aA ?_
    refine aB rfl (aI (v := .bool (true)) (b := true) rfl rfl rfl rfl) rfl rfl ?_
    refine aA ?_
    refine aB rfl (aF rfl) rfl rfl ?_
    refine aA ?_
    refine aR rfl rfl rfl rfl (fun _ ho27 => ?_)
    refine aB ho27 (aL fa_137_3 rfl) rfl rfl ?_
    refine aA ?_
    refine aR rfl rfl rfl rfl (fun _ ho28 => ?_)
    refine aB ho28 (aN (k := 3) (v := .int .i64 (x.Next)) Tryz.isAgg3 rfl (H26.blk 1 rfl) rfl) rfl rfl ?_
    refine aA ?_
    refine aR rfl rfl rfl rfl (fun _ ho29 => ?_)
    refine aB ho29 (aL fa_137_3 rfl) rfl rfl ?_
    refine aA ?_
    refine aR rfl rfl rfl rfl (fun _ ho30 => ?_)
    refine aB ho30 (aN (k := 3) (v := .int .i64 (y.Next)) Tryz.isAgg3 rfl (H26.blk 0 rfl) rfl) rfl rfl ?_
    by_cases hg31 : (x.Next : Int) = y.Next
    ·refine aA ?_
     refine aR rfl rfl rfl rfl (fun _ ho32 => ?_)
     refine aB ho32 (bV hg31 (eH rfl rfl)) rfl rfl ?_
     refine aA ?_
     refine aB rfl (aI (v := .bool (true)) (b := true) rfl rfl rfl rfl) rfl rfl ?_
     refine aA ?_
     refine aB rfl (aF rfl) rfl rfl ?_
     refine aA ?_
     refine aR rfl rfl rfl rfl (fun _ ho33 => ?_)
     refine aB ho33 (aL fa_137_4 rfl) rfl rfl ?_
     refine aA ?_
     refine aR rfl rfl rfl rfl (fun _ ho34 => ?_)
     refine aB ho34 (aN (k := 4) (v := .slice Ax4 x.bF.length cx4) Tryz.isAgg135 rfl (H26.blk 1 rfl) rfl) rfl rfl ?_
     refine aA ?_
     refine aR rfl rfl rfl rfl (fun _ ho35 => ?_)
     refine aB ho35 (aL fa_137_4 rfl) rfl rfl ?_
     refine aA ?_
     refine aR rfl rfl rfl rfl (fun _ ho36 => ?_)
     refine aB ho36 (aN (k := 4) (v := .slice Ay4 y.bF.length cy4) Tryz.isAgg135 rfl (H26.blk 0 rfl) rfl) rfl rfl ?_
     by_cases hg37 : (aV bY x.bF y.bF) = true
     ·refine aA ?_
      refine aR rfl rfl rfl rfl (fun _ ho38 => ?_)
      refine bP ho38 Tryz.call120 (vs := #[.slice Ax4 x.bF.length cx4, .slice Ay4 y.bF.length cy4]) rfl rfl rfl (fK (oJ x.bF y.bF _ _ _ _ _ (aS H26.1 hCx4) (aS H26.1 hCy4)) hg37) ?_
      rintro e41 W40 ⟨rfl, hu39⟩; refine ⟨_, rfl, ?_⟩
      have H42 := H26.no hu39; clear H26
      refine aA ?_
      refine aB rfl (aI (v := .bool (true)) (b := true) rfl rfl rfl rfl) rfl rfl ?_
      refine aA ?_
      refine aB rfl (aF rfl) rfl rfl ?_
      refine aA ?_
      refine aR rfl rfl rfl rfl (fun _ ho43 => ?_)
      refine aB ho43 (aL fa_137_5 rfl) rfl rfl ?_
      refine aA ?_
      refine aR rfl rfl rfl rfl (fun _ ho44 => ?_)
      refine aB ho44 (aN (k := 5) (v := .int .i64 (x.iO)) Tryz.isAgg3 rfl (H42.blk 1 rfl) rfl) rfl rfl ?_
      refine aA ?_
      refine aR rfl rfl rfl rfl (fun _ ho45 => ?_)
      refine aB ho45 (aL fa_137_5 rfl) rfl rfl ?_
      refine aA ?_
      refine aR rfl rfl rfl rfl (fun _ ho46 => ?_)
      refine aB ho46 (aN (k := 5) (v := .int .i64 (y.iO)) Tryz.isAgg3 rfl (H42.blk 0 rfl) rfl) rfl rfl ?_
      by_cases hg47 : (x.iO : Int) = y.iO
      ·refine aA ?_
       refine aR rfl rfl rfl rfl (fun _ ho48 => ?_)
       refine aB ho48 (bV hg47 (eH rfl rfl)) rfl rfl ?_
       refine aA ?_
       refine aB rfl (aI (v := .bool (true)) (b := true) rfl rfl rfl rfl) rfl rfl ?_
       refine aA ?_
       refine aB rfl (aF rfl) rfl rfl ?_
       refine aA ?_
       refine aR rfl rfl rfl rfl (fun _ ho49 => ?_)
       refine aB ho49 (aL fa_137_6 rfl) rfl rfl ?_
       refine aA ?_
       refine aR rfl rfl rfl rfl (fun _ ho50 => ?_)
       refine aB ho50 (aN (k := 6) (v := .slice Ax6 x.cB.length cx6) Tryz.isAgg135 rfl (H42.blk 1 rfl) rfl) rfl rfl ?_
       refine aA ?_
       refine aR rfl rfl rfl rfl (fun _ ho51 => ?_)
       refine aB ho51 (aL fa_137_6 rfl) rfl rfl ?_
       refine aA ?_
       refine aR rfl rfl rfl rfl (fun _ ho52 => ?_)
       refine aB ho52 (aN (k := 6) (v := .slice Ay6 y.cB.length cy6) Tryz.isAgg135 rfl (H42.blk 0 rfl) rfl) rfl rfl ?_
       by_cases hg53 : (aV bY x.cB y.cB) = true
       ·refine aA ?_
        refine aR rfl rfl rfl rfl (fun _ ho54 => ?_)
        refine bP ho54 Tryz.call120 (vs := #[.slice Ax6 x.cB.length cx6, .slice Ay6 y.cB.length cy6]) rfl rfl rfl (fK (oJ x.cB y.cB _ _ _ _ _ (aS H42.1 hCx6) (aS H42.1 hCy6)) hg53) ?_
        rintro e57 W56 ⟨rfl, hu55⟩; refine ⟨_, rfl, ?_⟩
        have H58 := H42.no hu55; clear H42
        refine aA ?_
        refine aB rfl (aI (v := .bool (true)) (b := true) rfl rfl rfl rfl) rfl rfl ?_
        refine aA ?_
        refine aB rfl (aJ rfl) rfl rfl ?_
        refine aH ?_
        refine aG ?_
        refine wp_ret ?_
        have hr59 : cK x y = true := by simp [cK, hg10, hg15, hg21, hg31, hg37, hg47, hg53]
        refine aQ (.inl rfl) Tryz.results80 rfl ?_
        rw [hr59]
        exact ⟨rfl, H58.1⟩
       ·refine aA ?_
        refine aR rfl rfl rfl rfl (fun _ ho60 => ?_)
        refine bP ho60 Tryz.call120 (vs := #[.slice Ax6 x.cB.length cx6, .slice Ay6 y.cB.length cy6]) rfl rfl rfl (fK (oJ x.cB y.cB _ _ _ _ _ (aS H42.1 hCx6) (aS H42.1 hCy6)) (eq_false_of_ne_true hg53)) ?_
        rintro e63 W62 ⟨rfl, hu61⟩; refine ⟨_, rfl, ?_⟩
        have H64 := H42.no hu61; clear H42
        refine aA ?_
        refine aB rfl (aI (v := .bool (false)) (b := true) rfl rfl rfl rfl) rfl rfl ?_
        refine aA ?_
        refine aB rfl (aJ rfl) rfl rfl ?_
        refine aH ?_
        refine aG ?_
        refine wp_ret ?_
        have hr65 : cK x y = false := by simp [cK, hg10, hg15, hg21, hg31, hg37, hg47, hg53]
        refine aQ (.inl rfl) Tryz.results80 rfl ?_
        rw [hr65]
        exact ⟨rfl, H64.1⟩
      ·refine aA ?_
       refine aR rfl rfl rfl rfl (fun _ ho66 => ?_)
       refine aB ho66 (bO hg47 (eH rfl rfl)) rfl rfl ?_
       refine aA ?_
       refine aB rfl (aI (v := .bool (false)) (b := true) rfl rfl rfl rfl) rfl rfl ?_
       refine aA ?_
       refine aB rfl (aF rfl) rfl rfl ?_
       refine aA ?_
       refine aC rfl rfl rfl rfl rfl rfl rfl ?_
       refine aA ?_
       refine aC rfl rfl rfl rfl rfl rfl rfl ?_
       refine aA ?_
       refine aC rfl rfl rfl rfl rfl rfl rfl ?_
       refine aA ?_
       refine aC rfl rfl rfl rfl rfl rfl rfl ?_
       refine aA ?_
       refine aC rfl rfl rfl rfl rfl rfl rfl ?_
       refine aA ?_
       refine aB rfl (aI (v := .bool (false)) (b := false) rfl rfl rfl rfl) rfl rfl ?_
       refine aA ?_
       refine aB rfl (aJ rfl) rfl rfl ?_
       refine aH ?_
       refine aG ?_
       refine wp_ret ?_
       have hr67 : cK x y = false := by simp [cK, hg10, hg15, hg21, hg31, hg37, hg47]
       refine aQ (.inl rfl) Tryz.results80 rfl ?_
       rw [hr67]
       exact ⟨rfl, H42.1⟩
     ·refine aA ?_
      refine aR rfl rfl rfl rfl (fun _ ho68 => ?_)
      refine bP ho68 Tryz.call120 (vs := #[.slice Ax4 x.bF.length cx4, .slice Ay4 y.bF.length cy4]) rfl rfl rfl (fK (oJ x.bF y.bF _ _ _ _ _ (aS H26.1 hCx4) (aS H26.1 hCy4)) (eq_false_of_ne_true hg37)) ?_
      rintro e71 W70 ⟨rfl, hu69⟩; refine ⟨_, rfl, ?_⟩
      have H72 := H26.no hu69; clear H26
      refine aA ?_
      refine aB rfl (aI (v := .bool (false)) (b := true) rfl rfl rfl rfl) rfl rfl ?_
      refine aA ?_
      refine aB rfl (aF rfl) rfl rfl ?_
      refine aA ?_
      refine aC rfl rfl rfl rfl rfl rfl rfl ?_
      refine aA ?_
      refine aC rfl rfl rfl rfl rfl rfl rfl ?_
      refine aA ?_
      refine aC rfl rfl rfl rfl rfl rfl rfl ?_
      refine aA ?_
      refine aC rfl rfl rfl rfl rfl rfl rfl ?_
      refine aA ?_
      refine aC rfl rfl rfl rfl rfl rfl rfl ?_
      refine aA ?_
      refine aB rfl (aI (v := .bool (false)) (b := false) rfl rfl rfl rfl) rfl rfl ?_
      refine aA ?_
      refine aB rfl (aF rfl) rfl rfl ?_
      refine aA ?_
      refine aC rfl rfl rfl rfl rfl rfl rfl ?_
      refine aA ?_
      refine aC rfl rfl rfl rfl rfl rfl rfl ?_
      refine aA ?_
      refine aC rfl rfl rfl rfl rfl rfl rfl ?_
      refine aA ?_
      refine aC rfl rfl rfl rfl rfl rfl rfl ?_
      refine aA ?_
      refine aC rfl rfl rfl rfl rfl rfl rfl ?_
      refine aA ?_
      refine aB rfl (aI (v := .bool (false)) (b := false) rfl rfl rfl rfl) rfl rfl ?_
      refine aA ?_
      refine aB rfl (aJ rfl) rfl rfl ?_
      refine aH ?_
      refine aG ?_
      refine wp_ret ?_
      have hr73 : cK x y = false := by simp [cK, hg10, hg15, hg21, hg31, hg37]
      refine aQ (.inl rfl) Tryz.results80 rfl ?_
      rw [hr73]
      exact ⟨rfl, H72.1⟩
    ·refine aA ?_
     refine aR rfl rfl rfl rfl (fun _ ho74 => ?_)
     refine aB ho74 (bO hg31 (eH rfl rfl)) rfl rfl ?_
     refine aA ?_
     refine aB rfl (aI (v := .bool (false)) (b := true) rfl rfl rfl rfl) rfl rfl ?_
     refine aA ?_
     refine aB rfl (aF rfl) rfl rfl ?_
     refine aA ?_
     refine aC rfl rfl rfl rfl rfl rfl rfl ?_
     refine aA ?_
     refine aC rfl rfl rfl rfl rfl rfl rfl ?_
     refine aA ?_
     refine aC rfl rfl rfl rfl rfl rfl rfl ?_
     refine aA ?_
     refine aC rfl rfl rfl rfl rfl rfl rfl ?_
     refine aA ?_
     refine aC rfl rfl rfl rfl rfl rfl rfl ?_
     refine aA ?_
     refine aB rfl (aI (v := .bool (false)) (b := false) rfl rfl rfl rfl) rfl rfl ?_
     refine aA ?_
     refine aB rfl (aF rfl) rfl rfl ?_
     refine aA ?_
     refine aC rfl rfl rfl rfl rfl rfl rfl ?_
     refine aA ?_
     refine aC rfl rfl rfl rfl rfl rfl rfl ?_
     refine aA ?_
     refine aC rfl rfl rfl rfl rfl rfl rfl ?_
     refine aA ?_
     refine aC rfl rfl rfl rfl rfl rfl rfl ?_
     refine aA ?_
     refine aC rfl rfl rfl rfl rfl rfl rfl ?_
     refine aA ?_
     refine aB rfl (aI (v := .bool (false)) (b := false) rfl rfl rfl rfl) rfl rfl ?_
     refine aA ?_
     refine aB rfl (aF rfl) rfl rfl ?_
     refine aA ?_
     refine aC rfl rfl rfl rfl rfl rfl rfl ?_
     refine aA ?_
     refine aC rfl rfl rfl rfl rfl rfl rfl ?_
     refine aA ?_
     refine aC rfl rfl rfl rfl rfl rfl rfl ?_
     refine aA ?_
     refine aC rfl rfl rfl rfl rfl rfl rfl ?_
     refine aA ?_
     refine aC rfl rfl rfl rfl rfl rfl rfl ?_
     refine aA ?_
     refine aB rfl (aI (v := .bool (false)) (b := false) rfl rfl rfl rfl) rfl rfl ?_
     refine aA ?_
     refine aB rfl (aJ rfl) rfl rfl ?_
     refine aH ?_
     refine aG ?_
     refine wp_ret ?_
     have hr75 : cK x y = false := by simp [cK, hg10, hg15, hg21, hg31]
     refine aQ (.inl rfl) Tryz.results80 rfl ?_
     rw [hr75]
     exact ⟨rfl, H26.1⟩
   ·refine aA ?_
    refine aR rfl rfl rfl rfl (fun _ ho76 => ?_)
    refine bP ho76 Tryz.call119 (vs := #[.slice Ax2 x.aW.length cx2, .slice Ay2 y.aW.length cy2]) rfl rfl rfl (fK (eqI_Export x.aW y.aW _ _ _ _ _ (aS Ha8.1 hCx2) (aS Ha8.1 hCy2)) (eq_false_of_ne_true hg21)) ?_
    rintro e79 W78 ⟨rfl, hu77⟩; refine ⟨_, rfl, ?_⟩
    have H80 := Ha8.no hu77; clear Ha8
    refine aA ?_
    refine aB rfl (aI (v := .bool (false)) (b := true) rfl rfl rfl rfl) rfl rfl ?_
    refine aA ?_
    refine aB rfl (aF rfl) rfl rfl ?_
    refine aA ?_
    refine aC rfl rfl rfl rfl rfl rfl rfl ?_
    refine aA ?_
    refine aC rfl rfl rfl rfl rfl rfl rfl ?_
    refine aA ?_
    refine aC rfl rfl rfl rfl rfl rfl rfl ?_
    refine aA ?_
    refine aC rfl rfl rfl rfl rfl rfl rfl ?_
    refine aA ?_
    refine aC rfl rfl rfl rfl rfl rfl rfl ?_
    refine aA ?_
    refine aB rfl (aI (v := .bool (false)) (b := false) rfl rfl rfl rfl) rfl rfl ?_
    refine aA ?_
    refine aB rfl (aF rfl) rfl rfl ?_
    refine aA ?_
    refine aC rfl rfl rfl rfl rfl rfl rfl ?_
    refine aA ?_
    refine aC rfl rfl rfl rfl rfl rfl rfl ?_
    refine aA ?_
    refine aC rfl rfl rfl rfl rfl rfl rfl ?_
    refine aA ?_
    refine aC rfl rfl rfl rfl rfl rfl rfl ?_
    refine aA ?_
    refine aC rfl rfl rfl rfl rfl rfl rfl ?_
    refine aA ?_
    refine aB rfl (aI (v := .bool (false)) (b := false) rfl rfl rfl rfl) rfl rfl ?_
    refine aA ?_
    refine aB rfl (aF rfl) rfl rfl ?_
    refine aA ?_
    refine aC rfl rfl rfl rfl rfl rfl rfl ?_
    refine aA ?_
    refine aC rfl rfl rfl rfl rfl rfl rfl ?_
    refine aA ?_
    refine aC rfl rfl rfl rfl rfl rfl rfl ?_
    refine aA ?_
    refine aC rfl rfl rfl rfl rfl rfl rfl ?_
    refine aA ?_
    refine aC rfl rfl rfl rfl rfl rfl rfl ?_
    refine aA ?_
    refine aB rfl (aI (v := .bool (false)) (b := false) rfl rfl rfl rfl) rfl rfl ?_
    refine aA ?_
    refine aB rfl (aF rfl) rfl rfl ?_
    refine aA ?_
    refine aC rfl rfl rfl rfl rfl rfl rfl ?_
    refine aA ?_
    refine aC rfl rfl rfl rfl rfl rfl rfl ?_
    refine aA ?_
    refine aC rfl rfl rfl rfl rfl rfl rfl ?_
    refine aA ?_
    refine aC rfl rfl rfl rfl rfl rfl rfl ?_
    refine aA ?_
    refine aC rfl rfl rfl rfl rfl rfl rfl ?_
    refine aA ?_
    refine aB rfl (aI (v := .bool (false)) (b := false) rfl rfl rfl rfl) rfl rfl ?_
    refine aA ?_
    refine aB rfl (aJ rfl) rfl rfl ?_
    refine aH ?_
    refine aG ?_
    refine wp_ret ?_
    have hr81 : cK x y = false := by simp [cK, hg10, hg15, hg21]
    refine aQ (.inl rfl) Tryz.results80 rfl ?_
    rw [hr81]
    exact ⟨rfl, H80.1⟩
  ·refine aA ?_
   refine aR rfl rfl rfl rfl (fun _ ho82 => ?_)
   refine aB ho82 (cZ (b := x.Up == y.Up) (eq_false_of_ne_true hg15) (rn_eqlB Tryz.underlying4 rfl rfl)) rfl rfl ?_
   refine aA ?_
   refine aB rfl (aI (v := .bool (false)) (b := true) rfl rfl rfl rfl) rfl rfl ?_
   refine aA ?_
   refine aB rfl (aF rfl) rfl rfl ?_
   refine aA ?_
   refine aC rfl rfl rfl rfl rfl rfl rfl ?_
   refine aA ?_
   refine aC rfl rfl rfl rfl rfl rfl rfl ?_
   refine aA ?_
   refine aC rfl rfl rfl rfl rfl rfl rfl ?_
   refine aA ?_
   refine aC rfl rfl rfl rfl rfl rfl rfl ?_
   refine aA ?_
   refine aC rfl rfl rfl rfl rfl rfl rfl ?_
   refine aA ?_
   refine aB rfl (aI (v := .bool (false)) (b := false) rfl rfl rfl rfl) rfl rfl ?_
   refine aA ?_
   refine aB rfl (aF rfl) rfl rfl ?_
   refine aA ?_
   refine aC rfl rfl rfl rfl rfl rfl rfl ?_
   refine aA ?_
   refine aC rfl rfl rfl rfl rfl rfl rfl ?_
   refine aA ?_
   refine aC rfl rfl rfl rfl rfl rfl rfl ?_
   refine aA ?_
   refine aC rfl rfl rfl rfl rfl rfl rfl ?_
   refine aA ?_
   refine aC rfl rfl rfl rfl rfl rfl rfl ?_
   refine aA ?_
   refine aB rfl (aI (v := .bool (false)) (b := false) rfl rfl rfl rfl) rfl rfl ?_
   refine aA ?_
   refine aB rfl (aF rfl) rfl rfl ?_
   refine aA ?_
   refine aC rfl rfl rfl rfl rfl rfl rfl ?_
   refine aA ?_
   refine aC rfl rfl rfl rfl rfl rfl rfl ?_
   refine aA ?_
   refine aC rfl rfl rfl rfl rfl rfl rfl ?_
   refine aA ?_
   refine aC rfl rfl rfl rfl rfl rfl rfl ?_
   refine aA ?_
   refine aC rfl rfl rfl rfl rfl rfl rfl ?_
   refine aA ?_
   refine aB rfl (aI (v := .bool (false)) (b := false) rfl rfl rfl rfl) rfl rfl ?_
   refine aA ?_
   refine aB rfl (aF rfl) rfl rfl ?_
   refine aA ?_
   refine aC rfl rfl rfl rfl rfl rfl rfl ?_
   refine aA ?_
   refine aC rfl rfl rfl rfl rfl rfl rfl ?_
   refine aA ?_
   refine aC rfl rfl rfl rfl rfl rfl rfl ?_
   refine aA ?_
   refine aC rfl rfl rfl rfl rfl rfl rfl ?_
   refine aA ?_
   refine aC rfl rfl rfl rfl rfl rfl rfl ?_
   refine aA ?_
   refine aB rfl (aI (v := .bool (false)) (b := false) rfl rfl rfl rfl) rfl rfl ?_
   refine aA ?_
   refine aB rfl (aF rfl) rfl rfl ?_
   refine aA ?_
   refine aC rfl rfl rfl rfl rfl rfl rfl ?_
   refine aA ?_
   refine aC rfl rfl rfl rfl rfl rfl rfl ?_
   refine aA ?_
   refine aC rfl rfl rfl rfl rfl rfl rfl ?_
   refine aA ?_
   refine aC rfl rfl rfl rfl rfl rfl rfl ?_
   refine aA ?_
   refine aC rfl rfl rfl rfl rfl rfl rfl ?_
   refine aA ?_
   refine aB rfl (aI (v := .bool (false)) (b := false) rfl rfl rfl rfl) rfl rfl ?_
   refine aA ?_
   refine aB rfl (aJ rfl) rfl rfl ?_
   refine aH ?_
   refine aG ?_
   refine wp_ret ?_
   have hr83 : cK x y = false := by simp [cK, hg10, hg15]
   refine aQ (.inl rfl) Tryz.results80 rfl ?_
   rw [hr83]
   exact ⟨rfl, Ha8.1⟩
 ·refine aA ?_
  refine aB rfl (bO hg10 (eH rfl rfl)) rfl rfl ?_
  refine aA ?_
  refine aB rfl (aF rfl) rfl rfl ?_
  refine aA ?_
  refine aC rfl rfl rfl rfl rfl rfl rfl ?_
  refine aA ?_
  refine aC rfl rfl rfl rfl rfl rfl rfl ?_
  refine aA ?_
  refine aC rfl rfl rfl rfl rfl rfl rfl ?_
  refine aA ?_
  refine aC rfl rfl rfl rfl rfl rfl rfl ?_
  refine aA ?_
  refine aC rfl rfl rfl rfl rfl rfl rfl ?_
  refine aA ?_
  refine aB rfl (aI (v := .bool (false)) (b := false) rfl rfl rfl rfl) rfl rfl ?_
  refine aA ?_
  refine aB rfl (aF rfl) rfl rfl ?_
  refine aA ?_
  refine aC rfl rfl rfl rfl rfl rfl rfl ?_
  refine aA ?_
  refine aC rfl rfl rfl rfl rfl rfl rfl ?_
  refine aA ?_
  refine aC rfl rfl rfl rfl rfl rfl rfl ?_
  refine aA ?_
  refine aC rfl rfl rfl rfl rfl rfl rfl ?_
  refine aA ?_
  refine aC rfl rfl rfl rfl rfl rfl rfl ?_
  refine aA ?_
  refine aB rfl (aI (v := .bool (false)) (b := false) rfl rfl rfl rfl) rfl rfl ?_
  refine aA ?_
  refine aB rfl (aF rfl) rfl rfl ?_
  refine aA ?_
  refine aC rfl rfl rfl rfl rfl rfl rfl ?_
  refine aA ?_
  refine aC rfl rfl rfl rfl rfl rfl rfl ?_
  refine aA ?_
  refine aC rfl rfl rfl rfl rfl rfl rfl ?_
  refine aA ?_
  refine aC rfl rfl rfl rfl rfl rfl rfl ?_
  refine aA ?_
  refine aC rfl rfl rfl rfl rfl rfl rfl ?_
  refine aA ?_
  refine aB rfl (aI (v := .bool (false)) (b := false) rfl rfl rfl rfl) rfl rfl ?_
  refine aA ?_
  refine aB rfl (aF rfl) rfl rfl ?_
  refine aA ?_
  refine aC rfl rfl rfl rfl rfl rfl rfl ?_
  refine aA ?_
  refine aC rfl rfl rfl rfl rfl rfl rfl ?_
  refine aA ?_
  refine aC rfl rfl rfl rfl rfl rfl rfl ?_
  refine aA ?_
  refine aC rfl rfl rfl rfl rfl rfl rfl ?_
  refine aA ?_
  refine aC rfl rfl rfl rfl rfl rfl rfl ?_
  refine aA ?_
  refine aB rfl (aI (v := .bool (false)) (b := false) rfl rfl rfl rfl) rfl rfl ?_
  refine aA ?_
  refine aB rfl (aF rfl) rfl rfl ?_
  refine aA ?_
  refine aC rfl rfl rfl rfl rfl rfl rfl ?_
  refine aA ?_
  refine aC rfl rfl rfl rfl rfl rfl rfl ?_
  refine aA ?_
  refine aC rfl rfl rfl rfl rfl rfl rfl ?_
  refine aA ?_
  refine aC rfl rfl rfl rfl rfl rfl rfl ?_
  refine aA ?_
  refine aC rfl rfl rfl rfl rfl rfl rfl ?_
  refine aA ?_
  refine aB rfl (aI (v := .bool (false)) (b := false) rfl rfl rfl rfl) rfl rfl ?_
  refine aA ?_
  refine aB rfl (aF rfl) rfl rfl ?_
  refine aA ?_
  refine aC rfl rfl rfl rfl rfl rfl rfl ?_
  refine aA ?_
  refine aC rfl rfl rfl rfl rfl rfl rfl ?_
  refine aA ?_
  refine aC rfl rfl rfl rfl rfl rfl rfl ?_
  refine aA ?_
  refine aC rfl rfl rfl rfl rfl rfl rfl ?_
  refine aA ?_
  refine aC rfl rfl rfl rfl rfl rfl rfl ?_
  refine aA ?_
  refine aB rfl (aI (v := .bool (false)) (b := false) rfl rfl rfl rfl) rfl rfl ?_
  refine aA ?_
  refine aB rfl (aJ rfl) rfl rfl ?_
  refine aH ?_
  refine aG ?_
  refine wp_ret ?_
  have hr84 : cK x y = false := by simp [cK, hg10]
  refine aQ (.inl rfl) Tryz.results80 rfl ?_
  rw [hr84]
  exact ⟨rfl, Ha8.1⟩
theorem eqF_Link (l k : List GLink) (A A' : Option Addr) (c c' : Nat) (w : World) (h : C gK w A l) (h' : C gK w A' k) : Calls Tryz.prog 79 #[.slice A l.length c, .slice A' k.length c', .func (.func 80) #[] #[]] w (bW (aV cK l k) w) := by
 have nx := h.1
 refine enter 32 [(0, .slice A l.length c), (1, .slice A' k.length c'), (2, .func (.func 80) #[] #[])] Tryz.func79 rfl kR ?_
 intro xj
 have H1 : St w No [] w := St.enter
 refine wp_seq ?_
 refine aM [0] rfl ?_
 refine aA ?_
 refine aB rfl (aJ rfl) rfl rfl ?_
 refine aH ?_
 refine aG ?_
 refine wp_seq ?_
 refine wp_seq ?_
 refine aM [0, 1, 2, 3, 4] rfl ?_
 refine aA ?_
 refine aB rfl (aF rfl) rfl rfl ?_
 refine aA ?_
 refine aB rfl (bQ Tryz.runUnderlying77 rfl) rfl rfl ?_
 refine aA ?_
 refine aB rfl (aF rfl) rfl rfl ?_
 refine aA ?_
 refine aB rfl (bQ Tryz.runUnderlying77 rfl) rfl rfl ?_
 by_cases hg2 : ¬ ((l.length : Nat) : Int) = (k.length : Nat)
 ·refine aA ?_
  refine aB rfl (bV hg2 (bN rfl rfl)) rfl rfl ?_
  refine aH ?_
  refine aG ?_
  refine bX rfl ?_
  refine wp_seq ?_
  refine aM [0] rfl ?_
  refine aA ?_
  refine aB rfl (aJ rfl) rfl rfl ?_
  refine aH ?_
  refine aG ?_
  refine wp_ret ?_
  refine aU ?_
  have hz3 : ∀ f, aV f l k = false := fun f => eY f l k kO
  have hr4 : aV cK l k = false := by simp [hz3]
  refine aQ (.inl rfl) Tryz.results79 rfl ?_
  rw [hr4]
  exact ⟨rfl, H1.1⟩
 ·refine aA ?_
  refine aB rfl (bO hg2 (bN rfl rfl)) rfl rfl ?_
  refine aH ?_
  refine aG ?_
  refine dU rfl ?_
  refine wp_skip ?_
  refine aG ?_
  refine wp_seq ?_
  refine wp_seq ?_
  refine aM [0, 1, 2] rfl ?_
  refine aA ?_
  refine aB rfl (aF rfl) rfl rfl ?_
  refine aA ?_
  refine aB rfl (bQ Tryz.runUnderlying77 rfl) rfl rfl ?_
  refine aA ?_
  refine aB rfl (aF rfl) rfl rfl ?_
  refine aH ?_
  refine aG ?_
  refine wp_block ?_
  refine wp_loop_ghost (fun r a' W' => ∃ (i1 : Nat) (x' : Nat → Value), a' = bT 32 x' [(1, .slice A' k.length c'), (2, .func (.func 80) #[] #[]), (15, .slice A l.length c), (16, .int .i64 ((l.length : Nat))), (17, .int .i64 (((i1 : Nat) : Int)))] ∧ (i1 + r = l.length) ∧ (aV cK l k = aV cK (l.drop i1) (k.drop i1)) ∧ St w No [] W') l.length ?_ ?_
  ·exact (bA [(1, .slice A' k.length c'), (2, .func (.func 80) #[] #[]), (15, .slice A l.length c), (16, .int .i64 ((l.length : Nat))), (17, .int .i64 (((0 : Nat) : Int)))] rfl).elim fun x' hx => ⟨0, x', hx, kO, rfl, H1⟩
  ·rintro r5 _ W6 ⟨i1, x7, rfl, hi1, hf1, H8⟩; clear H1
   refine wp_seq ?_
   refine aM [0] rfl ?_
   refine aA ?_
   refine aB rfl (gY rfl rfl) rfl rfl ?_
   refine aH ?_
   refine aG ?_
   refine wp_seq ?_
   refine eP rfl (fun hc9 => ?_) (fun hc9 => ?_)
   ·have hlt1 : i1 < l.length := by omega
    have hlu1 : i1 < k.length := by omega
    obtain ⟨ade10, cse10, hAe10, hKe10, hce10⟩ := dO h i1 hlt1
    have hle10 := o6 hKe10
    have hoe10 := o7 hKe10
    obtain ⟨ade11, cse11, hAe11, hKe11, hce11⟩ := dO h' i1 hlu1
    have hle11 := o6 hKe11
    have hoe11 := o7 hKe11
    refine wp_skip ?_
    refine aG ?_
    refine wp_seq ?_
    refine wp_block ?_
    refine wp_seq ?_
    refine aM [0, 1, 2, 3, 4, 5] rfl ?_
    refine aA ?_
    refine aB rfl (aF rfl) rfl rfl ?_
    refine aA ?_
    refine aB rfl (aP (k := i1) Tryz.runUnderlying77 Tryz.sizeOf137 rfl rfl hAe10 hlt1) rfl rfl ?_
    refine aA ?_
    refine aB rfl (aY Tryz.isAgg137 Tryz.sizeOf137 rfl (Cat.upd hce10 H8.1) hle10) rfl rfl ?_
    refine aA ?_
    refine gZ rfl Tryz.zeroValue137 rfl rfl H8 ?_
    intro g_5_3 W12 hu13 Ha14; clear H8; clear hu13
    refine aA ?_
    refine aB rfl (aJ rfl) rfl rfl ?_
    refine aA ?_
    refine gN rfl Tryz.sizeOf137 rfl rfl hle10 rfl hoe10 Ha14 ?_
    intro W16 hu17 Ha18; clear Ha14; clear hu17
    refine aH ?_
    refine aG ?_
    refine wp_seq ?_
    refine aM [0, 1, 2, 3, 4, 5] rfl ?_
    refine aA ?_
    refine aB rfl (aF rfl) rfl rfl ?_
    refine aA ?_
    refine aB rfl (aF rfl) rfl rfl ?_
    refine aA ?_
    refine aB rfl (aP (k := i1) Tryz.runUnderlying77 Tryz.sizeOf137 rfl rfl hAe11 hlu1) rfl rfl ?_
    refine aA ?_
    refine aB rfl (aY Tryz.isAgg137 Tryz.sizeOf137 rfl (Cat.upd hce11 Ha18.1) hle11) rfl rfl ?_
    refine aA ?_
    refine gZ rfl Tryz.zeroValue137 rfl rfl Ha18 ?_
    intro g_6_4 W20 hu21 Ha22; clear Ha18; clear hu21
    refine aA ?_
    refine gN rfl Tryz.sizeOf137 rfl rfl hle11 rfl hoe11 Ha22 ?_
    intro W24 hu25 Ha26; clear Ha22; clear hu25
    refine aH ?_
    refine aG ?_
    refine wp_seq ?_
    refine aM [0, 1, 2, 3, 4] rfl ?_
    refine aA ?_
    refine aB rfl (aF rfl) rfl rfl ?_
    refine aA ?_
    refine aB rfl (fH Tryz.isAgg137 Tryz.sizeOf137 rfl (Ha26.blk 1 rfl) hle10) rfl rfl ?_
    refine aA ?_
    refine aB rfl (fH Tryz.isAgg137 Tryz.sizeOf137 rfl (Ha26.blk 0 rfl) hle11) rfl rfl ?_
    by_cases hg28 : cK (l[i1]) (k[i1]) = true
    ·refine aA ?_
     refine iQ rfl rfl Tryz.call80 (vs := #[.agg (List.toArray cse10), .agg (List.toArray cse11)]) rfl rfl rfl (fK (equalLinks_i (l[i1]) (k[i1]) _ _ _ (fE Ha26.1 hKe10) (fE Ha26.1 hKe11)) hg28) ?_
     rintro e31 W30 ⟨rfl, hu29⟩; refine ⟨_, rfl, ?_⟩
     have H32 := Ha26.no hu29; clear Ha26
     refine aA ?_
     refine aB rfl (gD rfl) rfl rfl ?_
     refine aH ?_
     refine aG ?_
     refine dU rfl ?_
     refine wp_skip ?_
     refine iY ?_
     refine aG ?_
     refine aM [0, 1] rfl ?_
     refine aA ?_
     refine aB rfl (iB (k := i1) rfl rfl kO) rfl rfl ?_
     refine aA ?_
     refine aB rfl (aF rfl) rfl rfl ?_
     refine aH ?_
     refine aG ?_
     exact (bA [(1, .slice A' k.length c'), (2, .func (.func 80) #[] #[]), (15, .slice A l.length c), (16, .int .i64 ((l.length : Nat))), (17, .int .i64 (((i1 + 1 : Nat) : Int)))] rfl).elim fun x' hx => ⟨r5 - 1, kO, i1 + 1, x', hx, kO, (hf1.trans (fC cK l k i1 hlt1 hlu1 hg28)), H32.pick [] kD rfl⟩
    ·refine aA ?_
     refine iQ rfl rfl Tryz.call80 (vs := #[.agg (List.toArray cse10), .agg (List.toArray cse11)]) rfl rfl rfl (fK (equalLinks_i (l[i1]) (k[i1]) _ _ _ (fE Ha26.1 hKe10) (fE Ha26.1 hKe11)) (eq_false_of_ne_true hg28)) ?_
     rintro e35 W34 ⟨rfl, hu33⟩; refine ⟨_, rfl, ?_⟩
     have H36 := Ha26.no hu33; clear Ha26
     refine aA ?_
     refine aB rfl (gD rfl) rfl rfl ?_
     refine aH ?_
     refine aG ?_
     refine bX rfl ?_
     refine wp_seq ?_
     refine aM [0] rfl ?_
     refine aA ?_
     refine aB rfl (aJ rfl) rfl rfl ?_
     refine aH ?_
     refine aG ?_
     refine wp_ret ?_
     refine dS ?_
     refine aU ?_
     refine aU ?_
     refine dS ?_
     refine aU ?_
     have hz37 : aV cK l k = false := hf1.trans (eG cK l k i1 hlt1 hlu1 (eq_false_of_ne_true hg28))
     have hr38 : aV cK l k = false := by simp [hg28, hz37]
     refine aQ (.inl rfl) Tryz.results79 rfl ?_
     rw [hr38]
     exact ⟨rfl, H36.1⟩
   ·have hd1 : aV cK l k = true := hf1.trans (fD cK l k i1 kO kO)
    refine wp_exit ?_
    refine dP ?_
    refine dP ?_
    refine iZ ?_
    refine aG ?_
    refine wp_seq ?_
    refine aM [0] rfl ?_
    refine aA ?_
    refine aB rfl (aJ rfl) rfl rfl ?_
    refine aH ?_
    refine aG ?_
    refine wp_ret ?_
    have hr39 : aV cK l k = true := by simp [hd1]
    refine aQ (.inl rfl) Tryz.results79 rfl ?_
    rw [hr39]
    exact ⟨rfl, H8.1⟩
theorem mO (x y : GMessage) (cx cy : List Value) (w : World) (h : dM.K w x cx) (h' : dM.K w y cy) : Calls Tryz.prog 83 #[.agg cx.toArray, .agg cy.toArray] w (bW (aX x y) w) := by
 obtain ⟨Ax5, cx5, rfl, hlx5, hCx5⟩ := jM h
 obtain ⟨Ay5, cy5, rfl, hly5, hCy5⟩ := jM h'
 have nx5 := hCx5.1
 refine enter 66 [(0, .agg #[.int .i64 (x.Kind), .int .i64 (x.Pos), .int .i64 (x.dH), .int .i64 (x.Question), .string (x.Name), .slice Ax5 x.bD.length cx5, .int .i64 (x.Value.Kind), .int .i64 (x.Value.N), .int .i64 (x.Count), .int .i64 (x.Tag.Vat), .int .i64 (x.Tag.Entity), .int .i64 (x.Tag.Seq)]), (1, .agg #[.int .i64 (y.Kind), .int .i64 (y.Pos), .int .i64 (y.dH), .int .i64 (y.Question), .string (y.Name), .slice Ay5 y.bD.length cy5, .int .i64 (y.Value.Kind), .int .i64 (y.Value.N), .int .i64 (y.Count), .int .i64 (y.Tag.Vat), .int .i64 (y.Tag.Entity), .int .i64 (y.Tag.Seq)])] Tryz.func83 rfl kR ?_
 intro xj
 have H1 : St w No [] w := St.enter
 refine wp_seq ?_
 refine aM [0, 1, 2] rfl ?_
 refine aA ?_
 refine gX rfl rfl rfl rfl H1 ?_
 intro g_0_0 W2 hu3 Ha4; clear H1; clear hu3
 refine aA ?_
 refine gX rfl rfl rfl rfl Ha4 ?_
 intro g_0_1 W6 hu7 Ha8; clear Ha4; clear hu7
 refine aA ?_
 refine aB rfl (aJ rfl) rfl rfl ?_
 refine aH ?_
 refine aG ?_
 refine wp_seq ?_
 refine aM [0, 1, 2, 3, 4, 5, 6, 7, 8, 9, 10, 11, 12, 13, 14, 15, 16, 17, 18, 19, 20, 21, 22, 23, 24, 25, 26, 27, 28, 29, 30, 31, 32, 33, 34, 35, 36, 37, 38, 39, 40, 41, 42, 43, 44, 45, 46, 47, 48, 49, 50, 51, 52, 53, 54, 55, 56, 57, 58, 59, 60, 61] rfl ?_
 refine aA ?_
 refine aB rfl (aL fa_141_0 rfl) rfl rfl ?_
 refine aA ?_
 refine aB rfl (aN (k := 0) (v := .int .i64 (x.Kind)) Tryz.isAgg3 rfl (Ha8.blk 1 rfl) rfl) rfl rfl ?_
 refine aA ?_
 refine aB rfl (aL fa_141_0 rfl) rfl rfl ?_
 refine aA ?_
 refine aB rfl (aN (k := 0) (v := .int .i64 (y.Kind)) Tryz.isAgg3 rfl (Ha8.blk 0 rfl) rfl) rfl rfl ?_
 by_cases hg10 : (x.Kind : Int) = y.Kind
 ·refine aA ?_
  refine aB rfl (bV hg10 (eH rfl rfl)) rfl rfl ?_
  refine aA ?_
  refine aB rfl (aF rfl) rfl rfl ?_
  refine aA ?_
  refine aR rfl rfl rfl rfl (fun _ ho11 => ?_)
  refine aB ho11 (aL fa_141_1 rfl) rfl rfl ?_
  refine aA ?_
  refine aR rfl rfl rfl rfl (fun _ ho12 => ?_)
  refine aB ho12 (aN (k := 1) (v := .int .i64 (x.Pos)) Tryz.isAgg3 rfl (Ha8.blk 1 rfl) rfl) rfl rfl ?_
  refine aA ?_
  refine aR rfl rfl rfl rfl (fun _ ho13 => ?_)
  refine aB ho13 (aL fa_141_1 rfl) rfl rfl ?_
  refine aA ?_
  refine aR rfl rfl rfl rfl (fun _ ho14 => ?_)
  refine aB ho14 (aN (k := 1) (v := .int .i64 (y.Pos)) Tryz.isAgg3 rfl (Ha8.blk 0 rfl) rfl) rfl rfl ?_
  by_cases hg15 : (x.Pos : Int) = y.Pos
  ·refine aA ?_
   refine aR rfl rfl rfl rfl (fun _ ho16 => ?_)
   refine aB ho16 (bV hg15 (eH rfl rfl)) rfl rfl ?_
   refine aA ?_
   refine aB rfl (aI (v := .bool (true)) (b := true) rfl rfl rfl rfl) rfl rfl ?_
   refine aA ?_
   refine aB rfl (aF rfl) rfl rfl ?_
   refine aA ?_
   refine aR rfl rfl rfl rfl (fun _ ho17 => ?_)
   refine aB ho17 (aL fa_141_2 rfl) rfl rfl ?_
   refine aA ?_
   refine aR rfl rfl rfl rfl (fun _ ho18 => ?_)
   refine aB ho18 (aN (k := 2) (v := .int .i64 (x.dH)) Tryz.isAgg3 rfl (Ha8.blk 1 rfl) rfl) rfl rfl ?_
   refine aA ?_
   refine aR rfl rfl rfl rfl (fun _ ho19 => ?_)
   refine aB ho19 (aL fa_141_2 rfl) rfl rfl ?_
   refine aA ?_
   refine aR rfl rfl rfl rfl (fun _ ho20 => ?_)
   refine aB ho20 (aN (k := 2) (v := .int .i64 (y.dH)) Tryz.isAgg3 rfl (Ha8.blk 0 rfl) rfl) rfl rfl ?_
   by_cases hg21 : (x.dH : Int) = y.dH
   ·refine aA ?_
    refine aR rfl rfl rfl rfl (fun _ ho22 => ?_)
    refine aB ho22 (bV hg21 (eH rfl rfl)) rfl rfl ?_
    refine aA ?_
    refine aB rfl (aI (v := .bool (true)) (b := true) rfl rfl rfl rfl) rfl rfl ?_
    refine aA ?_
    refine aB rfl (aF rfl) rfl rfl ?_
    refine aA ?_
    refine aR rfl rfl rfl rfl (fun _ ho23 => ?_)
    refine aB ho23 (aL fa_141_3 rfl) rfl rfl ?_
    refine aA ?_
    refine aR rfl rfl rfl rfl (fun _ ho24 => ?_)
    refine aB ho24 (aN (k := 3) (v := .int .i64 (x.Question)) Tryz.isAgg3 rfl (Ha8.blk 1 rfl) rfl) rfl rfl ?_
    refine aA ?_
    refine aR rfl rfl rfl rfl (fun _ ho25 => ?_)
    refine aB ho25 (aL fa_141_3 rfl) rfl rfl ?_
    refine aA ?_
    refine aR rfl rfl rfl rfl (fun _ ho26 => ?_)
    refine aB ho26 (aN (k := 3) (v := .int .i64 (y.Question)) Tryz.isAgg3 rfl (Ha8.blk 0 rfl) rfl) rfl rfl ?_
    by_cases hg27 : (x.Question : Int) = y.Question
    ·refine aA ?_
     refine aR rfl rfl rfl rfl (fun _ ho28 => ?_)
     refine aB ho28 (bV hg27 (eH rfl rfl)) rfl rfl ?_
     refine aA ?_
     refine aB rfl (aI (v := .bool (true)) (b := true) rfl rfl rfl rfl) rfl rfl ?_
     refine aA ?_
     refine aB rfl (aF rfl) rfl rfl ?_
     refine aA ?_
     refine aR rfl rfl rfl rfl (fun _ ho29 => ?_)
     refine aB ho29 (aL fa_141_4 rfl) rfl rfl ?_
     refine aA ?_
     refine aR rfl rfl rfl rfl (fun _ ho30 => ?_)
     refine aB ho30 (aN (k := 4) (v := .string (x.Name)) Tryz.isAgg9 rfl (Ha8.blk 1 rfl) rfl) rfl rfl ?_
     refine aA ?_
     refine aR rfl rfl rfl rfl (fun _ ho31 => ?_)
     refine aB ho31 (aL fa_141_4 rfl) rfl rfl ?_
     refine aA ?_
     refine aR rfl rfl rfl rfl (fun _ ho32 => ?_)
     refine aB ho32 (aN (k := 4) (v := .string (y.Name)) Tryz.isAgg9 rfl (Ha8.blk 0 rfl) rfl) rfl rfl ?_
     by_cases hg33 : (x.Name.toList == y.Name.toList) = true
     ·refine aA ?_
      refine aR rfl rfl rfl rfl (fun _ ho34 => ?_)
      refine aB ho34 (cZ (b := x.Name.toList == y.Name.toList) hg33 (lW rfl rfl)) rfl rfl ?_
      refine aA ?_
      refine aB rfl (aI (v := .bool (true)) (b := true) rfl rfl rfl rfl) rfl rfl ?_
      refine aA ?_
      refine aB rfl (aF rfl) rfl rfl ?_
      refine aA ?_
      refine aR rfl rfl rfl rfl (fun _ ho35 => ?_)
      refine aB ho35 (aL mF rfl) rfl rfl ?_
      refine aA ?_
      refine aR rfl rfl rfl rfl (fun _ ho36 => ?_)
      refine aB ho36 (aN (k := 5) (v := .slice Ax5 x.bD.length cx5) Tryz.isAgg138 rfl (Ha8.blk 1 rfl) rfl) rfl rfl ?_
      refine aA ?_
      refine aR rfl rfl rfl rfl (fun _ ho37 => ?_)
      refine aB ho37 (aL mF rfl) rfl rfl ?_
      refine aA ?_
      refine aR rfl rfl rfl rfl (fun _ ho38 => ?_)
      refine aB ho38 (aN (k := 5) (v := .slice Ay5 y.bD.length cy5) Tryz.isAgg138 rfl (Ha8.blk 0 rfl) rfl) rfl rfl ?_
      by_cases hg39 : (aV eF x.bD y.bD) = true
      ·refine aA ?_
       refine aR rfl rfl rfl rfl (fun _ ho40 => ?_)
       refine bP ho40 Tryz.call121 (vs := #[.slice Ax5 x.bD.length cx5, .slice Ay5 y.bD.length cy5]) rfl rfl rfl (fK (eqI_Wire x.bD y.bD _ _ _ _ _ (aS Ha8.1 hCx5) (aS Ha8.1 hCy5)) hg39) ?_
       rintro e43 W42 ⟨rfl, hu41⟩; refine ⟨_, rfl, ?_⟩
       have H44 := Ha8.no hu41; clear Ha8
       refine aA ?_
       refine aB rfl (aI (v := .bool (true)) (b := true) rfl rfl rfl rfl) rfl rfl ?_
       refine aA ?_
       refine aB rfl (aF rfl) rfl rfl ?_
       refine aA ?_
       refine aR rfl rfl rfl rfl (fun _ ho45 => ?_)
       refine aB ho45 (aL fa_141_6 rfl) rfl rfl ?_
       refine aA ?_
       refine aR rfl rfl rfl rfl (fun _ ho46 => ?_)
       refine aB ho46 (iX (sub := #[.int .i64 (x.Value.Kind), .int .i64 (x.Value.N)]) Tryz.isAgg139 Tryz.sizeOf139 rfl (H44.blk 1 rfl) rfl rfl) rfl rfl ?_
       refine aA ?_
       refine aR rfl rfl rfl rfl (fun _ ho47 => ?_)
       refine aB ho47 (aL fa_141_6 rfl) rfl rfl ?_
       refine aA ?_
       refine aR rfl rfl rfl rfl (fun _ ho48 => ?_)
       refine aB ho48 (iX (sub := #[.int .i64 (y.Value.Kind), .int .i64 (y.Value.N)]) Tryz.isAgg139 Tryz.sizeOf139 rfl (H44.blk 0 rfl) rfl rfl) rfl rfl ?_
       by_cases hg49 : (eF x.Value y.Value) = true
       ·refine aA ?_
        refine aR rfl rfl rfl rfl (fun _ ho50 => ?_)
        refine aB ho50 (cZ (b := eF x.Value y.Value) hg49 (rn_eqlA Tryz.eqGuardType139 rfl rfl (nP x.Value y.Value _ 9998))) rfl rfl ?_
        refine aA ?_
        refine aB rfl (aI (v := .bool (true)) (b := true) rfl rfl rfl rfl) rfl rfl ?_
        refine aA ?_
        refine aB rfl (aF rfl) rfl rfl ?_
        refine aA ?_
        refine aR rfl rfl rfl rfl (fun _ ho51 => ?_)
        refine aB ho51 (aL fa_141_7 rfl) rfl rfl ?_
        refine aA ?_
        refine aR rfl rfl rfl rfl (fun _ ho52 => ?_)
        refine aB ho52 (aN (k := 8) (v := .int .i64 (x.Count)) Tryz.isAgg3 rfl (H44.blk 1 rfl) rfl) rfl rfl ?_
        refine aA ?_
        refine aR rfl rfl rfl rfl (fun _ ho53 => ?_)
        refine aB ho53 (aL fa_141_7 rfl) rfl rfl ?_
        refine aA ?_
        refine aR rfl rfl rfl rfl (fun _ ho54 => ?_)
        refine aB ho54 (aN (k := 8) (v := .int .i64 (y.Count)) Tryz.isAgg3 rfl (H44.blk 0 rfl) rfl) rfl rfl ?_
        by_cases hg55 : (x.Count : Int) = y.Count
        ·refine aA ?_
         refine aR rfl rfl rfl rfl (fun _ ho56 => ?_)
         refine aB ho56 (bV hg55 (eH rfl rfl)) rfl rfl ?_
         refine aA ?_
         refine aB rfl (aI (v := .bool (true)) (b := true) rfl rfl rfl rfl) rfl rfl ?_
         refine aA ?_
         refine aB rfl (aF rfl) rfl rfl ?_
         refine aA ?_
         refine aR rfl rfl rfl rfl (fun _ ho57 => ?_)
         refine aB ho57 (aL fa_141_8 rfl) rfl rfl ?_
         refine aA ?_
         refine aR rfl rfl rfl rfl (fun _ ho58 => ?_)
         refine aB ho58 (iX (sub := #[.int .i64 (x.Tag.Vat), .int .i64 (x.Tag.Entity), .int .i64 (x.Tag.Seq)]) Tryz.isAgg50 Tryz.sizeOf50 rfl (H44.blk 1 rfl) rfl rfl) rfl rfl ?_
         refine aA ?_
         refine aR rfl rfl rfl rfl (fun _ ho59 => ?_)
         refine aB ho59 (aL fa_141_8 rfl) rfl rfl ?_
         refine aA ?_
         refine aR rfl rfl rfl rfl (fun _ ho60 => ?_)
         refine aB ho60 (iX (sub := #[.int .i64 (y.Tag.Vat), .int .i64 (y.Tag.Entity), .int .i64 (y.Tag.Seq)]) Tryz.isAgg50 Tryz.sizeOf50 rfl (H44.blk 0 rfl) rfl rfl) rfl rfl ?_
         by_cases hg61 : (jN x.Tag y.Tag) = true
         ·refine aA ?_
          refine aR rfl rfl rfl rfl (fun _ ho62 => ?_)
          refine aB ho62 (cZ (b := jN x.Tag y.Tag) hg61 (rn_eqlA Tryz.eqGuardType50 rfl rfl (oH x.Tag y.Tag _ 9998))) rfl rfl ?_
          refine aA ?_
          refine aB rfl (aI (v := .bool (true)) (b := true) rfl rfl rfl rfl) rfl rfl ?_
          refine aA ?_
          refine aB rfl (aJ rfl) rfl rfl ?_
          refine aH ?_
          refine aG ?_
          refine wp_ret ?_
          have hr63 : aX x y = true := by simp [aX, hg10, hg15, hg21, hg27, hg33, hg39, hg49, hg55, hg61]
          refine aQ (.inl rfl) Tryz.results83 rfl ?_
          rw [hr63]
          exact ⟨rfl, H44.1⟩
         ·refine aA ?_
          refine aR rfl rfl rfl rfl (fun _ ho64 => ?_)
          refine aB ho64 (cZ (b := jN x.Tag y.Tag) (eq_false_of_ne_true hg61) (rn_eqlA Tryz.eqGuardType50 rfl rfl (oH x.Tag y.Tag _ 9998))) rfl rfl ?_
          refine aA ?_
          refine aB rfl (aI (v := .bool (false)) (b := true) rfl rfl rfl rfl) rfl rfl ?_
          refine aA ?_
          refine aB rfl (aJ rfl) rfl rfl ?_
          refine aH ?_
          refine aG ?_
          refine wp_ret ?_
          have hr65 : aX x y = false := by simp [aX, hg10, hg15, hg21, hg27, hg33, hg39, hg49, hg55, hg61]
          refine aQ (.inl rfl) Tryz.results83 rfl ?_
          rw [hr65]
          exact ⟨rfl, H44.1⟩
        ·refine aA ?_
         refine aR rfl rfl rfl rfl (fun _ ho66 => ?_)
         refine aB ho66 (bO hg55 (eH rfl rfl)) rfl rfl ?_
         refine aA ?_
         refine aB rfl (aI (v := .bool (false)) (b := true) rfl rfl rfl rfl) rfl rfl ?_
         refine aA ?_
         refine aB rfl (aF rfl) rfl rfl ?_
         refine aA ?_
         refine aC rfl rfl rfl rfl rfl rfl rfl ?_
         refine aA ?_
         refine aC rfl rfl rfl rfl rfl rfl rfl ?_
         refine aA ?_
         refine aC rfl rfl rfl rfl rfl rfl rfl ?_
         refine aA ?_
         refine aC rfl rfl rfl rfl rfl rfl rfl ?_
         refine aA ?_
         refine aC rfl rfl rfl rfl rfl rfl rfl ?_
         refine aA ?_
         refine aB rfl (aI (v := .bool (false)) (b := false) rfl rfl rfl rfl) rfl rfl ?_
         refine aA ?_
         refine aB rfl (aJ rfl) rfl rfl ?_
         refine aH ?_
         refine aG ?_
         refine wp_ret ?_
         have hr67 : aX x y = false := by simp [aX, hg10, hg15, hg21, hg27, hg33, hg39, hg49, hg55]
         refine aQ (.inl rfl) Tryz.results83 rfl ?_
         rw [hr67]
         exact ⟨rfl, H44.1⟩
       ·refine aA ?_
        refine aR rfl rfl rfl rfl (fun _ ho68 => ?_)
        refine aB ho68 (cZ (b := eF x.Value y.Value) (eq_false_of_ne_true hg49) (rn_eqlA Tryz.eqGuardType139 rfl rfl (nP x.Value y.Value _ 9998))) rfl rfl ?_
        refine aA ?_
        refine aB rfl (aI (v := .bool (false)) (b := true) rfl rfl rfl rfl) rfl rfl ?_
        refine aA ?_
        refine aB rfl (aF rfl) rfl rfl ?_
        refine aA ?_
        refine aC rfl rfl rfl rfl rfl rfl rfl ?_
        refine aA ?_
        refine aC rfl rfl rfl rfl rfl rfl rfl ?_
        refine aA ?_
        refine aC rfl rfl rfl rfl rfl rfl rfl ?_
        refine aA ?_
        refine aC rfl rfl rfl rfl rfl rfl rfl ?_
        refine aA ?_
        refine aC rfl rfl rfl rfl rfl rfl rfl ?_
        refine aA ?_
        refine aB rfl (aI (v := .bool (false)) (b := false) rfl rfl rfl rfl) rfl rfl ?_
        refine aA ?_
        refine aB rfl (aF rfl) rfl rfl ?_
        refine aA ?_
        refine aC rfl rfl rfl rfl rfl rfl rfl ?_
        refine aA ?_
        refine aC rfl rfl rfl rfl rfl rfl rfl ?_
        refine aA ?_
        refine aC rfl rfl rfl rfl rfl rfl rfl ?_
        refine aA ?_
        refine aC rfl rfl rfl rfl rfl rfl rfl ?_
        refine aA ?_
        refine aC rfl rfl rfl rfl rfl rfl rfl ?_
        refine aA ?_
        refine aB rfl (aI (v := .bool (false)) (b := false) rfl rfl rfl rfl) rfl rfl ?_
        refine aA ?_
        refine aB rfl (aJ rfl) rfl rfl ?_
        refine aH ?_
        refine aG ?_
        refine wp_ret ?_
        have hr69 : aX x y = false := by simp [aX, hg10, hg15, hg21, hg27, hg33, hg39, hg49]
        refine aQ (.inl rfl) Tryz.results83 rfl ?_
        rw [hr69]
        exact ⟨rfl, H44.1⟩
      ·refine aA ?_
       refine aR rfl rfl rfl rfl (fun _ ho70 => ?_)
       refine bP ho70 Tryz.call121 (vs := #[.slice Ax5 x.bD.length cx5, .slice Ay5 y.bD.length cy5]) rfl rfl rfl (fK (eqI_Wire x.bD y.bD _ _ _ _ _ (aS Ha8.1 hCx5) (aS Ha8.1 hCy5)) (eq_false_of_ne_true hg39)) ?_
       rintro e73 W72 ⟨rfl, hu71⟩; refine ⟨_, rfl, ?_⟩
       have H74 := Ha8.no hu71; clear Ha8
       refine aA ?_
       refine aB rfl (aI (v := .bool (false)) (b := true) rfl rfl rfl rfl) rfl rfl ?_
       refine aA ?_
       refine aB rfl (aF rfl) rfl rfl ?_
       refine aA ?_
       refine aC rfl rfl rfl rfl rfl rfl rfl ?_
       refine aA ?_
       refine aC rfl rfl rfl rfl rfl rfl rfl ?_
       refine aA ?_
       refine aC rfl rfl rfl rfl rfl rfl rfl ?_
       refine aA ?_
       refine aC rfl rfl rfl rfl rfl rfl rfl ?_
       refine aA ?_
       refine aC rfl rfl rfl rfl rfl rfl rfl ?_
       refine aA ?_
       refine aB rfl (aI (v := .bool (false)) (b := false) rfl rfl rfl rfl) rfl rfl ?_
       refine aA ?_
       refine aB rfl (aF rfl) rfl rfl ?_
       refine aA ?_
       refine aC rfl rfl rfl rfl rfl rfl rfl ?_
       refine aA ?_
       refine aC rfl rfl rfl rfl rfl rfl rfl ?_
       refine aA ?_
       refine aC rfl rfl rfl rfl rfl rfl rfl ?_
       refine aA ?_
       refine aC rfl rfl rfl rfl rfl rfl rfl ?_
       refine aA ?_
       refine aC rfl rfl rfl rfl rfl rfl rfl ?_
       refine aA ?_
       refine aB rfl (aI (v := .bool (false)) (b := false) rfl rfl rfl rfl) rfl rfl ?_
       refine aA ?_
       refine aB rfl (aF rfl) rfl rfl ?_
       refine aA ?_
       refine aC rfl rfl rfl rfl rfl rfl rfl ?_
       refine aA ?_
       refine aC rfl rfl rfl rfl rfl rfl rfl ?_
       refine aA ?_
       refine aC rfl rfl rfl rfl rfl rfl rfl ?_
       refine aA ?_
       refine aC rfl rfl rfl rfl rfl rfl rfl ?_
       refine aA ?_
       refine aC rfl rfl rfl rfl rfl rfl rfl ?_
       refine aA ?_
       refine aB rfl (aI (v := .bool (false)) (b := false) rfl rfl rfl rfl) rfl rfl ?_
       refine aA ?_
       refine aB rfl (aJ rfl) rfl rfl ?_
       refine aH ?_
       refine aG ?_
       refine wp_ret ?_
       have hr75 : aX x y = false := by simp [aX, hg10, hg15, hg21, hg27, hg33, hg39]
       refine aQ (.inl rfl) Tryz.results83 rfl ?_
       rw [hr75]
       exact ⟨rfl, H74.1⟩
     ·refine aA ?_
      refine aR rfl rfl rfl rfl (fun _ ho76 => ?_)
      refine aB ho76 (cZ (b := x.Name.toList == y.Name.toList) (eq_false_of_ne_true hg33) (lW rfl rfl)) rfl rfl ?_
      refine aA ?_
      refine aB rfl (aI (v := .bool (false)) (b := true) rfl rfl rfl rfl) rfl rfl ?_
      refine aA ?_
      refine aB rfl (aF rfl) rfl rfl ?_
      refine aA ?_
      refine aC rfl rfl rfl rfl rfl rfl rfl ?_
      refine aA ?_
      refine aC rfl rfl rfl rfl rfl rfl rfl ?_
      refine aA ?_
      refine aC rfl rfl rfl rfl rfl rfl rfl ?_
      refine aA ?_
      refine aC rfl rfl rfl rfl rfl rfl rfl ?_
      refine aA ?_
      refine aC rfl rfl rfl rfl rfl rfl rfl ?_
      refine aA ?_
      refine aB rfl (aI (v := .bool (false)) (b := false) rfl rfl rfl rfl) rfl rfl ?_
      refine aA ?_
      refine aB rfl (aF rfl) rfl rfl ?_
      refine aA ?_
      refine aC rfl rfl rfl rfl rfl rfl rfl ?_
      refine aA ?_
      refine aC rfl rfl rfl rfl rfl rfl rfl ?_
      refine aA ?_
      refine aC rfl rfl rfl rfl rfl rfl rfl ?_
      refine aA ?_
      refine aC rfl rfl rfl rfl rfl rfl rfl ?_
      refine aA ?_
      refine aC rfl rfl rfl rfl rfl rfl rfl ?_
      refine aA ?_
      refine aB rfl (aI (v := .bool (false)) (b := false) rfl rfl rfl rfl) rfl rfl ?_
      refine aA ?_
      refine aB rfl (aF rfl) rfl rfl ?_
      refine aA ?_
      refine aC rfl rfl rfl rfl rfl rfl rfl ?_
      refine aA ?_
      refine aC rfl rfl rfl rfl rfl rfl rfl ?_
      refine aA ?_
      refine aC rfl rfl rfl rfl rfl rfl rfl ?_
      refine aA ?_
      refine aC rfl rfl rfl rfl rfl rfl rfl ?_
      refine aA ?_
      refine aC rfl rfl rfl rfl rfl rfl rfl ?_
      refine aA ?_
      refine aB rfl (aI (v := .bool (false)) (b := false) rfl rfl rfl rfl) rfl rfl ?_
      refine aA ?_
      refine aB rfl (aF rfl) rfl rfl ?_
      refine aA ?_
      refine aC rfl rfl rfl rfl rfl rfl rfl ?_
      refine aA ?_
      refine aC rfl rfl rfl rfl rfl rfl rfl ?_
      refine aA ?_
      refine aC rfl rfl rfl rfl rfl rfl rfl ?_
      refine aA ?_
      refine aC rfl rfl rfl rfl rfl rfl rfl ?_
      refine aA ?_
      refine aC rfl rfl rfl rfl rfl rfl rfl ?_
      refine aA ?_
      refine aB rfl (aI (v := .bool (false)) (b := false) rfl rfl rfl rfl) rfl rfl ?_
      refine aA ?_
      refine aB rfl (aJ rfl) rfl rfl ?_
      refine aH ?_
      refine aG ?_
      refine wp_ret ?_
      have hr77 : aX x y = false := by simp [aX, hg10, hg15, hg21, hg27, hg33]
      refine aQ (.inl rfl) Tryz.results83 rfl ?_
      rw [hr77]
      exact ⟨rfl, Ha8.1⟩
    ·refine aA ?_
     refine aR rfl rfl rfl rfl (fun _ ho78 => ?_)
     refine aB ho78 (bO hg27 (eH rfl rfl)) rfl rfl ?_
     refine aA ?_
     refine aB rfl (aI (v := .bool (false)) (b := true) rfl rfl rfl rfl) rfl rfl ?_
     refine aA ?_
     refine aB rfl (aF rfl) rfl rfl ?_
     refine aA ?_
     refine aC rfl rfl rfl rfl rfl rfl rfl ?_
     refine aA ?_
     refine aC rfl rfl rfl rfl rfl rfl rfl ?_
     refine aA ?_
     refine aC rfl rfl rfl rfl rfl rfl rfl ?_
     refine aA ?_
     refine aC rfl rfl rfl rfl rfl rfl rfl ?_
     refine aA ?_
     refine aC rfl rfl rfl rfl rfl rfl rfl ?_
     refine aA ?_
     refine aB rfl (aI (v := .bool (false)) (b := false) rfl rfl rfl rfl) rfl rfl ?_
     refine aA ?_
     refine aB rfl (aF rfl) rfl rfl ?_
     refine aA ?_
     refine aC rfl rfl rfl rfl rfl rfl rfl ?_
     refine aA ?_
     refine aC rfl rfl rfl rfl rfl rfl rfl ?_
     refine aA ?_
     refine aC rfl rfl rfl rfl rfl rfl rfl ?_
     refine aA ?_
     refine aC rfl rfl rfl rfl rfl rfl rfl ?_
     refine aA ?_
     refine aC rfl rfl rfl rfl rfl rfl rfl ?_
     refine aA ?_
     refine aB rfl (aI (v := .bool (false)) (b := false) rfl rfl rfl rfl) rfl rfl ?_
     refine aA ?_
     refine aB rfl (aF rfl) rfl rfl ?_
     refine aA ?_
     refine aC rfl rfl rfl rfl rfl rfl rfl ?_
     refine aA ?_
     refine aC rfl rfl rfl rfl rfl rfl rfl ?_
     refine aA ?_
     refine aC rfl rfl rfl rfl rfl rfl rfl ?_
     refine aA ?_
     refine aC rfl rfl rfl rfl rfl rfl rfl ?_
     refine aA ?_
     refine aC rfl rfl rfl rfl rfl rfl rfl ?_
     refine aA ?_
     refine aB rfl (aI (v := .bool (false)) (b := false) rfl rfl rfl rfl) rfl rfl ?_
     refine aA ?_
     refine aB rfl (aF rfl) rfl rfl ?_
     refine aA ?_
     refine aC rfl rfl rfl rfl rfl rfl rfl ?_
     refine aA ?_
     refine aC rfl rfl rfl rfl rfl rfl rfl ?_
     refine aA ?_
     refine aC rfl rfl rfl rfl rfl rfl rfl ?_
     refine aA ?_
     refine aC rfl rfl rfl rfl rfl rfl rfl ?_
     refine aA ?_
     refine aC rfl rfl rfl rfl rfl rfl rfl ?_
     refine aA ?_
     refine aB rfl (aI (v := .bool (false)) (b := false) rfl rfl rfl rfl) rfl rfl ?_
     refine aA ?_
     refine aB rfl (aF rfl) rfl rfl ?_
     refine aA ?_
     refine aC rfl rfl rfl rfl rfl rfl rfl ?_
     refine aA ?_
     refine aC rfl rfl rfl rfl rfl rfl rfl ?_
     refine aA ?_
     refine aC rfl rfl rfl rfl rfl rfl rfl ?_
     refine aA ?_
     refine aC rfl rfl rfl rfl rfl rfl rfl ?_
     refine aA ?_
     refine aC rfl rfl rfl rfl rfl rfl rfl ?_
     refine aA ?_
     refine aB rfl (aI (v := .bool (false)) (b := false) rfl rfl rfl rfl) rfl rfl ?_
     refine aA ?_
     refine aB rfl (aJ rfl) rfl rfl ?_
     refine aH ?_
     refine aG ?_
     refine wp_ret ?_
     have hr79 : aX x y = false := by simp [aX, hg10, hg15, hg21, hg27]
     refine aQ (.inl rfl) Tryz.results83 rfl ?_
     rw [hr79]
     exact ⟨rfl, Ha8.1⟩
   ·refine aA ?_
    refine aR rfl rfl rfl rfl (fun _ ho80 => ?_)
    refine aB ho80 (bO hg21 (eH rfl rfl)) rfl rfl ?_
    refine aA ?_
    refine aB rfl (aI (v := .bool (false)) (b := true) rfl rfl rfl rfl) rfl rfl ?_
    refine aA ?_
    refine aB rfl (aF rfl) rfl rfl ?_
    refine aA ?_
    refine aC rfl rfl rfl rfl rfl rfl rfl ?_
    refine aA ?_
    refine aC rfl rfl rfl rfl rfl rfl rfl ?_
    refine aA ?_
    refine aC rfl rfl rfl rfl rfl rfl rfl ?_
    refine aA ?_
    refine aC rfl rfl rfl rfl rfl rfl rfl ?_
    refine aA ?_
    refine aC rfl rfl rfl rfl rfl rfl rfl ?_
    refine aA ?_
    refine aB rfl (aI (v := .bool (false)) (b := false) rfl rfl rfl rfl) rfl rfl ?_
    refine aA ?_
    refine aB rfl (aF rfl) rfl rfl ?_
    refine aA ?_
    refine aC rfl rfl rfl rfl rfl rfl rfl ?_
    refine aA ?_
    refine aC rfl rfl rfl rfl rfl rfl rfl ?_
    refine aA ?_
    refine aC rfl rfl rfl rfl rfl rfl rfl ?_
    refine aA ?_
    refine aC rfl rfl rfl rfl rfl rfl rfl ?_
    refine aA ?_
    refine aC rfl rfl rfl rfl rfl rfl rfl ?_
    refine aA ?_
    refine aB rfl (aI (v := .bool (false)) (b := false) rfl rfl rfl rfl) rfl rfl ?_
    refine aA ?_
    refine aB rfl (aF rfl) rfl rfl ?_
    refine aA ?_
    refine aC rfl rfl rfl rfl rfl rfl rfl ?_
    refine aA ?_
    refine aC rfl rfl rfl rfl rfl rfl rfl ?_
    refine aA ?_
    refine aC rfl rfl rfl rfl rfl rfl rfl ?_
    refine aA ?_
    refine aC rfl rfl rfl rfl rfl rfl rfl ?_
    refine aA ?_
    refine aC rfl rfl rfl rfl rfl rfl rfl ?_
    refine aA ?_
    refine aB rfl (aI (v := .bool (false)) (b := false) rfl rfl rfl rfl) rfl rfl ?_
    refine aA ?_
    refine aB rfl (aF rfl) rfl rfl ?_
    refine aA ?_
    refine aC rfl rfl rfl rfl rfl rfl rfl ?_
    refine aA ?_
    refine aC rfl rfl rfl rfl rfl rfl rfl ?_
    refine aA ?_
    refine aC rfl rfl rfl rfl rfl rfl rfl ?_
    refine aA ?_
    refine aC rfl rfl rfl rfl rfl rfl rfl ?_
    refine aA ?_
    refine aC rfl rfl rfl rfl rfl rfl rfl ?_
    refine aA ?_
    refine aB rfl (aI (v := .bool (false)) (b := false) rfl rfl rfl rfl) rfl rfl ?_
    refine aA ?_
    refine aB rfl (aF rfl) rfl rfl ?_
    refine aA ?_
    refine aC rfl rfl rfl rfl rfl rfl rfl ?_
    refine aA ?_
    refine aC rfl rfl rfl rfl rfl rfl rfl ?_
    refine aA ?_
    refine aC rfl rfl rfl rfl rfl rfl rfl ?_
    refine aA ?_
    refine aC rfl rfl rfl rfl rfl rfl rfl ?_
    refine aA ?_
    refine aC rfl rfl rfl rfl rfl rfl rfl ?_
    refine aA ?_
    refine aB rfl (aI (v := .bool (false)) (b := false) rfl rfl rfl rfl) rfl rfl ?_
    refine aA ?_
    refine aB rfl (aF rfl) rfl rfl ?_
    refine aA ?_
    refine aC rfl rfl rfl rfl rfl rfl rfl ?_
    refine aA ?_
    refine aC rfl rfl rfl rfl rfl rfl rfl ?_
    refine aA ?_
    refine aC rfl rfl rfl rfl rfl rfl rfl ?_
    refine aA ?_
    refine aC rfl rfl rfl rfl rfl rfl rfl ?_
    refine aA ?_
    refine aC rfl rfl rfl rfl rfl rfl rfl ?_
    refine aA ?_
    refine aB rfl (aI (v := .bool (false)) (b := false) rfl rfl rfl rfl) rfl rfl ?_
    refine aA ?_
    refine aB rfl (aJ rfl) rfl rfl ?_
    refine aH ?_
    refine aG ?_
    refine wp_ret ?_
    have hr81 : aX x y = false := by simp [aX, hg10, hg15, hg21]
    refine aQ (.inl rfl) Tryz.results83 rfl ?_
    rw [hr81]
    exact ⟨rfl, Ha8.1⟩
  ·refine aA ?_
   refine aR rfl rfl rfl rfl (fun _ ho82 => ?_)
   refine aB ho82 (bO hg15 (eH rfl rfl)) rfl rfl ?_
   refine aA ?_
   refine aB rfl (aI (v := .bool (false)) (b := true) rfl rfl rfl rfl) rfl rfl ?_
   refine aA ?_
   refine aB rfl (aF rfl) rfl rfl ?_
   refine aA ?_
   refine aC rfl rfl rfl rfl rfl rfl rfl ?_
   refine aA ?_
   refine aC rfl rfl rfl rfl rfl rfl rfl ?_
   refine aA ?_
   refine aC rfl rfl rfl rfl rfl rfl rfl ?_
   refine aA ?_
   refine aC rfl rfl rfl rfl rfl rfl rfl ?_
   refine aA ?_
   refine aC rfl rfl rfl rfl rfl rfl rfl ?_
   refine aA ?_
   refine aB rfl (aI (v := .bool (false)) (b := false) rfl rfl rfl rfl) rfl rfl ?_
   refine aA ?_
   refine aB rfl (aF rfl) rfl rfl ?_
   refine aA ?_
   refine aC rfl rfl rfl rfl rfl rfl rfl ?_
   refine aA ?_
   refine aC rfl rfl rfl rfl rfl rfl rfl ?_
   refine aA ?_
   refine aC rfl rfl rfl rfl rfl rfl rfl ?_
   refine aA ?_
   refine aC rfl rfl rfl rfl rfl rfl rfl ?_
   refine aA ?_
   refine aC rfl rfl rfl rfl rfl rfl rfl ?_
   refine aA ?_
   refine aB rfl (aI (v := .bool (false)) (b := false) rfl rfl rfl rfl) rfl rfl ?_
   refine aA ?_
   refine aB rfl (aF rfl) rfl rfl ?_
   refine aA ?_
   refine aC rfl rfl rfl rfl rfl rfl rfl ?_
   refine aA ?_
   refine aC rfl rfl rfl rfl rfl rfl rfl ?_
   refine aA ?_
   refine aC rfl rfl rfl rfl rfl rfl rfl ?_
   refine aA ?_
   refine aC rfl rfl rfl rfl rfl rfl rfl ?_
   refine aA ?_
   refine aC rfl rfl rfl rfl rfl rfl rfl ?_
   refine aA ?_
   refine aB rfl (aI (v := .bool (false)) (b := false) rfl rfl rfl rfl) rfl rfl ?_
   refine aA ?_
   refine aB rfl (aF rfl) rfl rfl ?_
   refine aA ?_
   refine aC rfl rfl rfl rfl rfl rfl rfl ?_
   refine aA ?_
   refine aC rfl rfl rfl rfl rfl rfl rfl ?_
   refine aA ?_
   refine aC rfl rfl rfl rfl rfl rfl rfl ?_
   refine aA ?_
   refine aC rfl rfl rfl rfl rfl rfl rfl ?_
   refine aA ?_
   refine aC rfl rfl rfl rfl rfl rfl rfl ?_
   refine aA ?_
   refine aB rfl (aI (v := .bool (false)) (b := false) rfl rfl rfl rfl) rfl rfl ?_
   refine aA ?_
   refine aB rfl (aF rfl) rfl rfl ?_
   refine aA ?_
   refine aC rfl rfl rfl rfl rfl rfl rfl ?_
   refine aA ?_
   refine aC rfl rfl rfl rfl rfl rfl rfl ?_
   refine aA ?_
   refine aC rfl rfl rfl rfl rfl rfl rfl ?_
   refine aA ?_
   refine aC rfl rfl rfl rfl rfl rfl rfl ?_
   refine aA ?_
   refine aC rfl rfl rfl rfl rfl rfl rfl ?_
   refine aA ?_
   refine aB rfl (aI (v := .bool (false)) (b := false) rfl rfl rfl rfl) rfl rfl ?_
   refine aA ?_
   refine aB rfl (aF rfl) rfl rfl ?_
   refine aA ?_
   refine aC rfl rfl rfl rfl rfl rfl rfl ?_
   refine aA ?_
   refine aC rfl rfl rfl rfl rfl rfl rfl ?_
   refine aA ?_
   refine aC rfl rfl rfl rfl rfl rfl rfl ?_
   refine aA ?_
   refine aC rfl rfl rfl rfl rfl rfl rfl ?_
   refine aA ?_
   refine aC rfl rfl rfl rfl rfl rfl rfl ?_
   refine aA ?_
   refine aB rfl (aI (v := .bool (false)) (b := false) rfl rfl rfl rfl) rfl rfl ?_
   refine aA ?_
   refine aB rfl (aF rfl) rfl rfl ?_
   refine aA ?_
   refine aC rfl rfl rfl rfl rfl rfl rfl ?_
   refine aA ?_
   refine aC rfl rfl rfl rfl rfl rfl rfl ?_
   refine aA ?_
   refine aC rfl rfl rfl rfl rfl rfl rfl ?_
   refine aA ?_
   refine aC rfl rfl rfl rfl rfl rfl rfl ?_
   refine aA ?_
   refine aC rfl rfl rfl rfl rfl rfl rfl ?_
   refine aA ?_
   refine aB rfl (aI (v := .bool (false)) (b := false) rfl rfl rfl rfl) rfl rfl ?_
   refine aA ?_
   refine aB rfl (aJ rfl) rfl rfl ?_
   refine aH ?_
   refine aG ?_
   refine wp_ret ?_
   have hr83 : aX x y = false := by simp [aX, hg10, hg15]
   refine aQ (.inl rfl) Tryz.results83 rfl ?_
   rw [hr83]
   exact ⟨rfl, Ha8.1⟩
 ·refine aA ?_
  refine aB rfl (bO hg10 (eH rfl rfl)) rfl rfl ?_
  refine aA ?_
  refine aB rfl (aF rfl) rfl rfl ?_
  refine aA ?_
  refine aC rfl rfl rfl rfl rfl rfl rfl ?_
  refine aA ?_
  refine aC rfl rfl rfl rfl rfl rfl rfl ?_
  refine aA ?_
  refine aC rfl rfl rfl rfl rfl rfl rfl ?_
  refine aA ?_
  refine aC rfl rfl rfl rfl rfl rfl rfl ?_
  refine aA ?_
  refine aC rfl rfl rfl rfl rfl rfl rfl ?_
  refine aA ?_
  refine aB rfl (aI (v := .bool (false)) (b := false) rfl rfl rfl rfl) rfl rfl ?_
  refine aA ?_
  refine aB rfl (aF rfl) rfl rfl ?_
  refine aA ?_
  refine aC rfl rfl rfl rfl rfl rfl rfl ?_
  refine aA ?_
  refine aC rfl rfl rfl rfl rfl rfl rfl ?_
  refine aA ?_
  refine aC rfl rfl rfl rfl rfl rfl rfl ?_
  refine aA ?_
  refine aC rfl rfl rfl rfl rfl rfl rfl ?_
  refine aA ?_
  refine aC rfl rfl rfl rfl rfl rfl rfl ?_
  refine aA ?_
  refine aB rfl (aI (v := .bool (false)) (b := false) rfl rfl rfl rfl) rfl rfl ?_
  refine aA ?_
  refine aB rfl (aF rfl) rfl rfl ?_
  refine aA ?_
  refine aC rfl rfl rfl rfl rfl rfl rfl ?_
  refine aA ?_
  refine aC rfl rfl rfl rfl rfl rfl rfl ?_
  refine aA ?_
  refine aC rfl rfl rfl rfl rfl rfl rfl ?_
  refine aA ?_
  refine aC rfl rfl rfl rfl rfl rfl rfl ?_
  refine aA ?_
  refine aC rfl rfl rfl rfl rfl rfl rfl ?_
  refine aA ?_
  refine aB rfl (aI (v := .bool (false)) (b := false) rfl rfl rfl rfl) rfl rfl ?_
  refine aA ?_
  refine aB rfl (aF rfl) rfl rfl ?_
  refine aA ?_
  refine aC rfl rfl rfl rfl rfl rfl rfl ?_
  refine aA ?_
  refine aC rfl rfl rfl rfl rfl rfl rfl ?_
  refine aA ?_
  refine aC rfl rfl rfl rfl rfl rfl rfl ?_
  refine aA ?_
  refine aC rfl rfl rfl rfl rfl rfl rfl ?_
  refine aA ?_
  refine aC rfl rfl rfl rfl rfl rfl rfl ?_
  refine aA ?_
  refine aB rfl (aI (v := .bool (false)) (b := false) rfl rfl rfl rfl) rfl rfl ?_
  refine aA ?_
  refine aB rfl (aF rfl) rfl rfl ?_
  refine aA ?_
  refine aC rfl rfl rfl rfl rfl rfl rfl ?_
  refine aA ?_
  refine aC rfl rfl rfl rfl rfl rfl rfl ?_
  refine aA ?_
  refine aC rfl rfl rfl rfl rfl rfl rfl ?_
  refine aA ?_
  refine aC rfl rfl rfl rfl rfl rfl rfl ?_
  refine aA ?_
  refine aC rfl rfl rfl rfl rfl rfl rfl ?_
  refine aA ?_
  refine aB rfl (aI (v := .bool (false)) (b := false) rfl rfl rfl rfl) rfl rfl ?_
  refine aA ?_
  refine aB rfl (aF rfl) rfl rfl ?_
  refine aA ?_
  refine aC rfl rfl rfl rfl rfl rfl rfl ?_
  refine aA ?_
  refine aC rfl rfl rfl rfl rfl rfl rfl ?_
  refine aA ?_
  refine aC rfl rfl rfl rfl rfl rfl rfl ?_
  refine aA ?_
  refine aC rfl rfl rfl rfl rfl rfl rfl ?_
  refine aA ?_
  refine aC rfl rfl rfl rfl rfl rfl rfl ?_
  refine aA ?_
  refine aB rfl (aI (v := .bool (false)) (b := false) rfl rfl rfl rfl) rfl rfl ?_
  refine aA ?_
  refine aB rfl (aF rfl) rfl rfl ?_
  refine aA ?_
  refine aC rfl rfl rfl rfl rfl rfl rfl ?_
  refine aA ?_
  refine aC rfl rfl rfl rfl rfl rfl rfl ?_
  refine aA ?_
  refine aC rfl rfl rfl rfl rfl rfl rfl ?_
  refine aA ?_
  refine aC rfl rfl rfl rfl rfl rfl rfl ?_
  refine aA ?_
  refine aC rfl rfl rfl rfl rfl rfl rfl ?_
  refine aA ?_
  refine aB rfl (aI (v := .bool (false)) (b := false) rfl rfl rfl rfl) rfl rfl ?_
  refine aA ?_
  refine aB rfl (aF rfl) rfl rfl ?_
  refine aA ?_
  refine aC rfl rfl rfl rfl rfl rfl rfl ?_
  refine aA ?_
  refine aC rfl rfl rfl rfl rfl rfl rfl ?_
  refine aA ?_
  refine aC rfl rfl rfl rfl rfl rfl rfl ?_
  refine aA ?_
  refine aC rfl rfl rfl rfl rfl rfl rfl ?_
  refine aA ?_
  refine aC rfl rfl rfl rfl rfl rfl rfl ?_
  refine aA ?_
  refine aB rfl (aI (v := .bool (false)) (b := false) rfl rfl rfl rfl) rfl rfl ?_
  refine aA ?_
  refine aB rfl (aJ rfl) rfl rfl ?_
  refine aH ?_
  refine aG ?_
  refine wp_ret ?_
  have hr84 : aX x y = false := by simp [aX, hg10]
  refine aQ (.inl rfl) Tryz.results83 rfl ?_
  rw [hr84]
  exact ⟨rfl, Ha8.1⟩
theorem eqF_Message (l k : List GMessage) (A A' : Option Addr) (c c' : Nat) (w : World) (h : C dM w A l) (h' : C dM w A' k) : Calls Tryz.prog 86 #[.slice A l.length c, .slice A' k.length c', .func (.func 83) #[] #[]] w (bW (aV aX l k) w) := by
 have nx := h.1
 refine enter 32 [(0, .slice A l.length c), (1, .slice A' k.length c'), (2, .func (.func 83) #[] #[])] Tryz.func86 rfl kR ?_
 intro xj
 have H1 : St w No [] w := St.enter
 refine wp_seq ?_
 refine aM [0] rfl ?_
 refine aA ?_
 refine aB rfl (aJ rfl) rfl rfl ?_
 refine aH ?_
 refine aG ?_
 refine wp_seq ?_
 refine wp_seq ?_
 refine aM [0, 1, 2, 3, 4] rfl ?_
 refine aA ?_
 refine aB rfl (aF rfl) rfl rfl ?_
 refine aA ?_
 refine aB rfl (bQ Tryz.runUnderlying100 rfl) rfl rfl ?_
 refine aA ?_
 refine aB rfl (aF rfl) rfl rfl ?_
 refine aA ?_
 refine aB rfl (bQ Tryz.runUnderlying100 rfl) rfl rfl ?_
 by_cases hg2 : ¬ ((l.length : Nat) : Int) = (k.length : Nat)
 ·refine aA ?_
  refine aB rfl (bV hg2 (bN rfl rfl)) rfl rfl ?_
  refine aH ?_
  refine aG ?_
  refine bX rfl ?_
  refine wp_seq ?_
  refine aM [0] rfl ?_
  refine aA ?_
  refine aB rfl (aJ rfl) rfl rfl ?_
  refine aH ?_
  refine aG ?_
  refine wp_ret ?_
  refine aU ?_
  have hz3 : ∀ f, aV f l k = false := fun f => eY f l k kO
  have hr4 : aV aX l k = false := by simp [hz3]
  refine aQ (.inl rfl) Tryz.results86 rfl ?_
  rw [hr4]
  exact ⟨rfl, H1.1⟩
 ·refine aA ?_
  refine aB rfl (bO hg2 (bN rfl rfl)) rfl rfl ?_
  refine aH ?_
  refine aG ?_
  refine dU rfl ?_
  refine wp_skip ?_
  refine aG ?_
  refine wp_seq ?_
  refine wp_seq ?_
  refine aM [0, 1, 2] rfl ?_
  refine aA ?_
  refine aB rfl (aF rfl) rfl rfl ?_
  refine aA ?_
  refine aB rfl (bQ Tryz.runUnderlying100 rfl) rfl rfl ?_
  refine aA ?_
  refine aB rfl (aF rfl) rfl rfl ?_
  refine aH ?_
  refine aG ?_
  refine wp_block ?_
  refine wp_loop_ghost (fun r a' W' => ∃ (i1 : Nat) (x' : Nat → Value), a' = bT 32 x' [(1, .slice A' k.length c'), (2, .func (.func 83) #[] #[]), (15, .slice A l.length c), (16, .int .i64 ((l.length : Nat))), (17, .int .i64 (((i1 : Nat) : Int)))] ∧ (i1 + r = l.length) ∧ (aV aX l k = aV aX (l.drop i1) (k.drop i1)) ∧ St w No [] W') l.length ?_ ?_
  ·exact (bA [(1, .slice A' k.length c'), (2, .func (.func 83) #[] #[]), (15, .slice A l.length c), (16, .int .i64 ((l.length : Nat))), (17, .int .i64 (((0 : Nat) : Int)))] rfl).elim fun x' hx => ⟨0, x', hx, kO, rfl, H1⟩
  ·rintro r5 _ W6 ⟨i1, x7, rfl, hi1, hf1, H8⟩; clear H1
   refine wp_seq ?_
   refine aM [0] rfl ?_
   refine aA ?_
   refine aB rfl (gY rfl rfl) rfl rfl ?_
   refine aH ?_
   refine aG ?_
   refine wp_seq ?_
   refine eP rfl (fun hc9 => ?_) (fun hc9 => ?_)
   ·have hlt1 : i1 < l.length := by omega
    have hlu1 : i1 < k.length := by omega
    obtain ⟨ade10, cse10, hAe10, hKe10, hce10⟩ := dO h i1 hlt1
    have hle10 := mH hKe10
    have hoe10 := mI hKe10
    obtain ⟨ade11, cse11, hAe11, hKe11, hce11⟩ := dO h' i1 hlu1
    have hle11 := mH hKe11
    have hoe11 := mI hKe11
    refine wp_skip ?_
    refine aG ?_
    refine wp_seq ?_
    refine wp_block ?_
    refine wp_seq ?_
    refine aM [0, 1, 2, 3, 4, 5] rfl ?_
    refine aA ?_
    refine aB rfl (aF rfl) rfl rfl ?_
    refine aA ?_
    refine aB rfl (aP (k := i1) Tryz.runUnderlying100 Tryz.sizeOf141 rfl rfl hAe10 hlt1) rfl rfl ?_
    refine aA ?_
    refine aB rfl (aY Tryz.isAgg141 Tryz.sizeOf141 rfl (Cat.upd hce10 H8.1) hle10) rfl rfl ?_
    refine aA ?_
    refine gZ rfl Tryz.zeroValue141 rfl rfl H8 ?_
    intro g_5_3 W12 hu13 Ha14; clear H8; clear hu13
    refine aA ?_
    refine aB rfl (aJ rfl) rfl rfl ?_
    refine aA ?_
    refine gN rfl Tryz.sizeOf141 rfl rfl hle10 rfl hoe10 Ha14 ?_
    intro W16 hu17 Ha18; clear Ha14; clear hu17
    refine aH ?_
    refine aG ?_
    refine wp_seq ?_
    refine aM [0, 1, 2, 3, 4, 5] rfl ?_
    refine aA ?_
    refine aB rfl (aF rfl) rfl rfl ?_
    refine aA ?_
    refine aB rfl (aF rfl) rfl rfl ?_
    refine aA ?_
    refine aB rfl (aP (k := i1) Tryz.runUnderlying100 Tryz.sizeOf141 rfl rfl hAe11 hlu1) rfl rfl ?_
    refine aA ?_
    refine aB rfl (aY Tryz.isAgg141 Tryz.sizeOf141 rfl (Cat.upd hce11 Ha18.1) hle11) rfl rfl ?_
    refine aA ?_
    refine gZ rfl Tryz.zeroValue141 rfl rfl Ha18 ?_
    intro g_6_4 W20 hu21 Ha22; clear Ha18; clear hu21
    refine aA ?_
    refine gN rfl Tryz.sizeOf141 rfl rfl hle11 rfl hoe11 Ha22 ?_
    intro W24 hu25 Ha26; clear Ha22; clear hu25
    refine aH ?_
    refine aG ?_
    refine wp_seq ?_
    refine aM [0, 1, 2, 3, 4] rfl ?_
    refine aA ?_
    refine aB rfl (aF rfl) rfl rfl ?_
    refine aA ?_
    refine aB rfl (fH Tryz.isAgg141 Tryz.sizeOf141 rfl (Ha26.blk 1 rfl) hle10) rfl rfl ?_
    refine aA ?_
    refine aB rfl (fH Tryz.isAgg141 Tryz.sizeOf141 rfl (Ha26.blk 0 rfl) hle11) rfl rfl ?_
    by_cases hg28 : aX (l[i1]) (k[i1]) = true
    ·refine aA ?_
     refine iQ rfl rfl Tryz.call83 (vs := #[.agg (List.toArray cse10), .agg (List.toArray cse11)]) rfl rfl rfl (fK (mO (l[i1]) (k[i1]) _ _ _ (fE Ha26.1 hKe10) (fE Ha26.1 hKe11)) hg28) ?_
     rintro e31 W30 ⟨rfl, hu29⟩; refine ⟨_, rfl, ?_⟩
     have H32 := Ha26.no hu29; clear Ha26
     refine aA ?_
     refine aB rfl (gD rfl) rfl rfl ?_
     refine aH ?_
     refine aG ?_
     refine dU rfl ?_
     refine wp_skip ?_
     refine iY ?_
     refine aG ?_
     refine aM [0, 1] rfl ?_
     refine aA ?_
     refine aB rfl (iB (k := i1) rfl rfl kO) rfl rfl ?_
     refine aA ?_
     refine aB rfl (aF rfl) rfl rfl ?_
     refine aH ?_
     refine aG ?_
     exact (bA [(1, .slice A' k.length c'), (2, .func (.func 83) #[] #[]), (15, .slice A l.length c), (16, .int .i64 ((l.length : Nat))), (17, .int .i64 (((i1 + 1 : Nat) : Int)))] rfl).elim fun x' hx => ⟨r5 - 1, kO, i1 + 1, x', hx, kO, (hf1.trans (fC aX l k i1 hlt1 hlu1 hg28)), H32.pick [] kD rfl⟩
    ·refine aA ?_
     refine iQ rfl rfl Tryz.call83 (vs := #[.agg (List.toArray cse10), .agg (List.toArray cse11)]) rfl rfl rfl (fK (mO (l[i1]) (k[i1]) _ _ _ (fE Ha26.1 hKe10) (fE Ha26.1 hKe11)) (eq_false_of_ne_true hg28)) ?_
     rintro e35 W34 ⟨rfl, hu33⟩; refine ⟨_, rfl, ?_⟩
     have H36 := Ha26.no hu33; clear Ha26
     refine aA ?_
     refine aB rfl (gD rfl) rfl rfl ?_
     refine aH ?_
     refine aG ?_
     refine bX rfl ?_
     refine wp_seq ?_
     refine aM [0] rfl ?_
     refine aA ?_
     refine aB rfl (aJ rfl) rfl rfl ?_
     refine aH ?_
     refine aG ?_
     refine wp_ret ?_
     refine dS ?_
     refine aU ?_
     refine aU ?_
     refine dS ?_
     refine aU ?_
     have hz37 : aV aX l k = false := hf1.trans (eG aX l k i1 hlt1 hlu1 (eq_false_of_ne_true hg28))
     have hr38 : aV aX l k = false := by simp [hg28, hz37]
     refine aQ (.inl rfl) Tryz.results86 rfl ?_
     rw [hr38]
     exact ⟨rfl, H36.1⟩
   ·have hd1 : aV aX l k = true := hf1.trans (fD aX l k i1 kO kO)
    refine wp_exit ?_
    refine dP ?_
    refine dP ?_
    refine iZ ?_
    refine aG ?_
    refine wp_seq ?_
    refine aM [0] rfl ?_
    refine aA ?_
    refine aB rfl (aJ rfl) rfl rfl ?_
    refine aH ?_
    refine aG ?_
    refine wp_ret ?_
    have hr39 : aV aX l k = true := by simp [hd1]
    refine aQ (.inl rfl) Tryz.results86 rfl ?_
    rw [hr39]
    exact ⟨rfl, H8.1⟩
theorem eqc_Outgoing (x y : GOutgoing) (cx cy : List Value) (w : World) (h : dL.K w x cx) (h' : dL.K w y cy) : Calls Tryz.prog 82 #[.agg cx.toArray, .agg cy.toArray] w (bW (dA x y) w) := by
 obtain ⟨Ax6, cx6, rfl, hlx6, hCx6⟩ := jO h
 obtain ⟨Ay6, cy6, rfl, hly6, hCy6⟩ := jO h'
 have nx6 := hCx6.1
 refine enter 17 [(0, .agg #[.int .i64 (x.To), .int .i64 (x.Message.Kind), .int .i64 (x.Message.Pos), .int .i64 (x.Message.dH), .int .i64 (x.Message.Question), .string (x.Message.Name), .slice Ax6 x.Message.bD.length cx6, .int .i64 (x.Message.Value.Kind), .int .i64 (x.Message.Value.N), .int .i64 (x.Message.Count), .int .i64 (x.Message.Tag.Vat), .int .i64 (x.Message.Tag.Entity), .int .i64 (x.Message.Tag.Seq)]), (1, .agg #[.int .i64 (y.To), .int .i64 (y.Message.Kind), .int .i64 (y.Message.Pos), .int .i64 (y.Message.dH), .int .i64 (y.Message.Question), .string (y.Message.Name), .slice Ay6 y.Message.bD.length cy6, .int .i64 (y.Message.Value.Kind), .int .i64 (y.Message.Value.N), .int .i64 (y.Message.Count), .int .i64 (y.Message.Tag.Vat), .int .i64 (y.Message.Tag.Entity), .int .i64 (y.Message.Tag.Seq)])] Tryz.func82 rfl kR ?_
 intro xj
 have H1 : St w No [] w := St.enter
 refine wp_seq ?_
 refine aM [0, 1, 2] rfl ?_
 refine aA ?_
 refine gX rfl rfl rfl rfl H1 ?_
 intro g_0_0 W2 hu3 Ha4; clear H1; clear hu3
 refine aA ?_
 refine gX rfl rfl rfl rfl Ha4 ?_
 intro g_0_1 W6 hu7 Ha8; clear Ha4; clear hu7
 refine aA ?_
 refine aB rfl (aJ rfl) rfl rfl ?_
 refine aH ?_
 refine aG ?_
 refine wp_seq ?_
 refine aM [0, 1, 2, 3, 4, 5, 6, 7, 8, 9, 10, 11, 12] rfl ?_
 refine aA ?_
 refine aB rfl (aL nL rfl) rfl rfl ?_
 refine aA ?_
 refine aB rfl (aN (k := 0) (v := .int .i64 (x.To)) Tryz.isAgg3 rfl (Ha8.blk 1 rfl) rfl) rfl rfl ?_
 refine aA ?_
 refine aB rfl (aL nL rfl) rfl rfl ?_
 refine aA ?_
 refine aB rfl (aN (k := 0) (v := .int .i64 (y.To)) Tryz.isAgg3 rfl (Ha8.blk 0 rfl) rfl) rfl rfl ?_
 by_cases hg10 : (x.To : Int) = y.To
 ·refine aA ?_
  refine aB rfl (bV hg10 (eH rfl rfl)) rfl rfl ?_
  refine aA ?_
  refine aB rfl (aF rfl) rfl rfl ?_
  refine aA ?_
  refine aR rfl rfl rfl rfl (fun _ ho11 => ?_)
  refine aB ho11 (aL fa_143_1 rfl) rfl rfl ?_
  refine aA ?_
  refine aR rfl rfl rfl rfl (fun _ ho12 => ?_)
  refine aB ho12 (iX (sub := #[.int .i64 (x.Message.Kind), .int .i64 (x.Message.Pos), .int .i64 (x.Message.dH), .int .i64 (x.Message.Question), .string (x.Message.Name), .slice Ax6 x.Message.bD.length cx6, .int .i64 (x.Message.Value.Kind), .int .i64 (x.Message.Value.N), .int .i64 (x.Message.Count), .int .i64 (x.Message.Tag.Vat), .int .i64 (x.Message.Tag.Entity), .int .i64 (x.Message.Tag.Seq)]) Tryz.isAgg141 Tryz.sizeOf141 rfl (Ha8.blk 1 rfl) rfl rfl) rfl rfl ?_
  refine aA ?_
  refine aR rfl rfl rfl rfl (fun _ ho13 => ?_)
  refine aB ho13 (aL fa_143_1 rfl) rfl rfl ?_
  refine aA ?_
  refine aR rfl rfl rfl rfl (fun _ ho14 => ?_)
  refine aB ho14 (iX (sub := #[.int .i64 (y.Message.Kind), .int .i64 (y.Message.Pos), .int .i64 (y.Message.dH), .int .i64 (y.Message.Question), .string (y.Message.Name), .slice Ay6 y.Message.bD.length cy6, .int .i64 (y.Message.Value.Kind), .int .i64 (y.Message.Value.N), .int .i64 (y.Message.Count), .int .i64 (y.Message.Tag.Vat), .int .i64 (y.Message.Tag.Entity), .int .i64 (y.Message.Tag.Seq)]) Tryz.isAgg141 Tryz.sizeOf141 rfl (Ha8.blk 0 rfl) rfl rfl) rfl rfl ?_
  by_cases hg15 : (aX x.Message y.Message) = true
  ·refine aA ?_
   refine aR rfl rfl rfl rfl (fun _ ho16 => ?_)
   refine bP ho16 Tryz.call83 (vs := #[.agg #[.int .i64 (x.Message.Kind), .int .i64 (x.Message.Pos), .int .i64 (x.Message.dH), .int .i64 (x.Message.Question), .string (x.Message.Name), .slice Ax6 x.Message.bD.length cx6, .int .i64 (x.Message.Value.Kind), .int .i64 (x.Message.Value.N), .int .i64 (x.Message.Count), .int .i64 (x.Message.Tag.Vat), .int .i64 (x.Message.Tag.Entity), .int .i64 (x.Message.Tag.Seq)], .agg #[.int .i64 (y.Message.Kind), .int .i64 (y.Message.Pos), .int .i64 (y.Message.dH), .int .i64 (y.Message.Question), .string (y.Message.Name), .slice Ay6 y.Message.bD.length cy6, .int .i64 (y.Message.Value.Kind), .int .i64 (y.Message.Value.N), .int .i64 (y.Message.Count), .int .i64 (y.Message.Tag.Vat), .int .i64 (y.Message.Tag.Entity), .int .i64 (y.Message.Tag.Seq)]]) rfl rfl rfl (fK (mO x.Message y.Message _ _ _ (gJ _ x.Message hlx6 (aS Ha8.1 hCx6)) (gJ _ y.Message hly6 (aS Ha8.1 hCy6))) hg15) ?_
   rintro e19 W18 ⟨rfl, hu17⟩; refine ⟨_, rfl, ?_⟩
   have H20 := Ha8.no hu17; clear Ha8
   refine aA ?_
   refine aB rfl (aI (v := .bool (true)) (b := true) rfl rfl rfl rfl) rfl rfl ?_
   refine aA ?_
   refine aB rfl (aJ rfl) rfl rfl ?_
   refine aH ?_
   refine aG ?_
   refine wp_ret ?_
   have hr21 : dA x y = true := by simp [dA, hg10, hg15]
   refine aQ (.inl rfl) Tryz.results82 rfl ?_
   rw [hr21]
   exact ⟨rfl, H20.1⟩
  ·refine aA ?_
   refine aR rfl rfl rfl rfl (fun _ ho22 => ?_)
   refine bP ho22 Tryz.call83 (vs := #[.agg #[.int .i64 (x.Message.Kind), .int .i64 (x.Message.Pos), .int .i64 (x.Message.dH), .int .i64 (x.Message.Question), .string (x.Message.Name), .slice Ax6 x.Message.bD.length cx6, .int .i64 (x.Message.Value.Kind), .int .i64 (x.Message.Value.N), .int .i64 (x.Message.Count), .int .i64 (x.Message.Tag.Vat), .int .i64 (x.Message.Tag.Entity), .int .i64 (x.Message.Tag.Seq)], .agg #[.int .i64 (y.Message.Kind), .int .i64 (y.Message.Pos), .int .i64 (y.Message.dH), .int .i64 (y.Message.Question), .string (y.Message.Name), .slice Ay6 y.Message.bD.length cy6, .int .i64 (y.Message.Value.Kind), .int .i64 (y.Message.Value.N), .int .i64 (y.Message.Count), .int .i64 (y.Message.Tag.Vat), .int .i64 (y.Message.Tag.Entity), .int .i64 (y.Message.Tag.Seq)]]) rfl rfl rfl (fK (mO x.Message y.Message _ _ _ (gJ _ x.Message hlx6 (aS Ha8.1 hCx6)) (gJ _ y.Message hly6 (aS Ha8.1 hCy6))) (eq_false_of_ne_true hg15)) ?_
   rintro e25 W24 ⟨rfl, hu23⟩; refine ⟨_, rfl, ?_⟩
   have H26 := Ha8.no hu23; clear Ha8
   refine aA ?_
   refine aB rfl (aI (v := .bool (false)) (b := true) rfl rfl rfl rfl) rfl rfl ?_
   refine aA ?_
   refine aB rfl (aJ rfl) rfl rfl ?_
   refine aH ?_
   refine aG ?_
   refine wp_ret ?_
   have hr27 : dA x y = false := by simp [dA, hg10, hg15]
   refine aQ (.inl rfl) Tryz.results82 rfl ?_
   rw [hr27]
   exact ⟨rfl, H26.1⟩
 ·refine aA ?_
  refine aB rfl (bO hg10 (eH rfl rfl)) rfl rfl ?_
  refine aA ?_
  refine aB rfl (aF rfl) rfl rfl ?_
  refine aA ?_
  refine aC rfl rfl rfl rfl rfl rfl rfl ?_
  refine aA ?_
  refine aC rfl rfl rfl rfl rfl rfl rfl ?_
  refine aA ?_
  refine aC rfl rfl rfl rfl rfl rfl rfl ?_
  refine aA ?_
  refine aC rfl rfl rfl rfl rfl rfl rfl ?_
  refine aA ?_
  refine aC rfl rfl rfl rfl rfl rfl rfl ?_
  refine aA ?_
  refine aB rfl (aI (v := .bool (false)) (b := false) rfl rfl rfl rfl) rfl rfl ?_
  refine aA ?_
  refine aB rfl (aJ rfl) rfl rfl ?_
  refine aH ?_
  refine aG ?_
  refine wp_ret ?_
  have hr28 : dA x y = false := by simp [dA, hg10]
  refine aQ (.inl rfl) Tryz.results82 rfl ?_
  rw [hr28]
  exact ⟨rfl, Ha8.1⟩
theorem eqF_Outgoing (l k : List GOutgoing) (A A' : Option Addr) (c c' : Nat) (w : World) (h : C dL w A l) (h' : C dL w A' k) : Calls Tryz.prog 81 #[.slice A l.length c, .slice A' k.length c', .func (.func 82) #[] #[]] w (bW (aV dA l k) w) := by
 have nx := h.1
 refine enter 32 [(0, .slice A l.length c), (1, .slice A' k.length c'), (2, .func (.func 82) #[] #[])] Tryz.func81 rfl kR ?_
 intro xj
 have H1 : St w No [] w := St.enter
 refine wp_seq ?_
 refine aM [0] rfl ?_
 refine aA ?_
 refine aB rfl (aJ rfl) rfl rfl ?_
 refine aH ?_
 refine aG ?_
 refine wp_seq ?_
 refine wp_seq ?_
 refine aM [0, 1, 2, 3, 4] rfl ?_
 refine aA ?_
 refine aB rfl (aF rfl) rfl rfl ?_
 refine aA ?_
 refine aB rfl (bQ Tryz.runUnderlying78 rfl) rfl rfl ?_
 refine aA ?_
 refine aB rfl (aF rfl) rfl rfl ?_
 refine aA ?_
 refine aB rfl (bQ Tryz.runUnderlying78 rfl) rfl rfl ?_
 by_cases hg2 : ¬ ((l.length : Nat) : Int) = (k.length : Nat)
 ·refine aA ?_
  refine aB rfl (bV hg2 (bN rfl rfl)) rfl rfl ?_
  refine aH ?_
  refine aG ?_
  refine bX rfl ?_
  refine wp_seq ?_
  refine aM [0] rfl ?_
  refine aA ?_
  refine aB rfl (aJ rfl) rfl rfl ?_
  refine aH ?_
  refine aG ?_
  refine wp_ret ?_
  refine aU ?_
  have hz3 : ∀ f, aV f l k = false := fun f => eY f l k kO
  have hr4 : aV dA l k = false := by simp [hz3]
  refine aQ (.inl rfl) Tryz.results81 rfl ?_
  rw [hr4]
  exact ⟨rfl, H1.1⟩
 ·refine aA ?_
  refine aB rfl (bO hg2 (bN rfl rfl)) rfl rfl ?_
  refine aH ?_
  refine aG ?_
  refine dU rfl ?_
  refine wp_skip ?_
  refine aG ?_
  refine wp_seq ?_
  refine wp_seq ?_
  refine aM [0, 1, 2] rfl ?_
  refine aA ?_
  refine aB rfl (aF rfl) rfl rfl ?_
  refine aA ?_
  refine aB rfl (bQ Tryz.runUnderlying78 rfl) rfl rfl ?_
  refine aA ?_
  refine aB rfl (aF rfl) rfl rfl ?_
  refine aH ?_
  refine aG ?_
  refine wp_block ?_
  refine wp_loop_ghost (fun r a' W' => ∃ (i1 : Nat) (x' : Nat → Value), a' = bT 32 x' [(1, .slice A' k.length c'), (2, .func (.func 82) #[] #[]), (15, .slice A l.length c), (16, .int .i64 ((l.length : Nat))), (17, .int .i64 (((i1 : Nat) : Int)))] ∧ (i1 + r = l.length) ∧ (aV dA l k = aV dA (l.drop i1) (k.drop i1)) ∧ St w No [] W') l.length ?_ ?_
  ·exact (bA [(1, .slice A' k.length c'), (2, .func (.func 82) #[] #[]), (15, .slice A l.length c), (16, .int .i64 ((l.length : Nat))), (17, .int .i64 (((0 : Nat) : Int)))] rfl).elim fun x' hx => ⟨0, x', hx, kO, rfl, H1⟩
  ·rintro r5 _ W6 ⟨i1, x7, rfl, hi1, hf1, H8⟩; clear H1
   refine wp_seq ?_
   refine aM [0] rfl ?_
   refine aA ?_
   refine aB rfl (gY rfl rfl) rfl rfl ?_
   refine aH ?_
   refine aG ?_
   refine wp_seq ?_
   refine eP rfl (fun hc9 => ?_) (fun hc9 => ?_)
   ·have hlt1 : i1 < l.length := by omega
    have hlu1 : i1 < k.length := by omega
    obtain ⟨ade10, cse10, hAe10, hKe10, hce10⟩ := dO h i1 hlt1
    have hle10 := lS hKe10
    have hoe10 := lT hKe10
    obtain ⟨ade11, cse11, hAe11, hKe11, hce11⟩ := dO h' i1 hlu1
    have hle11 := lS hKe11
    have hoe11 := lT hKe11
    refine wp_skip ?_
    refine aG ?_
    refine wp_seq ?_
    refine wp_block ?_
    refine wp_seq ?_
    refine aM [0, 1, 2, 3, 4, 5] rfl ?_
    refine aA ?_
    refine aB rfl (aF rfl) rfl rfl ?_
    refine aA ?_
    refine aB rfl (aP (k := i1) Tryz.runUnderlying78 Tryz.sizeOf143 rfl rfl hAe10 hlt1) rfl rfl ?_
    refine aA ?_
    refine aB rfl (aY Tryz.isAgg143 Tryz.sizeOf143 rfl (Cat.upd hce10 H8.1) hle10) rfl rfl ?_
    refine aA ?_
    refine gZ rfl Tryz.zeroValue143 rfl rfl H8 ?_
    intro g_5_3 W12 hu13 Ha14; clear H8; clear hu13
    refine aA ?_
    refine aB rfl (aJ rfl) rfl rfl ?_
    refine aA ?_
    refine gN rfl Tryz.sizeOf143 rfl rfl hle10 rfl hoe10 Ha14 ?_
    intro W16 hu17 Ha18; clear Ha14; clear hu17
    refine aH ?_
    refine aG ?_
    refine wp_seq ?_
    refine aM [0, 1, 2, 3, 4, 5] rfl ?_
    refine aA ?_
    refine aB rfl (aF rfl) rfl rfl ?_
    refine aA ?_
    refine aB rfl (aF rfl) rfl rfl ?_
    refine aA ?_
    refine aB rfl (aP (k := i1) Tryz.runUnderlying78 Tryz.sizeOf143 rfl rfl hAe11 hlu1) rfl rfl ?_
    refine aA ?_
    refine aB rfl (aY Tryz.isAgg143 Tryz.sizeOf143 rfl (Cat.upd hce11 Ha18.1) hle11) rfl rfl ?_
    refine aA ?_
    refine gZ rfl Tryz.zeroValue143 rfl rfl Ha18 ?_
    intro g_6_4 W20 hu21 Ha22; clear Ha18; clear hu21
    refine aA ?_
    refine gN rfl Tryz.sizeOf143 rfl rfl hle11 rfl hoe11 Ha22 ?_
    intro W24 hu25 Ha26; clear Ha22; clear hu25
    refine aH ?_
    refine aG ?_
    refine wp_seq ?_
    refine aM [0, 1, 2, 3, 4] rfl ?_
    refine aA ?_
    refine aB rfl (aF rfl) rfl rfl ?_
    refine aA ?_
    refine aB rfl (fH Tryz.isAgg143 Tryz.sizeOf143 rfl (Ha26.blk 1 rfl) hle10) rfl rfl ?_
    refine aA ?_
    refine aB rfl (fH Tryz.isAgg143 Tryz.sizeOf143 rfl (Ha26.blk 0 rfl) hle11) rfl rfl ?_
    by_cases hg28 : dA (l[i1]) (k[i1]) = true
    ·refine aA ?_
     refine iQ rfl rfl Tryz.call82 (vs := #[.agg (List.toArray cse10), .agg (List.toArray cse11)]) rfl rfl rfl (fK (eqc_Outgoing (l[i1]) (k[i1]) _ _ _ (fE Ha26.1 hKe10) (fE Ha26.1 hKe11)) hg28) ?_
     rintro e31 W30 ⟨rfl, hu29⟩; refine ⟨_, rfl, ?_⟩
     have H32 := Ha26.no hu29; clear Ha26
     refine aA ?_
     refine aB rfl (gD rfl) rfl rfl ?_
     refine aH ?_
     refine aG ?_
     refine dU rfl ?_
     refine wp_skip ?_
     refine iY ?_
     refine aG ?_
     refine aM [0, 1] rfl ?_
     refine aA ?_
     refine aB rfl (iB (k := i1) rfl rfl kO) rfl rfl ?_
     refine aA ?_
     refine aB rfl (aF rfl) rfl rfl ?_
     refine aH ?_
     refine aG ?_
     exact (bA [(1, .slice A' k.length c'), (2, .func (.func 82) #[] #[]), (15, .slice A l.length c), (16, .int .i64 ((l.length : Nat))), (17, .int .i64 (((i1 + 1 : Nat) : Int)))] rfl).elim fun x' hx => ⟨r5 - 1, kO, i1 + 1, x', hx, kO, (hf1.trans (fC dA l k i1 hlt1 hlu1 hg28)), H32.pick [] kD rfl⟩
    ·refine aA ?_
     refine iQ rfl rfl Tryz.call82 (vs := #[.agg (List.toArray cse10), .agg (List.toArray cse11)]) rfl rfl rfl (fK (eqc_Outgoing (l[i1]) (k[i1]) _ _ _ (fE Ha26.1 hKe10) (fE Ha26.1 hKe11)) (eq_false_of_ne_true hg28)) ?_
     rintro e35 W34 ⟨rfl, hu33⟩; refine ⟨_, rfl, ?_⟩
     have H36 := Ha26.no hu33; clear Ha26
     refine aA ?_
     refine aB rfl (gD rfl) rfl rfl ?_
     refine aH ?_
     refine aG ?_
     refine bX rfl ?_
     refine wp_seq ?_
     refine aM [0] rfl ?_
     refine aA ?_
     refine aB rfl (aJ rfl) rfl rfl ?_
     refine aH ?_
     refine aG ?_
     refine wp_ret ?_
     refine dS ?_
     refine aU ?_
     refine aU ?_
     refine dS ?_
     refine aU ?_
     have hz37 : aV dA l k = false := hf1.trans (eG dA l k i1 hlt1 hlu1 (eq_false_of_ne_true hg28))
     have hr38 : aV dA l k = false := by simp [hg28, hz37]
     refine aQ (.inl rfl) Tryz.results81 rfl ?_
     rw [hr38]
     exact ⟨rfl, H36.1⟩
   ·have hd1 : aV dA l k = true := hf1.trans (fD dA l k i1 kO kO)
    refine wp_exit ?_
    refine dP ?_
    refine dP ?_
    refine iZ ?_
    refine aG ?_
    refine wp_seq ?_
    refine aM [0] rfl ?_
    refine aA ?_
    refine aB rfl (aJ rfl) rfl rfl ?_
    refine aH ?_
    refine aG ?_
    refine wp_ret ?_
    have hr39 : aV dA l k = true := by simp [hd1]
    refine aQ (.inl rfl) Tryz.results81 rfl ?_
    rw [hr39]
    exact ⟨rfl, H8.1⟩
theorem equalVats_i (x y : GVat) (cx cy : List Value) (w : World) (h : iK.K w x cx) (h' : iK.K w y cy) : Calls Tryz.prog 46 #[.agg cx.toArray, .agg cy.toArray] w (bW (dK x y) w) := by
 obtain ⟨Ax1, cx1, Ax2, cx2, Ax3, cx3, Ax4, cx4, rfl, hlx1, hCx1, hlx2, hCx2, hlx3, hCx3, hlx4, hCx4⟩ := oV h
 obtain ⟨Ay1, cy1, Ay2, cy2, Ay3, cy3, Ay4, cy4, rfl, hly1, hCy1, hly2, hCy2, hly3, hCy3, hly4, hCy4⟩ := oV h'
 have nx1 := hCx1.1
 have nx2 := hCx2.1
 have nx3 := hCx3.1
 have nx4 := hCx4.1
 refine enter 38 [(0, .agg #[.int .i64 (x.Id), .slice Ax1 x.aT.length cx1, .slice Ax2 x.Loop.length cx2, .slice Ax3 x.bZ.length cx3, .slice Ax4 x.Out.length cx4]), (1, .agg #[.int .i64 (y.Id), .slice Ay1 y.aT.length cy1, .slice Ay2 y.Loop.length cy2, .slice Ay3 y.bZ.length cy3, .slice Ay4 y.Out.length cy4])] Tryz.func46 rfl kR ?_
 intro xj
 have H1 : St w No [] w := St.enter
 refine wp_seq ?_
 refine aM [0, 1, 2] rfl ?_
 refine aA ?_
 refine gX rfl rfl rfl rfl H1 ?_
 intro g_0_0 W2 hu3 Ha4; clear H1; clear hu3
 refine aA ?_
 refine gX rfl rfl rfl rfl Ha4 ?_
 intro g_0_1 W6 hu7 Ha8; clear Ha4; clear hu7
 refine aA ?_
 refine aB rfl (aJ rfl) rfl rfl ?_
 refine aH ?_
 refine aG ?_
 refine wp_seq ?_
 refine aM [0, 1, 2, 3, 4, 5, 6, 7, 8, 9, 10, 11, 12, 13, 14, 15, 16, 17, 18, 19, 20, 21, 22, 23, 24, 25, 26, 27, 28, 29, 30, 31, 32, 33] rfl ?_
 refine aA ?_
 refine aB rfl (aL fa_80_0 rfl) rfl rfl ?_
 refine aA ?_
 refine aB rfl (aN (k := 0) (v := .int .i64 (x.Id)) Tryz.isAgg3 rfl (Ha8.blk 1 rfl) rfl) rfl rfl ?_
 refine aA ?_
 refine aB rfl (aL fa_80_0 rfl) rfl rfl ?_
 refine aA ?_
 refine aB rfl (aN (k := 0) (v := .int .i64 (y.Id)) Tryz.isAgg3 rfl (Ha8.blk 0 rfl) rfl) rfl rfl ?_
 by_cases hg10 : (x.Id : Int) = y.Id
 ·refine aA ?_
  refine aB rfl (bV hg10 (eH rfl rfl)) rfl rfl ?_
  refine aA ?_
  refine aB rfl (aF rfl) rfl rfl ?_
  refine aA ?_
  refine aR rfl rfl rfl rfl (fun _ ho11 => ?_)
  refine aB ho11 (aL nU rfl) rfl rfl ?_
  refine aA ?_
  refine aR rfl rfl rfl rfl (fun _ ho12 => ?_)
  refine aB ho12 (aN (k := 1) (v := .slice Ax1 x.aT.length cx1) Tryz.isAgg75 rfl (Ha8.blk 1 rfl) rfl) rfl rfl ?_
  refine aA ?_
  refine aR rfl rfl rfl rfl (fun _ ho13 => ?_)
  refine aB ho13 (aL nU rfl) rfl rfl ?_
  refine aA ?_
  refine aR rfl rfl rfl rfl (fun _ ho14 => ?_)
  refine aB ho14 (aN (k := 1) (v := .slice Ay1 y.aT.length cy1) Tryz.isAgg75 rfl (Ha8.blk 0 rfl) rfl) rfl rfl ?_
  by_cases hg15 : (aV aZ x.aT y.aT) = true
  ·refine aA ?_
   refine aR rfl rfl rfl rfl (fun _ ho16 => ?_)
   refine bP ho16 Tryz.call76 (vs := #[.slice Ax1 x.aT.length cx1, .slice Ay1 y.aT.length cy1, .func (.func 77) #[] #[]]) rfl rfl rfl (fK (eqF_Entity x.aT y.aT _ _ _ _ _ (aS Ha8.1 hCx1) (aS Ha8.1 hCy1)) hg15) ?_
   rintro e19 W18 ⟨rfl, hu17⟩; refine ⟨_, rfl, ?_⟩
   have H20 := Ha8.no hu17; clear Ha8
   refine aA ?_
   refine aB rfl (aI (v := .bool (true)) (b := true) rfl rfl rfl rfl) rfl rfl ?_
   refine aA ?_
   refine aB rfl (aF rfl) rfl rfl ?_
   refine aA ?_
   refine aR rfl rfl rfl rfl (fun _ ho21 => ?_)
   refine aB ho21 (aL fa_80_2 rfl) rfl rfl ?_
   refine aA ?_
   refine aR rfl rfl rfl rfl (fun _ ho22 => ?_)
   refine aB ho22 (aN (k := 2) (v := .slice Ax2 x.Loop.length cx2) Tryz.isAgg76 rfl (H20.blk 1 rfl) rfl) rfl rfl ?_
   refine aA ?_
   refine aR rfl rfl rfl rfl (fun _ ho23 => ?_)
   refine aB ho23 (aL fa_80_2 rfl) rfl rfl ?_
   refine aA ?_
   refine aR rfl rfl rfl rfl (fun _ ho24 => ?_)
   refine aB ho24 (aN (k := 2) (v := .slice Ay2 y.Loop.length cy2) Tryz.isAgg76 rfl (H20.blk 0 rfl) rfl) rfl rfl ?_
   by_cases hg25 : (aV bS x.Loop y.Loop) = true
   ·refine aA ?_
    refine aR rfl rfl rfl rfl (fun _ ho26 => ?_)
    refine bP ho26 Tryz.call78 (vs := #[.slice Ax2 x.Loop.length cx2, .slice Ay2 y.Loop.length cy2]) rfl rfl rfl (fK (oK x.Loop y.Loop _ _ _ _ _ (aS H20.1 hCx2) (aS H20.1 hCy2)) hg25) ?_
    rintro e29 W28 ⟨rfl, hu27⟩; refine ⟨_, rfl, ?_⟩
    have H30 := H20.no hu27; clear H20
    refine aA ?_
    refine aB rfl (aI (v := .bool (true)) (b := true) rfl rfl rfl rfl) rfl rfl ?_
    refine aA ?_
    refine aB rfl (aF rfl) rfl rfl ?_
    refine aA ?_
    refine aR rfl rfl rfl rfl (fun _ ho31 => ?_)
    refine aB ho31 (aL nV rfl) rfl rfl ?_
    refine aA ?_
    refine aR rfl rfl rfl rfl (fun _ ho32 => ?_)
    refine aB ho32 (aN (k := 3) (v := .slice Ax3 x.bZ.length cx3) Tryz.isAgg77 rfl (H30.blk 1 rfl) rfl) rfl rfl ?_
    refine aA ?_
    refine aR rfl rfl rfl rfl (fun _ ho33 => ?_)
    refine aB ho33 (aL nV rfl) rfl rfl ?_
    refine aA ?_
    refine aR rfl rfl rfl rfl (fun _ ho34 => ?_)
    refine aB ho34 (aN (k := 3) (v := .slice Ay3 y.bZ.length cy3) Tryz.isAgg77 rfl (H30.blk 0 rfl) rfl) rfl rfl ?_
    by_cases hg35 : (aV cK x.bZ y.bZ) = true
    ·refine aA ?_
     refine aR rfl rfl rfl rfl (fun _ ho36 => ?_)
     refine bP ho36 Tryz.call79 (vs := #[.slice Ax3 x.bZ.length cx3, .slice Ay3 y.bZ.length cy3, .func (.func 80) #[] #[]]) rfl rfl rfl (fK (eqF_Link x.bZ y.bZ _ _ _ _ _ (aS H30.1 hCx3) (aS H30.1 hCy3)) hg35) ?_
     rintro e39 W38 ⟨rfl, hu37⟩; refine ⟨_, rfl, ?_⟩
     have H40 := H30.no hu37; clear H30
     refine aA ?_
     refine aB rfl (aI (v := .bool (true)) (b := true) rfl rfl rfl rfl) rfl rfl ?_
     refine aA ?_
     refine aB rfl (aF rfl) rfl rfl ?_
     refine aA ?_
     refine aR rfl rfl rfl rfl (fun _ ho41 => ?_)
     refine aB ho41 (aL jZ rfl) rfl rfl ?_
     refine aA ?_
     refine aR rfl rfl rfl rfl (fun _ ho42 => ?_)
     refine aB ho42 (aN (k := 4) (v := .slice Ax4 x.Out.length cx4) Tryz.isAgg78 rfl (H40.blk 1 rfl) rfl) rfl rfl ?_
     refine aA ?_
     refine aR rfl rfl rfl rfl (fun _ ho43 => ?_)
     refine aB ho43 (aL jZ rfl) rfl rfl ?_
     refine aA ?_
     refine aR rfl rfl rfl rfl (fun _ ho44 => ?_)
     refine aB ho44 (aN (k := 4) (v := .slice Ay4 y.Out.length cy4) Tryz.isAgg78 rfl (H40.blk 0 rfl) rfl) rfl rfl ?_
     by_cases hg45 : (aV dA x.Out y.Out) = true
     ·refine aA ?_
      refine aR rfl rfl rfl rfl (fun _ ho46 => ?_)
      refine bP ho46 Tryz.call81 (vs := #[.slice Ax4 x.Out.length cx4, .slice Ay4 y.Out.length cy4, .func (.func 82) #[] #[]]) rfl rfl rfl (fK (eqF_Outgoing x.Out y.Out _ _ _ _ _ (aS H40.1 hCx4) (aS H40.1 hCy4)) hg45) ?_
      rintro e49 W48 ⟨rfl, hu47⟩; refine ⟨_, rfl, ?_⟩
      have H50 := H40.no hu47; clear H40
      refine aA ?_
      refine aB rfl (aI (v := .bool (true)) (b := true) rfl rfl rfl rfl) rfl rfl ?_
      refine aA ?_
      refine aB rfl (aJ rfl) rfl rfl ?_
      refine aH ?_
      refine aG ?_
      refine wp_ret ?_
      have hr51 : dK x y = true := by simp [dK, hg10, hg15, hg25, hg35, hg45]
      refine aQ (.inl rfl) Tryz.results46 rfl ?_
      rw [hr51]
      exact ⟨rfl, H50.1⟩
     ·refine aA ?_
      refine aR rfl rfl rfl rfl (fun _ ho52 => ?_)
      refine bP ho52 Tryz.call81 (vs := #[.slice Ax4 x.Out.length cx4, .slice Ay4 y.Out.length cy4, .func (.func 82) #[] #[]]) rfl rfl rfl (fK (eqF_Outgoing x.Out y.Out _ _ _ _ _ (aS H40.1 hCx4) (aS H40.1 hCy4)) (eq_false_of_ne_true hg45)) ?_
      rintro e55 W54 ⟨rfl, hu53⟩; refine ⟨_, rfl, ?_⟩
      have H56 := H40.no hu53; clear H40
      refine aA ?_
      refine aB rfl (aI (v := .bool (false)) (b := true) rfl rfl rfl rfl) rfl rfl ?_
      refine aA ?_
      refine aB rfl (aJ rfl) rfl rfl ?_
      refine aH ?_
      refine aG ?_
      refine wp_ret ?_
      have hr57 : dK x y = false := by simp [dK, hg10, hg15, hg25, hg35, hg45]
      refine aQ (.inl rfl) Tryz.results46 rfl ?_
      rw [hr57]
      exact ⟨rfl, H56.1⟩
    ·refine aA ?_
     refine aR rfl rfl rfl rfl (fun _ ho58 => ?_)
     refine bP ho58 Tryz.call79 (vs := #[.slice Ax3 x.bZ.length cx3, .slice Ay3 y.bZ.length cy3, .func (.func 80) #[] #[]]) rfl rfl rfl (fK (eqF_Link x.bZ y.bZ _ _ _ _ _ (aS H30.1 hCx3) (aS H30.1 hCy3)) (eq_false_of_ne_true hg35)) ?_
     rintro e61 W60 ⟨rfl, hu59⟩; refine ⟨_, rfl, ?_⟩
     have H62 := H30.no hu59; clear H30
     refine aA ?_
     refine aB rfl (aI (v := .bool (false)) (b := true) rfl rfl rfl rfl) rfl rfl ?_
     refine aA ?_
     refine aB rfl (aF rfl) rfl rfl ?_
     refine aA ?_
     refine aC rfl rfl rfl rfl rfl rfl rfl ?_
     refine aA ?_
     refine aC rfl rfl rfl rfl rfl rfl rfl ?_
     refine aA ?_
     refine aC rfl rfl rfl rfl rfl rfl rfl ?_
     refine aA ?_
     refine aC rfl rfl rfl rfl rfl rfl rfl ?_
     refine aA ?_
     refine aC rfl rfl rfl rfl rfl rfl rfl ?_
     refine aA ?_
     refine aB rfl (aI (v := .bool (false)) (b := false) rfl rfl rfl rfl) rfl rfl ?_
     refine aA ?_
     refine aB rfl (aJ rfl) rfl rfl ?_
     refine aH ?_
     refine aG ?_
     refine wp_ret ?_
     have hr63 : dK x y = false := by simp [dK, hg10, hg15, hg25, hg35]
     refine aQ (.inl rfl) Tryz.results46 rfl ?_
     rw [hr63]
     exact ⟨rfl, H62.1⟩
   ·refine aA ?_
    refine aR rfl rfl rfl rfl (fun _ ho64 => ?_)
    refine bP ho64 Tryz.call78 (vs := #[.slice Ax2 x.Loop.length cx2, .slice Ay2 y.Loop.length cy2]) rfl rfl rfl (fK (oK x.Loop y.Loop _ _ _ _ _ (aS H20.1 hCx2) (aS H20.1 hCy2)) (eq_false_of_ne_true hg25)) ?_
    rintro e67 W66 ⟨rfl, hu65⟩; refine ⟨_, rfl, ?_⟩
    have H68 := H20.no hu65; clear H20
    refine aA ?_
    refine aB rfl (aI (v := .bool (false)) (b := true) rfl rfl rfl rfl) rfl rfl ?_
    refine aA ?_
    refine aB rfl (aF rfl) rfl rfl ?_
    refine aA ?_
    refine aC rfl rfl rfl rfl rfl rfl rfl ?_
    refine aA ?_
    refine aC rfl rfl rfl rfl rfl rfl rfl ?_
    refine aA ?_
    refine aC rfl rfl rfl rfl rfl rfl rfl ?_
    refine aA ?_
    refine aC rfl rfl rfl rfl rfl rfl rfl ?_
    refine aA ?_
    refine aC rfl rfl rfl rfl rfl rfl rfl ?_
    refine aA ?_
    refine aB rfl (aI (v := .bool (false)) (b := false) rfl rfl rfl rfl) rfl rfl ?_
    refine aA ?_
    refine aB rfl (aF rfl) rfl rfl ?_
    refine aA ?_
    refine aC rfl rfl rfl rfl rfl rfl rfl ?_
    refine aA ?_
    refine aC rfl rfl rfl rfl rfl rfl rfl ?_
    refine aA ?_
    refine aC rfl rfl rfl rfl rfl rfl rfl ?_
    refine aA ?_
    refine aC rfl rfl rfl rfl rfl rfl rfl ?_
    refine aA ?_
    refine aC rfl rfl rfl rfl rfl rfl rfl ?_
    refine aA ?_
    refine aB rfl (aI (v := .bool (false)) (b := false) rfl rfl rfl rfl) rfl rfl ?_
    refine aA ?_
    refine aB rfl (aJ rfl) rfl rfl ?_
    refine aH ?_
    refine aG ?_
    refine wp_ret ?_
    have hr69 : dK x y = false := by simp [dK, hg10, hg15, hg25]
    refine aQ (.inl rfl) Tryz.results46 rfl ?_
    rw [hr69]
    exact ⟨rfl, H68.1⟩
  ·refine aA ?_
   refine aR rfl rfl rfl rfl (fun _ ho70 => ?_)
   refine bP ho70 Tryz.call76 (vs := #[.slice Ax1 x.aT.length cx1, .slice Ay1 y.aT.length cy1, .func (.func 77) #[] #[]]) rfl rfl rfl (fK (eqF_Entity x.aT y.aT _ _ _ _ _ (aS Ha8.1 hCx1) (aS Ha8.1 hCy1)) (eq_false_of_ne_true hg15)) ?_
   rintro e73 W72 ⟨rfl, hu71⟩; refine ⟨_, rfl, ?_⟩
   have H74 := Ha8.no hu71; clear Ha8
   refine aA ?_
   refine aB rfl (aI (v := .bool (false)) (b := true) rfl rfl rfl rfl) rfl rfl ?_
   refine aA ?_
   refine aB rfl (aF rfl) rfl rfl ?_
   refine aA ?_
   refine aC rfl rfl rfl rfl rfl rfl rfl ?_
   refine aA ?_
   refine aC rfl rfl rfl rfl rfl rfl rfl ?_
   refine aA ?_
   refine aC rfl rfl rfl rfl rfl rfl rfl ?_
   refine aA ?_
   refine aC rfl rfl rfl rfl rfl rfl rfl ?_
   refine aA ?_
   refine aC rfl rfl rfl rfl rfl rfl rfl ?_
   refine aA ?_
   refine aB rfl (aI (v := .bool (false)) (b := false) rfl rfl rfl rfl) rfl rfl ?_
   refine aA ?_
   refine aB rfl (aF rfl) rfl rfl ?_
   refine aA ?_
   refine aC rfl rfl rfl rfl rfl rfl rfl ?_
   refine aA ?_
   refine aC rfl rfl rfl rfl rfl rfl rfl ?_
   refine aA ?_
   refine aC rfl rfl rfl rfl rfl rfl rfl ?_
   refine aA ?_
   refine aC rfl rfl rfl rfl rfl rfl rfl ?_
   refine aA ?_
   refine aC rfl rfl rfl rfl rfl rfl rfl ?_
   refine aA ?_
   refine aB rfl (aI (v := .bool (false)) (b := false) rfl rfl rfl rfl) rfl rfl ?_
   refine aA ?_
   refine aB rfl (aF rfl) rfl rfl ?_
   refine aA ?_
   refine aC rfl rfl rfl rfl rfl rfl rfl ?_
   refine aA ?_
   refine aC rfl rfl rfl rfl rfl rfl rfl ?_
   refine aA ?_
   refine aC rfl rfl rfl rfl rfl rfl rfl ?_
   refine aA ?_
   refine aC rfl rfl rfl rfl rfl rfl rfl ?_
   refine aA ?_
   refine aC rfl rfl rfl rfl rfl rfl rfl ?_
   refine aA ?_
   refine aB rfl (aI (v := .bool (false)) (b := false) rfl rfl rfl rfl) rfl rfl ?_
   refine aA ?_
   refine aB rfl (aJ rfl) rfl rfl ?_
   refine aH ?_
   refine aG ?_
   refine wp_ret ?_
   have hr75 : dK x y = false := by simp [dK, hg10, hg15]
   refine aQ (.inl rfl) Tryz.results46 rfl ?_
   rw [hr75]
   exact ⟨rfl, H74.1⟩
 ·refine aA ?_
  refine aB rfl (bO hg10 (eH rfl rfl)) rfl rfl ?_
  refine aA ?_
  refine aB rfl (aF rfl) rfl rfl ?_
  refine aA ?_
  refine aC rfl rfl rfl rfl rfl rfl rfl ?_
  refine aA ?_
  refine aC rfl rfl rfl rfl rfl rfl rfl ?_
  refine aA ?_
  refine aC rfl rfl rfl rfl rfl rfl rfl ?_
  refine aA ?_
  refine aC rfl rfl rfl rfl rfl rfl rfl ?_
  refine aA ?_
  refine aC rfl rfl rfl rfl rfl rfl rfl ?_
  refine aA ?_
  refine aB rfl (aI (v := .bool (false)) (b := false) rfl rfl rfl rfl) rfl rfl ?_
  refine aA ?_
  refine aB rfl (aF rfl) rfl rfl ?_
  refine aA ?_
  refine aC rfl rfl rfl rfl rfl rfl rfl ?_
  refine aA ?_
  refine aC rfl rfl rfl rfl rfl rfl rfl ?_
  refine aA ?_
  refine aC rfl rfl rfl rfl rfl rfl rfl ?_
  refine aA ?_
  refine aC rfl rfl rfl rfl rfl rfl rfl ?_
  refine aA ?_
  refine aC rfl rfl rfl rfl rfl rfl rfl ?_
  refine aA ?_
  refine aB rfl (aI (v := .bool (false)) (b := false) rfl rfl rfl rfl) rfl rfl ?_
  refine aA ?_
  refine aB rfl (aF rfl) rfl rfl ?_
  refine aA ?_
  refine aC rfl rfl rfl rfl rfl rfl rfl ?_
  refine aA ?_
  refine aC rfl rfl rfl rfl rfl rfl rfl ?_
  refine aA ?_
  refine aC rfl rfl rfl rfl rfl rfl rfl ?_
  refine aA ?_
  refine aC rfl rfl rfl rfl rfl rfl rfl ?_
  refine aA ?_
  refine aC rfl rfl rfl rfl rfl rfl rfl ?_
  refine aA ?_
  refine aB rfl (aI (v := .bool (false)) (b := false) rfl rfl rfl rfl) rfl rfl ?_
  refine aA ?_
  refine aB rfl (aF rfl) rfl rfl ?_
  refine aA ?_
  refine aC rfl rfl rfl rfl rfl rfl rfl ?_
  refine aA ?_
  refine aC rfl rfl rfl rfl rfl rfl rfl ?_
  refine aA ?_
  refine aC rfl rfl rfl rfl rfl rfl rfl ?_
  refine aA ?_
  refine aC rfl rfl rfl rfl rfl rfl rfl ?_
  refine aA ?_
  refine aC rfl rfl rfl rfl rfl rfl rfl ?_
  refine aA ?_
  refine aB rfl (aI (v := .bool (false)) (b := false) rfl rfl rfl rfl) rfl rfl ?_
  refine aA ?_
  refine aB rfl (aJ rfl) rfl rfl ?_
  refine aH ?_
  refine aG ?_
  refine wp_ret ?_
  have hr76 : dK x y = false := by simp [dK, hg10]
  refine aQ (.inl rfl) Tryz.results46 rfl ?_
  rw [hr76]
  exact ⟨rfl, Ha8.1⟩
end Go.Proofs.YtgaoabnnpjngcaaGreatFam

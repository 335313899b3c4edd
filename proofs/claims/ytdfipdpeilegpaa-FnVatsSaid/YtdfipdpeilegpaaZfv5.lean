/- What the row needs, packed. No conditions beyond those that each law names. -/
import Derived.Test.YtdfipdpeilegpaaZfv4
import Derived.Test.YtdfipdpeilegpaaProg
import Derived.Test.YtdfipdpeilegpaaZfv1
import Derived.Test.YtdfipdpeilegpaaZfv3
import Derived.WalkKit
import Derived.KernelRfl
import Derived.RowKit3
import Derived.Deep.LoopGhost
import Derived.Deep.QuietTactic
import Derived.BigQuiet
import Derived.StillTailTactics
import Derived.Deep.RegionHeld3
namespace Go.Proofs.YtdfipdpeilegpaaFam
open Go.ChangeShapes Go.WideShapes Go.RowKit Go.Proofs.YtdfipdpeilegpaaSep Go.Proofs.YtdfipdpeilegpaaT Go.Proofs.YtdfipdpeilegpaaK
set_option linter.unusedVariables false
set_option linter.unusedSimpArgs false
attribute [local irreducible] wpOps wpOp
set_option maxHeartbeats 4000000
set_option maxRecDepth 100000
theorem addE_sz (e : GEntity) (X : GVat) : eX (dK e X) ≤ eX X + bU e + 1 := by
 show bV bU (addL e X.aC) + bV bT X.Loop + bV dH X.aJ + bV eO X.Out ≤ bV bU X.aC + bV bT X.Loop + bV dH X.aJ + bV eO X.Out + bU e + 1
 unfold addL
 split
 ·rw [szA]
  omega
 ·omega
theorem sumSset {α : Type} (s : α → Nat) (y : α) : ∀ (l : List α) (k : Nat) (h : k < l.length), sumS s (l.set k y) + s l[k] = sumS s l + s y
 | [], _, h => (Nat.not_lt_zero _ h).elim
 | x :: r, 0, _ => by
  show s y + sumS s r + s x = s x + sumS s r + s y
  omega
 | x :: r, k + 1, h => by
  have q := sumSset s y r k (Nat.lt_of_succ_lt_succ h)
  show s x + sumS s (r.set k y) + s (r[k]'(Nat.lt_of_succ_lt_succ h)) = s x + sumS s r + s y
  omega
theorem lk_sz (X : GVat) (n : Nat) (y : GLink) (h : n < X.aJ.length) (hy : dH y ≤ dH X.aJ[n] + 1) : eX (⟨X.Id, X.aC, X.Loop, (X.aJ.set n y), X.Out⟩ : GVat) ≤ eX X + 1 := by
 have q := sumSset dH y X.aJ n h
 show bV bU X.aC + bV bT X.Loop + bV dH (X.aJ.set n y) + bV eO X.Out ≤ bV bU X.aC + bV bT X.Loop + bV dH X.aJ + bV eO X.Out + 1
 have e : bV dH (X.aJ.set n y) = X.aJ.length + sumS dH (X.aJ.set n y) := by unfold bV; rw [List.length_set]
 have e2 : bV dH X.aJ = X.aJ.length + sumS dH X.aJ := rfl
 omega
theorem lk_at (X : GVat) (n : Nat) (h : n < X.aJ.length) : dH X.aJ[n] ≤ eX X := by
 have q := kQ dH X.aJ n h
 have e2 : bV dH X.aJ = X.aJ.length + sumS dH X.aJ := rfl
 have e3 : eX X = bV bU X.aC + bV bT X.Loop + bV dH X.aJ + bV eO X.Out := rfl
 omega
theorem ent_sz (X : GVat) (L : List GEntity) : eX (⟨X.Id, L, X.Loop, X.aJ, X.Out⟩ : GVat) ≤ eX X + bV bU L := by
 show bV bU L + bV bT X.Loop + bV dH X.aJ + bV eO X.Out ≤ bV bU X.aC + bV bT X.Loop + bV dH X.aJ + bV eO X.Out + bV bU L
 omega
theorem ent_le (X : GVat) : bV bU X.aC ≤ eX X := by
 have e3 : eX X = bV bU X.aC + bV bT X.Loop + bV dH X.aJ + bV eO X.Out := rfl
 omega
theorem nv_small (q : Int) : eX (nvV 1 [2, 3] q) ≤ 100 ∧ (nvV 1 [2, 3] q).aJ.length = 2 := ⟨Nat.le_of_ble_eq_true rfl, rfl⟩
section
variable {P : Program} {n : Nat} {x : Nat → Value} {live : List (Nat × Value)} {W : World}
theorem post_cc {fn : Func} {e : Exit} {p t g tb m p2 t2 g2 tb2 m2 : Nat} {cs cs2 : Array Value} {R : Ending → World → Prop} (he : e = .ret ∨ e = .normal) (hr : fn.results = #[.cell p t, .cell p2 t2]) (hA : ∀ w, (isAgg t).run P w = .ok true w) (hS : ∀ w, (sizeOf t).run P w = .ok m w) (hA2 : ∀ w, (isAgg t2).run P w = .ok true w) (hS2 : ∀ w, (sizeOf t2).run P w = .ok m2 w) (hx : evl n live (.tmp p) = some (.pointer (some ⟨g, 0, none⟩))) (hx2 : evl n live (.tmp p2) = some (.pointer (some ⟨g2, 0, none⟩))) (hb : Blk W g tb cs) (hm : cs.size = m) (hb2 : Blk W g2 tb2 cs2) (hm2 : cs2.size = m2) (h : R (.returned (.tuple #[.agg cs, .agg cs2])) W) : bodyPost P fn R e (bH n x live) W := by
 have e2 : (bH n x live).tmps.getD p undef = .pointer (some ⟨g, 0, none⟩) := dM (y := .tmp p) hx
 have e3 : (bH n x live).tmps.getD p2 undef = .pointer (some ⟨g2, 0, none⟩) := dM (y := .tmp p2) hx2
 have hl := run_cell hA hS hb hm
 have hl2 := run_cell hA2 hS2 hb2 hm2
 have hrun : (results fn (bH n x live).tmps).run P W = .ok (.tuple #[.agg cs, .agg cs2]) W := by
  simp only [results, hr]
  simp at e2 e3
  simp [e2, e3, asAddr, hl, hl2]
 rcases he with rfl | rfl <;> exact ⟨rfl, _, hrun, h⟩
theorem post_3t {fn : Func} {e : Exit} {i j k : Nat} {v v2 v3 : Value} {R : Ending → World → Prop} (he : e = .ret ∨ e = .normal) (hr : fn.results = #[.tmp i, .tmp j, .tmp k]) (hx : evl n live (.tmp i) = some v) (hy : evl n live (.tmp j) = some v2) (hz : evl n live (.tmp k) = some v3) (h : R (.returned (.tuple #[v, v2, v3])) W) : bodyPost P fn R e (bH n x live) W := by
 have e2 : (bH n x live).tmps.getD i undef = v := dM (y := .tmp i) hx
 have e3 : (bH n x live).tmps.getD j undef = v2 := dM (y := .tmp j) hy
 have e4 : (bH n x live).tmps.getD k undef = v3 := dM (y := .tmp k) hz
 have hrun : (results fn (bH n x live).tmps).run P W = .ok (.tuple #[v, v2, v3]) W := by
  simp only [results, hr]
  simp at e2 e3 e4
  simp [e2, e3, e4]
 rcases he with rfl | rfl <;> exact ⟨rfl, _, hrun, h⟩
end
theorem vat_s  (bs : List Int) (gc cb : Nat) (A : Option Addr) (F0 : Nat → Prop) (w : World) (hV : CV A bs F0 w) (hn : bs.length ≤ 1048576) (h : Star [bF gc 157 A bs.length cb] w F0) : Calls Try.prog 77 #[.pointer (some ⟨gc, 0, none⟩)] w (fun e' w' => ∃ m cs, e' = .returned (.agg (List.toArray cs)) ∧ eX m ≤ 4000 ∧ St w F0 [hM bK m cs, bF gc 157 A bs.length cb] w') := by
 refine enter 122 [(0, .pointer (some ⟨gc, 0, none⟩))] Try.func77 rfl kR ?_
 intro xj
 have H1 : St w F0 [bF gc 157 A bs.length cb] w := St.iA h
 refine wp_seq ?_
 refine aN [0] rfl ?_
 refine aA ?_
 refine bP rfl Try.zeroValue69 rfl rfl H1 ?_
 intro g_0_0 W2 hu3 Ha4; clear H1; clear hu3
 refine aI ?_
 refine aK ?_
 refine wp_seq ?_
 refine aN [0, 1, 2, 3, 4, 5] rfl ?_
 refine aA ?_
 refine jU (vs := [(0, .int .i64 (2)), (1, .int .i64 (3))]) (cells := #[.int .i64 (2), .int .i64 (3)]) rfl Try.runUnderlying82 Try.sizeOf3 Try.zeroValue3 rfl kD kD kR rfl rfl Ha4 ?_
 intro g_1_0 W6 hu7 Ha8; clear Ha4
 have Hb9 := St.boxSc (xs := ([2, 3] : List Int)) (h1 := fun _ => rfl) Ha8 rfl kD rfl; clear hu7
 refine aA ?_
 refine aB rfl (aF rfl) rfl rfl ?_
 refine aA ?_
 have H12 : St w F0 [bF gc 157 A bs.length cb, hR Kn.int 3 (.slice (some ⟨g_1_0, 0, none⟩) 2 2) ([2, 3] : List Int), hB g_0_0 69 #[.int .i64 (0), .slice none 0 0, .slice none 0 0, .slice none 0 0, .slice none 0 0]] W6 := Hb9.pick [2, 0, 1] kD rfl; clear Hb9
 obtain ⟨F13, hs14, hF15, hfr16⟩ := St.frame (l0 := [bF gc 157 A bs.length cb]) (l := [hR Kn.int 3 (.slice (some ⟨g_1_0, 0, none⟩) 2 2) ([2, 3] : List Int), hB g_0_0 69 #[.int .i64 (0), .slice none 0 0, .slice none 0 0, .slice none 0 0, .slice none 0 0]]) H12
 refine bC rfl Try.call44 (vs := #[.pointer (some ⟨gc, 0, none⟩), .int .i64 (3)]) rfl rfl rfl (dN 3 _ _ _ _ _ _ (CV.step hV H12.1 hF15) hn hs14) ?_
 rintro e19 W18 ⟨q10, rfl, hq11, Hn17⟩; refine ⟨_, rfl, ?_⟩
 have H20 := hfr16 _ _ Hn17; clear H12
 refine aA ?_
 refine bC rfl Try.call120 (vs := #[.int .i64 (1), .slice (some ⟨g_1_0, 0, none⟩) 2 2, .int .i64 (q10)]) rfl rfl rfl (newVat_s 1 ([2, 3] : List Int) q10 _ _ _ (H20.fU 1 rfl) (by first | decide | omega)) ?_
 rintro e24 W23 ⟨cs_1_3, rfl, hM21, hu22⟩; refine ⟨_, rfl, ?_⟩
 have H25 := H20.new (q := hM bK (nvV 1 ([2, 3] : List Int) q10) cs_1_3) hu22 hM21; clear H20
 refine aA ?_
 refine bP rfl Try.zeroValue69 rfl rfl H25 ?_
 intro g_1_4 W26 hu27 Ha28; clear H25; clear hu27
 refine aA ?_
 refine bG rfl Try.sizeOf69 rfl rfl (dF (Ha28.kn 1 rfl)) rfl (fM (Ha28.kn 1 rfl)) Ha28 ?_
 intro W30 hu31 Ha32; clear Ha28; clear hu31
 refine aI ?_
 refine aK ?_
 refine wp_seq ?_
 refine wp_seq ?_
 refine aN [0, 1, 2] rfl ?_
 refine aA ?_
 refine aB rfl (aF rfl) rfl rfl ?_
 refine aA ?_
 have H37 : St w F0 [bF gc 157 A bs.length cb, hB g_1_4 69 (List.toArray cs_1_3), hM bK (nvV 1 ([2, 3] : List Int) q10) cs_1_3, hR Kn.int 3 (.slice (some ⟨g_1_0, 0, none⟩) 2 2) ([2, 3] : List Int), hB g_0_0 69 #[.int .i64 (0), .slice none 0 0, .slice none 0 0, .slice none 0 0, .slice none 0 0]] W30 := Ha32.pick [2, 0, 1, 3, 4] kD rfl; clear Ha32
 obtain ⟨F38, hs39, hF40, hfr41⟩ := St.frame (l0 := [bF gc 157 A bs.length cb]) (l := [hB g_1_4 69 (List.toArray cs_1_3), hM bK (nvV 1 ([2, 3] : List Int) q10) cs_1_3, hR Kn.int 3 (.slice (some ⟨g_1_0, 0, none⟩) 2 2) ([2, 3] : List Int), hB g_0_0 69 #[.int .i64 (0), .slice none 0 0, .slice none 0 0, .slice none 0 0, .slice none 0 0]]) H37
 refine bC rfl Try.call44 (vs := #[.pointer (some ⟨gc, 0, none⟩), .int .i64 (5)]) rfl rfl rfl (dN 5 _ _ _ _ _ _ (CV.step hV H37.1 hF40) hn hs39) ?_
 rintro e44 W43 ⟨q34, rfl, hq35, Hn42⟩; refine ⟨_, rfl, ?_⟩
 have H45 := hfr41 _ _ Hn42; clear H37
 obtain ⟨n36, rfl⟩ : ∃ z : Nat, q34 = z := ⟨q34.toNat, by omega⟩
 refine aA ?_
 refine aB rfl (aR rfl) rfl rfl ?_
 refine aI ?_
 refine aK ?_
 refine wp_block ?_
 have hnv := nv_small q10
 refine wp_loop_ghost (fun r a' W' => ∃ (d : Nat) (X : GVat) (csX : List Value) (x' : Nat → Value), a' = bH 122 x' [(0, .pointer (some ⟨gc, 0, none⟩)), (2, .pointer (some ⟨g_0_0, 0, none⟩)), (3, .pointer (some ⟨g_1_4, 0, none⟩)), (4, .int .i64 (((d : Nat) : Int)))] ∧ (d = r) ∧ (eX X + 200 * d ≤ 3000) ∧ (X.aJ.length = 2) ∧ St w F0 [hM bK X csX, hB g_1_4 69 (List.toArray csX), bF gc 157 A bs.length cb, hB g_0_0 69 #[.int .i64 (0), .slice none 0 0, .slice none 0 0, .slice none 0 0, .slice none 0 0]] W') n36 ?_ ?_
 ·exact (aZ [(0, .pointer (some ⟨gc, 0, none⟩)), (2, .pointer (some ⟨g_0_0, 0, none⟩)), (3, .pointer (some ⟨g_1_4, 0, none⟩)), (4, .int .i64 (((n36 : Nat) : Int)))] rfl).elim fun x' hx => ⟨n36, (nvV 1 ([2, 3] : List Int) q10), cs_1_3, x', hx, rfl, (by have := hnv.1; omega), hnv.2, H45.pick [2, 1, 0, 4] kD rfl⟩
 ·rintro r46 _ W47 ⟨d, X, csX, x48, rfl, hd, hX, hXL, H49⟩; clear H45
  refine wp_seq ?_
  refine wp_seq ?_
  refine aN [0, 1] rfl ?_
  refine aA ?_
  refine aB rfl (aF rfl) rfl rfl ?_
  refine aA ?_
  refine aB rfl (rn_gtr rfl rfl) rfl rfl ?_
  refine aI ?_
  refine aK ?_
  refine dB rfl (fun hc50 => ?_) (fun hc50 => ?_)
  ·refine wp_skip ?_
   refine aK ?_
   refine wp_seq ?_
   refine wp_block ?_
   refine wp_seq ?_
   refine aN [0, 1] rfl ?_
   refine aA ?_
   refine aB rfl (aF rfl) rfl rfl ?_
   refine aA ?_
   have H53 : St w F0 [bF gc 157 A bs.length cb, hM bK X csX, hB g_1_4 69 (List.toArray csX), hB g_0_0 69 #[.int .i64 (0), .slice none 0 0, .slice none 0 0, .slice none 0 0, .slice none 0 0]] W47 := H49.pick [2, 0, 1, 3] kD rfl; clear H49
   obtain ⟨F54, hs55, hF56, hfr57⟩ := St.frame (l0 := [bF gc 157 A bs.length cb]) (l := [hM bK X csX, hB g_1_4 69 (List.toArray csX), hB g_0_0 69 #[.int .i64 (0), .slice none 0 0, .slice none 0 0, .slice none 0 0, .slice none 0 0]]) H53
   refine bC rfl Try.call44 (vs := #[.pointer (some ⟨gc, 0, none⟩), .int .i64 (5)]) rfl rfl rfl (dN 5 _ _ _ _ _ _ (CV.step hV H53.1 hF56) hn hs55) ?_
   rintro e60 W59 ⟨q51, rfl, hq52, Hn58⟩; refine ⟨_, rfl, ?_⟩
   have H61 := hfr57 _ _ Hn58; clear H53
   refine aI ?_
   refine aK ?_
   refine wp_block ?_
   refine wp_seq ?_
   refine aN [0, 1] rfl ?_
   refine aA ?_
   refine aB rfl (bS rfl rfl) rfl rfl ?_
   refine aA ?_
   refine aB rfl (aR rfl) rfl rfl ?_
   refine aI ?_
   refine aK ?_
   refine dB rfl (fun hc62 => ?_) (fun hc62 => ?_)
   ·refine dG (fun W' => Blk W' g_1_4 69 (List.toArray csX)) 12 kR ?_
    have H63 := H61.drew; clear H61
    have hS64 : Blk W59.drew g_1_4 69 (List.toArray csX) := H63.blk 2 rfl
    refine aO (i := 0) rfl kR kR kR kR kR (fun _ _ _ h => h) rfl rfl hS64 (fun W' hs' => bN Try.isAgg69 Try.sizeOf69 rfl hs' (dF (H63.kn 1 rfl))) ?_
    refine aO (i := 1) rfl kR kR kR kR kR (fun _ _ _ h => h) rfl rfl hS64 (fun W' hs' => aF rfl) ?_
    refine aO (i := 3) rfl kR kR kR kR kR (fun _ _ _ h => h) rfl rfl hS64 (fun W' hs' => aF rfl) ?_
    refine bM (i := 2) kR ?_
    obtain ⟨F67, hs68, hF69, hfr70⟩ := St.frame (l0 := [bF gc 157 A bs.length cb]) (l := [hM bK X csX, hB g_1_4 69 (List.toArray csX), hB g_0_0 69 #[.int .i64 (0), .slice none 0 0, .slice none 0 0, .slice none 0 0, .slice none 0 0]]) H63
    refine bC rfl Try.call44 (vs := #[.pointer (some ⟨gc, 0, none⟩), .int .i64 (3)]) rfl rfl rfl (dN 3 _ _ _ _ _ _ (CV.step hV H63.1 hF69) hn hs68) ?_
    rintro e73 W72 ⟨q65, rfl, hq66, Hn71⟩; refine ⟨_, rfl, ?_⟩
    have H74 := hfr70 _ _ Hn71; clear H63
    have hS75 := H74.blk 2 rfl; refine ⟨fun _ => hS75, ?_⟩
    refine bM (i := 4) kR ?_
    obtain ⟨F78, hs79, hF80, hfr81⟩ := St.frame (l0 := [bF gc 157 A bs.length cb]) (l := [hM bK X csX, hB g_1_4 69 (List.toArray csX), hB g_0_0 69 #[.int .i64 (0), .slice none 0 0, .slice none 0 0, .slice none 0 0, .slice none 0 0]]) H74
    refine bC rfl Try.call44 (vs := #[.pointer (some ⟨gc, 0, none⟩), .int .i64 (9)]) rfl rfl rfl (dN 9 _ _ _ _ _ _ (CV.step hV H74.1 hF80) hn hs79) ?_
    rintro e84 W83 ⟨q76, rfl, hq77, Hn82⟩; refine ⟨_, rfl, ?_⟩
    have H85 := hfr81 _ _ Hn82; clear H74
    have hS86 := H85.blk 2 rfl; refine ⟨fun _ => hS86, ?_⟩
    refine bM (i := 5) kR ?_
    refine bC rfl Try.call122 (vs := #[.int .i64 (q76)]) rfl rfl rfl (jS q76 _) ?_
    rintro e91 W90 ⟨k87, v88, rfl, hu89⟩; refine ⟨_, rfl, ?_⟩
    have H92 := H85.no hu89; clear H85
    have hS93 := H92.blk 2 rfl; refine ⟨fun _ => hS93, ?_⟩
    refine bM (i := 6) kR ?_
    refine dD rfl Try.runUnderlying74 Try.sizeOf70 kD Try.zeroValue70 rfl rfl rfl rfl H92 ?_
    intro g_8_6 W94 hu95 Ha96; clear H92; clear hu95
    have hS98 := Ha96.blk 3 rfl; refine ⟨fun _ => hS98, ?_⟩
    refine bM (i := 7) kR ?_
    have H99 : St w F0 [hM aP (⟨k87, v88⟩ : GValue) [.int .i64 (k87), .int .i64 (v88)], hB g_8_6 70 #[.int .i64 (k87), .int .i64 (v88)], bF gc 157 A bs.length cb, hM bK X csX, hB g_1_4 69 (List.toArray csX), hB g_0_0 69 #[.int .i64 (0), .slice none 0 0, .slice none 0 0, .slice none 0 0, .slice none 0 0]] W94 := Ha96.add0 (q := hM aP (⟨k87, v88⟩ : GValue) [.int .i64 (k87), .int .i64 (v88)]) (lF _ No (⟨k87, v88⟩ : GValue)); clear Ha96
    have H100 : St w F0 [hB g_8_6 70 #[.int .i64 (k87), .int .i64 (v88)], hM aP (⟨k87, v88⟩ : GValue) [.int .i64 (k87), .int .i64 (v88)], bF gc 157 A bs.length cb, hM bK X csX, hB g_1_4 69 (List.toArray csX), hB g_0_0 69 #[.int .i64 (0), .slice none 0 0, .slice none 0 0, .slice none 0 0, .slice none 0 0]] W94 := H99.pick [1, 0, 2, 3, 4, 5] kD rfl; clear H99
    have H101 : St w F0 [hR aP 70 (.slice (some ⟨g_8_6, 0, none⟩) 1 1) ([(⟨k87, v88⟩ : GValue)]), bF gc 157 A bs.length cb, hM bK X csX, hB g_1_4 69 (List.toArray csX), hB g_0_0 69 #[.int .i64 (0), .slice none 0 0, .slice none 0 0, .slice none 0 0, .slice none 0 0]] W94 := H100.iG rfl; clear H100
    refine bC rfl Try.call121 (vs := #[.int .i64 (q65), .slice (some ⟨g_8_6, 0, none⟩) 1 1]) rfl rfl rfl (newObject_s q65 ([(⟨k87, v88⟩ : GValue)]) _ _ _ (H101.fU 0 rfl) (Nat.le_of_ble_eq_true rfl)) ?_
    rintro e105 W104 ⟨cs_8_7, rfl, hM102, hu103⟩; refine ⟨_, rfl, ?_⟩
    have H106 := H101.new (q := hM aL (objE q65 ([(⟨k87, v88⟩ : GValue)])) cs_8_7) hu103 hM102; clear H101
    have hS107 := H106.blk 4 rfl; refine ⟨fun _ => hS107, ?_⟩
    refine bM (i := 8) kR ?_
    have hes108 : bU (objE q65 ([(⟨k87, v88⟩ : GValue)])) ≤ 60 := by first | exact hent | exact Nat.le_of_ble_eq_true rfl
    have hb109 := addE_sz (objE q65 ([(⟨k87, v88⟩ : GValue)])) X
    refine bC rfl Try.call80 (vs := #[.agg (List.toArray csX), .agg (List.toArray cs_8_7)]) rfl rfl rfl (iX X (objE q65 ([(⟨k87, v88⟩ : GValue)])) _ _ _ (H106.kn 3 rfl) kO (H106.kn 0 rfl) kO) ?_
    rintro e113 W112 ⟨cs_8_8, rfl, hM110, hu111⟩; refine ⟨_, rfl, ?_⟩
    have H114 := H106.new (q := hM bK (dK (objE q65 ([(⟨k87, v88⟩ : GValue)])) X) cs_8_8) hu111 hM110; clear H106
    have hS115 := H114.blk 5 rfl; refine ⟨fun _ => hS115, ?_⟩
    refine aO (i := 9) rfl kR kR kR kR kR (fun _ _ _ h => h) rfl rfl hS115 (fun W' hs' => aF rfl) ?_
    refine aO (i := 10) rfl kR kR kR kR kR (fun _ _ _ h => h) rfl rfl hS115 (fun W' hs' => dY (v := .agg (List.toArray cs_8_8)) rfl rfl) ?_
    refine anyS_takeX (i := 11) rfl kR kR kR kR (fun _ _ _ h => h) rfl rfl (fun _ => hS115) (fun W' => dY (v := .int .i64 ((addN X.aC))) rfl rfl) ?_
    refine bM (i := 12) kR ?_
    have H119 : St w F0 [hB g_1_4 69 (List.toArray csX), hM bK (dK (objE q65 ([(⟨k87, v88⟩ : GValue)])) X) cs_8_8, hM aL (objE q65 ([(⟨k87, v88⟩ : GValue)])) cs_8_7, hR aP 70 (.slice (some ⟨g_8_6, 0, none⟩) 1 1) ([(⟨k87, v88⟩ : GValue)]), bF gc 157 A bs.length cb, hM bK X csX, hB g_0_0 69 #[.int .i64 (0), .slice none 0 0, .slice none 0 0, .slice none 0 0, .slice none 0 0]] W112 := H114.pick [5, 0, 1, 2, 3, 4, 6] kD rfl; clear H114
    refine bG rfl Try.sizeOf69 rfl rfl (dF (H119.kn 1 rfl)) (dF (H119.kn 5 rfl)) (fM (H119.kn 1 rfl)) H119 ?_
    intro W116 hu117 Ha118; clear H119; clear hu117
    refine ⟨fun h => absS kR h, ?_⟩
    refine cB kR ?_ _
    refine eP ?_
    refine eP ?_
    refine aK ?_
    refine aN [0, 1, 2] rfl ?_
    refine aA ?_
    refine aB rfl (aF rfl) rfl rfl ?_
    refine aA ?_
    refine aB rfl (rn_int (q := ((d - 1 : Nat) : Int)) kO (kF rfl rfl kO)) rfl rfl ?_
    refine aA ?_
    refine aB rfl (aR rfl) rfl rfl ?_
    refine aI ?_
    refine aK ?_
    exact (aZ [(0, .pointer (some ⟨gc, 0, none⟩)), (2, .pointer (some ⟨g_0_0, 0, none⟩)), (3, .pointer (some ⟨g_1_4, 0, none⟩)), (4, .int .i64 (((d - 1 : Nat) : Int)))] rfl).elim fun x' hx => ⟨r46 - 1, kO, d - 1, (dK (objE q65 ([(⟨k87, v88⟩ : GValue)])) X), cs_8_8, x', hx, kO, kO, (by first | exact hXL | exact hXL2), Ha118.pick [1, 0, 4, 6] kD rfl⟩
   ·refine wp_seq ?_
    refine aN [0, 1] rfl ?_
    refine aA ?_
    refine aB rfl (bS rfl rfl) rfl rfl ?_
    refine aA ?_
    refine aB rfl (aR rfl) rfl rfl ?_
    refine aI ?_
    refine aK ?_
    refine dB rfl (fun hc121 => ?_) (fun hc121 => ?_)
    ·refine dG (fun W' => Blk W' g_1_4 69 (List.toArray csX)) 6 kR ?_
     have H122 := H61.drew; clear H61
     have hS123 : Blk W59.drew g_1_4 69 (List.toArray csX) := H122.blk 2 rfl
     refine aO (i := 0) rfl kR kR kR kR kR (fun _ _ _ h => h) rfl rfl hS123 (fun W' hs' => bN Try.isAgg69 Try.sizeOf69 rfl hs' (dF (H122.kn 1 rfl))) ?_
     refine bM (i := 1) kR ?_
     refine bC rfl Try.call78 (vs := #[]) rfl rfl rfl (jC _) ?_
     rintro e127 W126 ⟨cs_10_1, rfl, hM124, hu125⟩; refine ⟨_, rfl, ?_⟩
     have H128 := H122.new (q := hM aL prm cs_10_1) hu125 hM124; clear H122
     have hS129 := H128.blk 3 rfl; refine ⟨fun _ => hS129, ?_⟩
     refine bM (i := 2) kR ?_
     have hes130 : bU prm ≤ 60 := by first | exact hent | exact Nat.le_of_ble_eq_true rfl
     have hb131 := addE_sz prm X
     refine bC rfl Try.call80 (vs := #[.agg (List.toArray csX), .agg (List.toArray cs_10_1)]) rfl rfl rfl (iX X prm _ _ _ (H128.kn 2 rfl) kO (H128.kn 0 rfl) kO) ?_
     rintro e135 W134 ⟨cs_10_2, rfl, hM132, hu133⟩; refine ⟨_, rfl, ?_⟩
     have H136 := H128.new (q := hM bK (dK prm X) cs_10_2) hu133 hM132; clear H128
     have hS137 := H136.blk 4 rfl; refine ⟨fun _ => hS137, ?_⟩
     refine aO (i := 3) rfl kR kR kR kR kR (fun _ _ _ h => h) rfl rfl hS137 (fun W' hs' => aF rfl) ?_
     refine aO (i := 4) rfl kR kR kR kR kR (fun _ _ _ h => h) rfl rfl hS137 (fun W' hs' => dY (v := .agg (List.toArray cs_10_2)) rfl rfl) ?_
     refine anyS_takeX (i := 5) rfl kR kR kR kR (fun _ _ _ h => h) rfl rfl (fun _ => hS137) (fun W' => dY (v := .int .i64 ((addN X.aC))) rfl rfl) ?_
     refine bM (i := 6) kR ?_
     have H141 : St w F0 [hB g_1_4 69 (List.toArray csX), hM bK (dK prm X) cs_10_2, hM aL prm cs_10_1, bF gc 157 A bs.length cb, hM bK X csX, hB g_0_0 69 #[.int .i64 (0), .slice none 0 0, .slice none 0 0, .slice none 0 0, .slice none 0 0]] W134 := H136.pick [4, 0, 1, 2, 3, 5] kD rfl; clear H136
     refine bG rfl Try.sizeOf69 rfl rfl (dF (H141.kn 1 rfl)) (dF (H141.kn 4 rfl)) (fM (H141.kn 1 rfl)) H141 ?_
     intro W138 hu139 Ha140; clear H141; clear hu139
     refine ⟨fun h => absS kR h, ?_⟩
     refine cB kR ?_ _
     refine eP ?_
     refine eP ?_
     refine aK ?_
     refine aN [0, 1, 2] rfl ?_
     refine aA ?_
     refine aB rfl (aF rfl) rfl rfl ?_
     refine aA ?_
     refine aB rfl (rn_int (q := ((d - 1 : Nat) : Int)) kO (kF rfl rfl kO)) rfl rfl ?_
     refine aA ?_
     refine aB rfl (aR rfl) rfl rfl ?_
     refine aI ?_
     refine aK ?_
     exact (aZ [(0, .pointer (some ⟨gc, 0, none⟩)), (2, .pointer (some ⟨g_0_0, 0, none⟩)), (3, .pointer (some ⟨g_1_4, 0, none⟩)), (4, .int .i64 (((d - 1 : Nat) : Int)))] rfl).elim fun x' hx => ⟨r46 - 1, kO, d - 1, (dK prm X), cs_10_2, x', hx, kO, kO, (by first | exact hXL | exact hXL2), Ha140.pick [1, 0, 3, 5] kD rfl⟩
    ·refine wp_seq ?_
     refine aN [0, 1] rfl ?_
     refine aA ?_
     refine aB rfl (bS rfl rfl) rfl rfl ?_
     refine aA ?_
     refine aB rfl (aR rfl) rfl rfl ?_
     refine aI ?_
     refine aK ?_
     refine dB rfl (fun hc143 => ?_) (fun hc143 => ?_)
     ·refine wp_seq ?_
      refine aN [0, 1, 2] rfl ?_
      refine aA ?_
      refine bC rfl Try.call78 (vs := #[]) rfl rfl rfl (jC _) ?_
      rintro e149 W148 ⟨cs144, rfl, hM145, hu146⟩; refine ⟨_, rfl, ?_⟩
      obtain ⟨B_12_0_2, c_12_0_2, B_12_0_6, c_12_0_6, B_12_0_7, c_12_0_7, rfl, hst147⟩ := gK hM145
      have H150 := H61.news hu146 hst147; clear H61
      refine aA ?_
      refine bP rfl Try.zeroValue77 rfl rfl H150 ?_
      intro g_12_1 W151 hu152 Ha153; clear H150; clear hu152
      refine aA ?_
      refine bG rfl Try.sizeOf77 rfl rfl rfl rfl kS Ha153 ?_
      intro W155 hu156 Ha157; clear Ha153; clear hu156
      refine aI ?_
      refine aK ?_
      refine wp_seq ?_
      refine aN [0, 1] rfl ?_
      refine aA ?_
      refine aB rfl (aU fV rfl) rfl rfl ?_
      refine aA ?_
      refine bR rfl Try.sizeOf3 rfl rfl rfl (Nat.le_of_ble_eq_true rfl) (by simp [Value.cells, Value.oneCell']) Ha157 ?_
      intro W159 hu160 Ha161; clear Ha157; clear hu160
      refine aI ?_
      refine aK ?_
      refine wp_seq ?_
      have H163 : St w F0 [hM bK X csX, hB g_12_1 77 #[.int .i64 (prm.Kind), .int .i64 (prm.Script), .slice B_12_0_2 prm.aM.length c_12_0_2, .int .i64 (2), .int .i64 (prm.Value.Kind), .int .i64 (prm.Value.N), .slice B_12_0_6 prm.Queue.length c_12_0_6, .slice B_12_0_7 prm.aG.length c_12_0_7, .int .i64 (prm.bD), .int .i64 (prm.Pos), .int .i64 (prm.Count), .int .i64 (prm.bJ)], hR aP 70 (.slice B_12_0_2 prm.aM.length c_12_0_2) prm.aM, hR aH 181 (.slice B_12_0_6 prm.Queue.length c_12_0_6) prm.Queue, hR aQ 155 (.slice B_12_0_7 prm.aG.length c_12_0_7) prm.aG, bF gc 157 A bs.length cb, hB g_1_4 69 (List.toArray csX), hB g_0_0 69 #[.int .i64 (0), .slice none 0 0, .slice none 0 0, .slice none 0 0, .slice none 0 0]] W159 := Ha161.pick [5, 0, 1, 2, 3, 4, 6, 7] kD rfl; clear Ha161
      obtain ⟨F164, hM165, hb166⟩ := H163.unM
      obtain ⟨B168, c169, B170, c171, B172, c173, B174, c175, rfl, hst167⟩ := fZ hM165
      have H176 : St w F0 [hR aL 77 (.slice B168 X.aC.length c169) X.aC, hR aH 181 (.slice B170 X.Loop.length c171) X.Loop, hR aW 138 (.slice B172 X.aJ.length c173) X.aJ, hR aS 150 (.slice B174 X.Out.length c175) X.Out, hB g_12_1 77 #[.int .i64 (prm.Kind), .int .i64 (prm.Script), .slice B_12_0_2 prm.aM.length c_12_0_2, .int .i64 (2), .int .i64 (prm.Value.Kind), .int .i64 (prm.Value.N), .slice B_12_0_6 prm.Queue.length c_12_0_6, .slice B_12_0_7 prm.aG.length c_12_0_7, .int .i64 (prm.bD), .int .i64 (prm.Pos), .int .i64 (prm.Count), .int .i64 (prm.bJ)], hR aP 70 (.slice B_12_0_2 prm.aM.length c_12_0_2) prm.aM, hR aH 181 (.slice B_12_0_6 prm.Queue.length c_12_0_6) prm.Queue, hR aQ 155 (.slice B_12_0_7 prm.aG.length c_12_0_7) prm.aG, bF gc 157 A bs.length cb, hB g_1_4 69 #[.int .i64 (X.Id), .slice B168 X.aC.length c169, .slice B170 X.Loop.length c171, .slice B172 X.aJ.length c173, .slice B174 X.Out.length c175], hB g_0_0 69 #[.int .i64 (0), .slice none 0 0, .slice none 0 0, .slice none 0 0, .slice none 0 0]] W159 := hb166 _ hst167; clear H163
      refine aN [0, 1, 2, 3, 4, 5, 6, 7] rfl ?_
      refine aA ?_
      refine aB rfl (aF rfl) rfl rfl ?_
      refine aA ?_
      refine aB rfl (aU eD rfl) rfl rfl ?_
      refine aA ?_
      refine aB rfl (bB (k := 1) (v := .slice B168 X.aC.length c169) Try.isAgg64 rfl (H176.blk 9 rfl) rfl) rfl rfl ?_
      refine aA ?_
      refine aB rfl (dP Try.runUnderlying64 rfl) rfl rfl ?_
      refine aA ?_
      have H179 : St w F0 [bF gc 157 A bs.length cb, hR aL 77 (.slice B168 X.aC.length c169) X.aC, hR aH 181 (.slice B170 X.Loop.length c171) X.Loop, hR aW 138 (.slice B172 X.aJ.length c173) X.aJ, hR aS 150 (.slice B174 X.Out.length c175) X.Out, hB g_12_1 77 #[.int .i64 (prm.Kind), .int .i64 (prm.Script), .slice B_12_0_2 prm.aM.length c_12_0_2, .int .i64 (2), .int .i64 (prm.Value.Kind), .int .i64 (prm.Value.N), .slice B_12_0_6 prm.Queue.length c_12_0_6, .slice B_12_0_7 prm.aG.length c_12_0_7, .int .i64 (prm.bD), .int .i64 (prm.Pos), .int .i64 (prm.Count), .int .i64 (prm.bJ)], hR aP 70 (.slice B_12_0_2 prm.aM.length c_12_0_2) prm.aM, hR aH 181 (.slice B_12_0_6 prm.Queue.length c_12_0_6) prm.Queue, hR aQ 155 (.slice B_12_0_7 prm.aG.length c_12_0_7) prm.aG, hB g_1_4 69 #[.int .i64 (X.Id), .slice B168 X.aC.length c169, .slice B170 X.Loop.length c171, .slice B172 X.aJ.length c173, .slice B174 X.Out.length c175], hB g_0_0 69 #[.int .i64 (0), .slice none 0 0, .slice none 0 0, .slice none 0 0, .slice none 0 0]] W159 := H176.pick [8, 0, 1, 2, 3, 4, 5, 6, 7, 9, 10] kD rfl; clear H176
      obtain ⟨F180, hs181, hF182, hfr183⟩ := St.frame (l0 := [bF gc 157 A bs.length cb]) (l := [hR aL 77 (.slice B168 X.aC.length c169) X.aC, hR aH 181 (.slice B170 X.Loop.length c171) X.Loop, hR aW 138 (.slice B172 X.aJ.length c173) X.aJ, hR aS 150 (.slice B174 X.Out.length c175) X.Out, hB g_12_1 77 #[.int .i64 (prm.Kind), .int .i64 (prm.Script), .slice B_12_0_2 prm.aM.length c_12_0_2, .int .i64 (2), .int .i64 (prm.Value.Kind), .int .i64 (prm.Value.N), .slice B_12_0_6 prm.Queue.length c_12_0_6, .slice B_12_0_7 prm.aG.length c_12_0_7, .int .i64 (prm.bD), .int .i64 (prm.Pos), .int .i64 (prm.Count), .int .i64 (prm.bJ)], hR aP 70 (.slice B_12_0_2 prm.aM.length c_12_0_2) prm.aM, hR aH 181 (.slice B_12_0_6 prm.Queue.length c_12_0_6) prm.Queue, hR aQ 155 (.slice B_12_0_7 prm.aG.length c_12_0_7) prm.aG, hB g_1_4 69 #[.int .i64 (X.Id), .slice B168 X.aC.length c169, .slice B170 X.Loop.length c171, .slice B172 X.aJ.length c173, .slice B174 X.Out.length c175], hB g_0_0 69 #[.int .i64 (0), .slice none 0 0, .slice none 0 0, .slice none 0 0, .slice none 0 0]]) H179
      refine bC rfl Try.call44 (vs := #[.pointer (some ⟨gc, 0, none⟩), .int .i64 ((X.aC.length : Nat))]) rfl rfl rfl (dN (X.aC.length : Nat) _ _ _ _ _ _ (CV.step hV H179.1 hF182) hn hs181) ?_
      rintro e186 W185 ⟨q177, rfl, hq178, Hn184⟩; refine ⟨_, rfl, ?_⟩
      have H187 := hfr183 _ _ Hn184; clear H179
      refine aA ?_
      refine bC rfl Try.call79 (vs := #[.int .i64 (q177)]) rfl rfl rfl (refValue_w q177 _) ?_
      rintro e192 W191 ⟨k188, v189, rfl, hu190⟩; refine ⟨_, rfl, ?_⟩
      have H193 := H187.no hu190; clear H187
      refine aA ?_
      refine aB rfl (aU kI rfl) rfl rfl ?_
      refine aA ?_
      have H197 : St w F0 [hB g_12_1 77 #[.int .i64 (prm.Kind), .int .i64 (prm.Script), .slice B_12_0_2 prm.aM.length c_12_0_2, .int .i64 (2), .int .i64 (prm.Value.Kind), .int .i64 (prm.Value.N), .slice B_12_0_6 prm.Queue.length c_12_0_6, .slice B_12_0_7 prm.aG.length c_12_0_7, .int .i64 (prm.bD), .int .i64 (prm.Pos), .int .i64 (prm.Count), .int .i64 (prm.bJ)], bF gc 157 A bs.length cb, hR aL 77 (.slice B168 X.aC.length c169) X.aC, hR aH 181 (.slice B170 X.Loop.length c171) X.Loop, hR aW 138 (.slice B172 X.aJ.length c173) X.aJ, hR aS 150 (.slice B174 X.Out.length c175) X.Out, hR aP 70 (.slice B_12_0_2 prm.aM.length c_12_0_2) prm.aM, hR aH 181 (.slice B_12_0_6 prm.Queue.length c_12_0_6) prm.Queue, hR aQ 155 (.slice B_12_0_7 prm.aG.length c_12_0_7) prm.aG, hB g_1_4 69 #[.int .i64 (X.Id), .slice B168 X.aC.length c169, .slice B170 X.Loop.length c171, .slice B172 X.aJ.length c173, .slice B174 X.Out.length c175], hB g_0_0 69 #[.int .i64 (0), .slice none 0 0, .slice none 0 0, .slice none 0 0, .slice none 0 0]] W191 := H193.pick [5, 0, 1, 2, 3, 4, 6, 7, 8, 9, 10] kD rfl; clear H193
      refine bR rfl Try.sizeOf70 rfl rfl rfl (Nat.le_of_ble_eq_true rfl) (by simp [Value.cells, Value.oneCell']) H197 ?_
      intro W194 hu195 Ha196; clear H197; clear hu195
      refine aI ?_
      refine aK ?_
      refine wp_seq ?_
      refine wp_seq ?_
      refine aN [0, 1] rfl ?_
      refine aA ?_
      refine aB rfl (aF rfl) rfl rfl ?_
      refine aA ?_
      have H200 : St w F0 [bF gc 157 A bs.length cb, hB g_12_1 77 #[.int .i64 (prm.Kind), .int .i64 (prm.Script), .slice B_12_0_2 prm.aM.length c_12_0_2, .int .i64 (2), .int .i64 (k188), .int .i64 (v189), .slice B_12_0_6 prm.Queue.length c_12_0_6, .slice B_12_0_7 prm.aG.length c_12_0_7, .int .i64 (prm.bD), .int .i64 (prm.Pos), .int .i64 (prm.Count), .int .i64 (prm.bJ)], hR aL 77 (.slice B168 X.aC.length c169) X.aC, hR aH 181 (.slice B170 X.Loop.length c171) X.Loop, hR aW 138 (.slice B172 X.aJ.length c173) X.aJ, hR aS 150 (.slice B174 X.Out.length c175) X.Out, hR aP 70 (.slice B_12_0_2 prm.aM.length c_12_0_2) prm.aM, hR aH 181 (.slice B_12_0_6 prm.Queue.length c_12_0_6) prm.Queue, hR aQ 155 (.slice B_12_0_7 prm.aG.length c_12_0_7) prm.aG, hB g_1_4 69 #[.int .i64 (X.Id), .slice B168 X.aC.length c169, .slice B170 X.Loop.length c171, .slice B172 X.aJ.length c173, .slice B174 X.Out.length c175], hB g_0_0 69 #[.int .i64 (0), .slice none 0 0, .slice none 0 0, .slice none 0 0, .slice none 0 0]] W194 := Ha196.pick [1, 0, 2, 3, 4, 5, 6, 7, 8, 9, 10] kD rfl; clear Ha196
      obtain ⟨F201, hs202, hF203, hfr204⟩ := St.frame (l0 := [bF gc 157 A bs.length cb]) (l := [hB g_12_1 77 #[.int .i64 (prm.Kind), .int .i64 (prm.Script), .slice B_12_0_2 prm.aM.length c_12_0_2, .int .i64 (2), .int .i64 (k188), .int .i64 (v189), .slice B_12_0_6 prm.Queue.length c_12_0_6, .slice B_12_0_7 prm.aG.length c_12_0_7, .int .i64 (prm.bD), .int .i64 (prm.Pos), .int .i64 (prm.Count), .int .i64 (prm.bJ)], hR aL 77 (.slice B168 X.aC.length c169) X.aC, hR aH 181 (.slice B170 X.Loop.length c171) X.Loop, hR aW 138 (.slice B172 X.aJ.length c173) X.aJ, hR aS 150 (.slice B174 X.Out.length c175) X.Out, hR aP 70 (.slice B_12_0_2 prm.aM.length c_12_0_2) prm.aM, hR aH 181 (.slice B_12_0_6 prm.Queue.length c_12_0_6) prm.Queue, hR aQ 155 (.slice B_12_0_7 prm.aG.length c_12_0_7) prm.aG, hB g_1_4 69 #[.int .i64 (X.Id), .slice B168 X.aC.length c169, .slice B170 X.Loop.length c171, .slice B172 X.aJ.length c173, .slice B174 X.Out.length c175], hB g_0_0 69 #[.int .i64 (0), .slice none 0 0, .slice none 0 0, .slice none 0 0, .slice none 0 0]]) H200
      refine bC rfl Try.call43 (vs := #[.pointer (some ⟨gc, 0, none⟩), .int .i64 (3)]) rfl rfl rfl (jR 3 _ _ _ _ _ _ (CV.step hV H200.1 hF203) hn hs202) ?_
      rintro e207 W206 ⟨b199, rfl, Hn205⟩; refine ⟨_, rfl, ?_⟩
      have H208 := hfr204 _ _ Hn205; clear H200
      refine aI ?_
      refine aK ?_
      refine jO (b := b199) rfl (fun hc209 => ?_) (fun hc209 => ?_)
      ·refine aN [0, 1, 2, 3, 4] rfl ?_
       refine aA ?_
       refine aB rfl (aF rfl) rfl rfl ?_
       refine aA ?_
       obtain ⟨F212, hs213, hF214, hfr215⟩ := St.frame (l0 := [bF gc 157 A bs.length cb]) (l := [hB g_12_1 77 #[.int .i64 (prm.Kind), .int .i64 (prm.Script), .slice B_12_0_2 prm.aM.length c_12_0_2, .int .i64 (2), .int .i64 (k188), .int .i64 (v189), .slice B_12_0_6 prm.Queue.length c_12_0_6, .slice B_12_0_7 prm.aG.length c_12_0_7, .int .i64 (prm.bD), .int .i64 (prm.Pos), .int .i64 (prm.Count), .int .i64 (prm.bJ)], hR aL 77 (.slice B168 X.aC.length c169) X.aC, hR aH 181 (.slice B170 X.Loop.length c171) X.Loop, hR aW 138 (.slice B172 X.aJ.length c173) X.aJ, hR aS 150 (.slice B174 X.Out.length c175) X.Out, hR aP 70 (.slice B_12_0_2 prm.aM.length c_12_0_2) prm.aM, hR aH 181 (.slice B_12_0_6 prm.Queue.length c_12_0_6) prm.Queue, hR aQ 155 (.slice B_12_0_7 prm.aG.length c_12_0_7) prm.aG, hB g_1_4 69 #[.int .i64 (X.Id), .slice B168 X.aC.length c169, .slice B170 X.Loop.length c171, .slice B172 X.aJ.length c173, .slice B174 X.Out.length c175], hB g_0_0 69 #[.int .i64 (0), .slice none 0 0, .slice none 0 0, .slice none 0 0, .slice none 0 0]]) H208
       refine bC rfl Try.call44 (vs := #[.pointer (some ⟨gc, 0, none⟩), .int .i64 (9)]) rfl rfl rfl (dN 9 _ _ _ _ _ _ (CV.step hV H208.1 hF214) hn hs213) ?_
       rintro e218 W217 ⟨q210, rfl, hq211, Hn216⟩; refine ⟨_, rfl, ?_⟩
       have H219 := hfr215 _ _ Hn216; clear H208
       refine aA ?_
       refine bC rfl Try.call122 (vs := #[.int .i64 (q210)]) rfl rfl rfl (jS q210 _) ?_
       rintro e224 W223 ⟨k220, v221, rfl, hu222⟩; refine ⟨_, rfl, ?_⟩
       have H225 := H219.no hu222; clear H219
       refine aA ?_
       refine aB rfl (aU kI rfl) rfl rfl ?_
       refine aA ?_
       have H229 : St w F0 [hB g_12_1 77 #[.int .i64 (prm.Kind), .int .i64 (prm.Script), .slice B_12_0_2 prm.aM.length c_12_0_2, .int .i64 (2), .int .i64 (k188), .int .i64 (v189), .slice B_12_0_6 prm.Queue.length c_12_0_6, .slice B_12_0_7 prm.aG.length c_12_0_7, .int .i64 (prm.bD), .int .i64 (prm.Pos), .int .i64 (prm.Count), .int .i64 (prm.bJ)], bF gc 157 A bs.length cb, hR aL 77 (.slice B168 X.aC.length c169) X.aC, hR aH 181 (.slice B170 X.Loop.length c171) X.Loop, hR aW 138 (.slice B172 X.aJ.length c173) X.aJ, hR aS 150 (.slice B174 X.Out.length c175) X.Out, hR aP 70 (.slice B_12_0_2 prm.aM.length c_12_0_2) prm.aM, hR aH 181 (.slice B_12_0_6 prm.Queue.length c_12_0_6) prm.Queue, hR aQ 155 (.slice B_12_0_7 prm.aG.length c_12_0_7) prm.aG, hB g_1_4 69 #[.int .i64 (X.Id), .slice B168 X.aC.length c169, .slice B170 X.Loop.length c171, .slice B172 X.aJ.length c173, .slice B174 X.Out.length c175], hB g_0_0 69 #[.int .i64 (0), .slice none 0 0, .slice none 0 0, .slice none 0 0, .slice none 0 0]] W223 := H225.pick [1, 0, 2, 3, 4, 5, 6, 7, 8, 9, 10] kD rfl; clear H225
       refine bR rfl Try.sizeOf70 rfl rfl rfl (Nat.le_of_ble_eq_true rfl) (by simp [Value.cells, Value.oneCell']) H229 ?_
       intro W226 hu227 Ha228; clear H229; clear hu227
       refine aI ?_
       refine aK ?_
       refine aN [0, 1, 2, 3, 4, 5, 6] rfl ?_
       refine aA ?_
       refine aB rfl (bN Try.isAgg69 Try.sizeOf69 rfl (Ha228.blk 9 rfl) rfl) rfl rfl ?_
       refine aA ?_
       refine aB rfl (bN Try.isAgg77 Try.sizeOf77 rfl (Ha228.blk 0 rfl) rfl) rfl rfl ?_
       refine aA ?_
       have hes231 : bU (⟨prm.Kind, prm.Script, prm.aM, 2, (⟨k220, v221⟩ : GValue), prm.Queue, prm.aG, prm.bD, prm.Pos, prm.Count, prm.bJ⟩ : GEntity) ≤ 60 := by first | exact hent | exact Nat.le_of_ble_eq_true rfl
       have hb232 := addE_sz (⟨prm.Kind, prm.Script, prm.aM, 2, (⟨k220, v221⟩ : GValue), prm.Queue, prm.aG, prm.bD, prm.Pos, prm.Count, prm.bJ⟩ : GEntity) X
       refine bC rfl Try.call80 (vs := #[.agg #[.int .i64 (X.Id), .slice B168 X.aC.length c169, .slice B170 X.Loop.length c171, .slice B172 X.aJ.length c173, .slice B174 X.Out.length c175], .agg #[.int .i64 (prm.Kind), .int .i64 (prm.Script), .slice B_12_0_2 prm.aM.length c_12_0_2, .int .i64 (2), .int .i64 (k220), .int .i64 (v221), .slice B_12_0_6 prm.Queue.length c_12_0_6, .slice B_12_0_7 prm.aG.length c_12_0_7, .int .i64 (prm.bD), .int .i64 (prm.Pos), .int .i64 (prm.Count), .int .i64 (prm.bJ)]]) rfl rfl rfl (iX X (⟨prm.Kind, prm.Script, prm.aM, 2, (⟨k220, v221⟩ : GValue), prm.Queue, prm.aG, prm.bD, prm.Pos, prm.Count, prm.bJ⟩ : GEntity) _ _ _ (gZ _ X (Ha228.fE 2 rfl).1 (Ha228.fU 2 rfl) (Ha228.fE 3 rfl).1 (Ha228.fU 3 rfl) (Ha228.fE 4 rfl).1 (Ha228.fU 4 rfl) (Ha228.fE 5 rfl).1 (Ha228.fU 5 rfl)) kO (jG _ (⟨prm.Kind, prm.Script, prm.aM, 2, (⟨k220, v221⟩ : GValue), prm.Queue, prm.aG, prm.bD, prm.Pos, prm.Count, prm.bJ⟩ : GEntity) (Ha228.fE 6 rfl).1 (Ha228.fU 6 rfl) (Ha228.fE 7 rfl).1 (Ha228.fU 7 rfl) (Ha228.fE 8 rfl).1 (Ha228.fU 8 rfl)) kO) ?_
       rintro e236 W235 ⟨cs_17_2, rfl, hM233, hu234⟩; refine ⟨_, rfl, ?_⟩
       have H237 := Ha228.new (q := hM bK (dK (⟨prm.Kind, prm.Script, prm.aM, 2, (⟨k220, v221⟩ : GValue), prm.Queue, prm.aG, prm.bD, prm.Pos, prm.Count, prm.bJ⟩ : GEntity) X) cs_17_2) hu234 hM233; clear Ha228
       refine aA ?_
       refine aB rfl (aF rfl) rfl rfl ?_
       refine aA ?_
       refine aB rfl (dY (v := .agg (List.toArray cs_17_2)) rfl rfl) rfl rfl ?_
       refine aA ?_
       refine aB rfl (dY (v := .int .i64 ((addN X.aC))) rfl rfl) rfl rfl ?_
       refine aA ?_
       have H241 : St w F0 [hB g_1_4 69 #[.int .i64 (X.Id), .slice B168 X.aC.length c169, .slice B170 X.Loop.length c171, .slice B172 X.aJ.length c173, .slice B174 X.Out.length c175], hM bK (dK (⟨prm.Kind, prm.Script, prm.aM, 2, (⟨k220, v221⟩ : GValue), prm.Queue, prm.aG, prm.bD, prm.Pos, prm.Count, prm.bJ⟩ : GEntity) X) cs_17_2, hB g_12_1 77 #[.int .i64 (prm.Kind), .int .i64 (prm.Script), .slice B_12_0_2 prm.aM.length c_12_0_2, .int .i64 (2), .int .i64 (k220), .int .i64 (v221), .slice B_12_0_6 prm.Queue.length c_12_0_6, .slice B_12_0_7 prm.aG.length c_12_0_7, .int .i64 (prm.bD), .int .i64 (prm.Pos), .int .i64 (prm.Count), .int .i64 (prm.bJ)], bF gc 157 A bs.length cb, hR aL 77 (.slice B168 X.aC.length c169) X.aC, hR aH 181 (.slice B170 X.Loop.length c171) X.Loop, hR aW 138 (.slice B172 X.aJ.length c173) X.aJ, hR aS 150 (.slice B174 X.Out.length c175) X.Out, hR aP 70 (.slice B_12_0_2 prm.aM.length c_12_0_2) prm.aM, hR aH 181 (.slice B_12_0_6 prm.Queue.length c_12_0_6) prm.Queue, hR aQ 155 (.slice B_12_0_7 prm.aG.length c_12_0_7) prm.aG, hB g_0_0 69 #[.int .i64 (0), .slice none 0 0, .slice none 0 0, .slice none 0 0, .slice none 0 0]] W235 := H237.pick [10, 0, 1, 2, 3, 4, 5, 6, 7, 8, 9, 11] kD rfl; clear H237
       refine bG rfl Try.sizeOf69 rfl rfl (dF (H241.kn 1 rfl)) rfl (fM (H241.kn 1 rfl)) H241 ?_
       intro W238 hu239 Ha240; clear H241; clear hu239
       refine aI ?_
       refine eP ?_
       refine eP ?_
       refine aK ?_
       refine aN [0, 1, 2] rfl ?_
       refine aA ?_
       refine aB rfl (aF rfl) rfl rfl ?_
       refine aA ?_
       refine aB rfl (rn_int (q := ((d - 1 : Nat) : Int)) kO (kF rfl rfl kO)) rfl rfl ?_
       refine aA ?_
       refine aB rfl (aR rfl) rfl rfl ?_
       refine aI ?_
       refine aK ?_
       exact (aZ [(0, .pointer (some ⟨gc, 0, none⟩)), (2, .pointer (some ⟨g_0_0, 0, none⟩)), (3, .pointer (some ⟨g_1_4, 0, none⟩)), (4, .int .i64 (((d - 1 : Nat) : Int)))] rfl).elim fun x' hx => ⟨r46 - 1, kO, d - 1, (dK (⟨prm.Kind, prm.Script, prm.aM, 2, (⟨k220, v221⟩ : GValue), prm.Queue, prm.aG, prm.bD, prm.Pos, prm.Count, prm.bJ⟩ : GEntity) X), cs_17_2, x', hx, kO, kO, (by first | exact hXL | exact hXL2), Ha240.pick [1, 0, 3, 11] kD rfl⟩
      ·refine wp_skip ?_
       refine aK ?_
       refine aN [0, 1, 2, 3, 4, 5, 6] rfl ?_
       refine aA ?_
       refine aB rfl (bN Try.isAgg69 Try.sizeOf69 rfl (H208.blk 9 rfl) rfl) rfl rfl ?_
       refine aA ?_
       refine aB rfl (bN Try.isAgg77 Try.sizeOf77 rfl (H208.blk 1 rfl) rfl) rfl rfl ?_
       refine aA ?_
       have hes243 : bU (⟨prm.Kind, prm.Script, prm.aM, 2, (⟨k188, v189⟩ : GValue), prm.Queue, prm.aG, prm.bD, prm.Pos, prm.Count, prm.bJ⟩ : GEntity) ≤ 60 := by first | exact hent | exact Nat.le_of_ble_eq_true rfl
       have hb244 := addE_sz (⟨prm.Kind, prm.Script, prm.aM, 2, (⟨k188, v189⟩ : GValue), prm.Queue, prm.aG, prm.bD, prm.Pos, prm.Count, prm.bJ⟩ : GEntity) X
       refine bC rfl Try.call80 (vs := #[.agg #[.int .i64 (X.Id), .slice B168 X.aC.length c169, .slice B170 X.Loop.length c171, .slice B172 X.aJ.length c173, .slice B174 X.Out.length c175], .agg #[.int .i64 (prm.Kind), .int .i64 (prm.Script), .slice B_12_0_2 prm.aM.length c_12_0_2, .int .i64 (2), .int .i64 (k188), .int .i64 (v189), .slice B_12_0_6 prm.Queue.length c_12_0_6, .slice B_12_0_7 prm.aG.length c_12_0_7, .int .i64 (prm.bD), .int .i64 (prm.Pos), .int .i64 (prm.Count), .int .i64 (prm.bJ)]]) rfl rfl rfl (iX X (⟨prm.Kind, prm.Script, prm.aM, 2, (⟨k188, v189⟩ : GValue), prm.Queue, prm.aG, prm.bD, prm.Pos, prm.Count, prm.bJ⟩ : GEntity) _ _ _ (gZ _ X (H208.fE 2 rfl).1 (H208.fU 2 rfl) (H208.fE 3 rfl).1 (H208.fU 3 rfl) (H208.fE 4 rfl).1 (H208.fU 4 rfl) (H208.fE 5 rfl).1 (H208.fU 5 rfl)) kO (jG _ (⟨prm.Kind, prm.Script, prm.aM, 2, (⟨k188, v189⟩ : GValue), prm.Queue, prm.aG, prm.bD, prm.Pos, prm.Count, prm.bJ⟩ : GEntity) (H208.fE 6 rfl).1 (H208.fU 6 rfl) (H208.fE 7 rfl).1 (H208.fU 7 rfl) (H208.fE 8 rfl).1 (H208.fU 8 rfl)) kO) ?_
       rintro e248 W247 ⟨cs_17_2, rfl, hM245, hu246⟩; refine ⟨_, rfl, ?_⟩
       have H249 := H208.new (q := hM bK (dK (⟨prm.Kind, prm.Script, prm.aM, 2, (⟨k188, v189⟩ : GValue), prm.Queue, prm.aG, prm.bD, prm.Pos, prm.Count, prm.bJ⟩ : GEntity) X) cs_17_2) hu246 hM245; clear H208
       refine aA ?_
       refine aB rfl (aF rfl) rfl rfl ?_
       refine aA ?_
       refine aB rfl (dY (v := .agg (List.toArray cs_17_2)) rfl rfl) rfl rfl ?_
       refine aA ?_
       refine aB rfl (dY (v := .int .i64 ((addN X.aC))) rfl rfl) rfl rfl ?_
       refine aA ?_
       have H253 : St w F0 [hB g_1_4 69 #[.int .i64 (X.Id), .slice B168 X.aC.length c169, .slice B170 X.Loop.length c171, .slice B172 X.aJ.length c173, .slice B174 X.Out.length c175], hM bK (dK (⟨prm.Kind, prm.Script, prm.aM, 2, (⟨k188, v189⟩ : GValue), prm.Queue, prm.aG, prm.bD, prm.Pos, prm.Count, prm.bJ⟩ : GEntity) X) cs_17_2, bF gc 157 A bs.length cb, hB g_12_1 77 #[.int .i64 (prm.Kind), .int .i64 (prm.Script), .slice B_12_0_2 prm.aM.length c_12_0_2, .int .i64 (2), .int .i64 (k188), .int .i64 (v189), .slice B_12_0_6 prm.Queue.length c_12_0_6, .slice B_12_0_7 prm.aG.length c_12_0_7, .int .i64 (prm.bD), .int .i64 (prm.Pos), .int .i64 (prm.Count), .int .i64 (prm.bJ)], hR aL 77 (.slice B168 X.aC.length c169) X.aC, hR aH 181 (.slice B170 X.Loop.length c171) X.Loop, hR aW 138 (.slice B172 X.aJ.length c173) X.aJ, hR aS 150 (.slice B174 X.Out.length c175) X.Out, hR aP 70 (.slice B_12_0_2 prm.aM.length c_12_0_2) prm.aM, hR aH 181 (.slice B_12_0_6 prm.Queue.length c_12_0_6) prm.Queue, hR aQ 155 (.slice B_12_0_7 prm.aG.length c_12_0_7) prm.aG, hB g_0_0 69 #[.int .i64 (0), .slice none 0 0, .slice none 0 0, .slice none 0 0, .slice none 0 0]] W247 := H249.pick [10, 0, 1, 2, 3, 4, 5, 6, 7, 8, 9, 11] kD rfl; clear H249
       refine bG rfl Try.sizeOf69 rfl rfl (dF (H253.kn 1 rfl)) rfl (fM (H253.kn 1 rfl)) H253 ?_
       intro W250 hu251 Ha252; clear H253; clear hu251
       refine aI ?_
       refine eP ?_
       refine eP ?_
       refine aK ?_
       refine aN [0, 1, 2] rfl ?_
       refine aA ?_
       refine aB rfl (aF rfl) rfl rfl ?_
       refine aA ?_
       refine aB rfl (rn_int (q := ((d - 1 : Nat) : Int)) kO (kF rfl rfl kO)) rfl rfl ?_
       refine aA ?_
       refine aB rfl (aR rfl) rfl rfl ?_
       refine aI ?_
       refine aK ?_
       exact (aZ [(0, .pointer (some ⟨gc, 0, none⟩)), (2, .pointer (some ⟨g_0_0, 0, none⟩)), (3, .pointer (some ⟨g_1_4, 0, none⟩)), (4, .int .i64 (((d - 1 : Nat) : Int)))] rfl).elim fun x' hx => ⟨r46 - 1, kO, d - 1, (dK (⟨prm.Kind, prm.Script, prm.aM, 2, (⟨k188, v189⟩ : GValue), prm.Queue, prm.aG, prm.bD, prm.Pos, prm.Count, prm.bJ⟩ : GEntity) X), cs_17_2, x', hx, kO, kO, (by first | exact hXL | exact hXL2), Ha252.pick [1, 0, 2, 11] kD rfl⟩
     ·refine wp_seq ?_
      refine aN [0, 1] rfl ?_
      refine aA ?_
      refine aB rfl (bS rfl rfl) rfl rfl ?_
      refine aA ?_
      refine aB rfl (aR rfl) rfl rfl ?_
      refine aI ?_
      refine aK ?_
      refine dB rfl (fun hc255 => ?_) (fun hc255 => ?_)
      ·refine wp_seq ?_
       refine aN [0, 1, 2] rfl ?_
       refine aA ?_
       refine aB rfl (aF rfl) rfl rfl ?_
       refine aA ?_
       obtain ⟨F259, hs260, hF261, hfr262⟩ := St.frame (l0 := [bF gc 157 A bs.length cb]) (l := [hM bK X csX, hB g_1_4 69 (List.toArray csX), hB g_0_0 69 #[.int .i64 (0), .slice none 0 0, .slice none 0 0, .slice none 0 0, .slice none 0 0]]) H61
       refine bC rfl Try.call44 (vs := #[.pointer (some ⟨gc, 0, none⟩), .int .i64 (2)]) rfl rfl rfl (dN 2 _ _ _ _ _ _ (CV.step hV H61.1 hF261) hn hs260) ?_
       rintro e265 W264 ⟨q256, rfl, hq257, Hn263⟩; refine ⟨_, rfl, ?_⟩
       have H266 := hfr262 _ _ Hn263; clear H61
       obtain ⟨n258, rfl⟩ : ∃ z : Nat, q256 = z := ⟨q256.toNat, by omega⟩
       refine aA ?_
       refine aB rfl (aR rfl) rfl rfl ?_
       refine aI ?_
       refine aK ?_
       refine wp_seq ?_
       have H267 : St w F0 [hM bK X csX, bF gc 157 A bs.length cb, hB g_1_4 69 (List.toArray csX), hB g_0_0 69 #[.int .i64 (0), .slice none 0 0, .slice none 0 0, .slice none 0 0, .slice none 0 0]] W264 := H266.pick [1, 0, 2, 3] kD rfl; clear H266
       obtain ⟨F268, hM269, hb270⟩ := H267.unM
       obtain ⟨B272, c273, B274, c275, B276, c277, B278, c279, rfl, hst271⟩ := fZ hM269
       have H280 : St w F0 [hR aL 77 (.slice B272 X.aC.length c273) X.aC, hR aH 181 (.slice B274 X.Loop.length c275) X.Loop, hR aW 138 (.slice B276 X.aJ.length c277) X.aJ, hR aS 150 (.slice B278 X.Out.length c279) X.Out, bF gc 157 A bs.length cb, hB g_1_4 69 #[.int .i64 (X.Id), .slice B272 X.aC.length c273, .slice B274 X.Loop.length c275, .slice B276 X.aJ.length c277, .slice B278 X.Out.length c279], hB g_0_0 69 #[.int .i64 (0), .slice none 0 0, .slice none 0 0, .slice none 0 0, .slice none 0 0]] W264 := hb270 _ hst271; clear H267
       refine aN [0, 1, 2, 3] rfl ?_
       refine aA ?_
       refine aB rfl (aU eD rfl) rfl rfl ?_
       refine aA ?_
       refine aB rfl (bB (k := 1) (v := .slice B272 X.aC.length c273) Try.isAgg64 rfl (H280.blk 5 rfl) rfl) rfl rfl ?_
       refine aA ?_
       refine aB rfl (dP Try.runUnderlying64 rfl) rfl rfl ?_
       refine aA ?_
       refine aB rfl (aR rfl) rfl rfl ?_
       refine aI ?_
       refine aK ?_
       refine wp_seq ?_
       have hltn : n258 < X.aJ.length := by omega
       have hlka := lk_at X n258 hltn
       have H281 : St w F0 [hR aW 138 (.slice B276 X.aJ.length c277) X.aJ, hR aL 77 (.slice B272 X.aC.length c273) X.aC, hR aH 181 (.slice B274 X.Loop.length c275) X.Loop, hR aS 150 (.slice B278 X.Out.length c279) X.Out, bF gc 157 A bs.length cb, hB g_1_4 69 #[.int .i64 (X.Id), .slice B272 X.aC.length c273, .slice B274 X.Loop.length c275, .slice B276 X.aJ.length c277, .slice B278 X.Out.length c279], hB g_0_0 69 #[.int .i64 (0), .slice none 0 0, .slice none 0 0, .slice none 0 0, .slice none 0 0]] W264 := H280.pick [2, 0, 1, 3, 4, 5, 6] kD rfl; clear H280
       obtain ⟨gf282, rfl⟩ := H281.openS (q := n258) hltn
       obtain ⟨ce283, hn284, H285⟩ := H281.openG (q := n258) hltn; clear H281
       have H286 : St w F0 [hE aW 138 gf282 c277 n258 ce283 X.aJ, hM aW (X.aJ[n258]) ce283, hR aL 77 (.slice B272 X.aC.length c273) X.aC, hR aH 181 (.slice B274 X.Loop.length c275) X.Loop, hR aS 150 (.slice B278 X.Out.length c279) X.Out, bF gc 157 A bs.length cb, hB g_1_4 69 #[.int .i64 (X.Id), .slice B272 X.aC.length c273, .slice B274 X.Loop.length c275, .slice (some ⟨gf282, 0, none⟩) X.aJ.length c277, .slice B278 X.Out.length c279], hB g_0_0 69 #[.int .i64 (0), .slice none 0 0, .slice none 0 0, .slice none 0 0, .slice none 0 0]] W264 := H285; clear H285
       have H297 : St w F0 [hM aW (X.aJ[n258]) ce283, hE aW 138 gf282 c277 n258 ce283 X.aJ, hR aL 77 (.slice B272 X.aC.length c273) X.aC, hR aH 181 (.slice B274 X.Loop.length c275) X.Loop, hR aS 150 (.slice B278 X.Out.length c279) X.Out, bF gc 157 A bs.length cb, hB g_1_4 69 #[.int .i64 (X.Id), .slice B272 X.aC.length c273, .slice B274 X.Loop.length c275, .slice (some ⟨gf282, 0, none⟩) X.aJ.length c277, .slice B278 X.Out.length c279], hB g_0_0 69 #[.int .i64 (0), .slice none 0 0, .slice none 0 0, .slice none 0 0, .slice none 0 0]] W264 := H286.pick [1, 0, 2, 3, 4, 5, 6, 7] kD rfl; clear H286
       obtain ⟨F287, hM288, hb289⟩ := H297.unM
       obtain ⟨B291, c292, B293, c294, B295, c296, rfl, hst290⟩ := jB hM288
       have H298 : St w F0 [hR bE 188 (.slice B291 ((X.aJ[n258]).aV.length) c292) ((X.aJ[n258]).aV), hR aY 197 (.slice B293 ((X.aJ[n258]).aT.length) c294) ((X.aJ[n258]).aT), hR aY 197 (.slice B295 ((X.aJ[n258]).bA.length) c296) ((X.aJ[n258]).bA), hE aW 138 gf282 c277 n258 [.int .i64 ((X.aJ[n258]).bD), .bool ((X.aJ[n258]).Up), .slice B291 ((X.aJ[n258]).aV.length) c292, .int .i64 ((X.aJ[n258]).Next), .slice B293 ((X.aJ[n258]).aT.length) c294, .int .i64 ((X.aJ[n258]).bO), .slice B295 ((X.aJ[n258]).bA.length) c296] X.aJ, hR aL 77 (.slice B272 X.aC.length c273) X.aC, hR aH 181 (.slice B274 X.Loop.length c275) X.Loop, hR aS 150 (.slice B278 X.Out.length c279) X.Out, bF gc 157 A bs.length cb, hB g_1_4 69 #[.int .i64 (X.Id), .slice B272 X.aC.length c273, .slice B274 X.Loop.length c275, .slice (some ⟨gf282, 0, none⟩) X.aJ.length c277, .slice B278 X.Out.length c279], hB g_0_0 69 #[.int .i64 (0), .slice none 0 0, .slice none 0 0, .slice none 0 0, .slice none 0 0]] W264 := hb289 _ hst290; clear H297
       refine aN [0, 1, 2, 3, 4, 5, 6, 7, 8, 9, 10, 11, 12] rfl ?_
       refine aA ?_
       refine aB rfl (aU gW rfl) rfl rfl ?_
       refine aA ?_
       refine aB rfl (bB (k := 3) (v := .slice (some ⟨gf282, 0, none⟩) X.aJ.length c277) Try.isAgg66 rfl (H298.blk 8 rfl) rfl) rfl rfl ?_
       refine aA ?_
       refine aB rfl (aF rfl) rfl rfl ?_
       refine aA ?_
       refine aB rfl (bQ (k := n258) Try.runUnderlying66 Try.sizeOf138 rfl rfl rfl (Nat.lt_of_lt_of_eq hltn hn284.symm)) rfl rfl ?_
       refine aA ?_
       refine aB rfl (dR Try.isAgg138 Try.sizeOf138 rfl (H298.catE 3 rfl) rfl) rfl rfl ?_
       refine aA ?_
       refine aB rfl (aF rfl) rfl rfl ?_
       refine aA ?_
       refine bC rfl Try.call123 (vs := #[.agg #[.int .i64 ((X.aJ[n258]).bD), .bool ((X.aJ[n258]).Up), .slice B291 ((X.aJ[n258]).aV.length) c292, .int .i64 ((X.aJ[n258]).Next), .slice B293 ((X.aJ[n258]).aT.length) c294, .int .i64 ((X.aJ[n258]).bO), .slice B295 ((X.aJ[n258]).bA.length) c296], .int .i64 ((X.aC.length : Nat))]) rfl rfl rfl (putQ_w (X.aJ[n258]) (X.aC.length : Nat) _ _ (kM _ (X.aJ[n258]) (H298.fE 0 rfl).1 (H298.fU 0 rfl) (H298.fE 1 rfl).1 (H298.fU 1 rfl) (H298.fE 2 rfl).1 (H298.fU 2 rfl)) kO) ?_
       rintro e312 W311 ⟨y304, cs303, r302, rfl, hy299, hst300, hu301⟩; refine ⟨_, rfl, ?_⟩
       have H313 := H298.news hu301 hst300; clear H298
       obtain ⟨F314, hM315, hb316⟩ := H313.unM
       obtain ⟨B305, c306, B307, c308, B309, c310, rfl, hst317⟩ := jB hM315
       have H318 : St w F0 [hR bE 188 (.slice B305 y304.aV.length c306) y304.aV, hR aY 197 (.slice B307 y304.aT.length c308) y304.aT, hR aY 197 (.slice B309 y304.bA.length c310) y304.bA, hR bE 188 (.slice B291 ((X.aJ[n258]).aV.length) c292) ((X.aJ[n258]).aV), hR aY 197 (.slice B293 ((X.aJ[n258]).aT.length) c294) ((X.aJ[n258]).aT), hR aY 197 (.slice B295 ((X.aJ[n258]).bA.length) c296) ((X.aJ[n258]).bA), hE aW 138 gf282 c277 n258 [.int .i64 ((X.aJ[n258]).bD), .bool ((X.aJ[n258]).Up), .slice B291 ((X.aJ[n258]).aV.length) c292, .int .i64 ((X.aJ[n258]).Next), .slice B293 ((X.aJ[n258]).aT.length) c294, .int .i64 ((X.aJ[n258]).bO), .slice B295 ((X.aJ[n258]).bA.length) c296] X.aJ, hR aL 77 (.slice B272 X.aC.length c273) X.aC, hR aH 181 (.slice B274 X.Loop.length c275) X.Loop, hR aS 150 (.slice B278 X.Out.length c279) X.Out, bF gc 157 A bs.length cb, hB g_1_4 69 #[.int .i64 (X.Id), .slice B272 X.aC.length c273, .slice B274 X.Loop.length c275, .slice (some ⟨gf282, 0, none⟩) X.aJ.length c277, .slice B278 X.Out.length c279], hB g_0_0 69 #[.int .i64 (0), .slice none 0 0, .slice none 0 0, .slice none 0 0, .slice none 0 0]] W311 := hb316 _ hst317; clear H313
       refine aA ?_
       refine aB rfl (aF rfl) rfl rfl ?_
       refine aA ?_
       refine aB rfl (dY (v := .agg #[.int .i64 (y304.bD), .bool (y304.Up), .slice B305 y304.aV.length c306, .int .i64 (y304.Next), .slice B307 y304.aT.length c308, .int .i64 (y304.bO), .slice B309 y304.bA.length c310]) rfl rfl) rfl rfl ?_
       refine aA ?_
       refine aB rfl (dY (v := .int .i64 (r302)) rfl rfl) rfl rfl ?_
       refine aA ?_
       refine bP rfl Try.zeroValue138 rfl rfl H318 ?_
       intro g_21_10 W319 hu320 Ha321; clear H318; clear hu320
       refine aA ?_
       refine bG rfl Try.sizeOf138 rfl rfl rfl rfl kS Ha321 ?_
       intro W323 hu324 Ha325; clear Ha321; clear hu324
       refine aA ?_
       refine aB rfl (aR rfl) rfl rfl ?_
       refine aI ?_
       refine aK ?_
       refine wp_seq ?_
       refine aN [0, 1, 2, 3, 4, 5] rfl ?_
       refine aA ?_
       refine aB rfl (aU gW rfl) rfl rfl ?_
       refine aA ?_
       refine aB rfl (bB (k := 3) (v := .slice (some ⟨gf282, 0, none⟩) X.aJ.length c277) Try.isAgg66 rfl (Ha325.blk 12 rfl) rfl) rfl rfl ?_
       refine aA ?_
       refine aB rfl (aF rfl) rfl rfl ?_
       refine aA ?_
       refine aB rfl (bN Try.isAgg138 Try.sizeOf138 rfl (Ha325.blk 0 rfl) rfl) rfl rfl ?_
       refine aA ?_
       refine aB rfl (bQ (k := n258) Try.runUnderlying66 Try.sizeOf138 rfl rfl rfl (Nat.lt_of_lt_of_eq hltn hn284.symm)) rfl rfl ?_
       refine aA ?_
       have H330 : St w F0 [hE aW 138 gf282 c277 n258 [.int .i64 ((X.aJ[n258]).bD), .bool ((X.aJ[n258]).Up), .slice B291 ((X.aJ[n258]).aV.length) c292, .int .i64 ((X.aJ[n258]).Next), .slice B293 ((X.aJ[n258]).aT.length) c294, .int .i64 ((X.aJ[n258]).bO), .slice B295 ((X.aJ[n258]).bA.length) c296] X.aJ, hB g_21_10 138 #[.int .i64 (y304.bD), .bool (y304.Up), .slice B305 y304.aV.length c306, .int .i64 (y304.Next), .slice B307 y304.aT.length c308, .int .i64 (y304.bO), .slice B309 y304.bA.length c310], hR bE 188 (.slice B305 y304.aV.length c306) y304.aV, hR aY 197 (.slice B307 y304.aT.length c308) y304.aT, hR aY 197 (.slice B309 y304.bA.length c310) y304.bA, hR bE 188 (.slice B291 ((X.aJ[n258]).aV.length) c292) ((X.aJ[n258]).aV), hR aY 197 (.slice B293 ((X.aJ[n258]).aT.length) c294) ((X.aJ[n258]).aT), hR aY 197 (.slice B295 ((X.aJ[n258]).bA.length) c296) ((X.aJ[n258]).bA), hR aL 77 (.slice B272 X.aC.length c273) X.aC, hR aH 181 (.slice B274 X.Loop.length c275) X.Loop, hR aS 150 (.slice B278 X.Out.length c279) X.Out, bF gc 157 A bs.length cb, hB g_1_4 69 #[.int .i64 (X.Id), .slice B272 X.aC.length c273, .slice B274 X.Loop.length c275, .slice (some ⟨gf282, 0, none⟩) X.aJ.length c277, .slice B278 X.Out.length c279], hB g_0_0 69 #[.int .i64 (0), .slice none 0 0, .slice none 0 0, .slice none 0 0, .slice none 0 0]] W323 := Ha325.pick [7, 0, 1, 2, 3, 4, 5, 6, 8, 9, 10, 11, 12, 13] kD rfl; clear Ha325
       refine op_storeE (dk := aW) (k := 0) (ce' := [.int .i64 (y304.bD), .bool (y304.Up), .slice B305 y304.aV.length c306, .int .i64 (y304.Next), .slice B307 y304.aT.length c308, .int .i64 (y304.bO), .slice B309 y304.bA.length c310]) rfl Try.sizeOf138 rfl rfl rfl rfl (Nat.le_of_ble_eq_true rfl) (by simp [Value.cells, Value.oneCell']) rfl H330 ?_
       intro W327 hu328 Ha329; clear H330; clear hu328
       refine aI ?_
       have H332 : St w F0 [hR bE 188 (.slice B305 y304.aV.length c306) y304.aV, hR aY 197 (.slice B307 y304.aT.length c308) y304.aT, hR aY 197 (.slice B309 y304.bA.length c310) y304.bA, hE aW 138 gf282 c277 n258 [.int .i64 (y304.bD), .bool (y304.Up), .slice B305 y304.aV.length c306, .int .i64 (y304.Next), .slice B307 y304.aT.length c308, .int .i64 (y304.bO), .slice B309 y304.bA.length c310] X.aJ, hB g_21_10 138 #[.int .i64 (y304.bD), .bool (y304.Up), .slice B305 y304.aV.length c306, .int .i64 (y304.Next), .slice B307 y304.aT.length c308, .int .i64 (y304.bO), .slice B309 y304.bA.length c310], hR bE 188 (.slice B291 ((X.aJ[n258]).aV.length) c292) ((X.aJ[n258]).aV), hR aY 197 (.slice B293 ((X.aJ[n258]).aT.length) c294) ((X.aJ[n258]).aT), hR aY 197 (.slice B295 ((X.aJ[n258]).bA.length) c296) ((X.aJ[n258]).bA), hR aL 77 (.slice B272 X.aC.length c273) X.aC, hR aH 181 (.slice B274 X.Loop.length c275) X.Loop, hR aS 150 (.slice B278 X.Out.length c279) X.Out, bF gc 157 A bs.length cb, hB g_1_4 69 #[.int .i64 (X.Id), .slice B272 X.aC.length c273, .slice B274 X.Loop.length c275, .slice (some ⟨gf282, 0, none⟩) X.aJ.length c277, .slice B278 X.Out.length c279], hB g_0_0 69 #[.int .i64 (0), .slice none 0 0, .slice none 0 0, .slice none 0 0, .slice none 0 0]] W327 := Ha329.pick [2, 3, 4, 0, 1, 5, 6, 7, 8, 9, 10, 11, 12, 13] kD rfl; clear Ha329
       have H333 : St w F0 [hM aW y304 [.int .i64 (y304.bD), .bool (y304.Up), .slice B305 y304.aV.length c306, .int .i64 (y304.Next), .slice B307 y304.aT.length c308, .int .i64 (y304.bO), .slice B309 y304.bA.length c310], hE aW 138 gf282 c277 n258 [.int .i64 (y304.bD), .bool (y304.Up), .slice B305 y304.aV.length c306, .int .i64 (y304.Next), .slice B307 y304.aT.length c308, .int .i64 (y304.bO), .slice B309 y304.bA.length c310] X.aJ, hB g_21_10 138 #[.int .i64 (y304.bD), .bool (y304.Up), .slice B305 y304.aV.length c306, .int .i64 (y304.Next), .slice B307 y304.aT.length c308, .int .i64 (y304.bO), .slice B309 y304.bA.length c310], hR bE 188 (.slice B291 ((X.aJ[n258]).aV.length) c292) ((X.aJ[n258]).aV), hR aY 197 (.slice B293 ((X.aJ[n258]).aT.length) c294) ((X.aJ[n258]).aT), hR aY 197 (.slice B295 ((X.aJ[n258]).bA.length) c296) ((X.aJ[n258]).bA), hR aL 77 (.slice B272 X.aC.length c273) X.aC, hR aH 181 (.slice B274 X.Loop.length c275) X.Loop, hR aS 150 (.slice B278 X.Out.length c279) X.Out, bF gc 157 A bs.length cb, hB g_1_4 69 #[.int .i64 (X.Id), .slice B272 X.aC.length c273, .slice B274 X.Loop.length c275, .slice (some ⟨gf282, 0, none⟩) X.aJ.length c277, .slice B278 X.Out.length c279], hB g_0_0 69 #[.int .i64 (0), .slice none 0 0, .slice none 0 0, .slice none 0 0, .slice none 0 0]] W327 := H332.swap (l0 := [hR bE 188 (.slice B305 y304.aV.length c306) y304.aV, hR aY 197 (.slice B307 y304.aT.length c308) y304.aT, hR aY 197 (.slice B309 y304.bA.length c310) y304.bA]) (l' := [hM aW y304 [.int .i64 (y304.bD), .bool (y304.Up), .slice B305 y304.aV.length c306, .int .i64 (y304.Next), .slice B307 y304.aT.length c308, .int .i64 (y304.bO), .slice B309 y304.bA.length c310]]) (fun _ h => Star.one (iE (x := y304) h)); clear H332
       have H334 : St w F0 [hE aW 138 gf282 c277 n258 [.int .i64 (y304.bD), .bool (y304.Up), .slice B305 y304.aV.length c306, .int .i64 (y304.Next), .slice B307 y304.aT.length c308, .int .i64 (y304.bO), .slice B309 y304.bA.length c310] X.aJ, hM aW y304 [.int .i64 (y304.bD), .bool (y304.Up), .slice B305 y304.aV.length c306, .int .i64 (y304.Next), .slice B307 y304.aT.length c308, .int .i64 (y304.bO), .slice B309 y304.bA.length c310], hB g_21_10 138 #[.int .i64 (y304.bD), .bool (y304.Up), .slice B305 y304.aV.length c306, .int .i64 (y304.Next), .slice B307 y304.aT.length c308, .int .i64 (y304.bO), .slice B309 y304.bA.length c310], hR bE 188 (.slice B291 ((X.aJ[n258]).aV.length) c292) ((X.aJ[n258]).aV), hR aY 197 (.slice B293 ((X.aJ[n258]).aT.length) c294) ((X.aJ[n258]).aT), hR aY 197 (.slice B295 ((X.aJ[n258]).bA.length) c296) ((X.aJ[n258]).bA), hR aL 77 (.slice B272 X.aC.length c273) X.aC, hR aH 181 (.slice B274 X.Loop.length c275) X.Loop, hR aS 150 (.slice B278 X.Out.length c279) X.Out, bF gc 157 A bs.length cb, hB g_1_4 69 #[.int .i64 (X.Id), .slice B272 X.aC.length c273, .slice B274 X.Loop.length c275, .slice (some ⟨gf282, 0, none⟩) X.aJ.length c277, .slice B278 X.Out.length c279], hB g_0_0 69 #[.int .i64 (0), .slice none 0 0, .slice none 0 0, .slice none 0 0, .slice none 0 0]] W327 := H333.pick [1, 0, 2, 3, 4, 5, 6, 7, 8, 9, 10, 11] kD rfl; clear H333
       have H335 : St w F0 [hR aW 138 (.slice (some ⟨gf282, 0, none⟩) X.aJ.length c277) (X.aJ.set n258 y304), hB g_21_10 138 #[.int .i64 (y304.bD), .bool (y304.Up), .slice B305 y304.aV.length c306, .int .i64 (y304.Next), .slice B307 y304.aT.length c308, .int .i64 (y304.bO), .slice B309 y304.bA.length c310], hR bE 188 (.slice B291 ((X.aJ[n258]).aV.length) c292) ((X.aJ[n258]).aV), hR aY 197 (.slice B293 ((X.aJ[n258]).aT.length) c294) ((X.aJ[n258]).aT), hR aY 197 (.slice B295 ((X.aJ[n258]).bA.length) c296) ((X.aJ[n258]).bA), hR aL 77 (.slice B272 X.aC.length c273) X.aC, hR aH 181 (.slice B274 X.Loop.length c275) X.Loop, hR aS 150 (.slice B278 X.Out.length c279) X.Out, bF gc 157 A bs.length cb, hB g_1_4 69 #[.int .i64 (X.Id), .slice B272 X.aC.length c273, .slice B274 X.Loop.length c275, .slice (some ⟨gf282, 0, none⟩) X.aJ.length c277, .slice B278 X.Out.length c279], hB g_0_0 69 #[.int .i64 (0), .slice none 0 0, .slice none 0 0, .slice none 0 0, .slice none 0 0]] W327 := H334.closeG rfl (List.length_set ..).symm; clear H334
       have hl336 : X.aJ.length = (X.aJ.set n258 y304).length := (List.length_set ..).symm
       try rw [hl336] at H335
       try rw [hl336]
       have hlk := lk_sz X n258 y304 hltn hy299
       have hXL2 : (X.aJ.set n258 y304).length = 2 := by rw [List.length_set]; exact hXL
       refine aK ?_
       refine wp_seq ?_
       refine aN [0, 1, 2] rfl ?_
       refine aA ?_
       refine bC rfl Try.call78 (vs := #[]) rfl rfl rfl (jC _) ?_
       rintro e342 W341 ⟨cs337, rfl, hM338, hu339⟩; refine ⟨_, rfl, ?_⟩
       obtain ⟨B_23_0_2, c_23_0_2, B_23_0_6, c_23_0_6, B_23_0_7, c_23_0_7, rfl, hst340⟩ := gK hM338
       have H343 := H335.news hu339 hst340; clear H335
       refine aA ?_
       refine bP rfl Try.zeroValue77 rfl rfl H343 ?_
       intro g_23_1 W344 hu345 Ha346; clear H343; clear hu345
       refine aA ?_
       refine bG rfl Try.sizeOf77 rfl rfl rfl rfl kS Ha346 ?_
       intro W348 hu349 Ha350; clear Ha346; clear hu349
       refine aI ?_
       refine aK ?_
       refine wp_seq ?_
       refine aN [0, 1] rfl ?_
       refine aA ?_
       refine aB rfl (aU fV rfl) rfl rfl ?_
       refine aA ?_
       refine bR rfl Try.sizeOf3 rfl rfl rfl (Nat.le_of_ble_eq_true rfl) (by simp [Value.cells, Value.oneCell']) Ha350 ?_
       intro W352 hu353 Ha354; clear Ha350; clear hu353
       refine aI ?_
       refine aK ?_
       refine wp_seq ?_
       refine aN [0, 1, 2, 3] rfl ?_
       refine aA ?_
       refine aB rfl (aU fa_138_0 rfl) rfl rfl ?_
       refine aA ?_
       refine aB rfl (bB (k := 0) (v := .int .i64 (y304.bD)) Try.isAgg3 rfl (Ha354.blk 5 rfl) rfl) rfl rfl ?_
       refine aA ?_
       refine aB rfl (aU jZ rfl) rfl rfl ?_
       refine aA ?_
       refine bR rfl Try.sizeOf3 rfl rfl rfl (Nat.le_of_ble_eq_true rfl) (by simp [Value.cells, Value.oneCell']) Ha354 ?_
       intro W356 hu357 Ha358; clear Ha354; clear hu357
       refine aI ?_
       refine aK ?_
       refine wp_seq ?_
       refine aN [0, 1, 2] rfl ?_
       refine aA ?_
       refine aB rfl (aF rfl) rfl rfl ?_
       refine aA ?_
       refine aB rfl (aU kT rfl) rfl rfl ?_
       refine aA ?_
       refine bR rfl Try.sizeOf3 rfl rfl rfl (Nat.le_of_ble_eq_true rfl) (by simp [Value.cells, Value.oneCell']) Ha358 ?_
       intro W360 hu361 Ha362; clear Ha358; clear hu361
       refine aI ?_
       refine aK ?_
       refine aN [0, 1, 2, 3, 4, 5, 6] rfl ?_
       refine aA ?_
       refine aB rfl (bN Try.isAgg69 Try.sizeOf69 rfl (Ha362.blk 13 rfl) rfl) rfl rfl ?_
       refine aA ?_
       refine aB rfl (bN Try.isAgg77 Try.sizeOf77 rfl (Ha362.blk 0 rfl) rfl) rfl rfl ?_
       refine aA ?_
       have hes364 : bU (⟨prm.Kind, prm.Script, prm.aM, 3, prm.Value, prm.Queue, prm.aG, y304.bD, r302, prm.Count, prm.bJ⟩ : GEntity) ≤ 60 := by first | exact hent | exact Nat.le_of_ble_eq_true rfl
       have hb365 := addE_sz (⟨prm.Kind, prm.Script, prm.aM, 3, prm.Value, prm.Queue, prm.aG, y304.bD, r302, prm.Count, prm.bJ⟩ : GEntity) (⟨X.Id, X.aC, X.Loop, (X.aJ.set n258 y304), X.Out⟩ : GVat)
       refine bC rfl Try.call80 (vs := #[.agg #[.int .i64 (X.Id), .slice B272 X.aC.length c273, .slice B274 X.Loop.length c275, .slice (some ⟨gf282, 0, none⟩) ((X.aJ.set n258 y304).length) c277, .slice B278 X.Out.length c279], .agg #[.int .i64 (prm.Kind), .int .i64 (prm.Script), .slice B_23_0_2 prm.aM.length c_23_0_2, .int .i64 (3), .int .i64 (prm.Value.Kind), .int .i64 (prm.Value.N), .slice B_23_0_6 prm.Queue.length c_23_0_6, .slice B_23_0_7 prm.aG.length c_23_0_7, .int .i64 (y304.bD), .int .i64 (r302), .int .i64 (prm.Count), .int .i64 (prm.bJ)]]) rfl rfl rfl (iX (⟨X.Id, X.aC, X.Loop, (X.aJ.set n258 y304), X.Out⟩ : GVat) (⟨prm.Kind, prm.Script, prm.aM, 3, prm.Value, prm.Queue, prm.aG, y304.bD, r302, prm.Count, prm.bJ⟩ : GEntity) _ _ _ (gZ _ (⟨X.Id, X.aC, X.Loop, (X.aJ.set n258 y304), X.Out⟩ : GVat) (Ha362.fE 9 rfl).1 (Ha362.fU 9 rfl) (Ha362.fE 10 rfl).1 (Ha362.fU 10 rfl) (Ha362.fE 4 rfl).1 (Ha362.fU 4 rfl) (Ha362.fE 11 rfl).1 (Ha362.fU 11 rfl)) kO (jG _ (⟨prm.Kind, prm.Script, prm.aM, 3, prm.Value, prm.Queue, prm.aG, y304.bD, r302, prm.Count, prm.bJ⟩ : GEntity) (Ha362.fE 1 rfl).1 (Ha362.fU 1 rfl) (Ha362.fE 2 rfl).1 (Ha362.fU 2 rfl) (Ha362.fE 3 rfl).1 (Ha362.fU 3 rfl)) kO) ?_
       rintro e369 W368 ⟨cs_27_2, rfl, hM366, hu367⟩; refine ⟨_, rfl, ?_⟩
       have H370 := Ha362.new (q := hM bK (dK (⟨prm.Kind, prm.Script, prm.aM, 3, prm.Value, prm.Queue, prm.aG, y304.bD, r302, prm.Count, prm.bJ⟩ : GEntity) (⟨X.Id, X.aC, X.Loop, (X.aJ.set n258 y304), X.Out⟩ : GVat)) cs_27_2) hu367 hM366; clear Ha362
       refine aA ?_
       refine aB rfl (aF rfl) rfl rfl ?_
       refine aA ?_
       refine aB rfl (dY (v := .agg (List.toArray cs_27_2)) rfl rfl) rfl rfl ?_
       refine aA ?_
       refine aB rfl (dY (v := .int .i64 ((addN (⟨X.Id, X.aC, X.Loop, (X.aJ.set n258 y304), X.Out⟩ : GVat).aC))) rfl rfl) rfl rfl ?_
       refine aA ?_
       have H374 : St w F0 [hB g_1_4 69 #[.int .i64 (X.Id), .slice B272 X.aC.length c273, .slice B274 X.Loop.length c275, .slice (some ⟨gf282, 0, none⟩) ((X.aJ.set n258 y304).length) c277, .slice B278 X.Out.length c279], hM bK (dK (⟨prm.Kind, prm.Script, prm.aM, 3, prm.Value, prm.Queue, prm.aG, y304.bD, r302, prm.Count, prm.bJ⟩ : GEntity) (⟨X.Id, X.aC, X.Loop, (X.aJ.set n258 y304), X.Out⟩ : GVat)) cs_27_2, hB g_23_1 77 #[.int .i64 (prm.Kind), .int .i64 (prm.Script), .slice B_23_0_2 prm.aM.length c_23_0_2, .int .i64 (3), .int .i64 (prm.Value.Kind), .int .i64 (prm.Value.N), .slice B_23_0_6 prm.Queue.length c_23_0_6, .slice B_23_0_7 prm.aG.length c_23_0_7, .int .i64 (y304.bD), .int .i64 (r302), .int .i64 (prm.Count), .int .i64 (prm.bJ)], hR aP 70 (.slice B_23_0_2 prm.aM.length c_23_0_2) prm.aM, hR aH 181 (.slice B_23_0_6 prm.Queue.length c_23_0_6) prm.Queue, hR aQ 155 (.slice B_23_0_7 prm.aG.length c_23_0_7) prm.aG, hR aW 138 (.slice (some ⟨gf282, 0, none⟩) ((X.aJ.set n258 y304).length) c277) (X.aJ.set n258 y304), hB g_21_10 138 #[.int .i64 (y304.bD), .bool (y304.Up), .slice B305 y304.aV.length c306, .int .i64 (y304.Next), .slice B307 y304.aT.length c308, .int .i64 (y304.bO), .slice B309 y304.bA.length c310], hR bE 188 (.slice B291 ((X.aJ[n258]).aV.length) c292) ((X.aJ[n258]).aV), hR aY 197 (.slice B293 ((X.aJ[n258]).aT.length) c294) ((X.aJ[n258]).aT), hR aY 197 (.slice B295 ((X.aJ[n258]).bA.length) c296) ((X.aJ[n258]).bA), hR aL 77 (.slice B272 X.aC.length c273) X.aC, hR aH 181 (.slice B274 X.Loop.length c275) X.Loop, hR aS 150 (.slice B278 X.Out.length c279) X.Out, bF gc 157 A bs.length cb, hB g_0_0 69 #[.int .i64 (0), .slice none 0 0, .slice none 0 0, .slice none 0 0, .slice none 0 0]] W368 := H370.pick [14, 0, 1, 2, 3, 4, 5, 6, 7, 8, 9, 10, 11, 12, 13, 15] kD rfl; clear H370
       refine bG rfl Try.sizeOf69 rfl rfl (dF (H374.kn 1 rfl)) rfl (fM (H374.kn 1 rfl)) H374 ?_
       intro W371 hu372 Ha373; clear H374; clear hu372
       refine aI ?_
       refine eP ?_
       refine eP ?_
       refine aK ?_
       refine aN [0, 1, 2] rfl ?_
       refine aA ?_
       refine aB rfl (aF rfl) rfl rfl ?_
       refine aA ?_
       refine aB rfl (rn_int (q := ((d - 1 : Nat) : Int)) kO (kF rfl rfl kO)) rfl rfl ?_
       refine aA ?_
       refine aB rfl (aR rfl) rfl rfl ?_
       refine aI ?_
       refine aK ?_
       exact (aZ [(0, .pointer (some ⟨gc, 0, none⟩)), (2, .pointer (some ⟨g_0_0, 0, none⟩)), (3, .pointer (some ⟨g_1_4, 0, none⟩)), (4, .int .i64 (((d - 1 : Nat) : Int)))] rfl).elim fun x' hx => ⟨r46 - 1, kO, d - 1, (dK (⟨prm.Kind, prm.Script, prm.aM, 3, prm.Value, prm.Queue, prm.aG, y304.bD, r302, prm.Count, prm.bJ⟩ : GEntity) (⟨X.Id, X.aC, X.Loop, (X.aJ.set n258 y304), X.Out⟩ : GVat)), cs_27_2, x', hx, kO, kO, (by first | exact hXL | exact hXL2), Ha373.pick [1, 0, 14, 15] kD rfl⟩
      ·refine dG (fun W' => Blk W' g_1_4 69 (List.toArray csX)) 12 kR ?_
       have H376 := H61.drew; clear H61
       have hS377 : Blk W59.drew g_1_4 69 (List.toArray csX) := H376.blk 2 rfl
       refine aO (i := 0) rfl kR kR kR kR kR (fun _ _ _ h => h) rfl rfl hS377 (fun W' hs' => bN Try.isAgg69 Try.sizeOf69 rfl hs' (dF (H376.kn 1 rfl))) ?_
       refine aO (i := 1) rfl kR kR kR kR kR (fun _ _ _ h => h) rfl rfl hS377 (fun W' hs' => aF rfl) ?_
       refine aO (i := 4) rfl kR kR kR kR kR (fun _ _ _ h => h) rfl rfl hS377 (fun W' hs' => aF rfl) ?_
       refine bM (i := 2) kR ?_
       obtain ⟨F380, hs381, hF382, hfr383⟩ := St.frame (l0 := [bF gc 157 A bs.length cb]) (l := [hM bK X csX, hB g_1_4 69 (List.toArray csX), hB g_0_0 69 #[.int .i64 (0), .slice none 0 0, .slice none 0 0, .slice none 0 0, .slice none 0 0]]) H376
       refine bC rfl Try.call44 (vs := #[.pointer (some ⟨gc, 0, none⟩), .int .i64 (2)]) rfl rfl rfl (dN 2 _ _ _ _ _ _ (CV.step hV H376.1 hF382) hn hs381) ?_
       rintro e386 W385 ⟨q378, rfl, hq379, Hn384⟩; refine ⟨_, rfl, ?_⟩
       have H387 := hfr383 _ _ Hn384; clear H376
       have hS388 := H387.blk 2 rfl; refine ⟨fun _ => hS388, ?_⟩
       refine aO (i := 3) rfl kR kR kR kR kR (fun _ _ _ h => h) rfl rfl hS388 (fun W' hs' => gV rfl rfl kO) ?_
       refine bM (i := 5) kR ?_
       obtain ⟨F391, hs392, hF393, hfr394⟩ := St.frame (l0 := [bF gc 157 A bs.length cb]) (l := [hM bK X csX, hB g_1_4 69 (List.toArray csX), hB g_0_0 69 #[.int .i64 (0), .slice none 0 0, .slice none 0 0, .slice none 0 0, .slice none 0 0]]) H387
       refine bC rfl Try.call44 (vs := #[.pointer (some ⟨gc, 0, none⟩), .int .i64 (3)]) rfl rfl rfl (dN 3 _ _ _ _ _ _ (CV.step hV H387.1 hF393) hn hs392) ?_
       rintro e397 W396 ⟨q389, rfl, hq390, Hn395⟩; refine ⟨_, rfl, ?_⟩
       have H398 := hfr394 _ _ Hn395; clear H387
       have hS399 := H398.blk 2 rfl; refine ⟨fun _ => hS399, ?_⟩
       refine aO (i := 6) rfl kR kR kR kR kR (fun _ _ _ h => h) rfl rfl hS399 (fun W' hs' => gV rfl rfl kO) ?_
       refine bM (i := 7) kR ?_
       refine bC rfl Try.call124 (vs := #[.int .i64 ((2 + q378)), .int .i64 ((2 + q389))]) rfl rfl rfl (newProxy_s (2 + q378) (2 + q389) _) ?_
       rintro e403 W402 ⟨cs_6_7, rfl, hM400, hu401⟩; refine ⟨_, rfl, ?_⟩
       have H404 := H398.new (q := hM aL (prE (2 + q378) (2 + q389)) cs_6_7) hu401 hM400; clear H398
       have hS405 := H404.blk 3 rfl; refine ⟨fun _ => hS405, ?_⟩
       refine bM (i := 8) kR ?_
       have hes406 : bU (prE (2 + q378) (2 + q389)) ≤ 60 := by first | exact hent | exact Nat.le_of_ble_eq_true rfl
       have hb407 := addE_sz (prE (2 + q378) (2 + q389)) X
       refine bC rfl Try.call80 (vs := #[.agg (List.toArray csX), .agg (List.toArray cs_6_7)]) rfl rfl rfl (iX X (prE (2 + q378) (2 + q389)) _ _ _ (H404.kn 2 rfl) kO (H404.kn 0 rfl) kO) ?_
       rintro e411 W410 ⟨cs_6_8, rfl, hM408, hu409⟩; refine ⟨_, rfl, ?_⟩
       have H412 := H404.new (q := hM bK (dK (prE (2 + q378) (2 + q389)) X) cs_6_8) hu409 hM408; clear H404
       have hS413 := H412.blk 4 rfl; refine ⟨fun _ => hS413, ?_⟩
       refine aO (i := 9) rfl kR kR kR kR kR (fun _ _ _ h => h) rfl rfl hS413 (fun W' hs' => aF rfl) ?_
       refine aO (i := 10) rfl kR kR kR kR kR (fun _ _ _ h => h) rfl rfl hS413 (fun W' hs' => dY (v := .agg (List.toArray cs_6_8)) rfl rfl) ?_
       refine anyS_takeX (i := 11) rfl kR kR kR kR (fun _ _ _ h => h) rfl rfl (fun _ => hS413) (fun W' => dY (v := .int .i64 ((addN X.aC))) rfl rfl) ?_
       refine bM (i := 12) kR ?_
       have H417 : St w F0 [hB g_1_4 69 (List.toArray csX), hM bK (dK (prE (2 + q378) (2 + q389)) X) cs_6_8, hM aL (prE (2 + q378) (2 + q389)) cs_6_7, bF gc 157 A bs.length cb, hM bK X csX, hB g_0_0 69 #[.int .i64 (0), .slice none 0 0, .slice none 0 0, .slice none 0 0, .slice none 0 0]] W410 := H412.pick [4, 0, 1, 2, 3, 5] kD rfl; clear H412
       refine bG rfl Try.sizeOf69 rfl rfl (dF (H417.kn 1 rfl)) (dF (H417.kn 4 rfl)) (fM (H417.kn 1 rfl)) H417 ?_
       intro W414 hu415 Ha416; clear H417; clear hu415
       refine ⟨fun h => absS kR h, ?_⟩
       refine cB kR ?_ _
       refine eP ?_
       refine eP ?_
       refine aK ?_
       refine aN [0, 1, 2] rfl ?_
       refine aA ?_
       refine aB rfl (aF rfl) rfl rfl ?_
       refine aA ?_
       refine aB rfl (rn_int (q := ((d - 1 : Nat) : Int)) kO (kF rfl rfl kO)) rfl rfl ?_
       refine aA ?_
       refine aB rfl (aR rfl) rfl rfl ?_
       refine aI ?_
       refine aK ?_
       exact (aZ [(0, .pointer (some ⟨gc, 0, none⟩)), (2, .pointer (some ⟨g_0_0, 0, none⟩)), (3, .pointer (some ⟨g_1_4, 0, none⟩)), (4, .int .i64 (((d - 1 : Nat) : Int)))] rfl).elim fun x' hx => ⟨r46 - 1, kO, d - 1, (dK (prE (2 + q378) (2 + q389)) X), cs_6_8, x', hx, kO, kO, (by first | exact hXL | exact hXL2), Ha416.pick [1, 0, 3, 5] kD rfl⟩
  ·refine wp_exit ?_
   refine dX ?_
   refine dX ?_
   refine iH ?_
   refine aK ?_
   refine wp_seq ?_
   refine wp_seq ?_
   refine aN [0, 1] rfl ?_
   refine aA ?_
   refine aB rfl (aF rfl) rfl rfl ?_
   refine aA ?_
   have H420 : St w F0 [bF gc 157 A bs.length cb, hM bK X csX, hB g_1_4 69 (List.toArray csX), hB g_0_0 69 #[.int .i64 (0), .slice none 0 0, .slice none 0 0, .slice none 0 0, .slice none 0 0]] W47 := H49.pick [2, 0, 1, 3] kD rfl; clear H49
   obtain ⟨F421, hs422, hF423, hfr424⟩ := St.frame (l0 := [bF gc 157 A bs.length cb]) (l := [hM bK X csX, hB g_1_4 69 (List.toArray csX), hB g_0_0 69 #[.int .i64 (0), .slice none 0 0, .slice none 0 0, .slice none 0 0, .slice none 0 0]]) H420
   refine bC rfl Try.call43 (vs := #[.pointer (some ⟨gc, 0, none⟩), .int .i64 (12)]) rfl rfl rfl (jR 12 _ _ _ _ _ _ (CV.step hV H420.1 hF423) hn hs422) ?_
   rintro e427 W426 ⟨b419, rfl, Hn425⟩; refine ⟨_, rfl, ?_⟩
   have H428 := hfr424 _ _ Hn425; clear H420
   refine aI ?_
   refine aK ?_
   refine jO (b := b419) rfl (fun hc429 => ?_) (fun hc429 => ?_)
   ·have H430 : St w F0 [hM bK X csX, bF gc 157 A bs.length cb, hB g_1_4 69 (List.toArray csX), hB g_0_0 69 #[.int .i64 (0), .slice none 0 0, .slice none 0 0, .slice none 0 0, .slice none 0 0]] W426 := H428.pick [1, 0, 2, 3] kD rfl; clear H428
    obtain ⟨F431, hM432, hb433⟩ := H430.unM
    obtain ⟨B435, c436, B437, c438, B439, c440, B441, c442, rfl, hst434⟩ := fZ hM432
    have H443 : St w F0 [hR aL 77 (.slice B435 X.aC.length c436) X.aC, hR aH 181 (.slice B437 X.Loop.length c438) X.Loop, hR aW 138 (.slice B439 X.aJ.length c440) X.aJ, hR aS 150 (.slice B441 X.Out.length c442) X.Out, bF gc 157 A bs.length cb, hB g_1_4 69 #[.int .i64 (X.Id), .slice B435 X.aC.length c436, .slice B437 X.Loop.length c438, .slice B439 X.aJ.length c440, .slice B441 X.Out.length c442], hB g_0_0 69 #[.int .i64 (0), .slice none 0 0, .slice none 0 0, .slice none 0 0, .slice none 0 0]] W426 := hb433 _ hst434; clear H430
    have hlt1 : 1 < X.aJ.length := by omega
    have H444 : St w F0 [hR aW 138 (.slice B439 X.aJ.length c440) X.aJ, hR aL 77 (.slice B435 X.aC.length c436) X.aC, hR aH 181 (.slice B437 X.Loop.length c438) X.Loop, hR aS 150 (.slice B441 X.Out.length c442) X.Out, bF gc 157 A bs.length cb, hB g_1_4 69 #[.int .i64 (X.Id), .slice B435 X.aC.length c436, .slice B437 X.Loop.length c438, .slice B439 X.aJ.length c440, .slice B441 X.Out.length c442], hB g_0_0 69 #[.int .i64 (0), .slice none 0 0, .slice none 0 0, .slice none 0 0, .slice none 0 0]] W426 := H443.pick [2, 0, 1, 3, 4, 5, 6] kD rfl; clear H443
    obtain ⟨gf445, rfl⟩ := H444.openS (q := 1) hlt1
    obtain ⟨ce446, hn447, H448⟩ := H444.openG (q := 1) hlt1; clear H444
    have H449 : St w F0 [hE aW 138 gf445 c440 1 ce446 X.aJ, hM aW (X.aJ[1]) ce446, hR aL 77 (.slice B435 X.aC.length c436) X.aC, hR aH 181 (.slice B437 X.Loop.length c438) X.Loop, hR aS 150 (.slice B441 X.Out.length c442) X.Out, bF gc 157 A bs.length cb, hB g_1_4 69 #[.int .i64 (X.Id), .slice B435 X.aC.length c436, .slice B437 X.Loop.length c438, .slice (some ⟨gf445, 0, none⟩) X.aJ.length c440, .slice B441 X.Out.length c442], hB g_0_0 69 #[.int .i64 (0), .slice none 0 0, .slice none 0 0, .slice none 0 0, .slice none 0 0]] W426 := H448; clear H448
    have H460 : St w F0 [hM aW (X.aJ[1]) ce446, hE aW 138 gf445 c440 1 ce446 X.aJ, hR aL 77 (.slice B435 X.aC.length c436) X.aC, hR aH 181 (.slice B437 X.Loop.length c438) X.Loop, hR aS 150 (.slice B441 X.Out.length c442) X.Out, bF gc 157 A bs.length cb, hB g_1_4 69 #[.int .i64 (X.Id), .slice B435 X.aC.length c436, .slice B437 X.Loop.length c438, .slice (some ⟨gf445, 0, none⟩) X.aJ.length c440, .slice B441 X.Out.length c442], hB g_0_0 69 #[.int .i64 (0), .slice none 0 0, .slice none 0 0, .slice none 0 0, .slice none 0 0]] W426 := H449.pick [1, 0, 2, 3, 4, 5, 6, 7] kD rfl; clear H449
    obtain ⟨F450, hM451, hb452⟩ := H460.unM
    obtain ⟨B454, c455, B456, c457, B458, c459, rfl, hst453⟩ := jB hM451
    have H461 : St w F0 [hR bE 188 (.slice B454 ((X.aJ[1]).aV.length) c455) ((X.aJ[1]).aV), hR aY 197 (.slice B456 ((X.aJ[1]).aT.length) c457) ((X.aJ[1]).aT), hR aY 197 (.slice B458 ((X.aJ[1]).bA.length) c459) ((X.aJ[1]).bA), hE aW 138 gf445 c440 1 [.int .i64 ((X.aJ[1]).bD), .bool ((X.aJ[1]).Up), .slice B454 ((X.aJ[1]).aV.length) c455, .int .i64 ((X.aJ[1]).Next), .slice B456 ((X.aJ[1]).aT.length) c457, .int .i64 ((X.aJ[1]).bO), .slice B458 ((X.aJ[1]).bA.length) c459] X.aJ, hR aL 77 (.slice B435 X.aC.length c436) X.aC, hR aH 181 (.slice B437 X.Loop.length c438) X.Loop, hR aS 150 (.slice B441 X.Out.length c442) X.Out, bF gc 157 A bs.length cb, hB g_1_4 69 #[.int .i64 (X.Id), .slice B435 X.aC.length c436, .slice B437 X.Loop.length c438, .slice (some ⟨gf445, 0, none⟩) X.aJ.length c440, .slice B441 X.Out.length c442], hB g_0_0 69 #[.int .i64 (0), .slice none 0 0, .slice none 0 0, .slice none 0 0, .slice none 0 0]] W426 := hb452 _ hst453; clear H460
    refine aN [0, 1, 2, 3, 4] rfl ?_
    refine aA ?_
    refine aB rfl (aU gW rfl) rfl rfl ?_
    refine aA ?_
    refine aB rfl (bB (k := 3) (v := .slice (some ⟨gf445, 0, none⟩) X.aJ.length c440) Try.isAgg66 rfl (H461.blk 8 rfl) rfl) rfl rfl ?_
    refine aA ?_
    refine aB rfl (dS (vs := [(0, .int .i64 (3))]) (cells := #[.int .i64 (3), .bool (false), .slice none 0 0, .int .i64 (0), .slice none 0 0, .int .i64 (0), .slice none 0 0]) rfl kR) rfl rfl ?_
    refine aA ?_
    refine aB rfl (bQ (k := 1) Try.runUnderlying66 Try.sizeOf138 rfl rfl rfl (Nat.lt_of_lt_of_eq hlt1 hn447.symm)) rfl rfl ?_
    refine aA ?_
    have H465 : St w F0 [hE aW 138 gf445 c440 1 [.int .i64 ((X.aJ[1]).bD), .bool ((X.aJ[1]).Up), .slice B454 ((X.aJ[1]).aV.length) c455, .int .i64 ((X.aJ[1]).Next), .slice B456 ((X.aJ[1]).aT.length) c457, .int .i64 ((X.aJ[1]).bO), .slice B458 ((X.aJ[1]).bA.length) c459] X.aJ, hR bE 188 (.slice B454 ((X.aJ[1]).aV.length) c455) ((X.aJ[1]).aV), hR aY 197 (.slice B456 ((X.aJ[1]).aT.length) c457) ((X.aJ[1]).aT), hR aY 197 (.slice B458 ((X.aJ[1]).bA.length) c459) ((X.aJ[1]).bA), hR aL 77 (.slice B435 X.aC.length c436) X.aC, hR aH 181 (.slice B437 X.Loop.length c438) X.Loop, hR aS 150 (.slice B441 X.Out.length c442) X.Out, bF gc 157 A bs.length cb, hB g_1_4 69 #[.int .i64 (X.Id), .slice B435 X.aC.length c436, .slice B437 X.Loop.length c438, .slice (some ⟨gf445, 0, none⟩) X.aJ.length c440, .slice B441 X.Out.length c442], hB g_0_0 69 #[.int .i64 (0), .slice none 0 0, .slice none 0 0, .slice none 0 0, .slice none 0 0]] W426 := H461.pick [3, 0, 1, 2, 4, 5, 6, 7, 8, 9] kD rfl; clear H461
    refine op_storeE (dk := aW) (k := 0) (ce' := [.int .i64 (3), .bool (false), .slice none 0 0, .int .i64 (0), .slice none 0 0, .int .i64 (0), .slice none 0 0]) rfl Try.sizeOf138 rfl rfl rfl rfl (Nat.le_of_ble_eq_true rfl) (by simp [Value.cells, Value.oneCell']) rfl H465 ?_
    intro W462 hu463 Ha464; clear H465; clear hu463
    refine aI ?_
    have H467 : St w F0 [hR bE 188 (.slice none 0 0) ([]), hE aW 138 gf445 c440 1 [.int .i64 (3), .bool (false), .slice none 0 0, .int .i64 (0), .slice none 0 0, .int .i64 (0), .slice none 0 0] X.aJ, hR bE 188 (.slice B454 ((X.aJ[1]).aV.length) c455) ((X.aJ[1]).aV), hR aY 197 (.slice B456 ((X.aJ[1]).aT.length) c457) ((X.aJ[1]).aT), hR aY 197 (.slice B458 ((X.aJ[1]).bA.length) c459) ((X.aJ[1]).bA), hR aL 77 (.slice B435 X.aC.length c436) X.aC, hR aH 181 (.slice B437 X.Loop.length c438) X.Loop, hR aS 150 (.slice B441 X.Out.length c442) X.Out, bF gc 157 A bs.length cb, hB g_1_4 69 #[.int .i64 (X.Id), .slice B435 X.aC.length c436, .slice B437 X.Loop.length c438, .slice (some ⟨gf445, 0, none⟩) X.aJ.length c440, .slice B441 X.Out.length c442], hB g_0_0 69 #[.int .i64 (0), .slice none 0 0, .slice none 0 0, .slice none 0 0, .slice none 0 0]] W462 := Ha464.add0 (q := hR bE 188 (.slice none 0 0) []) gI; clear Ha464
    have H468 : St w F0 [hR aY 197 (.slice none 0 0) ([]), hR bE 188 (.slice none 0 0) ([]), hE aW 138 gf445 c440 1 [.int .i64 (3), .bool (false), .slice none 0 0, .int .i64 (0), .slice none 0 0, .int .i64 (0), .slice none 0 0] X.aJ, hR bE 188 (.slice B454 ((X.aJ[1]).aV.length) c455) ((X.aJ[1]).aV), hR aY 197 (.slice B456 ((X.aJ[1]).aT.length) c457) ((X.aJ[1]).aT), hR aY 197 (.slice B458 ((X.aJ[1]).bA.length) c459) ((X.aJ[1]).bA), hR aL 77 (.slice B435 X.aC.length c436) X.aC, hR aH 181 (.slice B437 X.Loop.length c438) X.Loop, hR aS 150 (.slice B441 X.Out.length c442) X.Out, bF gc 157 A bs.length cb, hB g_1_4 69 #[.int .i64 (X.Id), .slice B435 X.aC.length c436, .slice B437 X.Loop.length c438, .slice (some ⟨gf445, 0, none⟩) X.aJ.length c440, .slice B441 X.Out.length c442], hB g_0_0 69 #[.int .i64 (0), .slice none 0 0, .slice none 0 0, .slice none 0 0, .slice none 0 0]] W462 := H467.add0 (q := hR aY 197 (.slice none 0 0) []) gI; clear H467
    have H469 : St w F0 [hR aY 197 (.slice none 0 0) ([]), hR aY 197 (.slice none 0 0) ([]), hR bE 188 (.slice none 0 0) ([]), hE aW 138 gf445 c440 1 [.int .i64 (3), .bool (false), .slice none 0 0, .int .i64 (0), .slice none 0 0, .int .i64 (0), .slice none 0 0] X.aJ, hR bE 188 (.slice B454 ((X.aJ[1]).aV.length) c455) ((X.aJ[1]).aV), hR aY 197 (.slice B456 ((X.aJ[1]).aT.length) c457) ((X.aJ[1]).aT), hR aY 197 (.slice B458 ((X.aJ[1]).bA.length) c459) ((X.aJ[1]).bA), hR aL 77 (.slice B435 X.aC.length c436) X.aC, hR aH 181 (.slice B437 X.Loop.length c438) X.Loop, hR aS 150 (.slice B441 X.Out.length c442) X.Out, bF gc 157 A bs.length cb, hB g_1_4 69 #[.int .i64 (X.Id), .slice B435 X.aC.length c436, .slice B437 X.Loop.length c438, .slice (some ⟨gf445, 0, none⟩) X.aJ.length c440, .slice B441 X.Out.length c442], hB g_0_0 69 #[.int .i64 (0), .slice none 0 0, .slice none 0 0, .slice none 0 0, .slice none 0 0]] W462 := H468.add0 (q := hR aY 197 (.slice none 0 0) []) gI; clear H468
    have H470 : St w F0 [hR bE 188 (.slice none 0 0) ([]), hR aY 197 (.slice none 0 0) ([]), hR aY 197 (.slice none 0 0) ([]), hE aW 138 gf445 c440 1 [.int .i64 (3), .bool (false), .slice none 0 0, .int .i64 (0), .slice none 0 0, .int .i64 (0), .slice none 0 0] X.aJ, hR bE 188 (.slice B454 ((X.aJ[1]).aV.length) c455) ((X.aJ[1]).aV), hR aY 197 (.slice B456 ((X.aJ[1]).aT.length) c457) ((X.aJ[1]).aT), hR aY 197 (.slice B458 ((X.aJ[1]).bA.length) c459) ((X.aJ[1]).bA), hR aL 77 (.slice B435 X.aC.length c436) X.aC, hR aH 181 (.slice B437 X.Loop.length c438) X.Loop, hR aS 150 (.slice B441 X.Out.length c442) X.Out, bF gc 157 A bs.length cb, hB g_1_4 69 #[.int .i64 (X.Id), .slice B435 X.aC.length c436, .slice B437 X.Loop.length c438, .slice (some ⟨gf445, 0, none⟩) X.aJ.length c440, .slice B441 X.Out.length c442], hB g_0_0 69 #[.int .i64 (0), .slice none 0 0, .slice none 0 0, .slice none 0 0, .slice none 0 0]] W462 := H469.pick [2, 1, 0, 3, 4, 5, 6, 7, 8, 9, 10, 11, 12] kD rfl; clear H469
    have H471 : St w F0 [hM aW (⟨3, false, [], 0, [], 0, []⟩ : GLink) [.int .i64 (3), .bool (false), .slice none 0 0, .int .i64 (0), .slice none 0 0, .int .i64 (0), .slice none 0 0], hE aW 138 gf445 c440 1 [.int .i64 (3), .bool (false), .slice none 0 0, .int .i64 (0), .slice none 0 0, .int .i64 (0), .slice none 0 0] X.aJ, hR bE 188 (.slice B454 ((X.aJ[1]).aV.length) c455) ((X.aJ[1]).aV), hR aY 197 (.slice B456 ((X.aJ[1]).aT.length) c457) ((X.aJ[1]).aT), hR aY 197 (.slice B458 ((X.aJ[1]).bA.length) c459) ((X.aJ[1]).bA), hR aL 77 (.slice B435 X.aC.length c436) X.aC, hR aH 181 (.slice B437 X.Loop.length c438) X.Loop, hR aS 150 (.slice B441 X.Out.length c442) X.Out, bF gc 157 A bs.length cb, hB g_1_4 69 #[.int .i64 (X.Id), .slice B435 X.aC.length c436, .slice B437 X.Loop.length c438, .slice (some ⟨gf445, 0, none⟩) X.aJ.length c440, .slice B441 X.Out.length c442], hB g_0_0 69 #[.int .i64 (0), .slice none 0 0, .slice none 0 0, .slice none 0 0, .slice none 0 0]] W462 := H470.swap (l0 := [hR bE 188 (.slice none 0 0) ([]), hR aY 197 (.slice none 0 0) ([]), hR aY 197 (.slice none 0 0) ([])]) (l' := [hM aW (⟨3, false, [], 0, [], 0, []⟩ : GLink) [.int .i64 (3), .bool (false), .slice none 0 0, .int .i64 (0), .slice none 0 0, .int .i64 (0), .slice none 0 0]]) (fun _ h => Star.one (iE (x := (⟨3, false, [], 0, [], 0, []⟩ : GLink)) h)); clear H470
    have H472 : St w F0 [hE aW 138 gf445 c440 1 [.int .i64 (3), .bool (false), .slice none 0 0, .int .i64 (0), .slice none 0 0, .int .i64 (0), .slice none 0 0] X.aJ, hM aW (⟨3, false, [], 0, [], 0, []⟩ : GLink) [.int .i64 (3), .bool (false), .slice none 0 0, .int .i64 (0), .slice none 0 0, .int .i64 (0), .slice none 0 0], hR bE 188 (.slice B454 ((X.aJ[1]).aV.length) c455) ((X.aJ[1]).aV), hR aY 197 (.slice B456 ((X.aJ[1]).aT.length) c457) ((X.aJ[1]).aT), hR aY 197 (.slice B458 ((X.aJ[1]).bA.length) c459) ((X.aJ[1]).bA), hR aL 77 (.slice B435 X.aC.length c436) X.aC, hR aH 181 (.slice B437 X.Loop.length c438) X.Loop, hR aS 150 (.slice B441 X.Out.length c442) X.Out, bF gc 157 A bs.length cb, hB g_1_4 69 #[.int .i64 (X.Id), .slice B435 X.aC.length c436, .slice B437 X.Loop.length c438, .slice (some ⟨gf445, 0, none⟩) X.aJ.length c440, .slice B441 X.Out.length c442], hB g_0_0 69 #[.int .i64 (0), .slice none 0 0, .slice none 0 0, .slice none 0 0, .slice none 0 0]] W462 := H471.pick [1, 0, 2, 3, 4, 5, 6, 7, 8, 9, 10] kD rfl; clear H471
    have H473 : St w F0 [hR aW 138 (.slice (some ⟨gf445, 0, none⟩) X.aJ.length c440) (X.aJ.set 1 (⟨3, false, [], 0, [], 0, []⟩ : GLink)), hR bE 188 (.slice B454 ((X.aJ[1]).aV.length) c455) ((X.aJ[1]).aV), hR aY 197 (.slice B456 ((X.aJ[1]).aT.length) c457) ((X.aJ[1]).aT), hR aY 197 (.slice B458 ((X.aJ[1]).bA.length) c459) ((X.aJ[1]).bA), hR aL 77 (.slice B435 X.aC.length c436) X.aC, hR aH 181 (.slice B437 X.Loop.length c438) X.Loop, hR aS 150 (.slice B441 X.Out.length c442) X.Out, bF gc 157 A bs.length cb, hB g_1_4 69 #[.int .i64 (X.Id), .slice B435 X.aC.length c436, .slice B437 X.Loop.length c438, .slice (some ⟨gf445, 0, none⟩) X.aJ.length c440, .slice B441 X.Out.length c442], hB g_0_0 69 #[.int .i64 (0), .slice none 0 0, .slice none 0 0, .slice none 0 0, .slice none 0 0]] W462 := H472.closeG rfl (List.length_set ..).symm; clear H472
    have hl474 : X.aJ.length = (X.aJ.set 1 (⟨3, false, [], 0, [], 0, []⟩ : GLink)).length := (List.length_set ..).symm
    try rw [hl474] at H473
    try rw [hl474]
    have hlk := lk_sz X 1 (⟨3, false, [], 0, [], 0, []⟩ : GLink) hlt1 (Nat.zero_le _)
    refine aK ?_
    refine wp_seq ?_
    refine aN [0, 1] rfl ?_
    refine aA ?_
    refine aB rfl (bN Try.isAgg69 Try.sizeOf69 rfl (H473.blk 8 rfl) rfl) rfl rfl ?_
    refine aA ?_
    have H478 : St w F0 [hB g_0_0 69 #[.int .i64 (0), .slice none 0 0, .slice none 0 0, .slice none 0 0, .slice none 0 0], hR aW 138 (.slice (some ⟨gf445, 0, none⟩) ((X.aJ.set 1 (⟨3, false, [], 0, [], 0, []⟩ : GLink)).length) c440) (X.aJ.set 1 (⟨3, false, [], 0, [], 0, []⟩ : GLink)), hR bE 188 (.slice B454 ((X.aJ[1]).aV.length) c455) ((X.aJ[1]).aV), hR aY 197 (.slice B456 ((X.aJ[1]).aT.length) c457) ((X.aJ[1]).aT), hR aY 197 (.slice B458 ((X.aJ[1]).bA.length) c459) ((X.aJ[1]).bA), hR aL 77 (.slice B435 X.aC.length c436) X.aC, hR aH 181 (.slice B437 X.Loop.length c438) X.Loop, hR aS 150 (.slice B441 X.Out.length c442) X.Out, bF gc 157 A bs.length cb, hB g_1_4 69 #[.int .i64 (X.Id), .slice B435 X.aC.length c436, .slice B437 X.Loop.length c438, .slice (some ⟨gf445, 0, none⟩) ((X.aJ.set 1 (⟨3, false, [], 0, [], 0, []⟩ : GLink)).length) c440, .slice B441 X.Out.length c442]] W462 := H473.pick [9, 0, 1, 2, 3, 4, 5, 6, 7, 8] kD rfl; clear H473
    refine bG rfl Try.sizeOf69 rfl rfl rfl rfl kS H478 ?_
    intro W475 hu476 Ha477; clear H478; clear hu476
    refine aI ?_
    refine aK ?_
    refine wp_ret ?_
    refine dI (.inl rfl) Try.results77 Try.isAgg69 Try.sizeOf69 rfl (Ha477.blk 0 rfl) rfl ?_
    have H480 : St w F0 [hR aL 77 (.slice B435 X.aC.length c436) X.aC, hR aH 181 (.slice B437 X.Loop.length c438) X.Loop, hR aW 138 (.slice (some ⟨gf445, 0, none⟩) ((X.aJ.set 1 (⟨3, false, [], 0, [], 0, []⟩ : GLink)).length) c440) (X.aJ.set 1 (⟨3, false, [], 0, [], 0, []⟩ : GLink)), hR aS 150 (.slice B441 X.Out.length c442) X.Out, hB g_0_0 69 #[.int .i64 (X.Id), .slice B435 X.aC.length c436, .slice B437 X.Loop.length c438, .slice (some ⟨gf445, 0, none⟩) ((X.aJ.set 1 (⟨3, false, [], 0, [], 0, []⟩ : GLink)).length) c440, .slice B441 X.Out.length c442], hR bE 188 (.slice B454 ((X.aJ[1]).aV.length) c455) ((X.aJ[1]).aV), hR aY 197 (.slice B456 ((X.aJ[1]).aT.length) c457) ((X.aJ[1]).aT), hR aY 197 (.slice B458 ((X.aJ[1]).bA.length) c459) ((X.aJ[1]).bA), bF gc 157 A bs.length cb, hB g_1_4 69 #[.int .i64 (X.Id), .slice B435 X.aC.length c436, .slice B437 X.Loop.length c438, .slice (some ⟨gf445, 0, none⟩) ((X.aJ.set 1 (⟨3, false, [], 0, [], 0, []⟩ : GLink)).length) c440, .slice B441 X.Out.length c442]] W475 := Ha477.pick [5, 6, 1, 7, 0, 2, 3, 4, 8, 9] kD rfl; clear Ha477
    have H481 : St w F0 [hM bK (⟨X.Id, X.aC, X.Loop, (X.aJ.set 1 (⟨3, false, [], 0, [], 0, []⟩ : GLink)), X.Out⟩ : GVat) [.int .i64 (X.Id), .slice B435 X.aC.length c436, .slice B437 X.Loop.length c438, .slice (some ⟨gf445, 0, none⟩) ((X.aJ.set 1 (⟨3, false, [], 0, [], 0, []⟩ : GLink)).length) c440, .slice B441 X.Out.length c442], hB g_0_0 69 #[.int .i64 (X.Id), .slice B435 X.aC.length c436, .slice B437 X.Loop.length c438, .slice (some ⟨gf445, 0, none⟩) ((X.aJ.set 1 (⟨3, false, [], 0, [], 0, []⟩ : GLink)).length) c440, .slice B441 X.Out.length c442], hR bE 188 (.slice B454 ((X.aJ[1]).aV.length) c455) ((X.aJ[1]).aV), hR aY 197 (.slice B456 ((X.aJ[1]).aT.length) c457) ((X.aJ[1]).aT), hR aY 197 (.slice B458 ((X.aJ[1]).bA.length) c459) ((X.aJ[1]).bA), bF gc 157 A bs.length cb, hB g_1_4 69 #[.int .i64 (X.Id), .slice B435 X.aC.length c436, .slice B437 X.Loop.length c438, .slice (some ⟨gf445, 0, none⟩) ((X.aJ.set 1 (⟨3, false, [], 0, [], 0, []⟩ : GLink)).length) c440, .slice B441 X.Out.length c442]] W475 := H480.swap (l0 := [hR aL 77 (.slice B435 X.aC.length c436) X.aC, hR aH 181 (.slice B437 X.Loop.length c438) X.Loop, hR aW 138 (.slice (some ⟨gf445, 0, none⟩) ((X.aJ.set 1 (⟨3, false, [], 0, [], 0, []⟩ : GLink)).length) c440) (X.aJ.set 1 (⟨3, false, [], 0, [], 0, []⟩ : GLink)), hR aS 150 (.slice B441 X.Out.length c442) X.Out]) (l' := [hM bK (⟨X.Id, X.aC, X.Loop, (X.aJ.set 1 (⟨3, false, [], 0, [], 0, []⟩ : GLink)), X.Out⟩ : GVat) [.int .i64 (X.Id), .slice B435 X.aC.length c436, .slice B437 X.Loop.length c438, .slice (some ⟨gf445, 0, none⟩) ((X.aJ.set 1 (⟨3, false, [], 0, [], 0, []⟩ : GLink)).length) c440, .slice B441 X.Out.length c442]]) (fun _ h => Star.one (gM (x := (⟨X.Id, X.aC, X.Loop, (X.aJ.set 1 (⟨3, false, [], 0, [], 0, []⟩ : GLink)), X.Out⟩ : GVat)) h)); clear H480
    exact ⟨(⟨X.Id, X.aC, X.Loop, (X.aJ.set 1 (⟨3, false, [], 0, [], 0, []⟩ : GLink)), X.Out⟩ : GVat), _, rfl, by omega, H481.pick [0, 5] kD rfl⟩
   ·refine wp_skip ?_
    refine aK ?_
    refine wp_seq ?_
    refine aN [0, 1] rfl ?_
    refine aA ?_
    refine aB rfl (bN Try.isAgg69 Try.sizeOf69 rfl (H428.blk 2 rfl) (dF (H428.kn 1 rfl))) rfl rfl ?_
    refine aA ?_
    have H485 : St w F0 [hB g_0_0 69 #[.int .i64 (0), .slice none 0 0, .slice none 0 0, .slice none 0 0, .slice none 0 0], bF gc 157 A bs.length cb, hM bK X csX, hB g_1_4 69 (List.toArray csX)] W426 := H428.pick [3, 0, 1, 2] kD rfl; clear H428
    refine bG rfl Try.sizeOf69 rfl rfl (dF (H485.kn 2 rfl)) rfl (fM (H485.kn 2 rfl)) H485 ?_
    intro W482 hu483 Ha484; clear H485; clear hu483
    refine aI ?_
    refine aK ?_
    refine wp_ret ?_
    refine dI (.inl rfl) Try.results77 Try.isAgg69 Try.sizeOf69 rfl (Ha484.blk 0 rfl) (dF (Ha484.kn 2 rfl)) ?_
    exact ⟨X, _, rfl, by omega, Ha484.pick [2, 1] kD rfl⟩
theorem ref_s (x : GVat) (cs : List Value) (bs : List Int) (gc cb : Nat) (A : Option Addr) (F0 : Nat → Prop) (w : World) (hV : CV A bs F0 w) (hn : bs.length ≤ 1048576) (h : Star [bF gc 157 A bs.length cb, hM bK x cs] w F0) : Calls Try.prog 82 #[.pointer (some ⟨gc, 0, none⟩), .agg (List.toArray cs)] w (fun e' w' => ∃ k v : Int, e' = .returned (.agg #[.int .i64 k, .int .i64 v]) ∧ St w F0 [bF gc 157 A bs.length cb, hM bK x cs] w') := by
 refine enter 16 [(0, .pointer (some ⟨gc, 0, none⟩)), (1, .agg (List.toArray cs))] Try.func82 rfl kR ?_
 intro xj
 have H1 : St w F0 [bF gc 157 A bs.length cb, hM bK x cs] w := St.iA h
 refine wp_seq ?_
 refine aN [0, 1] rfl ?_
 refine aA ?_
 refine fJ rfl rfl rfl rfl H1 ?_
 intro g_0_0 W2 hu3 Ha4; clear H1; clear hu3
 refine aA ?_
 refine bP rfl Try.zeroValue70 rfl rfl Ha4 ?_
 intro g_0_1 W6 hu7 Ha8; clear Ha4; clear hu7
 refine aI ?_
 refine aK ?_
 refine wp_seq ?_
 refine wp_seq ?_
 refine aN [0, 1] rfl ?_
 refine aA ?_
 refine aB rfl (aF rfl) rfl rfl ?_
 refine aA ?_
 have H11 : St w F0 [bF gc 157 A bs.length cb, hB g_0_1 70 #[.int .i64 (0), .int .i64 (0)], hB g_0_0 69 (List.toArray cs), hM bK x cs] W6 := Ha8.pick [2, 0, 1, 3] kD rfl; clear Ha8
 obtain ⟨F12, hs13, hF14, hfr15⟩ := St.frame (l0 := [bF gc 157 A bs.length cb]) (l := [hB g_0_1 70 #[.int .i64 (0), .int .i64 (0)], hB g_0_0 69 (List.toArray cs), hM bK x cs]) H11
 refine bC rfl Try.call43 (vs := #[.pointer (some ⟨gc, 0, none⟩), .int .i64 (3)]) rfl rfl rfl (jR 3 _ _ _ _ _ _ (CV.step hV H11.1 hF14) hn hs13) ?_
 rintro e18 W17 ⟨b10, rfl, Hn16⟩; refine ⟨_, rfl, ?_⟩
 have H19 := hfr15 _ _ Hn16; clear H11
 refine aI ?_
 refine aK ?_
 refine jO (b := b10) rfl (fun hc20 => ?_) (fun hc20 => ?_)
 ·refine wp_seq ?_
  refine aN [0, 1, 2, 3] rfl ?_
  refine aA ?_
  refine aB rfl (aF rfl) rfl rfl ?_
  refine aA ?_
  obtain ⟨F23, hs24, hF25, hfr26⟩ := St.frame (l0 := [bF gc 157 A bs.length cb]) (l := [hB g_0_1 70 #[.int .i64 (0), .int .i64 (0)], hB g_0_0 69 (List.toArray cs), hM bK x cs]) H19
  refine bC rfl Try.call44 (vs := #[.pointer (some ⟨gc, 0, none⟩), .int .i64 (50)]) rfl rfl rfl (dN 50 _ _ _ _ _ _ (CV.step hV H19.1 hF25) hn hs24) ?_
  rintro e29 W28 ⟨q21, rfl, hq22, Hn27⟩; refine ⟨_, rfl, ?_⟩
  have H30 := hfr26 _ _ Hn27; clear H19
  refine aA ?_
  refine bC rfl Try.call122 (vs := #[.int .i64 (q21)]) rfl rfl rfl (jS q21 _) ?_
  rintro e35 W34 ⟨k31, v32, rfl, hu33⟩; refine ⟨_, rfl, ?_⟩
  have H36 := H30.no hu33; clear H30
  refine aA ?_
  have H40 : St w F0 [hB g_0_1 70 #[.int .i64 (0), .int .i64 (0)], bF gc 157 A bs.length cb, hB g_0_0 69 (List.toArray cs), hM bK x cs] W34 := H36.pick [1, 0, 2, 3] kD rfl; clear H36
  refine bG rfl Try.sizeOf70 rfl rfl rfl rfl kS H40 ?_
  intro W37 hu38 Ha39; clear H40; clear hu38
  refine aI ?_
  refine aK ?_
  refine wp_ret ?_
  refine bY ?_
  refine dI (.inl rfl) Try.results82 Try.isAgg70 Try.sizeOf70 rfl (Ha39.blk 0 rfl) rfl ?_
  exact ⟨_, _, rfl, Ha39.pick [1, 3] kD rfl⟩
 ·refine wp_skip ?_
  refine aK ?_
  refine wp_seq ?_
  have H42 : St w F0 [hM bK x cs, bF gc 157 A bs.length cb, hB g_0_1 70 #[.int .i64 (0), .int .i64 (0)], hB g_0_0 69 (List.toArray cs)] W17 := H19.pick [3, 0, 1, 2] kD rfl; clear H19
  obtain ⟨F43, hM44, hb45⟩ := H42.unM
  obtain ⟨B47, c48, B49, c50, B51, c52, B53, c54, rfl, hst46⟩ := fZ hM44
  have H55 : St w F0 [hR aL 77 (.slice B47 x.aC.length c48) x.aC, hR aH 181 (.slice B49 x.Loop.length c50) x.Loop, hR aW 138 (.slice B51 x.aJ.length c52) x.aJ, hR aS 150 (.slice B53 x.Out.length c54) x.Out, bF gc 157 A bs.length cb, hB g_0_1 70 #[.int .i64 (0), .int .i64 (0)], hB g_0_0 69 #[.int .i64 (x.Id), .slice B47 x.aC.length c48, .slice B49 x.Loop.length c50, .slice B51 x.aJ.length c52, .slice B53 x.Out.length c54]] W17 := hb45 _ hst46; clear H42
  refine aN [0, 1, 2, 3, 4, 5, 6] rfl ?_
  refine aA ?_
  refine aB rfl (aF rfl) rfl rfl ?_
  refine aA ?_
  refine aB rfl (aU eD rfl) rfl rfl ?_
  refine aA ?_
  refine aB rfl (bB (k := 1) (v := .slice B47 x.aC.length c48) Try.isAgg64 rfl (H55.blk 6 rfl) rfl) rfl rfl ?_
  refine aA ?_
  refine aB rfl (dP Try.runUnderlying64 rfl) rfl rfl ?_
  refine aA ?_
  have H58 : St w F0 [bF gc 157 A bs.length cb, hR aL 77 (.slice B47 x.aC.length c48) x.aC, hR aH 181 (.slice B49 x.Loop.length c50) x.Loop, hR aW 138 (.slice B51 x.aJ.length c52) x.aJ, hR aS 150 (.slice B53 x.Out.length c54) x.Out, hB g_0_1 70 #[.int .i64 (0), .int .i64 (0)], hB g_0_0 69 #[.int .i64 (x.Id), .slice B47 x.aC.length c48, .slice B49 x.Loop.length c50, .slice B51 x.aJ.length c52, .slice B53 x.Out.length c54]] W17 := H55.pick [4, 0, 1, 2, 3, 5, 6] kD rfl; clear H55
  obtain ⟨F59, hs60, hF61, hfr62⟩ := St.frame (l0 := [bF gc 157 A bs.length cb]) (l := [hR aL 77 (.slice B47 x.aC.length c48) x.aC, hR aH 181 (.slice B49 x.Loop.length c50) x.Loop, hR aW 138 (.slice B51 x.aJ.length c52) x.aJ, hR aS 150 (.slice B53 x.Out.length c54) x.Out, hB g_0_1 70 #[.int .i64 (0), .int .i64 (0)], hB g_0_0 69 #[.int .i64 (x.Id), .slice B47 x.aC.length c48, .slice B49 x.Loop.length c50, .slice B51 x.aJ.length c52, .slice B53 x.Out.length c54]]) H58
  refine bC rfl Try.call44 (vs := #[.pointer (some ⟨gc, 0, none⟩), .int .i64 ((x.aC.length : Nat))]) rfl rfl rfl (dN (x.aC.length : Nat) _ _ _ _ _ _ (CV.step hV H58.1 hF61) hn hs60) ?_
  rintro e65 W64 ⟨q56, rfl, hq57, Hn63⟩; refine ⟨_, rfl, ?_⟩
  have H66 := hfr62 _ _ Hn63; clear H58
  refine aA ?_
  refine bC rfl Try.call79 (vs := #[.int .i64 (q56)]) rfl rfl rfl (refValue_w q56 _) ?_
  rintro e71 W70 ⟨k67, v68, rfl, hu69⟩; refine ⟨_, rfl, ?_⟩
  have H72 := H66.no hu69; clear H66
  refine aA ?_
  have H76 : St w F0 [hB g_0_1 70 #[.int .i64 (0), .int .i64 (0)], bF gc 157 A bs.length cb, hR aL 77 (.slice B47 x.aC.length c48) x.aC, hR aH 181 (.slice B49 x.Loop.length c50) x.Loop, hR aW 138 (.slice B51 x.aJ.length c52) x.aJ, hR aS 150 (.slice B53 x.Out.length c54) x.Out, hB g_0_0 69 #[.int .i64 (x.Id), .slice B47 x.aC.length c48, .slice B49 x.Loop.length c50, .slice B51 x.aJ.length c52, .slice B53 x.Out.length c54]] W70 := H72.pick [5, 0, 1, 2, 3, 4, 6] kD rfl; clear H72
  refine bG rfl Try.sizeOf70 rfl rfl rfl rfl kS H76 ?_
  intro W73 hu74 Ha75; clear H76; clear hu74
  refine aI ?_
  refine aK ?_
  refine wp_ret ?_
  refine dI (.inl rfl) Try.results82 Try.isAgg70 Try.sizeOf70 rfl (Ha75.blk 0 rfl) rfl ?_
  have H78 : St w F0 [hR aL 77 (.slice B47 x.aC.length c48) x.aC, hR aH 181 (.slice B49 x.Loop.length c50) x.Loop, hR aW 138 (.slice B51 x.aJ.length c52) x.aJ, hR aS 150 (.slice B53 x.Out.length c54) x.Out, hB g_0_1 70 #[.int .i64 (k67), .int .i64 (v68)], bF gc 157 A bs.length cb, hB g_0_0 69 #[.int .i64 (x.Id), .slice B47 x.aC.length c48, .slice B49 x.Loop.length c50, .slice B51 x.aJ.length c52, .slice B53 x.Out.length c54]] W73 := Ha75.pick [2, 3, 4, 5, 0, 1, 6] kD rfl; clear Ha75
  have H79 : St w F0 [hM bK x [.int .i64 (x.Id), .slice B47 x.aC.length c48, .slice B49 x.Loop.length c50, .slice B51 x.aJ.length c52, .slice B53 x.Out.length c54], hB g_0_1 70 #[.int .i64 (k67), .int .i64 (v68)], bF gc 157 A bs.length cb, hB g_0_0 69 #[.int .i64 (x.Id), .slice B47 x.aC.length c48, .slice B49 x.Loop.length c50, .slice B51 x.aJ.length c52, .slice B53 x.Out.length c54]] W73 := H78.swap (l0 := [hR aL 77 (.slice B47 x.aC.length c48) x.aC, hR aH 181 (.slice B49 x.Loop.length c50) x.Loop, hR aW 138 (.slice B51 x.aJ.length c52) x.aJ, hR aS 150 (.slice B53 x.Out.length c54) x.Out]) (l' := [hM bK x [.int .i64 (x.Id), .slice B47 x.aC.length c48, .slice B49 x.Loop.length c50, .slice B51 x.aJ.length c52, .slice B53 x.Out.length c54]]) (fun _ h => Star.one (gM (x := x) h)); clear H78
  exact ⟨_, _, rfl, H79.pick [2, 0] kD rfl⟩
theorem drawLook_s (bs : List Int) (cb : Nat) (A : Option Addr) (w : World) (hC : C Kn.u8 w A bs) (hn : bs.length ≤ 1048576) : Calls Try.prog 31 #[.slice A bs.length cb] w (fun e' w' => ∃ x cs k v, e' = .returned (.tuple #[.agg (List.toArray cs), .agg #[.int .i64 k, .int .i64 v]]) ∧ eX x ≤ 10000 ∧ Star [hM bK x cs] w' (New w) ∧ Upd No w w') := by
 refine enter 35 [(0, .slice A bs.length cb)] Try.func31 rfl kR ?_
 intro xj
 have H1 : St w No [] w := St.enter
 have hV : CV A bs No w := CV.of hC
 refine wp_seq ?_
 refine aN [0, 1] rfl ?_
 refine aA ?_
 refine bP rfl Try.zeroValue69 rfl rfl H1 ?_
 intro g_0_0 W2 hu3 Ha4; clear H1; clear hu3
 refine aA ?_
 refine bP rfl Try.zeroValue70 rfl rfl Ha4 ?_
 intro g_0_1 W6 hu7 Ha8; clear Ha4; clear hu7
 refine aI ?_
 refine aK ?_
 refine wp_seq ?_
 refine aN [0, 1, 2] rfl ?_
 refine aA ?_
 refine aB rfl (aF rfl) rfl rfl ?_
 refine aA ?_
 refine bC rfl Try.call41 (vs := #[.slice A bs.length cb]) rfl rfl rfl (new_s bs cb A _ (cZ Ha8.1 hC) hn) ?_
 rintro e12 W11 ⟨gc, rfl, hq10⟩; refine ⟨_, rfl, ?_⟩
 have H13 := Ha8.news hq10.1 hq10.star; clear Ha8
 refine aA ?_
 refine aB rfl (aR rfl) rfl rfl ?_
 refine aI ?_
 refine aK ?_
 refine wp_seq ?_
 refine aN [0, 1, 2, 3] rfl ?_
 refine aA ?_
 refine aB rfl (aF rfl) rfl rfl ?_
 refine aA ?_
 obtain ⟨F16, hs17, hF18, hfr19⟩ := St.frame (l0 := [bF gc 157 A bs.length cb]) (l := [hB g_0_1 70 #[.int .i64 (0), .int .i64 (0)], hB g_0_0 69 #[.int .i64 (0), .slice none 0 0, .slice none 0 0, .slice none 0 0, .slice none 0 0]]) H13
 refine bC rfl Try.call77 (vs := #[.pointer (some ⟨gc, 0, none⟩)]) rfl rfl rfl (vat_s _ _ _ _ _ _ (CV.step hV H13.1 hF18) hn hs17) ?_
 rintro e22 W21 ⟨m14, cs15, rfl, hvat, Hn20⟩; refine ⟨_, rfl, ?_⟩
 have H23 : St w No [hM bK m14 cs15, bF gc 157 A bs.length cb, hB g_0_1 70 #[.int .i64 (0), .int .i64 (0)], hB g_0_0 69 #[.int .i64 (0), .slice none 0 0, .slice none 0 0, .slice none 0 0, .slice none 0 0]] W21 := hfr19 (_ :: [_]) _ Hn20; clear H13
 refine aA ?_
 refine bP rfl Try.zeroValue69 rfl rfl H23 ?_
 intro g_2_2 W24 hu25 Ha26; clear H23; clear hu25
 refine aA ?_
 refine bG rfl Try.sizeOf69 rfl rfl (dF (Ha26.kn 1 rfl)) rfl (fM (Ha26.kn 1 rfl)) Ha26 ?_
 intro W28 hu29 Ha30; clear Ha26; clear hu29
 refine aI ?_
 refine aK ?_
 refine wp_seq ?_
 refine wp_seq ?_
 refine aN [0, 1] rfl ?_
 refine aA ?_
 refine aB rfl (aF rfl) rfl rfl ?_
 refine aA ?_
 have H33 : St w No [bF gc 157 A bs.length cb, hB g_2_2 69 (List.toArray cs15), hM bK m14 cs15, hB g_0_1 70 #[.int .i64 (0), .int .i64 (0)], hB g_0_0 69 #[.int .i64 (0), .slice none 0 0, .slice none 0 0, .slice none 0 0, .slice none 0 0]] W28 := Ha30.pick [2, 0, 1, 3, 4] kD rfl; clear Ha30
 obtain ⟨F34, hs35, hF36, hfr37⟩ := St.frame (l0 := [bF gc 157 A bs.length cb]) (l := [hB g_2_2 69 (List.toArray cs15), hM bK m14 cs15, hB g_0_1 70 #[.int .i64 (0), .int .i64 (0)], hB g_0_0 69 #[.int .i64 (0), .slice none 0 0, .slice none 0 0, .slice none 0 0, .slice none 0 0]]) H33
 refine bC rfl Try.call43 (vs := #[.pointer (some ⟨gc, 0, none⟩), .int .i64 (6)]) rfl rfl rfl (jR 6 _ _ _ _ _ _ (CV.step hV H33.1 hF36) hn hs35) ?_
 rintro e40 W39 ⟨b32, rfl, Hn38⟩; refine ⟨_, rfl, ?_⟩
 have H41 := hfr37 _ _ Hn38; clear H33
 refine aI ?_
 refine aK ?_
 refine eU (fun a' W' => ∃ (Y : GVat) (csY : List Value) (x' : Nat → Value), a' = bH 35 x' [(2, .pointer (some ⟨g_0_0, 0, none⟩)), (3, .pointer (some ⟨g_0_1, 0, none⟩)), (4, .pointer (some ⟨gc, 0, none⟩)), (5, .pointer (some ⟨g_2_2, 0, none⟩))] ∧ St w No [hM bK Y csY, hB g_2_2 69 (List.toArray csY), bF gc 157 A bs.length cb, hB g_0_0 69 #[.int .i64 (0), .slice none 0 0, .slice none 0 0, .slice none 0 0, .slice none 0 0], hB g_0_1 70 #[.int .i64 (0), .int .i64 (0)]] W' ∧ (eX Y ≤ 10000)) ?_ ?_
 ·refine jO (b := b32) rfl (fun hc42 => ?_) (fun hc42 => ?_)
  ·refine wp_seq ?_
   refine aN [0, 1, 2] rfl ?_
   refine aA ?_
   refine bC rfl Try.call78 (vs := #[]) rfl rfl rfl (jC _) ?_
   rintro e48 W47 ⟨cs43, rfl, hM44, hu45⟩; refine ⟨_, rfl, ?_⟩
   obtain ⟨B_4_0_2, c_4_0_2, B_4_0_6, c_4_0_6, B_4_0_7, c_4_0_7, rfl, hst46⟩ := gK hM44
   have H49 := H41.news hu45 hst46; clear H41
   refine aA ?_
   refine bP rfl Try.zeroValue77 rfl rfl H49 ?_
   intro g_4_1 W50 hu51 Ha52; clear H49; clear hu51
   refine aA ?_
   refine bG rfl Try.sizeOf77 rfl rfl rfl rfl kS Ha52 ?_
   intro W54 hu55 Ha56; clear Ha52; clear hu55
   refine aI ?_
   refine aK ?_
   refine wp_seq ?_
   refine aN [0, 1] rfl ?_
   refine aA ?_
   refine aB rfl (aU fV rfl) rfl rfl ?_
   refine aA ?_
   refine bR rfl Try.sizeOf3 rfl rfl rfl (Nat.le_of_ble_eq_true rfl) (by simp [Value.cells, Value.oneCell']) Ha56 ?_
   intro W58 hu59 Ha60; clear Ha56; clear hu59
   refine aI ?_
   refine aK ?_
   refine wp_seq ?_
   have H62 : St w No [hM bK m14 cs15, hB g_4_1 77 #[.int .i64 (prm.Kind), .int .i64 (prm.Script), .slice B_4_0_2 prm.aM.length c_4_0_2, .int .i64 (2), .int .i64 (prm.Value.Kind), .int .i64 (prm.Value.N), .slice B_4_0_6 prm.Queue.length c_4_0_6, .slice B_4_0_7 prm.aG.length c_4_0_7, .int .i64 (prm.bD), .int .i64 (prm.Pos), .int .i64 (prm.Count), .int .i64 (prm.bJ)], hR aP 70 (.slice B_4_0_2 prm.aM.length c_4_0_2) prm.aM, hR aH 181 (.slice B_4_0_6 prm.Queue.length c_4_0_6) prm.Queue, hR aQ 155 (.slice B_4_0_7 prm.aG.length c_4_0_7) prm.aG, bF gc 157 A bs.length cb, hB g_2_2 69 (List.toArray cs15), hB g_0_1 70 #[.int .i64 (0), .int .i64 (0)], hB g_0_0 69 #[.int .i64 (0), .slice none 0 0, .slice none 0 0, .slice none 0 0, .slice none 0 0]] W58 := Ha60.pick [6, 0, 1, 2, 3, 4, 5, 7, 8] kD rfl; clear Ha60
   obtain ⟨F63, hM64, hb65⟩ := H62.unM
   obtain ⟨B67, c68, B69, c70, B71, c72, B73, c74, rfl, hst66⟩ := fZ hM64
   have H75 : St w No [hR aL 77 (.slice B67 m14.aC.length c68) m14.aC, hR aH 181 (.slice B69 m14.Loop.length c70) m14.Loop, hR aW 138 (.slice B71 m14.aJ.length c72) m14.aJ, hR aS 150 (.slice B73 m14.Out.length c74) m14.Out, hB g_4_1 77 #[.int .i64 (prm.Kind), .int .i64 (prm.Script), .slice B_4_0_2 prm.aM.length c_4_0_2, .int .i64 (2), .int .i64 (prm.Value.Kind), .int .i64 (prm.Value.N), .slice B_4_0_6 prm.Queue.length c_4_0_6, .slice B_4_0_7 prm.aG.length c_4_0_7, .int .i64 (prm.bD), .int .i64 (prm.Pos), .int .i64 (prm.Count), .int .i64 (prm.bJ)], hR aP 70 (.slice B_4_0_2 prm.aM.length c_4_0_2) prm.aM, hR aH 181 (.slice B_4_0_6 prm.Queue.length c_4_0_6) prm.Queue, hR aQ 155 (.slice B_4_0_7 prm.aG.length c_4_0_7) prm.aG, bF gc 157 A bs.length cb, hB g_2_2 69 #[.int .i64 (m14.Id), .slice B67 m14.aC.length c68, .slice B69 m14.Loop.length c70, .slice B71 m14.aJ.length c72, .slice B73 m14.Out.length c74], hB g_0_1 70 #[.int .i64 (0), .int .i64 (0)], hB g_0_0 69 #[.int .i64 (0), .slice none 0 0, .slice none 0 0, .slice none 0 0, .slice none 0 0]] W58 := hb65 _ hst66; clear H62
   refine aN [0, 1, 2, 3, 4, 5] rfl ?_
   refine aA ?_
   refine aB rfl (aU eD rfl) rfl rfl ?_
   refine aA ?_
   refine aB rfl (bB (k := 1) (v := .slice B67 m14.aC.length c68) Try.isAgg64 rfl (H75.blk 9 rfl) rfl) rfl rfl ?_
   refine aA ?_
   refine aB rfl (dP Try.runUnderlying64 rfl) rfl rfl ?_
   refine aA ?_
   refine bC rfl Try.call79 (vs := #[.int .i64 ((m14.aC.length : Nat))]) rfl rfl rfl (refValue_w (m14.aC.length : Nat) _) ?_
   rintro e80 W79 ⟨k76, v77, rfl, hu78⟩; refine ⟨_, rfl, ?_⟩
   have H81 := H75.no hu78; clear H75
   refine aA ?_
   refine aB rfl (aU kI rfl) rfl rfl ?_
   refine aA ?_
   have H85 : St w No [hB g_4_1 77 #[.int .i64 (prm.Kind), .int .i64 (prm.Script), .slice B_4_0_2 prm.aM.length c_4_0_2, .int .i64 (2), .int .i64 (prm.Value.Kind), .int .i64 (prm.Value.N), .slice B_4_0_6 prm.Queue.length c_4_0_6, .slice B_4_0_7 prm.aG.length c_4_0_7, .int .i64 (prm.bD), .int .i64 (prm.Pos), .int .i64 (prm.Count), .int .i64 (prm.bJ)], hR aL 77 (.slice B67 m14.aC.length c68) m14.aC, hR aH 181 (.slice B69 m14.Loop.length c70) m14.Loop, hR aW 138 (.slice B71 m14.aJ.length c72) m14.aJ, hR aS 150 (.slice B73 m14.Out.length c74) m14.Out, hR aP 70 (.slice B_4_0_2 prm.aM.length c_4_0_2) prm.aM, hR aH 181 (.slice B_4_0_6 prm.Queue.length c_4_0_6) prm.Queue, hR aQ 155 (.slice B_4_0_7 prm.aG.length c_4_0_7) prm.aG, bF gc 157 A bs.length cb, hB g_2_2 69 #[.int .i64 (m14.Id), .slice B67 m14.aC.length c68, .slice B69 m14.Loop.length c70, .slice B71 m14.aJ.length c72, .slice B73 m14.Out.length c74], hB g_0_1 70 #[.int .i64 (0), .int .i64 (0)], hB g_0_0 69 #[.int .i64 (0), .slice none 0 0, .slice none 0 0, .slice none 0 0, .slice none 0 0]] W79 := H81.pick [4, 0, 1, 2, 3, 5, 6, 7, 8, 9, 10, 11] kD rfl; clear H81
   refine bR rfl Try.sizeOf70 rfl rfl rfl (Nat.le_of_ble_eq_true rfl) (by simp [Value.cells, Value.oneCell']) H85 ?_
   intro W82 hu83 Ha84; clear H85; clear hu83
   refine aI ?_
   refine aK ?_
   refine aN [0, 1, 2, 3, 4, 5, 6] rfl ?_
   refine aA ?_
   refine aB rfl (bN Try.isAgg69 Try.sizeOf69 rfl (Ha84.blk 9 rfl) rfl) rfl rfl ?_
   refine aA ?_
   refine aB rfl (bN Try.isAgg77 Try.sizeOf77 rfl (Ha84.blk 0 rfl) rfl) rfl rfl ?_
   refine aA ?_
   have hes87 : bU (⟨prm.Kind, prm.Script, prm.aM, 2, (⟨k76, v77⟩ : GValue), prm.Queue, prm.aG, prm.bD, prm.Pos, prm.Count, prm.bJ⟩ : GEntity) ≤ 60 := by first | exact hent | exact Nat.le_of_ble_eq_true rfl
   have hb88 := addE_sz (⟨prm.Kind, prm.Script, prm.aM, 2, (⟨k76, v77⟩ : GValue), prm.Queue, prm.aG, prm.bD, prm.Pos, prm.Count, prm.bJ⟩ : GEntity) m14
   refine bC rfl Try.call80 (vs := #[.agg #[.int .i64 (m14.Id), .slice B67 m14.aC.length c68, .slice B69 m14.Loop.length c70, .slice B71 m14.aJ.length c72, .slice B73 m14.Out.length c74], .agg #[.int .i64 (prm.Kind), .int .i64 (prm.Script), .slice B_4_0_2 prm.aM.length c_4_0_2, .int .i64 (2), .int .i64 (k76), .int .i64 (v77), .slice B_4_0_6 prm.Queue.length c_4_0_6, .slice B_4_0_7 prm.aG.length c_4_0_7, .int .i64 (prm.bD), .int .i64 (prm.Pos), .int .i64 (prm.Count), .int .i64 (prm.bJ)]]) rfl rfl rfl (iX m14 (⟨prm.Kind, prm.Script, prm.aM, 2, (⟨k76, v77⟩ : GValue), prm.Queue, prm.aG, prm.bD, prm.Pos, prm.Count, prm.bJ⟩ : GEntity) _ _ _ (gZ _ m14 (Ha84.fE 1 rfl).1 (Ha84.fU 1 rfl) (Ha84.fE 2 rfl).1 (Ha84.fU 2 rfl) (Ha84.fE 3 rfl).1 (Ha84.fU 3 rfl) (Ha84.fE 4 rfl).1 (Ha84.fU 4 rfl)) kO (jG _ (⟨prm.Kind, prm.Script, prm.aM, 2, (⟨k76, v77⟩ : GValue), prm.Queue, prm.aG, prm.bD, prm.Pos, prm.Count, prm.bJ⟩ : GEntity) (Ha84.fE 5 rfl).1 (Ha84.fU 5 rfl) (Ha84.fE 6 rfl).1 (Ha84.fU 6 rfl) (Ha84.fE 7 rfl).1 (Ha84.fU 7 rfl)) kO) ?_
   rintro e92 W91 ⟨cs_7_2, rfl, hM89, hu90⟩; refine ⟨_, rfl, ?_⟩
   have H93 := Ha84.new (q := hM bK (dK (⟨prm.Kind, prm.Script, prm.aM, 2, (⟨k76, v77⟩ : GValue), prm.Queue, prm.aG, prm.bD, prm.Pos, prm.Count, prm.bJ⟩ : GEntity) m14) cs_7_2) hu90 hM89; clear Ha84
   refine aA ?_
   refine aB rfl (aF rfl) rfl rfl ?_
   refine aA ?_
   refine aB rfl (dY (v := .agg (List.toArray cs_7_2)) rfl rfl) rfl rfl ?_
   refine aA ?_
   refine aB rfl (dY (v := .int .i64 ((addN m14.aC))) rfl rfl) rfl rfl ?_
   refine aA ?_
   have H97 : St w No [hB g_2_2 69 #[.int .i64 (m14.Id), .slice B67 m14.aC.length c68, .slice B69 m14.Loop.length c70, .slice B71 m14.aJ.length c72, .slice B73 m14.Out.length c74], hM bK (dK (⟨prm.Kind, prm.Script, prm.aM, 2, (⟨k76, v77⟩ : GValue), prm.Queue, prm.aG, prm.bD, prm.Pos, prm.Count, prm.bJ⟩ : GEntity) m14) cs_7_2, hB g_4_1 77 #[.int .i64 (prm.Kind), .int .i64 (prm.Script), .slice B_4_0_2 prm.aM.length c_4_0_2, .int .i64 (2), .int .i64 (k76), .int .i64 (v77), .slice B_4_0_6 prm.Queue.length c_4_0_6, .slice B_4_0_7 prm.aG.length c_4_0_7, .int .i64 (prm.bD), .int .i64 (prm.Pos), .int .i64 (prm.Count), .int .i64 (prm.bJ)], hR aL 77 (.slice B67 m14.aC.length c68) m14.aC, hR aH 181 (.slice B69 m14.Loop.length c70) m14.Loop, hR aW 138 (.slice B71 m14.aJ.length c72) m14.aJ, hR aS 150 (.slice B73 m14.Out.length c74) m14.Out, hR aP 70 (.slice B_4_0_2 prm.aM.length c_4_0_2) prm.aM, hR aH 181 (.slice B_4_0_6 prm.Queue.length c_4_0_6) prm.Queue, hR aQ 155 (.slice B_4_0_7 prm.aG.length c_4_0_7) prm.aG, bF gc 157 A bs.length cb, hB g_0_1 70 #[.int .i64 (0), .int .i64 (0)], hB g_0_0 69 #[.int .i64 (0), .slice none 0 0, .slice none 0 0, .slice none 0 0, .slice none 0 0]] W91 := H93.pick [10, 0, 1, 2, 3, 4, 5, 6, 7, 8, 9, 11, 12] kD rfl; clear H93
   refine bG rfl Try.sizeOf69 rfl rfl (dF (H97.kn 1 rfl)) rfl (fM (H97.kn 1 rfl)) H97 ?_
   intro W94 hu95 Ha96; clear H97; clear hu95
   refine aI ?_
   exact (aZ [(2, .pointer (some ⟨g_0_0, 0, none⟩)), (3, .pointer (some ⟨g_0_1, 0, none⟩)), (4, .pointer (some ⟨gc, 0, none⟩)), (5, .pointer (some ⟨g_2_2, 0, none⟩))] rfl).elim fun x' hx => ⟨(dK (⟨prm.Kind, prm.Script, prm.aM, 2, (⟨k76, v77⟩ : GValue), prm.Queue, prm.aG, prm.bD, prm.Pos, prm.Count, prm.bJ⟩ : GEntity) m14), cs_7_2, x', hx, Ha96.pick [1, 0, 10, 12, 11] kD rfl, kO⟩
  ·refine wp_skip ?_
   exact (aZ [(2, .pointer (some ⟨g_0_0, 0, none⟩)), (3, .pointer (some ⟨g_0_1, 0, none⟩)), (4, .pointer (some ⟨gc, 0, none⟩)), (5, .pointer (some ⟨g_2_2, 0, none⟩))] rfl).elim fun x' hx => ⟨m14, cs15, x', hx, H41.pick [2, 1, 0, 4, 3] kD rfl, kO⟩
 ·rintro _ W100 ⟨Y, csY, x101, rfl, H99, hY⟩
  refine aK ?_
  refine wp_seq ?_
  refine wp_seq ?_
  refine aN [0, 1] rfl ?_
  refine aA ?_
  refine aB rfl (aF rfl) rfl rfl ?_
  refine aA ?_
  have H103 : St w No [bF gc 157 A bs.length cb, hM bK Y csY, hB g_2_2 69 (List.toArray csY), hB g_0_0 69 #[.int .i64 (0), .slice none 0 0, .slice none 0 0, .slice none 0 0, .slice none 0 0], hB g_0_1 70 #[.int .i64 (0), .int .i64 (0)]] W100 := H99.pick [2, 0, 1, 3, 4] kD rfl; clear H99
  obtain ⟨F104, hs105, hF106, hfr107⟩ := St.frame (l0 := [bF gc 157 A bs.length cb]) (l := [hM bK Y csY, hB g_2_2 69 (List.toArray csY), hB g_0_0 69 #[.int .i64 (0), .slice none 0 0, .slice none 0 0, .slice none 0 0, .slice none 0 0], hB g_0_1 70 #[.int .i64 (0), .int .i64 (0)]]) H103
  refine bC rfl Try.call43 (vs := #[.pointer (some ⟨gc, 0, none⟩), .int .i64 (6)]) rfl rfl rfl (jR 6 _ _ _ _ _ _ (CV.step hV H103.1 hF106) hn hs105) ?_
  rintro e110 W109 ⟨b102, rfl, Hn108⟩; refine ⟨_, rfl, ?_⟩
  have H111 := hfr107 _ _ Hn108; clear H103
  refine aI ?_
  refine aK ?_
  refine jO (b := b102) rfl (fun hc112 => ?_) (fun hc112 => ?_)
  ·refine wp_seq ?_
   refine dG (fun W' => Blk W' g_2_2 69 (List.toArray csY)) 5 kR ?_
   have H113 := H111.drew; clear H111
   have hS114 : Blk W109.drew g_2_2 69 (List.toArray csY) := H113.blk 2 rfl
   refine aO (i := 0) rfl kR kR kR kR kR (fun _ _ _ h => h) rfl rfl hS114 (fun W' hs' => bN Try.isAgg69 Try.sizeOf69 rfl hs' (dF (H113.kn 1 rfl))) ?_
   refine aO (i := 1) rfl kR kR kR kR kR (fun _ _ _ h => h) rfl rfl hS114 (fun W' hs' => aF rfl) ?_
   refine bM (i := 2) kR ?_
   obtain ⟨F117, hs118, hF119, hfr120⟩ := St.frame (l0 := [bF gc 157 A bs.length cb]) (l := [hM bK Y csY, hB g_2_2 69 (List.toArray csY), hB g_0_0 69 #[.int .i64 (0), .slice none 0 0, .slice none 0 0, .slice none 0 0, .slice none 0 0], hB g_0_1 70 #[.int .i64 (0), .int .i64 (0)]]) H113
   refine bC rfl Try.call81 (vs := #[.pointer (some ⟨gc, 0, none⟩)]) rfl rfl rfl (value_s _ _ _ _ _ _ (CV.step hV H113.1 hF119) hn hs118) ?_
   rintro e123 W122 ⟨k115, v116, rfl, Hn121⟩; refine ⟨_, rfl, ?_⟩
   have H124 := hfr120 _ _ Hn121; clear H113
   have hS125 := H124.blk 2 rfl; refine ⟨fun _ => hS125, ?_⟩
   refine bM (i := 3) kR ?_
   have H129 : St w No [hB g_0_0 69 #[.int .i64 (0), .slice none 0 0, .slice none 0 0, .slice none 0 0, .slice none 0 0], bF gc 157 A bs.length cb, hM bK Y csY, hB g_2_2 69 (List.toArray csY), hB g_0_1 70 #[.int .i64 (0), .int .i64 (0)]] W122 := H124.pick [3, 0, 1, 2, 4] kD rfl; clear H124
   refine bG rfl Try.sizeOf69 rfl rfl (dF (H129.kn 2 rfl)) rfl (fM (H129.kn 2 rfl)) H129 ?_
   intro W126 hu127 Ha128; clear H129; clear hu127
   have hS131 := Ha128.blk 3 rfl; refine ⟨fun _ => hS131, ?_⟩
   refine bM (i := 4) kR ?_
   have H135 : St w No [hB g_0_1 70 #[.int .i64 (0), .int .i64 (0)], hB g_0_0 69 (List.toArray csY), bF gc 157 A bs.length cb, hM bK Y csY, hB g_2_2 69 (List.toArray csY)] W126 := Ha128.pick [4, 0, 1, 2, 3] kD rfl; clear Ha128
   refine bG rfl Try.sizeOf70 rfl rfl rfl rfl kS H135 ?_
   intro W132 hu133 Ha134; clear H135; clear hu133
   have hS137 := Ha134.blk 4 rfl; refine ⟨fun _ => hS137, ?_⟩
   refine cB kR ?_ _
   refine aK ?_
   refine wp_ret ?_
   refine bY ?_
   refine post_cc (.inl rfl) Try.results31 Try.isAgg69 Try.sizeOf69 Try.isAgg70 Try.sizeOf70 rfl rfl (Ha134.blk 1 rfl) (dF (Ha134.kn 3 rfl)) (Ha134.blk 0 rfl) rfl ?_
   exact ⟨Y, _, _, _, rfl, hY, (Ha134.pick [3] kD rfl).star, Ha134.1⟩
  ·refine wp_skip ?_
   refine aK ?_
   refine wp_seq ?_
   refine dG (fun W' => Blk W' g_2_2 69 (List.toArray csY)) 6 kR ?_
   have H138 := H111.drew; clear H111
   have hS139 : Blk W109.drew g_2_2 69 (List.toArray csY) := H138.blk 2 rfl
   refine aO (i := 0) rfl kR kR kR kR kR (fun _ _ _ h => h) rfl rfl hS139 (fun W' hs' => bN Try.isAgg69 Try.sizeOf69 rfl hs' (dF (H138.kn 1 rfl))) ?_
   refine aO (i := 1) rfl kR kR kR kR kR (fun _ _ _ h => h) rfl rfl hS139 (fun W' hs' => aF rfl) ?_
   refine aO (i := 2) rfl kR kR kR kR kR (fun _ _ _ h => h) rfl rfl hS139 (fun W' hs' => bN Try.isAgg69 Try.sizeOf69 rfl hs' (dF (H138.kn 1 rfl))) ?_
   refine bM (i := 3) kR ?_
   obtain ⟨F142, hs143, hF144, hfr145⟩ := St.frame (l0 := [bF gc 157 A bs.length cb, hM bK Y csY]) (l := [hB g_2_2 69 (List.toArray csY), hB g_0_0 69 #[.int .i64 (0), .slice none 0 0, .slice none 0 0, .slice none 0 0, .slice none 0 0], hB g_0_1 70 #[.int .i64 (0), .int .i64 (0)]]) H138
   refine bC rfl Try.call82 (vs := #[.pointer (some ⟨gc, 0, none⟩), .agg (List.toArray csY)]) rfl rfl rfl (ref_s Y csY _ _ _ _ _ _ (CV.step hV H138.1 hF144) hn hs143) ?_
   rintro e148 W147 ⟨k140, v141, rfl, Hn146⟩; refine ⟨_, rfl, ?_⟩
   have H149 := hfr145 _ _ Hn146; clear H138
   have hS150 := H149.blk 2 rfl; refine ⟨fun _ => hS150, ?_⟩
   refine bM (i := 4) kR ?_
   have H154 : St w No [hB g_0_0 69 #[.int .i64 (0), .slice none 0 0, .slice none 0 0, .slice none 0 0, .slice none 0 0], bF gc 157 A bs.length cb, hM bK Y csY, hB g_2_2 69 (List.toArray csY), hB g_0_1 70 #[.int .i64 (0), .int .i64 (0)]] W147 := H149.pick [3, 0, 1, 2, 4] kD rfl; clear H149
   refine bG rfl Try.sizeOf69 rfl rfl (dF (H154.kn 2 rfl)) rfl (fM (H154.kn 2 rfl)) H154 ?_
   intro W151 hu152 Ha153; clear H154; clear hu152
   have hS156 := Ha153.blk 3 rfl; refine ⟨fun _ => hS156, ?_⟩
   refine bM (i := 5) kR ?_
   have H160 : St w No [hB g_0_1 70 #[.int .i64 (0), .int .i64 (0)], hB g_0_0 69 (List.toArray csY), bF gc 157 A bs.length cb, hM bK Y csY, hB g_2_2 69 (List.toArray csY)] W151 := Ha153.pick [4, 0, 1, 2, 3] kD rfl; clear Ha153
   refine bG rfl Try.sizeOf70 rfl rfl rfl rfl kS H160 ?_
   intro W157 hu158 Ha159; clear H160; clear hu158
   have hS162 := Ha159.blk 4 rfl; refine ⟨fun _ => hS162, ?_⟩
   refine cB kR ?_ _
   refine aK ?_
   refine wp_ret ?_
   refine post_cc (.inl rfl) Try.results31 Try.isAgg69 Try.sizeOf69 Try.isAgg70 Try.sizeOf70 rfl rfl (Ha159.blk 1 rfl) (dF (Ha159.kn 3 rfl)) (Ha159.blk 0 rfl) rfl ?_
   exact ⟨Y, _, _, _, rfl, hY, (Ha159.pick [3] kD rfl).star, Ha159.1⟩
theorem drawAdd_s (bs : List Int) (cb : Nat) (A : Option Addr) (w : World) (hC : C Kn.u8 w A bs) (hn : bs.length ≤ 1048576) : Calls Try.prog 34 #[.slice A bs.length cb] w (fun e' w' => ∃ x cs e ce, e' = .returned (.tuple #[.agg (List.toArray cs), .agg (List.toArray ce)]) ∧ (eX x ≤ 50000 ∧ bU e ≤ 60) ∧ Star [hM bK x cs, hM aL e ce] w' (New w) ∧ Upd No w w') := by
 refine enter 28 [(0, .slice A bs.length cb)] Try.func34 rfl kR ?_
 intro xj
 have H1 : St w No [] w := St.enter
 have hV : CV A bs No w := CV.of hC
 refine wp_seq ?_
 refine aN [0, 1] rfl ?_
 refine aA ?_
 refine bP rfl Try.zeroValue69 rfl rfl H1 ?_
 intro g_0_0 W2 hu3 Ha4; clear H1; clear hu3
 refine aA ?_
 refine bP rfl Try.zeroValue77 rfl rfl Ha4 ?_
 intro g_0_1 W6 hu7 Ha8; clear Ha4; clear hu7
 refine aI ?_
 refine aK ?_
 refine wp_seq ?_
 refine aN [0, 1, 2] rfl ?_
 refine aA ?_
 refine aB rfl (aF rfl) rfl rfl ?_
 refine aA ?_
 refine bC rfl Try.call41 (vs := #[.slice A bs.length cb]) rfl rfl rfl (new_s bs cb A _ (cZ Ha8.1 hC) hn) ?_
 rintro e12 W11 ⟨gc, rfl, hq10⟩; refine ⟨_, rfl, ?_⟩
 have H13 := Ha8.news hq10.1 hq10.star; clear Ha8
 refine aA ?_
 refine aB rfl (aR rfl) rfl rfl ?_
 refine aI ?_
 refine aK ?_
 refine wp_seq ?_
 refine aN [0, 1, 2, 3] rfl ?_
 refine aA ?_
 refine aB rfl (aF rfl) rfl rfl ?_
 refine aA ?_
 obtain ⟨F16, hs17, hF18, hfr19⟩ := St.frame (l0 := [bF gc 157 A bs.length cb]) (l := [hB g_0_1 77 #[.int .i64 (0), .int .i64 (0), .slice none 0 0, .int .i64 (0), .int .i64 (0), .int .i64 (0), .slice none 0 0, .slice none 0 0, .int .i64 (0), .int .i64 (0), .int .i64 (0), .int .i64 (0)], hB g_0_0 69 #[.int .i64 (0), .slice none 0 0, .slice none 0 0, .slice none 0 0, .slice none 0 0]]) H13
 refine bC rfl Try.call77 (vs := #[.pointer (some ⟨gc, 0, none⟩)]) rfl rfl rfl (vat_s _ _ _ _ _ _ (CV.step hV H13.1 hF18) hn hs17) ?_
 rintro e22 W21 ⟨m14, cs15, rfl, hvat, Hn20⟩; refine ⟨_, rfl, ?_⟩
 have H23 : St w No [hM bK m14 cs15, bF gc 157 A bs.length cb, hB g_0_1 77 #[.int .i64 (0), .int .i64 (0), .slice none 0 0, .int .i64 (0), .int .i64 (0), .int .i64 (0), .slice none 0 0, .slice none 0 0, .int .i64 (0), .int .i64 (0), .int .i64 (0), .int .i64 (0)], hB g_0_0 69 #[.int .i64 (0), .slice none 0 0, .slice none 0 0, .slice none 0 0, .slice none 0 0]] W21 := hfr19 (_ :: [_]) _ Hn20; clear H13
 refine aA ?_
 refine bP rfl Try.zeroValue69 rfl rfl H23 ?_
 intro g_2_2 W24 hu25 Ha26; clear H23; clear hu25
 refine aA ?_
 refine bG rfl Try.sizeOf69 rfl rfl (dF (Ha26.kn 1 rfl)) rfl (fM (Ha26.kn 1 rfl)) Ha26 ?_
 intro W28 hu29 Ha30; clear Ha26; clear hu29
 refine aI ?_
 refine aK ?_
 refine wp_seq ?_
 refine wp_seq ?_
 refine aN [0, 1] rfl ?_
 refine aA ?_
 refine aB rfl (aF rfl) rfl rfl ?_
 refine aA ?_
 have H33 : St w No [bF gc 157 A bs.length cb, hB g_2_2 69 (List.toArray cs15), hM bK m14 cs15, hB g_0_1 77 #[.int .i64 (0), .int .i64 (0), .slice none 0 0, .int .i64 (0), .int .i64 (0), .int .i64 (0), .slice none 0 0, .slice none 0 0, .int .i64 (0), .int .i64 (0), .int .i64 (0), .int .i64 (0)], hB g_0_0 69 #[.int .i64 (0), .slice none 0 0, .slice none 0 0, .slice none 0 0, .slice none 0 0]] W28 := Ha30.pick [2, 0, 1, 3, 4] kD rfl; clear Ha30
 obtain ⟨F34, hs35, hF36, hfr37⟩ := St.frame (l0 := [bF gc 157 A bs.length cb]) (l := [hB g_2_2 69 (List.toArray cs15), hM bK m14 cs15, hB g_0_1 77 #[.int .i64 (0), .int .i64 (0), .slice none 0 0, .int .i64 (0), .int .i64 (0), .int .i64 (0), .slice none 0 0, .slice none 0 0, .int .i64 (0), .int .i64 (0), .int .i64 (0), .int .i64 (0)], hB g_0_0 69 #[.int .i64 (0), .slice none 0 0, .slice none 0 0, .slice none 0 0, .slice none 0 0]]) H33
 refine bC rfl Try.call43 (vs := #[.pointer (some ⟨gc, 0, none⟩), .int .i64 (8)]) rfl rfl rfl (jR 8 _ _ _ _ _ _ (CV.step hV H33.1 hF36) hn hs35) ?_
 rintro e40 W39 ⟨b32, rfl, Hn38⟩; refine ⟨_, rfl, ?_⟩
 have H41 := hfr37 _ _ Hn38; clear H33
 refine aI ?_
 refine aK ?_
 refine eU (fun a' W' => ∃ (Y : GVat) (csY : List Value) (x' : Nat → Value), a' = bH 28 x' [(2, .pointer (some ⟨g_0_0, 0, none⟩)), (3, .pointer (some ⟨g_0_1, 0, none⟩)), (4, .pointer (some ⟨gc, 0, none⟩)), (5, .pointer (some ⟨g_2_2, 0, none⟩))] ∧ St w No [hM bK Y csY, hB g_2_2 69 (List.toArray csY), bF gc 157 A bs.length cb, hB g_0_0 69 #[.int .i64 (0), .slice none 0 0, .slice none 0 0, .slice none 0 0, .slice none 0 0], hB g_0_1 77 #[.int .i64 (0), .int .i64 (0), .slice none 0 0, .int .i64 (0), .int .i64 (0), .int .i64 (0), .slice none 0 0, .slice none 0 0, .int .i64 (0), .int .i64 (0), .int .i64 (0), .int .i64 (0)]] W' ∧ (eX Y ≤ 50000)) ?_ ?_
 ·refine jO (b := b32) rfl (fun hc42 => ?_) (fun hc42 => ?_)
  ·refine wp_block ?_
   have H43 : St w No [hM bK m14 cs15, bF gc 157 A bs.length cb, hB g_2_2 69 (List.toArray cs15), hB g_0_1 77 #[.int .i64 (0), .int .i64 (0), .slice none 0 0, .int .i64 (0), .int .i64 (0), .int .i64 (0), .slice none 0 0, .slice none 0 0, .int .i64 (0), .int .i64 (0), .int .i64 (0), .int .i64 (0)], hB g_0_0 69 #[.int .i64 (0), .slice none 0 0, .slice none 0 0, .slice none 0 0, .slice none 0 0]] W39 := H41.pick [2, 0, 1, 3, 4] kD rfl; clear H41
   obtain ⟨F44, hM45, hb46⟩ := H43.unM
   obtain ⟨B48, c49, B50, c51, B52, c53, B54, c55, rfl, hst47⟩ := fZ hM45
   have H56 : St w No [hR aL 77 (.slice B48 m14.aC.length c49) m14.aC, hR aH 181 (.slice B50 m14.Loop.length c51) m14.Loop, hR aW 138 (.slice B52 m14.aJ.length c53) m14.aJ, hR aS 150 (.slice B54 m14.Out.length c55) m14.Out, bF gc 157 A bs.length cb, hB g_2_2 69 #[.int .i64 (m14.Id), .slice B48 m14.aC.length c49, .slice B50 m14.Loop.length c51, .slice B52 m14.aJ.length c53, .slice B54 m14.Out.length c55], hB g_0_1 77 #[.int .i64 (0), .int .i64 (0), .slice none 0 0, .int .i64 (0), .int .i64 (0), .int .i64 (0), .slice none 0 0, .slice none 0 0, .int .i64 (0), .int .i64 (0), .int .i64 (0), .int .i64 (0)], hB g_0_0 69 #[.int .i64 (0), .slice none 0 0, .slice none 0 0, .slice none 0 0, .slice none 0 0]] W39 := hb46 _ hst47; clear H43
   have hel := ent_le m14
   refine wp_loop_ghost (fun r a' W' => ∃ (L : List GEntity) (AL : Option Addr) (cL : Nat) (x' : Nat → Value), a' = bH 28 x' [(2, .pointer (some ⟨g_0_0, 0, none⟩)), (3, .pointer (some ⟨g_0_1, 0, none⟩)), (4, .pointer (some ⟨gc, 0, none⟩)), (5, .pointer (some ⟨g_2_2, 0, none⟩))] ∧ (200 ≤ L.length + r) ∧ (bV bU L + 20 * r ≤ 10000) ∧ St w No [hR aL 77 (.slice AL L.length cL) L, hR aH 181 (.slice B50 m14.Loop.length c51) m14.Loop, hR aW 138 (.slice B52 m14.aJ.length c53) m14.aJ, hR aS 150 (.slice B54 m14.Out.length c55) m14.Out, bF gc 157 A bs.length cb, hB g_2_2 69 #[.int .i64 (m14.Id), .slice AL L.length cL, .slice B50 m14.Loop.length c51, .slice B52 m14.aJ.length c53, .slice B54 m14.Out.length c55], hB g_0_1 77 #[.int .i64 (0), .int .i64 (0), .slice none 0 0, .int .i64 (0), .int .i64 (0), .int .i64 (0), .slice none 0 0, .slice none 0 0, .int .i64 (0), .int .i64 (0), .int .i64 (0), .int .i64 (0)], hB g_0_0 69 #[.int .i64 (0), .slice none 0 0, .slice none 0 0, .slice none 0 0, .slice none 0 0]] W') 200 ?_ ?_
   ·exact (aZ [(2, .pointer (some ⟨g_0_0, 0, none⟩)), (3, .pointer (some ⟨g_0_1, 0, none⟩)), (4, .pointer (some ⟨gc, 0, none⟩)), (5, .pointer (some ⟨g_2_2, 0, none⟩))] rfl).elim fun x' hx => ⟨m14.aC, B48, c49, x', hx, kO, kO, H56⟩
   ·rintro r57 _ W58 ⟨L, AL, cL, x59, rfl, hL, hL2, H60⟩; clear H56
    refine wp_seq ?_
    refine wp_seq ?_
    refine dG (fun W' => Blk W' g_2_2 69 #[.int .i64 (m14.Id), .slice AL L.length cL, .slice B50 m14.Loop.length c51, .slice B52 m14.aJ.length c53, .slice B54 m14.Out.length c55]) 7 kR ?_
    have H61 := H60.drew; clear H60
    have hS62 : Blk W58.drew g_2_2 69 #[.int .i64 (m14.Id), .slice AL L.length cL, .slice B50 m14.Loop.length c51, .slice B52 m14.aJ.length c53, .slice B54 m14.Out.length c55] := H61.blk 5 rfl
    refine aO (i := 0) rfl kR kR kR kR kR (fun _ _ _ h => h) rfl rfl hS62 (fun W' hs' => aU eD rfl) ?_
    refine aO (i := 1) rfl kR kR kR kR kR (fun _ _ _ h => h) rfl rfl hS62 (fun W' hs' => bB (k := 1) (v := .slice AL L.length cL) Try.isAgg64 rfl hs' rfl) ?_
    refine aO (i := 2) rfl kR kR kR kR kR (fun _ _ _ h => h) rfl rfl hS62 (fun W' hs' => dP Try.runUnderlying64 rfl) ?_
    refine aO (i := 3) rfl kR kR kR kR kR (fun _ _ _ h => h) rfl rfl hS62 (fun W' hs' => aF rfl) ?_
    refine bM (i := 4) kR ?_
    have H65 : St w No [bF gc 157 A bs.length cb, hR aL 77 (.slice AL L.length cL) L, hR aH 181 (.slice B50 m14.Loop.length c51) m14.Loop, hR aW 138 (.slice B52 m14.aJ.length c53) m14.aJ, hR aS 150 (.slice B54 m14.Out.length c55) m14.Out, hB g_2_2 69 #[.int .i64 (m14.Id), .slice AL L.length cL, .slice B50 m14.Loop.length c51, .slice B52 m14.aJ.length c53, .slice B54 m14.Out.length c55], hB g_0_1 77 #[.int .i64 (0), .int .i64 (0), .slice none 0 0, .int .i64 (0), .int .i64 (0), .int .i64 (0), .slice none 0 0, .slice none 0 0, .int .i64 (0), .int .i64 (0), .int .i64 (0), .int .i64 (0)], hB g_0_0 69 #[.int .i64 (0), .slice none 0 0, .slice none 0 0, .slice none 0 0, .slice none 0 0]] W58.drew := H61.pick [4, 0, 1, 2, 3, 5, 6, 7] kD rfl; clear H61
    obtain ⟨F66, hs67, hF68, hfr69⟩ := St.frame (l0 := [bF gc 157 A bs.length cb]) (l := [hR aL 77 (.slice AL L.length cL) L, hR aH 181 (.slice B50 m14.Loop.length c51) m14.Loop, hR aW 138 (.slice B52 m14.aJ.length c53) m14.aJ, hR aS 150 (.slice B54 m14.Out.length c55) m14.Out, hB g_2_2 69 #[.int .i64 (m14.Id), .slice AL L.length cL, .slice B50 m14.Loop.length c51, .slice B52 m14.aJ.length c53, .slice B54 m14.Out.length c55], hB g_0_1 77 #[.int .i64 (0), .int .i64 (0), .slice none 0 0, .int .i64 (0), .int .i64 (0), .int .i64 (0), .slice none 0 0, .slice none 0 0, .int .i64 (0), .int .i64 (0), .int .i64 (0), .int .i64 (0)], hB g_0_0 69 #[.int .i64 (0), .slice none 0 0, .slice none 0 0, .slice none 0 0, .slice none 0 0]]) H65
    refine bC rfl Try.call44 (vs := #[.pointer (some ⟨gc, 0, none⟩), .int .i64 (2)]) rfl rfl rfl (dN 2 _ _ _ _ _ _ (CV.step hV H65.1 hF68) hn hs67) ?_
    rintro e72 W71 ⟨q63, rfl, hq64, Hn70⟩; refine ⟨_, rfl, ?_⟩
    have H73 := hfr69 _ _ Hn70; clear H65
    have hS74 := H73.blk 5 rfl; refine ⟨fun _ => hS74, ?_⟩
    refine aO (i := 5) rfl kR kR kR kR kR (fun _ _ _ h => h) rfl rfl hS74 (fun W' hs' => gV rfl rfl kO) ?_
    refine aO (i := 6) rfl kR kR kR kR kR (fun _ _ _ h => h) rfl rfl hS74 (fun W' hs' => gB rfl rfl) ?_
    refine cB kR ?_ _
    refine aK ?_
    refine dB rfl (fun hc75 => ?_) (fun hc75 => ?_)
    ·refine wp_skip ?_
     refine aK ?_
     refine wp_block ?_
     refine dG (fun W' => Blk W' g_2_2 69 #[.int .i64 (m14.Id), .slice AL L.length cL, .slice B50 m14.Loop.length c51, .slice B52 m14.aJ.length c53, .slice B54 m14.Out.length c55]) 6 kR ?_
     have H76 := H73.drew; clear H73
     have hS77 : Blk W71.drew g_2_2 69 #[.int .i64 (m14.Id), .slice AL L.length cL, .slice B50 m14.Loop.length c51, .slice B52 m14.aJ.length c53, .slice B54 m14.Out.length c55] := H76.blk 5 rfl
     refine aO (i := 0) rfl kR kR kR kR kR (fun _ _ _ h => h) rfl rfl hS77 (fun W' hs' => aU eD rfl) ?_
     refine aO (i := 1) rfl kR kR kR kR kR (fun _ _ _ h => h) rfl rfl hS77 (fun W' hs' => bB (k := 1) (v := .slice AL L.length cL) Try.isAgg64 rfl hs' rfl) ?_
     refine bM (i := 2) kR ?_
     refine bC rfl Try.call78 (vs := #[]) rfl rfl rfl (jC _) ?_
     rintro e81 W80 ⟨cs_5_2, rfl, hM78, hu79⟩; refine ⟨_, rfl, ?_⟩
     have H82 := H76.new (q := hM aL prm cs_5_2) hu79 hM78; clear H76
     have hS83 := H82.blk 6 rfl; refine ⟨fun _ => hS83, ?_⟩
     refine bM (i := 3) kR ?_
     refine dD rfl Try.runUnderlying64 Try.sizeOf77 kD Try.zeroValue77 rfl (cO (H82.kn 0 rfl)) rfl rfl H82 ?_
     intro g_5_3 W84 hu85 Ha86; clear H82; clear hu85
     have hS88 := Ha86.blk 7 rfl; refine ⟨fun _ => hS88, ?_⟩
     refine bM (i := 4) kR ?_
     have H91 : St w No [hR aL 77 (.slice AL L.length cL) L, hB g_5_3 77 (List.toArray cs_5_2), hM aL prm cs_5_2, bF gc 157 A bs.length cb, hR aH 181 (.slice B50 m14.Loop.length c51) m14.Loop, hR aW 138 (.slice B52 m14.aJ.length c53) m14.aJ, hR aS 150 (.slice B54 m14.Out.length c55) m14.Out, hB g_2_2 69 #[.int .i64 (m14.Id), .slice AL L.length cL, .slice B50 m14.Loop.length c51, .slice B52 m14.aJ.length c53, .slice B54 m14.Out.length c55], hB g_0_1 77 #[.int .i64 (0), .int .i64 (0), .slice none 0 0, .int .i64 (0), .int .i64 (0), .int .i64 (0), .slice none 0 0, .slice none 0 0, .int .i64 (0), .int .i64 (0), .int .i64 (0), .int .i64 (0)], hB g_0_0 69 #[.int .i64 (0), .slice none 0 0, .slice none 0 0, .slice none 0 0, .slice none 0 0]] W84 := Ha86.pick [3, 0, 1, 2, 4, 5, 6, 7, 8, 9] kD rfl; clear Ha86
     refine gG (xs := L) (p := prm) (n' := (L ++ [prm]).length) (ys := (L ++ [prm])) rfl Try.underlying64 gY rfl kD kD rfl rfl (by show (L.length + 1) * _ ≤ _; omega) (by rw [List.length_append]; rfl) rfl rfl rfl H91 ?_
     intro B_5_4 c_5_4 W89 Ha90; clear H91
     have hS93 := Ha90.blk 5 rfl; refine ⟨fun _ => hS93, ?_⟩
     refine aO (i := 5) rfl kR kR kR kR kR (fun _ _ _ h => h) rfl rfl hS93 (fun W' hs' => aU eD rfl) ?_
     refine bM (i := 6) kR ?_
     have H97 : St w No [hB g_2_2 69 #[.int .i64 (m14.Id), .slice AL L.length cL, .slice B50 m14.Loop.length c51, .slice B52 m14.aJ.length c53, .slice B54 m14.Out.length c55], hR aL 77 (.slice B_5_4 ((L ++ [prm]).length) c_5_4) (L ++ [prm]), bF gc 157 A bs.length cb, hR aH 181 (.slice B50 m14.Loop.length c51) m14.Loop, hR aW 138 (.slice B52 m14.aJ.length c53) m14.aJ, hR aS 150 (.slice B54 m14.Out.length c55) m14.Out, hB g_0_1 77 #[.int .i64 (0), .int .i64 (0), .slice none 0 0, .int .i64 (0), .int .i64 (0), .int .i64 (0), .slice none 0 0, .slice none 0 0, .int .i64 (0), .int .i64 (0), .int .i64 (0), .int .i64 (0)], hB g_0_0 69 #[.int .i64 (0), .slice none 0 0, .slice none 0 0, .slice none 0 0, .slice none 0 0]] W89 := Ha90.pick [5, 0, 1, 2, 3, 4, 6, 7] kD rfl; clear Ha90
     refine bR rfl Try.sizeOf64 rfl rfl rfl (Nat.le_of_ble_eq_true rfl) (by simp [Value.cells, Value.oneCell']) H97 ?_
     intro W94 hu95 Ha96; clear H97; clear hu95
     refine ⟨fun h => absS kR h, ?_⟩
     refine cB kR ?_ _
     refine eP ?_
     refine aK ?_
     have hz := szA bU L prm
     have hz2 : bU prm = 0 := rfl
     exact (aZ [(2, .pointer (some ⟨g_0_0, 0, none⟩)), (3, .pointer (some ⟨g_0_1, 0, none⟩)), (4, .pointer (some ⟨gc, 0, none⟩)), (5, .pointer (some ⟨g_2_2, 0, none⟩))] rfl).elim fun x' hx => ⟨r57 - 1, kO, (L ++ [prm]), B_5_4, c_5_4, x', hx, (by rw [List.length_append]; show 200 ≤ L.length + 1 + _; omega), kO, Ha96.pick [1, 3, 4, 5, 2, 0, 6, 7] kD rfl⟩
    ·refine wp_exit ?_
     refine dX ?_
     refine dX ?_
     refine iH ?_
     have H99 : St w No [hR aL 77 (.slice AL L.length cL) L, hR aH 181 (.slice B50 m14.Loop.length c51) m14.Loop, hR aW 138 (.slice B52 m14.aJ.length c53) m14.aJ, hR aS 150 (.slice B54 m14.Out.length c55) m14.Out, bF gc 157 A bs.length cb, hB g_2_2 69 #[.int .i64 (m14.Id), .slice AL L.length cL, .slice B50 m14.Loop.length c51, .slice B52 m14.aJ.length c53, .slice B54 m14.Out.length c55], hB g_0_1 77 #[.int .i64 (0), .int .i64 (0), .slice none 0 0, .int .i64 (0), .int .i64 (0), .int .i64 (0), .slice none 0 0, .slice none 0 0, .int .i64 (0), .int .i64 (0), .int .i64 (0), .int .i64 (0)], hB g_0_0 69 #[.int .i64 (0), .slice none 0 0, .slice none 0 0, .slice none 0 0, .slice none 0 0]] W71 := H73.pick [1, 2, 3, 4, 0, 5, 6, 7] kD rfl; clear H73
     have H100 : St w No [hM bK (⟨m14.Id, L, m14.Loop, m14.aJ, m14.Out⟩ : GVat) [.int .i64 (m14.Id), .slice AL L.length cL, .slice B50 m14.Loop.length c51, .slice B52 m14.aJ.length c53, .slice B54 m14.Out.length c55], bF gc 157 A bs.length cb, hB g_2_2 69 #[.int .i64 (m14.Id), .slice AL L.length cL, .slice B50 m14.Loop.length c51, .slice B52 m14.aJ.length c53, .slice B54 m14.Out.length c55], hB g_0_1 77 #[.int .i64 (0), .int .i64 (0), .slice none 0 0, .int .i64 (0), .int .i64 (0), .int .i64 (0), .slice none 0 0, .slice none 0 0, .int .i64 (0), .int .i64 (0), .int .i64 (0), .int .i64 (0)], hB g_0_0 69 #[.int .i64 (0), .slice none 0 0, .slice none 0 0, .slice none 0 0, .slice none 0 0]] W71 := H99.swap (l0 := [hR aL 77 (.slice AL L.length cL) L, hR aH 181 (.slice B50 m14.Loop.length c51) m14.Loop, hR aW 138 (.slice B52 m14.aJ.length c53) m14.aJ, hR aS 150 (.slice B54 m14.Out.length c55) m14.Out]) (l' := [hM bK (⟨m14.Id, L, m14.Loop, m14.aJ, m14.Out⟩ : GVat) [.int .i64 (m14.Id), .slice AL L.length cL, .slice B50 m14.Loop.length c51, .slice B52 m14.aJ.length c53, .slice B54 m14.Out.length c55]]) (fun _ h => Star.one (gM (x := (⟨m14.Id, L, m14.Loop, m14.aJ, m14.Out⟩ : GVat)) h)); clear H99
     have hv1 := ent_sz m14 L
     exact (aZ [(2, .pointer (some ⟨g_0_0, 0, none⟩)), (3, .pointer (some ⟨g_0_1, 0, none⟩)), (4, .pointer (some ⟨gc, 0, none⟩)), (5, .pointer (some ⟨g_2_2, 0, none⟩))] rfl).elim fun x' hx => ⟨(⟨m14.Id, L, m14.Loop, m14.aJ, m14.Out⟩ : GVat), [.int .i64 (m14.Id), .slice AL L.length cL, .slice B50 m14.Loop.length c51, .slice B52 m14.aJ.length c53, .slice B54 m14.Out.length c55], x', hx, H100.pick [0, 2, 1, 4, 3] kD rfl, kO⟩
  ·refine wp_skip ?_
   exact (aZ [(2, .pointer (some ⟨g_0_0, 0, none⟩)), (3, .pointer (some ⟨g_0_1, 0, none⟩)), (4, .pointer (some ⟨gc, 0, none⟩)), (5, .pointer (some ⟨g_2_2, 0, none⟩))] rfl).elim fun x' hx => ⟨m14, cs15, x', hx, H41.pick [2, 1, 0, 4, 3] kD rfl, kO⟩
 ·rintro _ W102 ⟨Y, csY, x103, rfl, H101, hY⟩
  refine aK ?_
  refine wp_seq ?_
  refine dG (fun W' => Blk W' g_2_2 69 (List.toArray csY)) 5 kR ?_
  have H104 := H101.drew; clear H101
  have hS105 : Blk W102.drew g_2_2 69 (List.toArray csY) := H104.blk 1 rfl
  refine aO (i := 0) rfl kR kR kR kR kR (fun _ _ _ h => h) rfl rfl hS105 (fun W' hs' => bN Try.isAgg69 Try.sizeOf69 rfl hs' (dF (H104.kn 0 rfl))) ?_
  refine aO (i := 1) rfl kR kR kR kR kR (fun _ _ _ h => h) rfl rfl hS105 (fun W' hs' => aF rfl) ?_
  refine bM (i := 2) kR ?_
  have H108 : St w No [bF gc 157 A bs.length cb, hM bK Y csY, hB g_2_2 69 (List.toArray csY), hB g_0_0 69 #[.int .i64 (0), .slice none 0 0, .slice none 0 0, .slice none 0 0, .slice none 0 0], hB g_0_1 77 #[.int .i64 (0), .int .i64 (0), .slice none 0 0, .int .i64 (0), .int .i64 (0), .int .i64 (0), .slice none 0 0, .slice none 0 0, .int .i64 (0), .int .i64 (0), .int .i64 (0), .int .i64 (0)]] W102.drew := H104.pick [2, 0, 1, 3, 4] kD rfl; clear H104
  obtain ⟨F109, hs110, hF111, hfr112⟩ := St.frame (l0 := [bF gc 157 A bs.length cb]) (l := [hM bK Y csY, hB g_2_2 69 (List.toArray csY), hB g_0_0 69 #[.int .i64 (0), .slice none 0 0, .slice none 0 0, .slice none 0 0, .slice none 0 0], hB g_0_1 77 #[.int .i64 (0), .int .i64 (0), .slice none 0 0, .int .i64 (0), .int .i64 (0), .int .i64 (0), .slice none 0 0, .slice none 0 0, .int .i64 (0), .int .i64 (0), .int .i64 (0), .int .i64 (0)]]) H108
  refine bC rfl Try.call85 (vs := #[.pointer (some ⟨gc, 0, none⟩)]) rfl rfl rfl (entity_s _ _ _ _ _ _ (CV.step hV H108.1 hF111) hn hs110) ?_
  rintro e115 W114 ⟨m106, cs107, rfl, hent, Hn113⟩; refine ⟨_, rfl, ?_⟩
  have H116 : St w No [hM aL m106 cs107, bF gc 157 A bs.length cb, hM bK Y csY, hB g_2_2 69 (List.toArray csY), hB g_0_0 69 #[.int .i64 (0), .slice none 0 0, .slice none 0 0, .slice none 0 0, .slice none 0 0], hB g_0_1 77 #[.int .i64 (0), .int .i64 (0), .slice none 0 0, .int .i64 (0), .int .i64 (0), .int .i64 (0), .slice none 0 0, .slice none 0 0, .int .i64 (0), .int .i64 (0), .int .i64 (0), .int .i64 (0)]] W114 := hfr112 (_ :: [_]) _ Hn113; clear H108
  have hS117 := H116.blk 3 rfl; refine ⟨fun _ => hS117, ?_⟩
  refine bM (i := 3) kR ?_
  have H121 : St w No [hB g_0_0 69 #[.int .i64 (0), .slice none 0 0, .slice none 0 0, .slice none 0 0, .slice none 0 0], hM aL m106 cs107, bF gc 157 A bs.length cb, hM bK Y csY, hB g_2_2 69 (List.toArray csY), hB g_0_1 77 #[.int .i64 (0), .int .i64 (0), .slice none 0 0, .int .i64 (0), .int .i64 (0), .int .i64 (0), .slice none 0 0, .slice none 0 0, .int .i64 (0), .int .i64 (0), .int .i64 (0), .int .i64 (0)]] W114 := H116.pick [4, 0, 1, 2, 3, 5] kD rfl; clear H116
  refine bG rfl Try.sizeOf69 rfl rfl (dF (H121.kn 3 rfl)) rfl (fM (H121.kn 3 rfl)) H121 ?_
  intro W118 hu119 Ha120; clear H121; clear hu119
  have hS123 := Ha120.blk 4 rfl; refine ⟨fun _ => hS123, ?_⟩
  refine bM (i := 4) kR ?_
  have H127 : St w No [hB g_0_1 77 #[.int .i64 (0), .int .i64 (0), .slice none 0 0, .int .i64 (0), .int .i64 (0), .int .i64 (0), .slice none 0 0, .slice none 0 0, .int .i64 (0), .int .i64 (0), .int .i64 (0), .int .i64 (0)], hB g_0_0 69 (List.toArray csY), hM aL m106 cs107, bF gc 157 A bs.length cb, hM bK Y csY, hB g_2_2 69 (List.toArray csY)] W118 := Ha120.pick [5, 0, 1, 2, 3, 4] kD rfl; clear Ha120
  refine bG rfl Try.sizeOf77 rfl rfl (cO (H127.kn 2 rfl)) rfl (fF (H127.kn 2 rfl)) H127 ?_
  intro W124 hu125 Ha126; clear H127; clear hu125
  have hS129 := Ha126.blk 5 rfl; refine ⟨fun _ => hS129, ?_⟩
  refine cB kR ?_ _
  refine aK ?_
  refine wp_ret ?_
  refine post_cc (.inl rfl) Try.results34 Try.isAgg69 Try.sizeOf69 Try.isAgg77 Try.sizeOf77 rfl rfl (Ha126.blk 1 rfl) (dF (Ha126.kn 4 rfl)) (Ha126.blk 0 rfl) (cO (Ha126.kn 2 rfl)) ?_
  exact ⟨Y, _, m106, _, rfl, ⟨hY, hent⟩, (Ha126.pick [4, 2] kD rfl).star, Ha126.1⟩
theorem drawNew_s (bs : List Int) (cb : Nat) (A : Option Addr) (w : World) (hC : C Kn.u8 w A bs) (hn : bs.length ≤ 1048576) : Calls Try.prog 36 #[.slice A bs.length cb] w (fun e' w' => ∃ a B L c s, e' = .returned (.tuple #[.int .i64 a, .slice B L.length c, .int .i64 s]) ∧ L.length ≤ 8 ∧ Star [hR Kn.int 3 (.slice B L.length c) L] w' (New w) ∧ Upd No w w') := by
 refine enter 29 [(0, .slice A bs.length cb)] Try.func36 rfl kR ?_
 intro xj
 have H1 : St w No [] w := St.enter
 have hV : CV A bs No w := CV.of hC
 refine wp_seq ?_
 refine aN [0, 1, 2] rfl ?_
 refine aA ?_
 refine aB rfl (aR rfl) rfl rfl ?_
 refine aA ?_
 refine aB rfl (aR rfl) rfl rfl ?_
 refine aA ?_
 refine aB rfl (aR rfl) rfl rfl ?_
 refine aI ?_
 refine aK ?_
 refine wp_seq ?_
 refine aN [0, 1, 2] rfl ?_
 refine aA ?_
 refine aB rfl (aF rfl) rfl rfl ?_
 refine aA ?_
 refine bC rfl Try.call41 (vs := #[.slice A bs.length cb]) rfl rfl rfl (new_s bs cb A _ (cZ H1.1 hC) hn) ?_
 rintro e4 W3 ⟨gc, rfl, hq2⟩; refine ⟨_, rfl, ?_⟩
 have H5 := H1.news hq2.1 hq2.star; clear H1
 refine aA ?_
 refine aB rfl (aR rfl) rfl rfl ?_
 refine aI ?_
 refine aK ?_
 refine wp_seq ?_
 refine aN [0, 1, 2, 3] rfl ?_
 refine aA ?_
 refine aB rfl (aF rfl) rfl rfl ?_
 refine aA ?_
 obtain ⟨F8, hs9, hF10, hfr11⟩ := St.frame (l0 := [bF gc 157 A bs.length cb]) (l := []) H5
 refine bC rfl Try.call44 (vs := #[.pointer (some ⟨gc, 0, none⟩), .int .i64 (4)]) rfl rfl rfl (dN 4 _ _ _ _ _ _ (CV.step hV H5.1 hF10) hn hs9) ?_
 rintro e14 W13 ⟨q6, rfl, hq7, Hn12⟩; refine ⟨_, rfl, ?_⟩
 have H15 := hfr11 _ _ Hn12; clear H5
 refine aA ?_
 refine aB rfl (gV rfl rfl kO) rfl rfl ?_
 refine aA ?_
 refine aB rfl (aR rfl) rfl rfl ?_
 refine aI ?_
 refine aK ?_
 refine wp_seq ?_
 refine aN [0, 1] rfl ?_
 refine aA ?_
 refine op_slice0 (dk := Kn.int) rfl Try.runUnderlying82 Try.sizeOf3 rfl rfl H15 ?_
 intro A_3_0 W16 hu17 Ha18; clear H15; clear hu17
 refine aA ?_
 refine aB rfl (aR rfl) rfl rfl ?_
 refine aI ?_
 refine aK ?_
 refine wp_seq ?_
 refine wp_seq ?_
 refine aN [0, 1, 2] rfl ?_
 refine aA ?_
 refine aB rfl (aF rfl) rfl rfl ?_
 refine aA ?_
 have H23 : St w No [bF gc 157 A bs.length cb, hR Kn.int 3 (.slice A_3_0 0 0) ([])] W16 := Ha18.pick [1, 0] kD rfl; clear Ha18
 obtain ⟨F24, hs25, hF26, hfr27⟩ := St.frame (l0 := [bF gc 157 A bs.length cb]) (l := [hR Kn.int 3 (.slice A_3_0 0 0) ([])]) H23
 refine bC rfl Try.call44 (vs := #[.pointer (some ⟨gc, 0, none⟩), .int .i64 (4)]) rfl rfl rfl (dN 4 _ _ _ _ _ _ (CV.step hV H23.1 hF26) hn hs25) ?_
 rintro e30 W29 ⟨q20, rfl, hq21, Hn28⟩; refine ⟨_, rfl, ?_⟩
 have H31 := hfr27 _ _ Hn28; clear H23
 obtain ⟨n22, rfl⟩ : ∃ z : Nat, q20 = z := ⟨q20.toNat, by omega⟩
 refine aA ?_
 refine aB rfl (aR rfl) rfl rfl ?_
 refine aI ?_
 refine aK ?_
 refine wp_block ?_
 refine wp_loop_ghost (fun r a' W' => ∃ (d : Nat) (L : List Int) (AL : Option Addr) (cL : Nat) (x' : Nat → Value), a' = bH 29 x' [(5, .pointer (some ⟨gc, 0, none⟩)), (6, .int .i64 ((1 + q6))), (7, .slice AL L.length cL), (8, .int .i64 (((d : Nat) : Int)))] ∧ (d = r) ∧ (L.length + d ≤ 8) ∧ St w No [bF gc 157 A bs.length cb, hR Kn.int 3 (.slice AL L.length cL) L] W') n22 ?_ ?_
 ·exact (aZ [(5, .pointer (some ⟨gc, 0, none⟩)), (6, .int .i64 ((1 + q6))), (7, .slice A_3_0 0 0), (8, .int .i64 (((n22 : Nat) : Int)))] rfl).elim fun x' hx => ⟨n22, [], A_3_0, 0, x', hx, rfl, (show 0 + _ ≤ _ by omega), H31⟩
 ·rintro r32 _ W33 ⟨d, L, AL, cL, x34, rfl, hd, hL, H35⟩; clear H31
  refine wp_seq ?_
  refine wp_seq ?_
  refine aN [0, 1] rfl ?_
  refine aA ?_
  refine aB rfl (aF rfl) rfl rfl ?_
  refine aA ?_
  refine aB rfl (rn_gtr rfl rfl) rfl rfl ?_
  refine aI ?_
  refine aK ?_
  refine dB rfl (fun hc36 => ?_) (fun hc36 => ?_)
  ·refine wp_skip ?_
   refine aK ?_
   refine wp_seq ?_
   refine wp_block ?_
   refine aN [0, 1, 2, 3, 4] rfl ?_
   refine aA ?_
   refine aB rfl (aF rfl) rfl rfl ?_
   refine aA ?_
   refine aB rfl (aF rfl) rfl rfl ?_
   refine aA ?_
   refine dD rfl Try.runUnderlying82 Try.sizeOf3 kD Try.zeroValue3 rfl rfl rfl rfl H35 ?_
   intro g_7_2 W37 hu38 Ha39; clear H35; clear hu38
   refine aA ?_
   have H43 : St w No [hR Kn.int 3 (.slice AL L.length cL) L, hB g_7_2 3 #[.int .i64 (((d : Nat) : Int))], bF gc 157 A bs.length cb] W37 := Ha39.pick [2, 0, 1] kD rfl; clear Ha39
   refine iY (xs := L) (p := ((d : Nat) : Int)) (n' := (L ++ [((d : Nat) : Int)]).length) (ys := (L ++ [((d : Nat) : Int)])) rfl Try.underlying82 int_info rfl kD kD rfl rfl rfl kO (by rw [List.length_append]; rfl) rfl rfl rfl H43 ?_
   intro B_7_3 c_7_3 W41 Ha42; clear H43
   refine aA ?_
   refine aB rfl (aR rfl) rfl rfl ?_
   refine aI ?_
   refine eP ?_
   refine aK ?_
   refine aN [0, 1, 2] rfl ?_
   refine aA ?_
   refine aB rfl (aF rfl) rfl rfl ?_
   refine aA ?_
   refine aB rfl (rn_int (q := ((d - 1 : Nat) : Int)) kO (kF rfl rfl kO)) rfl rfl ?_
   refine aA ?_
   refine aB rfl (aR rfl) rfl rfl ?_
   refine aI ?_
   refine aK ?_
   exact (aZ [(5, .pointer (some ⟨gc, 0, none⟩)), (6, .int .i64 ((1 + q6))), (7, .slice B_7_3 ((L ++ [((d : Nat) : Int)]).length) c_7_3), (8, .int .i64 (((d - 1 : Nat) : Int)))] rfl).elim fun x' hx => ⟨r32 - 1, kO, d - 1, (L ++ [((d : Nat) : Int)]), B_7_3, c_7_3, x', hx, kO, (by rw [List.length_append]; show L.length + 1 + _ ≤ _; omega), Ha42.pick [1, 0] kD rfl⟩
  ·refine wp_exit ?_
   refine dX ?_
   refine dX ?_
   refine iH ?_
   refine aK ?_
   refine wp_seq ?_
   refine aN [0, 1, 2, 3, 4, 5, 6] rfl ?_
   refine aA ?_
   refine aB rfl (aF rfl) rfl rfl ?_
   refine aA ?_
   refine aB rfl (aF rfl) rfl rfl ?_
   refine aA ?_
   refine aB rfl (aF rfl) rfl rfl ?_
   refine aA ?_
   obtain ⟨F47, hs48, hF49, hfr50⟩ := St.frame (l0 := [bF gc 157 A bs.length cb]) (l := [hR Kn.int 3 (.slice AL L.length cL) L]) H35
   refine bC rfl Try.call44 (vs := #[.pointer (some ⟨gc, 0, none⟩), .int .i64 (3)]) rfl rfl rfl (dN 3 _ _ _ _ _ _ (CV.step hV H35.1 hF49) hn hs48) ?_
   rintro e53 W52 ⟨q45, rfl, hq46, Hn51⟩; refine ⟨_, rfl, ?_⟩
   have H54 := hfr50 _ _ Hn51; clear H35
   refine aA ?_
   refine aB rfl (aR rfl) rfl rfl ?_
   refine aA ?_
   refine aB rfl (aR rfl) rfl rfl ?_
   refine aA ?_
   refine aB rfl (aR rfl) rfl rfl ?_
   refine aI ?_
   refine aK ?_
   refine wp_ret ?_
   refine post_3t (.inl rfl) Try.results36 rfl rfl rfl ?_
   exact ⟨_, _, _, _, _, rfl, by omega, (H54.pick [1] kD rfl).star, H54.1⟩
end Go.Proofs.YtdfipdpeilegpaaFam
namespace Go.Proofs.YtdfipdpeilegpaaT
open Go.Proofs.YtdfipdpeilegpaaSep
def dQ {α : Type} (f : α → α → Bool) : List α → List α → Bool
 | [], [] => true
 | x :: l, y :: k => f x y && dQ f l k
 | [], _ :: _ => false
 | _ :: _, [] => false
section
variable {α : Type} (f : α → α → Bool)
theorem jH : ∀ l k : List α, l.length ≠ k.length → dQ f l k = false
 | [], [], h => absurd rfl h
 | x :: l, y :: k, h => by simp [dQ, jH l k (by simpa using h)]
 | [], _ :: _, _ => rfl
 | _ :: _, [], _ => rfl
theorem j5 (l k : List α) (i : Nat) (h : i < l.length) (h' : i < k.length) (hf : f l[i] k[i] = true) : dQ f (l.drop i) (k.drop i) = dQ f (l.drop (i + 1)) (k.drop (i + 1)) := by
 rw [List.drop_eq_getElem_cons h, List.drop_eq_getElem_cons h', dQ, hf, Bool.true_and]
theorem kW (l k : List α) (i : Nat) (h : i < l.length) (h' : i < k.length) (hf : f l[i] k[i] = false) : dQ f (l.drop i) (k.drop i) = false := by
 rw [List.drop_eq_getElem_cons h, List.drop_eq_getElem_cons h', dQ, hf, Bool.false_and]
theorem j6 (l k : List α) (i : Nat) (h : l.length ≤ i) (h' : k.length ≤ i) : dQ f (l.drop i) (k.drop i) = true := by
 rw [List.drop_eq_nil_of_le h, List.drop_eq_nil_of_le h']; rfl
theorem eqlS_rfl (hf : ∀ x, f x x = true) : ∀ l : List α, dQ f l l = true
 | [] => rfl
 | x :: l => by simp [dQ, hf, eqlS_rfl hf l]
end
def fP (x y : GWire) : Bool := (x.Kind == y.Kind) && (x.N == y.N)
def jM (x y : GTag) : Bool := (x.Vat == y.Vat) && (x.Entity == y.Entity) && (x.Seq == y.Seq)
def dV (x y : GMessage) : Bool := (x.Kind == y.Kind) && (x.Pos == y.Pos) && (x.dZ == y.dZ) && (x.Question == y.Question) && (x.Name.toList == y.Name.toList) && dQ fP x.dJ y.dJ && fP x.Value y.Value && (x.Count == y.Count) && jM x.Tag y.Tag
def eH (x y : GValue) : Bool := (x.Kind == y.Kind) && (x.N == y.N)
def eB (x y : GSent) : Bool := (x.Target == y.Target) && (x.Name.toList == y.Name.toList) && dQ eH x.dJ y.dJ && (x.Result == y.Result) && jM x.Tag y.Tag
def fQ (x y : GAsker) : Bool := (x.bD == y.bD) && (x.Question == y.Question)
def cK (x y : GEntity) : Bool := (x.Kind == y.Kind) && (x.Script == y.Script) && dQ eH x.aM y.aM && (x.State == y.State) && eH x.Value y.Value && dQ eB x.Queue y.Queue && dQ fQ x.aG y.aG && (x.bD == y.bD) && (x.Pos == y.Pos) && (x.Count == y.Count) && (x.bJ == y.bJ)
def fC (x y : GExport) : Bool := (x.Pos == y.Pos) && (x.Entity == y.Entity) && (x.Count == y.Count)
def dW (x y : GQuestion) : Bool := (x.Id == y.Id) && (x.Promise == y.Promise)
def eG (x y : GLink) : Bool := (x.bD == y.bD) && (x.Up == y.Up) && dQ fC x.aV y.aV && (x.Next == y.Next) && dQ dW x.aT y.aT && (x.bO == y.bO) && dQ dW x.bA y.bA
def dU (x y : GOutgoing) : Bool := (x.To == y.To) && dV x.Message y.Message
def iJ (x y : GVat) : Bool := (x.Id == y.Id) && dQ cK x.aC y.aC && dQ eB x.Loop y.Loop && dQ eG x.aJ y.aJ && dQ dU x.Out y.Out
end Go.Proofs.YtdfipdpeilegpaaT
namespace Go.Proofs.YtdfipdpeilegpaaFam
open Go.ChangeShapes Go.WideShapes Go.RowKit Go.Proofs.YtdfipdpeilegpaaSep Go.Proofs.YtdfipdpeilegpaaT Go.Proofs.YtdfipdpeilegpaaK
set_option linter.unusedVariables false
set_option linter.unusedSimpArgs false
attribute [local irreducible] wpOps wpOp
theorem eqr_Wire (x y : GWire) (W : World) (k : Nat) : (Op.equalIn (k + 2) 27 (.agg #[.int .i64 (x.Kind), .int .i64 (x.N)]) (.agg #[.int .i64 (y.Kind), .int .i64 (y.N)])).run Try.prog W = .ok (fP x y) W := by
 rw [show k + 2 = (k + 1) + 1 from rfl, run_equalIn_struct (P := Try.prog) W _ 27 _ _ (by simp [Program.fieldsOf, Try.underlying27]) Try.stoodInHeld27]
 simp [Program.fieldsOf, Try.underlying27, Op.eqFields, part, Try.isAgg3, Try.sizeOf3, Try.isAgg9, Try.sizeOf9, Try.isAgg27, Try.sizeOf27, Try.isAgg4, Try.sizeOf4, Try.underlying3, Try.underlying4, Try.underlying9, run_equalIn_int, run_equalIn_string, run_equalIn_bool', Sem.run_pure, fP, Result.andThen]
 (repeat' split) <;> simp [*]
theorem eqr_Tag (x y : GTag) (W : World) (k : Nat) : (Op.equalIn (k + 2) 29 (.agg #[.int .i64 (x.Vat), .int .i64 (x.Entity), .int .i64 (x.Seq)]) (.agg #[.int .i64 (y.Vat), .int .i64 (y.Entity), .int .i64 (y.Seq)])).run Try.prog W = .ok (jM x y) W := by
 rw [show k + 2 = (k + 1) + 1 from rfl, run_equalIn_struct (P := Try.prog) W _ 29 _ _ (by simp [Program.fieldsOf, Try.underlying29]) Try.stoodInHeld29]
 simp [Program.fieldsOf, Try.underlying29, Op.eqFields, part, Try.isAgg9, Try.sizeOf9, Try.isAgg3, Try.sizeOf3, Try.isAgg4, Try.sizeOf4, Try.isAgg29, Try.sizeOf29, Try.underlying3, Try.underlying4, Try.underlying9, run_equalIn_int, run_equalIn_string, run_equalIn_bool', Sem.run_pure, jM, Result.andThen]
 (repeat' split) <;> simp [*]
theorem kZ (x y : GValue) (W : World) (k : Nat) : (Op.equalIn (k + 2) 70 (.agg #[.int .i64 (x.Kind), .int .i64 (x.N)]) (.agg #[.int .i64 (y.Kind), .int .i64 (y.N)])).run Try.prog W = .ok (eH x y) W := by
 rw [show k + 2 = (k + 1) + 1 from rfl, run_equalIn_struct (P := Try.prog) W _ 70 _ _ (by simp [Program.fieldsOf, Try.underlying70]) Try.stoodInHeld70]
 simp [Program.fieldsOf, Try.underlying70, Op.eqFields, part, Try.isAgg9, Try.sizeOf9, Try.isAgg3, Try.sizeOf3, Try.isAgg4, Try.sizeOf4, Try.isAgg70, Try.sizeOf70, Try.underlying3, Try.underlying4, Try.underlying9, run_equalIn_int, run_equalIn_string, run_equalIn_bool', Sem.run_pure, eH, Result.andThen]
 (repeat' split) <;> simp [*]
theorem eqr_Asker (x y : GAsker) (W : World) (k : Nat) : (Op.equalIn (k + 2) 155 (.agg #[.int .i64 (x.bD), .int .i64 (x.Question)]) (.agg #[.int .i64 (y.bD), .int .i64 (y.Question)])).run Try.prog W = .ok (fQ x y) W := by
 rw [show k + 2 = (k + 1) + 1 from rfl, run_equalIn_struct (P := Try.prog) W _ 155 _ _ (by simp [Program.fieldsOf, Try.underlying155]) Try.stoodInHeld155]
 simp [Program.fieldsOf, Try.underlying155, Op.eqFields, part, Try.isAgg3, Try.sizeOf3, Try.isAgg9, Try.sizeOf9, Try.isAgg155, Try.sizeOf155, Try.isAgg4, Try.sizeOf4, Try.underlying3, Try.underlying4, Try.underlying9, run_equalIn_int, run_equalIn_string, run_equalIn_bool', Sem.run_pure, fQ, Result.andThen]
 (repeat' split) <;> simp [*]
theorem eqr_Export (x y : GExport) (W : World) (k : Nat) : (Op.equalIn (k + 2) 188 (.agg #[.int .i64 (x.Pos), .int .i64 (x.Entity), .int .i64 (x.Count)]) (.agg #[.int .i64 (y.Pos), .int .i64 (y.Entity), .int .i64 (y.Count)])).run Try.prog W = .ok (fC x y) W := by
 rw [show k + 2 = (k + 1) + 1 from rfl, run_equalIn_struct (P := Try.prog) W _ 188 _ _ (by simp [Program.fieldsOf, Try.underlying188]) Try.stoodInHeld188]
 simp [Program.fieldsOf, Try.underlying188, Op.eqFields, part, Try.isAgg9, Try.sizeOf9, Try.isAgg3, Try.sizeOf3, Try.isAgg188, Try.sizeOf188, Try.isAgg4, Try.sizeOf4, Try.underlying3, Try.underlying4, Try.underlying9, run_equalIn_int, run_equalIn_string, run_equalIn_bool', Sem.run_pure, fC, Result.andThen]
 (repeat' split) <;> simp [*]
theorem eqr_Question (x y : GQuestion) (W : World) (k : Nat) : (Op.equalIn (k + 2) 197 (.agg #[.int .i64 (x.Id), .int .i64 (x.Promise)]) (.agg #[.int .i64 (y.Id), .int .i64 (y.Promise)])).run Try.prog W = .ok (dW x y) W := by
 rw [show k + 2 = (k + 1) + 1 from rfl, run_equalIn_struct (P := Try.prog) W _ 197 _ _ (by simp [Program.fieldsOf, Try.underlying197]) Try.stoodInHeld197]
 simp [Program.fieldsOf, Try.underlying197, Op.eqFields, part, Try.isAgg9, Try.sizeOf9, Try.isAgg3, Try.sizeOf3, Try.isAgg4, Try.sizeOf4, Try.isAgg197, Try.sizeOf197, Try.underlying3, Try.underlying4, Try.underlying9, run_equalIn_int, run_equalIn_string, run_equalIn_bool', Sem.run_pure, dW, Result.andThen]
 (repeat' split) <;> simp [*]
end Go.Proofs.YtdfipdpeilegpaaFam
namespace Go.Proofs.YtdfipdpeilegpaaFam
open Go.ChangeShapes Go.WideShapes Go.RowKit Go.Proofs.YtdfipdpeilegpaaSep Go.Proofs.YtdfipdpeilegpaaT Go.Proofs.YtdfipdpeilegpaaK
set_option linter.unusedVariables false
set_option linter.unusedSimpArgs false
attribute [local irreducible] wpOps wpOp
set_option maxHeartbeats 4000000
set_option maxRecDepth 100000
theorem eqI_Value (l k : List GValue) (A A' : Option Addr) (c c' : Nat) (w : World) (h : C aP w A l) (h' : C aP w A' k) : Calls Try.prog 100 #[.slice A l.length c, .slice A' k.length c'] w (fD (dQ eH l k) w) := by
 have nx := h.1
 refine enter 26 [(0, .slice A l.length c), (1, .slice A' k.length c')] Try.func100 rfl kR ?_
 intro xj
 have H1 : St w No [] w := St.enter
 refine wp_seq ?_
 refine aN [0] rfl ?_
 refine aA ?_
 refine aB rfl (aR rfl) rfl rfl ?_
 refine aI ?_
 refine aK ?_
 refine wp_seq ?_
 refine wp_seq ?_
 refine aN [0, 1, 2, 3, 4] rfl ?_
 refine aA ?_
 refine aB rfl (aF rfl) rfl rfl ?_
 refine aA ?_
 refine aB rfl (dP Try.runUnderlying74 rfl) rfl rfl ?_
 refine aA ?_
 refine aB rfl (aF rfl) rfl rfl ?_
 refine aA ?_
 refine aB rfl (dP Try.runUnderlying74 rfl) rfl rfl ?_
 by_cases hg2 : ¬ ((l.length : Nat) : Int) = (k.length : Nat)
 ·refine aA ?_
  refine aB rfl (bX hg2 (gH rfl rfl)) rfl rfl ?_
  refine aI ?_
  refine aK ?_
  refine fK rfl ?_
  refine wp_seq ?_
  refine aN [0] rfl ?_
  refine aA ?_
  refine aB rfl (aR rfl) rfl rfl ?_
  refine aI ?_
  refine aK ?_
  refine wp_ret ?_
  refine bY ?_
  have hz3 : ∀ f, dQ f l k = false := fun f => jH f l k kO
  have hr4 : dQ eH l k = false := by simp [hz3]
  refine bI (.inl rfl) Try.results100 rfl ?_
  rw [hr4]
  exact ⟨rfl, H1.1⟩
 ·refine aA ?_
  refine aB rfl (bZ hg2 (gH rfl rfl)) rfl rfl ?_
  refine aI ?_
  refine aK ?_
  refine fA rfl ?_
  refine wp_skip ?_
  refine aK ?_
  refine wp_seq ?_
  refine wp_seq ?_
  refine aN [0, 1, 2] rfl ?_
  refine aA ?_
  refine aB rfl (aF rfl) rfl rfl ?_
  refine aA ?_
  refine aB rfl (dP Try.runUnderlying74 rfl) rfl rfl ?_
  refine aA ?_
  refine aB rfl (aF rfl) rfl rfl ?_
  refine aI ?_
  refine aK ?_
  refine wp_block ?_
  refine wp_loop_ghost (fun r a' W' => ∃ (i1 : Nat) (x' : Nat → Value), a' = bH 26 x' [(0, .slice A l.length c), (1, .slice A' k.length c'), (12, .int .i64 ((l.length : Nat))), (13, .int .i64 (((i1 : Nat) : Int)))] ∧ (i1 + r = l.length) ∧ (dQ eH l k = dQ eH (l.drop i1) (k.drop i1)) ∧ St w No [] W') l.length ?_ ?_
  ·exact (aZ [(0, .slice A l.length c), (1, .slice A' k.length c'), (12, .int .i64 ((l.length : Nat))), (13, .int .i64 (((0 : Nat) : Int)))] rfl).elim fun x' hx => ⟨0, x', hx, kO, rfl, H1⟩
  ·rintro r5 _ W6 ⟨i1, x7, rfl, hi1, hf1, H8⟩; clear H1
   refine wp_seq ?_
   refine aN [0] rfl ?_
   refine aA ?_
   refine aB rfl (gB rfl rfl) rfl rfl ?_
   refine aI ?_
   refine aK ?_
   refine wp_seq ?_
   refine dB rfl (fun hc9 => ?_) (fun hc9 => ?_)
   ·have hlt1 : i1 < l.length := by omega
    have hlu1 : i1 < k.length := by omega
    obtain ⟨ade10, cse10, hAe10, hKe10, hce10⟩ := fT h i1 hlt1
    have hle10 := ki_Value_len hKe10
    have hoe10 := ki_Value_one hKe10
    obtain ⟨ade11, cse11, hAe11, hKe11, hce11⟩ := fT h' i1 hlu1
    have hle11 := ki_Value_len hKe11
    have hoe11 := ki_Value_one hKe11
    obtain rfl := ki_Value_K hKe10
    obtain rfl := ki_Value_K hKe11
    refine wp_skip ?_
    refine aK ?_
    refine wp_seq ?_
    refine wp_block ?_
    refine wp_seq ?_
    refine aN [0, 1] rfl ?_
    refine aA ?_
    refine aB rfl (aF rfl) rfl rfl ?_
    refine aA ?_
    refine aB rfl (aR rfl) rfl rfl ?_
    refine aI ?_
    refine aK ?_
    refine wp_seq ?_
    by_cases hg12 : (eH (l[i1]) (k[i1])) = true
    ·refine dG (fun W' => Cat W' (Addr.add ade10 (i1 * 2)) [.int .i64 (l[i1].Kind), .int .i64 (l[i1].N)] ∧ Cat W' (Addr.add ade11 (i1 * 2)) [.int .i64 (k[i1].Kind), .int .i64 (k[i1].N)]) 9 kR ?_
     have H13 := H8.drew; clear H8
     have hS14 : Cat W6.drew (Addr.add ade10 (i1 * 2)) [.int .i64 (l[i1].Kind), .int .i64 (l[i1].N)] ∧ Cat W6.drew (Addr.add ade11 (i1 * 2)) [.int .i64 (k[i1].Kind), .int .i64 (k[i1].N)] := ⟨(Cat.upd hce10 H13.1), (Cat.upd hce11 H13.1)⟩
     refine aO (i := 0) rfl kR kR kR kR kR (fun _ _ _ h => h) rfl rfl hS14 (fun W' hs' => aF rfl) ?_
     refine aO (i := 1) rfl kR kR kR kR kR (fun _ _ _ h => h) rfl rfl hS14 (fun W' hs' => aF rfl) ?_
     refine aO (i := 2) rfl kR kR kR kR kR (fun _ _ _ h => h) rfl rfl hS14 (fun W' hs' => bQ (k := i1) Try.runUnderlying74 Try.sizeOf70 rfl rfl hAe10 hlt1) ?_
     refine aO (i := 3) rfl kR kR kR kR kR (fun _ _ _ h => h) rfl rfl hS14 (fun W' hs' => dR Try.isAgg70 Try.sizeOf70 rfl hs'.1 rfl) ?_
     refine aO (i := 4) rfl kR kR kR kR kR (fun _ _ _ h => h) rfl rfl hS14 (fun W' hs' => aF rfl) ?_
     refine aO (i := 5) rfl kR kR kR kR kR (fun _ _ _ h => h) rfl rfl hS14 (fun W' hs' => aF rfl) ?_
     refine aO (i := 6) rfl kR kR kR kR kR (fun _ _ _ h => h) rfl rfl hS14 (fun W' hs' => bQ (k := i1) Try.runUnderlying74 Try.sizeOf70 rfl rfl hAe11 hlu1) ?_
     refine aO (i := 7) rfl kR kR kR kR kR (fun _ _ _ h => h) rfl rfl hS14 (fun W' hs' => dR Try.isAgg70 Try.sizeOf70 rfl hs'.2 rfl) ?_
     refine aO (i := 8) rfl kR kR kR kR kR (fun _ _ _ h => h) rfl rfl hS14 (fun W' hs' => fI (b := !(eH (l[i1]) (k[i1]))) (by rw [hg12]) (jL Try.eqGuardType70 rfl rfl (kZ (l[i1]) (k[i1]) _ 9998))) ?_
     refine cB kR ?_ _
     refine aK ?_
     refine fA rfl ?_
     refine wp_skip ?_
     refine eP ?_
     refine aK ?_
     refine aN [0, 1] rfl ?_
     refine aA ?_
     refine aB rfl (gT (k := i1) rfl rfl kO) rfl rfl ?_
     refine aA ?_
     refine aB rfl (aF rfl) rfl rfl ?_
     refine aI ?_
     refine aK ?_
     exact (aZ [(0, .slice A l.length c), (1, .slice A' k.length c'), (12, .int .i64 ((l.length : Nat))), (13, .int .i64 (((i1 + 1 : Nat) : Int)))] rfl).elim fun x' hx => ⟨r5 - 1, kO, i1 + 1, x', hx, kO, (hf1.trans (j5 eH l k i1 hlt1 hlu1 hg12)), H13⟩
    ·refine dG (fun W' => Cat W' (Addr.add ade10 (i1 * 2)) [.int .i64 (l[i1].Kind), .int .i64 (l[i1].N)] ∧ Cat W' (Addr.add ade11 (i1 * 2)) [.int .i64 (k[i1].Kind), .int .i64 (k[i1].N)]) 9 kR ?_
     have H15 := H8.drew; clear H8
     have hS16 : Cat W6.drew (Addr.add ade10 (i1 * 2)) [.int .i64 (l[i1].Kind), .int .i64 (l[i1].N)] ∧ Cat W6.drew (Addr.add ade11 (i1 * 2)) [.int .i64 (k[i1].Kind), .int .i64 (k[i1].N)] := ⟨(Cat.upd hce10 H15.1), (Cat.upd hce11 H15.1)⟩
     refine aO (i := 0) rfl kR kR kR kR kR (fun _ _ _ h => h) rfl rfl hS16 (fun W' hs' => aF rfl) ?_
     refine aO (i := 1) rfl kR kR kR kR kR (fun _ _ _ h => h) rfl rfl hS16 (fun W' hs' => aF rfl) ?_
     refine aO (i := 2) rfl kR kR kR kR kR (fun _ _ _ h => h) rfl rfl hS16 (fun W' hs' => bQ (k := i1) Try.runUnderlying74 Try.sizeOf70 rfl rfl hAe10 hlt1) ?_
     refine aO (i := 3) rfl kR kR kR kR kR (fun _ _ _ h => h) rfl rfl hS16 (fun W' hs' => dR Try.isAgg70 Try.sizeOf70 rfl hs'.1 rfl) ?_
     refine aO (i := 4) rfl kR kR kR kR kR (fun _ _ _ h => h) rfl rfl hS16 (fun W' hs' => aF rfl) ?_
     refine aO (i := 5) rfl kR kR kR kR kR (fun _ _ _ h => h) rfl rfl hS16 (fun W' hs' => aF rfl) ?_
     refine aO (i := 6) rfl kR kR kR kR kR (fun _ _ _ h => h) rfl rfl hS16 (fun W' hs' => bQ (k := i1) Try.runUnderlying74 Try.sizeOf70 rfl rfl hAe11 hlu1) ?_
     refine aO (i := 7) rfl kR kR kR kR kR (fun _ _ _ h => h) rfl rfl hS16 (fun W' hs' => dR Try.isAgg70 Try.sizeOf70 rfl hs'.2 rfl) ?_
     refine aO (i := 8) rfl kR kR kR kR kR (fun _ _ _ h => h) rfl rfl hS16 (fun W' hs' => fI (b := !(eH (l[i1]) (k[i1]))) (by rw [(eq_false_of_ne_true hg12)]) (jL Try.eqGuardType70 rfl rfl (kZ (l[i1]) (k[i1]) _ 9998))) ?_
     refine cB kR ?_ _
     refine aK ?_
     refine fK rfl ?_
     refine wp_seq ?_
     refine aN [0] rfl ?_
     refine aA ?_
     refine aB rfl (aR rfl) rfl rfl ?_
     refine aI ?_
     refine aK ?_
     refine wp_ret ?_
     refine gJ ?_
     refine bY ?_
     refine bY ?_
     refine gJ ?_
     refine bY ?_
     have hz17 : dQ eH l k = false := hf1.trans (kW eH l k i1 hlt1 hlu1 (eq_false_of_ne_true hg12))
     have hr18 : dQ eH l k = false := by simp [hg12, hz17]
     refine bI (.inl rfl) Try.results100 rfl ?_
     rw [hr18]
     exact ⟨rfl, H15.1⟩
   ·have hd1 : dQ eH l k = true := hf1.trans (j6 eH l k i1 kO kO)
    refine wp_exit ?_
    refine dX ?_
    refine dX ?_
    refine iH ?_
    refine aK ?_
    refine wp_seq ?_
    refine aN [0] rfl ?_
    refine aA ?_
    refine aB rfl (aR rfl) rfl rfl ?_
    refine aI ?_
    refine aK ?_
    refine wp_ret ?_
    have hr19 : dQ eH l k = true := by simp [hd1]
    refine bI (.inl rfl) Try.results100 rfl ?_
    rw [hr19]
    exact ⟨rfl, H8.1⟩
theorem eqI_Asker (l k : List GAsker) (A A' : Option Addr) (c c' : Nat) (w : World) (h : C aQ w A l) (h' : C aQ w A' k) : Calls Try.prog 101 #[.slice A l.length c, .slice A' k.length c'] w (fD (dQ fQ l k) w) := by
 have nx := h.1
 refine enter 26 [(0, .slice A l.length c), (1, .slice A' k.length c')] Try.func101 rfl kR ?_
 intro xj
 have H1 : St w No [] w := St.enter
 refine wp_seq ?_
 refine aN [0] rfl ?_
 refine aA ?_
 refine aB rfl (aR rfl) rfl rfl ?_
 refine aI ?_
 refine aK ?_
 refine wp_seq ?_
 refine wp_seq ?_
 refine aN [0, 1, 2, 3, 4] rfl ?_
 refine aA ?_
 refine aB rfl (aF rfl) rfl rfl ?_
 refine aA ?_
 refine aB rfl (dP Try.runUnderlying75 rfl) rfl rfl ?_
 refine aA ?_
 refine aB rfl (aF rfl) rfl rfl ?_
 refine aA ?_
 refine aB rfl (dP Try.runUnderlying75 rfl) rfl rfl ?_
 by_cases hg2 : ¬ ((l.length : Nat) : Int) = (k.length : Nat)
 ·refine aA ?_
  refine aB rfl (bX hg2 (gH rfl rfl)) rfl rfl ?_
  refine aI ?_
  refine aK ?_
  refine fK rfl ?_
  refine wp_seq ?_
  refine aN [0] rfl ?_
  refine aA ?_
  refine aB rfl (aR rfl) rfl rfl ?_
  refine aI ?_
  refine aK ?_
  refine wp_ret ?_
  refine bY ?_
  have hz3 : ∀ f, dQ f l k = false := fun f => jH f l k kO
  have hr4 : dQ fQ l k = false := by simp [hz3]
  refine bI (.inl rfl) Try.results101 rfl ?_
  rw [hr4]
  exact ⟨rfl, H1.1⟩
 ·refine aA ?_
  refine aB rfl (bZ hg2 (gH rfl rfl)) rfl rfl ?_
  refine aI ?_
  refine aK ?_
  refine fA rfl ?_
  refine wp_skip ?_
  refine aK ?_
  refine wp_seq ?_
  refine wp_seq ?_
  refine aN [0, 1, 2] rfl ?_
  refine aA ?_
  refine aB rfl (aF rfl) rfl rfl ?_
  refine aA ?_
  refine aB rfl (dP Try.runUnderlying75 rfl) rfl rfl ?_
  refine aA ?_
  refine aB rfl (aF rfl) rfl rfl ?_
  refine aI ?_
  refine aK ?_
  refine wp_block ?_
  refine wp_loop_ghost (fun r a' W' => ∃ (i1 : Nat) (x' : Nat → Value), a' = bH 26 x' [(0, .slice A l.length c), (1, .slice A' k.length c'), (12, .int .i64 ((l.length : Nat))), (13, .int .i64 (((i1 : Nat) : Int)))] ∧ (i1 + r = l.length) ∧ (dQ fQ l k = dQ fQ (l.drop i1) (k.drop i1)) ∧ St w No [] W') l.length ?_ ?_
  ·exact (aZ [(0, .slice A l.length c), (1, .slice A' k.length c'), (12, .int .i64 ((l.length : Nat))), (13, .int .i64 (((0 : Nat) : Int)))] rfl).elim fun x' hx => ⟨0, x', hx, kO, rfl, H1⟩
  ·rintro r5 _ W6 ⟨i1, x7, rfl, hi1, hf1, H8⟩; clear H1
   refine wp_seq ?_
   refine aN [0] rfl ?_
   refine aA ?_
   refine aB rfl (gB rfl rfl) rfl rfl ?_
   refine aI ?_
   refine aK ?_
   refine wp_seq ?_
   refine dB rfl (fun hc9 => ?_) (fun hc9 => ?_)
   ·have hlt1 : i1 < l.length := by omega
    have hlu1 : i1 < k.length := by omega
    obtain ⟨ade10, cse10, hAe10, hKe10, hce10⟩ := fT h i1 hlt1
    have hle10 := ki_Asker_len hKe10
    have hoe10 := ki_Asker_one hKe10
    obtain ⟨ade11, cse11, hAe11, hKe11, hce11⟩ := fT h' i1 hlu1
    have hle11 := ki_Asker_len hKe11
    have hoe11 := ki_Asker_one hKe11
    obtain rfl := ki_Asker_K hKe10
    obtain rfl := ki_Asker_K hKe11
    refine wp_skip ?_
    refine aK ?_
    refine wp_seq ?_
    refine wp_block ?_
    refine wp_seq ?_
    refine aN [0, 1] rfl ?_
    refine aA ?_
    refine aB rfl (aF rfl) rfl rfl ?_
    refine aA ?_
    refine aB rfl (aR rfl) rfl rfl ?_
    refine aI ?_
    refine aK ?_
    refine wp_seq ?_
    by_cases hg12 : (fQ (l[i1]) (k[i1])) = true
    ·refine dG (fun W' => Cat W' (Addr.add ade10 (i1 * 2)) [.int .i64 (l[i1].bD), .int .i64 (l[i1].Question)] ∧ Cat W' (Addr.add ade11 (i1 * 2)) [.int .i64 (k[i1].bD), .int .i64 (k[i1].Question)]) 9 kR ?_
     have H13 := H8.drew; clear H8
     have hS14 : Cat W6.drew (Addr.add ade10 (i1 * 2)) [.int .i64 (l[i1].bD), .int .i64 (l[i1].Question)] ∧ Cat W6.drew (Addr.add ade11 (i1 * 2)) [.int .i64 (k[i1].bD), .int .i64 (k[i1].Question)] := ⟨(Cat.upd hce10 H13.1), (Cat.upd hce11 H13.1)⟩
     refine aO (i := 0) rfl kR kR kR kR kR (fun _ _ _ h => h) rfl rfl hS14 (fun W' hs' => aF rfl) ?_
     refine aO (i := 1) rfl kR kR kR kR kR (fun _ _ _ h => h) rfl rfl hS14 (fun W' hs' => aF rfl) ?_
     refine aO (i := 2) rfl kR kR kR kR kR (fun _ _ _ h => h) rfl rfl hS14 (fun W' hs' => bQ (k := i1) Try.runUnderlying75 Try.sizeOf155 rfl rfl hAe10 hlt1) ?_
     refine aO (i := 3) rfl kR kR kR kR kR (fun _ _ _ h => h) rfl rfl hS14 (fun W' hs' => dR Try.isAgg155 Try.sizeOf155 rfl hs'.1 rfl) ?_
     refine aO (i := 4) rfl kR kR kR kR kR (fun _ _ _ h => h) rfl rfl hS14 (fun W' hs' => aF rfl) ?_
     refine aO (i := 5) rfl kR kR kR kR kR (fun _ _ _ h => h) rfl rfl hS14 (fun W' hs' => aF rfl) ?_
     refine aO (i := 6) rfl kR kR kR kR kR (fun _ _ _ h => h) rfl rfl hS14 (fun W' hs' => bQ (k := i1) Try.runUnderlying75 Try.sizeOf155 rfl rfl hAe11 hlu1) ?_
     refine aO (i := 7) rfl kR kR kR kR kR (fun _ _ _ h => h) rfl rfl hS14 (fun W' hs' => dR Try.isAgg155 Try.sizeOf155 rfl hs'.2 rfl) ?_
     refine aO (i := 8) rfl kR kR kR kR kR (fun _ _ _ h => h) rfl rfl hS14 (fun W' hs' => fI (b := !(fQ (l[i1]) (k[i1]))) (by rw [hg12]) (jL Try.eqGuardType155 rfl rfl (eqr_Asker (l[i1]) (k[i1]) _ 9998))) ?_
     refine cB kR ?_ _
     refine aK ?_
     refine fA rfl ?_
     refine wp_skip ?_
     refine eP ?_
     refine aK ?_
     refine aN [0, 1] rfl ?_
     refine aA ?_
     refine aB rfl (gT (k := i1) rfl rfl kO) rfl rfl ?_
     refine aA ?_
     refine aB rfl (aF rfl) rfl rfl ?_
     refine aI ?_
     refine aK ?_
     exact (aZ [(0, .slice A l.length c), (1, .slice A' k.length c'), (12, .int .i64 ((l.length : Nat))), (13, .int .i64 (((i1 + 1 : Nat) : Int)))] rfl).elim fun x' hx => ⟨r5 - 1, kO, i1 + 1, x', hx, kO, (hf1.trans (j5 fQ l k i1 hlt1 hlu1 hg12)), H13⟩
    ·refine dG (fun W' => Cat W' (Addr.add ade10 (i1 * 2)) [.int .i64 (l[i1].bD), .int .i64 (l[i1].Question)] ∧ Cat W' (Addr.add ade11 (i1 * 2)) [.int .i64 (k[i1].bD), .int .i64 (k[i1].Question)]) 9 kR ?_
     have H15 := H8.drew; clear H8
     have hS16 : Cat W6.drew (Addr.add ade10 (i1 * 2)) [.int .i64 (l[i1].bD), .int .i64 (l[i1].Question)] ∧ Cat W6.drew (Addr.add ade11 (i1 * 2)) [.int .i64 (k[i1].bD), .int .i64 (k[i1].Question)] := ⟨(Cat.upd hce10 H15.1), (Cat.upd hce11 H15.1)⟩
     refine aO (i := 0) rfl kR kR kR kR kR (fun _ _ _ h => h) rfl rfl hS16 (fun W' hs' => aF rfl) ?_
     refine aO (i := 1) rfl kR kR kR kR kR (fun _ _ _ h => h) rfl rfl hS16 (fun W' hs' => aF rfl) ?_
     refine aO (i := 2) rfl kR kR kR kR kR (fun _ _ _ h => h) rfl rfl hS16 (fun W' hs' => bQ (k := i1) Try.runUnderlying75 Try.sizeOf155 rfl rfl hAe10 hlt1) ?_
     refine aO (i := 3) rfl kR kR kR kR kR (fun _ _ _ h => h) rfl rfl hS16 (fun W' hs' => dR Try.isAgg155 Try.sizeOf155 rfl hs'.1 rfl) ?_
     refine aO (i := 4) rfl kR kR kR kR kR (fun _ _ _ h => h) rfl rfl hS16 (fun W' hs' => aF rfl) ?_
     refine aO (i := 5) rfl kR kR kR kR kR (fun _ _ _ h => h) rfl rfl hS16 (fun W' hs' => aF rfl) ?_
     refine aO (i := 6) rfl kR kR kR kR kR (fun _ _ _ h => h) rfl rfl hS16 (fun W' hs' => bQ (k := i1) Try.runUnderlying75 Try.sizeOf155 rfl rfl hAe11 hlu1) ?_
     refine aO (i := 7) rfl kR kR kR kR kR (fun _ _ _ h => h) rfl rfl hS16 (fun W' hs' => dR Try.isAgg155 Try.sizeOf155 rfl hs'.2 rfl) ?_
     refine aO (i := 8) rfl kR kR kR kR kR (fun _ _ _ h => h) rfl rfl hS16 (fun W' hs' => fI (b := !(fQ (l[i1]) (k[i1]))) (by rw [(eq_false_of_ne_true hg12)]) (jL Try.eqGuardType155 rfl rfl (eqr_Asker (l[i1]) (k[i1]) _ 9998))) ?_
     refine cB kR ?_ _
     refine aK ?_
     refine fK rfl ?_
     refine wp_seq ?_
     refine aN [0] rfl ?_
     refine aA ?_
     refine aB rfl (aR rfl) rfl rfl ?_
     refine aI ?_
     refine aK ?_
     refine wp_ret ?_
     refine gJ ?_
     refine bY ?_
     refine bY ?_
     refine gJ ?_
     refine bY ?_
     have hz17 : dQ fQ l k = false := hf1.trans (kW fQ l k i1 hlt1 hlu1 (eq_false_of_ne_true hg12))
     have hr18 : dQ fQ l k = false := by simp [hg12, hz17]
     refine bI (.inl rfl) Try.results101 rfl ?_
     rw [hr18]
     exact ⟨rfl, H15.1⟩
   ·have hd1 : dQ fQ l k = true := hf1.trans (j6 fQ l k i1 kO kO)
    refine wp_exit ?_
    refine dX ?_
    refine dX ?_
    refine iH ?_
    refine aK ?_
    refine wp_seq ?_
    refine aN [0] rfl ?_
    refine aA ?_
    refine aB rfl (aR rfl) rfl rfl ?_
    refine aI ?_
    refine aK ?_
    refine wp_ret ?_
    have hr19 : dQ fQ l k = true := by simp [hd1]
    refine bI (.inl rfl) Try.results101 rfl ?_
    rw [hr19]
    exact ⟨rfl, H8.1⟩
theorem eqI_Export (l k : List GExport) (A A' : Option Addr) (c c' : Nat) (w : World) (h : C bE w A l) (h' : C bE w A' k) : Calls Try.prog 141 #[.slice A l.length c, .slice A' k.length c'] w (fD (dQ fC l k) w) := by
 have nx := h.1
 refine enter 26 [(0, .slice A l.length c), (1, .slice A' k.length c')] Try.func141 rfl kR ?_
 intro xj
 have H1 : St w No [] w := St.enter
 refine wp_seq ?_
 refine aN [0] rfl ?_
 refine aA ?_
 refine aB rfl (aR rfl) rfl rfl ?_
 refine aI ?_
 refine aK ?_
 refine wp_seq ?_
 refine wp_seq ?_
 refine aN [0, 1, 2, 3, 4] rfl ?_
 refine aA ?_
 refine aB rfl (aF rfl) rfl rfl ?_
 refine aA ?_
 refine aB rfl (dP Try.runUnderlying135 rfl) rfl rfl ?_
 refine aA ?_
 refine aB rfl (aF rfl) rfl rfl ?_
 refine aA ?_
 refine aB rfl (dP Try.runUnderlying135 rfl) rfl rfl ?_
 by_cases hg2 : ¬ ((l.length : Nat) : Int) = (k.length : Nat)
 ·refine aA ?_
  refine aB rfl (bX hg2 (gH rfl rfl)) rfl rfl ?_
  refine aI ?_
  refine aK ?_
  refine fK rfl ?_
  refine wp_seq ?_
  refine aN [0] rfl ?_
  refine aA ?_
  refine aB rfl (aR rfl) rfl rfl ?_
  refine aI ?_
  refine aK ?_
  refine wp_ret ?_
  refine bY ?_
  have hz3 : ∀ f, dQ f l k = false := fun f => jH f l k kO
  have hr4 : dQ fC l k = false := by simp [hz3]
  refine bI (.inl rfl) Try.results141 rfl ?_
  rw [hr4]
  exact ⟨rfl, H1.1⟩
 ·refine aA ?_
  refine aB rfl (bZ hg2 (gH rfl rfl)) rfl rfl ?_
  refine aI ?_
  refine aK ?_
  refine fA rfl ?_
  refine wp_skip ?_
  refine aK ?_
  refine wp_seq ?_
  refine wp_seq ?_
  refine aN [0, 1, 2] rfl ?_
  refine aA ?_
  refine aB rfl (aF rfl) rfl rfl ?_
  refine aA ?_
  refine aB rfl (dP Try.runUnderlying135 rfl) rfl rfl ?_
  refine aA ?_
  refine aB rfl (aF rfl) rfl rfl ?_
  refine aI ?_
  refine aK ?_
  refine wp_block ?_
  refine wp_loop_ghost (fun r a' W' => ∃ (i1 : Nat) (x' : Nat → Value), a' = bH 26 x' [(0, .slice A l.length c), (1, .slice A' k.length c'), (12, .int .i64 ((l.length : Nat))), (13, .int .i64 (((i1 : Nat) : Int)))] ∧ (i1 + r = l.length) ∧ (dQ fC l k = dQ fC (l.drop i1) (k.drop i1)) ∧ St w No [] W') l.length ?_ ?_
  ·exact (aZ [(0, .slice A l.length c), (1, .slice A' k.length c'), (12, .int .i64 ((l.length : Nat))), (13, .int .i64 (((0 : Nat) : Int)))] rfl).elim fun x' hx => ⟨0, x', hx, kO, rfl, H1⟩
  ·rintro r5 _ W6 ⟨i1, x7, rfl, hi1, hf1, H8⟩; clear H1
   refine wp_seq ?_
   refine aN [0] rfl ?_
   refine aA ?_
   refine aB rfl (gB rfl rfl) rfl rfl ?_
   refine aI ?_
   refine aK ?_
   refine wp_seq ?_
   refine dB rfl (fun hc9 => ?_) (fun hc9 => ?_)
   ·have hlt1 : i1 < l.length := by omega
    have hlu1 : i1 < k.length := by omega
    obtain ⟨ade10, cse10, hAe10, hKe10, hce10⟩ := fT h i1 hlt1
    have hle10 := lI hKe10
    have hoe10 := lJ hKe10
    obtain ⟨ade11, cse11, hAe11, hKe11, hce11⟩ := fT h' i1 hlu1
    have hle11 := lI hKe11
    have hoe11 := lJ hKe11
    obtain rfl := iV hKe10
    obtain rfl := iV hKe11
    refine wp_skip ?_
    refine aK ?_
    refine wp_seq ?_
    refine wp_block ?_
    refine wp_seq ?_
    refine aN [0, 1] rfl ?_
    refine aA ?_
    refine aB rfl (aF rfl) rfl rfl ?_
    refine aA ?_
    refine aB rfl (aR rfl) rfl rfl ?_
    refine aI ?_
    refine aK ?_
    refine wp_seq ?_
    by_cases hg12 : (fC (l[i1]) (k[i1])) = true
    ·refine dG (fun W' => Cat W' (Addr.add ade10 (i1 * 3)) [.int .i64 (l[i1].Pos), .int .i64 (l[i1].Entity), .int .i64 (l[i1].Count)] ∧ Cat W' (Addr.add ade11 (i1 * 3)) [.int .i64 (k[i1].Pos), .int .i64 (k[i1].Entity), .int .i64 (k[i1].Count)]) 9 kR ?_
     have H13 := H8.drew; clear H8
     have hS14 : Cat W6.drew (Addr.add ade10 (i1 * 3)) [.int .i64 (l[i1].Pos), .int .i64 (l[i1].Entity), .int .i64 (l[i1].Count)] ∧ Cat W6.drew (Addr.add ade11 (i1 * 3)) [.int .i64 (k[i1].Pos), .int .i64 (k[i1].Entity), .int .i64 (k[i1].Count)] := ⟨(Cat.upd hce10 H13.1), (Cat.upd hce11 H13.1)⟩
     refine aO (i := 0) rfl kR kR kR kR kR (fun _ _ _ h => h) rfl rfl hS14 (fun W' hs' => aF rfl) ?_
     refine aO (i := 1) rfl kR kR kR kR kR (fun _ _ _ h => h) rfl rfl hS14 (fun W' hs' => aF rfl) ?_
     refine aO (i := 2) rfl kR kR kR kR kR (fun _ _ _ h => h) rfl rfl hS14 (fun W' hs' => bQ (k := i1) Try.runUnderlying135 Try.sizeOf188 rfl rfl hAe10 hlt1) ?_
     refine aO (i := 3) rfl kR kR kR kR kR (fun _ _ _ h => h) rfl rfl hS14 (fun W' hs' => dR Try.isAgg188 Try.sizeOf188 rfl hs'.1 rfl) ?_
     refine aO (i := 4) rfl kR kR kR kR kR (fun _ _ _ h => h) rfl rfl hS14 (fun W' hs' => aF rfl) ?_
     refine aO (i := 5) rfl kR kR kR kR kR (fun _ _ _ h => h) rfl rfl hS14 (fun W' hs' => aF rfl) ?_
     refine aO (i := 6) rfl kR kR kR kR kR (fun _ _ _ h => h) rfl rfl hS14 (fun W' hs' => bQ (k := i1) Try.runUnderlying135 Try.sizeOf188 rfl rfl hAe11 hlu1) ?_
     refine aO (i := 7) rfl kR kR kR kR kR (fun _ _ _ h => h) rfl rfl hS14 (fun W' hs' => dR Try.isAgg188 Try.sizeOf188 rfl hs'.2 rfl) ?_
     refine aO (i := 8) rfl kR kR kR kR kR (fun _ _ _ h => h) rfl rfl hS14 (fun W' hs' => fI (b := !(fC (l[i1]) (k[i1]))) (by rw [hg12]) (jL Try.eqGuardType188 rfl rfl (eqr_Export (l[i1]) (k[i1]) _ 9998))) ?_
     refine cB kR ?_ _
     refine aK ?_
     refine fA rfl ?_
     refine wp_skip ?_
     refine eP ?_
     refine aK ?_
     refine aN [0, 1] rfl ?_
     refine aA ?_
     refine aB rfl (gT (k := i1) rfl rfl kO) rfl rfl ?_
     refine aA ?_
     refine aB rfl (aF rfl) rfl rfl ?_
     refine aI ?_
     refine aK ?_
     exact (aZ [(0, .slice A l.length c), (1, .slice A' k.length c'), (12, .int .i64 ((l.length : Nat))), (13, .int .i64 (((i1 + 1 : Nat) : Int)))] rfl).elim fun x' hx => ⟨r5 - 1, kO, i1 + 1, x', hx, kO, (hf1.trans (j5 fC l k i1 hlt1 hlu1 hg12)), H13⟩
    ·refine dG (fun W' => Cat W' (Addr.add ade10 (i1 * 3)) [.int .i64 (l[i1].Pos), .int .i64 (l[i1].Entity), .int .i64 (l[i1].Count)] ∧ Cat W' (Addr.add ade11 (i1 * 3)) [.int .i64 (k[i1].Pos), .int .i64 (k[i1].Entity), .int .i64 (k[i1].Count)]) 9 kR ?_
     have H15 := H8.drew; clear H8
     have hS16 : Cat W6.drew (Addr.add ade10 (i1 * 3)) [.int .i64 (l[i1].Pos), .int .i64 (l[i1].Entity), .int .i64 (l[i1].Count)] ∧ Cat W6.drew (Addr.add ade11 (i1 * 3)) [.int .i64 (k[i1].Pos), .int .i64 (k[i1].Entity), .int .i64 (k[i1].Count)] := ⟨(Cat.upd hce10 H15.1), (Cat.upd hce11 H15.1)⟩
     refine aO (i := 0) rfl kR kR kR kR kR (fun _ _ _ h => h) rfl rfl hS16 (fun W' hs' => aF rfl) ?_
     refine aO (i := 1) rfl kR kR kR kR kR (fun _ _ _ h => h) rfl rfl hS16 (fun W' hs' => aF rfl) ?_
     refine aO (i := 2) rfl kR kR kR kR kR (fun _ _ _ h => h) rfl rfl hS16 (fun W' hs' => bQ (k := i1) Try.runUnderlying135 Try.sizeOf188 rfl rfl hAe10 hlt1) ?_
     refine aO (i := 3) rfl kR kR kR kR kR (fun _ _ _ h => h) rfl rfl hS16 (fun W' hs' => dR Try.isAgg188 Try.sizeOf188 rfl hs'.1 rfl) ?_
     refine aO (i := 4) rfl kR kR kR kR kR (fun _ _ _ h => h) rfl rfl hS16 (fun W' hs' => aF rfl) ?_
     refine aO (i := 5) rfl kR kR kR kR kR (fun _ _ _ h => h) rfl rfl hS16 (fun W' hs' => aF rfl) ?_
     refine aO (i := 6) rfl kR kR kR kR kR (fun _ _ _ h => h) rfl rfl hS16 (fun W' hs' => bQ (k := i1) Try.runUnderlying135 Try.sizeOf188 rfl rfl hAe11 hlu1) ?_
     refine aO (i := 7) rfl kR kR kR kR kR (fun _ _ _ h => h) rfl rfl hS16 (fun W' hs' => dR Try.isAgg188 Try.sizeOf188 rfl hs'.2 rfl) ?_
     refine aO (i := 8) rfl kR kR kR kR kR (fun _ _ _ h => h) rfl rfl hS16 (fun W' hs' => fI (b := !(fC (l[i1]) (k[i1]))) (by rw [(eq_false_of_ne_true hg12)]) (jL Try.eqGuardType188 rfl rfl (eqr_Export (l[i1]) (k[i1]) _ 9998))) ?_
     refine cB kR ?_ _
     refine aK ?_
     refine fK rfl ?_
     refine wp_seq ?_
     refine aN [0] rfl ?_
     refine aA ?_
     refine aB rfl (aR rfl) rfl rfl ?_
     refine aI ?_
     refine aK ?_
     refine wp_ret ?_
     refine gJ ?_
     refine bY ?_
     refine bY ?_
     refine gJ ?_
     refine bY ?_
     have hz17 : dQ fC l k = false := hf1.trans (kW fC l k i1 hlt1 hlu1 (eq_false_of_ne_true hg12))
     have hr18 : dQ fC l k = false := by simp [hg12, hz17]
     refine bI (.inl rfl) Try.results141 rfl ?_
     rw [hr18]
     exact ⟨rfl, H15.1⟩
   ·have hd1 : dQ fC l k = true := hf1.trans (j6 fC l k i1 kO kO)
    refine wp_exit ?_
    refine dX ?_
    refine dX ?_
    refine iH ?_
    refine aK ?_
    refine wp_seq ?_
    refine aN [0] rfl ?_
    refine aA ?_
    refine aB rfl (aR rfl) rfl rfl ?_
    refine aI ?_
    refine aK ?_
    refine wp_ret ?_
    have hr19 : dQ fC l k = true := by simp [hd1]
    refine bI (.inl rfl) Try.results141 rfl ?_
    rw [hr19]
    exact ⟨rfl, H8.1⟩
theorem kX (l k : List GQuestion) (A A' : Option Addr) (c c' : Nat) (w : World) (h : C aY w A l) (h' : C aY w A' k) : Calls Try.prog 142 #[.slice A l.length c, .slice A' k.length c'] w (fD (dQ dW l k) w) := by
 have nx := h.1
 refine enter 26 [(0, .slice A l.length c), (1, .slice A' k.length c')] Try.func142 rfl kR ?_
 intro xj
 have H1 : St w No [] w := St.enter
 refine wp_seq ?_
 refine aN [0] rfl ?_
 refine aA ?_
 refine aB rfl (aR rfl) rfl rfl ?_
 refine aI ?_
 refine aK ?_
 refine wp_seq ?_
 refine wp_seq ?_
 refine aN [0, 1, 2, 3, 4] rfl ?_
 refine aA ?_
 refine aB rfl (aF rfl) rfl rfl ?_
 refine aA ?_
 refine aB rfl (dP Try.runUnderlying136 rfl) rfl rfl ?_
 refine aA ?_
 refine aB rfl (aF rfl) rfl rfl ?_
 refine aA ?_
 refine aB rfl (dP Try.runUnderlying136 rfl) rfl rfl ?_
 by_cases hg2 : ¬ ((l.length : Nat) : Int) = (k.length : Nat)
 ·refine aA ?_
  refine aB rfl (bX hg2 (gH rfl rfl)) rfl rfl ?_
  refine aI ?_
  refine aK ?_
  refine fK rfl ?_
  refine wp_seq ?_
  refine aN [0] rfl ?_
  refine aA ?_
  refine aB rfl (aR rfl) rfl rfl ?_
  refine aI ?_
  refine aK ?_
  refine wp_ret ?_
  refine bY ?_
  have hz3 : ∀ f, dQ f l k = false := fun f => jH f l k kO
  have hr4 : dQ dW l k = false := by simp [hz3]
  refine bI (.inl rfl) Try.results142 rfl ?_
  rw [hr4]
  exact ⟨rfl, H1.1⟩
 ·refine aA ?_
  refine aB rfl (bZ hg2 (gH rfl rfl)) rfl rfl ?_
  refine aI ?_
  refine aK ?_
  refine fA rfl ?_
  refine wp_skip ?_
  refine aK ?_
  refine wp_seq ?_
  refine wp_seq ?_
  refine aN [0, 1, 2] rfl ?_
  refine aA ?_
  refine aB rfl (aF rfl) rfl rfl ?_
  refine aA ?_
  refine aB rfl (dP Try.runUnderlying136 rfl) rfl rfl ?_
  refine aA ?_
  refine aB rfl (aF rfl) rfl rfl ?_
  refine aI ?_
  refine aK ?_
  refine wp_block ?_
  refine wp_loop_ghost (fun r a' W' => ∃ (i1 : Nat) (x' : Nat → Value), a' = bH 26 x' [(0, .slice A l.length c), (1, .slice A' k.length c'), (12, .int .i64 ((l.length : Nat))), (13, .int .i64 (((i1 : Nat) : Int)))] ∧ (i1 + r = l.length) ∧ (dQ dW l k = dQ dW (l.drop i1) (k.drop i1)) ∧ St w No [] W') l.length ?_ ?_
  ·exact (aZ [(0, .slice A l.length c), (1, .slice A' k.length c'), (12, .int .i64 ((l.length : Nat))), (13, .int .i64 (((0 : Nat) : Int)))] rfl).elim fun x' hx => ⟨0, x', hx, kO, rfl, H1⟩
  ·rintro r5 _ W6 ⟨i1, x7, rfl, hi1, hf1, H8⟩; clear H1
   refine wp_seq ?_
   refine aN [0] rfl ?_
   refine aA ?_
   refine aB rfl (gB rfl rfl) rfl rfl ?_
   refine aI ?_
   refine aK ?_
   refine wp_seq ?_
   refine dB rfl (fun hc9 => ?_) (fun hc9 => ?_)
   ·have hlt1 : i1 < l.length := by omega
    have hlu1 : i1 < k.length := by omega
    obtain ⟨ade10, cse10, hAe10, hKe10, hce10⟩ := fT h i1 hlt1
    have hle10 := ki_Question_len hKe10
    have hoe10 := ki_Question_one hKe10
    obtain ⟨ade11, cse11, hAe11, hKe11, hce11⟩ := fT h' i1 hlu1
    have hle11 := ki_Question_len hKe11
    have hoe11 := ki_Question_one hKe11
    obtain rfl := ki_Question_K hKe10
    obtain rfl := ki_Question_K hKe11
    refine wp_skip ?_
    refine aK ?_
    refine wp_seq ?_
    refine wp_block ?_
    refine wp_seq ?_
    refine aN [0, 1] rfl ?_
    refine aA ?_
    refine aB rfl (aF rfl) rfl rfl ?_
    refine aA ?_
    refine aB rfl (aR rfl) rfl rfl ?_
    refine aI ?_
    refine aK ?_
    refine wp_seq ?_
    by_cases hg12 : (dW (l[i1]) (k[i1])) = true
    ·refine dG (fun W' => Cat W' (Addr.add ade10 (i1 * 2)) [.int .i64 (l[i1].Id), .int .i64 (l[i1].Promise)] ∧ Cat W' (Addr.add ade11 (i1 * 2)) [.int .i64 (k[i1].Id), .int .i64 (k[i1].Promise)]) 9 kR ?_
     have H13 := H8.drew; clear H8
     have hS14 : Cat W6.drew (Addr.add ade10 (i1 * 2)) [.int .i64 (l[i1].Id), .int .i64 (l[i1].Promise)] ∧ Cat W6.drew (Addr.add ade11 (i1 * 2)) [.int .i64 (k[i1].Id), .int .i64 (k[i1].Promise)] := ⟨(Cat.upd hce10 H13.1), (Cat.upd hce11 H13.1)⟩
     refine aO (i := 0) rfl kR kR kR kR kR (fun _ _ _ h => h) rfl rfl hS14 (fun W' hs' => aF rfl) ?_
     refine aO (i := 1) rfl kR kR kR kR kR (fun _ _ _ h => h) rfl rfl hS14 (fun W' hs' => aF rfl) ?_
     refine aO (i := 2) rfl kR kR kR kR kR (fun _ _ _ h => h) rfl rfl hS14 (fun W' hs' => bQ (k := i1) Try.runUnderlying136 Try.sizeOf197 rfl rfl hAe10 hlt1) ?_
     refine aO (i := 3) rfl kR kR kR kR kR (fun _ _ _ h => h) rfl rfl hS14 (fun W' hs' => dR Try.isAgg197 Try.sizeOf197 rfl hs'.1 rfl) ?_
     refine aO (i := 4) rfl kR kR kR kR kR (fun _ _ _ h => h) rfl rfl hS14 (fun W' hs' => aF rfl) ?_
     refine aO (i := 5) rfl kR kR kR kR kR (fun _ _ _ h => h) rfl rfl hS14 (fun W' hs' => aF rfl) ?_
     refine aO (i := 6) rfl kR kR kR kR kR (fun _ _ _ h => h) rfl rfl hS14 (fun W' hs' => bQ (k := i1) Try.runUnderlying136 Try.sizeOf197 rfl rfl hAe11 hlu1) ?_
     refine aO (i := 7) rfl kR kR kR kR kR (fun _ _ _ h => h) rfl rfl hS14 (fun W' hs' => dR Try.isAgg197 Try.sizeOf197 rfl hs'.2 rfl) ?_
     refine aO (i := 8) rfl kR kR kR kR kR (fun _ _ _ h => h) rfl rfl hS14 (fun W' hs' => fI (b := !(dW (l[i1]) (k[i1]))) (by rw [hg12]) (jL Try.eqGuardType197 rfl rfl (eqr_Question (l[i1]) (k[i1]) _ 9998))) ?_
     refine cB kR ?_ _
     refine aK ?_
     refine fA rfl ?_
     refine wp_skip ?_
     refine eP ?_
     refine aK ?_
     refine aN [0, 1] rfl ?_
     refine aA ?_
     refine aB rfl (gT (k := i1) rfl rfl kO) rfl rfl ?_
     refine aA ?_
     refine aB rfl (aF rfl) rfl rfl ?_
     refine aI ?_
     refine aK ?_
     exact (aZ [(0, .slice A l.length c), (1, .slice A' k.length c'), (12, .int .i64 ((l.length : Nat))), (13, .int .i64 (((i1 + 1 : Nat) : Int)))] rfl).elim fun x' hx => ⟨r5 - 1, kO, i1 + 1, x', hx, kO, (hf1.trans (j5 dW l k i1 hlt1 hlu1 hg12)), H13⟩
    ·refine dG (fun W' => Cat W' (Addr.add ade10 (i1 * 2)) [.int .i64 (l[i1].Id), .int .i64 (l[i1].Promise)] ∧ Cat W' (Addr.add ade11 (i1 * 2)) [.int .i64 (k[i1].Id), .int .i64 (k[i1].Promise)]) 9 kR ?_
     have H15 := H8.drew; clear H8
     have hS16 : Cat W6.drew (Addr.add ade10 (i1 * 2)) [.int .i64 (l[i1].Id), .int .i64 (l[i1].Promise)] ∧ Cat W6.drew (Addr.add ade11 (i1 * 2)) [.int .i64 (k[i1].Id), .int .i64 (k[i1].Promise)] := ⟨(Cat.upd hce10 H15.1), (Cat.upd hce11 H15.1)⟩
     refine aO (i := 0) rfl kR kR kR kR kR (fun _ _ _ h => h) rfl rfl hS16 (fun W' hs' => aF rfl) ?_
     refine aO (i := 1) rfl kR kR kR kR kR (fun _ _ _ h => h) rfl rfl hS16 (fun W' hs' => aF rfl) ?_
     refine aO (i := 2) rfl kR kR kR kR kR (fun _ _ _ h => h) rfl rfl hS16 (fun W' hs' => bQ (k := i1) Try.runUnderlying136 Try.sizeOf197 rfl rfl hAe10 hlt1) ?_
     refine aO (i := 3) rfl kR kR kR kR kR (fun _ _ _ h => h) rfl rfl hS16 (fun W' hs' => dR Try.isAgg197 Try.sizeOf197 rfl hs'.1 rfl) ?_
     refine aO (i := 4) rfl kR kR kR kR kR (fun _ _ _ h => h) rfl rfl hS16 (fun W' hs' => aF rfl) ?_
     refine aO (i := 5) rfl kR kR kR kR kR (fun _ _ _ h => h) rfl rfl hS16 (fun W' hs' => aF rfl) ?_
     refine aO (i := 6) rfl kR kR kR kR kR (fun _ _ _ h => h) rfl rfl hS16 (fun W' hs' => bQ (k := i1) Try.runUnderlying136 Try.sizeOf197 rfl rfl hAe11 hlu1) ?_
     refine aO (i := 7) rfl kR kR kR kR kR (fun _ _ _ h => h) rfl rfl hS16 (fun W' hs' => dR Try.isAgg197 Try.sizeOf197 rfl hs'.2 rfl) ?_
     refine aO (i := 8) rfl kR kR kR kR kR (fun _ _ _ h => h) rfl rfl hS16 (fun W' hs' => fI (b := !(dW (l[i1]) (k[i1]))) (by rw [(eq_false_of_ne_true hg12)]) (jL Try.eqGuardType197 rfl rfl (eqr_Question (l[i1]) (k[i1]) _ 9998))) ?_
     refine cB kR ?_ _
     refine aK ?_
     refine fK rfl ?_
     refine wp_seq ?_
     refine aN [0] rfl ?_
     refine aA ?_
     refine aB rfl (aR rfl) rfl rfl ?_
     refine aI ?_
     refine aK ?_
     refine wp_ret ?_
     refine gJ ?_
     refine bY ?_
     refine bY ?_
     refine gJ ?_
     refine bY ?_
     have hz17 : dQ dW l k = false := hf1.trans (kW dW l k i1 hlt1 hlu1 (eq_false_of_ne_true hg12))
     have hr18 : dQ dW l k = false := by simp [hg12, hz17]
     refine bI (.inl rfl) Try.results142 rfl ?_
     rw [hr18]
     exact ⟨rfl, H15.1⟩
   ·have hd1 : dQ dW l k = true := hf1.trans (j6 dW l k i1 kO kO)
    refine wp_exit ?_
    refine dX ?_
    refine dX ?_
    refine iH ?_
    refine aK ?_
    refine wp_seq ?_
    refine aN [0] rfl ?_
    refine aA ?_
    refine aB rfl (aR rfl) rfl rfl ?_
    refine aI ?_
    refine aK ?_
    refine wp_ret ?_
    have hr19 : dQ dW l k = true := by simp [hd1]
    refine bI (.inl rfl) Try.results142 rfl ?_
    rw [hr19]
    exact ⟨rfl, H8.1⟩
theorem eqI_Wire (l k : List GWire) (A A' : Option Addr) (c c' : Nat) (w : World) (h : C fB w A l) (h' : C fB w A' k) : Calls Try.prog 106 #[.slice A l.length c, .slice A' k.length c'] w (fD (dQ fP l k) w) := by
 have nx := h.1
 refine enter 26 [(0, .slice A l.length c), (1, .slice A' k.length c')] Try.func106 rfl kR ?_
 intro xj
 have H1 : St w No [] w := St.enter
 refine wp_seq ?_
 refine aN [0] rfl ?_
 refine aA ?_
 refine aB rfl (aR rfl) rfl rfl ?_
 refine aI ?_
 refine aK ?_
 refine wp_seq ?_
 refine wp_seq ?_
 refine aN [0, 1, 2, 3, 4] rfl ?_
 refine aA ?_
 refine aB rfl (aF rfl) rfl rfl ?_
 refine aA ?_
 refine aB rfl (dP Try.runUnderlying25 rfl) rfl rfl ?_
 refine aA ?_
 refine aB rfl (aF rfl) rfl rfl ?_
 refine aA ?_
 refine aB rfl (dP Try.runUnderlying25 rfl) rfl rfl ?_
 by_cases hg2 : ¬ ((l.length : Nat) : Int) = (k.length : Nat)
 ·refine aA ?_
  refine aB rfl (bX hg2 (gH rfl rfl)) rfl rfl ?_
  refine aI ?_
  refine aK ?_
  refine fK rfl ?_
  refine wp_seq ?_
  refine aN [0] rfl ?_
  refine aA ?_
  refine aB rfl (aR rfl) rfl rfl ?_
  refine aI ?_
  refine aK ?_
  refine wp_ret ?_
  refine bY ?_
  have hz3 : ∀ f, dQ f l k = false := fun f => jH f l k kO
  have hr4 : dQ fP l k = false := by simp [hz3]
  refine bI (.inl rfl) Try.results106 rfl ?_
  rw [hr4]
  exact ⟨rfl, H1.1⟩
 ·refine aA ?_
  refine aB rfl (bZ hg2 (gH rfl rfl)) rfl rfl ?_
  refine aI ?_
  refine aK ?_
  refine fA rfl ?_
  refine wp_skip ?_
  refine aK ?_
  refine wp_seq ?_
  refine wp_seq ?_
  refine aN [0, 1, 2] rfl ?_
  refine aA ?_
  refine aB rfl (aF rfl) rfl rfl ?_
  refine aA ?_
  refine aB rfl (dP Try.runUnderlying25 rfl) rfl rfl ?_
  refine aA ?_
  refine aB rfl (aF rfl) rfl rfl ?_
  refine aI ?_
  refine aK ?_
  refine wp_block ?_
  refine wp_loop_ghost (fun r a' W' => ∃ (i1 : Nat) (x' : Nat → Value), a' = bH 26 x' [(0, .slice A l.length c), (1, .slice A' k.length c'), (12, .int .i64 ((l.length : Nat))), (13, .int .i64 (((i1 : Nat) : Int)))] ∧ (i1 + r = l.length) ∧ (dQ fP l k = dQ fP (l.drop i1) (k.drop i1)) ∧ St w No [] W') l.length ?_ ?_
  ·exact (aZ [(0, .slice A l.length c), (1, .slice A' k.length c'), (12, .int .i64 ((l.length : Nat))), (13, .int .i64 (((0 : Nat) : Int)))] rfl).elim fun x' hx => ⟨0, x', hx, kO, rfl, H1⟩
  ·rintro r5 _ W6 ⟨i1, x7, rfl, hi1, hf1, H8⟩; clear H1
   refine wp_seq ?_
   refine aN [0] rfl ?_
   refine aA ?_
   refine aB rfl (gB rfl rfl) rfl rfl ?_
   refine aI ?_
   refine aK ?_
   refine wp_seq ?_
   refine dB rfl (fun hc9 => ?_) (fun hc9 => ?_)
   ·have hlt1 : i1 < l.length := by omega
    have hlu1 : i1 < k.length := by omega
    obtain ⟨ade10, cse10, hAe10, hKe10, hce10⟩ := fT h i1 hlt1
    have hle10 := ki_Wire_len hKe10
    have hoe10 := ki_Wire_one hKe10
    obtain ⟨ade11, cse11, hAe11, hKe11, hce11⟩ := fT h' i1 hlu1
    have hle11 := ki_Wire_len hKe11
    have hoe11 := ki_Wire_one hKe11
    obtain rfl := ki_Wire_K hKe10
    obtain rfl := ki_Wire_K hKe11
    refine wp_skip ?_
    refine aK ?_
    refine wp_seq ?_
    refine wp_block ?_
    refine wp_seq ?_
    refine aN [0, 1] rfl ?_
    refine aA ?_
    refine aB rfl (aF rfl) rfl rfl ?_
    refine aA ?_
    refine aB rfl (aR rfl) rfl rfl ?_
    refine aI ?_
    refine aK ?_
    refine wp_seq ?_
    by_cases hg12 : (fP (l[i1]) (k[i1])) = true
    ·refine dG (fun W' => Cat W' (Addr.add ade10 (i1 * 2)) [.int .i64 (l[i1].Kind), .int .i64 (l[i1].N)] ∧ Cat W' (Addr.add ade11 (i1 * 2)) [.int .i64 (k[i1].Kind), .int .i64 (k[i1].N)]) 9 kR ?_
     have H13 := H8.drew; clear H8
     have hS14 : Cat W6.drew (Addr.add ade10 (i1 * 2)) [.int .i64 (l[i1].Kind), .int .i64 (l[i1].N)] ∧ Cat W6.drew (Addr.add ade11 (i1 * 2)) [.int .i64 (k[i1].Kind), .int .i64 (k[i1].N)] := ⟨(Cat.upd hce10 H13.1), (Cat.upd hce11 H13.1)⟩
     refine aO (i := 0) rfl kR kR kR kR kR (fun _ _ _ h => h) rfl rfl hS14 (fun W' hs' => aF rfl) ?_
     refine aO (i := 1) rfl kR kR kR kR kR (fun _ _ _ h => h) rfl rfl hS14 (fun W' hs' => aF rfl) ?_
     refine aO (i := 2) rfl kR kR kR kR kR (fun _ _ _ h => h) rfl rfl hS14 (fun W' hs' => bQ (k := i1) Try.runUnderlying25 Try.sizeOf27 rfl rfl hAe10 hlt1) ?_
     refine aO (i := 3) rfl kR kR kR kR kR (fun _ _ _ h => h) rfl rfl hS14 (fun W' hs' => dR Try.isAgg27 Try.sizeOf27 rfl hs'.1 rfl) ?_
     refine aO (i := 4) rfl kR kR kR kR kR (fun _ _ _ h => h) rfl rfl hS14 (fun W' hs' => aF rfl) ?_
     refine aO (i := 5) rfl kR kR kR kR kR (fun _ _ _ h => h) rfl rfl hS14 (fun W' hs' => aF rfl) ?_
     refine aO (i := 6) rfl kR kR kR kR kR (fun _ _ _ h => h) rfl rfl hS14 (fun W' hs' => bQ (k := i1) Try.runUnderlying25 Try.sizeOf27 rfl rfl hAe11 hlu1) ?_
     refine aO (i := 7) rfl kR kR kR kR kR (fun _ _ _ h => h) rfl rfl hS14 (fun W' hs' => dR Try.isAgg27 Try.sizeOf27 rfl hs'.2 rfl) ?_
     refine aO (i := 8) rfl kR kR kR kR kR (fun _ _ _ h => h) rfl rfl hS14 (fun W' hs' => fI (b := !(fP (l[i1]) (k[i1]))) (by rw [hg12]) (jL Try.eqGuardType27 rfl rfl (eqr_Wire (l[i1]) (k[i1]) _ 9998))) ?_
     refine cB kR ?_ _
     refine aK ?_
     refine fA rfl ?_
     refine wp_skip ?_
     refine eP ?_
     refine aK ?_
     refine aN [0, 1] rfl ?_
     refine aA ?_
     refine aB rfl (gT (k := i1) rfl rfl kO) rfl rfl ?_
     refine aA ?_
     refine aB rfl (aF rfl) rfl rfl ?_
     refine aI ?_
     refine aK ?_
     exact (aZ [(0, .slice A l.length c), (1, .slice A' k.length c'), (12, .int .i64 ((l.length : Nat))), (13, .int .i64 (((i1 + 1 : Nat) : Int)))] rfl).elim fun x' hx => ⟨r5 - 1, kO, i1 + 1, x', hx, kO, (hf1.trans (j5 fP l k i1 hlt1 hlu1 hg12)), H13⟩
    ·refine dG (fun W' => Cat W' (Addr.add ade10 (i1 * 2)) [.int .i64 (l[i1].Kind), .int .i64 (l[i1].N)] ∧ Cat W' (Addr.add ade11 (i1 * 2)) [.int .i64 (k[i1].Kind), .int .i64 (k[i1].N)]) 9 kR ?_
     have H15 := H8.drew; clear H8
     have hS16 : Cat W6.drew (Addr.add ade10 (i1 * 2)) [.int .i64 (l[i1].Kind), .int .i64 (l[i1].N)] ∧ Cat W6.drew (Addr.add ade11 (i1 * 2)) [.int .i64 (k[i1].Kind), .int .i64 (k[i1].N)] := ⟨(Cat.upd hce10 H15.1), (Cat.upd hce11 H15.1)⟩
     refine aO (i := 0) rfl kR kR kR kR kR (fun _ _ _ h => h) rfl rfl hS16 (fun W' hs' => aF rfl) ?_
     refine aO (i := 1) rfl kR kR kR kR kR (fun _ _ _ h => h) rfl rfl hS16 (fun W' hs' => aF rfl) ?_
     refine aO (i := 2) rfl kR kR kR kR kR (fun _ _ _ h => h) rfl rfl hS16 (fun W' hs' => bQ (k := i1) Try.runUnderlying25 Try.sizeOf27 rfl rfl hAe10 hlt1) ?_
     refine aO (i := 3) rfl kR kR kR kR kR (fun _ _ _ h => h) rfl rfl hS16 (fun W' hs' => dR Try.isAgg27 Try.sizeOf27 rfl hs'.1 rfl) ?_
     refine aO (i := 4) rfl kR kR kR kR kR (fun _ _ _ h => h) rfl rfl hS16 (fun W' hs' => aF rfl) ?_
     refine aO (i := 5) rfl kR kR kR kR kR (fun _ _ _ h => h) rfl rfl hS16 (fun W' hs' => aF rfl) ?_
     refine aO (i := 6) rfl kR kR kR kR kR (fun _ _ _ h => h) rfl rfl hS16 (fun W' hs' => bQ (k := i1) Try.runUnderlying25 Try.sizeOf27 rfl rfl hAe11 hlu1) ?_
     refine aO (i := 7) rfl kR kR kR kR kR (fun _ _ _ h => h) rfl rfl hS16 (fun W' hs' => dR Try.isAgg27 Try.sizeOf27 rfl hs'.2 rfl) ?_
     refine aO (i := 8) rfl kR kR kR kR kR (fun _ _ _ h => h) rfl rfl hS16 (fun W' hs' => fI (b := !(fP (l[i1]) (k[i1]))) (by rw [(eq_false_of_ne_true hg12)]) (jL Try.eqGuardType27 rfl rfl (eqr_Wire (l[i1]) (k[i1]) _ 9998))) ?_
     refine cB kR ?_ _
     refine aK ?_
     refine fK rfl ?_
     refine wp_seq ?_
     refine aN [0] rfl ?_
     refine aA ?_
     refine aB rfl (aR rfl) rfl rfl ?_
     refine aI ?_
     refine aK ?_
     refine wp_ret ?_
     refine gJ ?_
     refine bY ?_
     refine bY ?_
     refine gJ ?_
     refine bY ?_
     have hz17 : dQ fP l k = false := hf1.trans (kW fP l k i1 hlt1 hlu1 (eq_false_of_ne_true hg12))
     have hr18 : dQ fP l k = false := by simp [hg12, hz17]
     refine bI (.inl rfl) Try.results106 rfl ?_
     rw [hr18]
     exact ⟨rfl, H15.1⟩
   ·have hd1 : dQ fP l k = true := hf1.trans (j6 fP l k i1 kO kO)
    refine wp_exit ?_
    refine dX ?_
    refine dX ?_
    refine iH ?_
    refine aK ?_
    refine wp_seq ?_
    refine aN [0] rfl ?_
    refine aA ?_
    refine aB rfl (aR rfl) rfl rfl ?_
    refine aI ?_
    refine aK ?_
    refine wp_ret ?_
    have hr19 : dQ fP l k = true := by simp [hd1]
    refine bI (.inl rfl) Try.results106 rfl ?_
    rw [hr19]
    exact ⟨rfl, H8.1⟩
theorem equalSent_i (x y : GSent) (cx cy : List Value) (w : World) (h : aH.K w x cx) (h' : aH.K w y cy) : Calls Try.prog 140 #[.agg cx.toArray, .agg cy.toArray] w (fD (eB x y) w) := by
 obtain ⟨Ax2, cx2, rfl, hlx2, hCx2⟩ := ki_Sent_K h
 obtain ⟨Ay2, cy2, rfl, hly2, hCy2⟩ := ki_Sent_K h'
 have nx2 := hCx2.1
 refine enter 38 [(0, .agg #[.int .i64 (x.Target), .string (x.Name), .slice Ax2 x.dJ.length cx2, .int .i64 (x.Result), .int .i64 (x.Tag.Vat), .int .i64 (x.Tag.Entity), .int .i64 (x.Tag.Seq)]), (1, .agg #[.int .i64 (y.Target), .string (y.Name), .slice Ay2 y.dJ.length cy2, .int .i64 (y.Result), .int .i64 (y.Tag.Vat), .int .i64 (y.Tag.Entity), .int .i64 (y.Tag.Seq)])] Try.func140 rfl kR ?_
 intro xj
 have H1 : St w No [] w := St.enter
 refine wp_seq ?_
 refine aN [0, 1, 2] rfl ?_
 refine aA ?_
 refine fJ rfl rfl rfl rfl H1 ?_
 intro g_0_0 W2 hu3 Ha4; clear H1; clear hu3
 refine aA ?_
 refine fJ rfl rfl rfl rfl Ha4 ?_
 intro g_0_1 W6 hu7 Ha8; clear Ha4; clear hu7
 refine aA ?_
 refine aB rfl (aR rfl) rfl rfl ?_
 refine aI ?_
 refine aK ?_
 refine wp_seq ?_
 refine aN [0, 1, 2, 3, 4, 5, 6, 7, 8, 9, 10, 11, 12, 13, 14, 15, 16, 17, 18, 19, 20, 21, 22, 23, 24, 25, 26, 27, 28, 29, 30, 31, 32, 33] rfl ?_
 refine aA ?_
 refine aB rfl (aU fa_181_0 rfl) rfl rfl ?_
 refine aA ?_
 refine aB rfl (bB (k := 0) (v := .int .i64 (x.Target)) Try.isAgg3 rfl (Ha8.blk 1 rfl) rfl) rfl rfl ?_
 refine aA ?_
 refine aB rfl (aU fa_181_0 rfl) rfl rfl ?_
 refine aA ?_
 refine aB rfl (bB (k := 0) (v := .int .i64 (y.Target)) Try.isAgg3 rfl (Ha8.blk 0 rfl) rfl) rfl rfl ?_
 by_cases hg10 : (x.Target : Int) = y.Target
 ·refine aA ?_
  refine aB rfl (bX hg10 (bS rfl rfl)) rfl rfl ?_
  refine aA ?_
  refine aB rfl (aF rfl) rfl rfl ?_
  refine aA ?_
  refine bL rfl rfl rfl rfl (fun _ ho11 => ?_)
  refine aB ho11 (aU fa_181_1 rfl) rfl rfl ?_
  refine aA ?_
  refine bL rfl rfl rfl rfl (fun _ ho12 => ?_)
  refine aB ho12 (bB (k := 1) (v := .string (x.Name)) Try.isAgg9 rfl (Ha8.blk 1 rfl) rfl) rfl rfl ?_
  refine aA ?_
  refine bL rfl rfl rfl rfl (fun _ ho13 => ?_)
  refine aB ho13 (aU fa_181_1 rfl) rfl rfl ?_
  refine aA ?_
  refine bL rfl rfl rfl rfl (fun _ ho14 => ?_)
  refine aB ho14 (bB (k := 1) (v := .string (y.Name)) Try.isAgg9 rfl (Ha8.blk 0 rfl) rfl) rfl rfl ?_
  by_cases hg15 : (x.Name.toList == y.Name.toList) = true
  ·refine aA ?_
   refine bL rfl rfl rfl rfl (fun _ ho16 => ?_)
   refine aB ho16 (fI (b := x.Name.toList == y.Name.toList) hg15 (rn_streql rfl rfl)) rfl rfl ?_
   refine aA ?_
   refine aB rfl (aX (v := .bool (true)) (b := true) rfl rfl rfl rfl) rfl rfl ?_
   refine aA ?_
   refine aB rfl (aF rfl) rfl rfl ?_
   refine aA ?_
   refine bL rfl rfl rfl rfl (fun _ ho17 => ?_)
   refine aB ho17 (aU fa_181_2 rfl) rfl rfl ?_
   refine aA ?_
   refine bL rfl rfl rfl rfl (fun _ ho18 => ?_)
   refine aB ho18 (bB (k := 2) (v := .slice Ax2 x.dJ.length cx2) Try.isAgg74 rfl (Ha8.blk 1 rfl) rfl) rfl rfl ?_
   refine aA ?_
   refine bL rfl rfl rfl rfl (fun _ ho19 => ?_)
   refine aB ho19 (aU fa_181_2 rfl) rfl rfl ?_
   refine aA ?_
   refine bL rfl rfl rfl rfl (fun _ ho20 => ?_)
   refine aB ho20 (bB (k := 2) (v := .slice Ay2 y.dJ.length cy2) Try.isAgg74 rfl (Ha8.blk 0 rfl) rfl) rfl rfl ?_
   by_cases hg21 : (dQ eH x.dJ y.dJ) = true
   ·refine aA ?_
    refine bL rfl rfl rfl rfl (fun _ ho22 => ?_)
    refine bC ho22 Try.call100 (vs := #[.slice Ax2 x.dJ.length cx2, .slice Ay2 y.dJ.length cy2]) rfl rfl rfl (iF (eqI_Value x.dJ y.dJ _ _ _ _ _ (cZ Ha8.1 hCx2) (cZ Ha8.1 hCy2)) hg21) ?_
    rintro e25 W24 ⟨rfl, hu23⟩; refine ⟨_, rfl, ?_⟩
    have H26 := Ha8.no hu23; clear Ha8
    refine aA ?_
    refine aB rfl (aX (v := .bool (true)) (b := true) rfl rfl rfl rfl) rfl rfl ?_
    refine aA ?_
    refine aB rfl (aF rfl) rfl rfl ?_
    refine aA ?_
    refine bL rfl rfl rfl rfl (fun _ ho27 => ?_)
    refine aB ho27 (aU fa_181_3 rfl) rfl rfl ?_
    refine aA ?_
    refine bL rfl rfl rfl rfl (fun _ ho28 => ?_)
    refine aB ho28 (bB (k := 3) (v := .int .i64 (x.Result)) Try.isAgg3 rfl (H26.blk 1 rfl) rfl) rfl rfl ?_
    refine aA ?_
    refine bL rfl rfl rfl rfl (fun _ ho29 => ?_)
    refine aB ho29 (aU fa_181_3 rfl) rfl rfl ?_
    refine aA ?_
    refine bL rfl rfl rfl rfl (fun _ ho30 => ?_)
    refine aB ho30 (bB (k := 3) (v := .int .i64 (y.Result)) Try.isAgg3 rfl (H26.blk 0 rfl) rfl) rfl rfl ?_
    by_cases hg31 : (x.Result : Int) = y.Result
    ·refine aA ?_
     refine bL rfl rfl rfl rfl (fun _ ho32 => ?_)
     refine aB ho32 (bX hg31 (bS rfl rfl)) rfl rfl ?_
     refine aA ?_
     refine aB rfl (aX (v := .bool (true)) (b := true) rfl rfl rfl rfl) rfl rfl ?_
     refine aA ?_
     refine aB rfl (aF rfl) rfl rfl ?_
     refine aA ?_
     refine bL rfl rfl rfl rfl (fun _ ho33 => ?_)
     refine aB ho33 (aU fa_181_4 rfl) rfl rfl ?_
     refine aA ?_
     refine bL rfl rfl rfl rfl (fun _ ho34 => ?_)
     refine aB ho34 (iL (sub := #[.int .i64 (x.Tag.Vat), .int .i64 (x.Tag.Entity), .int .i64 (x.Tag.Seq)]) Try.isAgg29 Try.sizeOf29 rfl (H26.blk 1 rfl) rfl rfl) rfl rfl ?_
     refine aA ?_
     refine bL rfl rfl rfl rfl (fun _ ho35 => ?_)
     refine aB ho35 (aU fa_181_4 rfl) rfl rfl ?_
     refine aA ?_
     refine bL rfl rfl rfl rfl (fun _ ho36 => ?_)
     refine aB ho36 (iL (sub := #[.int .i64 (y.Tag.Vat), .int .i64 (y.Tag.Entity), .int .i64 (y.Tag.Seq)]) Try.isAgg29 Try.sizeOf29 rfl (H26.blk 0 rfl) rfl rfl) rfl rfl ?_
     by_cases hg37 : (jM x.Tag y.Tag) = true
     ·refine aA ?_
      refine bL rfl rfl rfl rfl (fun _ ho38 => ?_)
      refine aB ho38 (fI (b := jM x.Tag y.Tag) hg37 (rn_eqlA Try.eqGuardType29 rfl rfl (eqr_Tag x.Tag y.Tag _ 9998))) rfl rfl ?_
      refine aA ?_
      refine aB rfl (aX (v := .bool (true)) (b := true) rfl rfl rfl rfl) rfl rfl ?_
      refine aA ?_
      refine aB rfl (aR rfl) rfl rfl ?_
      refine aI ?_
      refine aK ?_
      refine wp_ret ?_
      have hr39 : eB x y = true := by simp [eB, hg10, hg15, hg21, hg31, hg37]
      refine bI (.inl rfl) Try.results140 rfl ?_
      rw [hr39]
      exact ⟨rfl, H26.1⟩
     ·refine aA ?_
      refine bL rfl rfl rfl rfl (fun _ ho40 => ?_)
      refine aB ho40 (fI (b := jM x.Tag y.Tag) (eq_false_of_ne_true hg37) (rn_eqlA Try.eqGuardType29 rfl rfl (eqr_Tag x.Tag y.Tag _ 9998))) rfl rfl ?_
      refine aA ?_
      refine aB rfl (aX (v := .bool (false)) (b := true) rfl rfl rfl rfl) rfl rfl ?_
      refine aA ?_
      refine aB rfl (aR rfl) rfl rfl ?_
      refine aI ?_
      refine aK ?_
      refine wp_ret ?_
      have hr41 : eB x y = false := by simp [eB, hg10, hg15, hg21, hg31, hg37]
      refine bI (.inl rfl) Try.results140 rfl ?_
      rw [hr41]
      exact ⟨rfl, H26.1⟩
    ·refine aA ?_
     refine bL rfl rfl rfl rfl (fun _ ho42 => ?_)
     refine aB ho42 (bZ hg31 (bS rfl rfl)) rfl rfl ?_
     refine aA ?_
     refine aB rfl (aX (v := .bool (false)) (b := true) rfl rfl rfl rfl) rfl rfl ?_
     refine aA ?_
     refine aB rfl (aF rfl) rfl rfl ?_
     refine aA ?_
     refine aD rfl rfl rfl rfl rfl rfl rfl ?_
     refine aA ?_
     refine aD rfl rfl rfl rfl rfl rfl rfl ?_
     refine aA ?_
     refine aD rfl rfl rfl rfl rfl rfl rfl ?_
     refine aA ?_
     refine aD rfl rfl rfl rfl rfl rfl rfl ?_
     refine aA ?_
     refine aD rfl rfl rfl rfl rfl rfl rfl ?_
     refine aA ?_
     refine aB rfl (aX (v := .bool (false)) (b := false) rfl rfl rfl rfl) rfl rfl ?_
     refine aA ?_
     refine aB rfl (aR rfl) rfl rfl ?_
     refine aI ?_
     refine aK ?_
     refine wp_ret ?_
     have hr43 : eB x y = false := by simp [eB, hg10, hg15, hg21, hg31]
     refine bI (.inl rfl) Try.results140 rfl ?_
     rw [hr43]
     exact ⟨rfl, H26.1⟩
   ·refine aA ?_
    refine bL rfl rfl rfl rfl (fun _ ho44 => ?_)
    refine bC ho44 Try.call100 (vs := #[.slice Ax2 x.dJ.length cx2, .slice Ay2 y.dJ.length cy2]) rfl rfl rfl (iF (eqI_Value x.dJ y.dJ _ _ _ _ _ (cZ Ha8.1 hCx2) (cZ Ha8.1 hCy2)) (eq_false_of_ne_true hg21)) ?_
    rintro e47 W46 ⟨rfl, hu45⟩; refine ⟨_, rfl, ?_⟩
    have H48 := Ha8.no hu45; clear Ha8
    refine aA ?_
    refine aB rfl (aX (v := .bool (false)) (b := true) rfl rfl rfl rfl) rfl rfl ?_
    refine aA ?_
    refine aB rfl (aF rfl) rfl rfl ?_
    refine aA ?_
    refine aD rfl rfl rfl rfl rfl rfl rfl ?_
    refine aA ?_
    refine aD rfl rfl rfl rfl rfl rfl rfl ?_
    refine aA ?_
    refine aD rfl rfl rfl rfl rfl rfl rfl ?_
    refine aA ?_
    refine aD rfl rfl rfl rfl rfl rfl rfl ?_
    refine aA ?_
    refine aD rfl rfl rfl rfl rfl rfl rfl ?_
    refine aA ?_
    refine aB rfl (aX (v := .bool (false)) (b := false) rfl rfl rfl rfl) rfl rfl ?_
    refine aA ?_
    refine aB rfl (aF rfl) rfl rfl ?_
    refine aA ?_
    refine aD rfl rfl rfl rfl rfl rfl rfl ?_
    refine aA ?_
    refine aD rfl rfl rfl rfl rfl rfl rfl ?_
    refine aA ?_
    refine aD rfl rfl rfl rfl rfl rfl rfl ?_
    refine aA ?_
    refine aD rfl rfl rfl rfl rfl rfl rfl ?_
    refine aA ?_
    refine aD rfl rfl rfl rfl rfl rfl rfl ?_
    refine aA ?_
    refine aB rfl (aX (v := .bool (false)) (b := false) rfl rfl rfl rfl) rfl rfl ?_
    refine aA ?_
    refine aB rfl (aR rfl) rfl rfl ?_
    refine aI ?_
    refine aK ?_
    refine wp_ret ?_
    have hr49 : eB x y = false := by simp [eB, hg10, hg15, hg21]
    refine bI (.inl rfl) Try.results140 rfl ?_
    rw [hr49]
    exact ⟨rfl, H48.1⟩
  ·refine aA ?_
   refine bL rfl rfl rfl rfl (fun _ ho50 => ?_)
   refine aB ho50 (fI (b := x.Name.toList == y.Name.toList) (eq_false_of_ne_true hg15) (rn_streql rfl rfl)) rfl rfl ?_
   refine aA ?_
   refine aB rfl (aX (v := .bool (false)) (b := true) rfl rfl rfl rfl) rfl rfl ?_
   refine aA ?_
   refine aB rfl (aF rfl) rfl rfl ?_
   refine aA ?_
   refine aD rfl rfl rfl rfl rfl rfl rfl ?_
   refine aA ?_
   refine aD rfl rfl rfl rfl rfl rfl rfl ?_
   refine aA ?_
   refine aD rfl rfl rfl rfl rfl rfl rfl ?_
   refine aA ?_
   refine aD rfl rfl rfl rfl rfl rfl rfl ?_
   refine aA ?_
   refine aD rfl rfl rfl rfl rfl rfl rfl ?_
   refine aA ?_
   refine aB rfl (aX (v := .bool (false)) (b := false) rfl rfl rfl rfl) rfl rfl ?_
   refine aA ?_
   refine aB rfl (aF rfl) rfl rfl ?_
   refine aA ?_
   refine aD rfl rfl rfl rfl rfl rfl rfl ?_
   refine aA ?_
   refine aD rfl rfl rfl rfl rfl rfl rfl ?_
   refine aA ?_
   refine aD rfl rfl rfl rfl rfl rfl rfl ?_
   refine aA ?_
   refine aD rfl rfl rfl rfl rfl rfl rfl ?_
   refine aA ?_
   refine aD rfl rfl rfl rfl rfl rfl rfl ?_
   refine aA ?_
   refine aB rfl (aX (v := .bool (false)) (b := false) rfl rfl rfl rfl) rfl rfl ?_
   refine aA ?_
   refine aB rfl (aF rfl) rfl rfl ?_
   refine aA ?_
   refine aD rfl rfl rfl rfl rfl rfl rfl ?_
   refine aA ?_
   refine aD rfl rfl rfl rfl rfl rfl rfl ?_
   refine aA ?_
   refine aD rfl rfl rfl rfl rfl rfl rfl ?_
   refine aA ?_
   refine aD rfl rfl rfl rfl rfl rfl rfl ?_
   refine aA ?_
   refine aD rfl rfl rfl rfl rfl rfl rfl ?_
   refine aA ?_
   refine aB rfl (aX (v := .bool (false)) (b := false) rfl rfl rfl rfl) rfl rfl ?_
   refine aA ?_
   refine aB rfl (aR rfl) rfl rfl ?_
   refine aI ?_
   refine aK ?_
   refine wp_ret ?_
   have hr51 : eB x y = false := by simp [eB, hg10, hg15]
   refine bI (.inl rfl) Try.results140 rfl ?_
   rw [hr51]
   exact ⟨rfl, Ha8.1⟩
 ·refine aA ?_
  refine aB rfl (bZ hg10 (bS rfl rfl)) rfl rfl ?_
  refine aA ?_
  refine aB rfl (aF rfl) rfl rfl ?_
  refine aA ?_
  refine aD rfl rfl rfl rfl rfl rfl rfl ?_
  refine aA ?_
  refine aD rfl rfl rfl rfl rfl rfl rfl ?_
  refine aA ?_
  refine aD rfl rfl rfl rfl rfl rfl rfl ?_
  refine aA ?_
  refine aD rfl rfl rfl rfl rfl rfl rfl ?_
  refine aA ?_
  refine aD rfl rfl rfl rfl rfl rfl rfl ?_
  refine aA ?_
  refine aB rfl (aX (v := .bool (false)) (b := false) rfl rfl rfl rfl) rfl rfl ?_
  refine aA ?_
  refine aB rfl (aF rfl) rfl rfl ?_
  refine aA ?_
  refine aD rfl rfl rfl rfl rfl rfl rfl ?_
  refine aA ?_
  refine aD rfl rfl rfl rfl rfl rfl rfl ?_
  refine aA ?_
  refine aD rfl rfl rfl rfl rfl rfl rfl ?_
  refine aA ?_
  refine aD rfl rfl rfl rfl rfl rfl rfl ?_
  refine aA ?_
  refine aD rfl rfl rfl rfl rfl rfl rfl ?_
  refine aA ?_
  refine aB rfl (aX (v := .bool (false)) (b := false) rfl rfl rfl rfl) rfl rfl ?_
  refine aA ?_
  refine aB rfl (aF rfl) rfl rfl ?_
  refine aA ?_
  refine aD rfl rfl rfl rfl rfl rfl rfl ?_
  refine aA ?_
  refine aD rfl rfl rfl rfl rfl rfl rfl ?_
  refine aA ?_
  refine aD rfl rfl rfl rfl rfl rfl rfl ?_
  refine aA ?_
  refine aD rfl rfl rfl rfl rfl rfl rfl ?_
  refine aA ?_
  refine aD rfl rfl rfl rfl rfl rfl rfl ?_
  refine aA ?_
  refine aB rfl (aX (v := .bool (false)) (b := false) rfl rfl rfl rfl) rfl rfl ?_
  refine aA ?_
  refine aB rfl (aF rfl) rfl rfl ?_
  refine aA ?_
  refine aD rfl rfl rfl rfl rfl rfl rfl ?_
  refine aA ?_
  refine aD rfl rfl rfl rfl rfl rfl rfl ?_
  refine aA ?_
  refine aD rfl rfl rfl rfl rfl rfl rfl ?_
  refine aA ?_
  refine aD rfl rfl rfl rfl rfl rfl rfl ?_
  refine aA ?_
  refine aD rfl rfl rfl rfl rfl rfl rfl ?_
  refine aA ?_
  refine aB rfl (aX (v := .bool (false)) (b := false) rfl rfl rfl rfl) rfl rfl ?_
  refine aA ?_
  refine aB rfl (aR rfl) rfl rfl ?_
  refine aI ?_
  refine aK ?_
  refine wp_ret ?_
  have hr52 : eB x y = false := by simp [eB, hg10]
  refine bI (.inl rfl) Try.results140 rfl ?_
  rw [hr52]
  exact ⟨rfl, Ha8.1⟩
theorem eqF_Sent (l k : List GSent) (A A' : Option Addr) (c c' : Nat) (w : World) (h : C aH w A l) (h' : C aH w A' k) : Calls Try.prog 139 #[.slice A l.length c, .slice A' k.length c', .func (.func 140) #[] #[]] w (fD (dQ eB l k) w) := by
 have nx := h.1
 refine enter 32 [(0, .slice A l.length c), (1, .slice A' k.length c'), (2, .func (.func 140) #[] #[])] Try.func139 rfl kR ?_
 intro xj
 have H1 : St w No [] w := St.enter
 refine wp_seq ?_
 refine aN [0] rfl ?_
 refine aA ?_
 refine aB rfl (aR rfl) rfl rfl ?_
 refine aI ?_
 refine aK ?_
 refine wp_seq ?_
 refine wp_seq ?_
 refine aN [0, 1, 2, 3, 4] rfl ?_
 refine aA ?_
 refine aB rfl (aF rfl) rfl rfl ?_
 refine aA ?_
 refine aB rfl (dP Try.runUnderlying65 rfl) rfl rfl ?_
 refine aA ?_
 refine aB rfl (aF rfl) rfl rfl ?_
 refine aA ?_
 refine aB rfl (dP Try.runUnderlying65 rfl) rfl rfl ?_
 by_cases hg2 : ¬ ((l.length : Nat) : Int) = (k.length : Nat)
 ·refine aA ?_
  refine aB rfl (bX hg2 (gH rfl rfl)) rfl rfl ?_
  refine aI ?_
  refine aK ?_
  refine fK rfl ?_
  refine wp_seq ?_
  refine aN [0] rfl ?_
  refine aA ?_
  refine aB rfl (aR rfl) rfl rfl ?_
  refine aI ?_
  refine aK ?_
  refine wp_ret ?_
  refine bY ?_
  have hz3 : ∀ f, dQ f l k = false := fun f => jH f l k kO
  have hr4 : dQ eB l k = false := by simp [hz3]
  refine bI (.inl rfl) Try.results139 rfl ?_
  rw [hr4]
  exact ⟨rfl, H1.1⟩
 ·refine aA ?_
  refine aB rfl (bZ hg2 (gH rfl rfl)) rfl rfl ?_
  refine aI ?_
  refine aK ?_
  refine fA rfl ?_
  refine wp_skip ?_
  refine aK ?_
  refine wp_seq ?_
  refine wp_seq ?_
  refine aN [0, 1, 2] rfl ?_
  refine aA ?_
  refine aB rfl (aF rfl) rfl rfl ?_
  refine aA ?_
  refine aB rfl (dP Try.runUnderlying65 rfl) rfl rfl ?_
  refine aA ?_
  refine aB rfl (aF rfl) rfl rfl ?_
  refine aI ?_
  refine aK ?_
  refine wp_block ?_
  refine wp_loop_ghost (fun r a' W' => ∃ (i1 : Nat) (x' : Nat → Value), a' = bH 32 x' [(1, .slice A' k.length c'), (2, .func (.func 140) #[] #[]), (15, .slice A l.length c), (16, .int .i64 ((l.length : Nat))), (17, .int .i64 (((i1 : Nat) : Int)))] ∧ (i1 + r = l.length) ∧ (dQ eB l k = dQ eB (l.drop i1) (k.drop i1)) ∧ St w No [] W') l.length ?_ ?_
  ·exact (aZ [(1, .slice A' k.length c'), (2, .func (.func 140) #[] #[]), (15, .slice A l.length c), (16, .int .i64 ((l.length : Nat))), (17, .int .i64 (((0 : Nat) : Int)))] rfl).elim fun x' hx => ⟨0, x', hx, kO, rfl, H1⟩
  ·rintro r5 _ W6 ⟨i1, x7, rfl, hi1, hf1, H8⟩; clear H1
   refine wp_seq ?_
   refine aN [0] rfl ?_
   refine aA ?_
   refine aB rfl (gB rfl rfl) rfl rfl ?_
   refine aI ?_
   refine aK ?_
   refine wp_seq ?_
   refine dB rfl (fun hc9 => ?_) (fun hc9 => ?_)
   ·have hlt1 : i1 < l.length := by omega
    have hlu1 : i1 < k.length := by omega
    obtain ⟨ade10, cse10, hAe10, hKe10, hce10⟩ := fT h i1 hlt1
    have hle10 := eY hKe10
    have hoe10 := ki_Sent_one hKe10
    obtain ⟨ade11, cse11, hAe11, hKe11, hce11⟩ := fT h' i1 hlu1
    have hle11 := eY hKe11
    have hoe11 := ki_Sent_one hKe11
    refine wp_skip ?_
    refine aK ?_
    refine wp_seq ?_
    refine wp_block ?_
    refine wp_seq ?_
    refine aN [0, 1, 2, 3, 4, 5] rfl ?_
    refine aA ?_
    refine aB rfl (aF rfl) rfl rfl ?_
    refine aA ?_
    refine aB rfl (bQ (k := i1) Try.runUnderlying65 Try.sizeOf181 rfl rfl hAe10 hlt1) rfl rfl ?_
    refine aA ?_
    refine aB rfl (dR Try.isAgg181 Try.sizeOf181 rfl (Cat.upd hce10 H8.1) hle10) rfl rfl ?_
    refine aA ?_
    refine bP rfl Try.zeroValue181 rfl rfl H8 ?_
    intro g_5_3 W12 hu13 Ha14; clear H8; clear hu13
    refine aA ?_
    refine aB rfl (aR rfl) rfl rfl ?_
    refine aA ?_
    refine bG rfl Try.sizeOf181 rfl rfl hle10 rfl hoe10 Ha14 ?_
    intro W16 hu17 Ha18; clear Ha14; clear hu17
    refine aI ?_
    refine aK ?_
    refine wp_seq ?_
    refine aN [0, 1, 2, 3, 4, 5] rfl ?_
    refine aA ?_
    refine aB rfl (aF rfl) rfl rfl ?_
    refine aA ?_
    refine aB rfl (aF rfl) rfl rfl ?_
    refine aA ?_
    refine aB rfl (bQ (k := i1) Try.runUnderlying65 Try.sizeOf181 rfl rfl hAe11 hlu1) rfl rfl ?_
    refine aA ?_
    refine aB rfl (dR Try.isAgg181 Try.sizeOf181 rfl (Cat.upd hce11 Ha18.1) hle11) rfl rfl ?_
    refine aA ?_
    refine bP rfl Try.zeroValue181 rfl rfl Ha18 ?_
    intro g_6_4 W20 hu21 Ha22; clear Ha18; clear hu21
    refine aA ?_
    refine bG rfl Try.sizeOf181 rfl rfl hle11 rfl hoe11 Ha22 ?_
    intro W24 hu25 Ha26; clear Ha22; clear hu25
    refine aI ?_
    refine aK ?_
    refine wp_seq ?_
    refine aN [0, 1, 2, 3, 4] rfl ?_
    refine aA ?_
    refine aB rfl (aF rfl) rfl rfl ?_
    refine aA ?_
    refine aB rfl (bN Try.isAgg181 Try.sizeOf181 rfl (Ha26.blk 1 rfl) hle10) rfl rfl ?_
    refine aA ?_
    refine aB rfl (bN Try.isAgg181 Try.sizeOf181 rfl (Ha26.blk 0 rfl) hle11) rfl rfl ?_
    by_cases hg28 : eB (l[i1]) (k[i1]) = true
    ·refine aA ?_
     refine kN rfl rfl Try.call140 (vs := #[.agg (List.toArray cse10), .agg (List.toArray cse11)]) rfl rfl rfl (iF (equalSent_i (l[i1]) (k[i1]) _ _ _ (jD Ha26.1 hKe10) (jD Ha26.1 hKe11)) hg28) ?_
     rintro e31 W30 ⟨rfl, hu29⟩; refine ⟨_, rfl, ?_⟩
     have H32 := Ha26.no hu29; clear Ha26
     refine aA ?_
     refine aB rfl (jW rfl) rfl rfl ?_
     refine aI ?_
     refine aK ?_
     refine fA rfl ?_
     refine wp_skip ?_
     refine eP ?_
     refine aK ?_
     refine aN [0, 1] rfl ?_
     refine aA ?_
     refine aB rfl (gT (k := i1) rfl rfl kO) rfl rfl ?_
     refine aA ?_
     refine aB rfl (aF rfl) rfl rfl ?_
     refine aI ?_
     refine aK ?_
     exact (aZ [(1, .slice A' k.length c'), (2, .func (.func 140) #[] #[]), (15, .slice A l.length c), (16, .int .i64 ((l.length : Nat))), (17, .int .i64 (((i1 + 1 : Nat) : Int)))] rfl).elim fun x' hx => ⟨r5 - 1, kO, i1 + 1, x', hx, kO, (hf1.trans (j5 eB l k i1 hlt1 hlu1 hg28)), H32.pick [] kD rfl⟩
    ·refine aA ?_
     refine kN rfl rfl Try.call140 (vs := #[.agg (List.toArray cse10), .agg (List.toArray cse11)]) rfl rfl rfl (iF (equalSent_i (l[i1]) (k[i1]) _ _ _ (jD Ha26.1 hKe10) (jD Ha26.1 hKe11)) (eq_false_of_ne_true hg28)) ?_
     rintro e35 W34 ⟨rfl, hu33⟩; refine ⟨_, rfl, ?_⟩
     have H36 := Ha26.no hu33; clear Ha26
     refine aA ?_
     refine aB rfl (jW rfl) rfl rfl ?_
     refine aI ?_
     refine aK ?_
     refine fK rfl ?_
     refine wp_seq ?_
     refine aN [0] rfl ?_
     refine aA ?_
     refine aB rfl (aR rfl) rfl rfl ?_
     refine aI ?_
     refine aK ?_
     refine wp_ret ?_
     refine gJ ?_
     refine bY ?_
     refine bY ?_
     refine gJ ?_
     refine bY ?_
     have hz37 : dQ eB l k = false := hf1.trans (kW eB l k i1 hlt1 hlu1 (eq_false_of_ne_true hg28))
     have hr38 : dQ eB l k = false := by simp [hg28, hz37]
     refine bI (.inl rfl) Try.results139 rfl ?_
     rw [hr38]
     exact ⟨rfl, H36.1⟩
   ·have hd1 : dQ eB l k = true := hf1.trans (j6 eB l k i1 kO kO)
    refine wp_exit ?_
    refine dX ?_
    refine dX ?_
    refine iH ?_
    refine aK ?_
    refine wp_seq ?_
    refine aN [0] rfl ?_
    refine aA ?_
    refine aB rfl (aR rfl) rfl rfl ?_
    refine aI ?_
    refine aK ?_
    refine wp_ret ?_
    have hr39 : dQ eB l k = true := by simp [hd1]
    refine bI (.inl rfl) Try.results139 rfl ?_
    rw [hr39]
    exact ⟨rfl, H8.1⟩
theorem kY (l k : List GSent) (A A' : Option Addr) (c c' : Nat) (w : World) (h : C aH w A l) (h' : C aH w A' k) : Calls Try.prog 95 #[.slice A l.length c, .slice A' k.length c'] w (fD (dQ eB l k) w) := by
 have nx := h.1
 refine enter 8 [(0, .slice A l.length c), (1, .slice A' k.length c')] Try.func95 rfl kR ?_
 intro xj
 have H1 : St w No [] w := St.enter
 refine wp_seq ?_
 refine aN [0] rfl ?_
 refine aA ?_
 refine aB rfl (aR rfl) rfl rfl ?_
 refine aI ?_
 refine aK ?_
 refine wp_seq ?_
 refine aN [0, 1, 2, 3] rfl ?_
 refine aA ?_
 refine aB rfl (aF rfl) rfl rfl ?_
 refine aA ?_
 refine aB rfl (aF rfl) rfl rfl ?_
 by_cases hg2 : (dQ eB l k) = true
 ·refine aA ?_
  refine bC rfl Try.call139 (vs := #[.slice A l.length c, .slice A' k.length c', .func (.func 140) #[] #[]]) rfl rfl rfl (iF (eqF_Sent l k _ _ _ _ _ (cZ H1.1 h) (cZ H1.1 h')) hg2) ?_
  rintro e5 W4 ⟨rfl, hu3⟩; refine ⟨_, rfl, ?_⟩
  have H6 := H1.no hu3; clear H1
  refine aA ?_
  refine aB rfl (aR rfl) rfl rfl ?_
  refine aI ?_
  refine aK ?_
  refine wp_ret ?_
  have hr7 : dQ eB l k = true := by first | simp [hg2] | simp [hg2]
  refine bI (.inl rfl) Try.results95 rfl ?_
  rw [hr7]
  exact ⟨rfl, H6.1⟩
 ·refine aA ?_
  refine bC rfl Try.call139 (vs := #[.slice A l.length c, .slice A' k.length c', .func (.func 140) #[] #[]]) rfl rfl rfl (iF (eqF_Sent l k _ _ _ _ _ (cZ H1.1 h) (cZ H1.1 h')) (eq_false_of_ne_true hg2)) ?_
  rintro e10 W9 ⟨rfl, hu8⟩; refine ⟨_, rfl, ?_⟩
  have H11 := H1.no hu8; clear H1
  refine aA ?_
  refine aB rfl (aR rfl) rfl rfl ?_
  refine aI ?_
  refine aK ?_
  refine wp_ret ?_
  have hr12 : dQ eB l k = false := by first | simp [hg2] | simp [hg2]
  refine bI (.inl rfl) Try.results95 rfl ?_
  rw [hr12]
  exact ⟨rfl, H11.1⟩
theorem kP (x y : GEntity) (cx cy : List Value) (w : World) (h : aL.K w x cx) (h' : aL.K w y cy) : Calls Try.prog 40 #[.agg cx.toArray, .agg cy.toArray] w (fD (cK x y) w) := by
 obtain ⟨Ax2, cx2, Ax6, cx6, Ax7, cx7, rfl, hlx2, hCx2, hlx6, hCx6, hlx7, hCx7⟩ := jT h
 obtain ⟨Ay2, cy2, Ay6, cy6, Ay7, cy7, rfl, hly2, hCy2, hly6, hCy6, hly7, hCy7⟩ := jT h'
 have nx2 := hCx2.1
 have nx6 := hCx6.1
 have nx7 := hCx7.1
 refine enter 80 [(0, .agg #[.int .i64 (x.Kind), .int .i64 (x.Script), .slice Ax2 x.aM.length cx2, .int .i64 (x.State), .int .i64 (x.Value.Kind), .int .i64 (x.Value.N), .slice Ax6 x.Queue.length cx6, .slice Ax7 x.aG.length cx7, .int .i64 (x.bD), .int .i64 (x.Pos), .int .i64 (x.Count), .int .i64 (x.bJ)]), (1, .agg #[.int .i64 (y.Kind), .int .i64 (y.Script), .slice Ay2 y.aM.length cy2, .int .i64 (y.State), .int .i64 (y.Value.Kind), .int .i64 (y.Value.N), .slice Ay6 y.Queue.length cy6, .slice Ay7 y.aG.length cy7, .int .i64 (y.bD), .int .i64 (y.Pos), .int .i64 (y.Count), .int .i64 (y.bJ)])] Try.func40 rfl kR ?_
 intro xj
 have H1 : St w No [] w := St.enter
 refine wp_seq ?_
 refine aN [0, 1, 2] rfl ?_
 refine aA ?_
 refine fJ rfl rfl rfl rfl H1 ?_
 intro g_0_0 W2 hu3 Ha4; clear H1; clear hu3
 refine aA ?_
 refine fJ rfl rfl rfl rfl Ha4 ?_
 intro g_0_1 W6 hu7 Ha8; clear Ha4; clear hu7
 refine aA ?_
 refine aB rfl (aR rfl) rfl rfl ?_
 refine aI ?_
 refine aK ?_
 refine wp_seq ?_
 refine aN [0, 1, 2, 3, 4, 5, 6, 7, 8, 9, 10, 11, 12, 13, 14, 15, 16, 17, 18, 19, 20, 21, 22, 23, 24, 25, 26, 27, 28, 29, 30, 31, 32, 33, 34, 35, 36, 37, 38, 39, 40, 41, 42, 43, 44, 45, 46, 47, 48, 49, 50, 51, 52, 53, 54, 55, 56, 57, 58, 59, 60, 61, 62, 63, 64, 65, 66, 67, 68, 69, 70, 71, 72, 73, 74, 75] rfl ?_
 refine aA ?_
 refine aB rfl (aU fa_77_0 rfl) rfl rfl ?_
 refine aA ?_
 refine aB rfl (bB (k := 0) (v := .int .i64 (x.Kind)) Try.isAgg3 rfl (Ha8.blk 1 rfl) rfl) rfl rfl ?_
 refine aA ?_
 refine aB rfl (aU fa_77_0 rfl) rfl rfl ?_
 refine aA ?_
 refine aB rfl (bB (k := 0) (v := .int .i64 (y.Kind)) Try.isAgg3 rfl (Ha8.blk 0 rfl) rfl) rfl rfl ?_
 by_cases hg10 : (x.Kind : Int) = y.Kind
 ·refine aA ?_
  refine aB rfl (bX hg10 (bS rfl rfl)) rfl rfl ?_
  refine aA ?_
  refine aB rfl (aF rfl) rfl rfl ?_
  refine aA ?_
  refine bL rfl rfl rfl rfl (fun _ ho11 => ?_)
  refine aB ho11 (aU fa_77_1 rfl) rfl rfl ?_
  refine aA ?_
  refine bL rfl rfl rfl rfl (fun _ ho12 => ?_)
  refine aB ho12 (bB (k := 1) (v := .int .i64 (x.Script)) Try.isAgg3 rfl (Ha8.blk 1 rfl) rfl) rfl rfl ?_
  refine aA ?_
  refine bL rfl rfl rfl rfl (fun _ ho13 => ?_)
  refine aB ho13 (aU fa_77_1 rfl) rfl rfl ?_
  refine aA ?_
  refine bL rfl rfl rfl rfl (fun _ ho14 => ?_)
  refine aB ho14 (bB (k := 1) (v := .int .i64 (y.Script)) Try.isAgg3 rfl (Ha8.blk 0 rfl) rfl) rfl rfl ?_
  by_cases hg15 : (x.Script : Int) = y.Script
  ·refine aA ?_
   refine bL rfl rfl rfl rfl (fun _ ho16 => ?_)
   refine aB ho16 (bX hg15 (bS rfl rfl)) rfl rfl ?_
   refine aA ?_
   refine aB rfl (aX (v := .bool (true)) (b := true) rfl rfl rfl rfl) rfl rfl ?_
   refine aA ?_
   refine aB rfl (aF rfl) rfl rfl ?_
   refine aA ?_
   refine bL rfl rfl rfl rfl (fun _ ho17 => ?_)
   refine aB ho17 (aU fa_77_2 rfl) rfl rfl ?_
   refine aA ?_
   refine bL rfl rfl rfl rfl (fun _ ho18 => ?_)
   refine aB ho18 (bB (k := 2) (v := .slice Ax2 x.aM.length cx2) Try.isAgg74 rfl (Ha8.blk 1 rfl) rfl) rfl rfl ?_
   refine aA ?_
   refine bL rfl rfl rfl rfl (fun _ ho19 => ?_)
   refine aB ho19 (aU fa_77_2 rfl) rfl rfl ?_
   refine aA ?_
   refine bL rfl rfl rfl rfl (fun _ ho20 => ?_)
   refine aB ho20 (bB (k := 2) (v := .slice Ay2 y.aM.length cy2) Try.isAgg74 rfl (Ha8.blk 0 rfl) rfl) rfl rfl ?_
   by_cases hg21 : (dQ eH x.aM y.aM) = true
   ·refine aA ?_
    refine bL rfl rfl rfl rfl (fun _ ho22 => ?_)
    refine bC ho22 Try.call100 (vs := #[.slice Ax2 x.aM.length cx2, .slice Ay2 y.aM.length cy2]) rfl rfl rfl (iF (eqI_Value x.aM y.aM _ _ _ _ _ (cZ Ha8.1 hCx2) (cZ Ha8.1 hCy2)) hg21) ?_
    rintro e25 W24 ⟨rfl, hu23⟩; refine ⟨_, rfl, ?_⟩
    have H26 := Ha8.no hu23; clear Ha8
    refine aA ?_
    refine aB rfl (aX (v := .bool (true)) (b := true) rfl rfl rfl rfl) rfl rfl ?_
    refine aA ?_
    refine aB rfl (aF rfl) rfl rfl ?_
    refine aA ?_
    refine bL rfl rfl rfl rfl (fun _ ho27 => ?_)
    refine aB ho27 (aU fV rfl) rfl rfl ?_
    refine aA ?_
    refine bL rfl rfl rfl rfl (fun _ ho28 => ?_)
    refine aB ho28 (bB (k := 3) (v := .int .i64 (x.State)) Try.isAgg3 rfl (H26.blk 1 rfl) rfl) rfl rfl ?_
    refine aA ?_
    refine bL rfl rfl rfl rfl (fun _ ho29 => ?_)
    refine aB ho29 (aU fV rfl) rfl rfl ?_
    refine aA ?_
    refine bL rfl rfl rfl rfl (fun _ ho30 => ?_)
    refine aB ho30 (bB (k := 3) (v := .int .i64 (y.State)) Try.isAgg3 rfl (H26.blk 0 rfl) rfl) rfl rfl ?_
    by_cases hg31 : (x.State : Int) = y.State
    ·refine aA ?_
     refine bL rfl rfl rfl rfl (fun _ ho32 => ?_)
     refine aB ho32 (bX hg31 (bS rfl rfl)) rfl rfl ?_
     refine aA ?_
     refine aB rfl (aX (v := .bool (true)) (b := true) rfl rfl rfl rfl) rfl rfl ?_
     refine aA ?_
     refine aB rfl (aF rfl) rfl rfl ?_
     refine aA ?_
     refine bL rfl rfl rfl rfl (fun _ ho33 => ?_)
     refine aB ho33 (aU kI rfl) rfl rfl ?_
     refine aA ?_
     refine bL rfl rfl rfl rfl (fun _ ho34 => ?_)
     refine aB ho34 (iL (sub := #[.int .i64 (x.Value.Kind), .int .i64 (x.Value.N)]) Try.isAgg70 Try.sizeOf70 rfl (H26.blk 1 rfl) rfl rfl) rfl rfl ?_
     refine aA ?_
     refine bL rfl rfl rfl rfl (fun _ ho35 => ?_)
     refine aB ho35 (aU kI rfl) rfl rfl ?_
     refine aA ?_
     refine bL rfl rfl rfl rfl (fun _ ho36 => ?_)
     refine aB ho36 (iL (sub := #[.int .i64 (y.Value.Kind), .int .i64 (y.Value.N)]) Try.isAgg70 Try.sizeOf70 rfl (H26.blk 0 rfl) rfl rfl) rfl rfl ?_
     by_cases hg37 : (eH x.Value y.Value) = true
     ·refine aA ?_
      refine bL rfl rfl rfl rfl (fun _ ho38 => ?_)
      refine aB ho38 (fI (b := eH x.Value y.Value) hg37 (rn_eqlA Try.eqGuardType70 rfl rfl (kZ x.Value y.Value _ 9998))) rfl rfl ?_
      refine aA ?_
      refine aB rfl (aX (v := .bool (true)) (b := true) rfl rfl rfl rfl) rfl rfl ?_
      refine aA ?_
      refine aB rfl (aF rfl) rfl rfl ?_
      refine aA ?_
      refine bL rfl rfl rfl rfl (fun _ ho39 => ?_)
      refine aB ho39 (aU jX rfl) rfl rfl ?_
      refine aA ?_
      refine bL rfl rfl rfl rfl (fun _ ho40 => ?_)
      refine aB ho40 (bB (k := 6) (v := .slice Ax6 x.Queue.length cx6) Try.isAgg65 rfl (H26.blk 1 rfl) rfl) rfl rfl ?_
      refine aA ?_
      refine bL rfl rfl rfl rfl (fun _ ho41 => ?_)
      refine aB ho41 (aU jX rfl) rfl rfl ?_
      refine aA ?_
      refine bL rfl rfl rfl rfl (fun _ ho42 => ?_)
      refine aB ho42 (bB (k := 6) (v := .slice Ay6 y.Queue.length cy6) Try.isAgg65 rfl (H26.blk 0 rfl) rfl) rfl rfl ?_
      by_cases hg43 : (dQ eB x.Queue y.Queue) = true
      ·refine aA ?_
       refine bL rfl rfl rfl rfl (fun _ ho44 => ?_)
       refine bC ho44 Try.call95 (vs := #[.slice Ax6 x.Queue.length cx6, .slice Ay6 y.Queue.length cy6]) rfl rfl rfl (iF (kY x.Queue y.Queue _ _ _ _ _ (cZ H26.1 hCx6) (cZ H26.1 hCy6)) hg43) ?_
       rintro e47 W46 ⟨rfl, hu45⟩; refine ⟨_, rfl, ?_⟩
       have H48 := H26.no hu45; clear H26
       refine aA ?_
       refine aB rfl (aX (v := .bool (true)) (b := true) rfl rfl rfl rfl) rfl rfl ?_
       refine aA ?_
       refine aB rfl (aF rfl) rfl rfl ?_
       refine aA ?_
       refine bL rfl rfl rfl rfl (fun _ ho49 => ?_)
       refine aB ho49 (aU jY rfl) rfl rfl ?_
       refine aA ?_
       refine bL rfl rfl rfl rfl (fun _ ho50 => ?_)
       refine aB ho50 (bB (k := 7) (v := .slice Ax7 x.aG.length cx7) Try.isAgg75 rfl (H48.blk 1 rfl) rfl) rfl rfl ?_
       refine aA ?_
       refine bL rfl rfl rfl rfl (fun _ ho51 => ?_)
       refine aB ho51 (aU jY rfl) rfl rfl ?_
       refine aA ?_
       refine bL rfl rfl rfl rfl (fun _ ho52 => ?_)
       refine aB ho52 (bB (k := 7) (v := .slice Ay7 y.aG.length cy7) Try.isAgg75 rfl (H48.blk 0 rfl) rfl) rfl rfl ?_
       by_cases hg53 : (dQ fQ x.aG y.aG) = true
       ·refine aA ?_
        refine bL rfl rfl rfl rfl (fun _ ho54 => ?_)
        refine bC ho54 Try.call101 (vs := #[.slice Ax7 x.aG.length cx7, .slice Ay7 y.aG.length cy7]) rfl rfl rfl (iF (eqI_Asker x.aG y.aG _ _ _ _ _ (cZ H48.1 hCx7) (cZ H48.1 hCy7)) hg53) ?_
        rintro e57 W56 ⟨rfl, hu55⟩; refine ⟨_, rfl, ?_⟩
        have H58 := H48.no hu55; clear H48
        refine aA ?_
        refine aB rfl (aX (v := .bool (true)) (b := true) rfl rfl rfl rfl) rfl rfl ?_
        refine aA ?_
        refine aB rfl (aF rfl) rfl rfl ?_
        refine aA ?_
        refine bL rfl rfl rfl rfl (fun _ ho59 => ?_)
        refine aB ho59 (aU jZ rfl) rfl rfl ?_
        refine aA ?_
        refine bL rfl rfl rfl rfl (fun _ ho60 => ?_)
        refine aB ho60 (bB (k := 8) (v := .int .i64 (x.bD)) Try.isAgg3 rfl (H58.blk 1 rfl) rfl) rfl rfl ?_
        refine aA ?_
        refine bL rfl rfl rfl rfl (fun _ ho61 => ?_)
        refine aB ho61 (aU jZ rfl) rfl rfl ?_
        refine aA ?_
        refine bL rfl rfl rfl rfl (fun _ ho62 => ?_)
        refine aB ho62 (bB (k := 8) (v := .int .i64 (y.bD)) Try.isAgg3 rfl (H58.blk 0 rfl) rfl) rfl rfl ?_
        by_cases hg63 : (x.bD : Int) = y.bD
        ·refine aA ?_
         refine bL rfl rfl rfl rfl (fun _ ho64 => ?_)
         refine aB ho64 (bX hg63 (bS rfl rfl)) rfl rfl ?_
         refine aA ?_
         refine aB rfl (aX (v := .bool (true)) (b := true) rfl rfl rfl rfl) rfl rfl ?_
         refine aA ?_
         refine aB rfl (aF rfl) rfl rfl ?_
         refine aA ?_
         refine bL rfl rfl rfl rfl (fun _ ho65 => ?_)
         refine aB ho65 (aU kT rfl) rfl rfl ?_
         refine aA ?_
         refine bL rfl rfl rfl rfl (fun _ ho66 => ?_)
         refine aB ho66 (bB (k := 9) (v := .int .i64 (x.Pos)) Try.isAgg3 rfl (H58.blk 1 rfl) rfl) rfl rfl ?_
         refine aA ?_
         refine bL rfl rfl rfl rfl (fun _ ho67 => ?_)
         refine aB ho67 (aU kT rfl) rfl rfl ?_
         refine aA ?_
         refine bL rfl rfl rfl rfl (fun _ ho68 => ?_)
         refine aB ho68 (bB (k := 9) (v := .int .i64 (y.Pos)) Try.isAgg3 rfl (H58.blk 0 rfl) rfl) rfl rfl ?_
         by_cases hg69 : (x.Pos : Int) = y.Pos
         ·refine aA ?_
          refine bL rfl rfl rfl rfl (fun _ ho70 => ?_)
          refine aB ho70 (bX hg69 (bS rfl rfl)) rfl rfl ?_
          refine aA ?_
          refine aB rfl (aX (v := .bool (true)) (b := true) rfl rfl rfl rfl) rfl rfl ?_
          refine aA ?_
          refine aB rfl (aF rfl) rfl rfl ?_
          refine aA ?_
          refine bL rfl rfl rfl rfl (fun _ ho71 => ?_)
          refine aB ho71 (aU fa_77_9 rfl) rfl rfl ?_
          refine aA ?_
          refine bL rfl rfl rfl rfl (fun _ ho72 => ?_)
          refine aB ho72 (bB (k := 10) (v := .int .i64 (x.Count)) Try.isAgg3 rfl (H58.blk 1 rfl) rfl) rfl rfl ?_
          refine aA ?_
          refine bL rfl rfl rfl rfl (fun _ ho73 => ?_)
          refine aB ho73 (aU fa_77_9 rfl) rfl rfl ?_
          refine aA ?_
          refine bL rfl rfl rfl rfl (fun _ ho74 => ?_)
          refine aB ho74 (bB (k := 10) (v := .int .i64 (y.Count)) Try.isAgg3 rfl (H58.blk 0 rfl) rfl) rfl rfl ?_
          by_cases hg75 : (x.Count : Int) = y.Count
          ·refine aA ?_
           refine bL rfl rfl rfl rfl (fun _ ho76 => ?_)
           refine aB ho76 (bX hg75 (bS rfl rfl)) rfl rfl ?_
           refine aA ?_
           refine aB rfl (aX (v := .bool (true)) (b := true) rfl rfl rfl rfl) rfl rfl ?_
           refine aA ?_
           refine aB rfl (aF rfl) rfl rfl ?_
           refine aA ?_
           refine bL rfl rfl rfl rfl (fun _ ho77 => ?_)
           refine aB ho77 (aU fa_77_10 rfl) rfl rfl ?_
           refine aA ?_
           refine bL rfl rfl rfl rfl (fun _ ho78 => ?_)
           refine aB ho78 (bB (k := 11) (v := .int .i64 (x.bJ)) Try.isAgg3 rfl (H58.blk 1 rfl) rfl) rfl rfl ?_
           refine aA ?_
           refine bL rfl rfl rfl rfl (fun _ ho79 => ?_)
           refine aB ho79 (aU fa_77_10 rfl) rfl rfl ?_
           refine aA ?_
           refine bL rfl rfl rfl rfl (fun _ ho80 => ?_)
           refine aB ho80 (bB (k := 11) (v := .int .i64 (y.bJ)) Try.isAgg3 rfl (H58.blk 0 rfl) rfl) rfl rfl ?_
           by_cases hg81 : (x.bJ : Int) = y.bJ
           ·refine aA ?_
            refine bL rfl rfl rfl rfl (fun _ ho82 => ?_)
            refine aB ho82 (bX hg81 (bS rfl rfl)) rfl rfl ?_
            refine aA ?_
            refine aB rfl (aX (v := .bool (true)) (b := true) rfl rfl rfl rfl) rfl rfl ?_
            refine aA ?_
            refine aB rfl (aR rfl) rfl rfl ?_
            refine aI ?_
            refine aK ?_
            refine wp_ret ?_
            have hr83 : cK x y = true := by simp [cK, hg10, hg15, hg21, hg31, hg37, hg43, hg53, hg63, hg69, hg75, hg81]
            refine bI (.inl rfl) Try.results40 rfl ?_
            rw [hr83]
            exact ⟨rfl, H58.1⟩
           ·refine aA ?_
            refine bL rfl rfl rfl rfl (fun _ ho84 => ?_)
            refine aB ho84 (bZ hg81 (bS rfl rfl)) rfl rfl ?_
            refine aA ?_
            refine aB rfl (aX (v := .bool (false)) (b := true) rfl rfl rfl rfl) rfl rfl ?_
            refine aA ?_
            refine aB rfl (aR rfl) rfl rfl ?_
            refine aI ?_
            refine aK ?_
            refine wp_ret ?_
            have hr85 : cK x y = false := by simp [cK, hg10, hg15, hg21, hg31, hg37, hg43, hg53, hg63, hg69, hg75, hg81]
            refine bI (.inl rfl) Try.results40 rfl ?_
            rw [hr85]
            exact ⟨rfl, H58.1⟩
          ·refine aA ?_
           refine bL rfl rfl rfl rfl (fun _ ho86 => ?_)
           refine aB ho86 (bZ hg75 (bS rfl rfl)) rfl rfl ?_
           refine aA ?_
           refine aB rfl (aX (v := .bool (false)) (b := true) rfl rfl rfl rfl) rfl rfl ?_
           refine aA ?_
           refine aB rfl (aF rfl) rfl rfl ?_
           refine aA ?_
           refine aD rfl rfl rfl rfl rfl rfl rfl ?_
           refine aA ?_
           refine aD rfl rfl rfl rfl rfl rfl rfl ?_
           refine aA ?_
           refine aD rfl rfl rfl rfl rfl rfl rfl ?_
           refine aA ?_
           refine aD rfl rfl rfl rfl rfl rfl rfl ?_
           refine aA ?_
           refine aD rfl rfl rfl rfl rfl rfl rfl ?_
           refine aA ?_
           refine aB rfl (aX (v := .bool (false)) (b := false) rfl rfl rfl rfl) rfl rfl ?_
           refine aA ?_
           refine aB rfl (aR rfl) rfl rfl ?_
           refine aI ?_
           refine aK ?_
           refine wp_ret ?_
           have hr87 : cK x y = false := by simp [cK, hg10, hg15, hg21, hg31, hg37, hg43, hg53, hg63, hg69, hg75]
           refine bI (.inl rfl) Try.results40 rfl ?_
           rw [hr87]
           exact ⟨rfl, H58.1⟩
         ·refine aA ?_
          refine bL rfl rfl rfl rfl (fun _ ho88 => ?_)
          refine aB ho88 (bZ hg69 (bS rfl rfl)) rfl rfl ?_
          refine aA ?_
          refine aB rfl (aX (v := .bool (false)) (b := true) rfl rfl rfl rfl) rfl rfl ?_
          refine aA ?_
          refine aB rfl (aF rfl) rfl rfl ?_
          refine aA ?_
          refine aD rfl rfl rfl rfl rfl rfl rfl ?_
          refine aA ?_
          refine aD rfl rfl rfl rfl rfl rfl rfl ?_
          refine aA ?_
          refine aD rfl rfl rfl rfl rfl rfl rfl ?_
          refine aA ?_
          refine aD rfl rfl rfl rfl rfl rfl rfl ?_
          refine aA ?_
          refine aD rfl rfl rfl rfl rfl rfl rfl ?_
          refine aA ?_
          refine aB rfl (aX (v := .bool (false)) (b := false) rfl rfl rfl rfl) rfl rfl ?_
          refine aA ?_
          refine aB rfl (aF rfl) rfl rfl ?_
          refine aA ?_
          refine aD rfl rfl rfl rfl rfl rfl rfl ?_
          refine aA ?_
          refine aD rfl rfl rfl rfl rfl rfl rfl ?_
          refine aA ?_
          refine aD rfl rfl rfl rfl rfl rfl rfl ?_
          refine aA ?_
          refine aD rfl rfl rfl rfl rfl rfl rfl ?_
          refine aA ?_
          refine aD rfl rfl rfl rfl rfl rfl rfl ?_
          refine aA ?_
          refine aB rfl (aX (v := .bool (false)) (b := false) rfl rfl rfl rfl) rfl rfl ?_
          refine aA ?_
          refine aB rfl (aR rfl) rfl rfl ?_
          refine aI ?_
          refine aK ?_
          refine wp_ret ?_
          have hr89 : cK x y = false := by simp [cK, hg10, hg15, hg21, hg31, hg37, hg43, hg53, hg63, hg69]
          refine bI (.inl rfl) Try.results40 rfl ?_
          rw [hr89]
          exact ⟨rfl, H58.1⟩
        ·refine aA ?_
         refine bL rfl rfl rfl rfl (fun _ ho90 => ?_)
         refine aB ho90 (bZ hg63 (bS rfl rfl)) rfl rfl ?_
         refine aA ?_
         refine aB rfl (aX (v := .bool (false)) (b := true) rfl rfl rfl rfl) rfl rfl ?_
         refine aA ?_
         refine aB rfl (aF rfl) rfl rfl ?_
         refine aA ?_
         refine aD rfl rfl rfl rfl rfl rfl rfl ?_
         refine aA ?_
         refine aD rfl rfl rfl rfl rfl rfl rfl ?_
         refine aA ?_
         refine aD rfl rfl rfl rfl rfl rfl rfl ?_
         refine aA ?_
         refine aD rfl rfl rfl rfl rfl rfl rfl ?_
         refine aA ?_
         refine aD rfl rfl rfl rfl rfl rfl rfl ?_
         refine aA ?_
         refine aB rfl (aX (v := .bool (false)) (b := false) rfl rfl rfl rfl) rfl rfl ?_
         refine aA ?_
         refine aB rfl (aF rfl) rfl rfl ?_
         refine aA ?_
         refine aD rfl rfl rfl rfl rfl rfl rfl ?_
         refine aA ?_
         refine aD rfl rfl rfl rfl rfl rfl rfl ?_
         refine aA ?_
         refine aD rfl rfl rfl rfl rfl rfl rfl ?_
         refine aA ?_
         refine aD rfl rfl rfl rfl rfl rfl rfl ?_
         refine aA ?_
         refine aD rfl rfl rfl rfl rfl rfl rfl ?_
         refine aA ?_
         refine aB rfl (aX (v := .bool (false)) (b := false) rfl rfl rfl rfl) rfl rfl ?_
         refine aA ?_
         refine aB rfl (aF rfl) rfl rfl ?_
         refine aA ?_
         refine aD rfl rfl rfl rfl rfl rfl rfl ?_
         refine aA ?_
         refine aD rfl rfl rfl rfl rfl rfl rfl ?_
         refine aA ?_
         refine aD rfl rfl rfl rfl rfl rfl rfl ?_
         refine aA ?_
         refine aD rfl rfl rfl rfl rfl rfl rfl ?_
         refine aA ?_
         refine aD rfl rfl rfl rfl rfl rfl rfl ?_
         refine aA ?_
         refine aB rfl (aX (v := .bool (false)) (b := false) rfl rfl rfl rfl) rfl rfl ?_
         refine aA ?_
         refine aB rfl (aR rfl) rfl rfl ?_
         refine aI ?_
         refine aK ?_
         refine wp_ret ?_
         have hr91 : cK x y = false := by simp [cK, hg10, hg15, hg21, hg31, hg37, hg43, hg53, hg63]
         refine bI (.inl rfl) Try.results40 rfl ?_
         rw [hr91]
         exact ⟨rfl, H58.1⟩
       ·refine aA ?_
        refine bL rfl rfl rfl rfl (fun _ ho92 => ?_)
        refine bC ho92 Try.call101 (vs := #[.slice Ax7 x.aG.length cx7, .slice Ay7 y.aG.length cy7]) rfl rfl rfl (iF (eqI_Asker x.aG y.aG _ _ _ _ _ (cZ H48.1 hCx7) (cZ H48.1 hCy7)) (eq_false_of_ne_true hg53)) ?_
        rintro e95 W94 ⟨rfl, hu93⟩; refine ⟨_, rfl, ?_⟩
        have H96 := H48.no hu93; clear H48
        refine aA ?_
        refine aB rfl (aX (v := .bool (false)) (b := true) rfl rfl rfl rfl) rfl rfl ?_
        refine aA ?_
        refine aB rfl (aF rfl) rfl rfl ?_
        refine aA ?_
        refine aD rfl rfl rfl rfl rfl rfl rfl ?_
        refine aA ?_
        refine aD rfl rfl rfl rfl rfl rfl rfl ?_
        refine aA ?_
        refine aD rfl rfl rfl rfl rfl rfl rfl ?_
        refine aA ?_
        refine aD rfl rfl rfl rfl rfl rfl rfl ?_
        refine aA ?_
        refine aD rfl rfl rfl rfl rfl rfl rfl ?_
        refine aA ?_
        refine aB rfl (aX (v := .bool (false)) (b := false) rfl rfl rfl rfl) rfl rfl ?_
        refine aA ?_
        refine aB rfl (aF rfl) rfl rfl ?_
        refine aA ?_
        refine aD rfl rfl rfl rfl rfl rfl rfl ?_
        refine aA ?_
        refine aD rfl rfl rfl rfl rfl rfl rfl ?_
        refine aA ?_
        refine aD rfl rfl rfl rfl rfl rfl rfl ?_
        refine aA ?_
        refine aD rfl rfl rfl rfl rfl rfl rfl ?_
        refine aA ?_
        refine aD rfl rfl rfl rfl rfl rfl rfl ?_
        refine aA ?_
        refine aB rfl (aX (v := .bool (false)) (b := false) rfl rfl rfl rfl) rfl rfl ?_
        refine aA ?_
        refine aB rfl (aF rfl) rfl rfl ?_
        refine aA ?_
        refine aD rfl rfl rfl rfl rfl rfl rfl ?_
        refine aA ?_
        refine aD rfl rfl rfl rfl rfl rfl rfl ?_
        refine aA ?_
        refine aD rfl rfl rfl rfl rfl rfl rfl ?_
        refine aA ?_
        refine aD rfl rfl rfl rfl rfl rfl rfl ?_
        refine aA ?_
        refine aD rfl rfl rfl rfl rfl rfl rfl ?_
        refine aA ?_
        refine aB rfl (aX (v := .bool (false)) (b := false) rfl rfl rfl rfl) rfl rfl ?_
        refine aA ?_
        refine aB rfl (aF rfl) rfl rfl ?_
        refine aA ?_
        refine aD rfl rfl rfl rfl rfl rfl rfl ?_
        refine aA ?_
        refine aD rfl rfl rfl rfl rfl rfl rfl ?_
        refine aA ?_
        refine aD rfl rfl rfl rfl rfl rfl rfl ?_
        refine aA ?_
        refine aD rfl rfl rfl rfl rfl rfl rfl ?_
        refine aA ?_
        refine aD rfl rfl rfl rfl rfl rfl rfl ?_
        refine aA ?_
        refine aB rfl (aX (v := .bool (false)) (b := false) rfl rfl rfl rfl) rfl rfl ?_
        refine aA ?_
        refine aB rfl (aR rfl) rfl rfl ?_
        refine aI ?_
        refine aK ?_
        refine wp_ret ?_
        have hr97 : cK x y = false := by simp [cK, hg10, hg15, hg21, hg31, hg37, hg43, hg53]
        refine bI (.inl rfl) Try.results40 rfl ?_
        rw [hr97]
        exact ⟨rfl, H96.1⟩
      ·refine aA ?_
       refine bL rfl rfl rfl rfl (fun _ ho98 => ?_)
       refine bC ho98 Try.call95 (vs := #[.slice Ax6 x.Queue.length cx6, .slice Ay6 y.Queue.length cy6]) rfl rfl rfl (iF (kY x.Queue y.Queue _ _ _ _ _ (cZ H26.1 hCx6) (cZ H26.1 hCy6)) (eq_false_of_ne_true hg43)) ?_
       rintro e101 W100 ⟨rfl, hu99⟩; refine ⟨_, rfl, ?_⟩
       have H102 := H26.no hu99; clear H26
       refine aA ?_
       refine aB rfl (aX (v := .bool (false)) (b := true) rfl rfl rfl rfl) rfl rfl ?_
       refine aA ?_
       refine aB rfl (aF rfl) rfl rfl ?_
       refine aA ?_
       refine aD rfl rfl rfl rfl rfl rfl rfl ?_
       refine aA ?_
       refine aD rfl rfl rfl rfl rfl rfl rfl ?_
       refine aA ?_
       refine aD rfl rfl rfl rfl rfl rfl rfl ?_
       refine aA ?_
       refine aD rfl rfl rfl rfl rfl rfl rfl ?_
       refine aA ?_
       refine aD rfl rfl rfl rfl rfl rfl rfl ?_
       refine aA ?_
       refine aB rfl (aX (v := .bool (false)) (b := false) rfl rfl rfl rfl) rfl rfl ?_
       refine aA ?_
       refine aB rfl (aF rfl) rfl rfl ?_
       refine aA ?_
       refine aD rfl rfl rfl rfl rfl rfl rfl ?_
       refine aA ?_
       refine aD rfl rfl rfl rfl rfl rfl rfl ?_
       refine aA ?_
       refine aD rfl rfl rfl rfl rfl rfl rfl ?_
       refine aA ?_
       refine aD rfl rfl rfl rfl rfl rfl rfl ?_
       refine aA ?_
       refine aD rfl rfl rfl rfl rfl rfl rfl ?_
       refine aA ?_
       refine aB rfl (aX (v := .bool (false)) (b := false) rfl rfl rfl rfl) rfl rfl ?_
       refine aA ?_
       refine aB rfl (aF rfl) rfl rfl ?_
       refine aA ?_
       refine aD rfl rfl rfl rfl rfl rfl rfl ?_
       refine aA ?_
       refine aD rfl rfl rfl rfl rfl rfl rfl ?_
       refine aA ?_
       refine aD rfl rfl rfl rfl rfl rfl rfl ?_
       refine aA ?_
       refine aD rfl rfl rfl rfl rfl rfl rfl ?_
       refine aA ?_
       refine aD rfl rfl rfl rfl rfl rfl rfl ?_
       refine aA ?_
       refine aB rfl (aX (v := .bool (false)) (b := false) rfl rfl rfl rfl) rfl rfl ?_
       refine aA ?_
       refine aB rfl (aF rfl) rfl rfl ?_
       refine aA ?_
       refine aD rfl rfl rfl rfl rfl rfl rfl ?_
       refine aA ?_
       refine aD rfl rfl rfl rfl rfl rfl rfl ?_
       refine aA ?_
       refine aD rfl rfl rfl rfl rfl rfl rfl ?_
       refine aA ?_
       refine aD rfl rfl rfl rfl rfl rfl rfl ?_
       refine aA ?_
       refine aD rfl rfl rfl rfl rfl rfl rfl ?_
       refine aA ?_
       refine aB rfl (aX (v := .bool (false)) (b := false) rfl rfl rfl rfl) rfl rfl ?_
       refine aA ?_
       refine aB rfl (aF rfl) rfl rfl ?_
       refine aA ?_
       refine aD rfl rfl rfl rfl rfl rfl rfl ?_
       refine aA ?_
       refine aD rfl rfl rfl rfl rfl rfl rfl ?_
       refine aA ?_
       refine aD rfl rfl rfl rfl rfl rfl rfl ?_
       refine aA ?_
       refine aD rfl rfl rfl rfl rfl rfl rfl ?_
       refine aA ?_
       refine aD rfl rfl rfl rfl rfl rfl rfl ?_
       refine aA ?_
       refine aB rfl (aX (v := .bool (false)) (b := false) rfl rfl rfl rfl) rfl rfl ?_
       refine aA ?_
       refine aB rfl (aR rfl) rfl rfl ?_
       refine aI ?_
       refine aK ?_
       refine wp_ret ?_
       have hr103 : cK x y = false := by simp [cK, hg10, hg15, hg21, hg31, hg37, hg43]
       refine bI (.inl rfl) Try.results40 rfl ?_
       rw [hr103]
       exact ⟨rfl, H102.1⟩
     ·refine aA ?_
      refine bL rfl rfl rfl rfl (fun _ ho104 => ?_)
      refine aB ho104 (fI (b := eH x.Value y.Value) (eq_false_of_ne_true hg37) (rn_eqlA Try.eqGuardType70 rfl rfl (kZ x.Value y.Value _ 9998))) rfl rfl ?_
      refine aA ?_
      refine aB rfl (aX (v := .bool (false)) (b := true) rfl rfl rfl rfl) rfl rfl ?_
      refine aA ?_
      refine aB rfl (aF rfl) rfl rfl ?_
      refine aA ?_
      refine aD rfl rfl rfl rfl rfl rfl rfl ?_
      refine aA ?_
      refine aD rfl rfl rfl rfl rfl rfl rfl ?_
      refine aA ?_
      refine aD rfl rfl rfl rfl rfl rfl rfl ?_
      refine aA ?_
      refine aD rfl rfl rfl rfl rfl rfl rfl ?_
      refine aA ?_
      refine aD rfl rfl rfl rfl rfl rfl rfl ?_
      refine aA ?_
      refine aB rfl (aX (v := .bool (false)) (b := false) rfl rfl rfl rfl) rfl rfl ?_
      refine aA ?_
      refine aB rfl (aF rfl) rfl rfl ?_
      refine aA ?_
      refine aD rfl rfl rfl rfl rfl rfl rfl ?_
      refine aA ?_
      refine aD rfl rfl rfl rfl rfl rfl rfl ?_
      refine aA ?_
      refine aD rfl rfl rfl rfl rfl rfl rfl ?_
      refine aA ?_
      refine aD rfl rfl rfl rfl rfl rfl rfl ?_
      refine aA ?_
      refine aD rfl rfl rfl rfl rfl rfl rfl ?_
      refine aA ?_
      refine aB rfl (aX (v := .bool (false)) (b := false) rfl rfl rfl rfl) rfl rfl ?_
      refine aA ?_
      refine aB rfl (aF rfl) rfl rfl ?_
      refine aA ?_
      refine aD rfl rfl rfl rfl rfl rfl rfl ?_
      refine aA ?_
      refine aD rfl rfl rfl rfl rfl rfl rfl ?_
      refine aA ?_
      refine aD rfl rfl rfl rfl rfl rfl rfl ?_
      refine aA ?_
      refine aD rfl rfl rfl rfl rfl rfl rfl ?_
      refine aA ?_
      refine aD rfl rfl rfl rfl rfl rfl rfl ?_
      refine aA ?_
      refine aB rfl (aX (v := .bool (false)) (b := false) rfl rfl rfl rfl) rfl rfl ?_
      refine aA ?_
      refine aB rfl (aF rfl) rfl rfl ?_
      refine aA ?_
      refine aD rfl rfl rfl rfl rfl rfl rfl ?_
      refine aA ?_
      refine aD rfl rfl rfl rfl rfl rfl rfl ?_
      refine aA ?_
      refine aD rfl rfl rfl rfl rfl rfl rfl ?_
      refine aA ?_
      refine aD rfl rfl rfl rfl rfl rfl rfl ?_
      refine aA ?_
      refine aD rfl rfl rfl rfl rfl rfl rfl ?_
      refine aA ?_
      refine aB rfl (aX (v := .bool (false)) (b := false) rfl rfl rfl rfl) rfl rfl ?_
      refine aA ?_
      refine aB rfl (aF rfl) rfl rfl ?_
      refine aA ?_
      refine aD rfl rfl rfl rfl rfl rfl rfl ?_
      refine aA ?_
      refine aD rfl rfl rfl rfl rfl rfl rfl ?_
      refine aA ?_
      refine aD rfl rfl rfl rfl rfl rfl rfl ?_
      refine aA ?_
      refine aD rfl rfl rfl rfl rfl rfl rfl ?_
      refine aA ?_
      refine aD rfl rfl rfl rfl rfl rfl rfl ?_
      refine aA ?_
      refine aB rfl (aX (v := .bool (false)) (b := false) rfl rfl rfl rfl) rfl rfl ?_
      refine aA ?_
      refine aB rfl (aF rfl) rfl rfl ?_
      refine aA ?_
      refine aD rfl rfl rfl rfl rfl rfl rfl ?_
      refine aA ?_
      refine aD rfl rfl rfl rfl rfl rfl rfl ?_
      refine aA ?_
      refine aD rfl rfl rfl rfl rfl rfl rfl ?_
      refine aA ?_
      refine aD rfl rfl rfl rfl rfl rfl rfl ?_
      refine aA ?_
      refine aD rfl rfl rfl rfl rfl rfl rfl ?_
      refine aA ?_
      refine aB rfl (aX (v := .bool (false)) (b := false) rfl rfl rfl rfl) rfl rfl ?_
      refine aA ?_
      refine aB rfl (aR rfl) rfl rfl ?_
      refine aI ?_
      refine aK ?_
      refine wp_ret ?_
      have hr105 : cK x y = false := by simp [cK, hg10, hg15, hg21, hg31, hg37]
      refine bI (.inl rfl) Try.results40 rfl ?_
      rw [hr105]
      exact ⟨rfl, H26.1⟩
    ·refine aA ?_
     refine bL rfl rfl rfl rfl (fun _ ho106 => ?_)
     refine aB ho106 (bZ hg31 (bS rfl rfl)) rfl rfl ?_
     refine aA ?_
     refine aB rfl (aX (v := .bool (false)) (b := true) rfl rfl rfl rfl) rfl rfl ?_
     refine aA ?_
     refine aB rfl (aF rfl) rfl rfl ?_
     refine aA ?_
     refine aD rfl rfl rfl rfl rfl rfl rfl ?_
     refine aA ?_
     refine aD rfl rfl rfl rfl rfl rfl rfl ?_
     refine aA ?_
     refine aD rfl rfl rfl rfl rfl rfl rfl ?_
     refine aA ?_
     refine aD rfl rfl rfl rfl rfl rfl rfl ?_
     refine aA ?_
     refine aD rfl rfl rfl rfl rfl rfl rfl ?_
     refine aA ?_
     refine aB rfl (aX (v := .bool (false)) (b := false) rfl rfl rfl rfl) rfl rfl ?_
     refine aA ?_
     refine aB rfl (aF rfl) rfl rfl ?_
     refine aA ?_
     refine aD rfl rfl rfl rfl rfl rfl rfl ?_
     refine aA ?_
     refine aD rfl rfl rfl rfl rfl rfl rfl ?_
     refine aA ?_
     refine aD rfl rfl rfl rfl rfl rfl rfl ?_
     refine aA ?_
     refine aD rfl rfl rfl rfl rfl rfl rfl ?_
     refine aA ?_
     refine aD rfl rfl rfl rfl rfl rfl rfl ?_
     refine aA ?_
     refine aB rfl (aX (v := .bool (false)) (b := false) rfl rfl rfl rfl) rfl rfl ?_
     refine aA ?_
     refine aB rfl (aF rfl) rfl rfl ?_
     refine aA ?_
     refine aD rfl rfl rfl rfl rfl rfl rfl ?_
     refine aA ?_
     refine aD rfl rfl rfl rfl rfl rfl rfl ?_
     refine aA ?_
     refine aD rfl rfl rfl rfl rfl rfl rfl ?_
     refine aA ?_
     refine aD rfl rfl rfl rfl rfl rfl rfl ?_
     refine aA ?_
     refine aD rfl rfl rfl rfl rfl rfl rfl ?_
     refine aA ?_
     refine aB rfl (aX (v := .bool (false)) (b := false) rfl rfl rfl rfl) rfl rfl ?_
     refine aA ?_
     refine aB rfl (aF rfl) rfl rfl ?_
     refine aA ?_
     refine aD rfl rfl rfl rfl rfl rfl rfl ?_
     refine aA ?_
     refine aD rfl rfl rfl rfl rfl rfl rfl ?_
     refine aA ?_
     refine aD rfl rfl rfl rfl rfl rfl rfl ?_
     refine aA ?_
     refine aD rfl rfl rfl rfl rfl rfl rfl ?_
     refine aA ?_
     refine aD rfl rfl rfl rfl rfl rfl rfl ?_
     refine aA ?_
     refine aB rfl (aX (v := .bool (false)) (b := false) rfl rfl rfl rfl) rfl rfl ?_
     refine aA ?_
     refine aB rfl (aF rfl) rfl rfl ?_
     refine aA ?_
     refine aD rfl rfl rfl rfl rfl rfl rfl ?_
     refine aA ?_
     refine aD rfl rfl rfl rfl rfl rfl rfl ?_
     refine aA ?_
     refine aD rfl rfl rfl rfl rfl rfl rfl ?_
     refine aA ?_
     refine aD rfl rfl rfl rfl rfl rfl rfl ?_
     refine aA ?_
     refine aD rfl rfl rfl rfl rfl rfl rfl ?_
     refine aA ?_
     refine aB rfl (aX (v := .bool (false)) (b := false) rfl rfl rfl rfl) rfl rfl ?_
     refine aA ?_
     refine aB rfl (aF rfl) rfl rfl ?_
     refine aA ?_
     refine aD rfl rfl rfl rfl rfl rfl rfl ?_
     refine aA ?_
     refine aD rfl rfl rfl rfl rfl rfl rfl ?_
     refine aA ?_
     refine aD rfl rfl rfl rfl rfl rfl rfl ?_
     refine aA ?_
     refine aD rfl rfl rfl rfl rfl rfl rfl ?_
     refine aA ?_
     refine aD rfl rfl rfl rfl rfl rfl rfl ?_
     refine aA ?_
     refine aB rfl (aX (v := .bool (false)) (b := false) rfl rfl rfl rfl) rfl rfl ?_
     refine aA ?_
     refine aB rfl (aF rfl) rfl rfl ?_
     refine aA ?_
     refine aD rfl rfl rfl rfl rfl rfl rfl ?_
     refine aA ?_
     refine aD rfl rfl rfl rfl rfl rfl rfl ?_
     refine aA ?_
     refine aD rfl rfl rfl rfl rfl rfl rfl ?_
     refine aA ?_
     refine aD rfl rfl rfl rfl rfl rfl rfl ?_
     refine aA ?_
     refine aD rfl rfl rfl rfl rfl rfl rfl ?_
     refine aA ?_
     refine aB rfl (aX (v := .bool (false)) (b := false) rfl rfl rfl rfl) rfl rfl ?_
     refine aA ?_
     refine aB rfl (aR rfl) rfl rfl ?_
     refine aI ?_
     refine aK ?_
     refine wp_ret ?_
     have hr107 : cK x y = false := by simp [cK, hg10, hg15, hg21, hg31]
     refine bI (.inl rfl) Try.results40 rfl ?_
     rw [hr107]
     exact ⟨rfl, H26.1⟩
   ·refine aA ?_
    refine bL rfl rfl rfl rfl (fun _ ho108 => ?_)
    refine bC ho108 Try.call100 (vs := #[.slice Ax2 x.aM.length cx2, .slice Ay2 y.aM.length cy2]) rfl rfl rfl (iF (eqI_Value x.aM y.aM _ _ _ _ _ (cZ Ha8.1 hCx2) (cZ Ha8.1 hCy2)) (eq_false_of_ne_true hg21)) ?_
    rintro e111 W110 ⟨rfl, hu109⟩; refine ⟨_, rfl, ?_⟩
    have H112 := Ha8.no hu109; clear Ha8
    refine aA ?_
    refine aB rfl (aX (v := .bool (false)) (b := true) rfl rfl rfl rfl) rfl rfl ?_
    refine aA ?_
    refine aB rfl (aF rfl) rfl rfl ?_
    refine aA ?_
    refine aD rfl rfl rfl rfl rfl rfl rfl ?_
    refine aA ?_
    refine aD rfl rfl rfl rfl rfl rfl rfl ?_
    refine aA ?_
    refine aD rfl rfl rfl rfl rfl rfl rfl ?_
    refine aA ?_
    refine aD rfl rfl rfl rfl rfl rfl rfl ?_
    refine aA ?_
    refine aD rfl rfl rfl rfl rfl rfl rfl ?_
    refine aA ?_
    refine aB rfl (aX (v := .bool (false)) (b := false) rfl rfl rfl rfl) rfl rfl ?_
    refine aA ?_
    refine aB rfl (aF rfl) rfl rfl ?_
    refine aA ?_
    refine aD rfl rfl rfl rfl rfl rfl rfl ?_
    refine aA ?_
    refine aD rfl rfl rfl rfl rfl rfl rfl ?_
    refine aA ?_
    refine aD rfl rfl rfl rfl rfl rfl rfl ?_
    refine aA ?_
    refine aD rfl rfl rfl rfl rfl rfl rfl ?_
    refine aA ?_
    refine aD rfl rfl rfl rfl rfl rfl rfl ?_
    refine aA ?_
    refine aB rfl (aX (v := .bool (false)) (b := false) rfl rfl rfl rfl) rfl rfl ?_
    refine aA ?_
    refine aB rfl (aF rfl) rfl rfl ?_
    refine aA ?_
    refine aD rfl rfl rfl rfl rfl rfl rfl ?_
    refine aA ?_
    refine aD rfl rfl rfl rfl rfl rfl rfl ?_
    refine aA ?_
    refine aD rfl rfl rfl rfl rfl rfl rfl ?_
    refine aA ?_
    refine aD rfl rfl rfl rfl rfl rfl rfl ?_
    refine aA ?_
    refine aD rfl rfl rfl rfl rfl rfl rfl ?_
    refine aA ?_
    refine aB rfl (aX (v := .bool (false)) (b := false) rfl rfl rfl rfl) rfl rfl ?_
    refine aA ?_
    refine aB rfl (aF rfl) rfl rfl ?_
    refine aA ?_
    refine aD rfl rfl rfl rfl rfl rfl rfl ?_
    refine aA ?_
    refine aD rfl rfl rfl rfl rfl rfl rfl ?_
    refine aA ?_
    refine aD rfl rfl rfl rfl rfl rfl rfl ?_
    refine aA ?_
    refine aD rfl rfl rfl rfl rfl rfl rfl ?_
    refine aA ?_
    refine aD rfl rfl rfl rfl rfl rfl rfl ?_
    refine aA ?_
    refine aB rfl (aX (v := .bool (false)) (b := false) rfl rfl rfl rfl) rfl rfl ?_
    refine aA ?_
    refine aB rfl (aF rfl) rfl rfl ?_
    refine aA ?_
    refine aD rfl rfl rfl rfl rfl rfl rfl ?_
    refine aA ?_
    refine aD rfl rfl rfl rfl rfl rfl rfl ?_
    refine aA ?_
    refine aD rfl rfl rfl rfl rfl rfl rfl ?_
    refine aA ?_
    refine aD rfl rfl rfl rfl rfl rfl rfl ?_
    refine aA ?_
    refine aD rfl rfl rfl rfl rfl rfl rfl ?_
    refine aA ?_
    refine aB rfl (aX (v := .bool (false)) (b := false) rfl rfl rfl rfl) rfl rfl ?_
    refine aA ?_
    refine aB rfl (aF rfl) rfl rfl ?_
    refine aA ?_
    refine aD rfl rfl rfl rfl rfl rfl rfl ?_
    refine aA ?_
    refine aD rfl rfl rfl rfl rfl rfl rfl ?_
    refine aA ?_
    refine aD rfl rfl rfl rfl rfl rfl rfl ?_
    refine aA ?_
    refine aD rfl rfl rfl rfl rfl rfl rfl ?_
    refine aA ?_
    refine aD rfl rfl rfl rfl rfl rfl rfl ?_
    refine aA ?_
    refine aB rfl (aX (v := .bool (false)) (b := false) rfl rfl rfl rfl) rfl rfl ?_
    refine aA ?_
    refine aB rfl (aF rfl) rfl rfl ?_
    refine aA ?_
    refine aD rfl rfl rfl rfl rfl rfl rfl ?_
    refine aA ?_
    refine aD rfl rfl rfl rfl rfl rfl rfl ?_
    refine aA ?_
    refine aD rfl rfl rfl rfl rfl rfl rfl ?_
    refine aA ?_
    refine aD rfl rfl rfl rfl rfl rfl rfl ?_
    refine aA ?_
    refine aD rfl rfl rfl rfl rfl rfl rfl ?_
    refine aA ?_
    refine aB rfl (aX (v := .bool (false)) (b := false) rfl rfl rfl rfl) rfl rfl ?_
    refine aA ?_
    refine aB rfl (aF rfl) rfl rfl ?_
    refine aA ?_
    refine aD rfl rfl rfl rfl rfl rfl rfl ?_
    refine aA ?_
    refine aD rfl rfl rfl rfl rfl rfl rfl ?_
    refine aA ?_
    refine aD rfl rfl rfl rfl rfl rfl rfl ?_
    refine aA ?_
    refine aD rfl rfl rfl rfl rfl rfl rfl ?_
    refine aA ?_
    refine aD rfl rfl rfl rfl rfl rfl rfl ?_
    refine aA ?_
    refine aB rfl (aX (v := .bool (false)) (b := false) rfl rfl rfl rfl) rfl rfl ?_
    refine aA ?_
    refine aB rfl (aR rfl) rfl rfl ?_
    refine aI ?_
    refine aK ?_
    refine wp_ret ?_
    have hr113 : cK x y = false := by simp [cK, hg10, hg15, hg21]
    refine bI (.inl rfl) Try.results40 rfl ?_
    rw [hr113]
    exact ⟨rfl, H112.1⟩
  ·refine aA ?_
   refine bL rfl rfl rfl rfl (fun _ ho114 => ?_)
   refine aB ho114 (bZ hg15 (bS rfl rfl)) rfl rfl ?_
   refine aA ?_
   refine aB rfl (aX (v := .bool (false)) (b := true) rfl rfl rfl rfl) rfl rfl ?_
   refine aA ?_
   refine aB rfl (aF rfl) rfl rfl ?_
   refine aA ?_
   refine aD rfl rfl rfl rfl rfl rfl rfl ?_
   refine aA ?_
   refine aD rfl rfl rfl rfl rfl rfl rfl ?_
   refine aA ?_
   refine aD rfl rfl rfl rfl rfl rfl rfl ?_
   refine aA ?_
   refine aD rfl rfl rfl rfl rfl rfl rfl ?_
   refine aA ?_
   refine aD rfl rfl rfl rfl rfl rfl rfl ?_
   refine aA ?_
   refine aB rfl (aX (v := .bool (false)) (b := false) rfl rfl rfl rfl) rfl rfl ?_
   refine aA ?_
   refine aB rfl (aF rfl) rfl rfl ?_
   refine aA ?_
   refine aD rfl rfl rfl rfl rfl rfl rfl ?_
   refine aA ?_
   refine aD rfl rfl rfl rfl rfl rfl rfl ?_
   refine aA ?_
   refine aD rfl rfl rfl rfl rfl rfl rfl ?_
   refine aA ?_
   refine aD rfl rfl rfl rfl rfl rfl rfl ?_
   refine aA ?_
   refine aD rfl rfl rfl rfl rfl rfl rfl ?_
   refine aA ?_
   refine aB rfl (aX (v := .bool (false)) (b := false) rfl rfl rfl rfl) rfl rfl ?_
   refine aA ?_
   refine aB rfl (aF rfl) rfl rfl ?_
   refine aA ?_
   refine aD rfl rfl rfl rfl rfl rfl rfl ?_
   refine aA ?_
   refine aD rfl rfl rfl rfl rfl rfl rfl ?_
   refine aA ?_
   refine aD rfl rfl rfl rfl rfl rfl rfl ?_
   refine aA ?_
   refine aD rfl rfl rfl rfl rfl rfl rfl ?_
   refine aA ?_
   refine aD rfl rfl rfl rfl rfl rfl rfl ?_
   refine aA ?_
   refine aB rfl (aX (v := .bool (false)) (b := false) rfl rfl rfl rfl) rfl rfl ?_
   refine aA ?_
   refine aB rfl (aF rfl) rfl rfl ?_
   refine aA ?_
   refine aD rfl rfl rfl rfl rfl rfl rfl ?_
   refine aA ?_
   refine aD rfl rfl rfl rfl rfl rfl rfl ?_
   refine aA ?_
   refine aD rfl rfl rfl rfl rfl rfl rfl ?_
   refine aA ?_
   refine aD rfl rfl rfl rfl rfl rfl rfl ?_
   refine aA ?_
   refine aD rfl rfl rfl rfl rfl rfl rfl ?_
   refine aA ?_
   refine aB rfl (aX (v := .bool (false)) (b := false) rfl rfl rfl rfl) rfl rfl ?_
   refine aA ?_
   refine aB rfl (aF rfl) rfl rfl ?_
   refine aA ?_
   refine aD rfl rfl rfl rfl rfl rfl rfl ?_
   refine aA ?_
   refine aD rfl rfl rfl rfl rfl rfl rfl ?_
   refine aA ?_
   refine aD rfl rfl rfl rfl rfl rfl rfl ?_
   refine aA ?_
   refine aD rfl rfl rfl rfl rfl rfl rfl ?_
   refine aA ?_
   refine aD rfl rfl rfl rfl rfl rfl rfl ?_
   refine aA ?_
   refine aB rfl (aX (v := .bool (false)) (b := false) rfl rfl rfl rfl) rfl rfl ?_
   refine aA ?_
   refine aB rfl (aF rfl) rfl rfl ?_
   refine aA ?_
   refine aD rfl rfl rfl rfl rfl rfl rfl ?_
   refine aA ?_
   refine aD rfl rfl rfl rfl rfl rfl rfl ?_
   refine aA ?_
   refine aD rfl rfl rfl rfl rfl rfl rfl ?_
   refine aA ?_
   refine aD rfl rfl rfl rfl rfl rfl rfl ?_
   refine aA ?_
   refine aD rfl rfl rfl rfl rfl rfl rfl ?_
   refine aA ?_
   refine aB rfl (aX (v := .bool (false)) (b := false) rfl rfl rfl rfl) rfl rfl ?_
   refine aA ?_
   refine aB rfl (aF rfl) rfl rfl ?_
   refine aA ?_
   refine aD rfl rfl rfl rfl rfl rfl rfl ?_
   refine aA ?_
   refine aD rfl rfl rfl rfl rfl rfl rfl ?_
   refine aA ?_
   refine aD rfl rfl rfl rfl rfl rfl rfl ?_
   refine aA ?_
   refine aD rfl rfl rfl rfl rfl rfl rfl ?_
   refine aA ?_
   refine aD rfl rfl rfl rfl rfl rfl rfl ?_
   refine aA ?_
   refine aB rfl (aX (v := .bool (false)) (b := false) rfl rfl rfl rfl) rfl rfl ?_
   refine aA ?_
   refine aB rfl (aF rfl) rfl rfl ?_
   refine aA ?_
   refine aD rfl rfl rfl rfl rfl rfl rfl ?_
   refine aA ?_
   refine aD rfl rfl rfl rfl rfl rfl rfl ?_
   refine aA ?_
   refine aD rfl rfl rfl rfl rfl rfl rfl ?_
   refine aA ?_
   refine aD rfl rfl rfl rfl rfl rfl rfl ?_
   refine aA ?_
   refine aD rfl rfl rfl rfl rfl rfl rfl ?_
   refine aA ?_
   refine aB rfl (aX (v := .bool (false)) (b := false) rfl rfl rfl rfl) rfl rfl ?_
   refine aA ?_
   refine aB rfl (aF rfl) rfl rfl ?_
   refine aA ?_
   refine aD rfl rfl rfl rfl rfl rfl rfl ?_
   refine aA ?_
   refine aD rfl rfl rfl rfl rfl rfl rfl ?_
   refine aA ?_
   refine aD rfl rfl rfl rfl rfl rfl rfl ?_
   refine aA ?_
   refine aD rfl rfl rfl rfl rfl rfl rfl ?_
   refine aA ?_
   refine aD rfl rfl rfl rfl rfl rfl rfl ?_
   refine aA ?_
   refine aB rfl (aX (v := .bool (false)) (b := false) rfl rfl rfl rfl) rfl rfl ?_
   refine aA ?_
   refine aB rfl (aR rfl) rfl rfl ?_
   refine aI ?_
   refine aK ?_
   refine wp_ret ?_
   have hr115 : cK x y = false := by simp [cK, hg10, hg15]
   refine bI (.inl rfl) Try.results40 rfl ?_
   rw [hr115]
   exact ⟨rfl, Ha8.1⟩
 ·refine aA ?_
  refine aB rfl (bZ hg10 (bS rfl rfl)) rfl rfl ?_
  refine aA ?_
  refine aB rfl (aF rfl) rfl rfl ?_
  refine aA ?_
  refine aD rfl rfl rfl rfl rfl rfl rfl ?_
  refine aA ?_
  refine aD rfl rfl rfl rfl rfl rfl rfl ?_
  refine aA ?_
  refine aD rfl rfl rfl rfl rfl rfl rfl ?_
  refine aA ?_
  refine aD rfl rfl rfl rfl rfl rfl rfl ?_
  refine aA ?_
  refine aD rfl rfl rfl rfl rfl rfl rfl ?_
  refine aA ?_
  refine aB rfl (aX (v := .bool (false)) (b := false) rfl rfl rfl rfl) rfl rfl ?_
  refine aA ?_
  refine aB rfl (aF rfl) rfl rfl ?_
  refine aA ?_
  refine aD rfl rfl rfl rfl rfl rfl rfl ?_
  refine aA ?_
  refine aD rfl rfl rfl rfl rfl rfl rfl ?_
  refine aA ?_
  refine aD rfl rfl rfl rfl rfl rfl rfl ?_
  refine aA ?_
  refine aD rfl rfl rfl rfl rfl rfl rfl ?_
  refine aA ?_
  refine aD rfl rfl rfl rfl rfl rfl rfl ?_
  refine aA ?_
  refine aB rfl (aX (v := .bool (false)) (b := false) rfl rfl rfl rfl) rfl rfl ?_
  refine aA ?_
  refine aB rfl (aF rfl) rfl rfl ?_
  refine aA ?_
  refine aD rfl rfl rfl rfl rfl rfl rfl ?_
  refine aA ?_
  refine aD rfl rfl rfl rfl rfl rfl rfl ?_
  refine aA ?_
  refine aD rfl rfl rfl rfl rfl rfl rfl ?_
  refine aA ?_
  refine aD rfl rfl rfl rfl rfl rfl rfl ?_
  refine aA ?_
  refine aD rfl rfl rfl rfl rfl rfl rfl ?_
  refine aA ?_
  refine aB rfl (aX (v := .bool (false)) (b := false) rfl rfl rfl rfl) rfl rfl ?_
  refine aA ?_
  refine aB rfl (aF rfl) rfl rfl ?_
  refine aA ?_
  refine aD rfl rfl rfl rfl rfl rfl rfl ?_
  refine aA ?_
  refine aD rfl rfl rfl rfl rfl rfl rfl ?_
  refine aA ?_
  refine aD rfl rfl rfl rfl rfl rfl rfl ?_
  refine aA ?_
  refine aD rfl rfl rfl rfl rfl rfl rfl ?_
  refine aA ?_
  refine aD rfl rfl rfl rfl rfl rfl rfl ?_
  refine aA ?_
  refine aB rfl (aX (v := .bool (false)) (b := false) rfl rfl rfl rfl) rfl rfl ?_
  refine aA ?_
  refine aB rfl (aF rfl) rfl rfl ?_
  refine aA ?_
  refine aD rfl rfl rfl rfl rfl rfl rfl ?_
  refine aA ?_
  refine aD rfl rfl rfl rfl rfl rfl rfl ?_
  refine aA ?_
  refine aD rfl rfl rfl rfl rfl rfl rfl ?_
  refine aA ?_
  refine aD rfl rfl rfl rfl rfl rfl rfl ?_
  refine aA ?_
  refine aD rfl rfl rfl rfl rfl rfl rfl ?_
  refine aA ?_
  refine aB rfl (aX (v := .bool (false)) (b := false) rfl rfl rfl rfl) rfl rfl ?_
  refine aA ?_
  refine aB rfl (aF rfl) rfl rfl ?_
  refine aA ?_
  refine aD rfl rfl rfl rfl rfl rfl rfl ?_
  refine aA ?_
  refine aD rfl rfl rfl rfl rfl rfl rfl ?_
  refine aA ?_
  refine aD rfl rfl rfl rfl rfl rfl rfl ?_
  refine aA ?_
  refine aD rfl rfl rfl rfl rfl rfl rfl ?_
  refine aA ?_
  refine aD rfl rfl rfl rfl rfl rfl rfl ?_
  refine aA ?_
  refine aB rfl (aX (v := .bool (false)) (b := false) rfl rfl rfl rfl) rfl rfl ?_
  refine aA ?_
  refine aB rfl (aF rfl) rfl rfl ?_
  refine aA ?_
  refine aD rfl rfl rfl rfl rfl rfl rfl ?_
  refine aA ?_
  refine aD rfl rfl rfl rfl rfl rfl rfl ?_
  refine aA ?_
  refine aD rfl rfl rfl rfl rfl rfl rfl ?_
  refine aA ?_
  refine aD rfl rfl rfl rfl rfl rfl rfl ?_
  refine aA ?_
  refine aD rfl rfl rfl rfl rfl rfl rfl ?_
  refine aA ?_
  refine aB rfl (aX (v := .bool (false)) (b := false) rfl rfl rfl rfl) rfl rfl ?_
  refine aA ?_
  refine aB rfl (aF rfl) rfl rfl ?_
  refine aA ?_
  refine aD rfl rfl rfl rfl rfl rfl rfl ?_
  refine aA ?_
  refine aD rfl rfl rfl rfl rfl rfl rfl ?_
  refine aA ?_
  refine aD rfl rfl rfl rfl rfl rfl rfl ?_
  refine aA ?_
  refine aD rfl rfl rfl rfl rfl rfl rfl ?_
  refine aA ?_
  refine aD rfl rfl rfl rfl rfl rfl rfl ?_
  refine aA ?_
  refine aB rfl (aX (v := .bool (false)) (b := false) rfl rfl rfl rfl) rfl rfl ?_
  refine aA ?_
  refine aB rfl (aF rfl) rfl rfl ?_
  refine aA ?_
  refine aD rfl rfl rfl rfl rfl rfl rfl ?_
  refine aA ?_
  refine aD rfl rfl rfl rfl rfl rfl rfl ?_
  refine aA ?_
  refine aD rfl rfl rfl rfl rfl rfl rfl ?_
  refine aA ?_
  refine aD rfl rfl rfl rfl rfl rfl rfl ?_
  refine aA ?_
  refine aD rfl rfl rfl rfl rfl rfl rfl ?_
  refine aA ?_
  refine aB rfl (aX (v := .bool (false)) (b := false) rfl rfl rfl rfl) rfl rfl ?_
  refine aA ?_
  refine aB rfl (aF rfl) rfl rfl ?_
  refine aA ?_
  refine aD rfl rfl rfl rfl rfl rfl rfl ?_
  refine aA ?_
  refine aD rfl rfl rfl rfl rfl rfl rfl ?_
  refine aA ?_
  refine aD rfl rfl rfl rfl rfl rfl rfl ?_
  refine aA ?_
  refine aD rfl rfl rfl rfl rfl rfl rfl ?_
  refine aA ?_
  refine aD rfl rfl rfl rfl rfl rfl rfl ?_
  refine aA ?_
  refine aB rfl (aX (v := .bool (false)) (b := false) rfl rfl rfl rfl) rfl rfl ?_
  refine aA ?_
  refine aB rfl (aR rfl) rfl rfl ?_
  refine aI ?_
  refine aK ?_
  refine wp_ret ?_
  have hr116 : cK x y = false := by simp [cK, hg10]
  refine bI (.inl rfl) Try.results40 rfl ?_
  rw [hr116]
  exact ⟨rfl, Ha8.1⟩
end Go.Proofs.YtdfipdpeilegpaaFam

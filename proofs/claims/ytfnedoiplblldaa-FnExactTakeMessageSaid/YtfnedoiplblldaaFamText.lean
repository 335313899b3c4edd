/- The text that marks a name. No conditions beyond the sizes that the contracts name. -/
import Derived.Test.YtfnedoiplblldaaProg
import Derived.Test.YtfnedoiplblldaaSep2
import Derived.Test.YtfnedoiplblldaaLst
import Derived.WalkKit
import Derived.KernelRfl
import Derived.RowKit3
import Derived.Deep.LoopGhost
import Derived.Deep.QuietTactic
import Derived.BigQuiet
import Derived.StillTailTactics
import Derived.Test.YtfnedoiplblldaaK
import Derived.Deep.RegionHeld3
namespace Go.Proofs.YtfnedoiplblldaaFam
open Go.RowKit Go.Proofs.YtfnedoiplblldaaSep Go.Proofs.YtfnedoiplblldaaT Go.Proofs.YtfnedoiplblldaaK
set_option linter.unusedVariables false
set_option linter.unusedSimpArgs false
theorem dgs_zero : dgs 0 = [] := by rw [dgs]; simp
theorem dgs_pos (n : Nat) (h : 0 < n) : dgs n = dgs (n / 10) ++ [UInt8.ofNat (48 + n % 10)] := by rw [dgs, if_neg (by omega)]
theorem dgs_len (j : Nat) : ∀ n : Nat, n < 10 ^ j → (dgs n).length ≤ j := by
  induction j with
  | zero => intro n h; rw [show n = 0 by omega, dgs_zero]; simp
  | succ j ih =>
    intro n h
    rcases Nat.eq_zero_or_pos n with rfl | hp
    · rw [dgs_zero]; simp
    · rw [dgs_pos n hp, List.length_append]
      have := ih (n / 10) (by rw [Nat.pow_succ] at h; omega)
      simp only [List.length_singleton]
      omega
theorem ba_ext {a b : ByteArray} (h : a.data.toList = b.data.toList) : a = b := by
  cases a; cases b
  congr 1
  exact Array.toList_inj.1 h
theorem run_one_byte {src dst e : TypeId} (hs : Try.prog.underlying src = some (.slice e)) (he : Try.prog.underlying e = some (.int .u8)) (hd : Try.prog.underlying dst = some .string) (W : World) (v : Int) :
    (convert src dst (.slice (some ⟨W.heap.size, 0, none⟩) 1 1)).run Try.prog (W.alloc (.cells #[.int .u8 v] e)) = .ok (.string ⟨#[UInt8.ofNat v.toNat]⟩) (W.alloc (.cells #[.int .u8 v] e)) := by
  have h := run_loadCells_list (P := Try.prog) (W.alloc (.cells #[.int .u8 v] e)) ⟨W.heap.size, 0, none⟩ [.int .u8 v] (fun j u hj => by
    rw [add_plain, cell_of_row _ _ _ _ _ _ (heap_alloc_new W (.cells #[.int .u8 v] e))]
    simpa using hj)
  rw [run_convert_bytes_string _ _ _ e _ _ _ hs he hd, run_bytesToString _ _ 1 1 [v] h]
  rfl
set_option maxHeartbeats 1000000 in
set_option maxRecDepth 100000 in
theorem markText_c (k : Int) (w : World) (h0 : 0 ≤ k) (h1 : k ≤ 4611686018427387904) : Calls Try.prog 109 #[.int .i64 k] w (RetString (mtx k) w) := by
  obtain ⟨n, rfl⟩ := Int.eq_ofNat_of_zero_le h0
  rcases Nat.eq_zero_or_pos n with rfl | hn
  · have hm : Sd (mtx ((0 : Nat) : Int) = ⟨#[109, 48]⟩) := ⟨by simp [YtfnedoiplblldaaT.mtx]⟩
    go_enter Try.func109, Try.ntmps109
    go_wp2
    go_ret
    exact ⟨congrArg (fun z => Ending.returned (.string z)) hm.out.symm, Upd.refl _ _⟩
  · have hm : Sd (mtx (n : Int) = ⟨⟨109 :: dgs n⟩⟩) := ⟨by simp only [YtfnedoiplblldaaT.mtx, Int.toNat_natCast]; rw [if_neg (by omega)]⟩
    have hdl : (dgs n).length ≤ 19 := dgs_len 19 n (by have : (10 : Nat) ^ 19 = 10000000000000000000 := (by decide); omega)
    have hcv := run_one_byte Try.underlying224 Try.underlying5 Try.underlying9
    go_enter Try.func109, Try.ntmps109
    go_wp2
    go_loopg [0, 3] n (fun r a b wr => ∃ (m : Nat) (s : ByteArray), m ≤ r ∧ m ≤ n ∧ a = .int .i64 m ∧ b = .string s ∧ Sd (dgs m ++ s.data.toList = dgs n) ∧ Sd (Upd No w wr))
    case atStart => exact ⟨n, ⟨#[]⟩, Nat.le_refl _, Nat.le_refl _, rfl, rfl, ⟨by simp⟩, ⟨Upd.refl _ _⟩⟩
    case round =>
      obtain ⟨m, s, hm', hmn, rfl, rfl, HD, HU⟩ := hrel
      have hsz : s.size ≤ 19 := by
        have h2 := congrArg List.length HD.out
        rw [List.length_append] at h2
        have h3 : s.data.toList.length = s.size := by rw [Array.length_toList]; rfl
        omega
      by_cases hp : 0 < m
      · have hd := Sd.mk (dgs_pos m hp)
        go_wp2
        go_roundg (gk - 1)
        case measure => omega
        case rel =>
          refine ⟨m / 10, _, by omega, by omega, by go_num, rfl, ⟨?_⟩, ⟨HU.out.alloc _⟩⟩
          have h2 := HD.out
          rw [hd.out] at h2
          rw [← h2]
          have h3 : (48 + (m : Int) % 10).toNat = 48 + m % 10 := by omega
          simp [ByteArray.data_append, h3]
      · go_wp2
        go_ret
        have h2 := HD.out
        rw [show m = 0 by omega, dgs_zero] at h2
        have h3 : (({ data := #[109] } : ByteArray) ++ s) = ⟨⟨109 :: dgs n⟩⟩ := ba_ext (by rw [← h2]; simp [ByteArray.data_append])
        exact ⟨congrArg (fun z => Ending.returned (.string z)) (h3.trans hm.out.symm), HU.out⟩
end Go.Proofs.YtfnedoiplblldaaFam

/- impl.PutMessage. No conditions beyond the sizes that the contracts name. -/
import Derived.Test.YtliejlcoeoiajaaProg
import Derived.Test.YtliejlcoeoiajaaSep2
import Derived.Test.YtliejlcoeoiajaaLst
import Derived.WalkKit
import Derived.KernelRfl
import Derived.RowKit3
import Derived.Deep.LoopGhost
import Derived.Deep.QuietTactic
import Derived.BigQuiet
import Derived.StillTailTactics
import Derived.Test.YtliejlcoeoiajaaK
import Derived.Deep.RegionHeld3
import Derived.Deep.RegionLaw
import Derived.Test.YtliejlcoeoiajaaPut
import Derived.Test.YtliejlcoeoiajaaCopy3
namespace Go.Proofs.YtliejlcoeoiajaaFam
open Go.RowKit Go.Proofs.YtliejlcoeoiajaaSep Go.Proofs.YtliejlcoeoiajaaT Go.Proofs.YtliejlcoeoiajaaK
set_option linter.unusedVariables false
set_option linter.unusedSimpArgs false
/-- A row and a bool, made. -/
def RetRowB {α : Type} (d : Kn α) (ty : Nat) (xs : List α) (b : Bool) (w : World) (e : Ending) (w' : World) : Prop := ∃ v, e = .returned (.tuple #[v, .bool b]) ∧ R d ty w' (New w) v xs ∧ Upd No w w'
set_option maxHeartbeats 1000000 in
set_option maxRecDepth 100000 in
theorem putMessage2_i (l : List GChannel) (a b : Int) (m : GMessage) (A : Option Addr) (c : Nat) (cs : List Value) (w : World) (h : C ki_Channel w A l) (hm : ki_Message.K w m cs) (hn : l.length ≤ 1048576) (hb : ∀ y ∈ l, y.List.length ≤ 1048576 ∧ ∀ z ∈ y.List, z.Args.length ≤ 1048576) (hna : m.Args.length ≤ 1048576) :
    Calls Try.prog 30 #[.slice A l.length c, .int .i64 a, .int .i64 b, .agg cs.toArray] w (RetRowB ki_Channel 120 (putC a b m l) (putOk a b l) w) := by
  obtain ⟨A5, c5, rfl, hl5, hC5⟩ := ki_Message_K hm
  have HC5 := Sd.mk hC5
  have H := Sd.mk h
  clear h hm hC5
  go_enter Try.func30, Try.ntmps30
  go_wp2_with fail
  refine gen_boxC ?_
  intro w0 hB hU0
  with_reducible refine (copiedChannels_i l _ _ _ (C_upd hU0 H.out) hn hb).mono ?_
  rintro e w1 ⟨v, rfl, hR, hu⟩
  obtain ⟨B, z, rfl⟩ := R_slice hR
  have HB := Sd.mk (hB.no hu)
  have HU0 := Sd.mk hU0
  have HU1 := Sd.mk (hU0.then hu)
  have HR := Sd.mk (R_lt hR)
  clear hu hR hU0 hB
  have c0' := HB.out.at 0 (v := .int .i64 m.Kind) rfl
  have c1' := HB.out.at 1 (v := .int .i64 m.Pos) rfl
  have c2' := HB.out.at 2 (v := .int .i64 m.Answer) rfl
  have c3' := HB.out.at 3 (v := .int .i64 m.Question) rfl
  have c4' := HB.out.at 4 (v := .string m.Name) rfl
  have c5' := HB.out.at 5 (v := .slice A5 m.Args.length c5) rfl
  have c6' := HB.out.at 6 (v := .int .i64 m.Value.Kind) rfl
  have c7' := HB.out.at 7 (v := .int .i64 m.Value.N) rfl
  have c8' := HB.out.at 8 (v := .int .i64 m.Count) rfl
  have c9' := HB.out.at 9 (v := .int .i64 m.Tag.Vat) rfl
  have c10' := HB.out.at 10 (v := .int .i64 m.Tag.Entity) rfl
  have c11' := HB.out.at 11 (v := .int .i64 m.Tag.Seq) rfl
  go_wp2_with fail
  with_reducible refine (copied_Message m _ _ (ki_Message_Kmk _ _ hl5 (C_upd HU1.out HC5.out)) hna).mono ?_
  rintro e w2 ⟨cs, rfl, hM, hu⟩
  have HU2 := Sd.mk (HU1.out.then hu)
  have HR2 := Sd.mk (R_no hu HR.out)
  have HM2 := Sd.mk hM
  have hz1 := HU1.out.size
  have hz0 := HU0.out.size
  clear hu hM HR c0' c1' c2' c3' c4' c5' c6' c7' c8' c9' c10' c11'
  go_wp2_with fail
  with_reducible refine (putMessage_i l a b m _ _ _ _ cs _ HR2.out HM2.out (fun b q q' => by simp only [New] at q; omega) hn).mono ?_
  rintro e w3 ⟨rfl, hR, hu⟩
  have hz2 := HU2.out.size
  have HR3 := Sd.mk (R_mono (F' := New w) (fun b q => by simp only [New] at q ⊢; omega) hR)
  have HU3 : Sd (Upd No w w3) := Sd.mk (HU2.out.trans hu (fun _ _ q => q) (fun b hb q => absurd hb (by simp only [New] at q; omega)))
  clear hu hR
  go_wp2
  refine bodyPost_ret (v := .tuple #[.slice B l.length z, .bool (putOk a b l)]) (by simp [results, Try.results30, go_sem]) rfl ⟨_, rfl, HR3.out, HU3.out⟩
end Go.Proofs.YtliejlcoeoiajaaFam

/- More on lists: folds and tests from a place on. No conditions. -/
import Derived.Test.YtfnedoiplblldaaLst
namespace Go.Proofs.YtfnedoiplblldaaSep
theorem any_no {α : Type} (f : α → Bool) (l : List α) (i : Nat) (h : i < l.length) (hf : f l[i] = false) : (l.drop i).any f = (l.drop (i + 1)).any f := by
  rw [List.drop_eq_getElem_cons h, List.any_cons, hf, Bool.false_or]
theorem any_yes {α : Type} (f : α → Bool) (l : List α) (i : Nat) (h : i < l.length) (hf : f l[i] = true) : (l.drop i).any f = true := by
  rw [List.drop_eq_getElem_cons h, List.any_cons, hf, Bool.true_or]
theorem any_end {α : Type} (f : α → Bool) (l : List α) (i : Nat) (h : l.length ≤ i) : (l.drop i).any f = false := by
  rw [List.drop_eq_nil_of_le h]; rfl
theorem foldl_step {α β : Type} (f : β → α → β) (z : β) (l : List α) (i : Nat) (h : i < l.length) : (l.take (i + 1)).foldl f z = f ((l.take i).foldl f z) l[i] := by
  rw [List.take_succ_eq_append_getElem h, List.foldl_append]; rfl
end Go.Proofs.YtfnedoiplblldaaSep

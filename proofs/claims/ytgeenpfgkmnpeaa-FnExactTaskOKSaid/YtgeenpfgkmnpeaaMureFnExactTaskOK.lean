/- Proved: the pure statement behind the law FnExactTaskOK of the given program: for every input that the row lets in, the program's answer and the reference's agree and the law returns true. Conditions: none beyond the row's own. -/
import Derived.Test.YtgeenpfgkmnpeaaMFnExactTaskOKx1
set_option linter.unusedVariables false
set_option linter.unusedSimpArgs false
namespace Go.Proofs.Ytgeenpfgkmnpeaa.Pure
open Go.RowKit Go.Proofs.Ytgeenpfgkmnpeaa.MFnExactTaskOK Go.Proofs.YtgeenpfgkmnpeaaW.PrintWords Go.Proofs.YtgeenpfgkmnpeaaW.PrintLast

theorem within_eq (a lo hi : Int) : impl_within.f a lo hi = some (decide (lo ≤ a ∧ a ≤ hi)) := by
  unfold impl_within.f
  by_cases h : a ≥ lo
  · have h' : lo ≤ a := h
    simp [h, h']
  · have h' : ¬ lo ≤ a := h
    simp [h, h']

theorem l01In_eq (a lo hi : Int) : spec_l01In.f a lo hi = some (decide (lo ≤ a ∧ a ≤ hi)) := by
  unfold spec_l01In.f
  by_cases h : a ≥ lo
  · have h' : lo ≤ a := h
    simp [h, h']
  · have h' : ¬ lo ≤ a := h
    simp [h, h']

theorem task_j (k : Nat) (x : Bool) (a b c d e f : Int) : impl_TaskOK.j0 k x a b c d e f = spec_TaskOK.j0 k x a b c d e f := by
  cases k with
  | zero => simp only [impl_TaskOK.j0, spec_TaskOK.j0]
  | succ k => simp only [impl_TaskOK.j0, spec_TaskOK.j0, within_eq, l01In_eq]
theorem task_same (k : Nat) (a b c d e f : Int) : impl_TaskOK.f k a b c d e f = spec_TaskOK.f k a b c d e f := by
  unfold impl_TaskOK.f spec_TaskOK.f
  simp only [within_eq, l01In_eq, task_j]
theorem task_some (a b c d e f : Int) : ∃ r, spec_TaskOK.f 1 a b c d e f = some r := by
  unfold spec_TaskOK.f
  simp only [l01In_eq, Option.bind_some, spec_TaskOK.j0]
  repeat' split
  all_goals exact ⟨_, rfl⟩
theorem FnExactTaskOK : laws_FnExactTaskOK.Pure := by
  intro x _
  obtain ⟨r, hr⟩ := task_some x.f0 x.f1 x.f2 x.f3 x.f4 x.f5
  refine ⟨1, ?_⟩
  unfold laws_FnExactTaskOK.f laws_toTask.f
  simp only [Option.bind_some, task_same, hr, bne_self_eq_false]
  rfl


end Go.Proofs.Ytgeenpfgkmnpeaa.Pure

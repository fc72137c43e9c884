/- Proved: the pure statement behind the law FnExactChecked of the given program: for every input that the row lets in, the program's answer and the reference's agree and the law returns true. Conditions: none beyond the row's own. -/
import Derived.Test.YtohnenadkilaiaaPFnExactCheckedx1
set_option linter.unusedVariables false
set_option linter.unusedSimpArgs false
namespace Go.Proofs.Ytohnenadkilaiaa.Pure
open Go.RowKit Go.Proofs.Ytohnenadkilaiaa.PFnExactChecked Go.Proofs.YtohnenadkilaiaaW.PrintWords Go.Proofs.YtohnenadkilaiaaW.PrintLast

theorem within_eq (a lo hi : Int) : impl_within.f a lo hi = some (decide (lo ≤ a ∧ a ≤ hi)) := by
  unfold impl_within.f
  by_cases h : a ≥ lo
  · have h' : lo ≤ a := h
    simp [h, h']
  · have h' : ¬ lo ≤ a := h
    simp [h, h']

theorem l01In_eq (a lo hi : Int) : spec_l01In.f a lo hi = some (decide (lo ≤ a ∧ a ≤ hi)) := by
  unfold spec_l01In.f
  by_cases h : a ≥ lo
  · have h' : lo ≤ a := h
    simp [h, h']
  · have h' : ¬ lo ≤ a := h
    simp [h, h']

theorem isValue_eq (a : Int) : impl_isValue.f a = some (decide (-2147483648 ≤ a ∧ a ≤ 2147483647)) := by
  unfold impl_isValue.f; rw [within_eq]; rfl
theorem l01Int_eq (a : Int) : spec_l01Int.f a = some (decide (-2147483648 ≤ a ∧ a ≤ 2147483647)) := by
  unfold spec_l01Int.f; rw [l01In_eq]; rfl
theorem checked_same (op a b : Int) : impl_checked.f op a b = spec_l01Checked.f op a b := by
  unfold impl_checked.f spec_l01Checked.f
  simp only [isValue_eq, l01Int_eq]
theorem checked_some (op a b : Int) : ∃ r, spec_l01Checked.f op a b = some r := by
  unfold spec_l01Checked.f
  simp only [l01Int_eq, Option.bind_some]
  repeat' split
  all_goals exact ⟨_, rfl⟩

theorem FnExactChecked : laws_FnExactChecked.Pure := by
  intro op a b _ _ _
  obtain ⟨r, hr⟩ := checked_some op a b
  unfold laws_FnExactChecked.f spec_Checked.f impl_Checked.f
  simp only [within_eq, l01In_eq, isValue_eq, l01Int_eq, Option.bind_some, checked_same, hr]
  generalize decide (0 ≤ op ∧ op ≤ 3) = x
  generalize decide (-2147483648 ≤ a ∧ a ≤ 2147483647) = y
  generalize decide (-2147483648 ≤ b ∧ b ≤ 2147483647) = z
  cases x <;> cases y <;> cases z <;> simp


end Go.Proofs.Ytohnenadkilaiaa.Pure

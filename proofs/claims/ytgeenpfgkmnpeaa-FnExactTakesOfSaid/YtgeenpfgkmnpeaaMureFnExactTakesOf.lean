/- Proved: the pure statement behind the law FnExactTakesOf of the given program: for every input that the row lets in, the program's answer and the reference's agree and the law returns true. Conditions: none beyond the row's own. -/
import Derived.Test.YtgeenpfgkmnpeaaMFnExactTakesOfx1
set_option linter.unusedVariables false
set_option linter.unusedSimpArgs false
namespace Go.Proofs.Ytgeenpfgkmnpeaa.Pure
open Go.RowKit Go.Proofs.Ytgeenpfgkmnpeaa.MFnExactTakesOf Go.Proofs.YtgeenpfgkmnpeaaW.PrintWords Go.Proofs.YtgeenpfgkmnpeaaW.PrintLast

theorem within_eq (a lo hi : Int) : impl_within.f a lo hi = some (decide (lo ≤ a ∧ a ≤ hi)) := by
  unfold impl_within.f
  by_cases h : a ≥ lo
  · have h' : lo ≤ a := h
    simp [h, h']
  · have h' : ¬ lo ≤ a := h
    simp [h, h']

theorem l01In_eq (a lo hi : Int) : spec_l01In.f a lo hi = some (decide (lo ≤ a ∧ a ≤ hi)) := by
  unfold spec_l01In.f
  by_cases h : a ≥ lo
  · have h' : lo ≤ a := h
    simp [h, h']
  · have h' : ¬ lo ≤ a := h
    simp [h, h']

theorem FnExactTakesOf : laws_FnExactTakesOf.Pure := by
  intro a _
  have go : ∀ (b : ByteArray) (c : Int), spec_TakesOf.f a = some (b, c) → impl_TakesOf.f a = some (b, c) → laws_FnExactTakesOf.f a = some true := by
    intro b c h1 h2
    unfold laws_FnExactTakesOf.f
    rw [h1, h2]
    simp
  by_cases h : 1 ≤ a ∧ a ≤ 4
  · have hh : a = 1 ∨ a = 2 ∨ a = 3 ∨ a = 4 := by omega
    rcases hh with rfl | rfl | rfl | rfl
    · refine go ⟨#[98, 105]⟩ 0 ?_ rfl
      unfold spec_TakesOf.f spec_l03Kind.f spec_l03Takes.f
      simp only [l01In_eq, Option.bind_some]
      rw [show wrap64 ((1 : Int) - 1) = 0 by unfold wrap64; omega]
      rfl
    · refine go ⟨#[98, 98, 105]⟩ 0 ?_ rfl
      unfold spec_TakesOf.f spec_l03Kind.f spec_l03Takes.f
      simp only [l01In_eq, Option.bind_some]
      rw [show wrap64 ((2 : Int) - 1) = 1 by unfold wrap64; omega]
      rfl
    · refine go ⟨#[98]⟩ 0 ?_ rfl
      unfold spec_TakesOf.f spec_l03Kind.f spec_l03Takes.f
      simp only [l01In_eq, Option.bind_some]
      rw [show wrap64 ((3 : Int) - 1) = 2 by unfold wrap64; omega]
      rfl
    · refine go ⟨#[98, 98]⟩ 0 ?_ rfl
      unfold spec_TakesOf.f spec_l03Kind.f spec_l03Takes.f
      simp only [l01In_eq, Option.bind_some]
      rw [show wrap64 ((4 : Int) - 1) = 3 by unfold wrap64; omega]
      rfl
  · apply go ⟨#[]⟩ 10
    · unfold spec_TakesOf.f spec_l03Kind.f
      simp only [l01In_eq, Option.bind_some, decide_eq_false h, Bool.false_eq_true, if_false]
    · unfold impl_TakesOf.f impl_isFbKind.f
      simp only [within_eq, Option.bind_some, decide_eq_false h, Bool.false_eq_true, if_false]


end Go.Proofs.Ytgeenpfgkmnpeaa.Pure

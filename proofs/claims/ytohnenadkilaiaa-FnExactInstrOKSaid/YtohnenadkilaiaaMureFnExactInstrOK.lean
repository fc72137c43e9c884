/- Proved: the pure statement behind the law FnExactInstrOK of the given program: for every input that the row lets in, the program's answer and the reference's agree and the law returns true. Conditions: none beyond the row's own. -/
import Derived.Test.YtohnenadkilaiaaMFnExactInstrOKx2
set_option linter.unusedVariables false
set_option linter.unusedSimpArgs false
namespace Go.Proofs.Ytohnenadkilaiaa.Pure
open Go.RowKit Go.Proofs.Ytohnenadkilaiaa.MFnExactInstrOK Go.Proofs.YtohnenadkilaiaaW.PrintWords Go.Proofs.YtohnenadkilaiaaW.PrintLast

theorem within_eq (a lo hi : Int) : impl_within.f a lo hi = some (decide (lo ≤ a ∧ a ≤ hi)) := by
  unfold impl_within.f
  by_cases h : a ≥ lo
  · have h' : lo ≤ a := h
    simp [h, h']
  · have h' : ¬ lo ≤ a := h
    simp [h, h']

theorem l01In_eq (a lo hi : Int) : spec_l01In.f a lo hi = some (decide (lo ≤ a ∧ a ≤ hi)) := by
  unfold spec_l01In.f
  by_cases h : a ≥ lo
  · have h' : lo ≤ a := h
    simp [h, h']
  · have h' : ¬ lo ≤ a := h
    simp [h, h']

theorem has_j2 (k : Nat) (a : Int) (b : Bool) : spec_l02Has.j2 k a b = impl_rangeOf.j2 k a b := by
  cases k <;> simp only [spec_l02Has.j2, impl_rangeOf.j2]
theorem has_j1 (k : Nat) (a : Int) (b : Bool) : spec_l02Has.j1 k a b = impl_rangeOf.j1 k a b := by
  cases k <;> simp only [spec_l02Has.j1, impl_rangeOf.j1, has_j2]
theorem has_j0 (k : Nat) (a : Int) (b : Bool) : spec_l02Has.j0 k a b = impl_rangeOf.j0 k a b := by
  cases k <;> simp only [spec_l02Has.j0, impl_rangeOf.j0, has_j1]
theorem has_same (k : Nat) (a : Int) : spec_l02Has.f k a = impl_rangeOf.f k a := by
  unfold spec_l02Has.f impl_rangeOf.f
  simp only [has_j0]
/-- The range of an operation's operand, and whether it has one. -/
def rng (a : Int) : Int × Int × Bool :=
  if a = 1 then (-2147483648, 2147483647, true) else if a = 2 then (0, 1, true) else if a = 3 ∨ a = 4 then (0, 15, true) else if a = 5 ∨ a = 6 ∨ a = 7 ∨ a = 8 then (0, 7, true)
  else if a = 19 ∨ a = 20 then (0, 7, true) else if a = 24 then (1, 20, true) else if a = 26 then (0, 5, true) else (0, 0, false)
theorem range_eq (k : Nat) (hk : 3 ≤ k) (a : Int) : impl_rangeOf.f k a = some (rng a) := by
  obtain ⟨k, rfl⟩ : ∃ m, k = m + 3 := ⟨k - 3, by omega⟩
  unfold impl_rangeOf.f rng
  simp only [impl_rangeOf.j0, impl_rangeOf.j1, impl_rangeOf.j2]
  by_cases h1 : a = 1
  · subst h1; rfl
  by_cases h2 : a = 2
  · subst h2; rfl
  by_cases h3 : a = 3
  · subst h3; rfl
  by_cases h4 : a = 4
  · subst h4; rfl
  by_cases h5 : a = 5
  · subst h5; rfl
  by_cases h6 : a = 6
  · subst h6; rfl
  by_cases h7 : a = 7
  · subst h7; rfl
  by_cases h8 : a = 8
  · subst h8; rfl
  by_cases h19 : a = 19
  · subst h19; rfl
  by_cases h20 : a = 20
  · subst h20; rfl
  by_cases h24 : a = 24
  · subst h24; rfl
  by_cases h26 : a = 26
  · subst h26; rfl
  simp [h1, h2, h3, h4, h5, h6, h7, h8, h19, h20, h24, h26]

def instrb (op a : Int) : Bool := decide ((1 ≤ op ∧ op ≤ 26) ∧ ((rng op).1 ≤ a ∧ a ≤ (rng op).2.1))
theorem isOp_eq (a : Int) : impl_isOp.f a = some (decide (1 ≤ a ∧ a ≤ 26)) := by
  unfold impl_isOp.f; rw [within_eq]; rfl
theorem l02Op_eq (a : Int) : spec_l02Op.f a = some (decide (1 ≤ a ∧ a ≤ 26)) := by
  unfold spec_l02Op.f; rw [l01In_eq]; rfl
theorem spec_instr (k : Nat) (hk : 3 ≤ k) (op a : Int) : spec_l02OK.f k op a = some (instrb op a) := by
  unfold spec_l02OK.f instrb
  simp only [l02Op_eq, l01In_eq, has_same, range_eq k hk, Option.bind_some]
  by_cases h : 1 ≤ op ∧ op ≤ 26 <;> simp [h]
theorem impl_instr (k : Nat) (hk : 3 ≤ k) (op a : Int) : impl_InstrOK.f k op a = some (instrb op a) := by
  unfold impl_InstrOK.f instrb
  simp only [isOp_eq, within_eq, range_eq k hk, Option.bind_some]
  by_cases h : 1 ≤ op ∧ op ≤ 26 <;> simp [h]

theorem FnExactInstrOK : laws_FnExactInstrOK.Pure := by
  intro x _
  refine ⟨3, ?_⟩
  unfold laws_FnExactInstrOK.f laws_toInstr.f spec_InstrOK.f
  simp only [Option.bind_some, spec_instr 3 (by omega), impl_instr 3 (by omega), bne_self_eq_false]
  rfl


end Go.Proofs.Ytohnenadkilaiaa.Pure

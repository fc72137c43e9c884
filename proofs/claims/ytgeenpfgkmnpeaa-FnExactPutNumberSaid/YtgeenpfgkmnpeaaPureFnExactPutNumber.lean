/- Proved: the pure statement behind the law FnExactPutNumber of the given program: for every input that the row lets in, the program's answer and the reference's agree and the law returns true. Conditions: none beyond the row's own. -/
import Derived.Test.YtgeenpfgkmnpeaaPFnExactPutNumberx1
set_option linter.unusedVariables false
set_option linter.unusedSimpArgs false
namespace Go.Proofs.Ytgeenpfgkmnpeaa.Pure
open Go.RowKit Go.Proofs.Ytgeenpfgkmnpeaa.PFnExactPutNumber Go.Proofs.YtgeenpfgkmnpeaaW.PrintWords Go.Proofs.YtgeenpfgkmnpeaaW.PrintLast

theorem within_eq (a lo hi : Int) : impl_within.f a lo hi = some (decide (lo ≤ a ∧ a ≤ hi)) := by
  unfold impl_within.f
  by_cases h : a ≥ lo
  · have h' : lo ≤ a := h
    simp [h, h']
  · have h' : ¬ lo ≤ a := h
    simp [h, h']

theorem l01In_eq (a lo hi : Int) : spec_l01In.f a lo hi = some (decide (lo ≤ a ∧ a ≤ hi)) := by
  unfold spec_l01In.f
  by_cases h : a ≥ lo
  · have h' : lo ≤ a := h
    simp [h, h']
  · have h' : ¬ lo ≤ a := h
    simp [h, h']

theorem wstep0 : wrap64 ((0 : Int) + 1) = 1 := by unfold wrap64; omega
theorem wstep1 : wrap64 ((1 : Int) + 1) = 2 := by unfold wrap64; omega
theorem wstep2 : wrap64 ((2 : Int) + 1) = 3 := by unfold wrap64; omega
theorem wstep3 : wrap64 ((3 : Int) + 1) = 4 := by unfold wrap64; omega
theorem wone : wrap64 (1 : Int) = 1 := by unfold wrap64; omega
theorem wtwo : wrap64 (2 : Int) = 2 := by unfold wrap64; omega
theorem wthree : wrap64 (3 : Int) = 3 := by unfold wrap64; omega
theorem wfour : wrap64 (4 : Int) = 4 := by unfold wrap64; omega
theorem u64b0 (x : Int) : IntKind.u64.wrap x % 256 = x % 256 := by simp only [IntKind.wrap_u64]; omega
theorem u64b1 (x : Int) : IntKind.u64.wrap x / 256 % 256 = x / 256 % 256 := by simp only [IntKind.wrap_u64]; omega
theorem u64b2 (x : Int) : IntKind.u64.wrap x / 256 / 256 % 256 = x / 256 / 256 % 256 := by simp only [IntKind.wrap_u64]; omega
theorem u64b3 (x : Int) : IntKind.u64.wrap x / 256 / 256 / 256 % 256 = x / 256 / 256 / 256 % 256 := by simp only [IntKind.wrap_u64]; omega

theorem spec_put1 (x : Int) (k : Nat) (hk : 5 ≤ k) : spec_l01Put.f k x 1 = some (strOfNums [x % 256]) := by
  obtain ⟨k, rfl⟩ : ∃ m, k = m + 5 := ⟨k - 5, by omega⟩
  unfold spec_l01Put.f
  simp [spec_l01Put.l0, wstep0, wone, wtwo, wthree, wfour, u64b0]
theorem spec_put2 (x : Int) (k : Nat) (hk : 5 ≤ k) : spec_l01Put.f k x 2 = some (strOfNums [x % 256, x / 256 % 256]) := by
  obtain ⟨k, rfl⟩ : ∃ m, k = m + 5 := ⟨k - 5, by omega⟩
  unfold spec_l01Put.f
  simp [spec_l01Put.l0, wstep0, wstep1, wone, wtwo, wthree, wfour, u64b0, u64b1]
theorem spec_put4 (x : Int) (k : Nat) (hk : 5 ≤ k) : spec_l01Put.f k x 4 = some (strOfNums [x % 256, x / 256 % 256, x / 256 / 256 % 256, x / 256 / 256 / 256 % 256]) := by
  obtain ⟨k, rfl⟩ : ∃ m, k = m + 5 := ⟨k - 5, by omega⟩
  unfold spec_l01Put.f
  simp [spec_l01Put.l0, wstep0, wstep1, wstep2, wstep3, wone, wtwo, wthree, wfour, u64b0, u64b1, u64b2, u64b3]
theorem impl_put1 (x : Int) (k : Nat) (hk : 5 ≤ k) : impl_put.f k x 1 = some (strOfNums [x % 256]) := by
  obtain ⟨k, rfl⟩ : ∃ m, k = m + 5 := ⟨k - 5, by omega⟩
  unfold impl_put.f
  simp [impl_put.l0, wstep0, wone, wtwo, wthree, wfour]
theorem impl_put2 (x : Int) (k : Nat) (hk : 5 ≤ k) : impl_put.f k x 2 = some (strOfNums [x % 256, x / 256 % 256]) := by
  obtain ⟨k, rfl⟩ : ∃ m, k = m + 5 := ⟨k - 5, by omega⟩
  unfold impl_put.f
  simp [impl_put.l0, wstep0, wstep1, wone, wtwo, wthree, wfour]
theorem impl_put4 (x : Int) (k : Nat) (hk : 5 ≤ k) : impl_put.f k x 4 = some (strOfNums [x % 256, x / 256 % 256, x / 256 / 256 % 256, x / 256 / 256 / 256 % 256]) := by
  obtain ⟨k, rfl⟩ : ∃ m, k = m + 5 := ⟨k - 5, by omega⟩
  unfold impl_put.f
  simp [impl_put.l0, wstep0, wstep1, wstep2, wstep3, wone, wtwo, wthree, wfour]

theorem wdec (x y : Int) (h : (x + 9223372036854775808) % 18446744073709551616 - 9223372036854775808 = y) : wrap64 x = y := by unfold wrap64; omega
theorem shl7 : shl .i64 1 7 = 128 := by decide
theorem shl15 : shl .i64 1 15 = 32768 := by decide
theorem shl31 : shl .i64 1 31 = 2147483648 := by decide
theorem w8 : wrap64 ((wrap64 (8 * 1)) - 1) = 7 := by unfold wrap64; omega
theorem w16 : wrap64 ((wrap64 (8 * 2)) - 1) = 15 := by unfold wrap64; omega
theorem w32 : wrap64 ((wrap64 (8 * 4)) - 1) = 31 := by unfold wrap64; omega
theorem u8_ : IntKind.u64.wrap 7 = 7 := by rw [IntKind.wrap_u64]; omega
theorem u16_ : IntKind.u64.wrap 15 = 15 := by rw [IntKind.wrap_u64]; omega
theorem u32_ : IntKind.u64.wrap 31 = 31 := by rw [IntKind.wrap_u64]; omega

theorem fits1 (x : Int) : spec_l01Fits.f x 1 = some (decide (-128 ≤ x ∧ x ≤ 127)) := by
  unfold spec_l01Fits.f
  rw [w8, u8_, shl7]
  have c : wrap64 ((wrap64 (-(wrap64 (128 - 1)))) - 1) = -128 := by unfold wrap64; omega
  have d : wrap64 (128 - 1) = 127 := by unfold wrap64; omega
  rw [c, d, l01In_eq]
  simp
theorem fits2 (x : Int) : spec_l01Fits.f x 2 = some (decide (-32768 ≤ x ∧ x ≤ 32767)) := by
  unfold spec_l01Fits.f
  rw [w16, u16_, shl15]
  have c : wrap64 ((wrap64 (-(wrap64 (32768 - 1)))) - 1) = -32768 := by unfold wrap64; omega
  have d : wrap64 (32768 - 1) = 32767 := by unfold wrap64; omega
  rw [c, d, l01In_eq]
  simp
theorem fits4 (x : Int) : spec_l01Fits.f x 4 = some (decide (-2147483648 ≤ x ∧ x ≤ 2147483647)) := by
  unfold spec_l01Fits.f
  rw [w32, u32_, shl31]
  have c : wrap64 ((wrap64 (-(wrap64 (2147483648 - 1)))) - 1) = -2147483648 := by unfold wrap64; omega
  have d : wrap64 (2147483648 - 1) = 2147483647 := by unfold wrap64; omega
  rw [c, d, l01In_eq]
  simp

theorem FnExactPutNumber : laws_FnExactPutNumber.Pure := by
  intro x n _ _
  by_cases h : n = 1 ∨ n = 2 ∨ n = 4
  · refine ⟨5, ?_⟩
    rcases h with rfl | rfl | rfl
    · unfold laws_FnExactPutNumber.f spec_PutNumber.f impl_PutNumber.f
      have c : wrap64 (-128) = -128 := by unfold wrap64; omega
      have d : wrap64 (128 - 1) = 127 := by unfold wrap64; omega
      rw [fits1, w8, shl7, c, d, within_eq, spec_put1 x 5 (by omega), impl_put1 x 5 (by omega)]
      generalize decide (-128 ≤ x ∧ x ≤ 127) = b
      cases b <;> simp [spec_l01Size.f, impl_isWidth.f]
    · unfold laws_FnExactPutNumber.f spec_PutNumber.f impl_PutNumber.f
      have c : wrap64 (-32768) = -32768 := by unfold wrap64; omega
      have d : wrap64 (32768 - 1) = 32767 := by unfold wrap64; omega
      rw [fits2, w16, shl15, c, d, within_eq, spec_put2 x 5 (by omega), impl_put2 x 5 (by omega)]
      generalize decide (-32768 ≤ x ∧ x ≤ 32767) = b
      cases b <;> simp [spec_l01Size.f, impl_isWidth.f]
    · unfold laws_FnExactPutNumber.f spec_PutNumber.f impl_PutNumber.f
      have c : wrap64 (-2147483648) = -2147483648 := by unfold wrap64; omega
      have d : wrap64 (2147483648 - 1) = 2147483647 := by unfold wrap64; omega
      rw [fits4, w32, shl31, c, d, within_eq, spec_put4 x 5 (by omega), impl_put4 x 5 (by omega)]
      generalize decide (-2147483648 ≤ x ∧ x ≤ 2147483647) = b
      cases b <;> simp [spec_l01Size.f, impl_isWidth.f]
  · refine ⟨0, ?_⟩
    have h1 : n ≠ 1 := by omega
    have h2 : n ≠ 2 := by omega
    have h4 : (n == 4) = false := by simp; omega
    unfold laws_FnExactPutNumber.f spec_PutNumber.f impl_PutNumber.f
    simp [spec_l01Size.f, impl_isWidth.f, h1, h2, h4]


end Go.Proofs.Ytgeenpfgkmnpeaa.Pure

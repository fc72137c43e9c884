/- Proved: the pure statement behind the law FnExactSumOf of the given program: for every input that the row lets in, the program's answer and the reference's agree and the law returns true. Conditions: none beyond the row's own. -/
import Derived.Test.YtgeenpfgkmnpeaaPFnExactSumOfx1
set_option linter.unusedVariables false
set_option linter.unusedSimpArgs false
namespace Go.Proofs.Ytgeenpfgkmnpeaa.Pure
open Go.RowKit Go.Proofs.Ytgeenpfgkmnpeaa.PFnExactSumOf Go.Proofs.YtgeenpfgkmnpeaaW.PrintWords Go.Proofs.YtgeenpfgkmnpeaaW.PrintLast

theorem sum_same (s : ByteArray) : ∀ (k : Nat) (a i : Int), impl_SumOf.l0 k s a s.size i = spec_l01Sum.l0 k s a i := by
  intro k
  induction k with
  | zero => intro a i; rfl
  | succ k ih =>
    intro a i
    simp only [impl_SumOf.l0, spec_l01Sum.l0]
    by_cases h : i < (s.size : Int)
    · by_cases h0 : 0 ≤ i
      · simp only [if_pos h, if_pos h0, ih]
      · simp only [if_pos h, if_neg h0]
    · simp only [if_neg h]

theorem sum_ends (s : ByteArray) (hn : s.size ≤ 65536) (d : Nat) : ∀ (k : Nat) (a i : Int), 0 ≤ i → (s.size : Int) - i ≤ d → d < k → ∃ r, spec_l01Sum.l0 k s a i = some r := by
  induction d with
  | zero =>
    intro k a i h0 hd hk
    obtain ⟨k, rfl⟩ : ∃ m, k = m + 1 := ⟨k - 1, by omega⟩
    exact ⟨a, by simp only [spec_l01Sum.l0]; rw [if_neg (by omega)]⟩
  | succ d ih =>
    intro k a i h0 hd hk
    obtain ⟨k, rfl⟩ : ∃ m, k = m + 1 := ⟨k - 1, by omega⟩
    by_cases hlt : i < (s.size : Int)
    · simp only [spec_l01Sum.l0]
      rw [if_pos hlt, if_pos h0]
      have hw : wrap64 (i + 1) = i + 1 := by unfold wrap64; omega
      rw [hw]
      exact ih k _ (i + 1) (by omega) (by omega) (by omega)
    · exact ⟨a, by simp only [spec_l01Sum.l0]; rw [if_neg hlt]⟩

theorem FnExactSumOf : laws_FnExactSumOf.Pure := by
  intro s _
  by_cases hs : (s.size : Int) > 65536
  · refine ⟨0, ?_⟩
    unfold laws_FnExactSumOf.f spec_SumOf.f impl_SumOf.f
    simp [hs]
  · obtain ⟨r, hr⟩ := sum_ends s (by omega) s.size (s.size + 1) 1 0 (by omega) (by omega) (by omega)
    refine ⟨s.size + 1, ?_⟩
    unfold laws_FnExactSumOf.f spec_SumOf.f impl_SumOf.f spec_l01Sum.f
    have hb : ¬ (s.size : Int) > 1048576 := by omega
    rw [if_neg hb, if_neg hs, if_neg hs, sum_same, hr]
    simp


end Go.Proofs.Ytgeenpfgkmnpeaa.Pure

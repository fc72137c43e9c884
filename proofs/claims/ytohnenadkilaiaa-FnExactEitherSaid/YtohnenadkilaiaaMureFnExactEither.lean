/- Proved: the pure statement behind the law FnExactEither of the given program: for every input that the row lets in, the program's answer and the reference's agree and the law returns true. Conditions: none beyond the row's own. -/
import Derived.Test.YtohnenadkilaiaaMFnExactEitherx4
set_option linter.unusedVariables false
set_option linter.unusedSimpArgs false
namespace Go.Proofs.Ytohnenadkilaiaa.Pure
open Go.RowKit Go.Proofs.Ytohnenadkilaiaa.MFnExactEither Go.Proofs.YtohnenadkilaiaaW.PrintWords Go.Proofs.YtohnenadkilaiaaW.PrintLast

theorem when_eq (b : Bool) (c : Int) : impl_when.f b c = some (if b = true then c else 0) := by
  unfold impl_when.f
  split <;> rfl

theorem sums_eq (a0 a1 a2 a3 a4 : Int) : spec_SummaryOK.f a0 a1 a2 a3 a4 = some (sumOKb a0 a1 a2 a3 a4) := rfl

theorem impl_all_Summary_SummaryOK_from (p : S48 → Bool) (K : Nat) (hF : ∀ (k : Nat) (x : S48), K ≤ k → impl_SummaryOK.f x.f0 x.f1 x.f2 x.f3 x.f4 = some (p x)) (l : List S48) (hl : l.length ≤ 1048576) : ∀ (d k i : Nat), l.length - i ≤ d → d + K < k → i ≤ l.length →
    ∃ j, impl_all_Summary_SummaryOK.l0 k l (i : Int) = some j ∧ (!(decide (0 ≤ j))) = (l.drop i).all p := by
  intro d
  induction d with
  | zero =>
    intro k i hd hk hi
    obtain ⟨k, rfl⟩ : ∃ m, k = m + 1 := ⟨k - 1, by omega⟩
    refine ⟨-1, ?_, ?_⟩
    · simp only [impl_all_Summary_SummaryOK.l0]
      rw [if_neg (by omega)]
    · rw [List.drop_of_length_le (by omega)]
      rfl
  | succ d ih =>
    intro k i hd hk hi
    obtain ⟨k, rfl⟩ : ∃ m, k = m + 1 := ⟨k - 1, by omega⟩
    by_cases h : i < l.length
    · have e : rd_T48 l (i : Int) = l[i] := by simp [rd_T48, List.getD_eq_getElem?_getD, h]
      have hw : wrap64 ((i : Int) + 1) = ((i + 1 : Nat) : Int) := by unfold wrap64; omega
      obtain ⟨j, hj, hp⟩ := ih k (i + 1) (by omega) (by omega) (by omega)
      have hx := hF k l[i] (by omega)
      rw [List.drop_eq_getElem_cons h, List.all_cons]
      simp only [impl_all_Summary_SummaryOK.l0]
      rw [if_pos (by omega), if_pos (by omega), e, hw, hx]
      simp only [Option.bind_some]
      cases p l[i] with
      | true => exact ⟨j, by rw [if_pos rfl]; exact hj, by simpa using hp⟩
      | false => exact ⟨(i : Int), by rw [if_neg (by decide)], by simp⟩
    · refine ⟨-1, ?_, ?_⟩
      · simp only [impl_all_Summary_SummaryOK.l0]
        rw [if_neg (by omega)]
      · rw [List.drop_of_length_le (by omega)]
        rfl
theorem impl_all_Summary_SummaryOK_eq (p : S48 → Bool) (K : Nat) (hF : ∀ (k : Nat) (x : S48), K ≤ k → impl_SummaryOK.f x.f0 x.f1 x.f2 x.f3 x.f4 = some (p x)) (l : List S48) (hl : l.length ≤ 1048576) (k : Nat) (hk : l.length + K < k) : impl_all_Summary_SummaryOK.f k l = some (l.all p) := by
  obtain ⟨j, hj, hp⟩ := impl_all_Summary_SummaryOK_from p K hF l hl l.length k 0 (by omega) (by omega) (by omega)
  unfold impl_all_Summary_SummaryOK.f
  have hj' : impl_all_Summary_SummaryOK.l0 k l 0 = some j := hj
  rw [hj']
  simp only [Option.bind_some]
  rw [hp]
  rfl

def sumb (x : S48) : Bool := sumOKb x.f0 x.f1 x.f2 x.f3 x.f4
theorem areSum_eq (l : List S48) (hl : l.length ≤ 1048576) (k : Nat) (hk : l.length < k) : impl_areSummaries.f k l = some (if l.all sumb = true then 0 else 1) := by
  unfold impl_areSummaries.f
  rw [impl_all_Summary_SummaryOK_eq sumb 0 (fun _ _ _ => rfl) l hl k (by omega)]
  simp only [Option.bind_some, when_eq]
  cases l.all sumb <;> rfl

theorem eqSum_same (a b c d e : Int) : laws_eqSummary.f a b c d e a b c d e = some true := by
  unfold laws_eqSummary.f
  simp
theorem FnExactEither : laws_FnExactEither.Pure := by
  intro x y _ _
  refine ⟨6, ?_⟩
  unfold laws_FnExactEither.f laws_toSummary.f spec_Either.f impl_Either.f
  simp only [Option.bind_some, sums_eq]
  rw [areSum_eq _ (by simp) _ (by simp)]
  simp only [Option.bind_some, List.all_cons, List.all_nil, Bool.and_true, sumb]
  unfold spec_l05Either.f impl_either.f
  cases sumOKb x.f0 x.f1 x.f2 x.f3 x.f4 <;> cases sumOKb y.f0 y.f1 y.f2 y.f3 y.f4 <;> simp [eqSum_same]


end Go.Proofs.Ytohnenadkilaiaa.Pure

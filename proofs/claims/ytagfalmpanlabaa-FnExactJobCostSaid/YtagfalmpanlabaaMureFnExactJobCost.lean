/- Proved: the pure statement behind the law FnExactJobCost of the given program: for every input that the row lets in, the program's answer and the reference's agree and the law returns true. Conditions: none beyond the row's own. -/
import Derived.Test.YtagfalmpanlabaaMFnExactJobCostx5
set_option linter.unusedVariables false
set_option linter.unusedSimpArgs false
namespace Go.Proofs.Ytagfalmpanlabaa.Pure
open Go.RowKit Go.Proofs.Ytagfalmpanlabaa.MFnExactJobCost Go.Proofs.YtagfalmpanlabaaW.PrintWords Go.Proofs.YtagfalmpanlabaaW.PrintLast

theorem when_eq (b : Bool) (c : Int) : impl_when.f b c = some (if b = true then c else 0) := by
  unfold impl_when.f
  split <;> rfl

theorem sums_eq (a0 a1 a2 a3 a4 : Int) : spec_SummaryOK.f a0 a1 a2 a3 a4 = some (sumOKb a0 a1 a2 a3 a4) := rfl

theorem impl_all_Summary_SummaryOK_from (p : S24 → Bool) (K : Nat) (hF : ∀ (k : Nat) (x : S24), K ≤ k → impl_SummaryOK.f x.f0 x.f1 x.f2 x.f3 x.f4 = some (p x)) (l : List S24) (hl : l.length ≤ 1048576) : ∀ (d k i : Nat), l.length - i ≤ d → d + K < k → i ≤ l.length →
    ∃ j, impl_all_Summary_SummaryOK.l0 k l (i : Int) = some j ∧ (!(decide (0 ≤ j))) = (l.drop i).all p := by
  intro d
  induction d with
  | zero =>
    intro k i hd hk hi
    obtain ⟨k, rfl⟩ : ∃ m, k = m + 1 := ⟨k - 1, by omega⟩
    refine ⟨-1, ?_, ?_⟩
    · simp only [impl_all_Summary_SummaryOK.l0]
      rw [if_neg (by omega)]
    · rw [List.drop_of_length_le (by omega)]
      rfl
  | succ d ih =>
    intro k i hd hk hi
    obtain ⟨k, rfl⟩ : ∃ m, k = m + 1 := ⟨k - 1, by omega⟩
    by_cases h : i < l.length
    · have e : rd_T24 l (i : Int) = l[i] := by simp [rd_T24, List.getD_eq_getElem?_getD, h]
      have hw : wrap64 ((i : Int) + 1) = ((i + 1 : Nat) : Int) := by unfold wrap64; omega
      obtain ⟨j, hj, hp⟩ := ih k (i + 1) (by omega) (by omega) (by omega)
      have hx := hF k l[i] (by omega)
      rw [List.drop_eq_getElem_cons h, List.all_cons]
      simp only [impl_all_Summary_SummaryOK.l0]
      rw [if_pos (by omega), if_pos (by omega), e, hw, hx]
      simp only [Option.bind_some]
      cases p l[i] with
      | true => exact ⟨j, by rw [if_pos rfl]; exact hj, by simpa using hp⟩
      | false => exact ⟨(i : Int), by rw [if_neg (by decide)], by simp⟩
    · refine ⟨-1, ?_, ?_⟩
      · simp only [impl_all_Summary_SummaryOK.l0]
        rw [if_neg (by omega)]
      · rw [List.drop_of_length_le (by omega)]
        rfl
theorem impl_all_Summary_SummaryOK_eq (p : S24 → Bool) (K : Nat) (hF : ∀ (k : Nat) (x : S24), K ≤ k → impl_SummaryOK.f x.f0 x.f1 x.f2 x.f3 x.f4 = some (p x)) (l : List S24) (hl : l.length ≤ 1048576) (k : Nat) (hk : l.length + K < k) : impl_all_Summary_SummaryOK.f k l = some (l.all p) := by
  obtain ⟨j, hj, hp⟩ := impl_all_Summary_SummaryOK_from p K hF l hl l.length k 0 (by omega) (by omega) (by omega)
  unfold impl_all_Summary_SummaryOK.f
  have hj' : impl_all_Summary_SummaryOK.l0 k l 0 = some j := hj
  rw [hj']
  simp only [Option.bind_some]
  rw [hp]
  rfl

def sumb (x : S24) : Bool := sumOKb x.f0 x.f1 x.f2 x.f3 x.f4
theorem areSum_eq (l : List S24) (hl : l.length ≤ 1048576) (k : Nat) (hk : l.length < k) : impl_areSummaries.f k l = some (if l.all sumb = true then 0 else 1) := by
  unfold impl_areSummaries.f
  rw [impl_all_Summary_SummaryOK_eq sumb 0 (fun _ _ _ => rfl) l hl k (by omega)]
  simp only [Option.bind_some, when_eq]
  cases l.all sumb <;> rfl

abbrev Sum5 := Int × Int × Int × Int × Int
def plusV (a b : Int) : Int := if a < 0 then -1 else if b < 0 then -1 else mn (a + b) 2147483647
def behindV (a b : Sum5) : Sum5 := (plusV a.1 b.1, plusV a.2.1 b.2.1, mx a.2.2.1 (plusV a.2.1 b.2.2.1), mx b.2.2.2.1 (plusV a.2.2.2.1 b.2.1), mx (mx a.2.2.2.2 b.2.2.2.2) (plusV a.2.2.2.1 b.2.2.1))
def InR (a : Int) : Prop := -1 ≤ a ∧ a ≤ 2147483647
def InV (s : Sum5) : Prop := InR s.1 ∧ InR s.2.1 ∧ InR s.2.2.1 ∧ InR s.2.2.2.1 ∧ InR s.2.2.2.2
theorem plus_in {a b : Int} (ha : InR a) (hb : InR b) : InR (plusV a b) := by
  unfold InR at *
  unfold plusV mn
  split
  · omega
  · split
    · omega
    · split <;> omega
theorem mx_in {a b : Int} (ha : InR a) (hb : InR b) : InR (mx a b) := by
  unfold InR at *
  unfold mx
  split <;> omega
theorem spec_plus {a b : Int} (ha : InR a) (hb : InR b) : spec_l05Plus.f a b = some (plusV a b) := by
  unfold InR at *
  unfold spec_l05Plus.f plusV
  split
  · rfl
  · split
    · rfl
    · have e : wrap64 (a + b) = a + b := by unfold wrap64; omega
      rw [e]
theorem impl_plus_ {a b : Int} (ha : InR a) (hb : InR b) : impl_plus.f a b = some (plusV a b) := by
  unfold InR at *
  unfold impl_plus.f plusV
  by_cases h : a = -1
  · rw [if_pos h, if_pos (show a < 0 by omega)]
  · rw [if_neg h]
    by_cases h2 : b = -1
    · rw [if_pos h2, if_neg (show ¬ a < 0 by omega), if_pos (show b < 0 by omega)]
    · have e : wrap64 (a + b) = a + b := by unfold wrap64; omega
      rw [if_neg h2, if_neg (show ¬ a < 0 by omega), if_neg (show ¬ b < 0 by omega), e]
theorem behind_in {a b : Sum5} (ha : InV a) (hb : InV b) : InV (behindV a b) := by
  obtain ⟨a0, a1, a2, a3, a4⟩ := ha
  obtain ⟨b0, b1, b2, b3, b4⟩ := hb
  exact ⟨plus_in a0 b0, plus_in a1 b1, mx_in a2 (plus_in a1 b2), mx_in b3 (plus_in a3 b1), mx_in (mx_in a4 b4) (plus_in a3 b2)⟩
theorem spec_behind {a b : Sum5} (ha : InV a) (hb : InV b) : spec_l05Behind.f a.1 a.2.1 a.2.2.1 a.2.2.2.1 a.2.2.2.2 b.1 b.2.1 b.2.2.1 b.2.2.2.1 b.2.2.2.2 = some (behindV a b) := by
  obtain ⟨a0, a1, a2, a3, a4⟩ := ha
  obtain ⟨b0, b1, b2, b3, b4⟩ := hb
  unfold spec_l05Behind.f
  rw [spec_plus a0 b0, spec_plus a1 b1, spec_plus a1 b2, spec_plus a3 b1, spec_plus a3 b2]
  rfl
theorem impl_behind1 {a b : Sum5} (ha : InV a) (hb : InV b) (k : Nat) (hk : 2 ≤ k) : impl_behind.f k a.1 a.2.1 a.2.2.1 a.2.2.2.1 a.2.2.2.2 [⟨b.1, b.2.1, b.2.2.1, b.2.2.2.1, b.2.2.2.2⟩] = some (behindV a b) := by
  obtain ⟨a0, a1, a2, a3, a4⟩ := ha
  obtain ⟨b0, b1, b2, b3, b4⟩ := hb
  obtain ⟨k, rfl⟩ : ∃ m, k = m + 2 := ⟨k - 2, by omega⟩
  unfold impl_behind.f
  have w0 : wrap64 ((0 : Int) + 1) = 1 := by unfold wrap64; omega
  simp only [impl_behind.l0, List.length_cons, List.length_nil, w0]
  have r0 : rd_T24 [(⟨b.1, b.2.1, b.2.2.1, b.2.2.2.1, b.2.2.2.2⟩ : S24)] 0 = ⟨b.1, b.2.1, b.2.2.1, b.2.2.2.1, b.2.2.2.2⟩ := rfl
  rw [r0]
  simp only [impl_plus_ a0 b0, impl_plus_ a1 b1, impl_plus_ a1 b2, impl_plus_ a3 b1, impl_plus_ a3 b2, Option.bind_some]
  simp [behindV]
theorem impl_behind2 {a b c : Sum5} (ha : InV a) (hb : InV b) (hc : InV c) (k : Nat) (hk : 3 ≤ k) :
    impl_behind.f k a.1 a.2.1 a.2.2.1 a.2.2.2.1 a.2.2.2.2 [⟨b.1, b.2.1, b.2.2.1, b.2.2.2.1, b.2.2.2.2⟩, ⟨c.1, c.2.1, c.2.2.1, c.2.2.2.1, c.2.2.2.2⟩] = some (behindV (behindV a b) c) := by
  have hab := behind_in ha hb
  obtain ⟨a0, a1, a2, a3, a4⟩ := ha
  obtain ⟨b0, b1, b2, b3, b4⟩ := hb
  obtain ⟨c0, c1, c2, c3, c4⟩ := hc
  obtain ⟨d0, d1, d2, d3, d4⟩ := hab
  obtain ⟨k, rfl⟩ : ∃ m, k = m + 3 := ⟨k - 3, by omega⟩
  unfold impl_behind.f
  have w0 : wrap64 ((0 : Int) + 1) = 1 := by unfold wrap64; omega
  have w1 : wrap64 ((1 : Int) + 1) = 2 := by unfold wrap64; omega
  simp only [impl_behind.l0, List.length_cons, List.length_nil, w0, w1]
  have r0 : rd_T24 [(⟨b.1, b.2.1, b.2.2.1, b.2.2.2.1, b.2.2.2.2⟩ : S24), ⟨c.1, c.2.1, c.2.2.1, c.2.2.2.1, c.2.2.2.2⟩] 0 = ⟨b.1, b.2.1, b.2.2.1, b.2.2.2.1, b.2.2.2.2⟩ := rfl
  have r1 : rd_T24 [(⟨b.1, b.2.1, b.2.2.1, b.2.2.2.1, b.2.2.2.2⟩ : S24), ⟨c.1, c.2.1, c.2.2.1, c.2.2.2.1, c.2.2.2.2⟩] 1 = ⟨c.1, c.2.1, c.2.2.1, c.2.2.2.1, c.2.2.2.2⟩ := rfl
  rw [r0, r1]
  simp only [impl_plus_ a0 b0, impl_plus_ a1 b1, impl_plus_ a1 b2, impl_plus_ a3 b1, impl_plus_ a3 b2, Option.bind_some]
  simp only [behindV] at d0 d1 d2 d3 d4
  simp only [impl_plus_ d0 c0, impl_plus_ d1 c1, impl_plus_ d1 c2, impl_plus_ d3 c1, impl_plus_ d3 c2, Option.bind_some]
  simp [behindV]
theorem sumok_in {a0 a1 a2 a3 a4 : Int} (h : sumOKb a0 a1 a2 a3 a4 = true) : InV (a0, a1, a2, a3, a4) := by
  have h := of_decide_eq_true h
  unfold InV InR
  simp only
  omega
theorem one_in (n : Int) (h : 0 ≤ n ∧ n ≤ 2147483647) : InV (n, n, -1, -1, -1) := by
  unfold InV InR
  simp only
  omega
theorem eqSum_same (a b c d e : Int) : laws_eqSummary.f a b c d e a b c d e = some true := by
  unfold laws_eqSummary.f
  simp

theorem FnExactJobCost : laws_FnExactJobCost.Pure := by
  intro x _
  refine ⟨6, ?_⟩
  unfold laws_FnExactJobCost.f laws_toSummary.f spec_JobCost.f impl_JobCost.f
  simp only [Option.bind_some, sums_eq]
  rw [areSum_eq _ (by simp) _ (by simp)]
  simp only [Option.bind_some, List.all_cons, List.all_nil, Bool.and_true, sumb]
  cases hx : sumOKb x.f0 x.f1 x.f2 x.f3 x.f4
  · simp [eqSum_same]
  · have ix := sumok_in hx
    have i1 := one_in 1 (by omega)
    have s := spec_behind i1 ix
    have s2 := spec_behind (behind_in i1 ix) i1
    have i := impl_behind2 i1 ix i1 6 (by omega)
    simp only at s s2 i
    unfold spec_l09Job.f impl_jobCost.f spec_l05One.f impl_oneCost.f
    simp only [Bool.false_eq_true, if_false, Option.bind_some, s, s2, i, if_true, eqSum_same]


end Go.Proofs.Ytagfalmpanlabaa.Pure

/- Proved: the pure statement behind the law FnExactStepBlock of the given program: for every input that the row lets in, the program's answer and the reference's agree and the law returns true. Conditions: none beyond the row's own. -/
import Derived.Test.YtagfalmpanlabaaMFnExactStepBlockx4
set_option linter.unusedVariables false
set_option linter.unusedSimpArgs false
namespace Go.Proofs.Ytagfalmpanlabaa.Pure
open Go.RowKit Go.Proofs.Ytagfalmpanlabaa.MFnExactStepBlock Go.Proofs.YtagfalmpanlabaaW.PrintWords Go.Proofs.YtagfalmpanlabaaW.PrintLast

theorem within_eq (a lo hi : Int) : impl_within.f a lo hi = some (decide (lo ≤ a ∧ a ≤ hi)) := by
  unfold impl_within.f
  by_cases h : a ≥ lo
  · have h' : lo ≤ a := h
    simp [h, h']
  · have h' : ¬ lo ≤ a := h
    simp [h, h']

theorem l01In_eq (a lo hi : Int) : spec_l01In.f a lo hi = some (decide (lo ≤ a ∧ a ≤ hi)) := by
  unfold spec_l01In.f
  by_cases h : a ≥ lo
  · have h' : lo ≤ a := h
    simp [h, h']
  · have h' : ¬ lo ≤ a := h
    simp [h, h']

theorem isValue_eq (a : Int) : impl_isValue.f a = some (decide (-2147483648 ≤ a ∧ a ≤ 2147483647)) := by
  unfold impl_isValue.f; rw [within_eq]; rfl

theorem l01Int_eq (a : Int) : spec_l01Int.f a = some (decide (-2147483648 ≤ a ∧ a ≤ 2147483647)) := by
  unfold spec_l01Int.f; rw [l01In_eq]; rfl

theorem when_eq (b : Bool) (c : Int) : impl_when.f b c = some (if b = true then c else 0) := by
  unfold impl_when.f
  split <;> rfl

/-- The first number of a list that is not 0; else 0. -/
def fnz : List Int → Int
  | [] => 0
  | a :: l => if a = 0 then fnz l else a

theorem first_from (l : List Int) (hl : l.length ≤ 1000) : ∀ (d k i : Nat), l.length - i ≤ d → d < k → i ≤ l.length → impl_first.l0 k l l.length (i : Int) = some (fnz (l.drop i)) := by
  intro d
  induction d with
  | zero =>
    intro k i hd hk hi
    obtain ⟨k, rfl⟩ : ∃ m, k = m + 1 := ⟨k - 1, by omega⟩
    simp only [impl_first.l0]
    rw [if_neg (by omega), List.drop_of_length_le (by omega)]
    rfl
  | succ d ih =>
    intro k i hd hk hi
    obtain ⟨k, rfl⟩ : ∃ m, k = m + 1 := ⟨k - 1, by omega⟩
    simp only [impl_first.l0]
    by_cases h : i < l.length
    · have hw : wrap64 ((i : Int) + 1) = ((i + 1 : Nat) : Int) := by unfold wrap64; omega
      rw [hw, ih k (i + 1) (by omega) (by omega) (by omega)]
      have e : rd l (i : Int) = l[i] := by simp [rd, List.getD_eq_getElem?_getD, h]
      rw [List.drop_eq_getElem_cons h, e]
      rw [if_pos (by omega), if_pos (by omega), if_pos (by omega)]
      simp only [fnz]
      split <;> rfl
    · rw [if_neg (by omega), List.drop_of_length_le (by omega)]
      rfl

theorem first_eq (l : List Int) (hl : l.length ≤ 1000) (k : Nat) (hk : l.length < k) : impl_first.f k l = some (fnz l) := by
  unfold impl_first.f
  have h := first_from l hl l.length k 0 (by omega) hk (by omega)
  simpa using h

def fbokb (kind : Int) (on : Bool) (start count : Int) : Bool :=
  if kind = 1 then decide (0 ≤ start ∧ start ≤ 2147483647 ∧ 0 ≤ count ∧ count ≤ 2147483647 ∧ (on = true ∨ (start = 0 ∧ count = 0)))
  else if kind = 2 then decide (start = 0 ∧ 0 ≤ count ∧ count ≤ 2147483647)
  else if kind = 3 ∨ kind = 4 then decide (start = 0 ∧ count = 0) else false
theorem isTime_eq (a : Int) : impl_isTime.f a = some (decide (0 ≤ a ∧ a ≤ 2147483647)) := by
  unfold impl_isTime.f; rw [within_eq]; rfl
theorem spec_fbok (a : Int) (b : Bool) (c d : Int) : spec_FbOK.f a b c d = some (fbokb a b c d) := by
  unfold spec_FbOK.f fbokb
  simp only [l01In_eq, Option.bind_some]
  by_cases h1 : a = 1
  · simp only [h1, if_true]
    by_cases p : 0 ≤ c ∧ c ≤ 2147483647
    · by_cases q : 0 ≤ d ∧ d ≤ 2147483647
      · cases b
        · by_cases c0 : c = 0
          · by_cases d0 : d = 0 <;> simp [p, q, c0, d0]
          · simp [p, q, c0]
        · simp [p, q]
      · simp [p, q]
        omega
    · simp [p]
      omega
  · by_cases h2 : a = 2
    · subst h2
      by_cases c0 : c = 0 <;> simp [c0]
    · by_cases h3 : a = 3
      · subst h3
        by_cases c0 : c = 0 <;> simp [c0]
        by_cases d0 : d = 0 <;> simp [d0]
      · by_cases h4 : a = 4
        · subst h4
          by_cases c0 : c = 0 <;> simp [c0]
          by_cases d0 : d = 0 <;> simp [d0]
        · simp [h1, h2, h3, h4]
theorem impl_fbok (k : Nat) (hk : 1 ≤ k) (a : Int) (b : Bool) (c d : Int) : impl_FbOK.f k a b c d = some (fbokb a b c d) := by
  obtain ⟨k, rfl⟩ : ∃ m, k = m + 1 := ⟨k - 1, by omega⟩
  unfold impl_FbOK.f fbokb
  simp only [isTime_eq, Option.bind_some, impl_FbOK.j0]
  by_cases p : 0 ≤ c ∧ c ≤ 2147483647
  · by_cases q : 0 ≤ d ∧ d ≤ 2147483647
    · by_cases h1 : a = 1
      · cases b
        · by_cases c0 : c = 0
          · by_cases d0 : d = 0 <;> simp [p, q, h1, c0, d0]
          · simp [p, q, h1, c0]
        · simp [p, q, h1]
      · by_cases h2 : a = 2
        · subst h2
          by_cases c0 : c = 0 <;> simp [p, q, c0]
        · by_cases h3 : a = 3
          · subst h3
            by_cases c0 : c = 0 <;> simp [p, q, c0]
            by_cases d0 : d = 0 <;> simp [d0]
          · by_cases h4 : a = 4
            · subst h4
              by_cases c0 : c = 0 <;> simp [p, q, c0]
              by_cases d0 : d = 0 <;> simp [d0]
            · simp [p, q, h1, h2, h3, h4]
    · have e : (decide (0 ≤ d ∧ d ≤ 2147483647)) = false := by simpa using q
      have z : ¬ d = 0 := by omega
      simp [p, e, z]
      intros
      omega
  · have e : (decide (0 ≤ c ∧ c ≤ 2147483647)) = false := by simpa using p
    have z : ¬ c = 0 := by omega
    simp [e, z]
    intros
    omega

theorem step_some (k : Int) (o : Bool) (s c : Int) (a b : Bool) (n now : Int) : ∃ r, spec_l03Step.f k o s c a b n now = some r := by
  unfold spec_l03Step.f spec_l03Timer.f spec_l03Counter.f
  by_cases h1 : k = 1
  · simp only [h1, if_true]
    cases a <;> cases o <;> exact ⟨_, rfl⟩
  · by_cases h2 : k = 2
    · simp only [h2, if_true]
      cases a <;> cases o <;> cases b <;> exact ⟨_, rfl⟩
    · by_cases h3 : k = 3
      · simp only [h3, if_true]
        cases a <;> exact ⟨_, rfl⟩
      · rw [if_neg h1, if_neg h2, if_neg h3]
        cases a <;> cases o <;> exact ⟨_, rfl⟩
theorem step_same (k : Int) (o : Bool) (s c : Int) (a b : Bool) (n now : Int) : impl_Fb_step.f k o s c a b n now = (spec_l03Step.f k o s c a b n now).bind fun t => some (t.2.2.2.2, t.1, t.2.1, t.2.2.1, t.2.2.2.1) := by
  unfold impl_Fb_step.f spec_l03Step.f spec_l03Timer.f spec_l03Counter.f
  by_cases h1 : k = 1
  · simp only [h1, if_true]
    cases a <;> cases o <;> rfl
  · by_cases h2 : k = 2
    · simp only [h2, if_true]
      cases a <;> cases o <;> cases b <;> rfl
    · by_cases h3 : k = 3
      · simp only [h3, if_true]
        cases a <;> rfl
      · rw [if_neg h1, if_neg h2, if_neg h3, if_neg h1, if_neg h2, if_neg h3]
        cases a <;> cases o <;> rfl
/-- What StepBlock answers. -/
theorem stepBlock_eq (k : Nat) (hk : 3 ≤ k) (kd : Int) (o : Bool) (s c : Int) (a b : Bool) (n now : Int) :
    impl_StepBlock.f k kd o s c a b n now = spec_StepBlock.f kd o s c a b n now := by
  obtain ⟨r, hr⟩ := step_some kd o s c a b n now
  unfold impl_StepBlock.f spec_StepBlock.f
  simp only [impl_fbok k (by omega), spec_fbok, isTime_eq, isValue_eq, l01Int_eq, l01In_eq, when_eq, Option.bind_some, step_same, hr]
  rw [first_eq _ (by simp) _ (by simp; omega), first_eq _ (by simp) _ (by simp; omega)]
  generalize fbokb kd o s c = x
  generalize decide (-2147483648 ≤ n ∧ n ≤ 2147483647) = y
  generalize decide (0 ≤ now ∧ now ≤ 2147483647) = z
  cases x <;> cases y <;> cases z <;> simp [fnz]

theorem eqFb_refl (a : Int) (b : Bool) (c d : Int) : laws_eqFb.f a b c d a b c d = some true := by
  unfold laws_eqFb.f
  simp
theorem FnExactStepBlock : laws_FnExactStepBlock.Pure := by
  intro x a b n now _ _ _ _ _
  refine ⟨3, ?_⟩
  unfold laws_FnExactStepBlock.f laws_toFb.f
  simp only [Option.bind_some, stepBlock_eq 3 (by omega)]
  obtain ⟨r, hr⟩ := step_some x.f0 x.f1 x.f2 x.f3 a b n now
  have hs : ∃ r, spec_StepBlock.f x.f0 x.f1 x.f2 x.f3 a b n now = some r := by
    unfold spec_StepBlock.f
    simp only [spec_fbok, l01Int_eq, l01In_eq, Option.bind_some, hr]
    generalize fbokb x.f0 x.f1 x.f2 x.f3 = p
    generalize decide (-2147483648 ≤ n ∧ n ≤ 2147483647) = y
    generalize decide (0 ≤ now ∧ now ≤ 2147483647) = z
    cases p <;> cases y <;> cases z <;> exact ⟨_, rfl⟩
  obtain ⟨r, hr⟩ := hs
  simp only [hr, Option.bind_some, eqFb_refl, if_true, bne_self_eq_false]
  rfl


end Go.Proofs.Ytagfalmpanlabaa.Pure

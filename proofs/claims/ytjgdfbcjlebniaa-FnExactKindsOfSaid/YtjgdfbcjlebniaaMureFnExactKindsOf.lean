/- Proved: the pure statement behind the law FnExactKindsOf of the given program: for every input that the row lets in, the program's answer and the reference's agree and the law returns true. Conditions: none beyond the row's own. -/
import Derived.Test.YtjgdfbcjlebniaaMFnExactKindsOfx14
set_option linter.unusedVariables false
set_option linter.unusedSimpArgs false
namespace Go.Proofs.Ytjgdfbcjlebniaa.Pure
open Go.RowKit Go.Proofs.Ytjgdfbcjlebniaa.MFnExactKindsOf Go.Proofs.YtjgdfbcjlebniaaW.PrintWords Go.Proofs.YtjgdfbcjlebniaaW.PrintLast

theorem within_eq (a lo hi : Int) : impl_within.f a lo hi = some (decide (lo ≤ a ∧ a ≤ hi)) := by
  unfold impl_within.f
  by_cases h : a ≥ lo
  · have h' : lo ≤ a := h
    simp [h, h']
  · have h' : ¬ lo ≤ a := h
    simp [h, h']

theorem l01In_eq (a lo hi : Int) : spec_l01In.f a lo hi = some (decide (lo ≤ a ∧ a ≤ hi)) := by
  unfold spec_l01In.f
  by_cases h : a ≥ lo
  · have h' : lo ≤ a := h
    simp [h, h']
  · have h' : ¬ lo ≤ a := h
    simp [h, h']

theorem isValue_eq (a : Int) : impl_isValue.f a = some (decide (-2147483648 ≤ a ∧ a ≤ 2147483647)) := by
  unfold impl_isValue.f; rw [within_eq]; rfl

theorem l01Int_eq (a : Int) : spec_l01Int.f a = some (decide (-2147483648 ≤ a ∧ a ≤ 2147483647)) := by
  unfold spec_l01Int.f; rw [l01In_eq]; rfl

def fbokb (kind : Int) (on : Bool) (start count : Int) : Bool :=
  if kind = 1 then decide (0 ≤ start ∧ start ≤ 2147483647 ∧ 0 ≤ count ∧ count ≤ 2147483647 ∧ (on = true ∨ (start = 0 ∧ count = 0)))
  else if kind = 2 then decide (start = 0 ∧ 0 ≤ count ∧ count ≤ 2147483647)
  else if kind = 3 ∨ kind = 4 then decide (start = 0 ∧ count = 0) else false
theorem isTime_eq (a : Int) : impl_isTime.f a = some (decide (0 ≤ a ∧ a ≤ 2147483647)) := by
  unfold impl_isTime.f; rw [within_eq]; rfl
theorem spec_fbok (a : Int) (b : Bool) (c d : Int) : spec_FbOK.f a b c d = some (fbokb a b c d) := by
  unfold spec_FbOK.f fbokb
  simp only [l01In_eq, Option.bind_some]
  by_cases h1 : a = 1
  · simp only [h1, if_true]
    by_cases p : 0 ≤ c ∧ c ≤ 2147483647
    · by_cases q : 0 ≤ d ∧ d ≤ 2147483647
      · cases b
        · by_cases c0 : c = 0
          · by_cases d0 : d = 0 <;> simp [p, q, c0, d0]
          · simp [p, q, c0]
        · simp [p, q]
      · simp [p, q]
        omega
    · simp [p]
      omega
  · by_cases h2 : a = 2
    · subst h2
      by_cases c0 : c = 0 <;> simp [c0]
    · by_cases h3 : a = 3
      · subst h3
        by_cases c0 : c = 0 <;> simp [c0]
        by_cases d0 : d = 0 <;> simp [d0]
      · by_cases h4 : a = 4
        · subst h4
          by_cases c0 : c = 0 <;> simp [c0]
          by_cases d0 : d = 0 <;> simp [d0]
        · simp [h1, h2, h3, h4]
theorem impl_fbok (k : Nat) (hk : 1 ≤ k) (a : Int) (b : Bool) (c d : Int) : impl_FbOK.f k a b c d = some (fbokb a b c d) := by
  obtain ⟨k, rfl⟩ : ∃ m, k = m + 1 := ⟨k - 1, by omega⟩
  unfold impl_FbOK.f fbokb
  simp only [isTime_eq, Option.bind_some, impl_FbOK.j0]
  by_cases p : 0 ≤ c ∧ c ≤ 2147483647
  · by_cases q : 0 ≤ d ∧ d ≤ 2147483647
    · by_cases h1 : a = 1
      · cases b
        · by_cases c0 : c = 0
          · by_cases d0 : d = 0 <;> simp [p, q, h1, c0, d0]
          · simp [p, q, h1, c0]
        · simp [p, q, h1]
      · by_cases h2 : a = 2
        · subst h2
          by_cases c0 : c = 0 <;> simp [p, q, c0]
        · by_cases h3 : a = 3
          · subst h3
            by_cases c0 : c = 0 <;> simp [p, q, c0]
            by_cases d0 : d = 0 <;> simp [d0]
          · by_cases h4 : a = 4
            · subst h4
              by_cases c0 : c = 0 <;> simp [p, q, c0]
              by_cases d0 : d = 0 <;> simp [d0]
            · simp [p, q, h1, h2, h3, h4]
    · have e : (decide (0 ≤ d ∧ d ≤ 2147483647)) = false := by simpa using q
      have z : ¬ d = 0 := by omega
      simp [p, e, z]
      intros
      omega
  · have e : (decide (0 ≤ c ∧ c ≤ 2147483647)) = false := by simpa using p
    have z : ¬ c = 0 := by omega
    simp [e, z]
    intros
    omega

theorem toIntS_from (l : List Int) (hl : l.length ≤ 1048576) : ∀ (d k i : Nat) (acc : List Int), l.length - i ≤ d → d < k → i ≤ l.length → acc.length = l.length → (∀ j, j < i → acc[j]? = l[j]?) → laws_toIntS.l0 k l acc (i : Int) = some l := by
  intro d
  induction d with
  | zero =>
    intro k i acc hd hk hi hlen hA
    obtain ⟨k, rfl⟩ : ∃ m, k = m + 1 := ⟨k - 1, by omega⟩
    simp only [laws_toIntS.l0]
    rw [if_neg (by omega)]
    congr 1
    apply List.ext_getElem?
    intro j
    by_cases h : j < i
    · exact hA j h
    · rw [List.getElem?_eq_none (by omega), List.getElem?_eq_none (by omega)]
  | succ d ih =>
    intro k i acc hd hk hi hlen hA
    obtain ⟨k, rfl⟩ : ∃ m, k = m + 1 := ⟨k - 1, by omega⟩
    simp only [laws_toIntS.l0]
    by_cases h : i < l.length
    · rw [if_pos (by omega), if_pos (by omega), if_pos (by omega)]
      have hw : wrap64 ((i : Int) + 1) = ((i + 1 : Nat) : Int) := by unfold wrap64; omega
      rw [hw]
      refine ih k (i + 1) _ (by omega) (by omega) (by omega) (by simp [hlen]) (fun j hj => ?_)
      have e : rd l (i : Int) = l[i] := by simp [rd, List.getD_eq_getElem?_getD, h]
      rw [e, Int.toNat_natCast, List.getElem?_set]
      by_cases hji : i = j
      · subst hji
        rw [if_pos rfl, if_pos (by omega), List.getElem?_eq_getElem h]
      · rw [if_neg hji]
        exact hA j (by omega)
    · rw [if_neg (by omega)]
      congr 1
      apply List.ext_getElem?
      intro j
      by_cases h2 : j < i
      · exact hA j h2
      · rw [List.getElem?_eq_none (by omega), List.getElem?_eq_none (by omega)]
theorem toIntS_eq (l : List Int) (hl : l.length ≤ 1048576) (k : Nat) (hk : l.length < k) : laws_toIntS.f k l = some l := by
  unfold laws_toIntS.f
  rw [if_pos (by omega), if_pos (by omega)]
  exact toIntS_from l hl l.length k 0 _ (by omega) hk (by omega) (by simp) (fun j hj => by omega)
theorem eqIntS_from (l : List Int) (hl : l.length ≤ 1048576) : ∀ (d k i : Nat), l.length - i ≤ d → d < k → i ≤ l.length → laws_eqIntS.l0 k l l (i : Int) = some true := by
  intro d
  induction d with
  | zero =>
    intro k i hd hk hi
    obtain ⟨k, rfl⟩ : ∃ m, k = m + 1 := ⟨k - 1, by omega⟩
    simp only [laws_eqIntS.l0]
    rw [if_neg (by omega)]
  | succ d ih =>
    intro k i hd hk hi
    obtain ⟨k, rfl⟩ : ∃ m, k = m + 1 := ⟨k - 1, by omega⟩
    simp only [laws_eqIntS.l0]
    by_cases h : i < l.length
    · have hw : wrap64 ((i : Int) + 1) = ((i + 1 : Nat) : Int) := by unfold wrap64; omega
      rw [if_pos (by omega), if_pos (by omega), hw, ih k (i + 1) (by omega) (by omega) (by omega)]
      simp only [show ((i : Int) < (l.length : Int)) from by omega, if_true]
    · rw [if_neg (by omega)]
theorem eqIntS_same (l : List Int) (hl : l.length ≤ 1048576) (k : Nat) (hk : l.length < k) : laws_eqIntS.f k l l = some true := by
  unfold laws_eqIntS.f
  rw [if_pos rfl]
  exact eqIntS_from l hl l.length k 0 (by omega) hk (by omega)

theorem toBoolS_from (l : List Bool) (hl : l.length ≤ 1048576) : ∀ (d k i : Nat) (acc : List Bool), l.length - i ≤ d → d < k → i ≤ l.length → acc.length = l.length → (∀ j, j < i → acc[j]? = l[j]?) → laws_toBoolS.l0 k l acc (i : Int) = some l := by
  intro d
  induction d with
  | zero =>
    intro k i acc hd hk hi hlen hA
    obtain ⟨k, rfl⟩ : ∃ m, k = m + 1 := ⟨k - 1, by omega⟩
    simp only [laws_toBoolS.l0]
    rw [if_neg (by omega)]
    congr 1
    apply List.ext_getElem?
    intro j
    by_cases h : j < i
    · exact hA j h
    · rw [List.getElem?_eq_none (by omega), List.getElem?_eq_none (by omega)]
  | succ d ih =>
    intro k i acc hd hk hi hlen hA
    obtain ⟨k, rfl⟩ : ∃ m, k = m + 1 := ⟨k - 1, by omega⟩
    simp only [laws_toBoolS.l0]
    by_cases h : i < l.length
    · rw [if_pos (by omega), if_pos (by omega), if_pos (by omega)]
      have hw : wrap64 ((i : Int) + 1) = ((i + 1 : Nat) : Int) := by unfold wrap64; omega
      rw [hw]
      refine ih k (i + 1) _ (by omega) (by omega) (by omega) (by simp [hlen]) (fun j hj => ?_)
      have e : rdOf false l (i : Int) = l[i] := by simp [rdOf, List.getD_eq_getElem?_getD, h]
      rw [e, Int.toNat_natCast, List.getElem?_set]
      by_cases hji : i = j
      · subst hji
        rw [if_pos rfl, if_pos (by omega), List.getElem?_eq_getElem h]
      · rw [if_neg hji]
        exact hA j (by omega)
    · rw [if_neg (by omega)]
      congr 1
      apply List.ext_getElem?
      intro j
      by_cases h2 : j < i
      · exact hA j h2
      · rw [List.getElem?_eq_none (by omega), List.getElem?_eq_none (by omega)]
theorem toBoolS_eq (l : List Bool) (hl : l.length ≤ 1048576) (k : Nat) (hk : l.length < k) : laws_toBoolS.f k l = some l := by
  unfold laws_toBoolS.f
  rw [if_pos (by omega), if_pos (by omega)]
  exact toBoolS_from l hl l.length k 0 _ (by omega) hk (by omega) (by simp) (fun j hj => by omega)
theorem eqBoolS_from (l : List Bool) (hl : l.length ≤ 1048576) : ∀ (d k i : Nat), l.length - i ≤ d → d < k → i ≤ l.length → laws_eqBoolS.l0 k l l (i : Int) = some true := by
  intro d
  induction d with
  | zero =>
    intro k i hd hk hi
    obtain ⟨k, rfl⟩ : ∃ m, k = m + 1 := ⟨k - 1, by omega⟩
    simp only [laws_eqBoolS.l0]
    rw [if_neg (by omega)]
  | succ d ih =>
    intro k i hd hk hi
    obtain ⟨k, rfl⟩ : ∃ m, k = m + 1 := ⟨k - 1, by omega⟩
    simp only [laws_eqBoolS.l0]
    by_cases h : i < l.length
    · have hw : wrap64 ((i : Int) + 1) = ((i + 1 : Nat) : Int) := by unfold wrap64; omega
      rw [if_pos (by omega), if_pos (by omega), hw, ih k (i + 1) (by omega) (by omega) (by omega)]
      simp only [show ((i : Int) < (l.length : Int)) from by omega, if_true, bne_self_eq_false, Bool.false_eq_true, if_false]
    · rw [if_neg (by omega)]
theorem eqBoolS_same (l : List Bool) (hl : l.length ≤ 1048576) (k : Nat) (hk : l.length < k) : laws_eqBoolS.f k l l = some true := by
  unfold laws_eqBoolS.f
  rw [if_pos rfl]
  exact eqBoolS_from l hl l.length k 0 (by omega) hk (by omega)

/-- The program's block for the law's. -/
def cvF (x : S122) : S77 := ⟨x.f0, x.f1, x.f2, x.f3⟩
theorem toFbS_from (l : List S122) (hl : l.length ≤ 1048576) : ∀ (d k i : Nat) (ys : List S77), l.length - i ≤ d → d < k → i ≤ l.length → ys.length = l.length → ys.take i = (l.take i).map cvF → laws_toFbS.l0 k l ys (i : Int) = some (l.map cvF) := by
  intro d
  induction d with
  | zero =>
    intro k i ys hd hk hi hy ht
    obtain ⟨k, rfl⟩ : ∃ m, k = m + 1 := ⟨k - 1, by omega⟩
    simp only [laws_toFbS.l0]
    rw [if_neg (by omega)]
    have e : i = l.length := by omega
    subst e
    rw [List.take_of_length_le (by omega), List.take_of_length_le (by omega)] at ht
    rw [ht]
  | succ d ih =>
    intro k i ys hd hk hi hy ht
    obtain ⟨k, rfl⟩ : ∃ m, k = m + 1 := ⟨k - 1, by omega⟩
    by_cases h : i < l.length
    · have hw : wrap64 ((i : Int) + 1) = ((i + 1 : Nat) : Int) := by unfold wrap64; omega
      have e : rd_T122 l (i : Int) = l[i] := by simp [rd_T122, List.getD_eq_getElem?_getD, h]
      conv => lhs; unfold laws_toFbS.l0
      rw [if_pos (by omega), if_pos (by omega), e]
      unfold laws_toFb.f
      simp only [Option.bind_some]
      rw [if_pos (by omega), hw]
      apply ih k (i + 1) _ (by omega) (by omega) (by omega) (by simpa using hy)
      have hi2 : i < ys.length := by omega
      have ei : ((i : Int)).toNat = i := by omega
      rw [ei]
      apply List.ext_getElem
      · simp; omega
      · intro j h1 h2
        simp only [List.length_take, List.length_set] at h1
        rw [List.getElem_take, List.getElem_set]
        by_cases hj : i = j
        · subst hj
          simp [cvF]
        · have hji : j < i := by omega
          rw [if_neg hj]
          have hh : (ys.take i)[j]? = ((l.take i).map cvF)[j]? := by rw [ht]
          simp [hji] at hh
          rw [List.getElem?_eq_getElem (by omega), List.getElem?_eq_getElem (by omega)] at hh
          simp at hh
          simp [hh]
    · conv => lhs; unfold laws_toFbS.l0
      rw [if_neg (by omega)]
      have e : i = l.length := by omega
      subst e
      rw [List.take_of_length_le (by omega), List.take_of_length_le (by omega)] at ht
      rw [ht]
theorem toFbS_eq (l : List S122) (hl : l.length ≤ 1048576) (k : Nat) (hk : l.length < k) : laws_toFbS.f k l = some (l.map cvF) := by
  unfold laws_toFbS.f
  rw [if_pos (by omega), if_pos (by omega)]
  have h := toFbS_from l hl l.length k 0 (List.replicate l.length z77) (by omega) hk (by omega) (by simp) (by simp)
  simpa using h
theorem eqFb_refl (a : Int) (b : Bool) (c d : Int) : laws_eqFb.f a b c d a b c d = some true := by
  unfold laws_eqFb.f
  simp
theorem eqFbS_from (l : List S77) (hl : l.length ≤ 1048576) : ∀ (d k i : Nat), l.length - i ≤ d → d < k → i ≤ l.length → laws_eqFbS.l0 k l l (i : Int) = some true := by
  intro d
  induction d with
  | zero =>
    intro k i hd hk hi
    obtain ⟨k, rfl⟩ : ∃ m, k = m + 1 := ⟨k - 1, by omega⟩
    simp only [laws_eqFbS.l0]
    rw [if_neg (by omega)]
  | succ d ih =>
    intro k i hd hk hi
    obtain ⟨k, rfl⟩ : ∃ m, k = m + 1 := ⟨k - 1, by omega⟩
    simp only [laws_eqFbS.l0]
    by_cases h : i < l.length
    · have hw : wrap64 ((i : Int) + 1) = ((i + 1 : Nat) : Int) := by unfold wrap64; omega
      rw [hw, ih k (i + 1) (by omega) (by omega) (by omega), eqFb_refl]
      rw [if_pos (by omega), if_pos (by omega), if_pos (by omega)]
      rfl
    · rw [if_neg (by omega)]
theorem eqFbS_eq (l : List S77) (hl : l.length ≤ 1048576) (k : Nat) (hk : l.length < k) : laws_eqFbS.f k l l = some true := by
  unfold laws_eqFbS.f
  rw [if_pos rfl]
  have h := eqFbS_from l hl l.length k 0 (by omega) hk (by omega)
  simpa using h

theorem impl_all_int_isValue_from (p : Int → Bool) (K : Nat) (hF : ∀ (k : Nat) (x : Int), K ≤ k → impl_isValue.f x = some (p x)) (l : List Int) (hl : l.length ≤ 1048576) : ∀ (d k i : Nat), l.length - i ≤ d → d + K < k → i ≤ l.length →
    ∃ j, impl_all_int_isValue.l0 k l (i : Int) = some j ∧ (!(decide (0 ≤ j))) = (l.drop i).all p := by
  intro d
  induction d with
  | zero =>
    intro k i hd hk hi
    obtain ⟨k, rfl⟩ : ∃ m, k = m + 1 := ⟨k - 1, by omega⟩
    refine ⟨-1, ?_, ?_⟩
    · simp only [impl_all_int_isValue.l0]
      rw [if_neg (by omega)]
    · rw [List.drop_of_length_le (by omega)]
      rfl
  | succ d ih =>
    intro k i hd hk hi
    obtain ⟨k, rfl⟩ : ∃ m, k = m + 1 := ⟨k - 1, by omega⟩
    by_cases h : i < l.length
    · have e : rd l (i : Int) = l[i] := by simp [rd, List.getD_eq_getElem?_getD, h]
      have hw : wrap64 ((i : Int) + 1) = ((i + 1 : Nat) : Int) := by unfold wrap64; omega
      obtain ⟨j, hj, hp⟩ := ih k (i + 1) (by omega) (by omega) (by omega)
      have hx := hF k l[i] (by omega)
      rw [List.drop_eq_getElem_cons h, List.all_cons]
      simp only [impl_all_int_isValue.l0]
      rw [if_pos (by omega), if_pos (by omega), e, hw, hx]
      simp only [Option.bind_some]
      cases p l[i] with
      | true => exact ⟨j, by rw [if_pos rfl]; exact hj, by simpa using hp⟩
      | false => exact ⟨(i : Int), by rw [if_neg (by decide)], by simp⟩
    · refine ⟨-1, ?_, ?_⟩
      · simp only [impl_all_int_isValue.l0]
        rw [if_neg (by omega)]
      · rw [List.drop_of_length_le (by omega)]
        rfl
theorem impl_all_int_isValue_eq (p : Int → Bool) (K : Nat) (hF : ∀ (k : Nat) (x : Int), K ≤ k → impl_isValue.f x = some (p x)) (l : List Int) (hl : l.length ≤ 1048576) (k : Nat) (hk : l.length + K < k) : impl_all_int_isValue.f k l = some (l.all p) := by
  obtain ⟨j, hj, hp⟩ := impl_all_int_isValue_from p K hF l hl l.length k 0 (by omega) (by omega) (by omega)
  unfold impl_all_int_isValue.f
  have hj' : impl_all_int_isValue.l0 k l 0 = some j := hj
  rw [hj']
  simp only [Option.bind_some]
  rw [hp]
  rfl

theorem impl_all_Fb_FbOK_from (p : S77 → Bool) (K : Nat) (hF : ∀ (k : Nat) (x : S77), K ≤ k → impl_FbOK.f k x.f0 x.f1 x.f2 x.f3 = some (p x)) (l : List S77) (hl : l.length ≤ 1048576) : ∀ (d k i : Nat), l.length - i ≤ d → d + K < k → i ≤ l.length →
    ∃ j, impl_all_Fb_FbOK.l0 k l (i : Int) = some j ∧ (!(decide (0 ≤ j))) = (l.drop i).all p := by
  intro d
  induction d with
  | zero =>
    intro k i hd hk hi
    obtain ⟨k, rfl⟩ : ∃ m, k = m + 1 := ⟨k - 1, by omega⟩
    refine ⟨-1, ?_, ?_⟩
    · simp only [impl_all_Fb_FbOK.l0]
      rw [if_neg (by omega)]
    · rw [List.drop_of_length_le (by omega)]
      rfl
  | succ d ih =>
    intro k i hd hk hi
    obtain ⟨k, rfl⟩ : ∃ m, k = m + 1 := ⟨k - 1, by omega⟩
    by_cases h : i < l.length
    · have e : rd_T77 l (i : Int) = l[i] := by simp [rd_T77, List.getD_eq_getElem?_getD, h]
      have hw : wrap64 ((i : Int) + 1) = ((i + 1 : Nat) : Int) := by unfold wrap64; omega
      obtain ⟨j, hj, hp⟩ := ih k (i + 1) (by omega) (by omega) (by omega)
      have hx := hF k l[i] (by omega)
      rw [List.drop_eq_getElem_cons h, List.all_cons]
      simp only [impl_all_Fb_FbOK.l0]
      rw [if_pos (by omega), if_pos (by omega), e, hw, hx]
      simp only [Option.bind_some]
      cases p l[i] with
      | true => exact ⟨j, by rw [if_pos rfl]; exact hj, by simpa using hp⟩
      | false => exact ⟨(i : Int), by rw [if_neg (by decide)], by simp⟩
    · refine ⟨-1, ?_, ?_⟩
      · simp only [impl_all_Fb_FbOK.l0]
        rw [if_neg (by omega)]
      · rw [List.drop_of_length_le (by omega)]
        rfl
theorem impl_all_Fb_FbOK_eq (p : S77 → Bool) (K : Nat) (hF : ∀ (k : Nat) (x : S77), K ≤ k → impl_FbOK.f k x.f0 x.f1 x.f2 x.f3 = some (p x)) (l : List S77) (hl : l.length ≤ 1048576) (k : Nat) (hk : l.length + K < k) : impl_all_Fb_FbOK.f k l = some (l.all p) := by
  obtain ⟨j, hj, hp⟩ := impl_all_Fb_FbOK_from p K hF l hl l.length k 0 (by omega) (by omega) (by omega)
  unfold impl_all_Fb_FbOK.f
  have hj' : impl_all_Fb_FbOK.l0 k l 0 = some j := hj
  rw [hj']
  simp only [Option.bind_some]
  rw [hp]
  rfl

def isV (a : Int) : Bool := decide (-2147483648 ≤ a ∧ a ≤ 2147483647)
def fbB (x : S77) : Bool := fbokb x.f0 x.f1 x.f2 x.f3
/-- What DataOK tells. -/
def dataB (g : List Int) (bl : List S77) (l p o w : List Bool) (wr : Int) : Bool :=
  decide (g.length = 16 ∧ bl.length ≤ 8 ∧ l.length = 8 ∧ p.length = 8 ∧ o.length = 8 ∧ w.length = 8 ∧ (0 ≤ wr ∧ wr ≤ 2147483647)) && (g.all isV && bl.all fbB)
theorem impl_data (g : List Int) (bl : List S77) (l p o w : List Bool) (wr : Int) (k : Nat) (hk : 40 ≤ k) : impl_DataOK.f k g bl l p o w wr = some (dataB g bl l p o w wr) := by
  unfold impl_DataOK.f dataB
  by_cases h1 : l.length = 8
  case neg => rw [if_neg h1, decide_eq_false (fun h => h1 h.2.2.1)]; rfl
  by_cases h2 : p.length = 8
  case neg => rw [if_pos h1, if_neg h2, decide_eq_false (fun h => h2 h.2.2.2.1)]; rfl
  by_cases h3 : o.length = 8
  case neg => rw [if_pos h1, if_pos h2, if_neg h3, decide_eq_false (fun h => h3 h.2.2.2.2.1)]; rfl
  by_cases h4 : w.length = 8
  case neg => rw [if_pos h1, if_pos h2, if_pos h3, if_neg h4, decide_eq_false (fun h => h4 h.2.2.2.2.2.1)]; rfl
  by_cases h5 : g.length = 16
  case neg => rw [if_pos h1, if_pos h2, if_pos h3, if_pos h4, if_neg h5, decide_eq_false (fun h => h5 h.1)]; rfl
  rw [if_pos h1, if_pos h2, if_pos h3, if_pos h4, if_pos h5]
  rw [impl_all_int_isValue_eq isV 0 (fun k x _ => isValue_eq x) g (by omega) k (by omega)]
  simp only [Option.bind_some]
  by_cases h6 : bl.length ≤ 8
  · rw [if_pos h6, impl_all_Fb_FbOK_eq fbB 1 (fun k x hk => impl_fbok k hk _ _ _ _) bl (by omega) k (by omega), isTime_eq]
    simp only [Option.bind_some]
    by_cases h7 : 0 ≤ wr ∧ wr ≤ 2147483647
    · rw [decide_eq_true h7, decide_eq_true (show _ from ⟨h5, h6, h1, h2, h3, h4, h7⟩)]
      cases g.all isV <;> cases bl.all fbB <;> rfl
    · rw [decide_eq_false h7, decide_eq_false (fun h => h7 h.2.2.2.2.2.2)]
      cases g.all isV <;> cases bl.all fbB <;> rfl
  · rw [if_neg h6, decide_eq_false (fun h => h6 h.2.1)]
    cases g.all isV <;> rfl
theorem specData_l1 (g : List Int) (bl : List S77) (l p o w : List Bool) (wr : Int) (hb : bl.length ≤ 8) : ∀ (d k i : Nat), bl.length - i ≤ d → d < k → i ≤ bl.length → spec_DataOK.l1 k (i : Int) g bl l p o w wr = some ((bl.drop i).all fbB) := by
  intro d
  induction d with
  | zero =>
    intro k i hd hk hi
    obtain ⟨k, rfl⟩ : ∃ m, k = m + 1 := ⟨k - 1, by omega⟩
    simp only [spec_DataOK.l1]
    rw [if_neg (by omega), List.drop_of_length_le (by omega)]
    rfl
  | succ d ih =>
    intro k i hd hk hi
    obtain ⟨k, rfl⟩ : ∃ m, k = m + 1 := ⟨k - 1, by omega⟩
    simp only [spec_DataOK.l1]
    by_cases h : i < bl.length
    · have e : rd_T77 bl (i : Int) = bl[i] := by simp [rd_T77, List.getD_eq_getElem?_getD, h]
      have hw : wrap64 ((i : Int) + 1) = ((i + 1 : Nat) : Int) := by unfold wrap64; omega
      rw [if_pos (by omega), if_pos (by omega), e, hw, ih k (i + 1) (by omega) (by omega) (by omega), spec_fbok, List.drop_eq_getElem_cons h, List.all_cons]
      simp only [Option.bind_some]
      show (if fbB bl[i] = true then _ else _) = _
      cases fbB bl[i] <;> rfl
    · rw [if_neg (by omega), List.drop_of_length_le (by omega)]
      rfl
theorem specData_l0 (g : List Int) (bl : List S77) (l p o w : List Bool) (wr : Int) (hg : g.length ≤ 16) (hb : bl.length ≤ 8) : ∀ (d k i : Nat), g.length - i ≤ d → d + 10 < k → i ≤ g.length → spec_DataOK.l0 k (i : Int) g bl l p o w wr = some ((g.drop i).all isV && bl.all fbB) := by
  intro d
  have l1 : ∀ k, 9 < k → spec_DataOK.l1 k 0 g bl l p o w wr = some (bl.all fbB) := fun k hk => by
    have := specData_l1 g bl l p o w wr hb bl.length k 0 (by omega) (by omega) (by omega)
    simpa using this
  induction d with
  | zero =>
    intro k i hd hk hi
    obtain ⟨k, rfl⟩ : ∃ m, k = m + 1 := ⟨k - 1, by omega⟩
    simp only [spec_DataOK.l0]
    rw [if_neg (by omega), List.drop_of_length_le (by omega), l1 k (by omega)]
    rfl
  | succ d ih =>
    intro k i hd hk hi
    obtain ⟨k, rfl⟩ : ∃ m, k = m + 1 := ⟨k - 1, by omega⟩
    simp only [spec_DataOK.l0]
    by_cases h : i < g.length
    · have e : rd g (i : Int) = g[i] := by simp [rd, List.getD_eq_getElem?_getD, h]
      have hw : wrap64 ((i : Int) + 1) = ((i + 1 : Nat) : Int) := by unfold wrap64; omega
      rw [if_pos (by omega), if_pos (by omega), e, hw, ih k (i + 1) (by omega) (by omega) (by omega), l01Int_eq, List.drop_eq_getElem_cons h, List.all_cons]
      simp only [Option.bind_some]
      show (if isV g[i] = true then _ else _) = _
      cases isV g[i] <;> rfl
    · rw [if_neg (by omega), List.drop_of_length_le (by omega), l1 k (by omega)]
      rfl
theorem spec_data (g : List Int) (bl : List S77) (l p o w : List Bool) (wr : Int) (k : Nat) (hk : 40 ≤ k) : spec_DataOK.f k g bl l p o w wr = some (dataB g bl l p o w wr) := by
  obtain ⟨k, rfl⟩ : ∃ m, k = m + 1 := ⟨k - 1, by omega⟩
  have no : ∀ b, b = true → spec_DataOK.j0 (k + 1) b g bl l p o w wr = some false := by
    intro b hb
    subst hb
    rfl
  unfold spec_DataOK.f dataB
  by_cases h5 : (g.length : Int) = 16
  case neg => rw [if_neg h5, decide_eq_false (fun h => h5 (by omega)), no _ rfl]; rfl
  by_cases h6 : (bl.length : Int) > 8
  · rw [if_pos h5, if_pos h6, decide_eq_false (fun h => by omega), no _ rfl]; rfl
  by_cases h1 : (l.length : Int) = 8
  case neg => rw [if_pos h5, if_neg h6, if_neg h1, decide_eq_false (fun h => h1 (by omega)), no _ rfl]; rfl
  by_cases h2 : (p.length : Int) = 8
  case neg => rw [if_pos h5, if_neg h6, if_pos h1, if_neg h2, decide_eq_false (fun h => h2 (by omega)), no _ rfl]; rfl
  by_cases h3 : (o.length : Int) = 8
  case neg => rw [if_pos h5, if_neg h6, if_pos h1, if_pos h2, if_neg h3, decide_eq_false (fun h => h3 (by omega)), no _ rfl]; rfl
  by_cases h4 : (w.length : Int) = 8
  case neg => rw [if_pos h5, if_neg h6, if_pos h1, if_pos h2, if_pos h3, if_neg h4, decide_eq_false (fun h => h4 (by omega)), no _ rfl]; rfl
  rw [if_pos h5, if_neg h6, if_pos h1, if_pos h2, if_pos h3, if_pos h4, l01In_eq]
  simp only [Option.bind_some]
  by_cases h7 : 0 ≤ wr ∧ wr ≤ 2147483647
  · have e : decide (g.length = 16 ∧ bl.length ≤ 8 ∧ l.length = 8 ∧ p.length = 8 ∧ o.length = 8 ∧ w.length = 8 ∧ (0 ≤ wr ∧ wr ≤ 2147483647)) = true := decide_eq_true (by omega)
    rw [decide_eq_true h7, e]
    have h0 := specData_l0 g bl l p o w wr (by omega) (by omega) g.length k 0 (by omega) (by omega) (by omega)
    show spec_DataOK.l0 k 0 g bl l p o w wr = _
    simpa using h0
  · rw [decide_eq_false h7, no (!false) rfl, decide_eq_false (fun h => h7 h.2.2.2.2.2.2)]
    rfl
/-- What is left of a budget. -/
def left (n : Nat) (b : Int) : Int := if (n : Int) ≤ b then b - n else -1
theorem left_eq (n : Nat) (hn : n ≤ maxLen) (b : Int) (hb : 0 ≤ b ∧ b ≤ 1048576) : (if (wrap64 (b - (n : Int))) < 0 then (some (-1 : Int)) else (some (wrap64 (b - (n : Int))))) = some (left n b) := by
  have hm : (n : Int) ≤ 9223372036854775807 := by have : maxLen ≤ 9223372036854775807 := by decide
                                                  omega
  have hw : wrap64 (b - (n : Int)) = b - n := by unfold wrap64; omega
  rw [hw]
  unfold left
  by_cases h : (n : Int) ≤ b
  · rw [if_pos h, if_neg (by omega)]
  · rw [if_neg h, if_pos (by omega)]
theorem left_le (n : Nat) (b : Int) (h : ¬ left n b < 0) : (n : Int) ≤ b ∧ left n b = b - n := by
  unfold left at *
  by_cases g : (n : Int) ≤ b
  · rw [if_pos g]; exact ⟨g, rfl⟩
  · rw [if_neg g] at h; omega
theorem szData_cases (g : List Int) (bl : List S122) (l p o w : List Bool) (wr : Int) (hg : g.length ≤ maxLen) (hb : bl.length ≤ maxLen) (hl : l.length ≤ maxLen) (hp : p.length ≤ maxLen) (ho : o.length ≤ maxLen) (hw : w.length ≤ maxLen) :
    ∃ t, laws_szData.f g bl l p o w wr 1048576 = some t ∧ (¬ t < 0 → g.length ≤ 1048576 ∧ bl.length ≤ 1048576 ∧ l.length ≤ 1048576 ∧ p.length ≤ 1048576 ∧ o.length ≤ 1048576 ∧ w.length ≤ 1048576) := by
  unfold laws_szData.f laws_szIntS.f laws_szFbS.f laws_szBoolS.f
  rw [left_eq _ hg 1048576 (by omega)]
  simp only [Option.bind_some]
  by_cases c1 : left g.length 1048576 < 0
  · exact ⟨-1, by rw [if_pos c1], fun h => absurd (by decide) h⟩
  have d1 := left_le _ _ c1
  rw [if_neg c1, left_eq _ hb _ (by omega)]
  simp only [Option.bind_some]
  by_cases c2 : left bl.length (left g.length 1048576) < 0
  · exact ⟨-1, by rw [if_pos c2], fun h => absurd (by decide) h⟩
  have d2 := left_le _ _ c2
  rw [if_neg c2, left_eq _ hl _ (by omega)]
  simp only [Option.bind_some]
  by_cases c3 : left l.length (left bl.length (left g.length 1048576)) < 0
  · exact ⟨-1, by rw [if_pos c3], fun h => absurd (by decide) h⟩
  have d3 := left_le _ _ c3
  rw [if_neg c3, left_eq _ hp _ (by omega)]
  simp only [Option.bind_some]
  by_cases c4 : left p.length (left l.length (left bl.length (left g.length 1048576))) < 0
  · exact ⟨-1, by rw [if_pos c4], fun h => absurd (by decide) h⟩
  have d4 := left_le _ _ c4
  rw [if_neg c4, left_eq _ ho _ (by omega)]
  simp only [Option.bind_some]
  by_cases c5 : left o.length (left p.length (left l.length (left bl.length (left g.length 1048576)))) < 0
  · exact ⟨-1, by rw [if_pos c5], fun h => absurd (by decide) h⟩
  have d5 := left_le _ _ c5
  rw [if_neg c5, left_eq _ hw _ (by omega)]
  simp only [Option.bind_some]
  by_cases c6 : left w.length (left o.length (left p.length (left l.length (left bl.length (left g.length 1048576))))) < 0
  · exact ⟨-1, by rw [if_pos c6], fun h => absurd (by decide) h⟩
  have d6 := left_le _ _ c6
  rw [if_neg c6]
  exact ⟨_, rfl, fun _ => by omega⟩
theorem toData_eq (g : List Int) (bl : List S122) (l p o w : List Bool) (wr : Int) (k : Nat) (hk : g.length + bl.length + l.length + p.length + o.length + w.length < k)
    (h : g.length ≤ 1048576 ∧ bl.length ≤ 1048576 ∧ l.length ≤ 1048576 ∧ p.length ≤ 1048576 ∧ o.length ≤ 1048576 ∧ w.length ≤ 1048576) :
    laws_toData.f k g bl l p o w wr = some (g, bl.map cvF, l, p, o, w, wr) := by
  unfold laws_toData.f
  rw [toIntS_eq g h.1 k (by omega), toFbS_eq bl h.2.1 k (by omega), toBoolS_eq l h.2.2.1 k (by omega), toBoolS_eq p h.2.2.2.1 k (by omega), toBoolS_eq o h.2.2.2.2.1 k (by omega), toBoolS_eq w h.2.2.2.2.2 k (by omega)]
  rfl
theorem eqData_same (g : List Int) (bl : List S77) (l p o w : List Bool) (wr : Int) (k : Nat) (hk : g.length + bl.length + l.length + p.length + o.length + w.length < k)
    (h : g.length ≤ 1048576 ∧ bl.length ≤ 1048576 ∧ l.length ≤ 1048576 ∧ p.length ≤ 1048576 ∧ o.length ≤ 1048576 ∧ w.length ≤ 1048576) :
    laws_eqData.f k g bl l p o w wr g bl l p o w wr = some true := by
  unfold laws_eqData.f
  rw [eqIntS_same g h.1 k (by omega), eqFbS_eq bl h.2.1 k (by omega), eqBoolS_same l h.2.2.1 k (by omega), eqBoolS_same p h.2.2.2.1 k (by omega), eqBoolS_same o h.2.2.2.2.1 k (by omega), eqBoolS_same w h.2.2.2.2.2 k (by omega)]
  simp

theorem markIntS_from : ∀ (d k i : Nat) (l : List Int) (a b : Int), l.length - i ≤ d → d < k → i ≤ l.length → l.length ≤ 1048576 → 0 ≤ a → a ≤ 100000000 → b = a + i → (∀ j : Nat, j < i → l[j]? = some (a + j)) →
    ∃ l', laws_markIntS.l0 k l b (i : Int) = some (a + l.length, l') ∧ l'.length = l.length ∧ ∀ j : Nat, j < l.length → l'[j]? = some (a + j) := by
  intro d
  induction d with
  | zero =>
    intro k i l a b hd hk hi hl h0 h1 hb hA
    obtain ⟨k, rfl⟩ : ∃ m, k = m + 1 := ⟨k - 1, by omega⟩
    simp only [laws_markIntS.l0]
    rw [if_neg (by omega)]
    have e : i = l.length := by omega
    subst e
    exact ⟨l, by rw [hb], rfl, hA⟩
  | succ d ih =>
    intro k i l a b hd hk hi hl h0 h1 hb hA
    obtain ⟨k, rfl⟩ : ∃ m, k = m + 1 := ⟨k - 1, by omega⟩
    simp only [laws_markIntS.l0]
    by_cases h : i < l.length
    · have hw : wrap64 ((i : Int) + 1) = ((i + 1 : Nat) : Int) := by unfold wrap64; omega
      have hw2 : wrap64 (b + 1) = b + 1 := by unfold wrap64; omega
      rw [if_pos (by omega), if_pos (by omega), hw, hw2, Int.toNat_natCast]
      have hs := ih k (i + 1) (l.set i b) a (b + 1) (by simp; omega) (by omega) (by simp; omega) (by simpa using hl) h0 h1 (by omega) (fun j hj => by
        rw [List.getElem?_set]
        by_cases hji : i = j
        · subst hji
          rw [if_pos rfl, if_pos h, hb]
        · rw [if_neg hji]
          exact hA j (by omega))
      simpa using hs
    · rw [if_neg (by omega)]
      have e : i = l.length := by omega
      subst e
      exact ⟨l, by rw [hb], rfl, hA⟩
theorem markIntS_eq (l : List Int) (hl : l.length ≤ 1048576) (a : Int) (h0 : 0 ≤ a) (h1 : a ≤ 100000000) (k : Nat) (hk : l.length < k) :
    ∃ l', laws_markIntS.f k l a = some (a + l.length, l') ∧ l'.length = l.length ∧ ∀ j : Nat, j < l.length → l'[j]? = some (a + j) :=
  markIntS_from l.length k 0 l a a (by omega) hk (by omega) hl h0 h1 (by simp) (fun j hj => by omega)
theorem heldIntS_from (l : List Int) (hl : l.length ≤ 1048576) (a : Int) (h0 : 0 ≤ a) (h1 : a ≤ 100000000) (hA : ∀ j : Nat, j < l.length → l[j]? = some (a + j)) : ∀ (d k i : Nat), l.length - i ≤ d → d < k → i ≤ l.length → laws_heldIntS.l0 k l (a + i) (i : Int) = some (a + l.length) := by
  intro d
  induction d with
  | zero =>
    intro k i hd hk hi
    obtain ⟨k, rfl⟩ : ∃ m, k = m + 1 := ⟨k - 1, by omega⟩
    simp only [laws_heldIntS.l0]
    rw [if_neg (by omega)]
    have e : i = l.length := by omega
    rw [e]
  | succ d ih =>
    intro k i hd hk hi
    obtain ⟨k, rfl⟩ : ∃ m, k = m + 1 := ⟨k - 1, by omega⟩
    simp only [laws_heldIntS.l0]
    by_cases h : i < l.length
    · have hw : wrap64 ((i : Int) + 1) = ((i + 1 : Nat) : Int) := by unfold wrap64; omega
      have hw2 : wrap64 (a + i + 1) = a + ((i + 1 : Nat) : Int) := by unfold wrap64; omega
      have e : rd l (i : Int) = a + i := by
        have := hA i h
        simp [rd, List.getD_eq_getElem?_getD, this]
      rw [if_pos (by omega), if_pos (by omega), e, if_pos rfl, hw, hw2]
      exact ih k (i + 1) (by omega) (by omega) (by omega)
    · rw [if_neg (by omega)]
      have e : i = l.length := by omega
      rw [e]
theorem heldIntS_eq (l : List Int) (hl : l.length ≤ 1048576) (a : Int) (h0 : 0 ≤ a) (h1 : a ≤ 100000000) (hA : ∀ j : Nat, j < l.length → l[j]? = some (a + j)) (k : Nat) (hk : l.length < k) : laws_heldIntS.f k l a = some (a + l.length) := by
  have h := heldIntS_from l hl a h0 h1 hA l.length k 0 (by omega) hk (by omega)
  unfold laws_heldIntS.f
  simpa using h
theorem markBoolS_from : ∀ (d k i : Nat) (l : List Bool) (a : Int), l.length - i ≤ d → d < k → i ≤ l.length → l.length ≤ 1048576 → 0 ≤ a → a ≤ 100000000 →
    ∃ l', laws_markBoolS.l0 k l (a + i) (i : Int) = some (a + l.length, l') := by
  intro d
  induction d with
  | zero =>
    intro k i l a hd hk hi hl h0 h1
    obtain ⟨k, rfl⟩ : ∃ m, k = m + 1 := ⟨k - 1, by omega⟩
    simp only [laws_markBoolS.l0]
    rw [if_neg (by omega)]
    have e : i = l.length := by omega
    subst e
    exact ⟨l, rfl⟩
  | succ d ih =>
    intro k i l a hd hk hi hl h0 h1
    obtain ⟨k, rfl⟩ : ∃ m, k = m + 1 := ⟨k - 1, by omega⟩
    simp only [laws_markBoolS.l0]
    by_cases h : i < l.length
    · have hw : wrap64 ((i : Int) + 1) = ((i + 1 : Nat) : Int) := by unfold wrap64; omega
      have hw2 : wrap64 (a + i + 1) = a + ((i + 1 : Nat) : Int) := by unfold wrap64; omega
      rw [if_pos (by omega), if_pos (by omega), hw, hw2, Int.toNat_natCast]
      have hs := ih k (i + 1) (l.set i (Int.tmod (a + i) 3 == 0)) a (by simp; omega) (by omega) (by simp; omega) (by simpa using hl) h0 h1
      simpa using hs
    · rw [if_neg (by omega)]
      have e : i = l.length := by omega
      subst e
      exact ⟨l, rfl⟩
theorem markBoolS_eq (l : List Bool) (hl : l.length ≤ 1048576) (a : Int) (h0 : 0 ≤ a) (h1 : a ≤ 100000000) (k : Nat) (hk : l.length < k) : ∃ l', laws_markBoolS.f k l a = some (a + l.length, l') := by
  have h := markBoolS_from l.length k 0 l a (by omega) hk (by omega) hl h0 h1
  unfold laws_markBoolS.f
  simpa using h

theorem markFbS_from (n : Nat) : ∀ (d k i : Nat) (l : List S77) (a : Int), l.length = n → n - i ≤ d → d < k → i ≤ n → n ≤ 1048576 → 0 ≤ a → a ≤ 100000000 →
    ∃ l', laws_markFbS.l0 k l (a + 4 * i) (i : Int) = some (a + 4 * n, l') := by
  intro d
  induction d with
  | zero =>
    intro k i l a hn hd hk hi hl h0 h1
    obtain ⟨k, rfl⟩ : ∃ m, k = m + 1 := ⟨k - 1, by omega⟩
    simp only [laws_markFbS.l0]
    rw [if_neg (by omega)]
    have e : i = n := by omega
    subst e
    exact ⟨l, rfl⟩
  | succ d ih =>
    intro k i l a hn hd hk hi hl h0 h1
    obtain ⟨k, rfl⟩ : ∃ m, k = m + 1 := ⟨k - 1, by omega⟩
    simp only [laws_markFbS.l0]
    by_cases h : i < n
    · have hw : wrap64 ((i : Int) + 1) = ((i + 1 : Nat) : Int) := by unfold wrap64; omega
      have e1 : wrap64 (a + 4 * i + 1) = a + 4 * i + 1 := by unfold wrap64; omega
      have e2 : wrap64 (a + 4 * i + 1 + 1) = a + 4 * i + 1 + 1 := by unfold wrap64; omega
      have e3 : wrap64 (a + 4 * i + 1 + 1 + 1) = a + 4 * i + 1 + 1 + 1 := by unfold wrap64; omega
      have e4 : wrap64 (a + 4 * i + 1 + 1 + 1 + 1) = a + 4 * ((i + 1 : Nat) : Int) := by unfold wrap64; omega
      rw [if_pos (by omega), if_pos (by omega)]
      simp only [Option.bind_some, hw, e1, e2, e3, e4]
      exact ih k (i + 1) _ a (by simpa using hn) (by omega) (by omega) (by omega) hl h0 h1
    · rw [if_neg (by omega)]
      have e : i = n := by omega
      subst e
      exact ⟨l, rfl⟩
theorem markFbS_eq (l : List S77) (hl : l.length ≤ 1048576) (a : Int) (h0 : 0 ≤ a) (h1 : a ≤ 100000000) (k : Nat) (hk : l.length < k) : ∃ l', laws_markFbS.f k l a = some (a + 4 * l.length, l') := by
  have h := markFbS_from l.length l.length k 0 l a rfl (by omega) hk (by omega) hl h0 h1
  unfold laws_markFbS.f
  simpa using h
theorem markData_eq (g : List Int) (bl : List S77) (l p o w : List Bool) (wr : Int) (k : Nat) (hk : g.length + bl.length + l.length + p.length + o.length + w.length < k)
    (h : g.length ≤ 1048576 ∧ bl.length ≤ 1048576 ∧ l.length ≤ 1048576 ∧ p.length ≤ 1048576 ∧ o.length ≤ 1048576 ∧ w.length ≤ 1048576) :
    ∃ r, laws_markData.f k g bl l p o w wr 1 = some r ∧ ¬ r.1 < 0 := by
  obtain ⟨g1, eg, _⟩ := markIntS_eq g h.1 1 (by omega) (by omega) k (by omega)
  obtain ⟨b1, eb⟩ := markFbS_eq bl h.2.1 (1 + g.length) (by omega) (by omega) k (by omega)
  obtain ⟨l1, el⟩ := markBoolS_eq l h.2.2.1 (1 + g.length + 4 * bl.length) (by omega) (by omega) k (by omega)
  obtain ⟨p1, ep⟩ := markBoolS_eq p h.2.2.2.1 (1 + g.length + 4 * bl.length + l.length) (by omega) (by omega) k (by omega)
  obtain ⟨o1, eo⟩ := markBoolS_eq o h.2.2.2.2.1 (1 + g.length + 4 * bl.length + l.length + p.length) (by omega) (by omega) k (by omega)
  obtain ⟨w1, ew⟩ := markBoolS_eq w h.2.2.2.2.2 (1 + g.length + 4 * bl.length + l.length + p.length + o.length) (by omega) (by omega) k (by omega)
  unfold laws_markData.f
  rw [eg]
  simp only [Option.bind_some, eb, el, ep, eo, ew]
  exact ⟨_, rfl, by dsimp only; omega⟩

theorem kindsOf_from (bl : List S77) (hl : bl.length ≤ 1048576) : ∀ (d k i : Nat) (acc : List Int), bl.length - i ≤ d → d < k → i ≤ bl.length → acc.length ≤ i → impl_kindsOf.l0 k acc bl (bl.length : Int) (i : Int) = some (acc ++ (bl.drop i).map (·.f0)) := by
  intro d
  induction d with
  | zero =>
    intro k i acc hd hk hi ha
    obtain ⟨k, rfl⟩ : ∃ m, k = m + 1 := ⟨k - 1, by omega⟩
    simp only [impl_kindsOf.l0]
    rw [if_neg (by omega), List.drop_of_length_le (by omega)]
    simp
  | succ d ih =>
    intro k i acc hd hk hi ha
    obtain ⟨k, rfl⟩ : ∃ m, k = m + 1 := ⟨k - 1, by omega⟩
    simp only [impl_kindsOf.l0]
    by_cases h : i < bl.length
    · have e : rd_T77 bl (i : Int) = bl[i] := by simp [rd_T77, List.getD_eq_getElem?_getD, h]
      have hw : wrap64 ((i : Int) + 1) = ((i + 1 : Nat) : Int) := by unfold wrap64; omega
      rw [if_pos (by omega), if_pos (by omega), if_pos (by omega), if_pos (by omega), e, hw, ih k (i + 1) _ (by omega) (by omega) (by omega) (by simp; omega), List.drop_eq_getElem_cons h, List.map_cons, List.append_assoc]
      rfl
    · rw [if_neg (by omega), List.drop_of_length_le (by omega)]
      simp
theorem kindsOf_eq (g : List Int) (bl : List S77) (l p o w : List Bool) (wr : Int) (hl : bl.length ≤ 1048576) (k : Nat) (hk : bl.length < k) : impl_kindsOf.f k g bl l p o w wr = some (bl.map (·.f0)) := by
  unfold impl_kindsOf.f
  have h := kindsOf_from bl hl bl.length k 0 [] (by omega) hk (by omega) (by simp)
  simpa using h
theorem l06Kinds_from (g : List Int) (bl : List S77) (l p o w : List Bool) (wr : Int) (hl : bl.length ≤ 1048576) : ∀ (d k i : Nat) (acc : List Int), bl.length - i ≤ d → d < k → i ≤ bl.length → acc.length ≤ i → spec_l06Kinds.l0 k acc (i : Int) g bl l p o w wr = some (acc ++ (bl.drop i).map (·.f0)) := by
  intro d
  induction d with
  | zero =>
    intro k i acc hd hk hi ha
    obtain ⟨k, rfl⟩ : ∃ m, k = m + 1 := ⟨k - 1, by omega⟩
    simp only [spec_l06Kinds.l0]
    rw [if_neg (by omega), List.drop_of_length_le (by omega)]
    simp
  | succ d ih =>
    intro k i acc hd hk hi ha
    obtain ⟨k, rfl⟩ : ∃ m, k = m + 1 := ⟨k - 1, by omega⟩
    simp only [spec_l06Kinds.l0]
    by_cases h : i < bl.length
    · have e : rd_T77 bl (i : Int) = bl[i] := by simp [rd_T77, List.getD_eq_getElem?_getD, h]
      have hw : wrap64 ((i : Int) + 1) = ((i + 1 : Nat) : Int) := by unfold wrap64; omega
      rw [if_pos (by omega), if_pos (by omega), if_pos (by omega), e, hw, ih k (i + 1) _ (by omega) (by omega) (by omega) (by simp; omega), List.drop_eq_getElem_cons h, List.map_cons, List.append_assoc]
      rfl
    · rw [if_neg (by omega), List.drop_of_length_le (by omega)]
      simp
theorem l06Kinds_eq (g : List Int) (bl : List S77) (l p o w : List Bool) (wr : Int) (hl : bl.length ≤ 1048576) (k : Nat) (hk : bl.length < k) : spec_l06Kinds.f k g bl l p o w wr = some (bl.map (·.f0)) := by
  unfold spec_l06Kinds.f
  have h := l06Kinds_from g bl l p o w wr hl bl.length k 0 [] (by omega) hk (by omega) (by simp)
  simpa using h

theorem ko_same (g : List Int) (bl : List S77) (l p o w : List Bool) (wr : Int) (hl : bl.length ≤ 1048576) (k : Nat) (hk : bl.length + 40 < k) :
    ∃ r : List Int × Int, r.1.length ≤ 1048576 ∧ r.1.length ≤ bl.length ∧ spec_KindsOf.f k g bl l p o w wr = some r ∧ impl_KindsOf.f k g bl l p o w wr = some r := by
  unfold spec_KindsOf.f impl_KindsOf.f
  rw [spec_data _ _ _ _ _ _ _ _ (by omega), impl_data _ _ _ _ _ _ _ _ (by omega)]
  simp only [Option.bind_some]
  cases dataB g bl l p o w wr
  · exact ⟨([], 1), by simp, by simp, rfl, rfl⟩
  · simp only [if_true]
    rw [l06Kinds_eq _ _ _ _ _ _ _ hl _ (by omega), kindsOf_eq _ _ _ _ _ _ _ hl _ (by omega)]
    exact ⟨(bl.map (·.f0), 0), by simpa using hl, by simp, rfl, rfl⟩
theorem FnExactKindsOf : laws_FnExactKindsOf.Pure := by
  intro x hx
  obtain ⟨⟨h0, _⟩, ⟨h1, _⟩, ⟨h2, _⟩, ⟨h3, _⟩, ⟨h4, _⟩, ⟨h5, _⟩, _⟩ := hx
  obtain ⟨t, ht, hle⟩ := szData_cases x.f0 x.f1 x.f2 x.f3 x.f4 x.f5 x.f6 h0 h1 h2 h3 h4 h5
  refine ⟨x.f0.length + x.f1.length + x.f2.length + x.f3.length + x.f4.length + x.f5.length + 100 + 1 + 1 + 1, ?_⟩
  obtain ⟨K, hK⟩ : ∃ K, K = x.f0.length + x.f1.length + x.f2.length + x.f3.length + x.f4.length + x.f5.length + 100 := ⟨_, rfl⟩
  rw [← hK]
  unfold laws_FnExactKindsOf.f
  rw [ht]
  simp only [Option.bind_some]
  by_cases c : t < 0
  · rw [if_pos c]
  have hl := hle c
  rw [if_neg c, toData_eq _ _ _ _ _ _ _ _ (by omega) hl]
  simp only [Option.bind_some]
  have ko := fun k (hk : x.f1.length + 40 < k) => ko_same x.f0 (x.f1.map cvF) x.f2 x.f3 x.f4 x.f5 x.f6 (by simpa using hl.2.1) k (by simpa using hk)
  obtain ⟨r, rl, rb, r1, r2⟩ := ko (K + 1 + 1 + 1) (by omega)
  rw [r1, r2]
  simp only [Option.bind_some, bne_self_eq_false]
  have rb' : r.1.length ≤ x.f1.length := by simpa using rb
  rw [eqIntS_same r.1 rl _ (by omega)]
  simp only [Option.bind_some, if_true]
  simp only [laws_FnExactKindsOf.j0, Bool.false_eq_true, if_false]
  rw [toData_eq _ _ _ _ _ _ _ _ (by omega) hl]
  simp only [Option.bind_some]
  rw [eqData_same _ _ _ _ _ _ _ _ (by simp <;> omega) (by simpa using hl)]
  simp only [Option.bind_some, if_true]
  obtain ⟨m, hm, hm0⟩ := markData_eq x.f0 (x.f1.map cvF) x.f2 x.f3 x.f4 x.f5 x.f6 (K + 1 + 1) (by simp; omega) (by simpa using hl)
  rw [hm]
  simp only [Option.bind_some]
  rw [if_neg hm0, eqIntS_same r.1 rl _ (by omega)]
  simp only [Option.bind_some, if_true, bne_self_eq_false]
  simp only [laws_FnExactKindsOf.j1, Bool.false_eq_true, if_false]
  obtain ⟨l', e1, e2, e3⟩ := markIntS_eq r.1 rl 1 (by omega) (by omega) (K + 1) (by omega)
  rw [e1]
  simp only [Option.bind_some]
  have hh := fun k (hk : r.1.length < k) => heldIntS_eq l' (by omega) 1 (by omega) (by omega) (fun j hj => e3 j (by omega)) k (by omega)
  rw [hh (K + 1) (by omega)]
  simp only [Option.bind_some]
  rw [if_neg (by omega), if_pos (by rw [e2]), toData_eq _ _ _ _ _ _ _ _ (by omega) hl]
  simp only [Option.bind_some]
  obtain ⟨q, ql, qb, q1, q2⟩ := ko (K + 1) (by omega)
  have hrq : q = r := by
    have m1 := impl_KindsOf.mono x.f0 (x.f1.map cvF) x.f2 x.f3 x.f4 x.f5 x.f6 (K + 1) q q2
    have m2 := impl_KindsOf.mono x.f0 (x.f1.map cvF) x.f2 x.f3 x.f4 x.f5 x.f6 (K + 1 + 1) q m1
    rw [r2] at m2
    exact (Option.some.inj m2).symm
  rw [q2, hrq]
  simp only [Option.bind_some]
  rw [eqIntS_same r.1 rl _ (by omega)]
  simp only [Option.bind_some, if_true, bne_self_eq_false]
  simp only [laws_FnExactKindsOf.j2, Bool.false_eq_true, if_false]
  rw [hh K (by omega)]
  simp only [Option.bind_some]
  rw [if_neg (by omega), if_pos (by rw [e2])]


end Go.Proofs.Ytjgdfbcjlebniaa.Pure

/- Proved: the pure statement behind the law FnExactSameData of the given program: for every input that the row lets in, the program's answer and the reference's agree and the law returns true. Conditions: none beyond the row's own. -/
import Derived.Test.YtjgdfbcjlebniaaMFnExactSameDatax20
set_option linter.unusedVariables false
set_option linter.unusedSimpArgs false
namespace Go.Proofs.Ytjgdfbcjlebniaa.Pure
open Go.RowKit Go.Proofs.Ytjgdfbcjlebniaa.MFnExactSameData Go.Proofs.YtjgdfbcjlebniaaW.PrintWords Go.Proofs.YtjgdfbcjlebniaaW.PrintLast

theorem within_eq (a lo hi : Int) : impl_within.f a lo hi = some (decide (lo ≤ a ∧ a ≤ hi)) := by
  unfold impl_within.f
  by_cases h : a ≥ lo
  · have h' : lo ≤ a := h
    simp [h, h']
  · have h' : ¬ lo ≤ a := h
    simp [h, h']

theorem l01In_eq (a lo hi : Int) : spec_l01In.f a lo hi = some (decide (lo ≤ a ∧ a ≤ hi)) := by
  unfold spec_l01In.f
  by_cases h : a ≥ lo
  · have h' : lo ≤ a := h
    simp [h, h']
  · have h' : ¬ lo ≤ a := h
    simp [h, h']

theorem isValue_eq (a : Int) : impl_isValue.f a = some (decide (-2147483648 ≤ a ∧ a ≤ 2147483647)) := by
  unfold impl_isValue.f; rw [within_eq]; rfl

theorem l01Int_eq (a : Int) : spec_l01Int.f a = some (decide (-2147483648 ≤ a ∧ a ≤ 2147483647)) := by
  unfold spec_l01Int.f; rw [l01In_eq]; rfl

def fbokb (kind : Int) (on : Bool) (start count : Int) : Bool :=
  if kind = 1 then decide (0 ≤ start ∧ start ≤ 2147483647 ∧ 0 ≤ count ∧ count ≤ 2147483647 ∧ (on = true ∨ (start = 0 ∧ count = 0)))
  else if kind = 2 then decide (start = 0 ∧ 0 ≤ count ∧ count ≤ 2147483647)
  else if kind = 3 ∨ kind = 4 then decide (start = 0 ∧ count = 0) else false
theorem isTime_eq (a : Int) : impl_isTime.f a = some (decide (0 ≤ a ∧ a ≤ 2147483647)) := by
  unfold impl_isTime.f; rw [within_eq]; rfl
theorem spec_fbok (a : Int) (b : Bool) (c d : Int) : spec_FbOK.f a b c d = some (fbokb a b c d) := by
  unfold spec_FbOK.f fbokb
  simp only [l01In_eq, Option.bind_some]
  by_cases h1 : a = 1
  · simp only [h1, if_true]
    by_cases p : 0 ≤ c ∧ c ≤ 2147483647
    · by_cases q : 0 ≤ d ∧ d ≤ 2147483647
      · cases b
        · by_cases c0 : c = 0
          · by_cases d0 : d = 0 <;> simp [p, q, c0, d0]
          · simp [p, q, c0]
        · simp [p, q]
      · simp [p, q]
        omega
    · simp [p]
      omega
  · by_cases h2 : a = 2
    · subst h2
      by_cases c0 : c = 0 <;> simp [c0]
    · by_cases h3 : a = 3
      · subst h3
        by_cases c0 : c = 0 <;> simp [c0]
        by_cases d0 : d = 0 <;> simp [d0]
      · by_cases h4 : a = 4
        · subst h4
          by_cases c0 : c = 0 <;> simp [c0]
          by_cases d0 : d = 0 <;> simp [d0]
        · simp [h1, h2, h3, h4]
theorem impl_fbok (k : Nat) (hk : 1 ≤ k) (a : Int) (b : Bool) (c d : Int) : impl_FbOK.f k a b c d = some (fbokb a b c d) := by
  obtain ⟨k, rfl⟩ : ∃ m, k = m + 1 := ⟨k - 1, by omega⟩
  unfold impl_FbOK.f fbokb
  simp only [isTime_eq, Option.bind_some, impl_FbOK.j0]
  by_cases p : 0 ≤ c ∧ c ≤ 2147483647
  · by_cases q : 0 ≤ d ∧ d ≤ 2147483647
    · by_cases h1 : a = 1
      · cases b
        · by_cases c0 : c = 0
          · by_cases d0 : d = 0 <;> simp [p, q, h1, c0, d0]
          · simp [p, q, h1, c0]
        · simp [p, q, h1]
      · by_cases h2 : a = 2
        · subst h2
          by_cases c0 : c = 0 <;> simp [p, q, c0]
        · by_cases h3 : a = 3
          · subst h3
            by_cases c0 : c = 0 <;> simp [p, q, c0]
            by_cases d0 : d = 0 <;> simp [d0]
          · by_cases h4 : a = 4
            · subst h4
              by_cases c0 : c = 0 <;> simp [p, q, c0]
              by_cases d0 : d = 0 <;> simp [d0]
            · simp [p, q, h1, h2, h3, h4]
    · have e : (decide (0 ≤ d ∧ d ≤ 2147483647)) = false := by simpa using q
      have z : ¬ d = 0 := by omega
      simp [p, e, z]
      intros
      omega
  · have e : (decide (0 ≤ c ∧ c ≤ 2147483647)) = false := by simpa using p
    have z : ¬ c = 0 := by omega
    simp [e, z]
    intros
    omega

theorem toIntS_from (l : List Int) (hl : l.length ≤ 1048576) : ∀ (d k i : Nat) (acc : List Int), l.length - i ≤ d → d < k → i ≤ l.length → acc.length = l.length → (∀ j, j < i → acc[j]? = l[j]?) → laws_toIntS.l0 k l acc (i : Int) = some l := by
  intro d
  induction d with
  | zero =>
    intro k i acc hd hk hi hlen hA
    obtain ⟨k, rfl⟩ : ∃ m, k = m + 1 := ⟨k - 1, by omega⟩
    simp only [laws_toIntS.l0]
    rw [if_neg (by omega)]
    congr 1
    apply List.ext_getElem?
    intro j
    by_cases h : j < i
    · exact hA j h
    · rw [List.getElem?_eq_none (by omega), List.getElem?_eq_none (by omega)]
  | succ d ih =>
    intro k i acc hd hk hi hlen hA
    obtain ⟨k, rfl⟩ : ∃ m, k = m + 1 := ⟨k - 1, by omega⟩
    simp only [laws_toIntS.l0]
    by_cases h : i < l.length
    · rw [if_pos (by omega), if_pos (by omega), if_pos (by omega)]
      have hw : wrap64 ((i : Int) + 1) = ((i + 1 : Nat) : Int) := by unfold wrap64; omega
      rw [hw]
      refine ih k (i + 1) _ (by omega) (by omega) (by omega) (by simp [hlen]) (fun j hj => ?_)
      have e : rd l (i : Int) = l[i] := by simp [rd, List.getD_eq_getElem?_getD, h]
      rw [e, Int.toNat_natCast, List.getElem?_set]
      by_cases hji : i = j
      · subst hji
        rw [if_pos rfl, if_pos (by omega), List.getElem?_eq_getElem h]
      · rw [if_neg hji]
        exact hA j (by omega)
    · rw [if_neg (by omega)]
      congr 1
      apply List.ext_getElem?
      intro j
      by_cases h2 : j < i
      · exact hA j h2
      · rw [List.getElem?_eq_none (by omega), List.getElem?_eq_none (by omega)]
theorem toIntS_eq (l : List Int) (hl : l.length ≤ 1048576) (k : Nat) (hk : l.length < k) : laws_toIntS.f k l = some l := by
  unfold laws_toIntS.f
  rw [if_pos (by omega), if_pos (by omega)]
  exact toIntS_from l hl l.length k 0 _ (by omega) hk (by omega) (by simp) (fun j hj => by omega)
theorem eqIntS_from (l : List Int) (hl : l.length ≤ 1048576) : ∀ (d k i : Nat), l.length - i ≤ d → d < k → i ≤ l.length → laws_eqIntS.l0 k l l (i : Int) = some true := by
  intro d
  induction d with
  | zero =>
    intro k i hd hk hi
    obtain ⟨k, rfl⟩ : ∃ m, k = m + 1 := ⟨k - 1, by omega⟩
    simp only [laws_eqIntS.l0]
    rw [if_neg (by omega)]
  | succ d ih =>
    intro k i hd hk hi
    obtain ⟨k, rfl⟩ : ∃ m, k = m + 1 := ⟨k - 1, by omega⟩
    simp only [laws_eqIntS.l0]
    by_cases h : i < l.length
    · have hw : wrap64 ((i : Int) + 1) = ((i + 1 : Nat) : Int) := by unfold wrap64; omega
      rw [if_pos (by omega), if_pos (by omega), hw, ih k (i + 1) (by omega) (by omega) (by omega)]
      simp only [show ((i : Int) < (l.length : Int)) from by omega, if_true]
    · rw [if_neg (by omega)]
theorem eqIntS_same (l : List Int) (hl : l.length ≤ 1048576) (k : Nat) (hk : l.length < k) : laws_eqIntS.f k l l = some true := by
  unfold laws_eqIntS.f
  rw [if_pos rfl]
  exact eqIntS_from l hl l.length k 0 (by omega) hk (by omega)

theorem toBoolS_from (l : List Bool) (hl : l.length ≤ 1048576) : ∀ (d k i : Nat) (acc : List Bool), l.length - i ≤ d → d < k → i ≤ l.length → acc.length = l.length → (∀ j, j < i → acc[j]? = l[j]?) → laws_toBoolS.l0 k l acc (i : Int) = some l := by
  intro d
  induction d with
  | zero =>
    intro k i acc hd hk hi hlen hA
    obtain ⟨k, rfl⟩ : ∃ m, k = m + 1 := ⟨k - 1, by omega⟩
    simp only [laws_toBoolS.l0]
    rw [if_neg (by omega)]
    congr 1
    apply List.ext_getElem?
    intro j
    by_cases h : j < i
    · exact hA j h
    · rw [List.getElem?_eq_none (by omega), List.getElem?_eq_none (by omega)]
  | succ d ih =>
    intro k i acc hd hk hi hlen hA
    obtain ⟨k, rfl⟩ : ∃ m, k = m + 1 := ⟨k - 1, by omega⟩
    simp only [laws_toBoolS.l0]
    by_cases h : i < l.length
    · rw [if_pos (by omega), if_pos (by omega), if_pos (by omega)]
      have hw : wrap64 ((i : Int) + 1) = ((i + 1 : Nat) : Int) := by unfold wrap64; omega
      rw [hw]
      refine ih k (i + 1) _ (by omega) (by omega) (by omega) (by simp [hlen]) (fun j hj => ?_)
      have e : rdOf false l (i : Int) = l[i] := by simp [rdOf, List.getD_eq_getElem?_getD, h]
      rw [e, Int.toNat_natCast, List.getElem?_set]
      by_cases hji : i = j
      · subst hji
        rw [if_pos rfl, if_pos (by omega), List.getElem?_eq_getElem h]
      · rw [if_neg hji]
        exact hA j (by omega)
    · rw [if_neg (by omega)]
      congr 1
      apply List.ext_getElem?
      intro j
      by_cases h2 : j < i
      · exact hA j h2
      · rw [List.getElem?_eq_none (by omega), List.getElem?_eq_none (by omega)]
theorem toBoolS_eq (l : List Bool) (hl : l.length ≤ 1048576) (k : Nat) (hk : l.length < k) : laws_toBoolS.f k l = some l := by
  unfold laws_toBoolS.f
  rw [if_pos (by omega), if_pos (by omega)]
  exact toBoolS_from l hl l.length k 0 _ (by omega) hk (by omega) (by simp) (fun j hj => by omega)
theorem eqBoolS_from (l : List Bool) (hl : l.length ≤ 1048576) : ∀ (d k i : Nat), l.length - i ≤ d → d < k → i ≤ l.length → laws_eqBoolS.l0 k l l (i : Int) = some true := by
  intro d
  induction d with
  | zero =>
    intro k i hd hk hi
    obtain ⟨k, rfl⟩ : ∃ m, k = m + 1 := ⟨k - 1, by omega⟩
    simp only [laws_eqBoolS.l0]
    rw [if_neg (by omega)]
  | succ d ih =>
    intro k i hd hk hi
    obtain ⟨k, rfl⟩ : ∃ m, k = m + 1 := ⟨k - 1, by omega⟩
    simp only [laws_eqBoolS.l0]
    by_cases h : i < l.length
    · have hw : wrap64 ((i : Int) + 1) = ((i + 1 : Nat) : Int) := by unfold wrap64; omega
      rw [if_pos (by omega), if_pos (by omega), hw, ih k (i + 1) (by omega) (by omega) (by omega)]
      simp only [show ((i : Int) < (l.length : Int)) from by omega, if_true, bne_self_eq_false, Bool.false_eq_true, if_false]
    · rw [if_neg (by omega)]
theorem eqBoolS_same (l : List Bool) (hl : l.length ≤ 1048576) (k : Nat) (hk : l.length < k) : laws_eqBoolS.f k l l = some true := by
  unfold laws_eqBoolS.f
  rw [if_pos rfl]
  exact eqBoolS_from l hl l.length k 0 (by omega) hk (by omega)

/-- The program's block for the law's. -/
def cvF (x : S122) : S77 := ⟨x.f0, x.f1, x.f2, x.f3⟩
theorem toFbS_from (l : List S122) (hl : l.length ≤ 1048576) : ∀ (d k i : Nat) (ys : List S77), l.length - i ≤ d → d < k → i ≤ l.length → ys.length = l.length → ys.take i = (l.take i).map cvF → laws_toFbS.l0 k l ys (i : Int) = some (l.map cvF) := by
  intro d
  induction d with
  | zero =>
    intro k i ys hd hk hi hy ht
    obtain ⟨k, rfl⟩ : ∃ m, k = m + 1 := ⟨k - 1, by omega⟩
    simp only [laws_toFbS.l0]
    rw [if_neg (by omega)]
    have e : i = l.length := by omega
    subst e
    rw [List.take_of_length_le (by omega), List.take_of_length_le (by omega)] at ht
    rw [ht]
  | succ d ih =>
    intro k i ys hd hk hi hy ht
    obtain ⟨k, rfl⟩ : ∃ m, k = m + 1 := ⟨k - 1, by omega⟩
    by_cases h : i < l.length
    · have hw : wrap64 ((i : Int) + 1) = ((i + 1 : Nat) : Int) := by unfold wrap64; omega
      have e : rd_T122 l (i : Int) = l[i] := by simp [rd_T122, List.getD_eq_getElem?_getD, h]
      conv => lhs; unfold laws_toFbS.l0
      rw [if_pos (by omega), if_pos (by omega), e]
      unfold laws_toFb.f
      simp only [Option.bind_some]
      rw [if_pos (by omega), hw]
      apply ih k (i + 1) _ (by omega) (by omega) (by omega) (by simpa using hy)
      have hi2 : i < ys.length := by omega
      have ei : ((i : Int)).toNat = i := by omega
      rw [ei]
      apply List.ext_getElem
      · simp; omega
      · intro j h1 h2
        simp only [List.length_take, List.length_set] at h1
        rw [List.getElem_take, List.getElem_set]
        by_cases hj : i = j
        · subst hj
          simp [cvF]
        · have hji : j < i := by omega
          rw [if_neg hj]
          have hh : (ys.take i)[j]? = ((l.take i).map cvF)[j]? := by rw [ht]
          simp [hji] at hh
          rw [List.getElem?_eq_getElem (by omega), List.getElem?_eq_getElem (by omega)] at hh
          simp at hh
          simp [hh]
    · conv => lhs; unfold laws_toFbS.l0
      rw [if_neg (by omega)]
      have e : i = l.length := by omega
      subst e
      rw [List.take_of_length_le (by omega), List.take_of_length_le (by omega)] at ht
      rw [ht]
theorem toFbS_eq (l : List S122) (hl : l.length ≤ 1048576) (k : Nat) (hk : l.length < k) : laws_toFbS.f k l = some (l.map cvF) := by
  unfold laws_toFbS.f
  rw [if_pos (by omega), if_pos (by omega)]
  have h := toFbS_from l hl l.length k 0 (List.replicate l.length z77) (by omega) hk (by omega) (by simp) (by simp)
  simpa using h
theorem eqFb_refl (a : Int) (b : Bool) (c d : Int) : laws_eqFb.f a b c d a b c d = some true := by
  unfold laws_eqFb.f
  simp
theorem eqFbS_from (l : List S77) (hl : l.length ≤ 1048576) : ∀ (d k i : Nat), l.length - i ≤ d → d < k → i ≤ l.length → laws_eqFbS.l0 k l l (i : Int) = some true := by
  intro d
  induction d with
  | zero =>
    intro k i hd hk hi
    obtain ⟨k, rfl⟩ : ∃ m, k = m + 1 := ⟨k - 1, by omega⟩
    simp only [laws_eqFbS.l0]
    rw [if_neg (by omega)]
  | succ d ih =>
    intro k i hd hk hi
    obtain ⟨k, rfl⟩ : ∃ m, k = m + 1 := ⟨k - 1, by omega⟩
    simp only [laws_eqFbS.l0]
    by_cases h : i < l.length
    · have hw : wrap64 ((i : Int) + 1) = ((i + 1 : Nat) : Int) := by unfold wrap64; omega
      rw [hw, ih k (i + 1) (by omega) (by omega) (by omega), eqFb_refl]
      rw [if_pos (by omega), if_pos (by omega), if_pos (by omega)]
      rfl
    · rw [if_neg (by omega)]
theorem eqFbS_eq (l : List S77) (hl : l.length ≤ 1048576) (k : Nat) (hk : l.length < k) : laws_eqFbS.f k l l = some true := by
  unfold laws_eqFbS.f
  rw [if_pos rfl]
  have h := eqFbS_from l hl l.length k 0 (by omega) hk (by omega)
  simpa using h

theorem impl_all_int_isValue_from (p : Int → Bool) (K : Nat) (hF : ∀ (k : Nat) (x : Int), K ≤ k → impl_isValue.f x = some (p x)) (l : List Int) (hl : l.length ≤ 1048576) : ∀ (d k i : Nat), l.length - i ≤ d → d + K < k → i ≤ l.length →
    ∃ j, impl_all_int_isValue.l0 k l (i : Int) = some j ∧ (!(decide (0 ≤ j))) = (l.drop i).all p := by
  intro d
  induction d with
  | zero =>
    intro k i hd hk hi
    obtain ⟨k, rfl⟩ : ∃ m, k = m + 1 := ⟨k - 1, by omega⟩
    refine ⟨-1, ?_, ?_⟩
    · simp only [impl_all_int_isValue.l0]
      rw [if_neg (by omega)]
    · rw [List.drop_of_length_le (by omega)]
      rfl
  | succ d ih =>
    intro k i hd hk hi
    obtain ⟨k, rfl⟩ : ∃ m, k = m + 1 := ⟨k - 1, by omega⟩
    by_cases h : i < l.length
    · have e : rd l (i : Int) = l[i] := by simp [rd, List.getD_eq_getElem?_getD, h]
      have hw : wrap64 ((i : Int) + 1) = ((i + 1 : Nat) : Int) := by unfold wrap64; omega
      obtain ⟨j, hj, hp⟩ := ih k (i + 1) (by omega) (by omega) (by omega)
      have hx := hF k l[i] (by omega)
      rw [List.drop_eq_getElem_cons h, List.all_cons]
      simp only [impl_all_int_isValue.l0]
      rw [if_pos (by omega), if_pos (by omega), e, hw, hx]
      simp only [Option.bind_some]
      cases p l[i] with
      | true => exact ⟨j, by rw [if_pos rfl]; exact hj, by simpa using hp⟩
      | false => exact ⟨(i : Int), by rw [if_neg (by decide)], by simp⟩
    · refine ⟨-1, ?_, ?_⟩
      · simp only [impl_all_int_isValue.l0]
        rw [if_neg (by omega)]
      · rw [List.drop_of_length_le (by omega)]
        rfl
theorem impl_all_int_isValue_eq (p : Int → Bool) (K : Nat) (hF : ∀ (k : Nat) (x : Int), K ≤ k → impl_isValue.f x = some (p x)) (l : List Int) (hl : l.length ≤ 1048576) (k : Nat) (hk : l.length + K < k) : impl_all_int_isValue.f k l = some (l.all p) := by
  obtain ⟨j, hj, hp⟩ := impl_all_int_isValue_from p K hF l hl l.length k 0 (by omega) (by omega) (by omega)
  unfold impl_all_int_isValue.f
  have hj' : impl_all_int_isValue.l0 k l 0 = some j := hj
  rw [hj']
  simp only [Option.bind_some]
  rw [hp]
  rfl

theorem impl_all_Fb_FbOK_from (p : S77 → Bool) (K : Nat) (hF : ∀ (k : Nat) (x : S77), K ≤ k → impl_FbOK.f k x.f0 x.f1 x.f2 x.f3 = some (p x)) (l : List S77) (hl : l.length ≤ 1048576) : ∀ (d k i : Nat), l.length - i ≤ d → d + K < k → i ≤ l.length →
    ∃ j, impl_all_Fb_FbOK.l0 k l (i : Int) = some j ∧ (!(decide (0 ≤ j))) = (l.drop i).all p := by
  intro d
  induction d with
  | zero =>
    intro k i hd hk hi
    obtain ⟨k, rfl⟩ : ∃ m, k = m + 1 := ⟨k - 1, by omega⟩
    refine ⟨-1, ?_, ?_⟩
    · simp only [impl_all_Fb_FbOK.l0]
      rw [if_neg (by omega)]
    · rw [List.drop_of_length_le (by omega)]
      rfl
  | succ d ih =>
    intro k i hd hk hi
    obtain ⟨k, rfl⟩ : ∃ m, k = m + 1 := ⟨k - 1, by omega⟩
    by_cases h : i < l.length
    · have e : rd_T77 l (i : Int) = l[i] := by simp [rd_T77, List.getD_eq_getElem?_getD, h]
      have hw : wrap64 ((i : Int) + 1) = ((i + 1 : Nat) : Int) := by unfold wrap64; omega
      obtain ⟨j, hj, hp⟩ := ih k (i + 1) (by omega) (by omega) (by omega)
      have hx := hF k l[i] (by omega)
      rw [List.drop_eq_getElem_cons h, List.all_cons]
      simp only [impl_all_Fb_FbOK.l0]
      rw [if_pos (by omega), if_pos (by omega), e, hw, hx]
      simp only [Option.bind_some]
      cases p l[i] with
      | true => exact ⟨j, by rw [if_pos rfl]; exact hj, by simpa using hp⟩
      | false => exact ⟨(i : Int), by rw [if_neg (by decide)], by simp⟩
    · refine ⟨-1, ?_, ?_⟩
      · simp only [impl_all_Fb_FbOK.l0]
        rw [if_neg (by omega)]
      · rw [List.drop_of_length_le (by omega)]
        rfl
theorem impl_all_Fb_FbOK_eq (p : S77 → Bool) (K : Nat) (hF : ∀ (k : Nat) (x : S77), K ≤ k → impl_FbOK.f k x.f0 x.f1 x.f2 x.f3 = some (p x)) (l : List S77) (hl : l.length ≤ 1048576) (k : Nat) (hk : l.length + K < k) : impl_all_Fb_FbOK.f k l = some (l.all p) := by
  obtain ⟨j, hj, hp⟩ := impl_all_Fb_FbOK_from p K hF l hl l.length k 0 (by omega) (by omega) (by omega)
  unfold impl_all_Fb_FbOK.f
  have hj' : impl_all_Fb_FbOK.l0 k l 0 = some j := hj
  rw [hj']
  simp only [Option.bind_some]
  rw [hp]
  rfl

def isV (a : Int) : Bool := decide (-2147483648 ≤ a ∧ a ≤ 2147483647)
def fbB (x : S77) : Bool := fbokb x.f0 x.f1 x.f2 x.f3
/-- What DataOK tells. -/
def dataB (g : List Int) (bl : List S77) (l p o w : List Bool) (wr : Int) : Bool :=
  decide (g.length = 16 ∧ bl.length ≤ 8 ∧ l.length = 8 ∧ p.length = 8 ∧ o.length = 8 ∧ w.length = 8 ∧ (0 ≤ wr ∧ wr ≤ 2147483647)) && (g.all isV && bl.all fbB)
theorem impl_data (g : List Int) (bl : List S77) (l p o w : List Bool) (wr : Int) (k : Nat) (hk : 40 ≤ k) : impl_DataOK.f k g bl l p o w wr = some (dataB g bl l p o w wr) := by
  unfold impl_DataOK.f dataB
  by_cases h1 : l.length = 8
  case neg => rw [if_neg h1, decide_eq_false (fun h => h1 h.2.2.1)]; rfl
  by_cases h2 : p.length = 8
  case neg => rw [if_pos h1, if_neg h2, decide_eq_false (fun h => h2 h.2.2.2.1)]; rfl
  by_cases h3 : o.length = 8
  case neg => rw [if_pos h1, if_pos h2, if_neg h3, decide_eq_false (fun h => h3 h.2.2.2.2.1)]; rfl
  by_cases h4 : w.length = 8
  case neg => rw [if_pos h1, if_pos h2, if_pos h3, if_neg h4, decide_eq_false (fun h => h4 h.2.2.2.2.2.1)]; rfl
  by_cases h5 : g.length = 16
  case neg => rw [if_pos h1, if_pos h2, if_pos h3, if_pos h4, if_neg h5, decide_eq_false (fun h => h5 h.1)]; rfl
  rw [if_pos h1, if_pos h2, if_pos h3, if_pos h4, if_pos h5]
  rw [impl_all_int_isValue_eq isV 0 (fun k x _ => isValue_eq x) g (by omega) k (by omega)]
  simp only [Option.bind_some]
  by_cases h6 : bl.length ≤ 8
  · rw [if_pos h6, impl_all_Fb_FbOK_eq fbB 1 (fun k x hk => impl_fbok k hk _ _ _ _) bl (by omega) k (by omega), isTime_eq]
    simp only [Option.bind_some]
    by_cases h7 : 0 ≤ wr ∧ wr ≤ 2147483647
    · rw [decide_eq_true h7, decide_eq_true (show _ from ⟨h5, h6, h1, h2, h3, h4, h7⟩)]
      cases g.all isV <;> cases bl.all fbB <;> rfl
    · rw [decide_eq_false h7, decide_eq_false (fun h => h7 h.2.2.2.2.2.2)]
      cases g.all isV <;> cases bl.all fbB <;> rfl
  · rw [if_neg h6, decide_eq_false (fun h => h6 h.2.1)]
    cases g.all isV <;> rfl
theorem specData_l1 (g : List Int) (bl : List S77) (l p o w : List Bool) (wr : Int) (hb : bl.length ≤ 8) : ∀ (d k i : Nat), bl.length - i ≤ d → d < k → i ≤ bl.length → spec_DataOK.l1 k (i : Int) g bl l p o w wr = some ((bl.drop i).all fbB) := by
  intro d
  induction d with
  | zero =>
    intro k i hd hk hi
    obtain ⟨k, rfl⟩ : ∃ m, k = m + 1 := ⟨k - 1, by omega⟩
    simp only [spec_DataOK.l1]
    rw [if_neg (by omega), List.drop_of_length_le (by omega)]
    rfl
  | succ d ih =>
    intro k i hd hk hi
    obtain ⟨k, rfl⟩ : ∃ m, k = m + 1 := ⟨k - 1, by omega⟩
    simp only [spec_DataOK.l1]
    by_cases h : i < bl.length
    · have e : rd_T77 bl (i : Int) = bl[i] := by simp [rd_T77, List.getD_eq_getElem?_getD, h]
      have hw : wrap64 ((i : Int) + 1) = ((i + 1 : Nat) : Int) := by unfold wrap64; omega
      rw [if_pos (by omega), if_pos (by omega), e, hw, ih k (i + 1) (by omega) (by omega) (by omega), spec_fbok, List.drop_eq_getElem_cons h, List.all_cons]
      simp only [Option.bind_some]
      show (if fbB bl[i] = true then _ else _) = _
      cases fbB bl[i] <;> rfl
    · rw [if_neg (by omega), List.drop_of_length_le (by omega)]
      rfl
theorem specData_l0 (g : List Int) (bl : List S77) (l p o w : List Bool) (wr : Int) (hg : g.length ≤ 16) (hb : bl.length ≤ 8) : ∀ (d k i : Nat), g.length - i ≤ d → d + 10 < k → i ≤ g.length → spec_DataOK.l0 k (i : Int) g bl l p o w wr = some ((g.drop i).all isV && bl.all fbB) := by
  intro d
  have l1 : ∀ k, 9 < k → spec_DataOK.l1 k 0 g bl l p o w wr = some (bl.all fbB) := fun k hk => by
    have := specData_l1 g bl l p o w wr hb bl.length k 0 (by omega) (by omega) (by omega)
    simpa using this
  induction d with
  | zero =>
    intro k i hd hk hi
    obtain ⟨k, rfl⟩ : ∃ m, k = m + 1 := ⟨k - 1, by omega⟩
    simp only [spec_DataOK.l0]
    rw [if_neg (by omega), List.drop_of_length_le (by omega), l1 k (by omega)]
    rfl
  | succ d ih =>
    intro k i hd hk hi
    obtain ⟨k, rfl⟩ : ∃ m, k = m + 1 := ⟨k - 1, by omega⟩
    simp only [spec_DataOK.l0]
    by_cases h : i < g.length
    · have e : rd g (i : Int) = g[i] := by simp [rd, List.getD_eq_getElem?_getD, h]
      have hw : wrap64 ((i : Int) + 1) = ((i + 1 : Nat) : Int) := by unfold wrap64; omega
      rw [if_pos (by omega), if_pos (by omega), e, hw, ih k (i + 1) (by omega) (by omega) (by omega), l01Int_eq, List.drop_eq_getElem_cons h, List.all_cons]
      simp only [Option.bind_some]
      show (if isV g[i] = true then _ else _) = _
      cases isV g[i] <;> rfl
    · rw [if_neg (by omega), List.drop_of_length_le (by omega), l1 k (by omega)]
      rfl
theorem spec_data (g : List Int) (bl : List S77) (l p o w : List Bool) (wr : Int) (k : Nat) (hk : 40 ≤ k) : spec_DataOK.f k g bl l p o w wr = some (dataB g bl l p o w wr) := by
  obtain ⟨k, rfl⟩ : ∃ m, k = m + 1 := ⟨k - 1, by omega⟩
  have no : ∀ b, b = true → spec_DataOK.j0 (k + 1) b g bl l p o w wr = some false := by
    intro b hb
    subst hb
    rfl
  unfold spec_DataOK.f dataB
  by_cases h5 : (g.length : Int) = 16
  case neg => rw [if_neg h5, decide_eq_false (fun h => h5 (by omega)), no _ rfl]; rfl
  by_cases h6 : (bl.length : Int) > 8
  · rw [if_pos h5, if_pos h6, decide_eq_false (fun h => by omega), no _ rfl]; rfl
  by_cases h1 : (l.length : Int) = 8
  case neg => rw [if_pos h5, if_neg h6, if_neg h1, decide_eq_false (fun h => h1 (by omega)), no _ rfl]; rfl
  by_cases h2 : (p.length : Int) = 8
  case neg => rw [if_pos h5, if_neg h6, if_pos h1, if_neg h2, decide_eq_false (fun h => h2 (by omega)), no _ rfl]; rfl
  by_cases h3 : (o.length : Int) = 8
  case neg => rw [if_pos h5, if_neg h6, if_pos h1, if_pos h2, if_neg h3, decide_eq_false (fun h => h3 (by omega)), no _ rfl]; rfl
  by_cases h4 : (w.length : Int) = 8
  case neg => rw [if_pos h5, if_neg h6, if_pos h1, if_pos h2, if_pos h3, if_neg h4, decide_eq_false (fun h => h4 (by omega)), no _ rfl]; rfl
  rw [if_pos h5, if_neg h6, if_pos h1, if_pos h2, if_pos h3, if_pos h4, l01In_eq]
  simp only [Option.bind_some]
  by_cases h7 : 0 ≤ wr ∧ wr ≤ 2147483647
  · have e : decide (g.length = 16 ∧ bl.length ≤ 8 ∧ l.length = 8 ∧ p.length = 8 ∧ o.length = 8 ∧ w.length = 8 ∧ (0 ≤ wr ∧ wr ≤ 2147483647)) = true := decide_eq_true (by omega)
    rw [decide_eq_true h7, e]
    have h0 := specData_l0 g bl l p o w wr (by omega) (by omega) g.length k 0 (by omega) (by omega) (by omega)
    show spec_DataOK.l0 k 0 g bl l p o w wr = _
    simpa using h0
  · rw [decide_eq_false h7, no (!false) rfl, decide_eq_false (fun h => h7 h.2.2.2.2.2.2)]
    rfl
/-- What is left of a budget. -/
def left (n : Nat) (b : Int) : Int := if (n : Int) ≤ b then b - n else -1
theorem left_eq (n : Nat) (hn : n ≤ maxLen) (b : Int) (hb : 0 ≤ b ∧ b ≤ 1048576) : (if (wrap64 (b - (n : Int))) < 0 then (some (-1 : Int)) else (some (wrap64 (b - (n : Int))))) = some (left n b) := by
  have hm : (n : Int) ≤ 9223372036854775807 := by have : maxLen ≤ 9223372036854775807 := by decide
                                                  omega
  have hw : wrap64 (b - (n : Int)) = b - n := by unfold wrap64; omega
  rw [hw]
  unfold left
  by_cases h : (n : Int) ≤ b
  · rw [if_pos h, if_neg (by omega)]
  · rw [if_neg h, if_pos (by omega)]
theorem left_le (n : Nat) (b : Int) (h : ¬ left n b < 0) : (n : Int) ≤ b ∧ left n b = b - n := by
  unfold left at *
  by_cases g : (n : Int) ≤ b
  · rw [if_pos g]; exact ⟨g, rfl⟩
  · rw [if_neg g] at h; omega
theorem szData_cases (g : List Int) (bl : List S122) (l p o w : List Bool) (wr : Int) (hg : g.length ≤ maxLen) (hb : bl.length ≤ maxLen) (hl : l.length ≤ maxLen) (hp : p.length ≤ maxLen) (ho : o.length ≤ maxLen) (hw : w.length ≤ maxLen) :
    ∃ t, laws_szData.f g bl l p o w wr 1048576 = some t ∧ (¬ t < 0 → g.length ≤ 1048576 ∧ bl.length ≤ 1048576 ∧ l.length ≤ 1048576 ∧ p.length ≤ 1048576 ∧ o.length ≤ 1048576 ∧ w.length ≤ 1048576) := by
  unfold laws_szData.f laws_szIntS.f laws_szFbS.f laws_szBoolS.f
  rw [left_eq _ hg 1048576 (by omega)]
  simp only [Option.bind_some]
  by_cases c1 : left g.length 1048576 < 0
  · exact ⟨-1, by rw [if_pos c1], fun h => absurd (by decide) h⟩
  have d1 := left_le _ _ c1
  rw [if_neg c1, left_eq _ hb _ (by omega)]
  simp only [Option.bind_some]
  by_cases c2 : left bl.length (left g.length 1048576) < 0
  · exact ⟨-1, by rw [if_pos c2], fun h => absurd (by decide) h⟩
  have d2 := left_le _ _ c2
  rw [if_neg c2, left_eq _ hl _ (by omega)]
  simp only [Option.bind_some]
  by_cases c3 : left l.length (left bl.length (left g.length 1048576)) < 0
  · exact ⟨-1, by rw [if_pos c3], fun h => absurd (by decide) h⟩
  have d3 := left_le _ _ c3
  rw [if_neg c3, left_eq _ hp _ (by omega)]
  simp only [Option.bind_some]
  by_cases c4 : left p.length (left l.length (left bl.length (left g.length 1048576))) < 0
  · exact ⟨-1, by rw [if_pos c4], fun h => absurd (by decide) h⟩
  have d4 := left_le _ _ c4
  rw [if_neg c4, left_eq _ ho _ (by omega)]
  simp only [Option.bind_some]
  by_cases c5 : left o.length (left p.length (left l.length (left bl.length (left g.length 1048576)))) < 0
  · exact ⟨-1, by rw [if_pos c5], fun h => absurd (by decide) h⟩
  have d5 := left_le _ _ c5
  rw [if_neg c5, left_eq _ hw _ (by omega)]
  simp only [Option.bind_some]
  by_cases c6 : left w.length (left o.length (left p.length (left l.length (left bl.length (left g.length 1048576))))) < 0
  · exact ⟨-1, by rw [if_pos c6], fun h => absurd (by decide) h⟩
  have d6 := left_le _ _ c6
  rw [if_neg c6]
  exact ⟨_, rfl, fun _ => by omega⟩
theorem toData_eq (g : List Int) (bl : List S122) (l p o w : List Bool) (wr : Int) (k : Nat) (hk : g.length + bl.length + l.length + p.length + o.length + w.length < k)
    (h : g.length ≤ 1048576 ∧ bl.length ≤ 1048576 ∧ l.length ≤ 1048576 ∧ p.length ≤ 1048576 ∧ o.length ≤ 1048576 ∧ w.length ≤ 1048576) :
    laws_toData.f k g bl l p o w wr = some (g, bl.map cvF, l, p, o, w, wr) := by
  unfold laws_toData.f
  rw [toIntS_eq g h.1 k (by omega), toFbS_eq bl h.2.1 k (by omega), toBoolS_eq l h.2.2.1 k (by omega), toBoolS_eq p h.2.2.2.1 k (by omega), toBoolS_eq o h.2.2.2.2.1 k (by omega), toBoolS_eq w h.2.2.2.2.2 k (by omega)]
  rfl
theorem eqData_same (g : List Int) (bl : List S77) (l p o w : List Bool) (wr : Int) (k : Nat) (hk : g.length + bl.length + l.length + p.length + o.length + w.length < k)
    (h : g.length ≤ 1048576 ∧ bl.length ≤ 1048576 ∧ l.length ≤ 1048576 ∧ p.length ≤ 1048576 ∧ o.length ≤ 1048576 ∧ w.length ≤ 1048576) :
    laws_eqData.f k g bl l p o w wr g bl l p o w wr = some true := by
  unfold laws_eqData.f
  rw [eqIntS_same g h.1 k (by omega), eqFbS_eq bl h.2.1 k (by omega), eqBoolS_same l h.2.2.1 k (by omega), eqBoolS_same p h.2.2.2.1 k (by omega), eqBoolS_same o h.2.2.2.2.1 k (by omega), eqBoolS_same w h.2.2.2.2.2 k (by omega)]
  simp

def fbE (x y : S77) : Bool := (x.f0 == y.f0) && ((x.f1 == y.f1) && ((x.f2 == y.f2) && (x.f3 == y.f3)))
def fbsE : List S77 → List S77 → Bool
  | [], [] => true
  | x :: xs, y :: ys => fbE x y && fbsE xs ys
  | _, _ => false
theorem eqInts_from (x y : List Int) (he : x.length = y.length) (hl : x.length ≤ 1048576) : ∀ (d k i : Nat), x.length - i ≤ d → d < k → i ≤ x.length → slices_Equal_int_int.l0 k x y (x.length : Int) (i : Int) = some (decide (x.drop i = y.drop i)) := by
  intro d
  induction d with
  | zero =>
    intro k i hd hk hi
    obtain ⟨k, rfl⟩ : ∃ m, k = m + 1 := ⟨k - 1, by omega⟩
    simp only [slices_Equal_int_int.l0]
    rw [if_neg (by omega), List.drop_of_length_le (by omega), List.drop_of_length_le (by omega)]
    rfl
  | succ d ih =>
    intro k i hd hk hi
    obtain ⟨k, rfl⟩ : ∃ m, k = m + 1 := ⟨k - 1, by omega⟩
    by_cases h : i < x.length
    · have h2 : i < y.length := by omega
      have ih1 := ih k (i + 1) (by omega) (by omega) (by omega)
      have b1 : (i : Int) < (x.length : Int) := by omega
      have b2 : (0 : Int) ≤ (i : Int) := by omega
      have b3 : (i : Int) < (y.length : Int) := by omega
      have e : rd x (i : Int) = x[i] := by simp [rd, List.getD_eq_getElem?_getD, h]
      have e2 : rd y (i : Int) = y[i] := by simp [rd, List.getD_eq_getElem?_getD, h2]
      have hw : wrap64 ((i : Int) + 1) = ((i + 1 : Nat) : Int) := by unfold wrap64; omega
      have hd : (x.drop i = y.drop i) ↔ (x[i] = y[i] ∧ x.drop (i + 1) = y.drop (i + 1)) := by
        rw [List.drop_eq_getElem_cons h, List.drop_eq_getElem_cons h2]
        exact List.cons_eq_cons
      simp only [slices_Equal_int_int.l0]
      rw [if_pos b1, if_pos b2, if_pos b1, if_pos b3, e, e2, hw, ih1]
      by_cases c : x[i] = y[i]
      · rw [if_pos c]; exact congrArg some (decide_eq_decide.2 ⟨fun h => hd.2 ⟨c, h⟩, fun h => (hd.1 h).2⟩)
      · rw [if_neg c]; exact congrArg some (decide_eq_false (fun hh => c (hd.1 hh).1)).symm
    · simp only [slices_Equal_int_int.l0]
      rw [if_neg (by omega), List.drop_of_length_le (by omega), List.drop_of_length_le (by omega)]
      rfl
theorem eqInts_eq (x y : List Int) (hl : x.length ≤ 1048576) (k : Nat) (hk : x.length < k) : slices_Equal_int_int.f k x y = some (decide (x = y)) := by
  unfold slices_Equal_int_int.f
  by_cases he : x.length = y.length
  · have h := eqInts_from x y he hl x.length k 0 (by omega) hk (by omega)
    rw [if_pos (by omega)]
    simpa using h
  · rw [if_neg (by omega), decide_eq_false (fun e => he (by rw [e]))]
theorem l00Same_from (x y : List Int) (he : x.length = y.length) (hl : x.length ≤ 1048576) : ∀ (d k i : Nat), x.length - i ≤ d → d < k → i ≤ x.length → spec_l00Same.l0 k x y (i : Int) = some (decide (x.drop i = y.drop i)) := by
  intro d
  induction d with
  | zero =>
    intro k i hd hk hi
    obtain ⟨k, rfl⟩ : ∃ m, k = m + 1 := ⟨k - 1, by omega⟩
    simp only [spec_l00Same.l0]
    rw [if_neg (by omega), List.drop_of_length_le (by omega), List.drop_of_length_le (by omega)]
    rfl
  | succ d ih =>
    intro k i hd hk hi
    obtain ⟨k, rfl⟩ : ∃ m, k = m + 1 := ⟨k - 1, by omega⟩
    by_cases h : i < x.length
    · have h2 : i < y.length := by omega
      have ih1 := ih k (i + 1) (by omega) (by omega) (by omega)
      have b1 : (i : Int) < (x.length : Int) := by omega
      have b2 : (0 : Int) ≤ (i : Int) := by omega
      have b3 : (i : Int) < (y.length : Int) := by omega
      have e : rd x (i : Int) = x[i] := by simp [rd, List.getD_eq_getElem?_getD, h]
      have e2 : rd y (i : Int) = y[i] := by simp [rd, List.getD_eq_getElem?_getD, h2]
      have hw : wrap64 ((i : Int) + 1) = ((i + 1 : Nat) : Int) := by unfold wrap64; omega
      have hd : (x.drop i = y.drop i) ↔ (x[i] = y[i] ∧ x.drop (i + 1) = y.drop (i + 1)) := by
        rw [List.drop_eq_getElem_cons h, List.drop_eq_getElem_cons h2]
        exact List.cons_eq_cons
      simp only [spec_l00Same.l0, if_pos b1, if_pos b2, if_pos b3, e, e2, hw, ih1]
      by_cases c : x[i] = y[i]
      · rw [if_pos c]; exact congrArg some (decide_eq_decide.2 ⟨fun h => hd.2 ⟨c, h⟩, fun h => (hd.1 h).2⟩)
      · rw [if_neg c]; exact congrArg some (decide_eq_false (fun hh => c (hd.1 hh).1)).symm
    · simp only [spec_l00Same.l0]
      rw [if_neg (by omega), List.drop_of_length_le (by omega), List.drop_of_length_le (by omega)]
      rfl
theorem l00Same_eq (x y : List Int) (hl : x.length ≤ 1048576) (k : Nat) (hk : x.length < k) : spec_l00Same.f k x y = some (decide (x = y)) := by
  unfold spec_l00Same.f
  by_cases he : x.length = y.length
  · have h := l00Same_from x y he hl x.length k 0 (by omega) hk (by omega)
    rw [if_pos (by omega)]
    simpa using h
  · rw [if_neg (by omega), decide_eq_false (fun e => he (by rw [e]))]
theorem eqBools_from (x y : List Bool) (he : x.length = y.length) (hl : x.length ≤ 1048576) : ∀ (d k i : Nat), x.length - i ≤ d → d < k → i ≤ x.length → slices_Equal_bool_bool.l0 k x y (x.length : Int) (i : Int) = some (decide (x.drop i = y.drop i)) := by
  intro d
  induction d with
  | zero =>
    intro k i hd hk hi
    obtain ⟨k, rfl⟩ : ∃ m, k = m + 1 := ⟨k - 1, by omega⟩
    simp only [slices_Equal_bool_bool.l0]
    rw [if_neg (by omega), List.drop_of_length_le (by omega), List.drop_of_length_le (by omega)]
    rfl
  | succ d ih =>
    intro k i hd hk hi
    obtain ⟨k, rfl⟩ : ∃ m, k = m + 1 := ⟨k - 1, by omega⟩
    simp only [slices_Equal_bool_bool.l0]
    by_cases h : i < x.length
    · have h2 : i < y.length := by omega
      have e : rdOf false x (i : Int) = x[i] := by simp [rdOf, List.getD_eq_getElem?_getD, h]
      have e2 : rdOf false y (i : Int) = y[i] := by simp [rdOf, List.getD_eq_getElem?_getD, h2]
      have hw : wrap64 ((i : Int) + 1) = ((i + 1 : Nat) : Int) := by unfold wrap64; omega
      have ih1 := ih k (i + 1) (by omega) (by omega) (by omega)
      have b1 : (i : Int) < (x.length : Int) := by omega
      have b2 : (0 : Int) ≤ (i : Int) := by omega
      have b3 : (i : Int) < (y.length : Int) := by omega
      have hd : (x.drop i = y.drop i) ↔ (x[i] = y[i] ∧ x.drop (i + 1) = y.drop (i + 1)) := by
        rw [List.drop_eq_getElem_cons h, List.drop_eq_getElem_cons h2]
        exact List.cons_eq_cons
      simp only [if_pos b1, if_pos b2, if_pos b3, e, e2, hw, ih1]
      by_cases c : x[i] = y[i]
      · rw [if_neg (by simp [c])]; exact congrArg some (decide_eq_decide.2 ⟨fun h => hd.2 ⟨c, h⟩, fun h => (hd.1 h).2⟩)
      · rw [if_pos (by simpa using c)]; exact congrArg some (decide_eq_false (fun hh => c (hd.1 hh).1)).symm
    · rw [if_neg (by omega), List.drop_of_length_le (by omega), List.drop_of_length_le (by omega)]
      rfl
theorem eqBools_eq (x y : List Bool) (hl : x.length ≤ 1048576) (k : Nat) (hk : x.length < k) : slices_Equal_bool_bool.f k x y = some (decide (x = y)) := by
  unfold slices_Equal_bool_bool.f
  by_cases he : x.length = y.length
  · have h := eqBools_from x y he hl x.length k 0 (by omega) hk (by omega)
    rw [if_pos (by omega)]
    simpa using h
  · rw [if_neg (by omega), decide_eq_false (fun e => he (by rw [e]))]
theorem sameBools_from (x y : List Bool) (he : x.length = y.length) (hl : x.length ≤ 1048576) : ∀ (d k i : Nat), x.length - i ≤ d → d < k → i ≤ x.length → spec_l06SameBools.l0 k x y (i : Int) = some (decide (x.drop i = y.drop i)) := by
  intro d
  induction d with
  | zero =>
    intro k i hd hk hi
    obtain ⟨k, rfl⟩ : ∃ m, k = m + 1 := ⟨k - 1, by omega⟩
    simp only [spec_l06SameBools.l0]
    rw [if_neg (by omega), List.drop_of_length_le (by omega), List.drop_of_length_le (by omega)]
    rfl
  | succ d ih =>
    intro k i hd hk hi
    obtain ⟨k, rfl⟩ : ∃ m, k = m + 1 := ⟨k - 1, by omega⟩
    simp only [spec_l06SameBools.l0]
    by_cases h : i < x.length
    · have h2 : i < y.length := by omega
      have e : rdOf false x (i : Int) = x[i] := by simp [rdOf, List.getD_eq_getElem?_getD, h]
      have e2 : rdOf false y (i : Int) = y[i] := by simp [rdOf, List.getD_eq_getElem?_getD, h2]
      have hw : wrap64 ((i : Int) + 1) = ((i + 1 : Nat) : Int) := by unfold wrap64; omega
      have ih1 := ih k (i + 1) (by omega) (by omega) (by omega)
      have b1 : (i : Int) < (x.length : Int) := by omega
      have b2 : (0 : Int) ≤ (i : Int) := by omega
      have b3 : (i : Int) < (y.length : Int) := by omega
      have hd : (x.drop i = y.drop i) ↔ (x[i] = y[i] ∧ x.drop (i + 1) = y.drop (i + 1)) := by
        rw [List.drop_eq_getElem_cons h, List.drop_eq_getElem_cons h2]
        exact List.cons_eq_cons
      simp only [if_pos b1, if_pos b2, if_pos b3, e, e2, hw, ih1]
      by_cases c : x[i] = y[i]
      · rw [if_neg (by simp [c])]; exact congrArg some (decide_eq_decide.2 ⟨fun h => hd.2 ⟨c, h⟩, fun h => (hd.1 h).2⟩)
      · rw [if_pos (by simpa using c)]; exact congrArg some (decide_eq_false (fun hh => c (hd.1 hh).1)).symm
    · rw [if_neg (by omega), List.drop_of_length_le (by omega), List.drop_of_length_le (by omega)]
      rfl
theorem sameBools_eq (x y : List Bool) (hl : x.length ≤ 1048576) (k : Nat) (hk : x.length < k) : spec_l06SameBools.f k x y = some (decide (x = y)) := by
  unfold spec_l06SameBools.f
  by_cases he : x.length = y.length
  · have h := sameBools_from x y he hl x.length k 0 (by omega) hk (by omega)
    rw [if_pos (by omega)]
    simpa using h
  · rw [if_neg (by omega), decide_eq_false (fun e => he (by rw [e]))]
theorem fbsE_len : ∀ (x y : List S77), x.length ≠ y.length → fbsE x y = false := by
  intro x
  induction x with
  | nil => intro y h; cases y <;> first | exact absurd rfl h | rfl
  | cons a x ih =>
    intro y h
    cases y with
    | nil => rfl
    | cons b y =>
      simp only [fbsE, ih y (by simpa using h), Bool.and_false]
theorem eqFbs_from (x y : List S77) (he : x.length = y.length) (hl : x.length ≤ 1048576) : ∀ (d k i : Nat), x.length - i ≤ d → d < k → i ≤ x.length → impl_Fb_109.l0 k x y (x.length : Int) (i : Int) = some (fbsE (x.drop i) (y.drop i)) := by
  intro d
  induction d with
  | zero =>
    intro k i hd hk hi
    obtain ⟨k, rfl⟩ : ∃ m, k = m + 1 := ⟨k - 1, by omega⟩
    simp only [impl_Fb_109.l0]
    rw [if_neg (by omega), List.drop_of_length_le (by omega), List.drop_of_length_le (by omega)]
    rfl
  | succ d ih =>
    intro k i hd hk hi
    obtain ⟨k, rfl⟩ : ∃ m, k = m + 1 := ⟨k - 1, by omega⟩
    simp only [impl_Fb_109.l0]
    by_cases h : i < x.length
    · have h2 : i < y.length := by omega
      have e : rd_T77 x (i : Int) = x[i] := by simp [rd_T77, List.getD_eq_getElem?_getD, h]
      have e2 : rd_T77 y (i : Int) = y[i] := by simp [rd_T77, List.getD_eq_getElem?_getD, h2]
      have hw : wrap64 ((i : Int) + 1) = ((i + 1 : Nat) : Int) := by unfold wrap64; omega
      rw [if_pos (by omega), if_pos (by omega), if_pos (by omega), if_pos (by omega), e, e2, hw, ih k (i + 1) (by omega) (by omega) (by omega), List.drop_eq_getElem_cons h, List.drop_eq_getElem_cons h2]
      simp only [fbsE, fbE]
      cases (x[i].f0 == y[i].f0) <;> cases (x[i].f1 == y[i].f1) <;> cases (x[i].f2 == y[i].f2) <;> cases (x[i].f3 == y[i].f3) <;> rfl
    · rw [if_neg (by omega), List.drop_of_length_le (by omega), List.drop_of_length_le (by omega)]
      rfl
theorem eqFbs_eq (x y : List S77) (hl : x.length ≤ 1048576) (k : Nat) (hk : x.length < k) : impl_Fb_109.f k x y = some (fbsE x y) := by
  unfold impl_Fb_109.f
  by_cases he : x.length = y.length
  · have h := eqFbs_from x y he hl x.length k 0 (by omega) hk (by omega)
    rw [if_pos (by omega)]
    simpa using h
  · rw [if_neg (by omega), fbsE_len x y he]
/-- What sameData tells. -/
def sameB (g : List Int) (bl : List S77) (l p o w : List Bool) (wr : Int) (g' : List Int) (bl' : List S77) (l' p' o' w' : List Bool) (wr' : Int) : Bool :=
  decide (g = g') && (fbsE bl bl' && (decide (l = l') && (decide (p = p') && (decide (o = o') && (decide (w = w') && (wr == wr'))))))
theorem implSame_eq (g : List Int) (bl : List S77) (l p o w : List Bool) (wr : Int) (g' : List Int) (bl' : List S77) (l' p' o' w' : List Bool) (wr' : Int) (h : g.length ≤ 16 ∧ bl.length ≤ 8 ∧ l.length ≤ 8 ∧ p.length ≤ 8 ∧ o.length ≤ 8 ∧ w.length ≤ 8) (k : Nat) (hk : 20 < k) :
    impl_sameData.f k g bl l p o w wr g' bl' l' p' o' w' wr' = some (sameB g bl l p o w wr g' bl' l' p' o' w' wr') := by
  unfold impl_sameData.f sameB
  rw [eqInts_eq g g' (by omega) k (by omega)]
  simp only [Option.bind_some]
  cases decide (g = g')
  · rfl
  simp only [if_true, Bool.true_and]
  rw [eqFbs_eq bl bl' (by omega) k (by omega)]
  simp only [Option.bind_some]
  cases fbsE bl bl'
  · rfl
  simp only [if_true, Bool.true_and]
  rw [eqBools_eq l l' (by omega) k (by omega)]
  simp only [Option.bind_some]
  cases decide (l = l')
  · rfl
  simp only [if_true, Bool.true_and]
  rw [eqBools_eq p p' (by omega) k (by omega)]
  simp only [Option.bind_some]
  cases decide (p = p')
  · rfl
  simp only [if_true, Bool.true_and]
  rw [eqBools_eq o o' (by omega) k (by omega)]
  simp only [Option.bind_some]
  cases decide (o = o')
  · rfl
  simp only [if_true, Bool.true_and]
  rw [eqBools_eq w w' (by omega) k (by omega)]
  simp only [Option.bind_some]
  cases decide (w = w') <;> rfl
theorem l06Same_l0 (g : List Int) (bl : List S77) (l p o w : List Bool) (wr : Int) (g' : List Int) (bl' : List S77) (l' p' o' w' : List Bool) (wr' : Int) (he : bl.length = bl'.length) (h : g.length ≤ 16 ∧ bl.length ≤ 8 ∧ l.length ≤ 8 ∧ p.length ≤ 8 ∧ o.length ≤ 8 ∧ w.length ≤ 8) : ∀ (d k i : Nat), bl.length - i ≤ d → d + 21 < k → i ≤ bl.length →
    spec_l06Same.l0 k (i : Int) g bl l p o w wr g' bl' l' p' o' w' wr' = some (fbsE (bl.drop i) (bl'.drop i) && (decide (l = l') && (decide (p = p') && (decide (o = o') && decide (w = w'))))) := by
  have fin : ∀ k, 20 < k → ((spec_l06SameBools.f k l l').bind fun t188 => (if t188 = true then ((spec_l06SameBools.f k p p').bind fun t189 => (if t189 = true then ((spec_l06SameBools.f k o o').bind fun t190 => (if t190 = true then ((spec_l06SameBools.f k w w').bind fun t191 => (some t191)) else (some false))) else (some false))) else (some false))) = some (decide (l = l') && (decide (p = p') && (decide (o = o') && decide (w = w')))) := by
    intro k hk
    rw [sameBools_eq l l' (by omega) k (by omega)]
    simp only [Option.bind_some]
    cases decide (l = l')
    · rfl
    simp only [if_true, Bool.true_and]
    rw [sameBools_eq p p' (by omega) k (by omega)]
    simp only [Option.bind_some]
    cases decide (p = p')
    · rfl
    simp only [if_true, Bool.true_and]
    rw [sameBools_eq o o' (by omega) k (by omega)]
    simp only [Option.bind_some]
    cases decide (o = o')
    · rfl
    simp only [if_true, Bool.true_and]
    rw [sameBools_eq w w' (by omega) k (by omega)]
    exact Option.bind_some _ _
  obtain ⟨T, hT⟩ : ∃ T, (decide (l = l') && (decide (p = p') && (decide (o = o') && decide (w = w')))) = T := ⟨_, rfl⟩
  simp only [hT] at fin ⊢
  clear hT
  intro d
  induction d with
  | zero =>
    intro k i hd hk hi
    obtain ⟨k, rfl⟩ : ∃ m, k = m + 1 := ⟨k - 1, by omega⟩
    simp only [spec_l06Same.l0]
    rw [if_neg (by omega), fin k (by omega), List.drop_of_length_le (by omega), List.drop_of_length_le (by omega)]
    rfl
  | succ d ih =>
    intro k i hd hk hi
    obtain ⟨k, rfl⟩ : ∃ m, k = m + 1 := ⟨k - 1, by omega⟩
    by_cases c : i < bl.length
    · have h2 : i < bl'.length := by omega
      have ih1 := ih k (i + 1) (by omega) (by omega) (by omega)
      have b1 : (i : Int) < (bl.length : Int) := by omega
      have b2 : (0 : Int) ≤ (i : Int) := by omega
      have b3 : (i : Int) < (bl'.length : Int) := by omega
      have e : rd_T77 bl (i : Int) = bl[i] := by simp [rd_T77, List.getD_eq_getElem?_getD, c]
      have e2 : rd_T77 bl' (i : Int) = bl'[i] := by simp [rd_T77, List.getD_eq_getElem?_getD, h2]
      have hw : wrap64 ((i : Int) + 1) = ((i + 1 : Nat) : Int) := by unfold wrap64; omega
      have hf : fbsE (bl.drop i) (bl'.drop i) = (fbE bl[i] bl'[i] && fbsE (bl.drop (i + 1)) (bl'.drop (i + 1))) := by
        rw [List.drop_eq_getElem_cons c, List.drop_eq_getElem_cons h2]; rfl
      simp only [spec_l06Same.l0, if_pos b1, if_pos b2, if_pos b3, e, e2, hw, ih1, hf, fbE]
      generalize (bl[i].f0 == bl'[i].f0) = q0
      generalize (bl[i].f1 == bl'[i].f1) = q1
      generalize (bl[i].f2 == bl'[i].f2) = q2
      generalize (bl[i].f3 == bl'[i].f3) = q3
      cases q0 <;> cases q1 <;> cases q2 <;> cases q3 <;> simp
    · simp only [spec_l06Same.l0]
      rw [if_neg (by omega), fin k (by omega), List.drop_of_length_le (by omega), List.drop_of_length_le (by omega)]
      rfl
theorem specSame_eq (g : List Int) (bl : List S77) (l p o w : List Bool) (wr : Int) (g' : List Int) (bl' : List S77) (l' p' o' w' : List Bool) (wr' : Int) (h : g.length ≤ 16 ∧ bl.length ≤ 8 ∧ l.length ≤ 8 ∧ p.length ≤ 8 ∧ o.length ≤ 8 ∧ w.length ≤ 8) (k : Nat) (hk : 40 < k) :
    spec_l06Same.f k g bl l p o w wr g' bl' l' p' o' w' wr' = some (sameB g bl l p o w wr g' bl' l' p' o' w' wr') := by
  obtain ⟨k, rfl⟩ : ∃ m, k = m + 1 := ⟨k - 1, by omega⟩
  unfold spec_l06Same.f sameB
  rw [l00Same_eq g g' (by omega) _ (by omega)]
  simp only [Option.bind_some]
  cases decide (g = g')
  · rfl
  simp only [if_true, Bool.true_and]
  by_cases he : bl.length = bl'.length
  · rw [if_pos (by omega)]
    by_cases hw : wr = wr'
    · have e1 : (wr != wr') = false := by simp [hw]
      have e2 : (wr == wr') = true := by simp [hw]
      rw [e1, e2]
      simp only [spec_l06Same.j0, Bool.false_eq_true, if_false, Bool.and_true]
      have := l06Same_l0 g bl l p o w wr g' bl' l' p' o' w' wr' he h bl.length k 0 (by omega) (by omega) (by omega)
      simpa using this
    · have e1 : (wr != wr') = true := by simp [hw]
      have e2 : (wr == wr') = false := by simp [hw]
      rw [e1, e2]
      simp [spec_l06Same.j0]
  · rw [if_neg (by omega), fbsE_len bl bl' he]
    rfl

theorem szDataB_cases (g : List Int) (bl : List S122) (l p o w : List Bool) (wr : Int) (b : Int) (hbb : 0 ≤ b ∧ b ≤ 1048576) (hg : g.length ≤ maxLen) (hb : bl.length ≤ maxLen) (hl : l.length ≤ maxLen) (hp : p.length ≤ maxLen) (ho : o.length ≤ maxLen) (hw : w.length ≤ maxLen) :
    ∃ t, laws_szData.f g bl l p o w wr b = some t ∧ (¬ t < 0 → t ≤ 1048576 ∧ g.length ≤ 1048576 ∧ bl.length ≤ 1048576 ∧ l.length ≤ 1048576 ∧ p.length ≤ 1048576 ∧ o.length ≤ 1048576 ∧ w.length ≤ 1048576) := by
  unfold laws_szData.f laws_szIntS.f laws_szFbS.f laws_szBoolS.f
  rw [left_eq _ hg b (by omega)]
  simp only [Option.bind_some]
  by_cases c1 : left g.length b < 0
  · exact ⟨-1, by rw [if_pos c1], fun h => absurd (by decide) h⟩
  have d1 := left_le _ _ c1
  rw [if_neg c1, left_eq _ hb _ (by omega)]
  simp only [Option.bind_some]
  by_cases c2 : left bl.length (left g.length b) < 0
  · exact ⟨-1, by rw [if_pos c2], fun h => absurd (by decide) h⟩
  have d2 := left_le _ _ c2
  rw [if_neg c2, left_eq _ hl _ (by omega)]
  simp only [Option.bind_some]
  by_cases c3 : left l.length (left bl.length (left g.length b)) < 0
  · exact ⟨-1, by rw [if_pos c3], fun h => absurd (by decide) h⟩
  have d3 := left_le _ _ c3
  rw [if_neg c3, left_eq _ hp _ (by omega)]
  simp only [Option.bind_some]
  by_cases c4 : left p.length (left l.length (left bl.length (left g.length b))) < 0
  · exact ⟨-1, by rw [if_pos c4], fun h => absurd (by decide) h⟩
  have d4 := left_le _ _ c4
  rw [if_neg c4, left_eq _ ho _ (by omega)]
  simp only [Option.bind_some]
  by_cases c5 : left o.length (left p.length (left l.length (left bl.length (left g.length b)))) < 0
  · exact ⟨-1, by rw [if_pos c5], fun h => absurd (by decide) h⟩
  have d5 := left_le _ _ c5
  rw [if_neg c5, left_eq _ hw _ (by omega)]
  simp only [Option.bind_some]
  by_cases c6 : left w.length (left o.length (left p.length (left l.length (left bl.length (left g.length b))))) < 0
  · exact ⟨-1, by rw [if_pos c6], fun h => absurd (by decide) h⟩
  have d6 := left_le _ _ c6
  rw [if_neg c6]
  exact ⟨_, rfl, fun _ => by omega⟩
theorem dataB_len {g : List Int} {bl : List S77} {l p o w : List Bool} {wr : Int} (h : dataB g bl l p o w wr = true) : g.length ≤ 16 ∧ bl.length ≤ 8 ∧ l.length ≤ 8 ∧ p.length ≤ 8 ∧ o.length ≤ 8 ∧ w.length ≤ 8 := by
  unfold dataB at h
  simp only [Bool.and_eq_true, decide_eq_true_eq] at h
  obtain ⟨⟨h1, h2, h3, h4, h5, h6, _⟩, _⟩ := h
  omega
theorem sd_same (g : List Int) (bl : List S77) (l p o w : List Bool) (wr : Int) (g' : List Int) (bl' : List S77) (l' p' o' w' : List Bool) (wr' : Int) (k : Nat) (hk : 50 < k) :
    ∃ r, spec_SameData.f k g bl l p o w wr g' bl' l' p' o' w' wr' = some r ∧ impl_SameData.f k g bl l p o w wr g' bl' l' p' o' w' wr' = some r := by
  unfold spec_SameData.f impl_SameData.f
  rw [spec_data _ _ _ _ _ _ _ _ (by omega), impl_data _ _ _ _ _ _ _ _ (by omega)]
  simp only [Option.bind_some]
  cases hd : dataB g bl l p o w wr
  · exact ⟨_, rfl, rfl⟩
  simp only [if_true]
  rw [spec_data _ _ _ _ _ _ _ _ (by omega), impl_data _ _ _ _ _ _ _ _ (by omega)]
  simp only [Option.bind_some]
  cases dataB g' bl' l' p' o' w' wr'
  · exact ⟨_, rfl, rfl⟩
  simp only [if_true]
  rw [specSame_eq _ _ _ _ _ _ _ _ _ _ _ _ _ _ (dataB_len hd) k (by omega), implSame_eq _ _ _ _ _ _ _ _ _ _ _ _ _ _ (dataB_len hd) k (by omega)]
  exact ⟨_, rfl, rfl⟩
theorem FnExactSameData : laws_FnExactSameData.Pure := by
  intro x y hx hy
  obtain ⟨⟨h0, _⟩, ⟨h1, _⟩, ⟨h2, _⟩, ⟨h3, _⟩, ⟨h4, _⟩, ⟨h5, _⟩, _⟩ := hx
  obtain ⟨⟨i0, _⟩, ⟨i1, _⟩, ⟨i2, _⟩, ⟨i3, _⟩, ⟨i4, _⟩, ⟨i5, _⟩, _⟩ := hy
  obtain ⟨t, ht, hle⟩ := szDataB_cases x.f0 x.f1 x.f2 x.f3 x.f4 x.f5 x.f6 1048576 (by omega) h0 h1 h2 h3 h4 h5
  refine ⟨x.f0.length + x.f1.length + x.f2.length + x.f3.length + x.f4.length + x.f5.length + (y.f0.length + y.f1.length + y.f2.length + y.f3.length + y.f4.length + y.f5.length) + 100, ?_⟩
  unfold laws_FnExactSameData.f
  rw [ht]
  simp only [Option.bind_some]
  by_cases c : t < 0
  · rw [if_pos c]
  obtain ⟨tl, hl⟩ := hle c
  obtain ⟨u, hu, hue⟩ := szDataB_cases y.f0 y.f1 y.f2 y.f3 y.f4 y.f5 y.f6 t (by omega) i0 i1 i2 i3 i4 i5
  rw [if_neg c, hu]
  simp only [Option.bind_some]
  by_cases c2 : u < 0
  · rw [if_pos c2]
  obtain ⟨_, hm⟩ := hue c2
  rw [if_neg c2, toData_eq _ _ _ _ _ _ _ _ (by omega) hl, toData_eq _ _ _ _ _ _ _ _ (by omega) hm]
  obtain ⟨r, r1, r2⟩ := sd_same x.f0 (x.f1.map cvF) x.f2 x.f3 x.f4 x.f5 x.f6 y.f0 (y.f1.map cvF) y.f2 y.f3 y.f4 y.f5 y.f6 (x.f0.length + x.f1.length + x.f2.length + x.f3.length + x.f4.length + x.f5.length + (y.f0.length + y.f1.length + y.f2.length + y.f3.length + y.f4.length + y.f5.length) + 100) (by omega)
  simp only [Option.bind_some, r1, r2, bne_self_eq_false, Bool.false_eq_true, if_false]
  rw [eqData_same _ _ _ _ _ _ _ _ (by simp <;> omega) (by simpa using hl)]
  simp only [Option.bind_some, if_true]
  rw [eqData_same _ _ _ _ _ _ _ _ (by simp <;> omega) (by simpa using hm)]
  rfl


end Go.Proofs.Ytjgdfbcjlebniaa.Pure

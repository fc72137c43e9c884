/- Proved: the pure statement behind the law FnExactNewData of the given program: for every input that the row lets in, the program's answer and the reference's agree and the law returns true. Conditions: none beyond the row's own. -/
import Derived.Test.YtjgdfbcjlebniaaMFnExactNewDatax14
set_option linter.unusedVariables false
set_option linter.unusedSimpArgs false
namespace Go.Proofs.Ytjgdfbcjlebniaa.Pure
open Go.RowKit Go.Proofs.Ytjgdfbcjlebniaa.MFnExactNewData Go.Proofs.YtjgdfbcjlebniaaW.PrintWords Go.Proofs.YtjgdfbcjlebniaaW.PrintLast

theorem within_eq (a lo hi : Int) : impl_within.f a lo hi = some (decide (lo ≤ a ∧ a ≤ hi)) := by
  unfold impl_within.f
  by_cases h : a ≥ lo
  · have h' : lo ≤ a := h
    simp [h, h']
  · have h' : ¬ lo ≤ a := h
    simp [h, h']

theorem l01In_eq (a lo hi : Int) : spec_l01In.f a lo hi = some (decide (lo ≤ a ∧ a ≤ hi)) := by
  unfold spec_l01In.f
  by_cases h : a ≥ lo
  · have h' : lo ≤ a := h
    simp [h, h']
  · have h' : ¬ lo ≤ a := h
    simp [h, h']

theorem when_eq (b : Bool) (c : Int) : impl_when.f b c = some (if b = true then c else 0) := by
  unfold impl_when.f
  split <;> rfl

/-- The first number of a list that is not 0; else 0. -/
def fnz : List Int → Int
  | [] => 0
  | a :: l => if a = 0 then fnz l else a

theorem first_from (l : List Int) (hl : l.length ≤ 1000) : ∀ (d k i : Nat), l.length - i ≤ d → d < k → i ≤ l.length → impl_first.l0 k l l.length (i : Int) = some (fnz (l.drop i)) := by
  intro d
  induction d with
  | zero =>
    intro k i hd hk hi
    obtain ⟨k, rfl⟩ : ∃ m, k = m + 1 := ⟨k - 1, by omega⟩
    simp only [impl_first.l0]
    rw [if_neg (by omega), List.drop_of_length_le (by omega)]
    rfl
  | succ d ih =>
    intro k i hd hk hi
    obtain ⟨k, rfl⟩ : ∃ m, k = m + 1 := ⟨k - 1, by omega⟩
    simp only [impl_first.l0]
    by_cases h : i < l.length
    · have hw : wrap64 ((i : Int) + 1) = ((i + 1 : Nat) : Int) := by unfold wrap64; omega
      rw [hw, ih k (i + 1) (by omega) (by omega) (by omega)]
      have e : rd l (i : Int) = l[i] := by simp [rd, List.getD_eq_getElem?_getD, h]
      rw [List.drop_eq_getElem_cons h, e]
      rw [if_pos (by omega), if_pos (by omega), if_pos (by omega)]
      simp only [fnz]
      split <;> rfl
    · rw [if_neg (by omega), List.drop_of_length_le (by omega)]
      rfl

theorem first_eq (l : List Int) (hl : l.length ≤ 1000) (k : Nat) (hk : l.length < k) : impl_first.f k l = some (fnz l) := by
  unfold impl_first.f
  have h := first_from l hl l.length k 0 (by omega) hk (by omega)
  simpa using h

theorem toIntS_from (l : List Int) (hl : l.length ≤ 1048576) : ∀ (d k i : Nat) (acc : List Int), l.length - i ≤ d → d < k → i ≤ l.length → acc.length = l.length → (∀ j, j < i → acc[j]? = l[j]?) → laws_toIntS.l0 k l acc (i : Int) = some l := by
  intro d
  induction d with
  | zero =>
    intro k i acc hd hk hi hlen hA
    obtain ⟨k, rfl⟩ : ∃ m, k = m + 1 := ⟨k - 1, by omega⟩
    simp only [laws_toIntS.l0]
    rw [if_neg (by omega)]
    congr 1
    apply List.ext_getElem?
    intro j
    by_cases h : j < i
    · exact hA j h
    · rw [List.getElem?_eq_none (by omega), List.getElem?_eq_none (by omega)]
  | succ d ih =>
    intro k i acc hd hk hi hlen hA
    obtain ⟨k, rfl⟩ : ∃ m, k = m + 1 := ⟨k - 1, by omega⟩
    simp only [laws_toIntS.l0]
    by_cases h : i < l.length
    · rw [if_pos (by omega), if_pos (by omega), if_pos (by omega)]
      have hw : wrap64 ((i : Int) + 1) = ((i + 1 : Nat) : Int) := by unfold wrap64; omega
      rw [hw]
      refine ih k (i + 1) _ (by omega) (by omega) (by omega) (by simp [hlen]) (fun j hj => ?_)
      have e : rd l (i : Int) = l[i] := by simp [rd, List.getD_eq_getElem?_getD, h]
      rw [e, Int.toNat_natCast, List.getElem?_set]
      by_cases hji : i = j
      · subst hji
        rw [if_pos rfl, if_pos (by omega), List.getElem?_eq_getElem h]
      · rw [if_neg hji]
        exact hA j (by omega)
    · rw [if_neg (by omega)]
      congr 1
      apply List.ext_getElem?
      intro j
      by_cases h2 : j < i
      · exact hA j h2
      · rw [List.getElem?_eq_none (by omega), List.getElem?_eq_none (by omega)]
theorem toIntS_eq (l : List Int) (hl : l.length ≤ 1048576) (k : Nat) (hk : l.length < k) : laws_toIntS.f k l = some l := by
  unfold laws_toIntS.f
  rw [if_pos (by omega), if_pos (by omega)]
  exact toIntS_from l hl l.length k 0 _ (by omega) hk (by omega) (by simp) (fun j hj => by omega)
theorem eqIntS_from (l : List Int) (hl : l.length ≤ 1048576) : ∀ (d k i : Nat), l.length - i ≤ d → d < k → i ≤ l.length → laws_eqIntS.l0 k l l (i : Int) = some true := by
  intro d
  induction d with
  | zero =>
    intro k i hd hk hi
    obtain ⟨k, rfl⟩ : ∃ m, k = m + 1 := ⟨k - 1, by omega⟩
    simp only [laws_eqIntS.l0]
    rw [if_neg (by omega)]
  | succ d ih =>
    intro k i hd hk hi
    obtain ⟨k, rfl⟩ : ∃ m, k = m + 1 := ⟨k - 1, by omega⟩
    simp only [laws_eqIntS.l0]
    by_cases h : i < l.length
    · have hw : wrap64 ((i : Int) + 1) = ((i + 1 : Nat) : Int) := by unfold wrap64; omega
      rw [if_pos (by omega), if_pos (by omega), hw, ih k (i + 1) (by omega) (by omega) (by omega)]
      simp only [show ((i : Int) < (l.length : Int)) from by omega, if_true]
    · rw [if_neg (by omega)]
theorem eqIntS_same (l : List Int) (hl : l.length ≤ 1048576) (k : Nat) (hk : l.length < k) : laws_eqIntS.f k l l = some true := by
  unfold laws_eqIntS.f
  rw [if_pos rfl]
  exact eqIntS_from l hl l.length k 0 (by omega) hk (by omega)

theorem impl_all_int_isFbKind_from (p : Int → Bool) (K : Nat) (hF : ∀ (k : Nat) (x : Int), K ≤ k → impl_isFbKind.f x = some (p x)) (l : List Int) (hl : l.length ≤ 1048576) : ∀ (d k i : Nat), l.length - i ≤ d → d + K < k → i ≤ l.length →
    ∃ j, impl_all_int_isFbKind.l0 k l (i : Int) = some j ∧ (!(decide (0 ≤ j))) = (l.drop i).all p := by
  intro d
  induction d with
  | zero =>
    intro k i hd hk hi
    obtain ⟨k, rfl⟩ : ∃ m, k = m + 1 := ⟨k - 1, by omega⟩
    refine ⟨-1, ?_, ?_⟩
    · simp only [impl_all_int_isFbKind.l0]
      rw [if_neg (by omega)]
    · rw [List.drop_of_length_le (by omega)]
      rfl
  | succ d ih =>
    intro k i hd hk hi
    obtain ⟨k, rfl⟩ : ∃ m, k = m + 1 := ⟨k - 1, by omega⟩
    by_cases h : i < l.length
    · have e : rd l (i : Int) = l[i] := by simp [rd, List.getD_eq_getElem?_getD, h]
      have hw : wrap64 ((i : Int) + 1) = ((i + 1 : Nat) : Int) := by unfold wrap64; omega
      obtain ⟨j, hj, hp⟩ := ih k (i + 1) (by omega) (by omega) (by omega)
      have hx := hF k l[i] (by omega)
      rw [List.drop_eq_getElem_cons h, List.all_cons]
      simp only [impl_all_int_isFbKind.l0]
      rw [if_pos (by omega), if_pos (by omega), e, hw, hx]
      simp only [Option.bind_some]
      cases p l[i] with
      | true => exact ⟨j, by rw [if_pos rfl]; exact hj, by simpa using hp⟩
      | false => exact ⟨(i : Int), by rw [if_neg (by decide)], by simp⟩
    · refine ⟨-1, ?_, ?_⟩
      · simp only [impl_all_int_isFbKind.l0]
        rw [if_neg (by omega)]
      · rw [List.drop_of_length_le (by omega)]
        rfl
theorem impl_all_int_isFbKind_eq (p : Int → Bool) (K : Nat) (hF : ∀ (k : Nat) (x : Int), K ≤ k → impl_isFbKind.f x = some (p x)) (l : List Int) (hl : l.length ≤ 1048576) (k : Nat) (hk : l.length + K < k) : impl_all_int_isFbKind.f k l = some (l.all p) := by
  obtain ⟨j, hj, hp⟩ := impl_all_int_isFbKind_from p K hF l hl l.length k 0 (by omega) (by omega) (by omega)
  unfold impl_all_int_isFbKind.f
  have hj' : impl_all_int_isFbKind.l0 k l 0 = some j := hj
  rw [hj']
  simp only [Option.bind_some]
  rw [hp]
  rfl

def kindB (a : Int) : Bool := decide (1 ≤ a ∧ a ≤ 4)
theorem isFbKind_eq (a : Int) : impl_isFbKind.f a = some (kindB a) := by unfold impl_isFbKind.f kindB; rw [within_eq]; rfl
theorem l03Kind_eq (a : Int) : spec_l03Kind.f a = some (kindB a) := by unfold spec_l03Kind.f kindB; rw [l01In_eq]; rfl
theorem areKinds_eq (l : List Int) (hl : l.length ≤ 1048576) (k : Nat) (hk : l.length + 1 < k) : impl_areKinds.f k l = some (decide (l.length ≤ 8) && l.all kindB) := by
  unfold impl_areKinds.f
  by_cases h : l.length ≤ 8
  · rw [if_pos (by omega), impl_all_int_isFbKind_eq kindB 0 (fun k x _ => isFbKind_eq x) l hl k (by omega), decide_eq_true h]; rfl
  · rw [if_neg (by omega), decide_eq_false h]; rfl
theorem l04Kinds_from (l : List Int) (hl : l.length ≤ 1048576) : ∀ (d k i : Nat), l.length - i ≤ d → d < k → i ≤ l.length → spec_l04Kinds.l0 k l (i : Int) = some ((l.drop i).all kindB) := by
  intro d
  induction d with
  | zero =>
    intro k i hd hk hi
    obtain ⟨k, rfl⟩ : ∃ m, k = m + 1 := ⟨k - 1, by omega⟩
    simp only [spec_l04Kinds.l0]
    rw [if_neg (by omega), List.drop_of_length_le (by omega)]
    rfl
  | succ d ih =>
    intro k i hd hk hi
    obtain ⟨k, rfl⟩ : ∃ m, k = m + 1 := ⟨k - 1, by omega⟩
    simp only [spec_l04Kinds.l0]
    by_cases h : i < l.length
    · have e : rd l (i : Int) = l[i] := by simp [rd, List.getD_eq_getElem?_getD, h]
      have hw : wrap64 ((i : Int) + 1) = ((i + 1 : Nat) : Int) := by unfold wrap64; omega
      rw [if_pos (by omega), if_pos (by omega), e, hw, ih k (i + 1) (by omega) (by omega) (by omega), l03Kind_eq, List.drop_eq_getElem_cons h, List.all_cons]
      simp only [Option.bind_some]
      cases kindB l[i] <;> rfl
    · rw [if_neg (by omega), List.drop_of_length_le (by omega)]
      rfl
theorem l04Kinds_eq (l : List Int) (hl : l.length ≤ 1048576) (k : Nat) (hk : l.length < k) : spec_l04Kinds.f k l = some (decide (l.length ≤ 8) && l.all kindB) := by
  unfold spec_l04Kinds.f
  by_cases h : l.length ≤ 8
  · have := l04Kinds_from l hl l.length k 0 (by omega) hk (by omega)
    rw [if_neg (by omega), decide_eq_true h]
    simpa using this
  · rw [if_pos (by omega), decide_eq_false h]; rfl
theorem eqBoolS_from (l : List Bool) (hl : l.length ≤ 1048576) : ∀ (d k i : Nat), l.length - i ≤ d → d < k → i ≤ l.length → laws_eqBoolS.l0 k l l (i : Int) = some true := by
  intro d
  induction d with
  | zero =>
    intro k i hd hk hi
    obtain ⟨k, rfl⟩ : ∃ m, k = m + 1 := ⟨k - 1, by omega⟩
    simp only [laws_eqBoolS.l0]
    rw [if_neg (by omega)]
  | succ d ih =>
    intro k i hd hk hi
    obtain ⟨k, rfl⟩ : ∃ m, k = m + 1 := ⟨k - 1, by omega⟩
    simp only [laws_eqBoolS.l0]
    by_cases h : i < l.length
    · have hw : wrap64 ((i : Int) + 1) = ((i + 1 : Nat) : Int) := by unfold wrap64; omega
      rw [if_pos (by omega), if_pos (by omega), hw, ih k (i + 1) (by omega) (by omega) (by omega)]
      simp only [show ((i : Int) < (l.length : Int)) from by omega, if_true, bne_self_eq_false, Bool.false_eq_true, if_false]
    · rw [if_neg (by omega)]
theorem eqBoolS_same (l : List Bool) (hl : l.length ≤ 1048576) (k : Nat) (hk : l.length < k) : laws_eqBoolS.f k l l = some true := by
  unfold laws_eqBoolS.f
  rw [if_pos rfl]
  exact eqBoolS_from l hl l.length k 0 (by omega) hk (by omega)
theorem eqFb_refl (a : Int) (b : Bool) (c d : Int) : laws_eqFb.f a b c d a b c d = some true := by
  unfold laws_eqFb.f
  simp
theorem eqFbS_from (l : List S77) (hl : l.length ≤ 1048576) : ∀ (d k i : Nat), l.length - i ≤ d → d < k → i ≤ l.length → laws_eqFbS.l0 k l l (i : Int) = some true := by
  intro d
  induction d with
  | zero =>
    intro k i hd hk hi
    obtain ⟨k, rfl⟩ : ∃ m, k = m + 1 := ⟨k - 1, by omega⟩
    simp only [laws_eqFbS.l0]
    rw [if_neg (by omega)]
  | succ d ih =>
    intro k i hd hk hi
    obtain ⟨k, rfl⟩ : ∃ m, k = m + 1 := ⟨k - 1, by omega⟩
    simp only [laws_eqFbS.l0]
    by_cases h : i < l.length
    · have hw : wrap64 ((i : Int) + 1) = ((i + 1 : Nat) : Int) := by unfold wrap64; omega
      rw [hw, ih k (i + 1) (by omega) (by omega) (by omega), eqFb_refl]
      rw [if_pos (by omega), if_pos (by omega), if_pos (by omega)]
      rfl
    · rw [if_neg (by omega)]
theorem eqFbS_eq (l : List S77) (hl : l.length ≤ 1048576) (k : Nat) (hk : l.length < k) : laws_eqFbS.f k l l = some true := by
  unfold laws_eqFbS.f
  rw [if_pos rfl]
  have h := eqFbS_from l hl l.length k 0 (by omega) hk (by omega)
  simpa using h
theorem eqData_same (g : List Int) (bl : List S77) (l p o w : List Bool) (wr : Int) (k : Nat) (hk : g.length + bl.length + l.length + p.length + o.length + w.length < k)
    (h : g.length ≤ 1048576 ∧ bl.length ≤ 1048576 ∧ l.length ≤ 1048576 ∧ p.length ≤ 1048576 ∧ o.length ≤ 1048576 ∧ w.length ≤ 1048576) :
    laws_eqData.f k g bl l p o w wr g bl l p o w wr = some true := by
  unfold laws_eqData.f
  rw [eqIntS_same g h.1 k (by omega), eqFbS_eq bl h.2.1 k (by omega), eqBoolS_same l h.2.2.1 k (by omega), eqBoolS_same p h.2.2.2.1 k (by omega), eqBoolS_same o h.2.2.2.2.1 k (by omega), eqBoolS_same w h.2.2.2.2.2 k (by omega)]
  simp

theorem markIntS_from : ∀ (d k i : Nat) (l : List Int) (a b : Int), l.length - i ≤ d → d < k → i ≤ l.length → l.length ≤ 1048576 → 0 ≤ a → a ≤ 100000000 → b = a + i → (∀ j : Nat, j < i → l[j]? = some (a + j)) →
    ∃ l', laws_markIntS.l0 k l b (i : Int) = some (a + l.length, l') ∧ l'.length = l.length ∧ ∀ j : Nat, j < l.length → l'[j]? = some (a + j) := by
  intro d
  induction d with
  | zero =>
    intro k i l a b hd hk hi hl h0 h1 hb hA
    obtain ⟨k, rfl⟩ : ∃ m, k = m + 1 := ⟨k - 1, by omega⟩
    simp only [laws_markIntS.l0]
    rw [if_neg (by omega)]
    have e : i = l.length := by omega
    subst e
    exact ⟨l, by rw [hb], rfl, hA⟩
  | succ d ih =>
    intro k i l a b hd hk hi hl h0 h1 hb hA
    obtain ⟨k, rfl⟩ : ∃ m, k = m + 1 := ⟨k - 1, by omega⟩
    simp only [laws_markIntS.l0]
    by_cases h : i < l.length
    · have hw : wrap64 ((i : Int) + 1) = ((i + 1 : Nat) : Int) := by unfold wrap64; omega
      have hw2 : wrap64 (b + 1) = b + 1 := by unfold wrap64; omega
      rw [if_pos (by omega), if_pos (by omega), hw, hw2, Int.toNat_natCast]
      have hs := ih k (i + 1) (l.set i b) a (b + 1) (by simp; omega) (by omega) (by simp; omega) (by simpa using hl) h0 h1 (by omega) (fun j hj => by
        rw [List.getElem?_set]
        by_cases hji : i = j
        · subst hji
          rw [if_pos rfl, if_pos h, hb]
        · rw [if_neg hji]
          exact hA j (by omega))
      simpa using hs
    · rw [if_neg (by omega)]
      have e : i = l.length := by omega
      subst e
      exact ⟨l, by rw [hb], rfl, hA⟩
theorem markIntS_eq (l : List Int) (hl : l.length ≤ 1048576) (a : Int) (h0 : 0 ≤ a) (h1 : a ≤ 100000000) (k : Nat) (hk : l.length < k) :
    ∃ l', laws_markIntS.f k l a = some (a + l.length, l') ∧ l'.length = l.length ∧ ∀ j : Nat, j < l.length → l'[j]? = some (a + j) :=
  markIntS_from l.length k 0 l a a (by omega) hk (by omega) hl h0 h1 (by simp) (fun j hj => by omega)
theorem heldIntS_from (l : List Int) (hl : l.length ≤ 1048576) (a : Int) (h0 : 0 ≤ a) (h1 : a ≤ 100000000) (hA : ∀ j : Nat, j < l.length → l[j]? = some (a + j)) : ∀ (d k i : Nat), l.length - i ≤ d → d < k → i ≤ l.length → laws_heldIntS.l0 k l (a + i) (i : Int) = some (a + l.length) := by
  intro d
  induction d with
  | zero =>
    intro k i hd hk hi
    obtain ⟨k, rfl⟩ : ∃ m, k = m + 1 := ⟨k - 1, by omega⟩
    simp only [laws_heldIntS.l0]
    rw [if_neg (by omega)]
    have e : i = l.length := by omega
    rw [e]
  | succ d ih =>
    intro k i hd hk hi
    obtain ⟨k, rfl⟩ : ∃ m, k = m + 1 := ⟨k - 1, by omega⟩
    simp only [laws_heldIntS.l0]
    by_cases h : i < l.length
    · have hw : wrap64 ((i : Int) + 1) = ((i + 1 : Nat) : Int) := by unfold wrap64; omega
      have hw2 : wrap64 (a + i + 1) = a + ((i + 1 : Nat) : Int) := by unfold wrap64; omega
      have e : rd l (i : Int) = a + i := by
        have := hA i h
        simp [rd, List.getD_eq_getElem?_getD, this]
      rw [if_pos (by omega), if_pos (by omega), e, if_pos rfl, hw, hw2]
      exact ih k (i + 1) (by omega) (by omega) (by omega)
    · rw [if_neg (by omega)]
      have e : i = l.length := by omega
      rw [e]
theorem heldIntS_eq (l : List Int) (hl : l.length ≤ 1048576) (a : Int) (h0 : 0 ≤ a) (h1 : a ≤ 100000000) (hA : ∀ j : Nat, j < l.length → l[j]? = some (a + j)) (k : Nat) (hk : l.length < k) : laws_heldIntS.f k l a = some (a + l.length) := by
  have h := heldIntS_from l hl a h0 h1 hA l.length k 0 (by omega) hk (by omega)
  unfold laws_heldIntS.f
  simpa using h
theorem markBoolS_from : ∀ (d k i : Nat) (l : List Bool) (a : Int), l.length - i ≤ d → d < k → i ≤ l.length → l.length ≤ 1048576 → 0 ≤ a → a ≤ 100000000 →
    ∃ l', laws_markBoolS.l0 k l (a + i) (i : Int) = some (a + l.length, l') := by
  intro d
  induction d with
  | zero =>
    intro k i l a hd hk hi hl h0 h1
    obtain ⟨k, rfl⟩ : ∃ m, k = m + 1 := ⟨k - 1, by omega⟩
    simp only [laws_markBoolS.l0]
    rw [if_neg (by omega)]
    have e : i = l.length := by omega
    subst e
    exact ⟨l, rfl⟩
  | succ d ih =>
    intro k i l a hd hk hi hl h0 h1
    obtain ⟨k, rfl⟩ : ∃ m, k = m + 1 := ⟨k - 1, by omega⟩
    simp only [laws_markBoolS.l0]
    by_cases h : i < l.length
    · have hw : wrap64 ((i : Int) + 1) = ((i + 1 : Nat) : Int) := by unfold wrap64; omega
      have hw2 : wrap64 (a + i + 1) = a + ((i + 1 : Nat) : Int) := by unfold wrap64; omega
      rw [if_pos (by omega), if_pos (by omega), hw, hw2, Int.toNat_natCast]
      have hs := ih k (i + 1) (l.set i (Int.tmod (a + i) 3 == 0)) a (by simp; omega) (by omega) (by simp; omega) (by simpa using hl) h0 h1
      simpa using hs
    · rw [if_neg (by omega)]
      have e : i = l.length := by omega
      subst e
      exact ⟨l, rfl⟩
theorem markBoolS_eq (l : List Bool) (hl : l.length ≤ 1048576) (a : Int) (h0 : 0 ≤ a) (h1 : a ≤ 100000000) (k : Nat) (hk : l.length < k) : ∃ l', laws_markBoolS.f k l a = some (a + l.length, l') := by
  have h := markBoolS_from l.length k 0 l a (by omega) hk (by omega) hl h0 h1
  unfold laws_markBoolS.f
  simpa using h

def mB (x : Int) : Bool := Int.tmod x 3 == 0
theorem markB_from (n : Nat) (a : Int) (h0 : 0 ≤ a) (h1 : a ≤ 100000000) (hn1 : n ≤ 1048576) : ∀ (d k i : Nat) (l : List Bool), l.length = n → n - i ≤ d → d < k → i ≤ n → (∀ j : Nat, j < i → l[j]? = some (mB (a + j))) →
    ∃ l', laws_markBoolS.l0 k l (a + i) (i : Int) = some (a + n, l') ∧ l'.length = n ∧ ∀ j : Nat, j < n → l'[j]? = some (mB (a + j)) := by
  intro d
  induction d with
  | zero =>
    intro k i l hn hd hk hi hA
    obtain ⟨k, rfl⟩ : ∃ m, k = m + 1 := ⟨k - 1, by omega⟩
    simp only [laws_markBoolS.l0]
    rw [if_neg (by omega)]
    have e : i = n := by omega
    subst e
    exact ⟨l, rfl, hn, hA⟩
  | succ d ih =>
    intro k i l hn hd hk hi hA
    obtain ⟨k, rfl⟩ : ∃ m, k = m + 1 := ⟨k - 1, by omega⟩
    simp only [laws_markBoolS.l0]
    by_cases h : i < n
    · have hw : wrap64 ((i : Int) + 1) = ((i + 1 : Nat) : Int) := by unfold wrap64; omega
      have hw2 : wrap64 (a + i + 1) = a + ((i + 1 : Nat) : Int) := by unfold wrap64; omega
      rw [if_pos (by omega), if_pos (by omega), hw, hw2, Int.toNat_natCast]
      exact ih k (i + 1) _ (by simpa using hn) (by omega) (by omega) (by omega) (fun j hj => by
        rw [List.getElem?_set]
        by_cases hji : i = j
        · subst hji
          rw [if_pos rfl, if_pos (by omega)]
          rfl
        · rw [if_neg hji]
          exact hA j (by omega))
    · rw [if_neg (by omega)]
      have e : i = n := by omega
      subst e
      exact ⟨l, rfl, hn, hA⟩
theorem markB_eq (l : List Bool) (hl : l.length ≤ 1048576) (a : Int) (h0 : 0 ≤ a) (h1 : a ≤ 100000000) (k : Nat) (hk : l.length < k) :
    ∃ l', laws_markBoolS.f k l a = some (a + l.length, l') ∧ l'.length = l.length ∧ ∀ j : Nat, j < l.length → l'[j]? = some (mB (a + j)) := by
  have h := markB_from l.length a h0 h1 hl l.length k 0 l rfl (by omega) hk (by omega) (fun j hj => by omega)
  unfold laws_markBoolS.f
  simpa using h
theorem heldB_from (l : List Bool) (hl : l.length ≤ 1048576) (a : Int) (h0 : 0 ≤ a) (h1 : a ≤ 100000000) (hA : ∀ j : Nat, j < l.length → l[j]? = some (mB (a + j))) : ∀ (d k i : Nat), l.length - i ≤ d → d < k → i ≤ l.length → laws_heldBoolS.l0 k l (a + i) (i : Int) = some (a + l.length) := by
  intro d
  induction d with
  | zero =>
    intro k i hd hk hi
    obtain ⟨k, rfl⟩ : ∃ m, k = m + 1 := ⟨k - 1, by omega⟩
    simp only [laws_heldBoolS.l0]
    rw [if_neg (by omega)]
    have e : i = l.length := by omega
    rw [e]
  | succ d ih =>
    intro k i hd hk hi
    obtain ⟨k, rfl⟩ : ∃ m, k = m + 1 := ⟨k - 1, by omega⟩
    simp only [laws_heldBoolS.l0]
    by_cases h : i < l.length
    · have hw : wrap64 ((i : Int) + 1) = ((i + 1 : Nat) : Int) := by unfold wrap64; omega
      have hw2 : wrap64 (a + i + 1) = a + ((i + 1 : Nat) : Int) := by unfold wrap64; omega
      have e : rdOf false l (i : Int) = (Int.tmod (a + i) 3 == 0) := by
        have := hA i h
        simp [rdOf, List.getD_eq_getElem?_getD, this, mB]
      rw [if_pos (by omega), if_pos (by omega), e, bne_self_eq_false, if_neg (by decide), hw, hw2]
      exact ih k (i + 1) (by omega) (by omega) (by omega)
    · rw [if_neg (by omega)]
      have e : i = l.length := by omega
      rw [e]
theorem heldB_eq (l : List Bool) (hl : l.length ≤ 1048576) (a : Int) (h0 : 0 ≤ a) (h1 : a ≤ 100000000) (hA : ∀ j : Nat, j < l.length → l[j]? = some (mB (a + j))) (k : Nat) (hk : l.length < k) : laws_heldBoolS.f k l a = some (a + l.length) := by
  have h := heldB_from l hl a h0 h1 hA l.length k 0 (by omega) hk (by omega)
  unfold laws_heldBoolS.f
  simpa using h
def mF (a : Int) : S77 := ⟨a, Int.tmod (a + 1) 3 == 0, a + 2, a + 3⟩
theorem markF_from (n : Nat) (a : Int) (h0 : 0 ≤ a) (h1 : a ≤ 100000000) (hn1 : n ≤ 1048576) : ∀ (d k i : Nat) (l : List S77), l.length = n → n - i ≤ d → d < k → i ≤ n → (∀ j : Nat, j < i → l[j]? = some (mF (a + 4 * j))) →
    ∃ l', laws_markFbS.l0 k l (a + 4 * i) (i : Int) = some (a + 4 * n, l') ∧ l'.length = n ∧ ∀ j : Nat, j < n → l'[j]? = some (mF (a + 4 * j)) := by
  intro d
  induction d with
  | zero =>
    intro k i l hn hd hk hi hA
    obtain ⟨k, rfl⟩ : ∃ m, k = m + 1 := ⟨k - 1, by omega⟩
    simp only [laws_markFbS.l0]
    rw [if_neg (by omega)]
    have e : i = n := by omega
    subst e
    exact ⟨l, rfl, hn, hA⟩
  | succ d ih =>
    intro k i l hn hd hk hi hA
    obtain ⟨k, rfl⟩ : ∃ m, k = m + 1 := ⟨k - 1, by omega⟩
    simp only [laws_markFbS.l0]
    by_cases h : i < n
    · have hw : wrap64 ((i : Int) + 1) = ((i + 1 : Nat) : Int) := by unfold wrap64; omega
      have e1 : wrap64 (a + 4 * i + 1) = a + 4 * i + 1 := by unfold wrap64; omega
      have e2 : wrap64 (a + 4 * i + 1 + 1) = a + 4 * i + 2 := by unfold wrap64; omega
      have e3 : wrap64 (a + 4 * i + 2 + 1) = a + 4 * i + 3 := by unfold wrap64; omega
      have e4 : wrap64 (a + 4 * i + 3 + 1) = a + 4 * ((i + 1 : Nat) : Int) := by unfold wrap64; omega
      rw [if_pos (by omega), if_pos (by omega)]
      simp only [Option.bind_some, hw, e1, e2, e3, e4]
      refine ih k (i + 1) _ (by simpa using hn) (by omega) (by omega) (by omega) (fun j hj => ?_)
      have hil : i < l.length := by omega
      by_cases hji : i = j
      · subst hji
        simp [rd_T77, List.getD_eq_getElem?_getD, hil, mF]
      · have := hA j (by omega)
        simp only [Int.toNat_natCast, List.getElem?_set, if_neg hji]
        exact this
    · rw [if_neg (by omega)]
      have e : i = n := by omega
      subst e
      exact ⟨l, rfl, hn, hA⟩
theorem markF_eq (l : List S77) (hl : l.length ≤ 1048576) (a : Int) (h0 : 0 ≤ a) (h1 : a ≤ 100000000) (k : Nat) (hk : l.length < k) :
    ∃ l', laws_markFbS.f k l a = some (a + 4 * l.length, l') ∧ l'.length = l.length ∧ ∀ j : Nat, j < l.length → l'[j]? = some (mF (a + 4 * j)) := by
  have h := markF_from l.length a h0 h1 hl l.length k 0 l rfl (by omega) hk (by omega) (fun j hj => by omega)
  unfold laws_markFbS.f
  simpa using h
theorem heldF_from (l : List S77) (hl : l.length ≤ 1048576) (a : Int) (h0 : 0 ≤ a) (h1 : a ≤ 100000000) (hA : ∀ j : Nat, j < l.length → l[j]? = some (mF (a + 4 * j))) : ∀ (d k i : Nat), l.length - i ≤ d → d < k → i ≤ l.length → laws_heldFbS.l0 k l (a + 4 * i) (i : Int) = some (a + 4 * l.length) := by
  intro d
  induction d with
  | zero =>
    intro k i hd hk hi
    obtain ⟨k, rfl⟩ : ∃ m, k = m + 1 := ⟨k - 1, by omega⟩
    simp only [laws_heldFbS.l0]
    rw [if_neg (by omega)]
    have e : i = l.length := by omega
    rw [e]
  | succ d ih =>
    intro k i hd hk hi
    obtain ⟨k, rfl⟩ : ∃ m, k = m + 1 := ⟨k - 1, by omega⟩
    simp only [laws_heldFbS.l0]
    by_cases h : i < l.length
    · have hw : wrap64 ((i : Int) + 1) = ((i + 1 : Nat) : Int) := by unfold wrap64; omega
      have e1 : wrap64 (a + 4 * i + 1) = a + 4 * i + 1 := by unfold wrap64; omega
      have e2 : wrap64 (a + 4 * i + 1 + 1) = a + 4 * i + 2 := by unfold wrap64; omega
      have e3 : wrap64 (a + 4 * i + 2 + 1) = a + 4 * i + 3 := by unfold wrap64; omega
      have e4 : wrap64 (a + 4 * i + 3 + 1) = a + 4 * ((i + 1 : Nat) : Int) := by unfold wrap64; omega
      have e : rd_T77 l (i : Int) = mF (a + 4 * i) := by
        have := hA i h
        simp [rd_T77, List.getD_eq_getElem?_getD, this]
      rw [if_pos (by omega), if_pos (by omega), e]
      simp only [mF, if_true, e1, e2, e3, e4, bne_self_eq_false, Bool.false_eq_true, if_false, hw]
      exact ih k (i + 1) (by omega) (by omega) (by omega)
    · rw [if_neg (by omega)]
      have e : i = l.length := by omega
      rw [e]
theorem heldF_eq (l : List S77) (hl : l.length ≤ 1048576) (a : Int) (h0 : 0 ≤ a) (h1 : a ≤ 100000000) (hA : ∀ j : Nat, j < l.length → l[j]? = some (mF (a + 4 * j))) (k : Nat) (hk : l.length < k) : laws_heldFbS.f k l a = some (a + 4 * l.length) := by
  have h := heldF_from l hl a h0 h1 hA l.length k 0 (by omega) hk (by omega)
  unfold laws_heldFbS.f
  simpa using h
/-- What markData has written, heldData finds. -/
theorem markHeld (g : List Int) (bl : List S77) (l p o w : List Bool) (wr : Int) (k : Nat) (hk : g.length + bl.length + l.length + p.length + o.length + w.length < k)
    (h : g.length ≤ 1048576 ∧ bl.length ≤ 1048576 ∧ l.length ≤ 1048576 ∧ p.length ≤ 1048576 ∧ o.length ≤ 1048576 ∧ w.length ≤ 1048576) :
    ∃ (m : Int) (g' : List Int) (bl' : List S77) (l' p' o' w' : List Bool), laws_markData.f k g bl l p o w wr 1 = some (m, g', bl', l', p', o', w') ∧ 0 ≤ m ∧ ∀ k2 : Nat, g.length + bl.length + l.length + p.length + o.length + w.length < k2 → laws_heldData.f k2 g' bl' l' p' o' w' wr 1 = some m := by
  obtain ⟨g1, eg, lg, hg⟩ := markIntS_eq g h.1 1 (by omega) (by omega) k (by omega)
  obtain ⟨b1, eb, lb, hb⟩ := markF_eq bl h.2.1 (1 + g.length) (by omega) (by omega) k (by omega)
  obtain ⟨l1, el, ll, hl⟩ := markB_eq l h.2.2.1 (1 + g.length + 4 * bl.length) (by omega) (by omega) k (by omega)
  obtain ⟨p1, ep, lp, hp⟩ := markB_eq p h.2.2.2.1 (1 + g.length + 4 * bl.length + l.length) (by omega) (by omega) k (by omega)
  obtain ⟨o1, eo, lo, ho⟩ := markB_eq o h.2.2.2.2.1 (1 + g.length + 4 * bl.length + l.length + p.length) (by omega) (by omega) k (by omega)
  obtain ⟨w1, ew, lw, hw⟩ := markB_eq w h.2.2.2.2.2 (1 + g.length + 4 * bl.length + l.length + p.length + o.length) (by omega) (by omega) k (by omega)
  refine ⟨1 + g.length + 4 * bl.length + l.length + p.length + o.length + w.length, g1, b1, l1, p1, o1, w1, ?_, by omega, fun k2 hk2 => ?_⟩
  · unfold laws_markData.f
    rw [eg]
    simp only [Option.bind_some, eb, el, ep, eo, ew]
  · unfold laws_heldData.f
    rw [heldIntS_eq g1 (by omega) 1 (by omega) (by omega) (fun j hj => hg j (by omega)) k2 (by omega)]
    simp only [Option.bind_some]
    rw [if_neg (by omega), lg, heldF_eq b1 (by omega) _ (by omega) (by omega) (fun j hj => hb j (by omega)) k2 (by omega)]
    simp only [Option.bind_some]
    rw [if_neg (by omega), lb, heldB_eq l1 (by omega) _ (by omega) (by omega) (fun j hj => hl j (by omega)) k2 (by omega)]
    simp only [Option.bind_some]
    rw [if_neg (by omega), ll, heldB_eq p1 (by omega) _ (by omega) (by omega) (fun j hj => hp j (by omega)) k2 (by omega)]
    simp only [Option.bind_some]
    rw [if_neg (by omega), lp, heldB_eq o1 (by omega) _ (by omega) (by omega) (fun j hj => ho j (by omega)) k2 (by omega)]
    simp only [Option.bind_some]
    rw [if_neg (by omega), lo, heldB_eq w1 (by omega) _ (by omega) (by omega) (fun j hj => hw j (by omega)) k2 (by omega)]
    simp only [Option.bind_some]
    rw [if_neg (by omega), lw]

theorem l06Bools_from (n : Int) : ∀ (d k i : Nat), n - i ≤ d → d < k → (i : Int) ≤ n → n ≤ 1000 → spec_l06Bools.l0 k n (List.replicate i false) (i : Int) = some (List.replicate n.toNat false) := by
  intro d
  induction d with
  | zero =>
    intro k i hd hk hi hn
    obtain ⟨k, rfl⟩ : ∃ m, k = m + 1 := ⟨k - 1, by omega⟩
    simp only [spec_l06Bools.l0]
    rw [if_neg (by omega)]
    have e : n.toNat = i := by omega
    rw [e]
  | succ d ih =>
    intro k i hd hk hi hn
    obtain ⟨k, rfl⟩ : ∃ m, k = m + 1 := ⟨k - 1, by omega⟩
    simp only [spec_l06Bools.l0]
    by_cases h : (i : Int) < n
    · have hw : wrap64 ((i : Int) + 1) = ((i + 1 : Nat) : Int) := by unfold wrap64; omega
      have e : List.replicate i false ++ [false] = List.replicate (i + 1) false := by rw [List.replicate_succ']
      rw [if_pos h, if_pos (by simp; omega), hw, e]
      exact ih k (i + 1) (by omega) (by omega) (by omega) hn
    · rw [if_neg h]
      have e : n.toNat = i := by omega
      rw [e]
theorem l06Bools_eq (k : Nat) (hk : 10 < k) : spec_l06Bools.f k 8 = some (List.replicate 8 false) := by
  unfold spec_l06Bools.f
  exact l06Bools_from 8 8 k 0 (by omega) (by omega) (by omega) (by omega)
theorem l06New_from (l : List Int) (hl : l.length ≤ 1048576) (g : List Int) (p q r s : List Bool) (w : Int) : ∀ (d k i : Nat), l.length - i ≤ d → d < k → i ≤ l.length → spec_l06New.l0 k l (i : Int) g ((l.take i).map mkF77) p q r s w = some (g, l.map mkF77, p, q, r, s, w) := by
  intro d
  induction d with
  | zero =>
    intro k i hd hk hi
    obtain ⟨k, rfl⟩ : ∃ m, k = m + 1 := ⟨k - 1, by omega⟩
    simp only [spec_l06New.l0]
    rw [if_neg (by omega), List.take_of_length_le (by omega)]
  | succ d ih =>
    intro k i hd hk hi
    obtain ⟨k, rfl⟩ : ∃ m, k = m + 1 := ⟨k - 1, by omega⟩
    simp only [spec_l06New.l0]
    by_cases h : i < l.length
    · have hw : wrap64 ((i : Int) + 1) = ((i + 1 : Nat) : Int) := by unfold wrap64; omega
      have e : (l.take i).map mkF77 ++ [(⟨rd l (i : Int), false, 0, 0⟩ : S77)] = (l.take (i + 1)).map mkF77 := by
        rw [List.take_succ_eq_append_getElem h, List.map_append]
        have e : rd l (i : Int) = l[i] := by simp [rd, List.getD_eq_getElem?_getD, h]
        rw [e]
        rfl
      rw [if_pos (by omega), if_pos (by omega), if_pos (by simp; omega), hw, e]
      exact ih k (i + 1) (by omega) (by omega) (by omega)
    · rw [if_neg (by omega), List.take_of_length_le (by omega)]
theorem l06New_eq (l : List Int) (hl : l.length ≤ 1048576) (k : Nat) (hk : l.length + 10 < k) : spec_l06New.f k l = some (List.replicate 16 0, l.map mkF77, List.replicate 8 false, List.replicate 8 false, List.replicate 8 false, List.replicate 8 false, 0) := by
  unfold spec_l06New.f
  rw [if_pos (by omega), l06Bools_eq k (by omega)]
  simp only [Option.bind_some]
  exact l06New_from l hl _ _ _ _ _ _ l.length k 0 (by omega) (by omega) (by omega)
theorem nd_same (l : List Int) (hl : l.length ≤ 1048576) (k : Nat) (hk : l.length + 20 < k) : ∃ r : List Int × (List (S77)) × List Bool × List Bool × List Bool × List Bool × Int × Int,
    (r.1.length ≤ 16 ∧ r.2.1.length ≤ l.length ∧ r.2.2.1.length ≤ 8 ∧ r.2.2.2.1.length ≤ 8 ∧ r.2.2.2.2.1.length ≤ 8 ∧ r.2.2.2.2.2.1.length ≤ 8) ∧ spec_NewData.f k l = some r ∧ impl_NewData.f k l = some r := by
  unfold spec_NewData.f impl_NewData.f impl_many_int.f
  rw [when_eq, areKinds_eq l hl k (by omega)]
  simp only [Option.bind_some]
  rw [when_eq]
  simp only [Option.bind_some]
  rw [first_eq _ (by simp) k (by simp; omega)]
  simp only [Option.bind_some]
  by_cases c : 4096 < l.length
  · rw [if_pos (by omega)]
    have e : decide ((l.length : Int) > 4096) = true := decide_eq_true (by omega)
    rw [e]
    exact ⟨_, by simp, rfl, by simp [fnz]⟩
  · rw [if_neg (by omega), l04Kinds_eq l hl k (by omega)]
    have e : decide ((l.length : Int) > 4096) = false := decide_eq_false (by omega)
    rw [e]
    simp only [Option.bind_some]
    cases hb : (decide (l.length ≤ 8) && l.all kindB)
    · exact ⟨_, by simp, rfl, by simp [fnz]⟩
    · rw [if_pos rfl, l06New_eq l hl k (by omega)]
      refine ⟨_, ?_, rfl, ?_⟩
      · simp
      · simp [fnz, impl_newData.f, hl]
theorem FnExactNewData : laws_FnExactNewData.Pure := by
  intro l h0 _ _
  refine ⟨l.length + 200 + 1 + 1 + 1, ?_⟩
  obtain ⟨K, hK⟩ : ∃ K, K = l.length + 200 := ⟨_, rfl⟩
  rw [← hK]
  unfold laws_FnExactNewData.f
  by_cases c : (l.length : Int) > 1048576
  · rw [if_pos c]
  have hl : l.length ≤ 1048576 := by omega
  rw [if_neg c, toIntS_eq l hl _ (by omega)]
  simp only [Option.bind_some]
  obtain ⟨r, hr, r1, r2⟩ := nd_same l hl (K + 1 + 1 + 1) (by omega)
  rw [r1, r2]
  simp only [Option.bind_some]
  have eqd := fun k (hk : l.length + 100 < k) => eqData_same r.1 r.2.1 r.2.2.1 r.2.2.2.1 r.2.2.2.2.1 r.2.2.2.2.2.1 r.2.2.2.2.2.2.1 k (by omega) (by omega)
  rw [eqd _ (by omega)]
  simp only [Option.bind_some, if_true, bne_self_eq_false]
  simp only [laws_FnExactNewData.j0, Bool.false_eq_true, if_false]
  rw [toIntS_eq l hl _ (by omega)]
  simp only [Option.bind_some]
  rw [eqIntS_same l hl _ (by omega)]
  simp only [Option.bind_some, if_true]
  obtain ⟨l', e1, e2, _⟩ := markIntS_eq l hl 1 (by omega) (by omega) (K + 1 + 1) (by omega)
  rw [e1]
  simp only [Option.bind_some]
  rw [if_neg (by omega), eqd _ (by omega)]
  simp only [Option.bind_some, if_true, bne_self_eq_false]
  simp only [laws_FnExactNewData.j1, Bool.false_eq_true, if_false]
  obtain ⟨m, g', bl', q1, q2, q3, q4, em, m0, hh⟩ := markHeld r.1 r.2.1 r.2.2.1 r.2.2.2.1 r.2.2.2.2.1 r.2.2.2.2.2.1 r.2.2.2.2.2.2.1 (K + 1) (by omega) (by omega)
  rw [em]
  simp only [Option.bind_some]
  rw [hh (K + 1) (by omega)]
  simp only [Option.bind_some]
  rw [if_neg (by omega), if_pos trivial, toIntS_eq l hl _ (by omega)]
  simp only [Option.bind_some]
  obtain ⟨s, _, s1, s2⟩ := nd_same l hl (K + 1) (by omega)
  have hrs : s = r := by
    have m1 := impl_NewData.mono l (K + 1) s s2
    have m2 := impl_NewData.mono l (K + 1 + 1) s m1
    rw [r2] at m2
    exact (Option.some.inj m2).symm
  rw [s2, hrs]
  simp only [Option.bind_some]
  rw [eqd _ (by omega)]
  simp only [Option.bind_some, if_true, bne_self_eq_false]
  simp only [laws_FnExactNewData.j2, Bool.false_eq_true, if_false]
  rw [hh K (by omega)]
  simp only [Option.bind_some]
  rw [if_neg (by omega), if_pos trivial]


end Go.Proofs.Ytjgdfbcjlebniaa.Pure

/- Proved: the pure statement behind the law FnExactSameCore of the given program: for every input that the row lets in, the program's answer and the reference's agree and the law returns true. Conditions: none beyond the row's own. -/
import Derived.Test.YtagfalmpanlabaaMFnExactSameCorex5
set_option linter.unusedVariables false
set_option linter.unusedSimpArgs false
namespace Go.Proofs.Ytagfalmpanlabaa.Pure
open Go.RowKit Go.Proofs.Ytagfalmpanlabaa.MFnExactSameCore Go.Proofs.YtagfalmpanlabaaW.PrintWords Go.Proofs.YtagfalmpanlabaaW.PrintLast

theorem toIntS_from (l : List Int) (hl : l.length ≤ 1048576) : ∀ (d k i : Nat) (acc : List Int), l.length - i ≤ d → d < k → i ≤ l.length → acc.length = l.length → (∀ j, j < i → acc[j]? = l[j]?) → laws_toIntS.l0 k l acc (i : Int) = some l := by
  intro d
  induction d with
  | zero =>
    intro k i acc hd hk hi hlen hA
    obtain ⟨k, rfl⟩ : ∃ m, k = m + 1 := ⟨k - 1, by omega⟩
    simp only [laws_toIntS.l0]
    rw [if_neg (by omega)]
    congr 1
    apply List.ext_getElem?
    intro j
    by_cases h : j < i
    · exact hA j h
    · rw [List.getElem?_eq_none (by omega), List.getElem?_eq_none (by omega)]
  | succ d ih =>
    intro k i acc hd hk hi hlen hA
    obtain ⟨k, rfl⟩ : ∃ m, k = m + 1 := ⟨k - 1, by omega⟩
    simp only [laws_toIntS.l0]
    by_cases h : i < l.length
    · rw [if_pos (by omega), if_pos (by omega), if_pos (by omega)]
      have hw : wrap64 ((i : Int) + 1) = ((i + 1 : Nat) : Int) := by unfold wrap64; omega
      rw [hw]
      refine ih k (i + 1) _ (by omega) (by omega) (by omega) (by simp [hlen]) (fun j hj => ?_)
      have e : rd l (i : Int) = l[i] := by simp [rd, List.getD_eq_getElem?_getD, h]
      rw [e, Int.toNat_natCast, List.getElem?_set]
      by_cases hji : i = j
      · subst hji
        rw [if_pos rfl, if_pos (by omega), List.getElem?_eq_getElem h]
      · rw [if_neg hji]
        exact hA j (by omega)
    · rw [if_neg (by omega)]
      congr 1
      apply List.ext_getElem?
      intro j
      by_cases h2 : j < i
      · exact hA j h2
      · rw [List.getElem?_eq_none (by omega), List.getElem?_eq_none (by omega)]
theorem toIntS_eq (l : List Int) (hl : l.length ≤ 1048576) (k : Nat) (hk : l.length < k) : laws_toIntS.f k l = some l := by
  unfold laws_toIntS.f
  rw [if_pos (by omega), if_pos (by omega)]
  exact toIntS_from l hl l.length k 0 _ (by omega) hk (by omega) (by simp) (fun j hj => by omega)
theorem eqIntS_from (l : List Int) (hl : l.length ≤ 1048576) : ∀ (d k i : Nat), l.length - i ≤ d → d < k → i ≤ l.length → laws_eqIntS.l0 k l l (i : Int) = some true := by
  intro d
  induction d with
  | zero =>
    intro k i hd hk hi
    obtain ⟨k, rfl⟩ : ∃ m, k = m + 1 := ⟨k - 1, by omega⟩
    simp only [laws_eqIntS.l0]
    rw [if_neg (by omega)]
  | succ d ih =>
    intro k i hd hk hi
    obtain ⟨k, rfl⟩ : ∃ m, k = m + 1 := ⟨k - 1, by omega⟩
    simp only [laws_eqIntS.l0]
    by_cases h : i < l.length
    · have hw : wrap64 ((i : Int) + 1) = ((i + 1 : Nat) : Int) := by unfold wrap64; omega
      rw [if_pos (by omega), if_pos (by omega), hw, ih k (i + 1) (by omega) (by omega) (by omega)]
      simp only [show ((i : Int) < (l.length : Int)) from by omega, if_true]
    · rw [if_neg (by omega)]
theorem eqIntS_same (l : List Int) (hl : l.length ≤ 1048576) (k : Nat) (hk : l.length < k) : laws_eqIntS.f k l l = some true := by
  unfold laws_eqIntS.f
  rw [if_pos rfl]
  exact eqIntS_from l hl l.length k 0 (by omega) hk (by omega)

/-- The program's frame for the law's. -/
def cvFr (x : S118) : S96 := ⟨x.f0, x.f1, x.f2⟩
theorem toFrame_eq (a b : Int) (l : List Int) (hl : l.length ≤ 1048576) (k : Nat) (hk : l.length < k) : laws_toFrame.f k a b l = some (a, b, l) := by
  unfold laws_toFrame.f
  rw [toIntS_eq l hl k hk]; rfl
theorem toFrameS_from (l : List S118) (hl : l.length ≤ 1048576) (hm : ∀ x ∈ l, x.f2.length ≤ 1048576) : ∀ (d k i : Nat) (ys : List S96), l.length - i ≤ d → d + 1048577 < k → i ≤ l.length → ys.length = l.length → ys.take i = (l.take i).map cvFr → laws_toFrameS.l0 k l ys (i : Int) = some (l.map cvFr) := by
  intro d
  induction d with
  | zero =>
    intro k i ys hd hk hi hy ht
    obtain ⟨k, rfl⟩ : ∃ m, k = m + 1 := ⟨k - 1, by omega⟩
    simp only [laws_toFrameS.l0]
    rw [if_neg (by omega)]
    have e : i = l.length := by omega
    subst e
    rw [List.take_of_length_le (by omega), List.take_of_length_le (by omega)] at ht
    rw [ht]
  | succ d ih =>
    intro k i ys hd hk hi hy ht
    obtain ⟨k, rfl⟩ : ∃ m, k = m + 1 := ⟨k - 1, by omega⟩
    by_cases h : i < l.length
    · have hw : wrap64 ((i : Int) + 1) = ((i + 1 : Nat) : Int) := by unfold wrap64; omega
      have e : rd_T118 l (i : Int) = l[i] := by simp [rd_T118, List.getD_eq_getElem?_getD, h]
      have hmi := hm l[i] (List.getElem_mem h)
      conv => lhs; unfold laws_toFrameS.l0
      rw [if_pos (by omega), if_pos (by omega), e, toFrame_eq _ _ _ hmi _ (by omega)]
      simp only [Option.bind_some]
      rw [if_pos (by omega), hw]
      apply ih k (i + 1) _ (by omega) (by omega) (by omega) (by simpa using hy)
      have hi2 : i < ys.length := by omega
      have ei : ((i : Int)).toNat = i := by omega
      rw [ei]
      apply List.ext_getElem
      · simp; omega
      · intro j h1 h2
        simp only [List.length_take, List.length_set] at h1
        rw [List.getElem_take, List.getElem_set]
        by_cases hj : i = j
        · subst hj
          simp [cvFr]
        · have hji : j < i := by omega
          rw [if_neg hj]
          have hh : (ys.take i)[j]? = ((l.take i).map cvFr)[j]? := by rw [ht]
          simp [hji] at hh
          rw [List.getElem?_eq_getElem (by omega), List.getElem?_eq_getElem (by omega)] at hh
          simp at hh
          simp [hh]
    · conv => lhs; unfold laws_toFrameS.l0
      rw [if_neg (by omega)]
      have e : i = l.length := by omega
      subst e
      rw [List.take_of_length_le (by omega), List.take_of_length_le (by omega)] at ht
      rw [ht]
theorem toFrameS_eq (l : List S118) (hl : l.length ≤ 1048576) (hm : ∀ x ∈ l, x.f2.length ≤ 1048576) (k : Nat) (hk : l.length + 1048577 < k) : laws_toFrameS.f k l = some (l.map cvFr) := by
  unfold laws_toFrameS.f
  rw [if_pos (by omega), if_pos (by omega)]
  have h := toFrameS_from l hl hm l.length k 0 (List.replicate l.length z96) (by omega) hk (by omega) (by simp) (by simp)
  simpa using h
theorem eqFrame_same (a b : Int) (l : List Int) (hl : l.length ≤ 1048576) (k : Nat) (hk : l.length < k) : laws_eqFrame.f k a b l a b l = some true := by
  unfold laws_eqFrame.f
  rw [if_pos rfl, if_pos rfl, eqIntS_same l hl k hk]; rfl
theorem eqFrameS_from (l : List S96) (hl : l.length ≤ 1048576) (hm : ∀ x ∈ l, x.f2.length ≤ 1048576) : ∀ (d k i : Nat), l.length - i ≤ d → d + 1048577 < k → i ≤ l.length → laws_eqFrameS.l0 k l l (i : Int) = some true := by
  intro d
  induction d with
  | zero =>
    intro k i hd hk hi
    obtain ⟨k, rfl⟩ : ∃ m, k = m + 1 := ⟨k - 1, by omega⟩
    simp only [laws_eqFrameS.l0]
    rw [if_neg (by omega)]
  | succ d ih =>
    intro k i hd hk hi
    obtain ⟨k, rfl⟩ : ∃ m, k = m + 1 := ⟨k - 1, by omega⟩
    simp only [laws_eqFrameS.l0]
    by_cases h : i < l.length
    · have hw : wrap64 ((i : Int) + 1) = ((i + 1 : Nat) : Int) := by unfold wrap64; omega
      have e : rd_T96 l (i : Int) = l[i] := by simp [rd_T96, List.getD_eq_getElem?_getD, h]
      rw [hw, ih k (i + 1) (by omega) (by omega) (by omega), e, eqFrame_same _ _ _ (hm _ (List.getElem_mem h)) _ (by have := hm _ (List.getElem_mem h); omega)]
      rw [if_pos (by omega), if_pos (by omega), if_pos (by omega)]
      rfl
    · rw [if_neg (by omega)]
theorem eqFrameS_eq (l : List S96) (hl : l.length ≤ 1048576) (hm : ∀ x ∈ l, x.f2.length ≤ 1048576) (k : Nat) (hk : l.length + 1048577 < k) : laws_eqFrameS.f k l l = some true := by
  unfold laws_eqFrameS.f
  rw [if_pos rfl]
  have h := eqFrameS_from l hl hm l.length k 0 (by omega) hk (by omega)
  simpa using h
theorem szFrame_eq (p q : Int) (l : List Int) (hl : l.length ≤ maxLen) (a : Int) (h0 : 0 ≤ a) (h1 : a ≤ 1048576) : laws_szFrame.f p q l a = some (if (l.length : Int) ≤ a then a - (l.length : Int) else -1) := by
  have hm : (l.length : Int) ≤ 9223372036854775807 := by have : maxLen ≤ 9223372036854775807 := by decide
                                                         omega
  have hw : wrap64 (a - (l.length : Int)) = a - l.length := by unfold wrap64; omega
  unfold laws_szFrame.f laws_szIntS.f
  rw [hw]
  by_cases h : (l.length : Int) ≤ a
  · rw [if_pos h, if_neg (by omega)]
    simp only [Option.bind_some]
    rw [if_neg (by omega)]
  · rw [if_neg h, if_pos (by omega)]; rfl
theorem szFrameS_from (l : List S118) (hl : l.length ≤ 1048576) (hm : ∀ x ∈ l, x.f2.length ≤ maxLen) : ∀ (d k i : Nat) (a : Int), l.length - i ≤ d → d < k → i ≤ l.length → 0 ≤ a → a ≤ 1048576 → ∃ t, laws_szFrameS.l0 k l a (i : Int) = some t ∧ t ≤ 1048576 ∧ (¬ t < 0 → ∀ j (hj : j < l.length), i ≤ j → l[j].f2.length ≤ 1048576) := by
  intro d
  induction d with
  | zero =>
    intro k i a hd hk hi h0 h1
    obtain ⟨k, rfl⟩ : ∃ m, k = m + 1 := ⟨k - 1, by omega⟩
    refine ⟨a, ?_, h1, fun _ j hj hij => by omega⟩
    simp only [laws_szFrameS.l0]
    rw [if_neg (by omega)]
  | succ d ih =>
    intro k i a hd hk hi h0 h1
    obtain ⟨k, rfl⟩ : ∃ m, k = m + 1 := ⟨k - 1, by omega⟩
    by_cases h : i < l.length
    · have hw : wrap64 ((i : Int) + 1) = ((i + 1 : Nat) : Int) := by unfold wrap64; omega
      have e : rd_T118 l (i : Int) = l[i] := by simp [rd_T118, List.getD_eq_getElem?_getD, h]
      simp only [laws_szFrameS.l0]
      rw [if_pos (by omega), if_pos (by omega), e, szFrame_eq _ _ _ (hm _ (List.getElem_mem h)) a h0 h1]
      simp only [Option.bind_some]
      by_cases c : (l[i].f2.length : Int) ≤ a
      · obtain ⟨t, ht, htl, hq⟩ := ih k (i + 1) (a - l[i].f2.length) (by omega) (by omega) (by omega) (by omega) (by omega)
        rw [if_pos c, if_neg (by omega), hw]
        refine ⟨t, ht, htl, fun hn j hj hij => ?_⟩
        by_cases hji : j = i
        · subst hji; omega
        · exact hq hn j hj (by omega)
      · rw [if_neg c, if_pos (by omega)]
        exact ⟨-1, rfl, by omega, fun hn => absurd (by omega) hn⟩
    · refine ⟨a, ?_, h1, fun _ j hj hij => by omega⟩
      simp only [laws_szFrameS.l0]
      rw [if_neg (by omega)]
theorem szFrameS_cases (l : List S118) (hl : l.length ≤ maxLen) (hm : ∀ x ∈ l, x.f2.length ≤ maxLen) (b : Int) (hb : 0 ≤ b ∧ b ≤ 1048576) (k : Nat) (hk : 1048577 < k) : ∃ t, laws_szFrameS.f k l b = some t ∧ t ≤ 1048576 ∧ (¬ t < 0 → l.length ≤ 1048576 ∧ ∀ x ∈ l, x.f2.length ≤ 1048576) := by
  have hmx : (l.length : Int) ≤ 9223372036854775807 := by have : maxLen ≤ 9223372036854775807 := by decide
                                                          omega
  have hw : wrap64 (b - (l.length : Int)) = b - l.length := by unfold wrap64; omega
  unfold laws_szFrameS.f
  rw [hw]
  by_cases h : (l.length : Int) ≤ b
  · obtain ⟨t, ht, htl, hq⟩ := szFrameS_from l (by omega) hm l.length k 0 (b - l.length) (by omega) (by omega) (by omega) (by omega) (by omega)
    rw [if_neg (by omega)]
    refine ⟨t, ht, htl, fun hn => ⟨by omega, fun x hx => ?_⟩⟩
    obtain ⟨j, hj, rfl⟩ := List.getElem_of_mem hx
    exact hq hn j hj (by omega)
  · rw [if_pos (by omega)]
    exact ⟨-1, rfl, by omega, fun hn => absurd (by omega) hn⟩

theorem eqInts_from (x y : List Int) (he : x.length = y.length) (hl : x.length ≤ 1048576) : ∀ (d k i : Nat), x.length - i ≤ d → d < k → i ≤ x.length → slices_Equal_int_int.l0 k x y (x.length : Int) (i : Int) = some (decide (x.drop i = y.drop i)) := by
  intro d
  induction d with
  | zero =>
    intro k i hd hk hi
    obtain ⟨k, rfl⟩ : ∃ m, k = m + 1 := ⟨k - 1, by omega⟩
    simp only [slices_Equal_int_int.l0]
    rw [if_neg (by omega), List.drop_of_length_le (by omega), List.drop_of_length_le (by omega)]
    rfl
  | succ d ih =>
    intro k i hd hk hi
    obtain ⟨k, rfl⟩ : ∃ m, k = m + 1 := ⟨k - 1, by omega⟩
    by_cases h : i < x.length
    · have h2 : i < y.length := by omega
      have ih1 := ih k (i + 1) (by omega) (by omega) (by omega)
      have b1 : (i : Int) < (x.length : Int) := by omega
      have b2 : (0 : Int) ≤ (i : Int) := by omega
      have b3 : (i : Int) < (y.length : Int) := by omega
      have e : rd x (i : Int) = x[i] := by simp [rd, List.getD_eq_getElem?_getD, h]
      have e2 : rd y (i : Int) = y[i] := by simp [rd, List.getD_eq_getElem?_getD, h2]
      have hw : wrap64 ((i : Int) + 1) = ((i + 1 : Nat) : Int) := by unfold wrap64; omega
      have hd : (x.drop i = y.drop i) ↔ (x[i] = y[i] ∧ x.drop (i + 1) = y.drop (i + 1)) := by
        rw [List.drop_eq_getElem_cons h, List.drop_eq_getElem_cons h2]
        exact List.cons_eq_cons
      simp only [slices_Equal_int_int.l0]
      rw [if_pos b1, if_pos b2, if_pos b1, if_pos b3, e, e2, hw, ih1]
      by_cases c : x[i] = y[i]
      · rw [if_pos c]; exact congrArg some (decide_eq_decide.2 ⟨fun h => hd.2 ⟨c, h⟩, fun h => (hd.1 h).2⟩)
      · rw [if_neg c]; exact congrArg some (decide_eq_false (fun hh => c (hd.1 hh).1)).symm
    · simp only [slices_Equal_int_int.l0]
      rw [if_neg (by omega), List.drop_of_length_le (by omega), List.drop_of_length_le (by omega)]
      rfl
theorem eqInts_eq (x y : List Int) (hl : x.length ≤ 1048576) (k : Nat) (hk : x.length < k) : slices_Equal_int_int.f k x y = some (decide (x = y)) := by
  unfold slices_Equal_int_int.f
  by_cases he : x.length = y.length
  · have h := eqInts_from x y he hl x.length k 0 (by omega) hk (by omega)
    rw [if_pos (by omega)]
    simpa using h
  · rw [if_neg (by omega), decide_eq_false (fun e => he (by rw [e]))]
theorem l00Same_from (x y : List Int) (he : x.length = y.length) (hl : x.length ≤ 1048576) : ∀ (d k i : Nat), x.length - i ≤ d → d < k → i ≤ x.length → spec_l00Same.l0 k x y (i : Int) = some (decide (x.drop i = y.drop i)) := by
  intro d
  induction d with
  | zero =>
    intro k i hd hk hi
    obtain ⟨k, rfl⟩ : ∃ m, k = m + 1 := ⟨k - 1, by omega⟩
    simp only [spec_l00Same.l0]
    rw [if_neg (by omega), List.drop_of_length_le (by omega), List.drop_of_length_le (by omega)]
    rfl
  | succ d ih =>
    intro k i hd hk hi
    obtain ⟨k, rfl⟩ : ∃ m, k = m + 1 := ⟨k - 1, by omega⟩
    by_cases h : i < x.length
    · have h2 : i < y.length := by omega
      have ih1 := ih k (i + 1) (by omega) (by omega) (by omega)
      have b1 : (i : Int) < (x.length : Int) := by omega
      have b2 : (0 : Int) ≤ (i : Int) := by omega
      have b3 : (i : Int) < (y.length : Int) := by omega
      have e : rd x (i : Int) = x[i] := by simp [rd, List.getD_eq_getElem?_getD, h]
      have e2 : rd y (i : Int) = y[i] := by simp [rd, List.getD_eq_getElem?_getD, h2]
      have hw : wrap64 ((i : Int) + 1) = ((i + 1 : Nat) : Int) := by unfold wrap64; omega
      have hd : (x.drop i = y.drop i) ↔ (x[i] = y[i] ∧ x.drop (i + 1) = y.drop (i + 1)) := by
        rw [List.drop_eq_getElem_cons h, List.drop_eq_getElem_cons h2]
        exact List.cons_eq_cons
      simp only [spec_l00Same.l0, if_pos b1, if_pos b2, if_pos b3, e, e2, hw, ih1]
      by_cases c : x[i] = y[i]
      · rw [if_pos c]; exact congrArg some (decide_eq_decide.2 ⟨fun h => hd.2 ⟨c, h⟩, fun h => (hd.1 h).2⟩)
      · rw [if_neg c]; exact congrArg some (decide_eq_false (fun hh => c (hd.1 hh).1)).symm
    · simp only [spec_l00Same.l0]
      rw [if_neg (by omega), List.drop_of_length_le (by omega), List.drop_of_length_le (by omega)]
      rfl
theorem l00Same_eq (x y : List Int) (hl : x.length ≤ 1048576) (k : Nat) (hk : x.length < k) : spec_l00Same.f k x y = some (decide (x = y)) := by
  unfold spec_l00Same.f
  by_cases he : x.length = y.length
  · have h := l00Same_from x y he hl x.length k 0 (by omega) hk (by omega)
    rw [if_pos (by omega)]
    simpa using h
  · rw [if_neg (by omega), decide_eq_false (fun e => he (by rw [e]))]

theorem impl_all_Frame_isSmall_1_from (p : S96 → Bool) (K : Nat) (hF : ∀ (k : Nat) (x : S96), K ≤ k → impl_isSmall_1.f x.f0 x.f1 x.f2 = some (p x)) (l : List S96) (hl : l.length ≤ 1048576) : ∀ (d k i : Nat), l.length - i ≤ d → d + K < k → i ≤ l.length →
    ∃ j, impl_all_Frame_isSmall_1.l0 k l (i : Int) = some j ∧ (!(decide (0 ≤ j))) = (l.drop i).all p := by
  intro d
  induction d with
  | zero =>
    intro k i hd hk hi
    obtain ⟨k, rfl⟩ : ∃ m, k = m + 1 := ⟨k - 1, by omega⟩
    refine ⟨-1, ?_, ?_⟩
    · simp only [impl_all_Frame_isSmall_1.l0]
      rw [if_neg (by omega)]
    · rw [List.drop_of_length_le (by omega)]
      rfl
  | succ d ih =>
    intro k i hd hk hi
    obtain ⟨k, rfl⟩ : ∃ m, k = m + 1 := ⟨k - 1, by omega⟩
    by_cases h : i < l.length
    · have e : rd_T96 l (i : Int) = l[i] := by simp [rd_T96, List.getD_eq_getElem?_getD, h]
      have hw : wrap64 ((i : Int) + 1) = ((i + 1 : Nat) : Int) := by unfold wrap64; omega
      obtain ⟨j, hj, hp⟩ := ih k (i + 1) (by omega) (by omega) (by omega)
      have hx := hF k l[i] (by omega)
      rw [List.drop_eq_getElem_cons h, List.all_cons]
      simp only [impl_all_Frame_isSmall_1.l0]
      rw [if_pos (by omega), if_pos (by omega), e, hw, hx]
      simp only [Option.bind_some]
      cases p l[i] with
      | true => exact ⟨j, by rw [if_pos rfl]; exact hj, by simpa using hp⟩
      | false => exact ⟨(i : Int), by rw [if_neg (by decide)], by simp⟩
    · refine ⟨-1, ?_, ?_⟩
      · simp only [impl_all_Frame_isSmall_1.l0]
        rw [if_neg (by omega)]
      · rw [List.drop_of_length_le (by omega)]
        rfl
theorem impl_all_Frame_isSmall_1_eq (p : S96 → Bool) (K : Nat) (hF : ∀ (k : Nat) (x : S96), K ≤ k → impl_isSmall_1.f x.f0 x.f1 x.f2 = some (p x)) (l : List S96) (hl : l.length ≤ 1048576) (k : Nat) (hk : l.length + K < k) : impl_all_Frame_isSmall_1.f k l = some (l.all p) := by
  obtain ⟨j, hj, hp⟩ := impl_all_Frame_isSmall_1_from p K hF l hl l.length k 0 (by omega) (by omega) (by omega)
  unfold impl_all_Frame_isSmall_1.f
  have hj' : impl_all_Frame_isSmall_1.l0 k l 0 = some j := hj
  rw [hj']
  simp only [Option.bind_some]
  rw [hp]
  rfl

def smF (x : S96) : Bool := decide ((x.f2.length : Int) ≤ 4)
def frE (x y : S96) : Bool := (x.f0 == y.f0) && ((x.f1 == y.f1) && decide (x.f2 = y.f2))
def frsE : List S96 → List S96 → Bool
  | [], [] => true
  | x :: xs, y :: ys => frE x y && frsE xs ys
  | _, _ => false
theorem frsE_len : ∀ (x y : List S96), x.length ≠ y.length → frsE x y = false := by
  intro x
  induction x with
  | nil => intro y h; cases y <;> first | exact absurd rfl h | rfl
  | cons a x ih =>
    intro y h
    cases y with
    | nil => rfl
    | cons b y =>
      simp only [frsE, ih y (by simpa using h), Bool.and_false]
theorem frsE_sm : ∀ (x y : List S96), frsE x y = true → y.all smF = x.all smF := by
  intro x
  induction x with
  | nil => intro y h; cases y <;> first | rfl | (simp [frsE] at h)
  | cons a x ih =>
    intro y h
    cases y with
    | nil => simp [frsE] at h
    | cons b y =>
      simp only [frsE, frE, Bool.and_eq_true, decide_eq_true_eq] at h
      simp only [List.all_cons, ih y h.2, smF, h.1.2.2]
theorem implOne_eq (x y : S96) (hx : x.f2.length ≤ 1048576) (k : Nat) (hk : 1048577 < k) : impl_SameCore_1.f k x.f0 x.f1 x.f2 y.f0 y.f1 y.f2 = some (frE x y) := by
  unfold impl_SameCore_1.f frE
  by_cases c0 : x.f0 = y.f0
  · have e0 : (x.f0 == y.f0) = true := by simpa using c0
    rw [if_pos c0, e0]
    by_cases c1 : x.f1 = y.f1
    · have e1 : (x.f1 == y.f1) = true := by simpa using c1
      rw [if_pos c1, e1, eqInts_eq _ _ hx k (by omega)]
      rfl
    · have e1 : (x.f1 == y.f1) = false := by simpa using c1
      rw [if_neg c1, e1]; rfl
  · have e0 : (x.f0 == y.f0) = false := by simpa using c0
    rw [if_neg c0, e0]; rfl
theorem eqFr_from (x y : List S96) (he : x.length = y.length) (hl : x.length ≤ 1048576) (hm : ∀ a ∈ x, a.f2.length ≤ 1048576) : ∀ (d k i : Nat), x.length - i ≤ d → d + 1048579 < k → i ≤ x.length → slices_EqualFunc_impl_SameCore_1.l0 k x y (i : Int) = some (frsE (x.drop i) (y.drop i)) := by
  intro d
  induction d with
  | zero =>
    intro k i hd hk hi
    obtain ⟨k, rfl⟩ : ∃ m, k = m + 1 := ⟨k - 1, by omega⟩
    simp only [slices_EqualFunc_impl_SameCore_1.l0]
    rw [if_neg (by omega), List.drop_of_length_le (by omega), List.drop_of_length_le (by omega)]
    rfl
  | succ d ih =>
    intro k i hd hk hi
    obtain ⟨k, rfl⟩ : ∃ m, k = m + 1 := ⟨k - 1, by omega⟩
    by_cases h : i < x.length
    · have h2 : i < y.length := by omega
      have ih1 := ih k (i + 1) (by omega) (by omega) (by omega)
      have b1 : (i : Int) < (x.length : Int) := by omega
      have b2 : (0 : Int) ≤ (i : Int) := by omega
      have b3 : (i : Int) < (y.length : Int) := by omega
      have e : rd_T96 x (i : Int) = x[i] := by simp [rd_T96, List.getD_eq_getElem?_getD, h]
      have e2 : rd_T96 y (i : Int) = y[i] := by simp [rd_T96, List.getD_eq_getElem?_getD, h2]
      have hw : wrap64 ((i : Int) + 1) = ((i + 1 : Nat) : Int) := by unfold wrap64; omega
      have hf : frsE (x.drop i) (y.drop i) = (frE x[i] y[i] && frsE (x.drop (i + 1)) (y.drop (i + 1))) := by
        rw [List.drop_eq_getElem_cons h, List.drop_eq_getElem_cons h2]; rfl
      simp only [slices_EqualFunc_impl_SameCore_1.l0]
      rw [if_pos b1, if_pos b2, if_pos b3, e, e2, hw, ih1, hf, implOne_eq x[i] y[i] (hm _ (List.getElem_mem h)) k (by omega)]
      simp only [Option.bind_some]
      cases frE x[i] y[i] <;> rfl
    · simp only [slices_EqualFunc_impl_SameCore_1.l0]
      rw [if_neg (by omega), List.drop_of_length_le (by omega), List.drop_of_length_le (by omega)]
      rfl
theorem eqFr_eq (x y : List S96) (hl : x.length ≤ 1048576) (hm : ∀ a ∈ x, a.f2.length ≤ 1048576) (k : Nat) (hk : x.length + 1048579 < k) : slices_EqualFunc_impl_SameCore_1.f k x y = some (frsE x y) := by
  unfold slices_EqualFunc_impl_SameCore_1.f
  by_cases he : x.length = y.length
  · have h := eqFr_from x y he hl hm x.length k 0 (by omega) hk (by omega)
    rw [if_pos (by omega)]
    simpa using h
  · rw [if_neg (by omega), frsE_len x y he]
theorem specFr_from (x y : List S96) (sx sy : List Int) (he : x.length = y.length) (hl : x.length ≤ 1048576) (hm : ∀ a ∈ x, a.f2.length ≤ 1048576) : ∀ (d k i : Nat), x.length - i ≤ d → d + 1048579 < k → i ≤ x.length → spec_SameCore.l0 k (i : Int) x sx y sy = some (frsE (x.drop i) (y.drop i) && (x.drop i).all smF) := by
  intro d
  induction d with
  | zero =>
    intro k i hd hk hi
    obtain ⟨k, rfl⟩ : ∃ m, k = m + 1 := ⟨k - 1, by omega⟩
    simp only [spec_SameCore.l0]
    rw [if_neg (by omega), List.drop_of_length_le (by omega), List.drop_of_length_le (by omega)]
    rfl
  | succ d ih =>
    intro k i hd hk hi
    obtain ⟨k, rfl⟩ : ∃ m, k = m + 1 := ⟨k - 1, by omega⟩
    by_cases h : i < x.length
    · have h2 : i < y.length := by omega
      have ih1 := ih k (i + 1) (by omega) (by omega) (by omega)
      have b1 : (i : Int) < (x.length : Int) := by omega
      have b2 : (0 : Int) ≤ (i : Int) := by omega
      have b3 : (i : Int) < (y.length : Int) := by omega
      have e : rd_T96 x (i : Int) = x[i] := by simp [rd_T96, List.getD_eq_getElem?_getD, h]
      have e2 : rd_T96 y (i : Int) = y[i] := by simp [rd_T96, List.getD_eq_getElem?_getD, h2]
      have hw : wrap64 ((i : Int) + 1) = ((i + 1 : Nat) : Int) := by unfold wrap64; omega
      have hf : frsE (x.drop i) (y.drop i) = (frE x[i] y[i] && frsE (x.drop (i + 1)) (y.drop (i + 1))) := by
        rw [List.drop_eq_getElem_cons h, List.drop_eq_getElem_cons h2]; rfl
      have hs : (x.drop i).all smF = (smF x[i] && (x.drop (i + 1)).all smF) := by
        rw [List.drop_eq_getElem_cons h]; rfl
      simp only [spec_SameCore.l0]
      rw [if_pos b1, if_pos b2, if_pos b3, e, e2, hw, ih1, hf, hs]
      unfold frE
      by_cases c0 : x[i].f0 = y[i].f0
      · have e0 : (x[i].f0 == y[i].f0) = true := by simpa using c0
        rw [if_pos c0, e0]
        by_cases c1 : x[i].f1 = y[i].f1
        · have e1 : (x[i].f1 == y[i].f1) = true := by simpa using c1
          rw [if_pos c1, e1]
          by_cases c2 : (x[i].f2.length : Int) > 4
          · have e3 : smF x[i] = false := decide_eq_false (by omega)
            rw [if_pos c2, e3]
            simp
          · have e3 : smF x[i] = true := decide_eq_true (by omega)
            rw [if_neg c2, e3, l00Same_eq _ _ (hm _ (List.getElem_mem h)) k (by have := hm _ (List.getElem_mem h); omega)]
            simp only [Option.bind_some, Bool.true_and]
            cases decide (x[i].f2 = y[i].f2) <;> simp
        · have e1 : (x[i].f1 == y[i].f1) = false := by simpa using c1
          rw [if_neg c1, e1]; simp
      · have e0 : (x[i].f0 == y[i].f0) = false := by simpa using c0
        rw [if_neg c0, e0]; simp
    · simp only [spec_SameCore.l0]
      rw [if_neg (by omega), List.drop_of_length_le (by omega), List.drop_of_length_le (by omega)]
      rfl
theorem small_eq (x : List S96) (s : List Int) (hl : x.length ≤ 1048576) (k : Nat) (hk : x.length < k) : impl_isSmall.f k x s = some (decide ((x.length : Int) ≤ 6) && (decide ((s.length : Int) ≤ 48) && x.all smF)) := by
  unfold impl_isSmall.f
  rw [impl_all_Frame_isSmall_1_eq smF 0 (fun _ _ _ => rfl) x hl k (by omega)]
  by_cases c : (x.length : Int) ≤ 6
  · rw [if_pos c, decide_eq_true c]
    by_cases c2 : (s.length : Int) ≤ 48
    · rw [if_pos c2, decide_eq_true c2]; simp
    · rw [if_neg c2, decide_eq_false c2]; rfl
  · rw [if_neg c, decide_eq_false c]; rfl
theorem frames_eq (x : List S96) (s : List Int) : spec_l07Frames.f x s = some (decide ((x.length : Int) ≤ 6) && decide ((s.length : Int) ≤ 48)) := by
  unfold spec_l07Frames.f
  by_cases c : (x.length : Int) ≤ 6
  · rw [if_pos c, decide_eq_true c]; rfl
  · rw [if_neg c, decide_eq_false c]; rfl
theorem core_same (x y : List S96) (s t : List Int) (hx : x.length ≤ 1048576) (hy : y.length ≤ 1048576) (hs : s.length ≤ 1048576) (hm : ∀ a ∈ x, a.f2.length ≤ 1048576) (k : Nat) (hk : x.length + y.length + 1048600 < k) (hk2 : s.length < k) : ∃ r, spec_SameCore.f (k + 1) x s y t = some r ∧ impl_SameCore.f (k + 1) x s y t = some r := by
  have no : ∀ b, b = true → spec_SameCore.j0 (k + 1) b x s y t = some false := by
    intro b hb
    subst hb
    simp only [spec_SameCore.j0, if_true]
  unfold spec_SameCore.f impl_SameCore.f
  rw [frames_eq, frames_eq, small_eq x s hx _ (by omega), small_eq y t hy _ (by omega), eqInts_eq s t hs _ (by omega), l00Same_eq s t hs _ (by omega), eqFr_eq x y hx hm _ (by omega), no true rfl]
  simp only [Option.bind_some]
  cases h1 : decide ((x.length : Int) ≤ 6)
  · exact ⟨false, by simp, by simp⟩
  cases h2 : decide ((s.length : Int) ≤ 48)
  · exact ⟨false, by simp, by simp⟩
  cases h3 : decide ((y.length : Int) ≤ 6)
  · refine ⟨false, by simp, ?_⟩
    cases x.all smF <;> simp
  cases h4 : decide ((t.length : Int) ≤ 48)
  · refine ⟨false, by simp, ?_⟩
    cases x.all smF <;> simp
  simp only [Bool.true_and, if_true]
  by_cases he : x.length = y.length
  · rw [if_pos (by omega)]
    cases h5 : decide (s = t)
    · refine ⟨false, ?_, ?_⟩
      · simp only [Option.bind_some, Bool.not_false]; exact no true rfl
      · cases x.all smF <;> cases y.all smF <;> simp
    · have l := specFr_from x y s t he hx hm x.length k 0 (by omega) (by omega) (by omega)
      have l' : spec_SameCore.l0 k 0 x s y t = some (frsE x y && x.all smF) := by simpa using l
      simp only [Option.bind_some, Bool.not_true, spec_SameCore.j0, Bool.false_eq_true, if_false, l', if_true]
      cases h6 : frsE x y
      · refine ⟨false, by simp, ?_⟩
        cases x.all smF <;> cases y.all smF <;> simp
      · rw [frsE_sm x y h6]
        cases x.all smF <;> simp
  · rw [if_neg (by omega), frsE_len x y he]
    refine ⟨false, rfl, ?_⟩
    cases decide (s = t) <;> cases x.all smF <;> cases y.all smF <;> simp
theorem szCore_cases (x : List S118) (s : List Int) (b : Int) (hb : 0 ≤ b ∧ b ≤ 1048576) (hx : x.length ≤ maxLen) (hm : ∀ a ∈ x, a.f2.length ≤ maxLen) (hs : s.length ≤ maxLen) (k : Nat) (hk : 1048577 < k) : ∃ t, laws_szCore.f k x s b = some t ∧ (¬ t < 0 → t ≤ 1048576 ∧ x.length ≤ 1048576 ∧ (∀ a ∈ x, a.f2.length ≤ 1048576) ∧ s.length ≤ 1048576) := by
  have hsm : (s.length : Int) ≤ 9223372036854775807 := by have : maxLen ≤ 9223372036854775807 := by decide
                                                          omega
  obtain ⟨t, ht, htl, hq⟩ := szFrameS_cases x hx hm b hb k hk
  unfold laws_szCore.f
  rw [ht]
  simp only [Option.bind_some]
  by_cases c : t < 0
  · rw [if_pos c]; exact ⟨-1, rfl, fun h => absurd (by decide) h⟩
  · rw [if_neg c]
    obtain ⟨q1, q2⟩ := hq c
    have hw : wrap64 (t - (s.length : Int)) = t - s.length := by unfold wrap64; omega
    unfold laws_szIntS.f
    rw [hw]
    by_cases c2 : t - (s.length : Int) < 0
    · rw [if_pos c2]; exact ⟨-1, rfl, fun h => absurd (by decide) h⟩
    · rw [if_neg c2]
      simp only [Option.bind_some]
      rw [if_neg c2]
      exact ⟨_, rfl, fun _ => ⟨by omega, q1, q2, by omega⟩⟩
theorem toCore_eq (x : List S118) (s : List Int) (hx : x.length ≤ 1048576) (hm : ∀ a ∈ x, a.f2.length ≤ 1048576) (hs : s.length ≤ 1048576) (k : Nat) (hk : 2 * 1048576 + 10 < k) : laws_toCore.f k x s = some (x.map cvFr, s) := by
  unfold laws_toCore.f
  rw [toFrameS_eq x hx hm k (by omega), toIntS_eq s hs k (by omega)]
  rfl
theorem eqCore_same (x : List S96) (s : List Int) (hx : x.length ≤ 1048576) (hm : ∀ a ∈ x, a.f2.length ≤ 1048576) (hs : s.length ≤ 1048576) (k : Nat) (hk : 2 * 1048576 + 10 < k) : laws_eqCore.f k x s x s = some true := by
  unfold laws_eqCore.f
  rw [eqFrameS_eq x hx hm k (by omega), eqIntS_same s hs k (by omega)]
  rfl
theorem FnExactSameCore : laws_FnExactSameCore.Pure := by
  intro x y hx hy
  obtain ⟨⟨h0, h0a⟩, h1, _⟩ := hx
  obtain ⟨⟨i0, i0a⟩, i1, _⟩ := hy
  obtain ⟨K, hK⟩ : ∃ K : Nat, K = 8 * 1048576 := ⟨_, rfl⟩
  obtain ⟨t, ht, hle⟩ := szCore_cases x.f0 x.f1 1048576 (by omega) h0 (fun a ha => (h0a a ha).2.2.1) h1 (K + 1) (by omega)
  refine ⟨K + 1, ?_⟩
  unfold laws_FnExactSameCore.f
  rw [ht]
  simp only [Option.bind_some]
  by_cases c : t < 0
  · rw [if_pos c]
  obtain ⟨tl, x1, x2, x3⟩ := hle c
  obtain ⟨u, hu, hue⟩ := szCore_cases y.f0 y.f1 t (by omega) i0 (fun a ha => (i0a a ha).2.2.1) i1 (K + 1) (by omega)
  rw [if_neg c, hu]
  simp only [Option.bind_some]
  by_cases c2 : u < 0
  · rw [if_pos c2]
  obtain ⟨_, y1, y2, y3⟩ := hue c2
  have mx : ∀ a ∈ x.f0.map cvFr, a.f2.length ≤ 1048576 := by
    intro a ha
    obtain ⟨b, hb, rfl⟩ := List.mem_map.1 ha
    exact x2 b hb
  have my : ∀ a ∈ y.f0.map cvFr, a.f2.length ≤ 1048576 := by
    intro a ha
    obtain ⟨b, hb, rfl⟩ := List.mem_map.1 ha
    exact y2 b hb
  have lx : (x.f0.map cvFr).length ≤ 1048576 := by rw [List.length_map]; exact x1
  have ly : (y.f0.map cvFr).length ≤ 1048576 := by rw [List.length_map]; exact y1
  rw [if_neg c2, toCore_eq _ _ x1 x2 x3 _ (by omega), toCore_eq _ _ y1 y2 y3 _ (by omega)]
  obtain ⟨r, r1, r2⟩ := core_same (x.f0.map cvFr) (y.f0.map cvFr) x.f1 y.f1 lx ly x3 mx K (by omega) (by omega)
  simp only [Option.bind_some, r1, r2, bne_self_eq_false, Bool.false_eq_true, if_false]
  rw [eqCore_same _ _ lx mx x3 _ (by omega)]
  simp only [Option.bind_some, if_true]
  rw [eqCore_same _ _ ly my y3 _ (by omega)]
  rfl


end Go.Proofs.Ytagfalmpanlabaa.Pure

/- Proved: the pure statement behind the law FnExactBytesOf of the given program: for every input that the row lets in, the program's answer and the reference's agree and the law returns true. Conditions: none beyond the row's own. -/
import Derived.Test.YtohnenadkilaiaaPFnExactBytesOfx2
set_option linter.unusedVariables false
set_option linter.unusedSimpArgs false
namespace Go.Proofs.Ytohnenadkilaiaa.Pure
open Go.RowKit Go.Proofs.Ytohnenadkilaiaa.PFnExactBytesOf Go.Proofs.YtohnenadkilaiaaW.PrintWords Go.Proofs.YtohnenadkilaiaaW.PrintLast

theorem when_eq (b : Bool) (c : Int) : impl_when.f b c = some (if b = true then c else 0) := by
  unfold impl_when.f
  split <;> rfl

/-- The first number of a list that is not 0; else 0. -/
def fnz : List Int → Int
  | [] => 0
  | a :: l => if a = 0 then fnz l else a

theorem first_from (l : List Int) (hl : l.length ≤ 1000) : ∀ (d k i : Nat), l.length - i ≤ d → d < k → i ≤ l.length → impl_first.l0 k l l.length (i : Int) = some (fnz (l.drop i)) := by
  intro d
  induction d with
  | zero =>
    intro k i hd hk hi
    obtain ⟨k, rfl⟩ : ∃ m, k = m + 1 := ⟨k - 1, by omega⟩
    simp only [impl_first.l0]
    rw [if_neg (by omega), List.drop_of_length_le (by omega)]
    rfl
  | succ d ih =>
    intro k i hd hk hi
    obtain ⟨k, rfl⟩ : ∃ m, k = m + 1 := ⟨k - 1, by omega⟩
    simp only [impl_first.l0]
    by_cases h : i < l.length
    · have hw : wrap64 ((i : Int) + 1) = ((i + 1 : Nat) : Int) := by unfold wrap64; omega
      rw [hw, ih k (i + 1) (by omega) (by omega) (by omega)]
      have e : rd l (i : Int) = l[i] := by simp [rd, List.getD_eq_getElem?_getD, h]
      rw [List.drop_eq_getElem_cons h, e]
      rw [if_pos (by omega), if_pos (by omega), if_pos (by omega)]
      simp only [fnz]
      split <;> rfl
    · rw [if_neg (by omega), List.drop_of_length_le (by omega)]
      rfl

theorem first_eq (l : List Int) (hl : l.length ≤ 1000) (k : Nat) (hk : l.length < k) : impl_first.f k l = some (fnz l) := by
  unfold impl_first.f
  have h := first_from l hl l.length k 0 (by omega) hk (by omega)
  simpa using h

theorem long_eq (s : ByteArray) : impl_long.f s = some (if (s.size : Int) > 65536 then 2 else 0) := by
  unfold impl_long.f
  rw [when_eq]
  simp


def hexv (c : Int) : Int := if 48 ≤ c ∧ c ≤ 57 then c - 48 else if 97 ≤ c ∧ c ≤ 102 then c - 87 else -1
theorem hexv_lt (c : Int) : -1 ≤ hexv c ∧ hexv c < 16 := by
  unfold hexv
  split
  · omega
  · split <;> omega
theorem spec_hexv (c : Int) (h : 0 ≤ c ∧ c ≤ 255) : spec_l01Digit.f c = some (hexv c) := by
  unfold spec_l01Digit.f spec_l00Digit.f hexv
  have e1 : wrap64 ((wrap64 c) - 48) = c - 48 := by unfold wrap64; omega
  have e2 : wrap64 ((wrap64 c) - 87) = c - 87 := by unfold wrap64; omega
  rw [e1, e2]
  by_cases c1 : c ≥ 48 <;> by_cases c2 : c ≤ 57 <;> by_cases c3 : c ≥ 97 <;> by_cases c4 : c ≤ 102 <;> first | (exfalso; omega) | (simp [c1, c2, c3, c4]; try omega)
theorem impl_hexv (c : Int) (h : 0 ≤ c ∧ c ≤ 255) (k : Nat) (hk : 1 ≤ k) : impl_hexDigit.f k c = some (if hexv c < 0 then 16 else hexv c) := by
  obtain ⟨k, rfl⟩ : ∃ m, k = m + 1 := ⟨k - 1, by omega⟩
  unfold impl_hexDigit.f hexv
  simp only [impl_hexDigit.j0]
  by_cases c1 : c ≥ 48 <;> by_cases c2 : c ≤ 57 <;> by_cases c3 : c ≥ 97 <;> by_cases c4 : c ≤ 102 <;> first | (exfalso; omega) | (simp [c1, c2, c3, c4]; try omega)

theorem or_hex_fin : ∀ a b : Fin 16, Go.bits .or .u8 ((((a.val : Nat) : Int) * 16) % 256) ((b.val : Nat) : Int) = 16 * ((a.val : Nat) : Int) + ((b.val : Nat) : Int) := by decide +kernel
theorem or_hex (a b : Int) (ha : 0 ≤ a ∧ a < 16) (hb : 0 ≤ b ∧ b < 16) : Go.bits .or .u8 ((a * 16) % 256) b = 16 * a + b := by
  obtain ⟨n, rfl⟩ := Int.eq_ofNat_of_zero_le ha.1
  obtain ⟨m, rfl⟩ := Int.eq_ofNat_of_zero_le hb.1
  exact or_hex_fin ⟨n, by omega⟩ ⟨m, by omega⟩

theorem bytes_from (s : ByteArray) (hs : s.size ≤ 65536) (he : (s.size : Int) % 2 = 0) : ∀ (d k : Nat) (acc : List Int) (i : Int), 0 ≤ i → i % 2 = 0 → (s.size : Int) - i ≤ 2 * d → (acc.length : Int) ≤ i → d + 2 ≤ k →
    (∃ r, spec_l01Bytes.l0 k s acc i = some (r, true) ∧ impl_BytesOf.l0 k s acc i = some (r, 0)) ∨ (spec_l01Bytes.l0 k s acc i = some (⟨#[]⟩, false) ∧ impl_BytesOf.l0 k s acc i = some (⟨#[]⟩, 3)) := by
  intro d
  induction d with
  | zero =>
    intro k acc i h0 h2 hd ha hk
    obtain ⟨k, rfl⟩ : ∃ m, k = m + 1 := ⟨k - 1, by omega⟩
    simp only [spec_l01Bytes.l0, impl_BytesOf.l0]
    rw [if_neg (by omega), if_neg (by omega)]
    exact Or.inl ⟨_, rfl, rfl⟩
  | succ d ih =>
    intro k acc i h0 h2 hd ha hk
    obtain ⟨k, rfl⟩ : ∃ m, k = m + 1 := ⟨k - 1, by omega⟩
    by_cases h : i < (s.size : Int)
    · simp only [spec_l01Bytes.l0, impl_BytesOf.l0]
      have e1 : wrap64 (i + 1) = i + 1 := by unfold wrap64; omega
      have e2 : wrap64 (i + 2) = i + 2 := by unfold wrap64; omega
      rw [e1, e2]
      simp only [spec_hexv _ (bt_range s _), impl_hexv _ (bt_range s _) k (by omega), Option.bind_some]
      have g1 : 0 ≤ i + 1 := by omega
      have g2 : i + 1 < (s.size : Int) := by omega
      simp only [h, h0, g1, g2, if_true]
      have a := hexv_lt (bt s i)
      have b := hexv_lt (bt s (i + 1))
      generalize hexv (bt s i) = x at *
      generalize hexv (bt s (i + 1)) = y at *
      by_cases hx : x < 0
      · exact Or.inr ⟨by rw [if_pos hx], by rw [if_pos hx, if_pos rfl]⟩
      · by_cases hy : y < 0
        · exact Or.inr ⟨by rw [if_neg hx, if_pos hy], by rw [if_neg hx, if_neg (by omega), if_pos hy, if_pos rfl]⟩
        · have hl : acc.length < 140737488355328 := by omega
          have ev : (wrap64 ((wrap64 (16 * x)) + y)) % 256 = 16 * x + y := by unfold wrap64; omega
          have ev2 := or_hex x y (by omega) (by omega)
          have n1 : ¬ x = 16 := by omega
          have n2 : ¬ y = 16 := by omega
          simp only [hx, hy, hl, n1, n2, if_false, if_true, ev, ev2]
          exact ih k _ (i + 2) (by omega) (by omega) (by omega) (by simp; omega) (by omega)
    · simp only [spec_l01Bytes.l0, impl_BytesOf.l0]
      rw [if_neg h, if_neg h]
      exact Or.inl ⟨_, rfl, rfl⟩

theorem FnExactBytesOf : laws_FnExactBytesOf.Pure := by
  intro s _
  by_cases hbig : (s.size : Int) > 1048576
  · exact ⟨0, by unfold laws_FnExactBytesOf.f; rw [if_pos hbig]⟩
  · refine ⟨s.size + 100, ?_⟩
    unfold laws_FnExactBytesOf.f spec_BytesOf.f impl_BytesOf.f
    rw [if_neg hbig, long_eq, when_eq]
    simp only [Option.bind_some]
    rw [first_eq _ (by simp) _ (by simp)]
    simp only [Option.bind_some, fnz]
    by_cases h1 : (s.size : Int) > 65536
    · simp [h1]
    · unfold spec_l01Bytes.f
      by_cases h2 : (s.size : Int) % 2 = 0
      · have h3 : ((s.size : Int) % 2 == 1) = false := by rw [h2]; rfl
        simp only [h1, h2, if_false, if_true]
        rcases bytes_from s (by omega) h2 s.size (s.size + 100) [] 0 (by omega) (by omega) (by omega) (by simp) (by omega) with ⟨r, e1, e2⟩ | ⟨e1, e2⟩
        · rw [e1]
          simp [e2]
        · rw [e1]
          simp [e2]
      · have h3 : ((s.size : Int) % 2 == 1) = true := by simp; omega
        simp [h1, h2, h3]


end Go.Proofs.Ytohnenadkilaiaa.Pure

/- Proved: the pure statement behind the law FnExactFrameText of the given program: for every input that the row lets in, the program's answer and the reference's agree and the law returns true. Conditions: none beyond the row's own. -/
import Derived.Test.YtohnenadkilaiaaMFnExactFrameTextx1
set_option linter.unusedVariables false
set_option linter.unusedSimpArgs false
namespace Go.Proofs.Ytohnenadkilaiaa.Pure
open Go.RowKit Go.Proofs.Ytohnenadkilaiaa.MFnExactFrameText Go.Proofs.YtohnenadkilaiaaW.PrintWords Go.Proofs.YtohnenadkilaiaaW.PrintLast

theorem when_eq (b : Bool) (c : Int) : impl_when.f b c = some (if b = true then c else 0) := by
  unfold impl_when.f
  split <;> rfl

/-- The first number of a list that is not 0; else 0. -/
def fnz : List Int → Int
  | [] => 0
  | a :: l => if a = 0 then fnz l else a

theorem first_from (l : List Int) (hl : l.length ≤ 1000) : ∀ (d k i : Nat), l.length - i ≤ d → d < k → i ≤ l.length → impl_first.l0 k l l.length (i : Int) = some (fnz (l.drop i)) := by
  intro d
  induction d with
  | zero =>
    intro k i hd hk hi
    obtain ⟨k, rfl⟩ : ∃ m, k = m + 1 := ⟨k - 1, by omega⟩
    simp only [impl_first.l0]
    rw [if_neg (by omega), List.drop_of_length_le (by omega)]
    rfl
  | succ d ih =>
    intro k i hd hk hi
    obtain ⟨k, rfl⟩ : ∃ m, k = m + 1 := ⟨k - 1, by omega⟩
    simp only [impl_first.l0]
    by_cases h : i < l.length
    · have hw : wrap64 ((i : Int) + 1) = ((i + 1 : Nat) : Int) := by unfold wrap64; omega
      rw [hw, ih k (i + 1) (by omega) (by omega) (by omega)]
      have e : rd l (i : Int) = l[i] := by simp [rd, List.getD_eq_getElem?_getD, h]
      rw [List.drop_eq_getElem_cons h, e]
      rw [if_pos (by omega), if_pos (by omega), if_pos (by omega)]
      simp only [fnz]
      split <;> rfl
    · rw [if_neg (by omega), List.drop_of_length_le (by omega)]
      rfl

theorem first_eq (l : List Int) (hl : l.length ≤ 1000) (k : Nat) (hk : l.length < k) : impl_first.f k l = some (fnz l) := by
  unfold impl_first.f
  have h := first_from l hl l.length k 0 (by omega) hk (by omega)
  simpa using h

theorem long_eq (s : ByteArray) : impl_long.f s = some (if (s.size : Int) > 65536 then 2 else 0) := by
  unfold impl_long.f
  rw [when_eq]
  simp


theorem wstep0 : wrap64 ((0 : Int) + 1) = 1 := by unfold wrap64; omega
theorem wstep1 : wrap64 ((1 : Int) + 1) = 2 := by unfold wrap64; omega
theorem wstep2 : wrap64 ((2 : Int) + 1) = 3 := by unfold wrap64; omega
theorem wstep3 : wrap64 ((3 : Int) + 1) = 4 := by unfold wrap64; omega
theorem wone : wrap64 (1 : Int) = 1 := by unfold wrap64; omega
theorem wtwo : wrap64 (2 : Int) = 2 := by unfold wrap64; omega
theorem wthree : wrap64 (3 : Int) = 3 := by unfold wrap64; omega
theorem wfour : wrap64 (4 : Int) = 4 := by unfold wrap64; omega
theorem u64b0 (x : Int) : IntKind.u64.wrap x % 256 = x % 256 := by simp only [IntKind.wrap_u64]; omega
theorem u64b1 (x : Int) : IntKind.u64.wrap x / 256 % 256 = x / 256 % 256 := by simp only [IntKind.wrap_u64]; omega
theorem u64b2 (x : Int) : IntKind.u64.wrap x / 256 / 256 % 256 = x / 256 / 256 % 256 := by simp only [IntKind.wrap_u64]; omega
theorem u64b3 (x : Int) : IntKind.u64.wrap x / 256 / 256 / 256 % 256 = x / 256 / 256 / 256 % 256 := by simp only [IntKind.wrap_u64]; omega

theorem spec_put1 (x : Int) (k : Nat) (hk : 5 ≤ k) : spec_l01Put.f k x 1 = some (strOfNums [x % 256]) := by
  obtain ⟨k, rfl⟩ : ∃ m, k = m + 5 := ⟨k - 5, by omega⟩
  unfold spec_l01Put.f
  simp [spec_l01Put.l0, wstep0, wone, wtwo, wthree, wfour, u64b0]
theorem spec_put2 (x : Int) (k : Nat) (hk : 5 ≤ k) : spec_l01Put.f k x 2 = some (strOfNums [x % 256, x / 256 % 256]) := by
  obtain ⟨k, rfl⟩ : ∃ m, k = m + 5 := ⟨k - 5, by omega⟩
  unfold spec_l01Put.f
  simp [spec_l01Put.l0, wstep0, wstep1, wone, wtwo, wthree, wfour, u64b0, u64b1]
theorem spec_put4 (x : Int) (k : Nat) (hk : 5 ≤ k) : spec_l01Put.f k x 4 = some (strOfNums [x % 256, x / 256 % 256, x / 256 / 256 % 256, x / 256 / 256 / 256 % 256]) := by
  obtain ⟨k, rfl⟩ : ∃ m, k = m + 5 := ⟨k - 5, by omega⟩
  unfold spec_l01Put.f
  simp [spec_l01Put.l0, wstep0, wstep1, wstep2, wstep3, wone, wtwo, wthree, wfour, u64b0, u64b1, u64b2, u64b3]
theorem impl_put1 (x : Int) (k : Nat) (hk : 5 ≤ k) : impl_put.f k x 1 = some (strOfNums [x % 256]) := by
  obtain ⟨k, rfl⟩ : ∃ m, k = m + 5 := ⟨k - 5, by omega⟩
  unfold impl_put.f
  simp [impl_put.l0, wstep0, wone, wtwo, wthree, wfour]
theorem impl_put2 (x : Int) (k : Nat) (hk : 5 ≤ k) : impl_put.f k x 2 = some (strOfNums [x % 256, x / 256 % 256]) := by
  obtain ⟨k, rfl⟩ : ∃ m, k = m + 5 := ⟨k - 5, by omega⟩
  unfold impl_put.f
  simp [impl_put.l0, wstep0, wstep1, wone, wtwo, wthree, wfour]
theorem impl_put4 (x : Int) (k : Nat) (hk : 5 ≤ k) : impl_put.f k x 4 = some (strOfNums [x % 256, x / 256 % 256, x / 256 / 256 % 256, x / 256 / 256 / 256 % 256]) := by
  obtain ⟨k, rfl⟩ : ∃ m, k = m + 5 := ⟨k - 5, by omega⟩
  unfold impl_put.f
  simp [impl_put.l0, wstep0, wstep1, wstep2, wstep3, wone, wtwo, wthree, wfour]

theorem sum_same (s : ByteArray) : ∀ (k : Nat) (a i : Int), impl_SumOf.l0 k s a s.size i = spec_l01Sum.l0 k s a i := by
  intro k
  induction k with
  | zero => intro a i; rfl
  | succ k ih =>
    intro a i
    simp only [impl_SumOf.l0, spec_l01Sum.l0]
    by_cases h : i < (s.size : Int)
    · by_cases h0 : 0 ≤ i
      · simp only [if_pos h, if_pos h0, ih]
      · simp only [if_pos h, if_neg h0]
    · simp only [if_neg h]

theorem sum_ends (s : ByteArray) (hn : s.size ≤ 65536) (d : Nat) : ∀ (k : Nat) (a i : Int), 0 ≤ i → (s.size : Int) - i ≤ d → d < k → ∃ r, spec_l01Sum.l0 k s a i = some r := by
  induction d with
  | zero =>
    intro k a i h0 hd hk
    obtain ⟨k, rfl⟩ : ∃ m, k = m + 1 := ⟨k - 1, by omega⟩
    exact ⟨a, by simp only [spec_l01Sum.l0]; rw [if_neg (by omega)]⟩
  | succ d ih =>
    intro k a i h0 hd hk
    obtain ⟨k, rfl⟩ : ∃ m, k = m + 1 := ⟨k - 1, by omega⟩
    by_cases hlt : i < (s.size : Int)
    · simp only [spec_l01Sum.l0]
      rw [if_pos hlt, if_pos h0]
      have hw : wrap64 (i + 1) = i + 1 := by unfold wrap64; omega
      rw [hw]
      exact ih k _ (i + 1) (by omega) (by omega) (by omega)
    · exact ⟨a, by simp only [spec_l01Sum.l0]; rw [if_neg hlt]⟩

theorem FnExactFrameText : laws_FnExactFrameText.Pure := by
  intro s _
  by_cases hbig : (s.size : Int) > 1048576
  · refine ⟨0, ?_⟩
    unfold laws_FnExactFrameText.f
    rw [if_pos hbig]
  · refine ⟨s.size + 100, ?_⟩
    unfold laws_FnExactFrameText.f spec_FrameText.f impl_FrameText.f
    rw [if_neg hbig, long_eq, when_eq]
    simp only [Option.bind_some]
    rw [first_eq _ (by simp) _ (by simp <;> omega)]
    simp only [Option.bind_some, fnz]
    by_cases h1 : (s.size : Int) > 65536
    · have h2 : (s.size : Int) > 65526 := by omega
      simp [h1, h2]
    · by_cases h2 : (s.size : Int) > 65526
      · simp [h1, h2]
      · simp only [h1, h2, if_false, if_true, decide_false, Bool.false_eq_true]
        unfold spec_l01Frame.f
        rw [spec_put4 _ _ (by omega), impl_put4 _ _ (by omega)]
        simp only [Option.bind_some]
        generalize hz : strOfNums [(s.size : Int) % 256, (s.size : Int) / 256 % 256, (s.size : Int) / 256 / 256 % 256, (s.size : Int) / 256 / 256 / 256 % 256] = z
        have hzs : z.size = 4 := by rw [← hz, strOfNums_size]; rfl
        have hz4 : ((⟨#[80, 76, 67, 49]⟩ : ByteArray) ++ z).size = 8 := by
          rw [ByteArray.size_append, hzs]; rfl
        generalize ((⟨#[80, 76, 67, 49]⟩ : ByteArray) ++ z) = y at *
        have hys : (y ++ s).size = 8 + s.size := by rw [ByteArray.size_append, hz4]
        rw [hzs, hz4]
        generalize y ++ s = x at *
        obtain ⟨r, hr⟩ := sum_ends x (by omega) x.size (s.size + 100) 1 0 (by omega) (by omega) (by omega)
        unfold impl_SumOf.f spec_l01Sum.f
        rw [if_neg (show ¬ ((x.size : Int) > 65536) by omega), sum_same, hr]
        simp only [Option.bind_some]
        rw [spec_put2 _ _ (by omega), impl_put2 _ _ (by omega)]
        simp only [Option.bind_some]
        rw [strOfNums_size]
        have h3 : x.size + [r % 256, r / 256 % 256].length ≤ 9223372036854775807 := by simp; omega
        simp only [h3, if_true]
        have h4 : 4 + 4 ≤ 9223372036854775807 := by omega
        have h5 : 8 + s.size ≤ 9223372036854775807 := by omega
        simp [h5]


end Go.Proofs.Ytohnenadkilaiaa.Pure

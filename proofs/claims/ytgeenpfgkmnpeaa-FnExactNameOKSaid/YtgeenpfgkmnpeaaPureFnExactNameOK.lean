/- Proved: the pure statement behind the law FnExactNameOK of the given program: for every input that the row lets in, the program's answer and the reference's agree and the law returns true. Conditions: none beyond the row's own. -/
import Derived.Test.YtgeenpfgkmnpeaaPFnExactNameOKx2
set_option linter.unusedVariables false
set_option linter.unusedSimpArgs false
namespace Go.Proofs.Ytgeenpfgkmnpeaa.Pure
open Go.RowKit Go.Proofs.Ytgeenpfgkmnpeaa.PFnExactNameOK Go.Proofs.YtgeenpfgkmnpeaaW.PrintWords Go.Proofs.YtgeenpfgkmnpeaaW.PrintLast

theorem name_same (s : ByteArray) (hs : s.size ≤ 20) : ∀ (k : Nat) (i : Int), 1 ≤ i → impl_NameOK.l0 k s s.size i = spec_l00Word.l0 k s i := by
  intro k
  induction k with
  | zero => intro i _; simp only [impl_NameOK.l0, spec_l00Word.l0]
  | succ k ih =>
    intro i hi
    simp only [impl_NameOK.l0, spec_l00Word.l0]
    by_cases h : i < (s.size : Int)
    · have h0 : 0 ≤ i := by omega
      have h1 : i > 0 := by omega
      have hw : wrap64 (i + 1) = i + 1 := by unfold wrap64; omega
      rw [hw, ih (i + 1) (by omega)]
      simp only [h, h0, h1, if_true, spec_l00Letter.f, spec_l00Digit.f]
      generalize spec_l00Word.l0 k s (i + 1) = z
      generalize bt s i = c
      by_cases c1 : c ≥ 48 <;> by_cases c2 : c ≤ 57 <;> by_cases c3 : c ≥ 97 <;> by_cases c4 : c ≤ 122 <;> by_cases c5 : c ≥ 65 <;> by_cases c6 : c ≤ 90 <;> by_cases c7 : c = 95 <;> first | (exfalso; omega) | simp [c1, c2, c3, c4, c5, c6, c7]
    · rw [if_neg h, if_neg h]

theorem name_ends (s : ByteArray) (hs : s.size ≤ 20) (d : Nat) : ∀ (k : Nat) (i : Int), 0 ≤ i → (s.size : Int) - i ≤ d → d < k → ∃ r, spec_l00Word.l0 k s i = some r := by
  induction d with
  | zero =>
    intro k i h0 hd hk
    obtain ⟨k, rfl⟩ : ∃ m, k = m + 1 := ⟨k - 1, by omega⟩
    exact ⟨true, by simp only [spec_l00Word.l0]; rw [if_neg (by omega)]⟩
  | succ d ih =>
    intro k i h0 hd hk
    obtain ⟨k, rfl⟩ : ∃ m, k = m + 1 := ⟨k - 1, by omega⟩
    by_cases hlt : i < (s.size : Int)
    · simp only [spec_l00Word.l0]
      have hw : wrap64 (i + 1) = i + 1 := by unfold wrap64; omega
      rw [if_pos hlt, if_pos h0, hw]
      obtain ⟨r, hr⟩ := ih k (i + 1) (by omega) (by omega) (by omega)
      rw [hr]
      simp only [spec_l00Letter.f, spec_l00Digit.f]
      generalize bt s i = c
      by_cases c1 : c ≥ 48 <;> by_cases c2 : c ≤ 57 <;> by_cases c3 : c ≥ 97 <;> by_cases c4 : c ≤ 122 <;> by_cases c5 : c ≥ 65 <;> by_cases c6 : c ≤ 90 <;> by_cases c7 : c = 95 <;> first | (exfalso; omega) | simp [c1, c2, c3, c4, c5, c6, c7]
    · exact ⟨true, by simp only [spec_l00Word.l0]; rw [if_neg hlt]⟩

theorem name_first (s : ByteArray) (hs : s.size ≤ 20) (hp : 0 < (s.size : Int)) (k : Nat) (r : Bool) (hr : spec_l00Word.l0 k s 1 = some r) : impl_NameOK.l0 (k + 1) s s.size 0 = (spec_l00Letter.f (bt s 0)).bind fun t => spec_l00Word.j0 (k + 1) s (!t) := by
  simp only [impl_NameOK.l0, spec_l00Word.j0]
  have hw : wrap64 ((0 : Int) + 1) = 1 := by unfold wrap64; omega
  rw [hw, name_same s hs k 1 (by omega), hr]
  simp only [hp, spec_l00Letter.f]
  generalize bt s 0 = c
  by_cases c1 : c ≥ 48 <;> by_cases c2 : c ≤ 57 <;> by_cases c3 : c ≥ 97 <;> by_cases c4 : c ≤ 122 <;> by_cases c5 : c ≥ 65 <;> by_cases c6 : c ≤ 90 <;> by_cases c7 : c = 95 <;> first | (exfalso; omega) | simp [c1, c2, c3, c4, c5, c6, c7]

theorem letter_some (c : Int) : ∃ b, spec_l00Letter.f c = some b := by
  unfold spec_l00Letter.f
  split <;> split <;> first | exact ⟨_, rfl⟩ | (split <;> exact ⟨_, rfl⟩) | (split <;> first | exact ⟨_, rfl⟩ | (split <;> exact ⟨_, rfl⟩))

theorem FnExactNameOK : laws_FnExactNameOK.Pure := by
  intro s hsz
  by_cases h1 : 1 ≤ s.size ∧ s.size ≤ 20
  · obtain ⟨r, hr⟩ := name_ends s h1.2 s.size (s.size + 1) 1 (by omega) (by omega) (by omega)
    obtain ⟨b, hb⟩ := letter_some (bt s 0)
    have hf := name_first s h1.2 (by omega) (s.size + 1) r hr
    refine ⟨s.size + 1 + 1, ?_⟩
    unfold laws_FnExactNameOK.f spec_NameOK.f spec_l00Word.f impl_NameOK.f impl_within.f
    rw [hf, hb]
    rw [if_neg (by omega), if_neg (by omega), if_neg (by omega), if_pos (by omega), if_pos (by omega)]
    have hle : decide ((s.size : Int) ≤ 20) = true := by simp; omega
    rw [hle]
    cases b <;> simp [spec_l00Word.j0, hr]
  · by_cases hbig : (s.size : Int) > 1048576
    · refine ⟨0, ?_⟩
      unfold laws_FnExactNameOK.f
      rw [if_pos hbig]
    · refine ⟨1, ?_⟩
      unfold laws_FnExactNameOK.f spec_NameOK.f spec_l00Word.f impl_NameOK.f impl_within.f
      rw [if_neg hbig]
      by_cases hz : (s.size : Int) < 1
      · rw [if_pos hz, if_neg (by omega)]
        simp [spec_l00Word.j0]
      · have hle : decide ((s.size : Int) ≤ 20) = false := by simp; omega
        rw [if_neg hz, if_pos (by omega), if_pos (by omega), hle]
        simp [spec_l00Word.j0]


end Go.Proofs.Ytgeenpfgkmnpeaa.Pure

/- Proved: the pure statement behind the law FnExactHexOf of the given program: for every input that the row lets in, the program's answer and the reference's agree and the law returns true. Conditions: none beyond the row's own. -/
import Derived.Test.YtgeenpfgkmnpeaaMFnExactHexOfx1
set_option linter.unusedVariables false
set_option linter.unusedSimpArgs false
namespace Go.Proofs.Ytgeenpfgkmnpeaa.Pure
open Go.RowKit Go.Proofs.Ytgeenpfgkmnpeaa.MFnExactHexOf Go.Proofs.YtgeenpfgkmnpeaaW.PrintWords Go.Proofs.YtgeenpfgkmnpeaaW.PrintLast

theorem hex_and (b : Int) (h0 : 0 ≤ b) (h1 : b ≤ 255) : Go.bits .and .u8 b 15 = Int.tmod b 16 := by
  obtain ⟨n, rfl⟩ := Int.eq_ofNat_of_zero_le h0
  have hn : n < 256 := by omega
  have key : ∀ m : Fin 256, Go.bits .and .u8 ((m.val : Nat) : Int) 15 = Int.tmod ((m.val : Nat) : Int) 16 := by decide +kernel
  exact key ⟨n, hn⟩

theorem hex_div (b : Int) (h0 : 0 ≤ b) (h1 : b ≤ 255) : Int.tdiv b 16 % 256 = b / 16 := by
  rw [Int.tdiv_eq_ediv_of_nonneg h0]; omega

theorem hex_same (s : ByteArray) : ∀ (k : Nat) (a : List Int) (i : Int), impl_HexOf.l0 k s a s.size i = spec_l01Hex.l0 k s a i := by
  intro k
  induction k with
  | zero => intro a i; rfl
  | succ k ih =>
    intro a i
    simp only [impl_HexOf.l0, spec_l01Hex.l0]
    have hb := bt_range s i
    rw [hex_and _ hb.1 hb.2, hex_div _ hb.1 hb.2]
    by_cases h : i < (s.size : Int)
    · rw [if_pos h, if_pos h]
      by_cases h0 : 0 ≤ i
      · rw [if_pos h0, if_pos h0, if_pos h]
        simp only [ih]
      · rw [if_neg h0, if_neg h0, if_pos h]
    · rw [if_neg h, if_neg h]

theorem hex_ends (s : ByteArray) (hn : s.size ≤ 32768) (d : Nat) : ∀ (k : Nat) (a : List Int) (i : Int), 0 ≤ i → (s.size : Int) - i ≤ d → (a.length : Int) ≤ 2 * i → d < k → ∃ r, spec_l01Hex.l0 k s a i = some r := by
  induction d with
  | zero =>
    intro k a i h0 hd ha hk
    obtain ⟨k, rfl⟩ : ∃ m, k = m + 1 := ⟨k - 1, by omega⟩
    exact ⟨_, by simp only [spec_l01Hex.l0]; rw [if_neg (by omega)]⟩
  | succ d ih =>
    intro k a i h0 hd ha hk
    obtain ⟨k, rfl⟩ : ∃ m, k = m + 1 := ⟨k - 1, by omega⟩
    by_cases hlt : i < (s.size : Int)
    · simp only [spec_l01Hex.l0]
      have hb := bt_range s i
      have hm0 : 0 ≤ Int.tmod (bt s i) 16 := Int.tmod_nonneg _ hb.1
      have hm1 : Int.tmod (bt s i) 16 < 16 := Int.tmod_lt_of_pos _ (by omega)
      rw [hex_div _ hb.1 hb.2]
      rw [if_pos hlt, if_pos h0, if_pos (by omega), if_pos (by omega), if_pos hm0, if_pos hm1]
      have hw : wrap64 (i + 1) = i + 1 := by unfold wrap64; omega
      rw [hw]
      simp only [Option.bind_some]
      rw [if_pos (by simp only [List.length_cons, List.length_nil]; omega)]
      exact ih k _ (i + 1) (by omega) (by omega) (by simp only [List.length_append, List.length_cons, List.length_nil]; omega) (by omega)
    · exact ⟨_, by simp only [spec_l01Hex.l0]; rw [if_neg hlt]⟩

theorem FnExactHexOf : laws_FnExactHexOf.Pure := by
  intro s _
  by_cases hs : (s.size : Int) > 32768
  · refine ⟨0, ?_⟩
    unfold laws_FnExactHexOf.f spec_HexOf.f impl_HexOf.f
    rw [if_pos hs, if_pos hs]
    simp
  · obtain ⟨r, hr⟩ := hex_ends s (by omega) s.size (s.size + 1) [] 0 (by omega) (by omega) (by simp) (by omega)
    refine ⟨s.size + 1, ?_⟩
    unfold laws_FnExactHexOf.f spec_HexOf.f impl_HexOf.f spec_l01Hex.f
    rw [if_neg hs, if_neg hs, hex_same, hr]
    simp


end Go.Proofs.Ytgeenpfgkmnpeaa.Pure

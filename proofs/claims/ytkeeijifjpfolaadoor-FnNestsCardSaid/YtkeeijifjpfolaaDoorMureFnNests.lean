/- Proved: the pure statement behind the law FnNests of the given program: for every input that the row lets in, the program's answer and the reference's agree and the law returns true. Conditions: none beyond the row's own. -/
import Derived.Test.YtkeeijifjpfolaaDoorMFnNestsx13
set_option linter.unusedVariables false
set_option linter.unusedSimpArgs false
namespace Go.Proofs.YtkeeijifjpfolaaDoor.Pure
open Go.RowKit Go.Proofs.YtkeeijifjpfolaaDoor.MFnNests Go.Proofs.YtkeeijifjpfolaaDoorW.PrintWords Go.Proofs.YtkeeijifjpfolaaDoorW.PrintLast

theorem within_eq (a lo hi : Int) : impl_within.f a lo hi = some (decide (lo ≤ a ∧ a ≤ hi)) := by
  unfold impl_within.f
  by_cases h : a ≥ lo
  · have h' : lo ≤ a := h
    simp [h, h']
  · have h' : ¬ lo ≤ a := h
    simp [h, h']

theorem when_eq (b : Bool) (c : Int) : impl_when.f b c = some (if b = true then c else 0) := by
  unfold impl_when.f
  split <;> rfl

/-- The first number of a list that is not 0; else 0. -/
def fnz : List Int → Int
  | [] => 0
  | a :: l => if a = 0 then fnz l else a

theorem first_from (l : List Int) (hl : l.length ≤ 1000) : ∀ (d k i : Nat), l.length - i ≤ d → d < k → i ≤ l.length → impl_first.l0 k l l.length (i : Int) = some (fnz (l.drop i)) := by
  intro d
  induction d with
  | zero =>
    intro k i hd hk hi
    obtain ⟨k, rfl⟩ : ∃ m, k = m + 1 := ⟨k - 1, by omega⟩
    simp only [impl_first.l0]
    rw [if_neg (by omega), List.drop_of_length_le (by omega)]
    rfl
  | succ d ih =>
    intro k i hd hk hi
    obtain ⟨k, rfl⟩ : ∃ m, k = m + 1 := ⟨k - 1, by omega⟩
    simp only [impl_first.l0]
    by_cases h : i < l.length
    · have hw : wrap64 ((i : Int) + 1) = ((i + 1 : Nat) : Int) := by unfold wrap64; omega
      rw [hw, ih k (i + 1) (by omega) (by omega) (by omega)]
      have e : rd l (i : Int) = l[i] := by simp [rd, List.getD_eq_getElem?_getD, h]
      rw [List.drop_eq_getElem_cons h, e]
      rw [if_pos (by omega), if_pos (by omega), if_pos (by omega)]
      simp only [fnz]
      split <;> rfl
    · rw [if_neg (by omega), List.drop_of_length_le (by omega)]
      rfl

theorem first_eq (l : List Int) (hl : l.length ≤ 1000) (k : Nat) (hk : l.length < k) : impl_first.f k l = some (fnz l) := by
  unfold impl_first.f
  have h := first_from l hl l.length k 0 (by omega) hk (by omega)
  simpa using h

theorem wrap_id {x : Int} (h1 : -9223372036854775808 ≤ x) (h2 : x ≤ 9223372036854775807) : wrap64 x = x := by unfold wrap64; omega

theorem u8_bounds {x : Int} (h : (Lit.int .u8 x).wf = true) : 0 ≤ x ∧ x ≤ 255 := by
  simp only [Lit.wf, IntKind.min, IntKind.max, IntKind.signed, IntKind.bits, Bool.and_eq_true, decide_eq_true_eq] at h
  simp at h
  omega
theorem rd_u8 {l : List Int} (hw : ∀ x ∈ l, (Lit.int .u8 x).wf = true) (i : Int) : 0 ≤ rd l i ∧ rd l i ≤ 255 := by
  unfold rd
  rw [List.getD_eq_getElem?_getD]
  by_cases h : i.toNat < l.length
  · rw [List.getElem?_eq_getElem h]
    exact u8_bounds (hw _ (List.getElem_mem h))
  · rw [List.getElem?_eq_none (by omega)]
    exact ⟨by decide, by decide⟩
theorem tmod_range {a b : Int} (ha : 0 ≤ a) (hb : 0 < b) : 0 ≤ Int.tmod a b ∧ Int.tmod a b < b := ⟨Int.tmod_nonneg _ ha, Int.tmod_lt_of_pos _ hb⟩
theorem tdiv_range {a b : Int} (ha : 0 ≤ a) (hb : 0 < b) : 0 ≤ Int.tdiv a b ∧ Int.tdiv a b ≤ a := by
  rw [Int.tdiv_eq_ediv_of_nonneg ha]
  exact ⟨Int.ediv_nonneg ha (by omega), Int.ediv_le_self _ ha⟩


theorem byte_some {l : List Int} (hw : ∀ x ∈ l, (Lit.int .u8 x).wf = true) (a s : Int) (ha : 0 ≤ a ∧ a ≤ 1000000) (hs : 0 ≤ s ∧ s ≤ 2147483647) :
    ∃ v s', spec_l00Src_byte.f l a s = some (v, a + 1, s') ∧ (0 ≤ v ∧ v ≤ 255) ∧ 0 ≤ s' ∧ s' ≤ 2147483647 := by
  have w1 : wrap64 (a + 1) = a + 1 := wrap_id (by omega) (by omega)
  have w2 : wrap64 ((a + 1) - 1) = a := by unfold wrap64; omega
  unfold spec_l00Src_byte.f
  rw [w1, w2]
  by_cases h : a + 1 ≤ (l.length : Int)
  · rw [if_pos h, if_pos ha.1, if_pos (by omega)]
    have hr := rd_u8 hw a
    generalize rd l a = x at *
    have w3 : wrap64 x = x := wrap_id (by omega) (by omega)
    have w4 : wrap64 ((wrap64 ((wrap64 (s * 31)) + x)) + 7) = s * 31 + x + 7 := by unfold wrap64; omega
    rw [w3, w4]
    have t := tmod_range (a := s * 31 + x + 7) (b := 2147483648) (by omega) (by omega)
    exact ⟨_, _, rfl, hr, t.1, by omega⟩
  · rw [if_neg h]
    by_cases h2 : a + 1 > 3000
    · rw [if_pos h2]
      exact ⟨_, _, rfl, ⟨by omega, by omega⟩, hs⟩
    · rw [if_neg h2]
      have w3 : wrap64 ((wrap64 (s * 1103515245)) + 12345) = s * 1103515245 + 12345 := by unfold wrap64; omega
      rw [w3]
      have t := tmod_range (a := s * 1103515245 + 12345) (b := 2147483648) (by omega) (by omega)
      generalize Int.tmod (s * 1103515245 + 12345) 2147483648 = y at *
      have t2 := tdiv_range (a := y) (b := 65536) t.1 (by omega)
      generalize Int.tdiv y 65536 = z at *
      have w4 : wrap64 z = z := wrap_id (by omega) (by omega)
      rw [w4]
      have t3 := tmod_range (a := z) (b := 256) t2.1 (by omega)
      exact ⟨_, _, rfl, ⟨t3.1, by omega⟩, t.1, by omega⟩
theorem next_some {l : List Int} (hw : ∀ x ∈ l, (Lit.int .u8 x).wf = true) (n a s : Int) (hn : 1 ≤ n) (ha : 0 ≤ a ∧ a ≤ 999990) (hs : 0 ≤ s ∧ s ≤ 2147483647) :
    ∃ v a' s', spec_l00Src_next.f l a s n = some (v, a', s') ∧ (0 ≤ v ∧ v < n) ∧ (a ≤ a' ∧ a' ≤ a + 3) ∧ 0 ≤ s' ∧ s' ≤ 2147483647 := by
  unfold spec_l00Src_next.f
  by_cases h1 : n ≤ 1
  · rw [if_pos h1]
    exact ⟨_, _, _, rfl, ⟨by omega, by omega⟩, ⟨by omega, by omega⟩, hs⟩
  · rw [if_neg h1]
    have hn0 : ¬ n = 0 := by omega
    obtain ⟨v1, s1, e1, b1, c1⟩ := byte_some hw a s (by omega) hs
    by_cases h2 : n ≤ 256
    · rw [if_pos h2, e1]
      simp only [Option.bind_some]
      rw [if_neg hn0]
      have t := tmod_range (a := v1) (b := n) b1.1 (by omega)
      exact ⟨_, _, _, rfl, t, ⟨by omega, by omega⟩, c1⟩
    · rw [if_neg h2, e1]
      obtain ⟨v2, s2, e2, b2, c2⟩ := byte_some hw (a + 1) s1 (by omega) c1
      obtain ⟨v3, s3, e3, b3, c3⟩ := byte_some hw (a + 1 + 1) s2 (by omega) c2
      simp only [Option.bind_some, e2, e3]
      rw [if_neg hn0]
      have w : wrap64 ((wrap64 ((wrap64 (v1 * 65536)) + (wrap64 (v2 * 256)))) + v3) = v1 * 65536 + v2 * 256 + v3 := by unfold wrap64; omega
      rw [w]
      have t := tmod_range (a := v1 * 65536 + v2 * 256 + v3) (b := n) (by omega) (by omega)
      exact ⟨_, _, _, rfl, t, ⟨by omega, by omega⟩, c3⟩

theorem chance_some {l : List Int} (hw : ∀ x ∈ l, (Lit.int .u8 x).wf = true) (n a s : Int) (hn : 1 ≤ n) (ha : 0 ≤ a ∧ a ≤ 999990) (hs : 0 ≤ s ∧ s ≤ 2147483647) :
    ∃ v a' s', spec_l00Src_chance.f l a s n = some (v, a', s') ∧ (a ≤ a' ∧ a' ≤ a + 3) ∧ 0 ≤ s' ∧ s' ≤ 2147483647 := by
  obtain ⟨v, a', s', e, _, h2, h3⟩ := next_some hw n a s hn ha hs
  unfold spec_l00Src_chance.f
  rw [e]
  exact ⟨_, a', s', rfl, h2, h3⟩

theorem value_some {l : List Int} (hw : ∀ x ∈ l, (Lit.int .u8 x).wf = true) (a s : Int) (ha : 0 ≤ a ∧ a ≤ 999900) (hs : 0 ≤ s ∧ s ≤ 2147483647) :
    ∃ v a' s', spec_l00Src_value.f l a s = some (v, a', s') ∧ (-2147483648 ≤ v ∧ v ≤ 2147483647) ∧ (a ≤ a' ∧ a' ≤ a + 7) ∧ 0 ≤ s' ∧ s' ≤ 2147483647 := by
  unfold spec_l00Src_value.f
  obtain ⟨v1, a1, s1, e1, b1, c1, d1⟩ := next_some hw 8 a s (by omega) (by omega) hs
  rw [e1]
  simp only [Option.bind_some]
  by_cases h0 : v1 = 0
  · rw [if_pos h0]
    obtain ⟨v2, a2, s2, e2, b2, c2, d2⟩ := next_some hw 3 a1 s1 (by omega) (by omega) d1
    simp only [e2, Option.bind_some]
    exact ⟨_, _, _, rfl, by unfold wrap64; omega, by omega, d2⟩
  · rw [if_neg h0]
    by_cases h1 : v1 = 1
    · rw [if_pos h1]
      obtain ⟨v2, a2, s2, e2, b2, c2, d2⟩ := next_some hw 3 a1 s1 (by omega) (by omega) d1
      simp only [e2, Option.bind_some]
      exact ⟨_, _, _, rfl, by unfold wrap64; omega, by omega, d2⟩
    · rw [if_neg h1]
      by_cases h2 : v1 = 2
      · rw [if_pos h2]
        obtain ⟨w1, s2, e2, b2, d2⟩ := byte_some hw a1 s1 (by omega) d1
        obtain ⟨w2, s3, e3, b3, d3⟩ := byte_some hw (a1 + 1) s2 (by omega) d2
        obtain ⟨w3, s4, e4, b4, d4⟩ := byte_some hw (a1 + 1 + 1) s3 (by omega) d3
        obtain ⟨w4, s5, e5, b5, d5⟩ := byte_some hw (a1 + 1 + 1 + 1) s4 (by omega) d4
        simp only [e2, e3, e4, e5, Option.bind_some]
        refine ⟨_, _, _, rfl, ?_, by omega, d5⟩
        have w : wrap64 ((wrap64 ((wrap64 ((wrap64 ((wrap64 ((wrap64 (w1 * 16777216)) + (wrap64 (w2 * 65536)))) + (wrap64 (w3 * 256)))) + w4)) - 2147483647)) - 1) = w1 * 16777216 + w2 * 65536 + w3 * 256 + w4 - 2147483648 := by unfold wrap64; omega
        rw [w]
        omega
      · rw [if_neg h2]
        by_cases h3 : v1 = 3
        · rw [if_pos h3]
          obtain ⟨v2, a2, s2, e2, b2, c2, d2⟩ := next_some hw 300 a1 s1 (by omega) (by omega) d1
          simp only [e2, Option.bind_some]
          exact ⟨_, _, _, rfl, by unfold wrap64; omega, by omega, d2⟩
        · rw [if_neg h3]
          obtain ⟨v2, a2, s2, e2, b2, c2, d2⟩ := next_some hw 200 a1 s1 (by omega) (by omega) d1
          simp only [e2, Option.bind_some]
          exact ⟨_, _, _, rfl, by omega, by omega, d2⟩

abbrev Ins := S30
theorem match_same (l : List Ins) (hl : l.length ≤ 4096) : ∀ (k : Nat) (dep mid i : Int), 0 ≤ dep → dep ≤ i → 0 ≤ i → i ≤ l.length → 
    impl_match.l0 k l (dep + 1) mid i = spec_l04Match.l0 k l dep mid i := by
  intro k
  induction k using Nat.strongRecOn with
  | ind k ih =>
    intro dep mid i h0 h1 h2 h3
    cases k with
    | zero => rfl
    | succ k =>
      simp only [impl_match.l0, spec_l04Match.l0]
      by_cases hi : i < (l.length : Int)
      · rw [if_pos hi, if_pos hi, if_pos h2, if_pos h2]
        have hw : wrap64 (i + 1) = i + 1 := by unfold wrap64; omega
        have hd : wrap64 (dep + 1) = dep + 1 := by unfold wrap64; omega
        have hd2 : wrap64 (dep + 1 + 1) = dep + 1 + 1 := by unfold wrap64; omega
        have hd3 : wrap64 (dep + 1 - 1) = dep := by unfold wrap64; omega
        have hd4 : wrap64 (dep - 1) = dep - 1 := by unfold wrap64; omega
        have body : ∀ (o : Int) (b : Bool), impl_match.j1 k l (dep + 1) mid i o b = spec_l04Match.j1 k l dep mid i o b := by
          intro o b
          cases k with
          | zero => rfl
          | succ k =>
            simp only [impl_match.j1, spec_l04Match.j1]
            rw [hw, hd, hd2, hd3, hd4]
            have a1 := ih k (by omega) (dep + 1) mid (i + 1) (by omega) (by omega) (by omega) (by omega)
            have a2 := ih k (by omega) dep i (i + 1) (by omega) (by omega) (by omega) (by omega)
            have a3 := ih k (by omega) dep mid (i + 1) (by omega) (by omega) (by omega) (by omega)
            rw [a1, a2, a3]
            cases b
            · simp only [Bool.false_eq_true, if_false]
              by_cases o2 : o = 22
              · rw [if_pos o2, if_pos o2]
                by_cases d0 : dep = 0
                · rw [if_pos (show dep + 1 = 1 by omega), if_pos d0]
                · rw [if_neg (show ¬ dep + 1 = 1 by omega), if_neg d0]
              · rw [if_neg o2, if_neg o2]
                by_cases o3 : o = 23
                · rw [if_pos o3, if_pos o3]
                  by_cases d0 : dep = 0
                  · rw [if_pos d0, if_pos d0]
                  · rw [if_neg d0, if_neg d0]
                    have a4 := ih k (by omega) (dep - 1) mid (i + 1) (by omega) (by omega) (by omega) (by omega)
                    rw [show dep - 1 + 1 = dep by omega] at a4
                    rw [a4]
                · rw [if_neg o3, if_neg o3]
            · rfl
        rw [body, body]
      · rw [if_neg hi, if_neg hi]
theorem match_ends (l : List Ins) (hl : l.length ≤ 4096) : ∀ (d k : Nat) (dep mid i : Int), (l.length : Int) - i ≤ d → 2 * d + 1 < k → 0 ≤ i → ∃ r, spec_l04Match.l0 k l dep mid i = some r := by
  intro d
  induction d with
  | zero =>
    intro k dep mid i hd hk h2
    obtain ⟨k, rfl⟩ : ∃ m, k = m + 1 := ⟨k - 1, by omega⟩
    simp only [spec_l04Match.l0]
    rw [if_neg (by omega)]
    exact ⟨_, rfl⟩
  | succ d ih =>
    intro k dep mid i hd hk h2
    obtain ⟨k, rfl⟩ : ∃ m, k = m + 1 + 1 := ⟨k - 2, by omega⟩
    by_cases hi : i < (l.length : Int)
    · conv => rhs; intro r; lhs; unfold spec_l04Match.l0
      rw [if_pos hi, if_pos h2]
      have hw : wrap64 (i + 1) = i + 1 := by unfold wrap64; omega
      have nx : ∀ dep mid, ∃ r, spec_l04Match.l0 k l dep mid (i + 1) = some r := fun dep mid => ih k dep mid (i + 1) (by omega) (by omega) (by omega)
      have body : ∀ (o : Int) (b : Bool), ∃ r, spec_l04Match.j1 (k + 1) l dep mid i o b = some r := by
        intro o b
        simp only [spec_l04Match.j1]
        rw [hw]
        split
        · exact nx _ _
        · split
          · split
            · exact nx _ _
            · exact nx _ _
          · split
            · split
              · exact ⟨_, rfl⟩
              · exact nx _ _
            · exact nx _ _
      split
      · exact body _ _
      · exact body _ _
    · simp only [spec_l04Match.l0]
      rw [if_neg hi]
      exact ⟨_, rfl⟩

theorem match_start (l : List Ins) (hl : l.length ≤ 4096) (k : Nat) (a : Int) (h0 : 0 ≤ a) (h1 : a < l.length) (ho : (rd_T30 l a).f0 = 21 ∨ (rd_T30 l a).f0 = 24) :
    impl_match.f (k + 1 + 1) l a = spec_l04Match.f k l a := by
  have hw : wrap64 (a + 1) = a + 1 := by unfold wrap64; omega
  have h := match_same l hl k 0 0 (a + 1) (by omega) (by omega) (by omega) (by omega)
  unfold impl_match.f spec_l04Match.f
  rw [hw, ← h]
  conv => lhs; unfold impl_match.l0
  rw [if_pos h1, if_pos h0]
  rcases ho with ho | ho
  · rw [if_pos ho, ho]
    simp only [impl_match.j1]
    rw [hw, show wrap64 (0 + 1) = 0 + 1 by unfold wrap64; omega]
    exact if_pos rfl
  · have hn : ¬ (rd_T30 l a).f0 = 21 := by rw [ho]; decide
    rw [if_neg hn, ho]
    simp only [impl_match.j1]
    rw [hw, show wrap64 (0 + 1) = 0 + 1 by unfold wrap64; omega]
    exact if_pos rfl
theorem matchOf_same (l : List Ins) (k : Nat) (hk : 2 * l.length + 20 ≤ k) (hl : l.length ≤ 1048576) (a : Int) :
    ∃ r, spec_MatchOf.f k l a = some r ∧ impl_MatchOf.f k l a = some r := by
  unfold spec_MatchOf.f impl_MatchOf.f impl_Instr.f
  have hw : wrap64 ((l.length : Int) - 1) = (l.length : Int) - 1 := by unfold wrap64; omega
  rw [hw]
  simp only [when_eq, within_eq, Option.bind_some]
  rw [first_eq _ (by simp) _ (by simp; omega)]
  simp only [Option.bind_some, fnz]
  by_cases c1 : (l.length : Int) > 4096
  · refine ⟨(0, 0, 2), by rw [if_pos c1], ?_⟩
    simp [c1]
  · by_cases c2 : (l.length : Int) > 40
    · refine ⟨(0, 0, 6), by rw [if_neg c1, if_pos c2], ?_⟩
      simp [c1, c2]
    · obtain ⟨k, rfl⟩ : ∃ m, k = m + 1 := ⟨k - 1, by omega⟩
      rw [if_neg c1, if_neg c2]
      by_cases c3 : 0 ≤ a ∧ a ≤ (l.length : Int) - 1
      · have e3 : decide (0 ≤ a ∧ a ≤ (l.length : Int) - 1) = true := decide_eq_true c3
        have e1 : decide ((l.length : Int) > 4096) = false := decide_eq_false c1
        have e2 : decide ((l.length : Int) > 40) = false := decide_eq_false c2
        have e4 : decide (a ≥ (l.length : Int)) = false := decide_eq_false (by omega)
        simp only [e1, e2, e3, e4, Bool.not_true, Bool.false_eq_true, if_false, if_true]
        rw [if_neg (show ¬ a < 0 by omega), if_pos c3.1, if_pos (show a < (l.length : Int) by omega)]
        have sj : spec_MatchOf.j0 (k + 1) l a false = if (rd_T30 l a).f0 = 21 then spec_MatchOf.j1 k l a false else spec_MatchOf.j1 k l a ((rd_T30 l a).f0 != 24) := by
          simp only [spec_MatchOf.j0, Bool.false_eq_true, if_false]
          rw [if_pos c3.1, if_pos (show a < (l.length : Int) by omega)]
        rw [sj]
        by_cases ok : (rd_T30 l a).f0 = 21 ∨ (rd_T30 l a).f0 = 24
        · obtain ⟨k, rfl⟩ : ∃ m, k = m + 1 := ⟨k - 1, by omega⟩
          obtain ⟨k, rfl⟩ : ∃ m, k = m + 1 := ⟨k - 1, by omega⟩
          obtain ⟨r, hr⟩ := match_ends l (by omega) l.length k 0 0 (a + 1) (by omega) (by omega) (by omega)
          have hwa : wrap64 (a + 1) = a + 1 := by unfold wrap64; omega
          have m1 : impl_match.f (k + 1 + 1) l a = some r := by
            rw [match_start l (by omega) k a c3.1 (by omega) ok]
            unfold spec_l04Match.f
            rw [hwa]; exact hr
          have m2 : spec_l04Match.f (k + 1) l a = some r := by
            unfold spec_l04Match.f
            rw [hwa]; exact (spec_l04Match.mono_l k).1 _ _ _ _ _ hr
          have q1 : ∀ b, b = false → spec_MatchOf.j1 (k + 1 + 1) l a b = some (if r.2.2 = true then (r.1, r.2.1, 0) else (0, 0, 14)) := by
            intro b hb
            subst hb
            have m3 : spec_l04Match.f (k + 1) l a = some r := m2
            simp only [spec_MatchOf.j1, m3, Option.bind_some, Bool.false_eq_true, if_false]
            split <;> rfl
          have q2 : ∀ b, b = false → impl_MatchOf.j0 (k + 1 + 1 + 1) l a b = some (if r.2.2 = true then (r.1, r.2.1, 0) else (0, 0, 14)) := by
            intro b hb
            subst hb
            simp only [impl_MatchOf.j0, m1, Option.bind_some, Bool.false_eq_true, if_false]
            split <;> rfl
          refine ⟨if r.2.2 = true then (r.1, r.2.1, 0) else (0, 0, 14), ?_, ?_⟩
          · by_cases o1 : (rd_T30 l a).f0 = 21
            · rw [if_pos o1]; exact q1 _ rfl
            · rw [if_neg o1]; exact q1 _ (by have := ok.resolve_left o1; rw [this]; rfl)
          · by_cases o1 : (rd_T30 l a).f0 = 21
            · rw [if_pos o1]; exact q2 _ rfl
            · rw [if_neg o1]; exact q2 _ (by have := ok.resolve_left o1; rw [this]; rfl)
        · have n1 : ¬ (rd_T30 l a).f0 = 21 := fun h => ok (.inl h)
          have n2 : ((rd_T30 l a).f0 != 24) = true := by simpa using fun h => ok (.inr h)
          obtain ⟨k, rfl⟩ : ∃ m, k = m + 1 := ⟨k - 1, by omega⟩
          refine ⟨(0, 0, 10), ?_, ?_⟩
          · rw [if_neg n1, n2]; rfl
          · rw [if_neg n1, n2]; rfl
      · have e3 : decide (0 ≤ a ∧ a ≤ (l.length : Int) - 1) = false := decide_eq_false c3
        refine ⟨(0, 0, 4), ?_, ?_⟩
        · by_cases n : a < 0
          · rw [if_pos n]; rfl
          · rw [if_neg n]
            have : decide (a ≥ (l.length : Int)) = true := decide_eq_true (by omega)
            rw [this]; rfl
        · simp only [e3, decide_eq_false c1, decide_eq_false c2, Bool.not_false, Bool.false_eq_true, if_false, if_true]
          rfl

/-- A source within bounds. -/
def St (b s1 s2 : Int) : Prop := 0 ≤ s1 ∧ s1 ≤ b ∧ 0 ≤ s2 ∧ s2 ≤ 2147483647
/-- A drawn list, of at most L instructions, the source within b. -/
def Ret (x : Option (List Ins × Int × Int)) (L : Nat) (b : Int) : Prop := ∃ l s1 s2, x = some (l, s1, s2) ∧ l.length ≤ L ∧ St b s1 s2
theorem Ret.more {x : Option (List Ins × Int × Int)} {L L' : Nat} {b b' : Int} (h : Ret x L b) (hL : L ≤ L') (hb : b ≤ b') : Ret x L' b' := by
  obtain ⟨l, s1, s2, e, h1, h2⟩ := h
  exact ⟨l, s1, s2, e, by omega, h2.1, by have := h2.2.1; omega, h2.2.2⟩
theorem Ret.done {l : List Ins} {s1 s2 : Int} {L : Nat} {b c : Int} (hl : l.length ≤ L) (hs : St b s1 s2) (hb : b ≤ c) : Ret (some (l, s1, s2)) L c :=
  ⟨l, s1, s2, rfl, hl, hs.1, by have := hs.2.1; omega, hs.2.2⟩
theorem Ret.bind {x : Option (List Ins × Int × Int)} {f : List Ins × Int × Int → Option (List Ins × Int × Int)} {L L' : Nat} {b c : Int} (h : Ret x L b) (k : ∀ l s1 s2, l.length ≤ L → St b s1 s2 → Ret (f (l, s1, s2)) L' c) : Ret (x.bind f) L' c := by
  obtain ⟨l, s1, s2, rfl, h1, h2⟩ := h
  exact k l s1 s2 h1 h2
theorem nx {l : List Int} (hw : ∀ x ∈ l, (Lit.int .u8 x).wf = true) {n s1 s2 b c : Int} {f : Int × Int × Int → Option (List Ins × Int × Int)} {L : Nat} (hs : St b s1 s2) (hb : b ≤ 900000) (hn : 1 ≤ n) (k : ∀ v t1 t2, 0 ≤ v → v < n → St (b + 3) t1 t2 → Ret (f (v, t1, t2)) L c) : Ret ((spec_l00Src_next.f l s1 s2 n).bind f) L c := by
  obtain ⟨v, a, s, e, h1, h2, h3⟩ := next_some hw n s1 s2 hn ⟨hs.1, by have := hs.2.1; omega⟩ hs.2.2
  rw [e]
  exact k v a s h1.1 h1.2 ⟨by have := hs.1; omega, by have := hs.2.1; omega, h3⟩
theorem ch {l : List Int} (hw : ∀ x ∈ l, (Lit.int .u8 x).wf = true) {n s1 s2 b c : Int} {f : Bool × Int × Int → Option (List Ins × Int × Int)} {L : Nat} (hs : St b s1 s2) (hb : b ≤ 900000) (hn : 1 ≤ n) (k : ∀ v t1 t2, St (b + 3) t1 t2 → Ret (f (v, t1, t2)) L c) : Ret ((spec_l00Src_chance.f l s1 s2 n).bind f) L c := by
  obtain ⟨v, a, s, e, h2, h3⟩ := chance_some hw n s1 s2 hn ⟨hs.1, by have := hs.2.1; omega⟩ hs.2.2
  rw [e]
  exact k v a s ⟨by have := hs.1; omega, by have := hs.2.1; omega, h3⟩
theorem vl {l : List Int} (hw : ∀ x ∈ l, (Lit.int .u8 x).wf = true) {s1 s2 b c : Int} {f : Int × Int × Int → Option (List Ins × Int × Int)} {L : Nat} (hs : St b s1 s2) (hb : b ≤ 900000) (k : ∀ v t1 t2, St (b + 7) t1 t2 → Ret (f (v, t1, t2)) L c) : Ret ((spec_l00Src_value.f l s1 s2).bind f) L c := by
  obtain ⟨v, a, s, e, h1, h2, h3⟩ := value_some hw s1 s2 ⟨hs.1, by have := hs.2.1; omega⟩ hs.2.2
  rw [e]
  exact k v a s ⟨by have := hs.1; omega, by have := hs.2.1; omega, h3⟩
theorem cat_from (ls : List (List Ins)) (hl : ls.length ≤ 100) : ∀ (d k i : Nat) (acc : List Ins), ls.length - i ≤ d → d < k → i ≤ ls.length → acc.length + ((ls.drop i).flatten).length ≤ 1000000 → spec_l04Cat.l0 k ls acc (i : Int) = some (acc ++ (ls.drop i).flatten) := by
  intro d
  induction d with
  | zero =>
    intro k i acc hd hk hi ha
    obtain ⟨k, rfl⟩ : ∃ m, k = m + 1 := ⟨k - 1, by omega⟩
    simp only [spec_l04Cat.l0]
    rw [if_neg (by omega), List.drop_eq_nil_of_le (by omega)]
    simp
  | succ d ih =>
    intro k i acc hd hk hi ha
    obtain ⟨k, rfl⟩ : ∃ m, k = m + 1 := ⟨k - 1, by omega⟩
    simp only [spec_l04Cat.l0]
    by_cases h : i < ls.length
    · have e : rd_L3 ls (i : Int) = ls[i] := by simp [rd_L3, List.getD_eq_getElem?_getD, h]
      have e2 : ls.drop i = ls[i] :: ls.drop (i + 1) := List.drop_eq_getElem_cons h
      rw [e2] at ha ⊢
      simp only [List.flatten_cons, List.length_append] at ha
      have hw : wrap64 ((i : Int) + 1) = ((i + 1 : Nat) : Int) := by unfold wrap64; omega
      rw [if_pos (by omega), if_pos (by omega), e, if_pos (by omega), hw, ih k (i + 1) _ (by omega) (by omega) (by omega) (by rw [List.length_append]; omega)]
      rw [List.flatten_cons, List.append_assoc]
    · rw [if_neg (by omega), List.drop_eq_nil_of_le (by omega)]
      simp
theorem ct {k : Nat} {ls : List (List Ins)} {f : List Ins → Option (List Ins × Int × Int)} {L : Nat} {c : Int} (hk : 10 ≤ k) (hl : ls.length ≤ 8) (hs : ls.flatten.length ≤ 1000000) (h : ∀ out, out.length = ls.flatten.length → Ret (f out) L c) : Ret ((spec_l04Cat.f k ls).bind f) L c := by
  have := cat_from ls (by omega) ls.length k 0 [] (by omega) (by omega) (by omega) (by simpa using hs)
  unfold spec_l04Cat.f
  rw [show ((0 : Nat) : Int) = 0 from rfl] at this
  rw [this]
  exact h _ (by simp)
def CI (K : Nat) (d : Int) (L : Nat) (c : Int) : Prop := ∀ (k : Nat), K ≤ k → ∀ (l kinds : List Int), (∀ x ∈ l, (Lit.int .u8 x).wf = true) → (∀ x ∈ kinds, 1 ≤ x ∧ x ≤ 4) → kinds.length ≤ 10 → ∀ (b s1 s2 : Int), St b s1 s2 → b + c ≤ 800000 → Ret (spec_l00Src_wantInt.f k l s1 s2 kinds d) L (b + c)
def CB (K : Nat) (d : Int) (L : Nat) (c : Int) : Prop := ∀ (k : Nat), K ≤ k → ∀ (l kinds : List Int), (∀ x ∈ l, (Lit.int .u8 x).wf = true) → (∀ x ∈ kinds, 1 ≤ x ∧ x ≤ 4) → kinds.length ≤ 10 → ∀ (b s1 s2 : Int), St b s1 s2 → b + c ≤ 800000 → Ret (spec_l00Src_wantBool.f k l s1 s2 kinds d) L (b + c)
/-- The leaves. -/
theorem leafI (k : Nat) (l kinds : List Int) (hw : ∀ x ∈ l, (Lit.int .u8 x).wf = true) (d b s1 s2 : Int) (hs : St b s1 s2) (hb : b ≤ 800010) : Ret (spec_l00Src_wantInt.j0 (k + 1) kinds d true l s1 s2) 10 (b + 20) := by
  simp only [spec_l00Src_wantInt.j0, if_true, spec_l04OpA.f, Option.bind_some]
  refine nx hw hs (by omega) (by omega) (fun v t1 t2 v0 v1 hs => ?_)
  simp only
  by_cases h0 : v = 0
  · rw [if_pos h0]
    exact vl hw hs (by omega) (fun v t1 t2 hs => Ret.done (by simp) hs (by omega))
  · rw [if_neg h0]
    by_cases h1 : v = 1
    · rw [if_pos h1]
      by_cases h2 : (kinds.length : Int) > 0
      · rw [if_pos h2]
        exact nx hw hs (by omega) (by omega) (fun v t1 t2 _ _ hs => Ret.done (by simp) hs (by omega))
      · rw [if_neg h2]
        exact nx hw hs (by omega) (by omega) (fun v t1 t2 _ _ hs => Ret.done (by simp) hs (by omega))
    · rw [if_neg h1]
      exact nx hw hs (by omega) (by omega) (fun v t1 t2 _ _ hs => Ret.done (by simp) hs (by omega))
theorem leafB (k : Nat) (l kinds : List Int) (hw : ∀ x ∈ l, (Lit.int .u8 x).wf = true) (d b s1 s2 : Int) (hs : St b s1 s2) (hb : b ≤ 800010) : Ret (spec_l00Src_wantBool.j0 (k + 1) kinds d true l s1 s2) 10 (b + 20) := by
  simp only [spec_l00Src_wantBool.j0, if_true, spec_l04OpA.f, Option.bind_some]
  refine nx hw hs (by omega) (by omega) (fun v t1 t2 v0 v1 hs => ?_)
  simp only
  by_cases h0 : v = 0
  · rw [if_pos h0]
    exact nx hw hs (by omega) (by omega) (fun v t1 t2 _ _ hs => Ret.done (by simp) hs (by omega))
  · rw [if_neg h0]
    by_cases h1 : v = 1
    · rw [if_pos h1]
      exact nx hw hs (by omega) (by omega) (fun v t1 t2 _ _ hs => Ret.done (by simp) hs (by omega))
    · rw [if_neg h1]
      exact nx hw hs (by omega) (by omega) (fun v t1 t2 _ _ hs => Ret.done (by simp) hs (by omega))
theorem CI0 : CI 2 0 10 30 := by
  intro k hk l kinds hw hk1 hk2 b s1 s2 hs hb
  obtain ⟨k, rfl⟩ : ∃ m, k = m + 1 + 1 := ⟨k - 2, by omega⟩
  rw [spec_l00Src_wantInt.f, if_pos rfl]
  exact (leafI k l kinds hw 0 b s1 s2 hs (by omega)).more (by omega) (by omega)
theorem CB0 : CB 2 0 10 30 := by
  intro k hk l kinds hw hk1 hk2 b s1 s2 hs hb
  obtain ⟨k, rfl⟩ : ∃ m, k = m + 1 + 1 := ⟨k - 2, by omega⟩
  rw [spec_l00Src_wantBool.f, if_pos rfl]
  exact (leafB k l kinds hw 0 b s1 s2 hs (by omega)).more (by omega) (by omega)
theorem CIs (K : Nat) (d : Int) (L : Nat) (c : Int) (hd : 1 ≤ d ∧ d ≤ 2) (hL : L ≤ 100) (hc : 0 ≤ c ∧ c ≤ 1000) (h : CI K (d - 1) L c) : CI (K + 20) d (L + 40) (c + 150) := by
  intro k hk l kinds hw hk1 hk2 b s1 s2 hs hb
  obtain ⟨k, rfl⟩ : ∃ m, k = m + 1 + 1 := ⟨k - 2, by omega⟩
  rw [spec_l00Src_wantInt.f, if_neg (by omega)]
  refine ch hw hs (by omega) (by omega) (fun v t1 t2 hs => ?_)
  simp only
  cases v with
  | true => exact (leafI k l kinds hw d _ t1 t2 hs (by omega)).more (by omega) (by omega)
  | false =>
    rw [spec_l00Src_wantInt.j0, if_neg (by decide)]
    refine ch hw hs (by omega) (by omega) (fun v t1 t2 hs => ?_)
    have e1 : wrap64 (d - 1) = d - 1 := by unfold wrap64; omega
    simp only [e1, spec_l04Op.f, Option.bind_some]
    cases v with
    | true =>
      rw [if_pos rfl]
      refine (CB0 k (by omega) l kinds hw hk1 hk2 _ _ _ hs (by omega)).bind (fun x1 t1 t2 l1 hs => ?_)
      refine (CI0 k (by omega) l kinds hw hk1 hk2 _ _ _ hs (by omega)).bind (fun x2 t1 t2 l2 hs => ?_)
      refine (CI0 k (by omega) l kinds hw hk1 hk2 _ _ _ hs (by omega)).bind (fun x3 t1 t2 l3 hs => ?_)
      refine ct (by omega) (by simp) (by simp; omega) (fun out ho => ?_)
      exact Ret.done (by simp at ho; omega) hs (by omega)
    | false =>
      rw [if_neg (by decide)]
      refine (h k (by omega) l kinds hw hk1 hk2 _ _ _ hs (by omega)).bind (fun x1 t1 t2 l1 hs => ?_)
      refine (CI0 k (by omega) l kinds hw hk1 hk2 _ _ _ hs (by omega)).bind (fun x2 t1 t2 l2 hs => ?_)
      refine nx hw hs (by omega) (by omega) (fun v t1 t2 _ _ hs => ?_)
      refine ct (by omega) (by simp) (by simp; omega) (fun out ho => ?_)
      exact Ret.done (by simp at ho; omega) hs (by omega)
theorem takes_ok (x : Int) (h : 1 ≤ x ∧ x ≤ 4) : ∃ t, spec_l03Takes.f x = some t ∧ t.size ≤ 3 := by
  have h4 : x = 1 ∨ x = 2 ∨ x = 3 ∨ x = 4 := by omega
  rcases h4 with rfl | rfl | rfl | rfl
  · exact ⟨(⟨#[98, 105]⟩ : ByteArray), by kernel_rfl, by decide⟩
  · exact ⟨(⟨#[98, 98, 105]⟩ : ByteArray), by kernel_rfl, by decide⟩
  · exact ⟨(⟨#[98]⟩ : ByteArray), by kernel_rfl, by decide⟩
  · exact ⟨(⟨#[98, 98]⟩ : ByteArray), by kernel_rfl, by decide⟩
theorem takesLoop (l : List Int) (hw : ∀ x ∈ l, (Lit.int .u8 x).wf = true) (x7 : Int) (t : ByteArray) (ht : t.size ≤ 3) : ∀ (d k i : Nat) (acc : List Ins) (b s1 s2 : Int), t.size - i ≤ d → d < k → i ≤ t.size → acc.length ≤ i → St b s1 s2 → b + 3 * d ≤ 800200 → Ret (spec_l00Src_wantBool.l0 k x7 t acc (i : Int) l s1 s2) 10 (b + 3 * d) := by
  intro d
  induction d with
  | zero =>
    intro k i acc b s1 s2 hd hk hi ha hs hb
    obtain ⟨k, rfl⟩ : ∃ m, k = m + 1 := ⟨k - 1, by omega⟩
    rw [spec_l00Src_wantBool.l0, if_neg (by omega), if_pos (by omega)]
    exact Ret.done (by simp; omega) hs (by omega)
  | succ d ih =>
    intro k i acc b s1 s2 hd hk hi ha hs hb
    obtain ⟨k, rfl⟩ : ∃ m, k = m + 1 := ⟨k - 1, by omega⟩
    rw [spec_l00Src_wantBool.l0]
    by_cases h : i < t.size
    · have hwr : wrap64 ((i : Int) + 1) = ((i + 1 : Nat) : Int) := by unfold wrap64; omega
      rw [if_pos (by omega), if_pos (by omega)]
      simp only [spec_l04OpA.f, Option.bind_some, hwr]
      split
      · refine nx hw hs (by omega) (by omega) (fun v t1 t2 _ _ hs => ?_)
        simp only
        rw [if_pos (by simp; omega)]
        exact (ih k (i + 1) _ _ _ _ (by omega) (by omega) (by omega) (by simp; omega) hs (by omega)).more (Nat.le_refl _) (by omega)
      · refine nx hw hs (by omega) (by omega) (fun v t1 t2 _ _ hs => ?_)
        simp only
        rw [if_pos (by simp; omega)]
        exact (ih k (i + 1) _ _ _ _ (by omega) (by omega) (by omega) (by simp; omega) hs (by omega)).more (Nat.le_refl _) (by omega)
    · rw [if_neg (by omega), if_pos (by omega)]
      exact Ret.done (by simp; omega) hs (by omega)
theorem CBs (K : Nat) (d : Int) (L : Nat) (c : Int) (hd : 1 ≤ d ∧ d ≤ 2) (hL : L ≤ 100) (hc : 0 ≤ c ∧ c ≤ 1000) (h : CB K (d - 1) L c) : CB (K + 20) d (L + 40) (c + 150) := by
  intro k hk l kinds hw hk1 hk2 b s1 s2 hs hb
  obtain ⟨k, rfl⟩ : ∃ m, k = m + 1 + 1 + 1 := ⟨k - 3, by omega⟩
  have e1 : wrap64 (d - 1) = d - 1 := by unfold wrap64; omega
  have j2 : ∀ (b t1 t2 : Int), St b t1 t2 → b + (c + 100) ≤ 800000 → Ret (spec_l00Src_wantBool.j2 (k + 1) kinds d l t1 t2) (L + 40) (b + (c + 100)) := by
    intro b t1 t2 hs hb
    rw [spec_l00Src_wantBool.j2]
    simp only [e1, spec_l04Op.f, Option.bind_some]
    refine (h k (by omega) l kinds hw hk1 hk2 b t1 t2 hs (by omega)).bind (fun x1 t1 t2 l1 hs => ?_)
    refine (CB0 k (by omega) l kinds hw hk1 hk2 _ _ _ hs (by omega)).bind (fun x2 t1 t2 l2 hs => ?_)
    refine nx hw hs (by omega) (by omega) (fun v t1 t2 _ _ hs => ?_)
    refine ct (by omega) (by simp) (by simp; omega) (fun out ho => ?_)
    exact Ret.done (by simp at ho; omega) hs (by omega)
  rw [spec_l00Src_wantBool.f, if_neg (by omega)]
  refine ch hw hs (by omega) (by omega) (fun v t1 t2 hs => ?_)
  simp only
  cases v with
  | true => exact (leafB (k + 1) l kinds hw d _ t1 t2 hs (by omega)).more (by omega) (by omega)
  | false =>
    rw [spec_l00Src_wantBool.j0, if_neg (by decide)]
    refine nx hw hs (by omega) (by omega) (fun v t1 t2 _ _ hs => ?_)
    simp only [e1, spec_l04Op.f, Option.bind_some]
    by_cases h0 : v = 0
    · rw [if_pos h0]
      refine (CI0 (k + 1) (by omega) l kinds hw hk1 hk2 _ _ _ hs (by omega)).bind (fun x1 t1 t2 l1 hs => ?_)
      refine (CI0 (k + 1) (by omega) l kinds hw hk1 hk2 _ _ _ hs (by omega)).bind (fun x2 t1 t2 l2 hs => ?_)
      refine nx hw hs (by omega) (by omega) (fun v t1 t2 _ _ hs => ?_)
      refine ct (by omega) (by simp) (by simp; omega) (fun out ho => ?_)
      exact Ret.done (by simp at ho; omega) hs (by omega)
    · rw [if_neg h0]
      by_cases h1 : v = 1
      · rw [if_pos h1]
        refine (h (k + 1) (by omega) l kinds hw hk1 hk2 _ _ _ hs (by omega)).bind (fun x1 t1 t2 l1 hs => ?_)
        refine ct (by omega) (by simp) (by simp; omega) (fun out ho => ?_)
        exact Ret.done (by simp at ho; omega) hs (by omega)
      · rw [if_neg h1]
        by_cases h2 : v = 2
        · rw [if_pos h2]
          by_cases h3 : (kinds.length : Int) > 0
          · rw [if_pos h3]
            refine nx hw hs (by omega) (by omega) (fun v t1 t2 v0 v1 hs => ?_)
            simp only
            rw [if_pos v0, if_pos v1]
            have hm : rd kinds v ∈ kinds := by
              unfold rd
              rw [List.getD_eq_getElem?_getD, List.getElem?_eq_getElem (by omega)]
              exact List.getElem_mem _
            obtain ⟨t, et, ht⟩ := takes_ok _ (hk1 _ hm)
            rw [et]
            simp only [Option.bind_some]
            exact (takesLoop l hw v t ht t.size (k + 1) 0 [] _ t1 t2 (by omega) (by omega) (by omega) (by simp) hs (by omega)).more (by omega) (by omega)
          · rw [if_neg h3]
            exact (j2 _ t1 t2 hs (by omega)).more (by omega) (by omega)
        · rw [if_neg h2]
          exact (j2 _ t1 t2 hs (by omega)).more (by omega) (by omega)
theorem CI1 : CI 22 1 50 180 := CIs 2 1 10 30 (by omega) (by omega) (by omega) CI0
theorem CI2 : CI 42 2 90 330 := CIs 22 2 50 180 (by omega) (by omega) (by omega) CI1
theorem CB1 : CB 22 1 50 180 := CBs 2 1 10 30 (by omega) (by omega) (by omega) CB0
theorem CB2 : CB 42 2 90 330 := CBs 22 2 50 180 (by omega) (by omega) (by omega) CB1
def CS (K : Nat) (d : Int) (L : Nat) (c : Int) : Prop := ∀ (k : Nat), K ≤ k → ∀ (l kinds : List Int), (∀ x ∈ l, (Lit.int .u8 x).wf = true) → (∀ x ∈ kinds, 1 ≤ x ∧ x ≤ 4) → kinds.length ≤ 10 → ∀ (b s1 s2 : Int), St b s1 s2 → b + c ≤ 800000 → Ret (spec_l00Src_statement.f k l s1 s2 kinds 1 d) L (b + c)
theorem j2S (k : Nat) (hk : 10 ≤ k) (l : List Int) (b t1 t2 : Int) (hs : St b t1 t2) : Ret (spec_l00Src_statement.j2 (k + 1) l t1 t2) 10 b := by
  rw [spec_l00Src_statement.j2]
  simp only [spec_l04Op.f, spec_l04OpA.f, Option.bind_some]
  refine ct (by omega) (by simp) (by simp) (fun out ho => ?_)
  exact Ret.done (by simp at ho; omega) hs (by omega)
/-- A statement, of what its inner ones are. -/
theorem stS (d : Int) (hd : 0 ≤ d ∧ d ≤ 2) (K : Nat) (L : Nat) (c : Int) (hL : L ≤ 1000) (hc : 0 ≤ c ∧ c ≤ 10000) (h : d > 0 → CS K (d - 1) L c) : CS (K + 60) d (2 * L + 200) (2 * c + 500) := by
  intro k hk l kinds hw hk1 hk2 b s1 s2 hs hb
  obtain ⟨k, rfl⟩ : ∃ m, k = m + 1 + 1 + 1 + 1 := ⟨k - 4, by omega⟩
  have e1 : wrap64 (d - 1) = d - 1 := by unfold wrap64; omega
  rw [spec_l00Src_statement.f]
  refine nx hw hs (by omega) (by omega) (fun v t1 t2 v0 v1 hs => ?_)
  simp only
  have jb : ∀ q, Ret (spec_l00Src_statement.j1 (k + 1 + 1) kinds 1 d v q l t1 t2) (2 * L + 200) (b + (2 * c + 500)) := by
    intro q
    rw [spec_l00Src_statement.j1]
    simp only [e1, spec_l04Op.f, spec_l04OpA.f, Option.bind_some]
    have j2 : ∀ (b' : Int), St b' t1 t2 → b' ≤ b + 3 → Ret (spec_l00Src_statement.j2 (k + 1) l t1 t2) (2 * L + 200) (b + (2 * c + 500)) := fun b' hs h' => (j2S k (by omega) l b' t1 t2 hs).more (by omega) (by omega)
    split
    · refine (CB2 (k + 1) (by omega) l kinds hw hk1 hk2 _ _ _ hs (by omega)).bind (fun x1 t1 t2 l1 hs => ?_)
      refine nx hw hs (by omega) (by omega) (fun v t1 t2 v0 v1 hs => ?_)
      simp only
      rw [if_pos v0, if_pos (by simp; omega)]
      refine nx hw hs (by omega) (by omega) (fun v t1 t2 v0 v1 hs => ?_)
      refine ct (by omega) (by simp) (by simp; omega) (fun out ho => ?_)
      exact Ret.done (by simp at ho; omega) hs (by omega)
    · split
      · exact Ret.done (by show 1 ≤ _; omega) hs (by omega)
      · split
        · rw [if_pos (by omega)]
          refine nx hw hs (by omega) (by omega) (fun v t1 t2 v0 v1 hs => ?_)
          exact Ret.done (by show 1 ≤ _; omega) hs (by omega)
        · split
          · by_cases hd0 : d > 0
            · rw [if_pos hd0]
              have h := h hd0
              refine (CB1 (k + 1) (by omega) l kinds hw hk1 hk2 _ _ _ hs (by omega)).bind (fun x1 t1 t2 l1 hs => ?_)
              refine (h (k + 1) (by omega) l kinds hw hk1 hk2 _ _ _ hs (by omega)).bind (fun x2 t1 t2 l2 hs => ?_)
              refine ct (by omega) (by simp) (by simp; omega) (fun o1 h1 => ?_)
              refine ch hw hs (by omega) (by omega) (fun v t1 t2 hs => ?_)
              simp only
              split
              · refine (h (k + 1) (by omega) l kinds hw hk1 hk2 _ _ _ hs (by omega)).bind (fun x3 t1 t2 l3 hs => ?_)
                refine ct (by omega) (by simp) (by simp at h1 ⊢; omega) (fun o2 h2 => ?_)
                refine ct (by omega) (by simp) (by simp at h1 h2 ⊢; omega) (fun o3 h3 => ?_)
                exact Ret.done (by simp at h1 h2 h3; omega) hs (by omega)
              · refine ct (by omega) (by simp) (by simp at h1 ⊢; omega) (fun o2 h2 => ?_)
                exact Ret.done (by simp at h1 h2; omega) hs (by omega)
            · rw [if_neg hd0]
              exact j2 _ hs (by omega)
          · split
            · by_cases hd0 : d > 0
              · rw [if_pos hd0]
                have h := h hd0
                refine nx hw hs (by omega) (by omega) (fun v t1 t2 v0 v1 hs => ?_)
                refine (h (k + 1) (by omega) l kinds hw hk1 hk2 _ _ _ hs (by omega)).bind (fun x2 t1 t2 l2 hs => ?_)
                refine ct (by omega) (by simp) (by simp; omega) (fun o1 h1 => ?_)
                exact Ret.done (by simp at h1; omega) hs (by omega)
              · rw [if_neg hd0]
                exact j2 _ hs (by omega)
            · exact j2 _ hs (by omega)
  have ja : ∀ q, Ret (spec_l00Src_statement.j0 (k + 1 + 1 + 1) kinds 1 d v q l t1 t2) (2 * L + 200) (b + (2 * c + 500)) := by
    intro q
    rw [spec_l00Src_statement.j0]
    simp only [spec_l04OpA.f, Option.bind_some]
    split
    · refine (CI2 (k + 1 + 1) (by omega) l kinds hw hk1 hk2 _ _ _ hs (by omega)).bind (fun x1 t1 t2 l1 hs => ?_)
      refine nx hw hs (by omega) (by omega) (fun v t1 t2 v0 v1 hs => ?_)
      refine ct (by omega) (by simp) (by simp; omega) (fun out ho => ?_)
      exact Ret.done (by simp at ho; omega) hs (by omega)
    · split
      · exact jb _
      · exact jb _
  split
  · exact ja _
  · exact ja _
theorem CS0 : CS 60 0 200 500 := stS 0 (by omega) 0 0 0 (by omega) (by omega) (fun h => absurd h (by omega))
theorem CS1 : CS 120 1 600 1500 := stS 1 (by omega) 60 200 500 (by omega) (by omega) (fun _ => CS0)
theorem CS2 : CS 180 2 1400 3500 := stS 2 (by omega) 120 600 1500 (by omega) (by omega) (fun _ => CS1)
theorem right_from (l kinds : List Int) (hw : ∀ x ∈ l, (Lit.int .u8 x).wf = true) (hk1 : ∀ x ∈ kinds, 1 ≤ x ∧ x ≤ 4) (hk2 : kinds.length ≤ 10) : ∀ (d k : Nat) (i : Int) (out : List Ins) (b s1 s2 : Int), i ≤ d → d + 181 ≤ k → 0 ≤ i → out.length ≤ 40 → St b s1 s2 → b + 3500 * d ≤ 700000 → Ret (spec_l00Src_right.l0 k kinds 1 out i l s1 s2) 40 (b + 3500 * d) := by
  intro d
  induction d with
  | zero =>
    intro k i out b s1 s2 hi hk h0 ho hs hb
    obtain ⟨k, rfl⟩ : ∃ m, k = m + 1 := ⟨k - 1, by omega⟩
    simp only [spec_l00Src_right.l0]
    rw [if_neg (by omega)]
    exact Ret.done ho hs (by omega)
  | succ d ih =>
    intro k i out b s1 s2 hi hk h0 ho hs hb
    have hb0 : 0 ≤ b := by have := hs.1; have := hs.2.1; omega
    obtain ⟨k, rfl⟩ : ∃ m, k = m + 1 := ⟨k - 1, by omega⟩
    simp only [spec_l00Src_right.l0]
    by_cases h : i > 0
    · rw [if_pos h]
      refine (CS2 k (by omega) l kinds hw hk1 hk2 _ _ _ hs (by omega)).bind (fun x t1 t2 l1 hs => ?_)
      simp only
      have hwr : wrap64 ((out.length : Int) + (x.length : Int)) = (out.length : Int) + (x.length : Int) := by unfold wrap64; omega
      have hwi : wrap64 (i - 1) = i - 1 := by unfold wrap64; omega
      rw [hwr, hwi]
      by_cases c : (out.length : Int) + (x.length : Int) > 40
      · rw [if_pos c]
        exact Ret.done ho hs (by omega)
      · rw [if_neg c, if_pos (by omega)]
        exact (ih k (i - 1) _ _ _ _ (by omega) (by omega) (by omega) (by simp; omega) hs (by omega)).more (Nat.le_refl _) (by omega)
    · rw [if_neg h]
      exact Ret.done ho hs (by omega)
/-- Code that a verifier takes: some list. -/
theorem right_some (l kinds : List Int) (hl : l.length ≤ 1048576) (hw : ∀ x ∈ l, (Lit.int .u8 x).wf = true) (hk1 : ∀ x ∈ kinds, 1 ≤ x ∧ x ≤ 4) (hk2 : kinds.length ≤ 10) (k : Nat) (hk : 200 ≤ k) : ∃ g, spec_RightCode.f k l kinds 1 = some g ∧ g.length ≤ 40 := by
  have hs : St 0 0 ((l.length : Int) % 1000) := ⟨by omega, by omega, by omega, by omega⟩
  have : Ret (spec_l00Src_right.f k l 0 ((l.length : Int) % 1000) kinds 1) 40 100000 := by
    unfold spec_l00Src_right.f
    refine nx hw hs (by omega) (by omega) (fun v t1 t2 v0 v1 hs => ?_)
    simp only
    have hwr : wrap64 (1 + v) = 1 + v := by unfold wrap64; omega
    rw [hwr]
    exact (right_from l kinds hw hk1 hk2 5 k (1 + v) [] _ t1 t2 (by omega) (by omega) (by omega) (by simp) hs (by omega)).more (Nat.le_refl _) (by omega)
  obtain ⟨g, s1, s2, e, hg, _⟩ := this
  refine ⟨g, ?_, hg⟩
  unfold spec_RightCode.f spec_l00Source.f
  simp only [Option.bind_some, e]
theorem kinds_from (l : List Int) (hw : ∀ x ∈ l, (Lit.int .u8 x).wf = true) : ∀ (d k : Nat) (i : Int) (out : List Int) (b s1 s2 : Int), i ≤ d → d < k → 0 ≤ i → out.length + d ≤ 10 → (∀ x ∈ out, 1 ≤ x ∧ x ≤ 4) → St b s1 s2 → b + 3 * d ≤ 800000 → ∃ ks t1 t2, spec_l00Src_kinds.l0 k out i l s1 s2 = some (ks, t1, t2) ∧ ks.length ≤ 10 ∧ ∀ x ∈ ks, 1 ≤ x ∧ x ≤ 4 := by
  intro d
  induction d with
  | zero =>
    intro k i out b s1 s2 hi hk h0 ho hx hs hb
    obtain ⟨k, rfl⟩ : ∃ m, k = m + 1 := ⟨k - 1, by omega⟩
    simp only [spec_l00Src_kinds.l0]
    rw [if_neg (by omega)]
    exact ⟨_, _, _, rfl, by omega, hx⟩
  | succ d ih =>
    intro k i out b s1 s2 hi hk h0 ho hx hs hb
    obtain ⟨k, rfl⟩ : ∃ m, k = m + 1 := ⟨k - 1, by omega⟩
    simp only [spec_l00Src_kinds.l0]
    by_cases h : i > 0
    · obtain ⟨v, a, s, e, h1, h2, h3⟩ := next_some hw 4 s1 s2 (by omega) ⟨hs.1, by have := hs.2.1; omega⟩ hs.2.2
      have hwi : wrap64 (i - 1) = i - 1 := by unfold wrap64; omega
      have hwv : wrap64 (1 + v) = 1 + v := by unfold wrap64; omega
      rw [if_pos h, e]
      simp only [Option.bind_some, hwi, hwv]
      rw [if_pos (by omega)]
      exact ih k (i - 1) _ (b + 3) a s (by omega) (by omega) (by omega) (by simp; omega) (fun x hx' => by
        rcases List.mem_append.1 hx' with hx' | hx'
        · exact hx x hx'
        · obtain rfl := List.mem_singleton.1 hx'; omega) ⟨by have := hs.1; omega, by have := hs.2.1; omega, h3⟩ (by omega)
    · rw [if_neg h]
      exact ⟨_, _, _, rfl, by omega, hx⟩
theorem kinds_some (l : List Int) (hl : l.length ≤ 1048576) (hw : ∀ x ∈ l, (Lit.int .u8 x).wf = true) (k : Nat) (hk : 10 ≤ k) : ∃ ks, spec_KindsDrawn.f k l = some ks ∧ ks.length ≤ 10 ∧ ∀ x ∈ ks, 1 ≤ x ∧ x ≤ 4 := by
  have hs : St 0 0 ((l.length : Int) % 1000) := ⟨by omega, by omega, by omega, by omega⟩
  obtain ⟨v, a, s, e, h1, h2, h3⟩ := next_some hw 5 0 ((l.length : Int) % 1000) (by omega) ⟨by omega, by omega⟩ ⟨by omega, by omega⟩
  obtain ⟨ks, t1, t2, e2, h4, h5⟩ := kinds_from l hw 4 k v [] 3 a s (by omega) (by omega) (by omega) (by simp) (by simp) ⟨by omega, by omega, h3⟩ (by omega)
  refine ⟨ks, ?_, h4, h5⟩
  unfold spec_KindsDrawn.f spec_l00Source.f spec_l00Src_kinds.f
  simp only [Option.bind_some, e, e2]

/-- What operation stands at a place. -/
def opAt (l : List Ins) (i : Nat) : Int := (rd_T30 l (i : Int)).f0
/-- How deep the code is ahead of a place. -/
def dep (l : List Ins) : Nat → Int
  | 0 => 0
  | i + 1 => dep l i + (if opAt l i = 21 ∨ opAt l i = 24 then 1 else if opAt l i = 23 then -1 else 0)
/-- What is said of a structure's start, middle and end. -/
def Mt (l : List Ins) (a : Nat) (o e : Int) : Prop := ∃ z : Nat, e = (z : Int) ∧ a < z ∧ z < l.length ∧ opAt l z = 23 ∧ dep l z = dep l a + 1 ∧ (∀ j, a < j → j ≤ z → dep l a + 1 ≤ dep l j) ∧ (o = 0 ∨ ∃ m : Nat, o = (m : Int) ∧ a < m ∧ m < z ∧ opAt l m = 22)
theorem match_deep (l : List Ins) (hl : l.length ≤ 4096) : ∀ (k : Nat) (dp mid : Int) (i : Nat) (r : Int × Int × Bool), 0 ≤ dp → dp ≤ i → i ≤ l.length → spec_l04Match.l0 k l dp mid (i : Int) = some r → r.2.2 = true →
    ∃ z : Nat, r.2.1 = (z : Int) ∧ i ≤ z ∧ z < l.length ∧ opAt l z = 23 ∧ dep l z = dep l i - dp ∧ (∀ j, i < j → j ≤ z → dep l i - dp ≤ dep l j) ∧ (r.1 = mid ∨ ∃ m : Nat, r.1 = (m : Int) ∧ i ≤ m ∧ m < z ∧ opAt l m = 22) := by
  intro k
  induction k using Nat.strongRecOn with
  | ind k ih =>
    intro dp mid i r h0 h1 h2 h ht
    cases k with
    | zero => simp only [spec_l04Match.l0] at h; cases h
    | succ k =>
      simp only [spec_l04Match.l0] at h
      by_cases hi : (i : Int) < (l.length : Int)
      · rw [if_pos hi, if_pos (by omega)] at h
        have hw : wrap64 ((i : Int) + 1) = ((i + 1 : Nat) : Int) := by unfold wrap64; omega
        have hd : wrap64 (dp + 1) = dp + 1 := by unfold wrap64; omega
        have hd4 : wrap64 (dp - 1) = dp - 1 := by unfold wrap64; omega
        have ho : (rd_T30 l (i : Int)).f0 = opAt l i := rfl
        have hdep : dep l (i + 1) = dep l i + (if opAt l i = 21 ∨ opAt l i = 24 then 1 else if opAt l i = 23 then -1 else 0) := rfl
        have nx : ∀ k', k' < k + 1 → ∀ (dp' mid' : Int), 0 ≤ dp' → dp' ≤ i + 1 → dep l (i + 1) - dp' = dep l i - dp → (mid' = mid ∨ (mid' = (i : Int) ∧ opAt l i = 22)) → dep l i - dp ≤ dep l (i + 1) → spec_l04Match.l0 k' l dp' mid' ((i + 1 : Nat) : Int) = some r →
            ∃ z : Nat, r.2.1 = (z : Int) ∧ i ≤ z ∧ z < l.length ∧ opAt l z = 23 ∧ dep l z = dep l i - dp ∧ (∀ j, i < j → j ≤ z → dep l i - dp ≤ dep l j) ∧ (r.1 = mid ∨ ∃ m : Nat, r.1 = (m : Int) ∧ i ≤ m ∧ m < z ∧ opAt l m = 22) := by
          intro k' hk dp' mid' a1 a2 a3 a4 a5 h'
          obtain ⟨z, e1, e2, e3, e4, e5, e6, e7⟩ := ih k' hk dp' mid' (i + 1) r a1 (by omega) (by omega) h' ht
          refine ⟨z, e1, by omega, e3, e4, by omega, fun j j1 j2 => ?_, ?_⟩
          · by_cases hj : j = i + 1
            · subst hj; exact a5
            · have := e6 j (by omega) j2; omega
          · rcases e7 with e7 | ⟨m, m1, m2, m3, m4⟩
            · rcases a4 with a4 | ⟨a4, a6⟩
              · exact .inl (e7.trans a4)
              · exact .inr ⟨i, e7.trans a4, by omega, by omega, a6⟩
            · exact .inr ⟨m, m1, by omega, m3, m4⟩
        rw [ho] at h
        by_cases o1 : opAt l i = 21 ∨ opAt l i = 24
        · rw [if_pos o1] at hdep
          have h' : spec_l04Match.j1 k l dp mid (i : Int) (opAt l i) true = some r := by
            rcases o1 with o1 | o1
            · rw [if_pos o1] at h
              rw [← h]; congr 1; rw [o1]; rfl
            · rw [if_neg (by rw [o1]; decide)] at h
              rw [← h]; congr 1; rw [o1]; rfl
          cases k with
          | zero => simp only [spec_l04Match.j1] at h'; cases h'
          | succ k =>
            simp only [spec_l04Match.j1, if_true] at h'
            rw [hw, hd] at h'
            exact nx k (by omega) (dp + 1) mid (by omega) (by omega) (by omega) (.inl rfl) (by omega) h'
        · rw [if_neg o1] at hdep
          have h' : spec_l04Match.j1 k l dp mid (i : Int) (opAt l i) false = some r := by
            have q1 : ¬ opAt l i = 21 := fun q => o1 (.inl q)
            have q2 : (opAt l i == 24) = false := beq_eq_false_iff_ne.mpr (fun q => o1 (.inr q))
            rw [if_neg q1, q2] at h
            exact h
          cases k with
          | zero => simp only [spec_l04Match.j1] at h'; cases h'
          | succ k =>
            simp only [spec_l04Match.j1, Bool.false_eq_true, if_false] at h'
            rw [hw, hd4] at h'
            by_cases o2 : opAt l i = 22
            · rw [if_pos o2] at h'
              rw [if_neg (by omega)] at hdep
              by_cases d0 : dp = 0
              · rw [if_pos d0] at h'
                exact nx k (by omega) dp (i : Int) h0 (by omega) (by omega) (.inr ⟨rfl, o2⟩) (by omega) h'
              · rw [if_neg d0] at h'
                exact nx k (by omega) dp mid h0 (by omega) (by omega) (.inl rfl) (by omega) h'
            · rw [if_neg o2] at h'
              by_cases o3 : opAt l i = 23
              · rw [if_pos o3] at h' hdep
                by_cases d0 : dp = 0
                · rw [if_pos d0] at h'
                  obtain rfl := Option.some.inj h'
                  exact ⟨i, rfl, Nat.le_refl _, by omega, o3, by omega, fun j j1 j2 => by omega, .inl rfl⟩
                · rw [if_neg d0] at h'
                  exact nx k (by omega) (dp - 1) mid (by omega) (by omega) (by omega) (.inl rfl) (by omega) h'
              · rw [if_neg o3] at h' hdep
                exact nx k (by omega) dp mid h0 (by omega) (by omega) (.inl rfl) (by omega) h'
      · rw [if_neg hi] at h
        obtain rfl := Option.some.inj h
        cases ht
/-- What MatchOf tells without a fault. -/
theorem matchOf_good (l : List Ins) (hl : l.length ≤ 4096) (k a : Nat) (r : Int × Int × Int) (h : spec_MatchOf.f k l (a : Int) = some r) (hr : r.2.2 = 0) : a < l.length ∧ Mt l a r.1 r.2.1 := by
  unfold spec_MatchOf.f at h
  rw [if_neg (by omega)] at h
  have j1 : ∀ k b, spec_MatchOf.j1 k l (a : Int) b = some r → a < l.length → ((rd_T30 l (a : Int)).f0 = 21 ∨ (rd_T30 l (a : Int)).f0 = 24) → a < l.length ∧ Mt l a r.1 r.2.1 := by
    intro k b h hal hop
    cases k with
    | zero => simp only [spec_MatchOf.j1] at h; cases h
    | succ k =>
      simp only [spec_MatchOf.j1] at h
      cases b with
      | true => rw [if_pos rfl] at h; obtain rfl := Option.some.inj h; exact absurd hr (by decide)
      | false =>
        rw [if_neg (by decide)] at h
        obtain ⟨m, hm, h⟩ := Option.bind_eq_some_iff.mp h
        by_cases c : m.2.2 = true
        · rw [if_pos c] at h
          obtain rfl := Option.some.inj h
          have hwa : wrap64 ((a : Int) + 1) = ((a + 1 : Nat) : Int) := by unfold wrap64; omega
          unfold spec_l04Match.f at hm
          rw [hwa] at hm
          obtain ⟨z, e1, e2, e3, e4, e5, e6, e7⟩ := match_deep l hl k 0 0 (a + 1) m (by omega) (by omega) (by omega) hm c
          have hdep : dep l (a + 1) = dep l a + 1 := by
            show dep l a + _ = _
            rw [if_pos (show opAt l a = 21 ∨ opAt l a = 24 from hop)]
          refine ⟨hal, z, e1, by omega, e3, e4, by omega, fun q q1 q2 => ?_, ?_⟩
          · by_cases hq : q = a + 1
            · subst hq; omega
            · have := e6 q (by omega) q2; omega
          · rcases e7 with e7 | ⟨q, q1, q2, q3, q4⟩
            · exact .inl e7
            · exact .inr ⟨q, q1, by omega, q3, q4⟩
        · rw [if_neg c] at h; obtain rfl := Option.some.inj h; exact absurd hr (by decide)
  have j0 : ∀ b, spec_MatchOf.j0 k l (a : Int) b = some r → a < l.length ∧ Mt l a r.1 r.2.1 := by
    intro b h
    cases k with
    | zero => simp only [spec_MatchOf.j0] at h; cases h
    | succ k =>
      simp only [spec_MatchOf.j0] at h
      cases b with
      | true => rw [if_pos rfl] at h; obtain rfl := Option.some.inj h; exact absurd hr (by decide)
      | false =>
        rw [if_neg (by decide), if_pos (by omega)] at h
        by_cases c : (a : Int) < (l.length : Int)
        · rw [if_pos c] at h
          by_cases o1 : (rd_T30 l (a : Int)).f0 = 21
          · rw [if_pos o1] at h
            exact j1 k _ h (by omega) (.inl o1)
          · rw [if_neg o1] at h
            by_cases o2 : (rd_T30 l (a : Int)).f0 = 24
            · exact j1 k _ h (by omega) (.inr o2)
            · cases k with
              | zero => simp only [spec_MatchOf.j1] at h; cases h
              | succ k =>
                have q : ((rd_T30 l (a : Int)).f0 != 24) = true := by simpa using o2
                rw [q] at h
                simp only [spec_MatchOf.j1, if_true] at h
                obtain rfl := Option.some.inj h
                exact absurd hr (by decide)
        · rw [if_neg c] at h; cases h
  by_cases c : (l.length : Int) > 40
  · rw [if_pos c] at h; obtain rfl := Option.some.inj h; exact absurd hr (by decide)
  · rw [if_neg c, if_neg (by omega)] at h
    exact j0 _ h
/-- Two structures do not cross. -/
theorem mt_apart (l : List Ins) (a b : Nat) (o e o' e' : Int) (hab : a < b) (ha : Mt l a o' e') (hb : Mt l b o e) : e' ≠ e ∧ ¬ ((b : Int) < e' ∧ e' < e) := by
  obtain ⟨z', rfl, a1, a2, a3, a4, a5, _⟩ := ha
  obtain ⟨z, rfl, b1, b2, b3, b4, b5, _⟩ := hb
  refine ⟨fun q => ?_, fun q => ?_⟩
  · have hz : z' = z := by omega
    subst hz
    have := a5 b hab (by omega)
    omega
  · have h1 := a5 b hab (by omega)
    have h2 : dep l (z' + 1) = dep l z' - 1 := by
      show dep l z' + _ = _
      rw [if_neg (by rw [a3]; decide), if_pos a3]
      omega
    have h3 := b5 (z' + 1) (by omega) (by omega)
    omega
/-- The ends so far. -/
def Ends (l : List Ins) (i : Nat) (es : List Int) : Prop := es.length ≤ i ∧ ∀ e ∈ es, ∃ (a : Nat) (o : Int), a < i ∧ Mt l a o e
theorem l1_from (l : List Ins) (hl : l.length ≤ 40) (es : List Int) (i : Nat) (hi : i < l.length) (o e : Int) (hE : Ends l i es) (hM : Mt l i o e) (rest : Nat → Prop) :
    ∀ (d k j : Nat), es.length - j ≤ d → d < k → j ≤ es.length → (∀ k', k - (d + 1) ≤ k' → laws_FnNests.l0 k' l (es ++ [e]) (((i + 1 : Nat)) : Int) = some true) → laws_FnNests.l1 k l es (i : Int) o e (j : Int) = some true := by
  have hwi : wrap64 ((i : Int) + 1) = ((i + 1 : Nat) : Int) := by unfold wrap64; omega
  have hel : es.length ≤ 40 := by have := hE.1; omega
  have last : ∀ k, laws_FnNests.l0 k l (es ++ [e]) (((i + 1 : Nat)) : Int) = some true → ∀ j : Nat, es.length ≤ j → laws_FnNests.l1 (k + 1) l es (i : Int) o e (j : Int) = some true := by
    intro k hk j hj
    obtain ⟨z, rfl, a1, a2, a3, a4, a5, a6⟩ := hM
    simp only [laws_FnNests.l1]
    rw [if_neg (by omega), if_pos (by omega)]
    simp only [Option.bind_some]
    have ez : (rd_T30 l (z : Int)).f0 = 23 := a3
    rw [if_pos (by omega), if_pos (by omega), if_pos ez, hwi]
    rcases a6 with rfl | ⟨m, rfl, m1, m2, m3⟩
    · rw [if_neg (by decide)]
      exact hk
    · have em : (rd_T30 l (m : Int)).f0 = 22 := m3
      rw [if_pos (by omega), if_pos (by omega), if_pos (by omega), if_pos em, if_neg (by omega), if_neg (by omega)]
      exact hk
  intro d
  induction d with
  | zero =>
    intro k j hd hk hj h
    obtain ⟨k, rfl⟩ : ∃ m, k = m + 1 := ⟨k - 1, by omega⟩
    exact last k (h k (by omega)) j (by omega)
  | succ d ih =>
    intro k j hd hk hj h
    obtain ⟨k, rfl⟩ : ∃ m, k = m + 1 := ⟨k - 1, by omega⟩
    by_cases c : j < es.length
    · have hm : rd es (j : Int) ∈ es := by
        unfold rd
        rw [List.getD_eq_getElem?_getD, List.getElem?_eq_getElem (by omega)]
        exact List.getElem_mem _
      obtain ⟨a, o', ha, hMa⟩ := hE.2 _ hm
      obtain ⟨q1, q2⟩ := mt_apart l a i o e o' _ ha hMa hM
      have hwj : wrap64 ((j : Int) + 1) = ((j + 1 : Nat) : Int) := by unfold wrap64; omega
      have nx := ih k (j + 1) (by omega) (by omega) (by omega) (fun k' hk' => h k' (by omega))
      simp only [laws_FnNests.l1]
      rw [if_pos (by omega), if_pos (by omega), if_neg q1, hwj]
      by_cases c2 : rd es (j : Int) > (i : Int)
      · rw [if_pos c2, if_neg (by omega)]
        exact nx
      · rw [if_neg c2]
        exact nx
    · exact last k (h k (by omega)) j (by omega)
theorem l0_from (l : List Ins) (hl : l.length ≤ 40) : ∀ (d k i : Nat) (es : List Int), l.length - i ≤ d → 200 + 100 * d ≤ k → i ≤ l.length → Ends l i es → laws_FnNests.l0 k l es (i : Int) = some true := by
  intro d
  have fin : ∀ (k i : Nat) (es : List Int), l.length ≤ i → laws_FnNests.l0 (k + 1) l es (i : Int) = some true := by
    intro k i es hi
    simp only [laws_FnNests.l0]
    rw [if_neg (by omega), if_pos (by omega)]
    simp only [impl_OpName.f, Option.bind_some]
    kernel_rfl
  induction d with
  | zero =>
    intro k i es hd hk hi hE
    obtain ⟨k, rfl⟩ : ∃ m, k = m + 1 := ⟨k - 1, by omega⟩
    exact fin k i es (by omega)
  | succ d ih =>
    intro k i es hd hk hi hE
    obtain ⟨k, rfl⟩ : ∃ m, k = m + 1 + 1 := ⟨k - 2, by omega⟩
    by_cases c : i < l.length
    · obtain ⟨r, h1, h2⟩ := matchOf_same l (k + 1) (by omega) (by omega) (i : Int)
      have hwi : wrap64 ((i : Int) + 1) = ((i + 1 : Nat) : Int) := by unfold wrap64; omega
      simp only [laws_FnNests.l0]
      rw [if_pos (by omega), h1, h2]
      simp only [Option.bind_some, if_true, bne_self_eq_false]
      simp only [laws_FnNests.j2, Bool.false_eq_true, if_false]
      by_cases hr : r.2.2 = 0
      · obtain ⟨_, hM⟩ := matchOf_good l (by omega) _ i r h1 hr
        rw [if_pos hr]
        have hel : es.length ≤ 40 := by have := hE.1; omega
        refine l1_from l hl es i c r.1 r.2.1 hE hM (fun _ => True) es.length k 0 (by omega) (by omega) (by omega) (fun k' hk' => ?_)
        refine ih k' (i + 1) _ (by omega) (by omega) (by omega) ⟨by have := hE.1; simp; omega, fun e he => ?_⟩
        rcases List.mem_append.1 he with he | he
        · obtain ⟨a, o, q1, q2⟩ := hE.2 e he
          exact ⟨a, o, by omega, q2⟩
        · obtain rfl := List.mem_singleton.1 he
          exact ⟨i, r.1, by omega, hM⟩
      · rw [if_neg hr, hwi]
        exact ih k (i + 1) es (by omega) (by omega) (by omega) ⟨by have := hE.1; omega, fun e he => by obtain ⟨a, o, q1, q2⟩ := hE.2 e he; exact ⟨a, o, by omega, q2⟩⟩
    · exact fin (k + 1) i es (by omega)
theorem FnNests : laws_FnNests.Pure := by
  intro l0 l1 hl0 _ hw0 hl1 _ hw1
  refine ⟨10001, ?_⟩
  unfold laws_FnNests.f
  have big : laws_FnNests.j0 10001 l0 l1 true = some true := by
    simp only [laws_FnNests.j0, if_true]
  by_cases c : (l0.length : Int) > 1048576
  · rw [if_pos c]; exact big
  · rw [if_neg c]
    by_cases c1 : (l1.length : Int) > 1048576
    · rw [decide_eq_true c1]; exact big
    · rw [decide_eq_false c1]
      simp only [laws_FnNests.j0, Bool.false_eq_true, if_false]
      obtain ⟨ks, e1, k1, k2⟩ := kinds_some l1 (by omega) hw1 10000 (by omega)
      obtain ⟨g, e2, hg⟩ := right_some l0 ks (by omega) hw0 k2 k1 10000 (by omega)
      simp only [e1, e2, Option.bind_some]
      exact l0_from g hg g.length 10000 0 [] (by omega) (by omega) (by omega) ⟨by simp, by simp⟩


end Go.Proofs.YtkeeijifjpfolaaDoor.Pure

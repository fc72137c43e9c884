/- Proved: the pure statement behind the law FnSummaries of the given program: for every input that the row lets in, the program's answer and the reference's agree and the law returns true. Conditions: none beyond the row's own. -/
import Derived.Test.YtagfalmpanlabaaMFnSummariesx9
set_option linter.unusedVariables false
set_option linter.unusedSimpArgs false
namespace Go.Proofs.Ytagfalmpanlabaa.Pure
open Go.RowKit Go.Proofs.Ytagfalmpanlabaa.MFnSummaries Go.Proofs.YtagfalmpanlabaaW.PrintWords Go.Proofs.YtagfalmpanlabaaW.PrintLast

theorem within_eq (a lo hi : Int) : impl_within.f a lo hi = some (decide (lo ≤ a ∧ a ≤ hi)) := by
  unfold impl_within.f
  by_cases h : a ≥ lo
  · have h' : lo ≤ a := h
    simp [h, h']
  · have h' : ¬ lo ≤ a := h
    simp [h, h']

theorem when_eq (b : Bool) (c : Int) : impl_when.f b c = some (if b = true then c else 0) := by
  unfold impl_when.f
  split <;> rfl

/-- The first number of a list that is not 0; else 0. -/
def fnz : List Int → Int
  | [] => 0
  | a :: l => if a = 0 then fnz l else a

theorem first_from (l : List Int) (hl : l.length ≤ 1000) : ∀ (d k i : Nat), l.length - i ≤ d → d < k → i ≤ l.length → impl_first.l0 k l l.length (i : Int) = some (fnz (l.drop i)) := by
  intro d
  induction d with
  | zero =>
    intro k i hd hk hi
    obtain ⟨k, rfl⟩ : ∃ m, k = m + 1 := ⟨k - 1, by omega⟩
    simp only [impl_first.l0]
    rw [if_neg (by omega), List.drop_of_length_le (by omega)]
    rfl
  | succ d ih =>
    intro k i hd hk hi
    obtain ⟨k, rfl⟩ : ∃ m, k = m + 1 := ⟨k - 1, by omega⟩
    simp only [impl_first.l0]
    by_cases h : i < l.length
    · have hw : wrap64 ((i : Int) + 1) = ((i + 1 : Nat) : Int) := by unfold wrap64; omega
      rw [hw, ih k (i + 1) (by omega) (by omega) (by omega)]
      have e : rd l (i : Int) = l[i] := by simp [rd, List.getD_eq_getElem?_getD, h]
      rw [List.drop_eq_getElem_cons h, e]
      rw [if_pos (by omega), if_pos (by omega), if_pos (by omega)]
      simp only [fnz]
      split <;> rfl
    · rw [if_neg (by omega), List.drop_of_length_le (by omega)]
      rfl

theorem first_eq (l : List Int) (hl : l.length ≤ 1000) (k : Nat) (hk : l.length < k) : impl_first.f k l = some (fnz l) := by
  unfold impl_first.f
  have h := first_from l hl l.length k 0 (by omega) hk (by omega)
  simpa using h

theorem wrap_id {x : Int} (h1 : -9223372036854775808 ≤ x) (h2 : x ≤ 9223372036854775807) : wrap64 x = x := by unfold wrap64; omega

theorem u8_bounds {x : Int} (h : (Lit.int .u8 x).wf = true) : 0 ≤ x ∧ x ≤ 255 := by
  simp only [Lit.wf, IntKind.min, IntKind.max, IntKind.signed, IntKind.bits, Bool.and_eq_true, decide_eq_true_eq] at h
  simp at h
  omega
theorem rd_u8 {l : List Int} (hw : ∀ x ∈ l, (Lit.int .u8 x).wf = true) (i : Int) : 0 ≤ rd l i ∧ rd l i ≤ 255 := by
  unfold rd
  rw [List.getD_eq_getElem?_getD]
  by_cases h : i.toNat < l.length
  · rw [List.getElem?_eq_getElem h]
    exact u8_bounds (hw _ (List.getElem_mem h))
  · rw [List.getElem?_eq_none (by omega)]
    exact ⟨by decide, by decide⟩
theorem tmod_range {a b : Int} (ha : 0 ≤ a) (hb : 0 < b) : 0 ≤ Int.tmod a b ∧ Int.tmod a b < b := ⟨Int.tmod_nonneg _ ha, Int.tmod_lt_of_pos _ hb⟩
theorem tdiv_range {a b : Int} (ha : 0 ≤ a) (hb : 0 < b) : 0 ≤ Int.tdiv a b ∧ Int.tdiv a b ≤ a := by
  rw [Int.tdiv_eq_ediv_of_nonneg ha]
  exact ⟨Int.ediv_nonneg ha (by omega), Int.ediv_le_self _ ha⟩


theorem at_some {l : List Int} (hw : ∀ x ∈ l, (Lit.int .u8 x).wf = true) (a n : Int) (ha : 0 ≤ a) (ha2 : a ≤ 100000) (hn : 1 ≤ n) : ∃ r, laws_at.f l a n = some r ∧ 0 ≤ r ∧ r < n := by
  unfold laws_at.f
  by_cases h1 : n ≤ 1
  · exact ⟨0, by rw [if_pos h1], by omega, by omega⟩
  · rw [if_neg h1]
    have hn0 : ¬ n = 0 := by omega
    by_cases h2 : (l.length : Int) = 0
    · rw [if_pos h2, if_neg hn0]
      have e : wrap64 (a * 7) = a * 7 := wrap_id (by omega) (by omega)
      rw [e]
      have := tmod_range (a := a * 7) (b := n) (by omega) (by omega)
      exact ⟨_, rfl, this.1, this.2⟩
    · rw [if_neg h2, if_neg hn0]
      have hL : 0 < (l.length : Int) := by omega
      have e1 : wrap64 (a + 1) = a + 1 := wrap_id (by omega) (by omega)
      rw [e1]
      have t1 := tmod_range ha hL
      have t2 := tmod_range (a := a + 1) (by omega) hL
      rw [if_pos t1.1, if_pos t1.2, if_pos t2.1, if_pos t2.2]
      have r1 := rd_u8 hw (Int.tmod a (l.length : Int))
      have r2 := rd_u8 hw (Int.tmod (a + 1) (l.length : Int))
      have d := tdiv_range ha hL
      generalize rd l (Int.tmod a (l.length : Int)) = x at *
      generalize rd l (Int.tmod (a + 1) (l.length : Int)) = y at *
      generalize Int.tdiv a (l.length : Int) = z at *
      have e : wrap64 ((wrap64 ((wrap64 ((wrap64 x) * 31)) + (wrap64 y))) + (wrap64 z)) = x * 31 + y + z := by
        unfold wrap64; omega
      rw [e]
      have t3 := tmod_range (a := x * 31 + y + z) (b := n) (by omega) (by omega)
      exact ⟨_, rfl, t3.1, t3.2⟩

theorem byte_some {l : List Int} (hw : ∀ x ∈ l, (Lit.int .u8 x).wf = true) (a s : Int) (ha : 0 ≤ a ∧ a ≤ 1000000) (hs : 0 ≤ s ∧ s ≤ 2147483647) :
    ∃ v s', spec_l00Src_byte.f l a s = some (v, a + 1, s') ∧ (0 ≤ v ∧ v ≤ 255) ∧ 0 ≤ s' ∧ s' ≤ 2147483647 := by
  have w1 : wrap64 (a + 1) = a + 1 := wrap_id (by omega) (by omega)
  have w2 : wrap64 ((a + 1) - 1) = a := by unfold wrap64; omega
  unfold spec_l00Src_byte.f
  rw [w1, w2]
  by_cases h : a + 1 ≤ (l.length : Int)
  · rw [if_pos h, if_pos ha.1, if_pos (by omega)]
    have hr := rd_u8 hw a
    generalize rd l a = x at *
    have w3 : wrap64 x = x := wrap_id (by omega) (by omega)
    have w4 : wrap64 ((wrap64 ((wrap64 (s * 31)) + x)) + 7) = s * 31 + x + 7 := by unfold wrap64; omega
    rw [w3, w4]
    have t := tmod_range (a := s * 31 + x + 7) (b := 2147483648) (by omega) (by omega)
    exact ⟨_, _, rfl, hr, t.1, by omega⟩
  · rw [if_neg h]
    by_cases h2 : a + 1 > 3000
    · rw [if_pos h2]
      exact ⟨_, _, rfl, ⟨by omega, by omega⟩, hs⟩
    · rw [if_neg h2]
      have w3 : wrap64 ((wrap64 (s * 1103515245)) + 12345) = s * 1103515245 + 12345 := by unfold wrap64; omega
      rw [w3]
      have t := tmod_range (a := s * 1103515245 + 12345) (b := 2147483648) (by omega) (by omega)
      generalize Int.tmod (s * 1103515245 + 12345) 2147483648 = y at *
      have t2 := tdiv_range (a := y) (b := 65536) t.1 (by omega)
      generalize Int.tdiv y 65536 = z at *
      have w4 : wrap64 z = z := wrap_id (by omega) (by omega)
      rw [w4]
      have t3 := tmod_range (a := z) (b := 256) t2.1 (by omega)
      exact ⟨_, _, rfl, ⟨t3.1, by omega⟩, t.1, by omega⟩
theorem next_some {l : List Int} (hw : ∀ x ∈ l, (Lit.int .u8 x).wf = true) (n a s : Int) (hn : 1 ≤ n) (ha : 0 ≤ a ∧ a ≤ 999990) (hs : 0 ≤ s ∧ s ≤ 2147483647) :
    ∃ v a' s', spec_l00Src_next.f l a s n = some (v, a', s') ∧ (0 ≤ v ∧ v < n) ∧ (a ≤ a' ∧ a' ≤ a + 3) ∧ 0 ≤ s' ∧ s' ≤ 2147483647 := by
  unfold spec_l00Src_next.f
  by_cases h1 : n ≤ 1
  · rw [if_pos h1]
    exact ⟨_, _, _, rfl, ⟨by omega, by omega⟩, ⟨by omega, by omega⟩, hs⟩
  · rw [if_neg h1]
    have hn0 : ¬ n = 0 := by omega
    obtain ⟨v1, s1, e1, b1, c1⟩ := byte_some hw a s (by omega) hs
    by_cases h2 : n ≤ 256
    · rw [if_pos h2, e1]
      simp only [Option.bind_some]
      rw [if_neg hn0]
      have t := tmod_range (a := v1) (b := n) b1.1 (by omega)
      exact ⟨_, _, _, rfl, t, ⟨by omega, by omega⟩, c1⟩
    · rw [if_neg h2, e1]
      obtain ⟨v2, s2, e2, b2, c2⟩ := byte_some hw (a + 1) s1 (by omega) c1
      obtain ⟨v3, s3, e3, b3, c3⟩ := byte_some hw (a + 1 + 1) s2 (by omega) c2
      simp only [Option.bind_some, e2, e3]
      rw [if_neg hn0]
      have w : wrap64 ((wrap64 ((wrap64 (v1 * 65536)) + (wrap64 (v2 * 256)))) + v3) = v1 * 65536 + v2 * 256 + v3 := by unfold wrap64; omega
      rw [w]
      have t := tmod_range (a := v1 * 65536 + v2 * 256 + v3) (b := n) (by omega) (by omega)
      exact ⟨_, _, _, rfl, t, ⟨by omega, by omega⟩, c3⟩

theorem chance_some {l : List Int} (hw : ∀ x ∈ l, (Lit.int .u8 x).wf = true) (n a s : Int) (hn : 1 ≤ n) (ha : 0 ≤ a ∧ a ≤ 999990) (hs : 0 ≤ s ∧ s ≤ 2147483647) :
    ∃ v a' s', spec_l00Src_chance.f l a s n = some (v, a', s') ∧ (a ≤ a' ∧ a' ≤ a + 3) ∧ 0 ≤ s' ∧ s' ≤ 2147483647 := by
  obtain ⟨v, a', s', e, _, h2, h3⟩ := next_some hw n a s hn ha hs
  unfold spec_l00Src_chance.f
  rw [e]
  exact ⟨_, a', s', rfl, h2, h3⟩

theorem sums_eq (a0 a1 a2 a3 a4 : Int) : spec_SummaryOK.f a0 a1 a2 a3 a4 = some (sumOKb a0 a1 a2 a3 a4) := rfl

theorem impl_all_Summary_SummaryOK_from (p : S24 → Bool) (K : Nat) (hF : ∀ (k : Nat) (x : S24), K ≤ k → impl_SummaryOK.f x.f0 x.f1 x.f2 x.f3 x.f4 = some (p x)) (l : List S24) (hl : l.length ≤ 1048576) : ∀ (d k i : Nat), l.length - i ≤ d → d + K < k → i ≤ l.length →
    ∃ j, impl_all_Summary_SummaryOK.l0 k l (i : Int) = some j ∧ (!(decide (0 ≤ j))) = (l.drop i).all p := by
  intro d
  induction d with
  | zero =>
    intro k i hd hk hi
    obtain ⟨k, rfl⟩ : ∃ m, k = m + 1 := ⟨k - 1, by omega⟩
    refine ⟨-1, ?_, ?_⟩
    · simp only [impl_all_Summary_SummaryOK.l0]
      rw [if_neg (by omega)]
    · rw [List.drop_of_length_le (by omega)]
      rfl
  | succ d ih =>
    intro k i hd hk hi
    obtain ⟨k, rfl⟩ : ∃ m, k = m + 1 := ⟨k - 1, by omega⟩
    by_cases h : i < l.length
    · have e : rd_T24 l (i : Int) = l[i] := by simp [rd_T24, List.getD_eq_getElem?_getD, h]
      have hw : wrap64 ((i : Int) + 1) = ((i + 1 : Nat) : Int) := by unfold wrap64; omega
      obtain ⟨j, hj, hp⟩ := ih k (i + 1) (by omega) (by omega) (by omega)
      have hx := hF k l[i] (by omega)
      rw [List.drop_eq_getElem_cons h, List.all_cons]
      simp only [impl_all_Summary_SummaryOK.l0]
      rw [if_pos (by omega), if_pos (by omega), e, hw, hx]
      simp only [Option.bind_some]
      cases p l[i] with
      | true => exact ⟨j, by rw [if_pos rfl]; exact hj, by simpa using hp⟩
      | false => exact ⟨(i : Int), by rw [if_neg (by decide)], by simp⟩
    · refine ⟨-1, ?_, ?_⟩
      · simp only [impl_all_Summary_SummaryOK.l0]
        rw [if_neg (by omega)]
      · rw [List.drop_of_length_le (by omega)]
        rfl
theorem impl_all_Summary_SummaryOK_eq (p : S24 → Bool) (K : Nat) (hF : ∀ (k : Nat) (x : S24), K ≤ k → impl_SummaryOK.f x.f0 x.f1 x.f2 x.f3 x.f4 = some (p x)) (l : List S24) (hl : l.length ≤ 1048576) (k : Nat) (hk : l.length + K < k) : impl_all_Summary_SummaryOK.f k l = some (l.all p) := by
  obtain ⟨j, hj, hp⟩ := impl_all_Summary_SummaryOK_from p K hF l hl l.length k 0 (by omega) (by omega) (by omega)
  unfold impl_all_Summary_SummaryOK.f
  have hj' : impl_all_Summary_SummaryOK.l0 k l 0 = some j := hj
  rw [hj']
  simp only [Option.bind_some]
  rw [hp]
  rfl

def sumb (x : S24) : Bool := sumOKb x.f0 x.f1 x.f2 x.f3 x.f4
theorem areSum_eq (l : List S24) (hl : l.length ≤ 1048576) (k : Nat) (hk : l.length < k) : impl_areSummaries.f k l = some (if l.all sumb = true then 0 else 1) := by
  unfold impl_areSummaries.f
  rw [impl_all_Summary_SummaryOK_eq sumb 0 (fun _ _ _ => rfl) l hl k (by omega)]
  simp only [Option.bind_some, when_eq]
  cases l.all sumb <;> rfl

abbrev Sum5 := Int × Int × Int × Int × Int
def plusV (a b : Int) : Int := if a < 0 then -1 else if b < 0 then -1 else mn (a + b) 2147483647
def behindV (a b : Sum5) : Sum5 := (plusV a.1 b.1, plusV a.2.1 b.2.1, mx a.2.2.1 (plusV a.2.1 b.2.2.1), mx b.2.2.2.1 (plusV a.2.2.2.1 b.2.1), mx (mx a.2.2.2.2 b.2.2.2.2) (plusV a.2.2.2.1 b.2.2.1))
def InR (a : Int) : Prop := -1 ≤ a ∧ a ≤ 2147483647
def InV (s : Sum5) : Prop := InR s.1 ∧ InR s.2.1 ∧ InR s.2.2.1 ∧ InR s.2.2.2.1 ∧ InR s.2.2.2.2
theorem plus_in {a b : Int} (ha : InR a) (hb : InR b) : InR (plusV a b) := by
  unfold InR at *
  unfold plusV mn
  split
  · omega
  · split
    · omega
    · split <;> omega
theorem mx_in {a b : Int} (ha : InR a) (hb : InR b) : InR (mx a b) := by
  unfold InR at *
  unfold mx
  split <;> omega
theorem spec_plus {a b : Int} (ha : InR a) (hb : InR b) : spec_l05Plus.f a b = some (plusV a b) := by
  unfold InR at *
  unfold spec_l05Plus.f plusV
  split
  · rfl
  · split
    · rfl
    · have e : wrap64 (a + b) = a + b := by unfold wrap64; omega
      rw [e]
theorem impl_plus_ {a b : Int} (ha : InR a) (hb : InR b) : impl_plus.f a b = some (plusV a b) := by
  unfold InR at *
  unfold impl_plus.f plusV
  by_cases h : a = -1
  · rw [if_pos h, if_pos (show a < 0 by omega)]
  · rw [if_neg h]
    by_cases h2 : b = -1
    · rw [if_pos h2, if_neg (show ¬ a < 0 by omega), if_pos (show b < 0 by omega)]
    · have e : wrap64 (a + b) = a + b := by unfold wrap64; omega
      rw [if_neg h2, if_neg (show ¬ a < 0 by omega), if_neg (show ¬ b < 0 by omega), e]
theorem behind_in {a b : Sum5} (ha : InV a) (hb : InV b) : InV (behindV a b) := by
  obtain ⟨a0, a1, a2, a3, a4⟩ := ha
  obtain ⟨b0, b1, b2, b3, b4⟩ := hb
  exact ⟨plus_in a0 b0, plus_in a1 b1, mx_in a2 (plus_in a1 b2), mx_in b3 (plus_in a3 b1), mx_in (mx_in a4 b4) (plus_in a3 b2)⟩
theorem spec_behind {a b : Sum5} (ha : InV a) (hb : InV b) : spec_l05Behind.f a.1 a.2.1 a.2.2.1 a.2.2.2.1 a.2.2.2.2 b.1 b.2.1 b.2.2.1 b.2.2.2.1 b.2.2.2.2 = some (behindV a b) := by
  obtain ⟨a0, a1, a2, a3, a4⟩ := ha
  obtain ⟨b0, b1, b2, b3, b4⟩ := hb
  unfold spec_l05Behind.f
  rw [spec_plus a0 b0, spec_plus a1 b1, spec_plus a1 b2, spec_plus a3 b1, spec_plus a3 b2]
  rfl
theorem impl_behind1 {a b : Sum5} (ha : InV a) (hb : InV b) (k : Nat) (hk : 2 ≤ k) : impl_behind.f k a.1 a.2.1 a.2.2.1 a.2.2.2.1 a.2.2.2.2 [⟨b.1, b.2.1, b.2.2.1, b.2.2.2.1, b.2.2.2.2⟩] = some (behindV a b) := by
  obtain ⟨a0, a1, a2, a3, a4⟩ := ha
  obtain ⟨b0, b1, b2, b3, b4⟩ := hb
  obtain ⟨k, rfl⟩ : ∃ m, k = m + 2 := ⟨k - 2, by omega⟩
  unfold impl_behind.f
  have w0 : wrap64 ((0 : Int) + 1) = 1 := by unfold wrap64; omega
  simp only [impl_behind.l0, List.length_cons, List.length_nil, w0]
  have r0 : rd_T24 [(⟨b.1, b.2.1, b.2.2.1, b.2.2.2.1, b.2.2.2.2⟩ : S24)] 0 = ⟨b.1, b.2.1, b.2.2.1, b.2.2.2.1, b.2.2.2.2⟩ := rfl
  rw [r0]
  simp only [impl_plus_ a0 b0, impl_plus_ a1 b1, impl_plus_ a1 b2, impl_plus_ a3 b1, impl_plus_ a3 b2, Option.bind_some]
  simp [behindV]
theorem impl_behind2 {a b c : Sum5} (ha : InV a) (hb : InV b) (hc : InV c) (k : Nat) (hk : 3 ≤ k) :
    impl_behind.f k a.1 a.2.1 a.2.2.1 a.2.2.2.1 a.2.2.2.2 [⟨b.1, b.2.1, b.2.2.1, b.2.2.2.1, b.2.2.2.2⟩, ⟨c.1, c.2.1, c.2.2.1, c.2.2.2.1, c.2.2.2.2⟩] = some (behindV (behindV a b) c) := by
  have hab := behind_in ha hb
  obtain ⟨a0, a1, a2, a3, a4⟩ := ha
  obtain ⟨b0, b1, b2, b3, b4⟩ := hb
  obtain ⟨c0, c1, c2, c3, c4⟩ := hc
  obtain ⟨d0, d1, d2, d3, d4⟩ := hab
  obtain ⟨k, rfl⟩ : ∃ m, k = m + 3 := ⟨k - 3, by omega⟩
  unfold impl_behind.f
  have w0 : wrap64 ((0 : Int) + 1) = 1 := by unfold wrap64; omega
  have w1 : wrap64 ((1 : Int) + 1) = 2 := by unfold wrap64; omega
  simp only [impl_behind.l0, List.length_cons, List.length_nil, w0, w1]
  have r0 : rd_T24 [(⟨b.1, b.2.1, b.2.2.1, b.2.2.2.1, b.2.2.2.2⟩ : S24), ⟨c.1, c.2.1, c.2.2.1, c.2.2.2.1, c.2.2.2.2⟩] 0 = ⟨b.1, b.2.1, b.2.2.1, b.2.2.2.1, b.2.2.2.2⟩ := rfl
  have r1 : rd_T24 [(⟨b.1, b.2.1, b.2.2.1, b.2.2.2.1, b.2.2.2.2⟩ : S24), ⟨c.1, c.2.1, c.2.2.1, c.2.2.2.1, c.2.2.2.2⟩] 1 = ⟨c.1, c.2.1, c.2.2.1, c.2.2.2.1, c.2.2.2.2⟩ := rfl
  rw [r0, r1]
  simp only [impl_plus_ a0 b0, impl_plus_ a1 b1, impl_plus_ a1 b2, impl_plus_ a3 b1, impl_plus_ a3 b2, Option.bind_some]
  simp only [behindV] at d0 d1 d2 d3 d4
  simp only [impl_plus_ d0 c0, impl_plus_ d1 c1, impl_plus_ d1 c2, impl_plus_ d3 c1, impl_plus_ d3 c2, Option.bind_some]
  simp [behindV]
theorem sumok_in {a0 a1 a2 a3 a4 : Int} (h : sumOKb a0 a1 a2 a3 a4 = true) : InV (a0, a1, a2, a3, a4) := by
  have h := of_decide_eq_true h
  unfold InV InR
  simp only
  omega
theorem one_in (n : Int) (h : 0 ≤ n ∧ n ≤ 2147483647) : InV (n, n, -1, -1, -1) := by
  unfold InV InR
  simp only
  omega

theorem plus_cases (a b : Int) : ((a < 0 ∨ b < 0) ∧ plusV a b = -1) ∨ (0 ≤ a ∧ 0 ≤ b ∧ a + b ≤ 2147483647 ∧ plusV a b = a + b) ∨ (0 ≤ a ∧ 0 ≤ b ∧ 2147483647 < a + b ∧ plusV a b = 2147483647) := by
  unfold plusV mn
  by_cases h1 : a < 0
  · rw [if_pos h1]; exact Or.inl ⟨Or.inl h1, rfl⟩
  · rw [if_neg h1]
    by_cases h2 : b < 0
    · rw [if_pos h2]; exact Or.inl ⟨Or.inr h2, rfl⟩
    · rw [if_neg h2]
      by_cases h3 : 2147483647 < a + b
      · rw [if_pos h3]; exact Or.inr (Or.inr ⟨by omega, by omega, h3, rfl⟩)
      · rw [if_neg h3]; exact Or.inr (Or.inl ⟨by omega, by omega, by omega, rfl⟩)
theorem mx_cases (a b : Int) : (a < b ∧ mx a b = b) ∨ (b ≤ a ∧ mx a b = a) := by
  unfold mx
  by_cases h : a < b
  · rw [if_pos h]; exact Or.inl ⟨h, rfl⟩
  · rw [if_neg h]; exact Or.inr ⟨by omega, rfl⟩
theorem plus_assoc_ (a b c : Int) : plusV (plusV a b) c = plusV a (plusV b c) := by
  have h1 := plus_cases a b
  have h2 := plus_cases b c
  have h3 := plus_cases (plusV a b) c
  have h4 := plus_cases a (plusV b c)
  omega
theorem plus_mx_r (a b c : Int) : plusV a (mx b c) = mx (plusV a b) (plusV a c) := by
  have h1 := plus_cases a b
  have h2 := plus_cases a c
  have h3 := plus_cases a (mx b c)
  have h4 := mx_cases b c
  have h5 := mx_cases (plusV a b) (plusV a c)
  omega
theorem plus_mx_l (a b c : Int) : plusV (mx a b) c = mx (plusV a c) (plusV b c) := by
  have h1 := plus_cases a c
  have h2 := plus_cases b c
  have h3 := plus_cases (mx a b) c
  have h4 := mx_cases a b
  have h5 := mx_cases (plusV a c) (plusV b c)
  omega
theorem mx_comm_ (a b : Int) : mx a b = mx b a := by
  have h1 := mx_cases a b
  have h2 := mx_cases b a
  omega
theorem mx_assoc_ (a b c : Int) : mx (mx a b) c = mx a (mx b c) := by
  have h1 := mx_cases a b
  have h2 := mx_cases b c
  have h3 := mx_cases (mx a b) c
  have h4 := mx_cases a (mx b c)
  omega
instance : Std.Associative mx := ⟨mx_assoc_⟩
instance : Std.Commutative mx := ⟨mx_comm_⟩
theorem behind_assoc (a b c : Sum5) : behindV (behindV a b) c = behindV a (behindV b c) := by
  simp only [behindV, plus_mx_r, plus_mx_l, plus_assoc_, Prod.mk.injEq]
  exact ⟨trivial, trivial, by ac_rfl, by ac_rfl, by ac_rfl⟩
def ok5 (s : Sum5) : Prop := sumOKb s.1 s.2.1 s.2.2.1 s.2.2.2.1 s.2.2.2.2 = true
theorem plus_neg {a b : Int} (ha : -1 ≤ a) (hb : -1 ≤ b) : plusV a b = -1 ↔ a = -1 ∨ b = -1 := by
  have h1 := plus_cases a b
  omega
theorem mx_neg {a b : Int} (ha : -1 ≤ a) (hb : -1 ≤ b) : mx a b = -1 ↔ a = -1 ∧ b = -1 := by
  have h1 := mx_cases a b
  omega
theorem plus_lo (a b : Int) : -1 ≤ plusV a b := by
  have h1 := plus_cases a b
  omega
theorem plus_mono {a b c d : Int} (h : a ≤ c) (h2 : b ≤ d) (hc : 0 ≤ c) (hd : 0 ≤ d) : plusV a b ≤ plusV c d := by
  have h1 := plus_cases a b
  have h2 := plus_cases c d
  omega
theorem le_plus {a c d : Int} (h : a ≤ c) (hm : c ≤ 2147483647) (hc : 0 ≤ c) (hd : 0 ≤ d) : a ≤ plusV c d ∧ a ≤ plusV d c := by
  have h1 := plus_cases c d
  have h2 := plus_cases d c
  omega
theorem mx_le {a b c : Int} (h1 : a ≤ c) (h2 : b ≤ c) : mx a b ≤ c := by
  have h := mx_cases a b
  omega
theorem mx_lo {a b : Int} (h1 : -1 ≤ a) : -1 ≤ mx a b := by
  have h := mx_cases a b
  omega
theorem le_mx (a b : Int) : a ≤ mx a b ∧ b ≤ mx a b := by
  have h := mx_cases a b
  omega
theorem behind_ok {a b : Sum5} (ha : ok5 a) (hb : ok5 b) : ok5 (behindV a b) := by
  obtain ⟨a0, a1, a2, a3, a4⟩ := a
  obtain ⟨b0, b1, b2, b3, b4⟩ := b
  have ha := of_decide_eq_true ha
  have hb := of_decide_eq_true hb
  simp only at ha hb
  obtain ⟨pa, pb, p1, p2, p3, p4, p5, p6⟩ := ha
  obtain ⟨qa, qb, q1, q2, q3, q4, q5, q6⟩ := hb
  have p0 := And.intro pa pb
  have q0 := And.intro qa qb
  unfold ok5 behindV
  simp only
  refine decide_eq_true ?_
  have t := plus_cases a0 b0
  have la := fun x (h : x ≤ a0) => (le_plus h p0.2 p0.1 q0.1).1
  have lb := fun x (h : x ≤ b0) => (le_plus h q0.2 q0.1 p0.1).2
  have m := fun x y (h : x ≤ a0) (h2 : y ≤ b0) => plus_mono h h2 p0.1 q0.1
  refine ⟨by omega, by omega, ⟨plus_lo _ _, m _ _ p1.2 q1.2⟩, ⟨mx_lo p2.1, mx_le (la _ p2.2) (m _ _ p1.2 q2.2)⟩, ⟨mx_lo q3.1, mx_le (lb _ q3.2) (m _ _ p3.2 q1.2)⟩, ⟨mx_lo (mx_lo p4.1), mx_le (mx_le (la _ p4.2) (lb _ q4.2)) (m _ _ p3.2 q2.2)⟩, ?_, ?_⟩
  · rw [mx_neg p2.1 (plus_lo _ _), mx_neg q3.1 (plus_lo _ _), plus_neg p1.1 q2.1, plus_neg p3.1 q1.1]
    omega
  · by_cases h : mx a2 (plusV a1 b2) = -1
    · right
      rw [mx_neg p2.1 (plus_lo _ _), plus_neg p1.1 q2.1] at h
      rw [Ne, plus_neg p1.1 q1.1, mx_neg (mx_lo p4.1) (plus_lo _ _), mx_neg p4.1 q4.1, plus_neg p3.1 q2.1]
      omega
    · exact Or.inl h
def eitherV (a b : Sum5) : Sum5 := (mx a.1 b.1, mx a.2.1 b.2.1, mx a.2.2.1 b.2.2.1, mx a.2.2.2.1 b.2.2.2.1, mx a.2.2.2.2 b.2.2.2.2)
theorem either_comm (a b : Sum5) : eitherV a b = eitherV b a := by
  unfold eitherV
  rw [mx_comm_ a.1, mx_comm_ a.2.1, mx_comm_ a.2.2.1, mx_comm_ a.2.2.2.1, mx_comm_ a.2.2.2.2]
theorem either_ok {a b : Sum5} (ha : ok5 a) (hb : ok5 b) : ok5 (eitherV a b) := by
  obtain ⟨a0, a1, a2, a3, a4⟩ := a
  obtain ⟨b0, b1, b2, b3, b4⟩ := b
  have ha := of_decide_eq_true ha
  have hb := of_decide_eq_true hb
  simp only at ha hb
  obtain ⟨pa, pb, p1, p2, p3, p4, p5, p6⟩ := ha
  obtain ⟨qa, qb, q1, q2, q3, q4, q5, q6⟩ := hb
  have p0 := And.intro pa pb
  have q0 := And.intro qa qb
  unfold ok5 eitherV
  simp only
  refine decide_eq_true ?_
  have t := mx_cases a0 b0
  have l := le_mx a0 b0
  refine ⟨by omega, by omega, ⟨mx_lo p1.1, mx_le (by omega) (by omega)⟩, ⟨mx_lo p2.1, mx_le (by omega) (by omega)⟩, ⟨mx_lo p3.1, mx_le (by omega) (by omega)⟩, ⟨mx_lo p4.1, mx_le (by omega) (by omega)⟩, ?_, ?_⟩
  · rw [mx_neg p2.1 q2.1, mx_neg p3.1 q3.1]
    omega
  · rw [Ne, Ne, mx_neg p2.1 q2.1, mx_neg p4.1 q4.1, mx_neg p1.1 q1.1]
    omega
theorem one_ok (n : Int) (h : 0 ≤ n ∧ n ≤ 2147483647) (b : Bool) : ∃ v : Sum5, spec_l05One.f n b = some v ∧ ok5 v := by
  unfold spec_l05One.f
  cases b
  · refine ⟨(n, n, -1, -1, -1), rfl, ?_⟩
    show sumOKb n n (-1) (-1) (-1) = true
    exact decide_eq_true (by omega)
  · refine ⟨(n, -1, n, 0, -1), rfl, ?_⟩
    show sumOKb n (-1) n 0 (-1) = true
    exact decide_eq_true (by omega)
theorem ok5_in {a : Sum5} (h : ok5 a) : InV a := by
  obtain ⟨a0, a1, a2, a3, a4⟩ := a
  exact sumok_in h
theorem sum_loop {l : List Int} (hw : ∀ x ∈ l, (Lit.int .u8 x).wf = true) : ∀ (d k : Nat) (x a s : Int) (v : Sum5), x ≤ d → 0 ≤ x → d < k → 0 ≤ a → a + 9 * x ≤ 99999 → 0 ≤ s → s ≤ 2147483647 → ok5 v →
    ∃ (v' : Sum5) (a' s' : Int), spec_l00Src_summary.l0 k x l a s v.1 v.2.1 v.2.2.1 v.2.2.2.1 v.2.2.2.2 = some (v'.1, v'.2.1, v'.2.2.1, v'.2.2.2.1, v'.2.2.2.2, a', s') ∧ ok5 v' := by
  intro d
  induction d with
  | zero =>
    intro k x a s v h1 h2 h3 h4 h5 h6 h7 h8
    obtain ⟨k, rfl⟩ : ∃ m, k = m + 1 := ⟨k - 1, by omega⟩
    simp only [spec_l00Src_summary.l0]
    rw [if_neg (by omega)]
    exact ⟨v, _, _, rfl, h8⟩
  | succ d ih =>
    intro k x a s v h1 h2 h3 h4 h5 h6 h7 h8
    obtain ⟨k, rfl⟩ : ∃ m, k = m + 1 := ⟨k - 1, by omega⟩
    simp only [spec_l00Src_summary.l0]
    by_cases hx : x > 0
    · rw [if_pos hx]
      obtain ⟨v1, a1, s1, e1, r1, b1, c1⟩ := next_some hw 9 a s (by omega) (by omega) (by omega)
      obtain ⟨v2, a2, s2, e2, b2, c2⟩ := chance_some hw 3 a1 s1 (by omega) (by omega) c1
      obtain ⟨o, e3, o3⟩ := one_ok v1 (by omega) v2
      obtain ⟨v4, a4, s4, e4, b4, c4⟩ := chance_some hw 3 a2 s2 (by omega) (by omega) c2
      have w : wrap64 (x - 1) = x - 1 := wrap_id (by omega) (by omega)
      simp only [e1, e2, e3, e4, Option.bind_some, w]
      cases v4
      · rw [if_neg (by decide), spec_behind (ok5_in h8) (ok5_in o3)]
        exact ih k (x - 1) a4 s4 (behindV v o) (by omega) (by omega) (by omega) (by omega) (by omega) c4.1 c4.2 (behind_ok h8 o3)
      · rw [if_pos rfl]
        exact ih k (x - 1) a4 s4 (eitherV v o) (by omega) (by omega) (by omega) (by omega) (by omega) c4.1 c4.2 (either_ok h8 o3)
    · rw [if_neg hx]
      exact ⟨v, _, _, rfl, h8⟩
theorem sumDrawn_some {l : List Int} (hw : ∀ x ∈ l, (Lit.int .u8 x).wf = true) (k : Nat) (hk : 6 ≤ k) :
    ∃ v : Sum5, spec_SummaryDrawn.f k l = some (v.1, v.2.1, v.2.2.1, v.2.2.2.1, v.2.2.2.2) ∧ ok5 v := by
  unfold spec_SummaryDrawn.f spec_l00Source.f spec_l00Src_summary.f
  simp only [Option.bind_some]
  obtain ⟨v1, a1, s1, e1, r1, b1, c1⟩ := next_some hw 9 0 ((l.length : Int) % 1000) (by omega) (by omega) (by omega)
  obtain ⟨v2, a2, s2, e2, b2, c2⟩ := chance_some hw 3 a1 s1 (by omega) (by omega) c1
  obtain ⟨o, e3, o3⟩ := one_ok v1 (by omega) v2
  obtain ⟨v4, a4, s4, e4, r4, b4, c4⟩ := next_some hw 5 a2 s2 (by omega) (by omega) c2
  obtain ⟨v', a', s', e5, ok⟩ := sum_loop hw 5 k v4 a4 s4 o (by omega) r4.1 (by omega) (by omega) (by omega) c4.1 c4.2 o3
  simp only [e1, e2, e3, e4, Option.bind_some, e5]
  exact ⟨v', rfl, ok⟩

theorem behind_told {a b : Sum5} (ha : ok5 a) (hb : ok5 b) (k : Nat) (hk : 3 ≤ k) : impl_Behind.f k a.1 a.2.1 a.2.2.1 a.2.2.2.1 a.2.2.2.2 b.1 b.2.1 b.2.2.1 b.2.2.2.1 b.2.2.2.2 = some ((behindV a b).1, (behindV a b).2.1, (behindV a b).2.2.1, (behindV a b).2.2.2.1, (behindV a b).2.2.2.2, 0) := by
  have ha' : sumOKb a.1 a.2.1 a.2.2.1 a.2.2.2.1 a.2.2.2.2 = true := ha
  have hb' : sumOKb b.1 b.2.1 b.2.2.1 b.2.2.2.1 b.2.2.2.2 = true := hb
  unfold impl_Behind.f
  rw [areSum_eq _ (by simp) _ (by simp; omega)]
  simp only [Option.bind_some, List.all_cons, List.all_nil, Bool.and_true, sumb, ha', hb', if_true]
  rw [impl_behind1 (ok5_in ha) (ok5_in hb) k (by omega)]
  rfl
theorem spec_told {a b : Sum5} (ha : ok5 a) (hb : ok5 b) : spec_Behind.f a.1 a.2.1 a.2.2.1 a.2.2.2.1 a.2.2.2.2 b.1 b.2.1 b.2.2.1 b.2.2.2.1 b.2.2.2.2 = some ((behindV a b).1, (behindV a b).2.1, (behindV a b).2.2.1, (behindV a b).2.2.2.1, (behindV a b).2.2.2.2, 0) := by
  have ha' : sumOKb a.1 a.2.1 a.2.2.1 a.2.2.2.1 a.2.2.2.2 = true := ha
  have hb' : sumOKb b.1 b.2.1 b.2.2.1 b.2.2.2.1 b.2.2.2.2 = true := hb
  unfold spec_Behind.f
  rw [sums_eq, sums_eq, ha', hb']
  simp only [Option.bind_some, if_true]
  rw [spec_behind (ok5_in ha) (ok5_in hb)]
  rfl
theorem either_told {a b : Sum5} (ha : ok5 a) (hb : ok5 b) (k : Nat) (hk : 3 ≤ k) : impl_Either.f k a.1 a.2.1 a.2.2.1 a.2.2.2.1 a.2.2.2.2 b.1 b.2.1 b.2.2.1 b.2.2.2.1 b.2.2.2.2 = some ((eitherV a b).1, (eitherV a b).2.1, (eitherV a b).2.2.1, (eitherV a b).2.2.2.1, (eitherV a b).2.2.2.2, 0) := by
  have ha' : sumOKb a.1 a.2.1 a.2.2.1 a.2.2.2.1 a.2.2.2.2 = true := ha
  have hb' : sumOKb b.1 b.2.1 b.2.2.1 b.2.2.2.1 b.2.2.2.2 = true := hb
  unfold impl_Either.f
  rw [areSum_eq _ (by simp) _ (by simp; omega)]
  simp only [Option.bind_some, List.all_cons, List.all_nil, Bool.and_true, sumb, ha', hb', if_true]
  rfl
theorem spec_either_told {a b : Sum5} (ha : ok5 a) (hb : ok5 b) : spec_Either.f a.1 a.2.1 a.2.2.1 a.2.2.2.1 a.2.2.2.2 b.1 b.2.1 b.2.2.1 b.2.2.2.1 b.2.2.2.2 = some ((eitherV a b).1, (eitherV a b).2.1, (eitherV a b).2.2.1, (eitherV a b).2.2.2.1, (eitherV a b).2.2.2.2, 0) := by
  have ha' : sumOKb a.1 a.2.1 a.2.2.1 a.2.2.2.1 a.2.2.2.2 = true := ha
  have hb' : sumOKb b.1 b.2.1 b.2.2.1 b.2.2.2.1 b.2.2.2.2 = true := hb
  unfold spec_Either.f
  rw [sums_eq, sums_eq, ha', hb']
  rfl
def nil5 : Sum5 := (0, 0, -1, -1, -1)
theorem nil_ok : ok5 nil5 := by
  show sumOKb 0 0 (-1) (-1) (-1) = true
  decide
theorem nil_behind {a : Sum5} (ha : ok5 a) : behindV nil5 a = a := by
  have i := ok5_in ha
  obtain ⟨a0, a1, a2, a3, a4⟩ := a
  have h := of_decide_eq_true ha
  simp only at h
  unfold behindV nil5
  simp only [Prod.mk.injEq]
  have c0 := plus_cases 0 a0
  have c1 := plus_cases 0 a1
  have c2 := plus_cases 0 a2
  have c3 := plus_cases (-1) a1
  have c4 := plus_cases (-1) a2
  have m2 := mx_cases (-1) (plusV 0 a2)
  have m3 := mx_cases a3 (plusV (-1) a1)
  have m4 := mx_cases (-1) a4
  have m5 := mx_cases (mx (-1) a4) (plusV (-1) a2)
  refine ⟨by omega, by omega, by omega, by omega, by omega⟩
theorem behind_nil {a : Sum5} (ha : ok5 a) : behindV a nil5 = a := by
  obtain ⟨a0, a1, a2, a3, a4⟩ := a
  have h := of_decide_eq_true ha
  simp only at h
  unfold behindV nil5
  simp only [Prod.mk.injEq]
  have c0 := plus_cases a0 0
  have c1 := plus_cases a1 0
  have c2 := plus_cases a1 (-1)
  have c3 := plus_cases a3 0
  have c4 := plus_cases a3 (-1)
  have m2 := mx_cases a2 (plusV a1 (-1))
  have m3 := mx_cases (-1) (plusV a3 0)
  have m4 := mx_cases a4 (-1)
  have m5 := mx_cases (mx a4 (-1)) (plusV a3 (-1))
  refine ⟨by omega, by omega, by omega, by omega, by omega⟩
def tV (a : Sum5) : Nat → Sum5
  | 0 => nil5
  | n + 1 => behindV (tV a n) a
theorem tV_ok {a : Sum5} (ha : ok5 a) : ∀ n, ok5 (tV a n)
  | 0 => nil_ok
  | n + 1 => behind_ok (tV_ok ha n) ha
theorem rep_from {a : Sum5} (ha : ok5 a) (n : Nat) (hn : n ≤ 20) : ∀ (d k i : Nat), n - i ≤ d → i ≤ n → d + 5 ≤ k →
    impl_repeated.l0 k (n : Int) (i : Int) a.1 a.2.1 a.2.2.1 a.2.2.2.1 a.2.2.2.2 (tV a i).1 (tV a i).2.1 (tV a i).2.2.1 (tV a i).2.2.2.1 (tV a i).2.2.2.2 = some (tV a n) := by
  intro d
  induction d with
  | zero =>
    intro k i hd hi hk
    obtain ⟨k, rfl⟩ : ∃ m, k = m + 1 := ⟨k - 1, by omega⟩
    have e : i = n := by omega
    subst e
    simp only [impl_repeated.l0]
    rw [if_neg (by omega)]
  | succ d ih =>
    intro k i hd hi hk
    obtain ⟨k, rfl⟩ : ∃ m, k = m + 1 := ⟨k - 1, by omega⟩
    by_cases h : i < n
    · simp only [impl_repeated.l0]
      rw [if_pos (by omega), impl_behind1 (ok5_in (tV_ok ha i)) (ok5_in ha) k (by omega)]
      simp only [Option.bind_some]
      have ew : wrap64 ((i : Int) + 1) = ((i + 1 : Nat) : Int) := by unfold wrap64; omega
      rw [ew]
      exact ih k (i + 1) (by omega) (by omega) (by omega)
    · have e : i = n := by omega
      subst e
      simp only [impl_repeated.l0]
      rw [if_neg (by omega)]
theorem times_told {a : Sum5} (ha : ok5 a) (n : Nat) (hn : n ≤ 20) (k : Nat) (hk : 30 ≤ k) : impl_Times.f k a.1 a.2.1 a.2.2.1 a.2.2.2.1 a.2.2.2.2 (n : Int) = some ((tV a n).1, (tV a n).2.1, (tV a n).2.2.1, (tV a n).2.2.2.1, (tV a n).2.2.2.2, 0) := by
  have ha' : sumOKb a.1 a.2.1 a.2.2.1 a.2.2.2.1 a.2.2.2.2 = true := ha
  have e : decide (0 ≤ (n : Int) ∧ (n : Int) ≤ 20) = true := decide_eq_true (by omega)
  have r := rep_from ha n hn 20 k 0 (by omega) (by omega) (by omega)
  unfold impl_Times.f
  rw [areSum_eq _ (by simp) _ (by simp; omega)]
  simp only [Option.bind_some, List.all_cons, List.all_nil, Bool.and_true, sumb, ha', if_true, within_eq, when_eq, e, Bool.not_true, Bool.false_eq_true, if_false]
  rw [first_eq _ (by simp) _ (by simp; omega)]
  simp only [Option.bind_some, fnz]
  unfold impl_repeated.f impl_oneCost.f
  simp only [Bool.false_eq_true, if_false, Option.bind_some]
  have r' : impl_repeated.l0 k (n : Int) 0 a.1 a.2.1 a.2.2.1 a.2.2.2.1 a.2.2.2.2 0 0 (-1) (-1) (-1) = some (tV a n) := r
  rw [r']
  rfl
theorem FnSummaries : laws_FnSummaries.Pure := by
  intro x0 x1 _ hl0 h0 _ _ h1
  have h7 : ∀ x ∈ ([7] : List Int) ++ x0, (Lit.int .u8 x).wf = true := by
    intro x hx
    rcases List.mem_append.1 hx with h | h
    · rw [List.mem_singleton.1 h]; rfl
    · exact h0 x h
  obtain ⟨a, da, oa⟩ := sumDrawn_some h0 100 (by omega)
  obtain ⟨b, db, ob⟩ := sumDrawn_some h1 100 (by omega)
  obtain ⟨c, dc, oc⟩ := sumDrawn_some h7 100 (by omega)
  obtain ⟨n, hn, n0, n1⟩ := at_some h1 0 8 (by omega) (by omega) (by omega)
  obtain ⟨m, rfl⟩ : ∃ m : Nat, n = (m : Int) := ⟨n.toNat, by omega⟩
  have ew : wrap64 ((m : Int) + 1) = ((m + 1 : Nat) : Int) := by unfold wrap64; omega
  have f1 := behind_told oa ob 100 (by omega)
  have f2 := behind_told (behind_ok oa ob) oc 100 (by omega)
  rw [behind_assoc] at f2
  have f3 := behind_told ob oc 100 (by omega)
  have f4 := behind_told oa (behind_ok ob oc) 100 (by omega)
  have f5 := spec_told oa ob
  have f6 : impl_OneCost.f 0 false = some (nil5.1, nil5.2.1, nil5.2.2.1, nil5.2.2.2.1, nil5.2.2.2.2, 0) := by
    unfold impl_OneCost.f impl_isTime.f
    simp only [within_eq, Option.bind_some]
    rfl
  have f7 := behind_told nil_ok oa 100 (by omega)
  rw [nil_behind oa] at f7
  have f8 := behind_told oa nil_ok 100 (by omega)
  rw [behind_nil oa] at f8
  have f10 := times_told oa m (by omega) 100 (by omega)
  have f11 := times_told oa (m + 1) (by omega) 100 (by omega)
  have f12 := behind_told (tV_ok oa m) oa 100 (by omega)
  rw [show behindV (tV a m) a = tV a (m + 1) from rfl] at f12
  have f13 := either_told oa ob 100 (by omega)
  have f14 := either_told ob oa 100 (by omega)
  rw [either_comm b a] at f14
  have f15 := spec_either_told oa ob
  have okL := behind_ok oa (behind_ok ob oc)
  have okO := either_ok oa ob
  have okT := tV_ok oa m
  unfold ok5 at okL okO okT
  generalize tV a (m + 1) = T1 at *
  generalize tV a m = T0 at *
  generalize behindV a (behindV b c) = L at *
  generalize behindV a b = ab at *
  generalize behindV b c = bc at *
  generalize eitherV a b = o at *
  generalize nil5 = z at *
  have hlen : ([7] : List Int).length + x0.length < 140737488355328 := by simp; omega
  have go : laws_FnSummaries.j0 101 x0 x1 false = some true := by
    simp only [laws_FnSummaries.j0, Bool.false_eq_true, if_false, da, db, Option.bind_some, if_pos hlen, dc, f1, f2, f3, f4, f5, f6, f7, f8, hn, ew, f10, f11, f12, f13, f14, f15, if_true, beq_self_eq_true, Bool.and_self, impl_SummaryOK.f, okL, okO, okT]
  refine ⟨101, ?_⟩
  unfold laws_FnSummaries.f
  have gt : laws_FnSummaries.j0 101 x0 x1 true = some true := by simp only [laws_FnSummaries.j0, if_true]
  split
  · exact gt
  · cases decide ((x1.length : Int) > 1048576)
    · exact go
    · exact gt


end Go.Proofs.Ytagfalmpanlabaa.Pure

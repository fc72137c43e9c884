/- Proved: the pure statement behind the law FnBlocks of the given program: for every input that the row lets in, the program's answer and the reference's agree and the law returns true. Conditions: none beyond the row's own. -/
import Derived.Test.YtjgdfbcjlebniaaDoorMFnBlocksx9
set_option linter.unusedVariables false
set_option linter.unusedSimpArgs false
namespace Go.Proofs.YtjgdfbcjlebniaaDoor.Pure
open Go.RowKit Go.Proofs.YtjgdfbcjlebniaaDoor.MFnBlocks Go.Proofs.YtjgdfbcjlebniaaDoorW.PrintWords Go.Proofs.YtjgdfbcjlebniaaDoorW.PrintLast

theorem within_eq (a lo hi : Int) : impl_within.f a lo hi = some (decide (lo ≤ a ∧ a ≤ hi)) := by
  unfold impl_within.f
  by_cases h : a ≥ lo
  · have h' : lo ≤ a := h
    simp [h, h']
  · have h' : ¬ lo ≤ a := h
    simp [h, h']

theorem l01In_eq (a lo hi : Int) : spec_l01In.f a lo hi = some (decide (lo ≤ a ∧ a ≤ hi)) := by
  unfold spec_l01In.f
  by_cases h : a ≥ lo
  · have h' : lo ≤ a := h
    simp [h, h']
  · have h' : ¬ lo ≤ a := h
    simp [h, h']

theorem isValue_eq (a : Int) : impl_isValue.f a = some (decide (-2147483648 ≤ a ∧ a ≤ 2147483647)) := by
  unfold impl_isValue.f; rw [within_eq]; rfl

theorem when_eq (b : Bool) (c : Int) : impl_when.f b c = some (if b = true then c else 0) := by
  unfold impl_when.f
  split <;> rfl

/-- The first number of a list that is not 0; else 0. -/
def fnz : List Int → Int
  | [] => 0
  | a :: l => if a = 0 then fnz l else a

theorem first_from (l : List Int) (hl : l.length ≤ 1000) : ∀ (d k i : Nat), l.length - i ≤ d → d < k → i ≤ l.length → impl_first.l0 k l l.length (i : Int) = some (fnz (l.drop i)) := by
  intro d
  induction d with
  | zero =>
    intro k i hd hk hi
    obtain ⟨k, rfl⟩ : ∃ m, k = m + 1 := ⟨k - 1, by omega⟩
    simp only [impl_first.l0]
    rw [if_neg (by omega), List.drop_of_length_le (by omega)]
    rfl
  | succ d ih =>
    intro k i hd hk hi
    obtain ⟨k, rfl⟩ : ∃ m, k = m + 1 := ⟨k - 1, by omega⟩
    simp only [impl_first.l0]
    by_cases h : i < l.length
    · have hw : wrap64 ((i : Int) + 1) = ((i + 1 : Nat) : Int) := by unfold wrap64; omega
      rw [hw, ih k (i + 1) (by omega) (by omega) (by omega)]
      have e : rd l (i : Int) = l[i] := by simp [rd, List.getD_eq_getElem?_getD, h]
      rw [List.drop_eq_getElem_cons h, e]
      rw [if_pos (by omega), if_pos (by omega), if_pos (by omega)]
      simp only [fnz]
      split <;> rfl
    · rw [if_neg (by omega), List.drop_of_length_le (by omega)]
      rfl

theorem first_eq (l : List Int) (hl : l.length ≤ 1000) (k : Nat) (hk : l.length < k) : impl_first.f k l = some (fnz l) := by
  unfold impl_first.f
  have h := first_from l hl l.length k 0 (by omega) hk (by omega)
  simpa using h

def fbokb (kind : Int) (on : Bool) (start count : Int) : Bool :=
  if kind = 1 then decide (0 ≤ start ∧ start ≤ 2147483647 ∧ 0 ≤ count ∧ count ≤ 2147483647 ∧ (on = true ∨ (start = 0 ∧ count = 0)))
  else if kind = 2 then decide (start = 0 ∧ 0 ≤ count ∧ count ≤ 2147483647)
  else if kind = 3 ∨ kind = 4 then decide (start = 0 ∧ count = 0) else false
theorem isTime_eq (a : Int) : impl_isTime.f a = some (decide (0 ≤ a ∧ a ≤ 2147483647)) := by
  unfold impl_isTime.f; rw [within_eq]; rfl
theorem impl_fbok (k : Nat) (hk : 1 ≤ k) (a : Int) (b : Bool) (c d : Int) : impl_FbOK.f k a b c d = some (fbokb a b c d) := by
  obtain ⟨k, rfl⟩ : ∃ m, k = m + 1 := ⟨k - 1, by omega⟩
  unfold impl_FbOK.f fbokb
  simp only [isTime_eq, Option.bind_some, impl_FbOK.j0]
  by_cases p : 0 ≤ c ∧ c ≤ 2147483647
  · by_cases q : 0 ≤ d ∧ d ≤ 2147483647
    · by_cases h1 : a = 1
      · cases b
        · by_cases c0 : c = 0
          · by_cases d0 : d = 0 <;> simp [p, q, h1, c0, d0]
          · simp [p, q, h1, c0]
        · simp [p, q, h1]
      · by_cases h2 : a = 2
        · subst h2
          by_cases c0 : c = 0 <;> simp [p, q, c0]
        · by_cases h3 : a = 3
          · subst h3
            by_cases c0 : c = 0 <;> simp [p, q, c0]
            by_cases d0 : d = 0 <;> simp [d0]
          · by_cases h4 : a = 4
            · subst h4
              by_cases c0 : c = 0 <;> simp [p, q, c0]
              by_cases d0 : d = 0 <;> simp [d0]
            · simp [p, q, h1, h2, h3, h4]
    · have e : (decide (0 ≤ d ∧ d ≤ 2147483647)) = false := by simpa using q
      have z : ¬ d = 0 := by omega
      simp [p, e, z]
      intros
      omega
  · have e : (decide (0 ≤ c ∧ c ≤ 2147483647)) = false := by simpa using p
    have z : ¬ c = 0 := by omega
    simp [e, z]
    intros
    omega

/-- A valid block steps; nothing is refused. -/
theorem stepOK (k : Nat) (hk : 3 ≤ k) (kd : Int) (o : Bool) (s c : Int) (a b : Bool) (n now : Int) (h1 : fbokb kd o s c = true) (h2 : -2147483648 ≤ n ∧ n ≤ 2147483647) (h3 : 0 ≤ now ∧ now ≤ 2147483647) :
    impl_StepBlock.f k kd o s c a b n now = (impl_Fb_step.f kd o s c a b n now).bind fun t => some (t.2.1, t.2.2.1, t.2.2.2.1, t.2.2.2.2, t.1, 0) := by
  unfold impl_StepBlock.f
  simp only [impl_fbok k (by omega), isTime_eq, isValue_eq, when_eq, Option.bind_some, h1, decide_eq_true h2, decide_eq_true h3, if_true, Bool.not_true, Bool.false_eq_true, if_false]
  rw [first_eq _ (by simp) _ (by simp; omega)]
  simp [fnz]
theorem newFb_eq (k : Int) (h : 1 ≤ k ∧ k ≤ 4) : impl_NewFb.f k = some (k, false, 0, 0, 0) := by
  unfold impl_NewFb.f impl_isFbKind.f
  simp only [within_eq, Option.bind_some, decide_eq_true h, if_true]

theorem wrap_id {x : Int} (h1 : -9223372036854775808 ≤ x) (h2 : x ≤ 9223372036854775807) : wrap64 x = x := by unfold wrap64; omega

theorem u8_bounds {x : Int} (h : (Lit.int .u8 x).wf = true) : 0 ≤ x ∧ x ≤ 255 := by
  simp only [Lit.wf, IntKind.min, IntKind.max, IntKind.signed, IntKind.bits, Bool.and_eq_true, decide_eq_true_eq] at h
  simp at h
  omega
theorem rd_u8 {l : List Int} (hw : ∀ x ∈ l, (Lit.int .u8 x).wf = true) (i : Int) : 0 ≤ rd l i ∧ rd l i ≤ 255 := by
  unfold rd
  rw [List.getD_eq_getElem?_getD]
  by_cases h : i.toNat < l.length
  · rw [List.getElem?_eq_getElem h]
    exact u8_bounds (hw _ (List.getElem_mem h))
  · rw [List.getElem?_eq_none (by omega)]
    exact ⟨by decide, by decide⟩
theorem tmod_range {a b : Int} (ha : 0 ≤ a) (hb : 0 < b) : 0 ≤ Int.tmod a b ∧ Int.tmod a b < b := ⟨Int.tmod_nonneg _ ha, Int.tmod_lt_of_pos _ hb⟩
theorem tdiv_range {a b : Int} (ha : 0 ≤ a) (hb : 0 < b) : 0 ≤ Int.tdiv a b ∧ Int.tdiv a b ≤ a := by
  rw [Int.tdiv_eq_ediv_of_nonneg ha]
  exact ⟨Int.ediv_nonneg ha (by omega), Int.ediv_le_self _ ha⟩


theorem at_some {l : List Int} (hw : ∀ x ∈ l, (Lit.int .u8 x).wf = true) (a n : Int) (ha : 0 ≤ a) (ha2 : a ≤ 100000) (hn : 1 ≤ n) : ∃ r, laws_at.f l a n = some r ∧ 0 ≤ r ∧ r < n := by
  unfold laws_at.f
  by_cases h1 : n ≤ 1
  · exact ⟨0, by rw [if_pos h1], by omega, by omega⟩
  · rw [if_neg h1]
    have hn0 : ¬ n = 0 := by omega
    by_cases h2 : (l.length : Int) = 0
    · rw [if_pos h2, if_neg hn0]
      have e : wrap64 (a * 7) = a * 7 := wrap_id (by omega) (by omega)
      rw [e]
      have := tmod_range (a := a * 7) (b := n) (by omega) (by omega)
      exact ⟨_, rfl, this.1, this.2⟩
    · rw [if_neg h2, if_neg hn0]
      have hL : 0 < (l.length : Int) := by omega
      have e1 : wrap64 (a + 1) = a + 1 := wrap_id (by omega) (by omega)
      rw [e1]
      have t1 := tmod_range ha hL
      have t2 := tmod_range (a := a + 1) (by omega) hL
      rw [if_pos t1.1, if_pos t1.2, if_pos t2.1, if_pos t2.2]
      have r1 := rd_u8 hw (Int.tmod a (l.length : Int))
      have r2 := rd_u8 hw (Int.tmod (a + 1) (l.length : Int))
      have d := tdiv_range ha hL
      generalize rd l (Int.tmod a (l.length : Int)) = x at *
      generalize rd l (Int.tmod (a + 1) (l.length : Int)) = y at *
      generalize Int.tdiv a (l.length : Int) = z at *
      have e : wrap64 ((wrap64 ((wrap64 ((wrap64 x) * 31)) + (wrap64 y))) + (wrap64 z)) = x * 31 + y + z := by
        unfold wrap64; omega
      rw [e]
      have t3 := tmod_range (a := x * 31 + y + z) (b := n) (by omega) (by omega)
      exact ⟨_, rfl, t3.1, t3.2⟩

theorem byte_some {l : List Int} (hw : ∀ x ∈ l, (Lit.int .u8 x).wf = true) (a s : Int) (ha : 0 ≤ a ∧ a ≤ 1000000) (hs : 0 ≤ s ∧ s ≤ 2147483647) :
    ∃ v s', spec_l00Src_byte.f l a s = some (v, a + 1, s') ∧ (0 ≤ v ∧ v ≤ 255) ∧ 0 ≤ s' ∧ s' ≤ 2147483647 := by
  have w1 : wrap64 (a + 1) = a + 1 := wrap_id (by omega) (by omega)
  have w2 : wrap64 ((a + 1) - 1) = a := by unfold wrap64; omega
  unfold spec_l00Src_byte.f
  rw [w1, w2]
  by_cases h : a + 1 ≤ (l.length : Int)
  · rw [if_pos h, if_pos ha.1, if_pos (by omega)]
    have hr := rd_u8 hw a
    generalize rd l a = x at *
    have w3 : wrap64 x = x := wrap_id (by omega) (by omega)
    have w4 : wrap64 ((wrap64 ((wrap64 (s * 31)) + x)) + 7) = s * 31 + x + 7 := by unfold wrap64; omega
    rw [w3, w4]
    have t := tmod_range (a := s * 31 + x + 7) (b := 2147483648) (by omega) (by omega)
    exact ⟨_, _, rfl, hr, t.1, by omega⟩
  · rw [if_neg h]
    by_cases h2 : a + 1 > 3000
    · rw [if_pos h2]
      exact ⟨_, _, rfl, ⟨by omega, by omega⟩, hs⟩
    · rw [if_neg h2]
      have w3 : wrap64 ((wrap64 (s * 1103515245)) + 12345) = s * 1103515245 + 12345 := by unfold wrap64; omega
      rw [w3]
      have t := tmod_range (a := s * 1103515245 + 12345) (b := 2147483648) (by omega) (by omega)
      generalize Int.tmod (s * 1103515245 + 12345) 2147483648 = y at *
      have t2 := tdiv_range (a := y) (b := 65536) t.1 (by omega)
      generalize Int.tdiv y 65536 = z at *
      have w4 : wrap64 z = z := wrap_id (by omega) (by omega)
      rw [w4]
      have t3 := tmod_range (a := z) (b := 256) t2.1 (by omega)
      exact ⟨_, _, rfl, ⟨t3.1, by omega⟩, t.1, by omega⟩
theorem next_some {l : List Int} (hw : ∀ x ∈ l, (Lit.int .u8 x).wf = true) (n a s : Int) (hn : 1 ≤ n) (ha : 0 ≤ a ∧ a ≤ 999990) (hs : 0 ≤ s ∧ s ≤ 2147483647) :
    ∃ v a' s', spec_l00Src_next.f l a s n = some (v, a', s') ∧ (0 ≤ v ∧ v < n) ∧ (a ≤ a' ∧ a' ≤ a + 3) ∧ 0 ≤ s' ∧ s' ≤ 2147483647 := by
  unfold spec_l00Src_next.f
  by_cases h1 : n ≤ 1
  · rw [if_pos h1]
    exact ⟨_, _, _, rfl, ⟨by omega, by omega⟩, ⟨by omega, by omega⟩, hs⟩
  · rw [if_neg h1]
    have hn0 : ¬ n = 0 := by omega
    obtain ⟨v1, s1, e1, b1, c1⟩ := byte_some hw a s (by omega) hs
    by_cases h2 : n ≤ 256
    · rw [if_pos h2, e1]
      simp only [Option.bind_some]
      rw [if_neg hn0]
      have t := tmod_range (a := v1) (b := n) b1.1 (by omega)
      exact ⟨_, _, _, rfl, t, ⟨by omega, by omega⟩, c1⟩
    · rw [if_neg h2, e1]
      obtain ⟨v2, s2, e2, b2, c2⟩ := byte_some hw (a + 1) s1 (by omega) c1
      obtain ⟨v3, s3, e3, b3, c3⟩ := byte_some hw (a + 1 + 1) s2 (by omega) c2
      simp only [Option.bind_some, e2, e3]
      rw [if_neg hn0]
      have w : wrap64 ((wrap64 ((wrap64 (v1 * 65536)) + (wrap64 (v2 * 256)))) + v3) = v1 * 65536 + v2 * 256 + v3 := by unfold wrap64; omega
      rw [w]
      have t := tmod_range (a := v1 * 65536 + v2 * 256 + v3) (b := n) (by omega) (by omega)
      exact ⟨_, _, _, rfl, t, ⟨by omega, by omega⟩, c3⟩

theorem fb_keep (k : Int) (o : Bool) (s c : Int) (a b : Bool) (n now : Int) (h : fbokb k o s c = true) (hn : 0 ≤ n ∧ n ≤ 1000) (hw : 0 ≤ now ∧ now ≤ 1000) :
    ∃ o' s' c' q, spec_l03Step.f k o s c a b n now = some (k, o', s', c', q) ∧ fbokb k o' s' c' = true := by
  by_cases h1 : k = 1
  · subst h1
    unfold fbokb at h
    rw [if_pos rfl] at h
    have h := of_decide_eq_true h
    have hc : ∀ x : Int, 0 ≤ mn (mx x 0) (mx n 0) ∧ mn (mx x 0) (mx n 0) ≤ 2147483647 := by
      intro x; unfold mn mx; repeat' split
      all_goals omega
    unfold spec_l03Step.f spec_l03Timer.f
    simp only [if_true]
    cases a
    · exact ⟨false, 0, 0, false, rfl, by decide⟩
    · cases o
      · refine ⟨_, _, _, _, rfl, ?_⟩
        have := hc (wrap64 (now - now))
        unfold fbokb
        rw [if_pos rfl]
        exact decide_eq_true ⟨show 0 ≤ now by omega, show now ≤ 2147483647 by omega, this.1, this.2, Or.inl rfl⟩
      · refine ⟨_, _, _, _, rfl, ?_⟩
        have := hc (wrap64 (now - s))
        unfold fbokb
        rw [if_pos rfl]
        exact decide_eq_true ⟨show 0 ≤ s by omega, show s ≤ 2147483647 by omega, this.1, this.2, Or.inl rfl⟩
  · by_cases h2 : k = 2
    · subst h2
      unfold fbokb at h
      rw [if_neg (by decide), if_pos rfl] at h
      have h := of_decide_eq_true h
      have ok : ∀ (o' : Bool) (c' : Int), 0 ≤ c' → c' ≤ 2147483647 → fbokb 2 o' s c' = true := by
        intro o' c' p q
        unfold fbokb
        rw [if_neg (by decide), if_pos rfl]
        exact decide_eq_true ⟨h.1, p, q⟩
      have hc : 0 ≤ mn (wrap64 (c + 1)) 2147483647 ∧ mn (wrap64 (c + 1)) 2147483647 ≤ 2147483647 := by
        have e : wrap64 (c + 1) = c + 1 := wrap_id (by omega) (by omega)
        rw [e]
        unfold mn
        split <;> omega
      unfold spec_l03Step.f spec_l03Counter.f
      rw [if_neg (by decide)]
      simp only [if_true]
      cases b
      · cases a
        · cases o <;> exact ⟨_, _, _, _, rfl, ok _ _ h.2.1 h.2.2⟩
        · cases o
          · exact ⟨_, _, _, _, rfl, ok _ _ hc.1 hc.2⟩
          · exact ⟨_, _, _, _, rfl, ok _ _ h.2.1 h.2.2⟩
      · cases a <;> cases o <;> exact ⟨_, _, _, _, rfl, ok _ 0 (by omega) (by omega)⟩
    · have hs : ∀ o', fbokb k o' s c = true := by
        intro o'
        unfold fbokb at h ⊢
        rw [if_neg h1, if_neg h2] at h ⊢
        exact h
      unfold spec_l03Step.f
      rw [if_neg h1, if_neg h2]
      by_cases h3 : k = 3
      · rw [if_pos h3]
        cases a <;> exact ⟨_, _, _, _, rfl, hs _⟩
      · rw [if_neg h3]
        cases a <;> cases o <;> exact ⟨_, _, _, _, rfl, hs _⟩
theorem chance_some {l : List Int} (hw : ∀ x ∈ l, (Lit.int .u8 x).wf = true) (n a s : Int) (hn : 1 ≤ n) (ha : 0 ≤ a ∧ a ≤ 999990) (hs : 0 ≤ s ∧ s ≤ 2147483647) :
    ∃ v a' s', spec_l00Src_chance.f l a s n = some (v, a', s') ∧ (a ≤ a' ∧ a' ≤ a + 3) ∧ 0 ≤ s' ∧ s' ≤ 2147483647 := by
  obtain ⟨v, a', s', e, _, h2, h3⟩ := next_some hw n a s hn ha hs
  unfold spec_l00Src_chance.f
  rw [e]
  exact ⟨_, a', s', rfl, h2, h3⟩
theorem fb_loop {l : List Int} (hw : ∀ x ∈ l, (Lit.int .u8 x).wf = true) (kd : Int) : ∀ (d k : Nat) (x a s : Int) (o : Bool) (st c : Int), x ≤ d → 0 ≤ x → d < k → 0 ≤ a → a + 12 * x ≤ 99999 → 0 ≤ s → s ≤ 2147483647 → fbokb kd o st c = true →
    ∃ o' st' c' a' s', spec_l00Src_fb.l0 k x l a s kd o st c = some (kd, o', st', c', a', s') ∧ fbokb kd o' st' c' = true := by
  intro d
  induction d with
  | zero =>
    intro k x a s o st c h1 h2 h3 h4 h5 h6 h7 h8
    obtain ⟨k, rfl⟩ : ∃ m, k = m + 1 := ⟨k - 1, by omega⟩
    simp only [spec_l00Src_fb.l0]
    rw [if_neg (by omega)]
    exact ⟨_, _, _, _, _, rfl, h8⟩
  | succ d ih =>
    intro k x a s o st c h1 h2 h3 h4 h5 h6 h7 h8
    obtain ⟨k, rfl⟩ : ∃ m, k = m + 1 := ⟨k - 1, by omega⟩
    simp only [spec_l00Src_fb.l0]
    by_cases hx : x > 0
    · rw [if_pos hx]
      obtain ⟨v1, a1, s1, e1, b1, c1⟩ := chance_some hw 2 a s (by omega) (by omega) (by omega)
      obtain ⟨v2, a2, s2, e2, b2, c2⟩ := chance_some hw 4 a1 s1 (by omega) (by omega) c1
      obtain ⟨v3, a3, s3, e3, r3, b3, c3⟩ := next_some hw 20 a2 s2 (by omega) (by omega) c2
      obtain ⟨v4, a4, s4, e4, r4, b4, c4⟩ := next_some hw 50 a3 s3 (by omega) (by omega) c3
      obtain ⟨o', st', c', q, e5, ok⟩ := fb_keep kd o st c v1 v2 v3 v4 h8 (by omega) (by omega)
      simp only [e1, e2, e3, e4, e5, Option.bind_some]
      have w : wrap64 (x - 1) = x - 1 := wrap_id (by omega) (by omega)
      rw [w]
      exact ih k (x - 1) a4 s4 o' st' c' (by omega) (by omega) (by omega) (by omega) (by omega) c4.1 c4.2 ok
    · rw [if_neg hx]
      exact ⟨_, _, _, _, _, rfl, h8⟩
theorem fbDrawn_some {l : List Int} (hw : ∀ x ∈ l, (Lit.int .u8 x).wf = true) (k : Nat) (hk : 5 ≤ k) :
    ∃ kd o st c, spec_FbDrawn.f k l = some (kd, o, st, c) ∧ fbokb kd o st c = true ∧ 1 ≤ kd ∧ kd ≤ 4 := by
  unfold spec_FbDrawn.f spec_l00Source.f spec_l00Src_fb.f
  simp only [Option.bind_some]
  obtain ⟨v1, a1, s1, e1, r1, b1, c1⟩ := next_some hw 4 0 ((l.length : Int) % 1000) (by omega) (by omega) (by omega)
  obtain ⟨v2, a2, s2, e2, r2, b2, c2⟩ := next_some hw 4 a1 s1 (by omega) (by omega) c1
  have w : wrap64 (1 + v1) = 1 + v1 := wrap_id (by omega) (by omega)
  have ok : fbokb (1 + v1) false 0 0 = true := by
    have : v1 = 0 ∨ v1 = 1 ∨ v1 = 2 ∨ v1 = 3 := by omega
    rcases this with rfl | rfl | rfl | rfl <;> decide
  obtain ⟨o', st', c', a', s', e3, ok2⟩ := fb_loop hw (1 + v1) 4 k v2 a2 s2 false 0 0 (by omega) r2.1 (by omega) (by omega) (by omega) c2.1 c2.2 ok
  simp only [e1, e2, Option.bind_some, w, e3]
  exact ⟨_, _, _, _, rfl, ok2, by omega, by omega⟩

def nkf (kept x y : Bool) : Bool := if x = true then true else if kept = true then !y else false
def qf (old x : Bool) : Bool := if x = true then !old else false
def addf (q : Bool) (r : Int) : Int := if q = true then wrap64 (r + 1) else r
theorem lat_ok (k : Int) (hk : k = 3 ∨ k = 4) (o : Bool) : fbokb k o 0 0 = true := by
  rcases hk with rfl | rfl <;> cases o <;> decide
theorem takes_same (kd : Int) (h1 : 1 ≤ kd) (h2 : kd ≤ 4) : ∃ b, impl_TakesOf.f kd = some (b, 0) ∧ spec_TakesOf.f kd = some (b, 0) := by
  have hh : kd = 1 ∨ kd = 2 ∨ kd = 3 ∨ kd = 4 := by omega
  rcases hh with rfl | rfl | rfl | rfl
  · refine ⟨⟨#[98, 105]⟩, rfl, ?_⟩
    unfold spec_TakesOf.f spec_l03Kind.f spec_l03Takes.f
    simp only [l01In_eq, Option.bind_some]
    rw [show wrap64 ((1 : Int) - 1) = 0 by unfold wrap64; omega]
    rfl
  · refine ⟨⟨#[98, 98, 105]⟩, rfl, ?_⟩
    unfold spec_TakesOf.f spec_l03Kind.f spec_l03Takes.f
    simp only [l01In_eq, Option.bind_some]
    rw [show wrap64 ((2 : Int) - 1) = 1 by unfold wrap64; omega]
    rfl
  · refine ⟨⟨#[98]⟩, rfl, ?_⟩
    unfold spec_TakesOf.f spec_l03Kind.f spec_l03Takes.f
    simp only [l01In_eq, Option.bind_some]
    rw [show wrap64 ((3 : Int) - 1) = 2 by unfold wrap64; omega]
    rfl
  · refine ⟨⟨#[98, 98]⟩, rfl, ?_⟩
    unfold spec_TakesOf.f spec_l03Kind.f spec_l03Takes.f
    simp only [l01In_eq, Option.bind_some]
    rw [show wrap64 ((4 : Int) - 1) = 3 by unfold wrap64; omega]
    rfl
theorem blk_iter (k : Nat) (hk : 2 ≤ k) (x0 x1 : List Int) (r i p q : Int) (old kept : Bool) (hp : laws_at.f x0 i 2 = some p) (hq : laws_at.f x1 i 3 = some q) (h0 : 0 ≤ i) (hi : i < 16) :
    laws_FnBlocks.l0 (k + 1 + 1 + 1 + 1 + 1) x0 x1 r r old kept i 3 old 0 0 4 kept 0 0 = laws_FnBlocks.l0 k x0 x1 (addf (qf old (p == 1)) r) (addf (qf old (p == 1)) r) (p == 1) (nkf kept (p == 1) (q == 2)) (wrap64 (i + 1)) 3 (p == 1) 0 0 4 (nkf kept (p == 1) (q == 2)) 0 0 := by
  have e3 : ∀ x, impl_StepBlock.f (k + 1) 3 old 0 0 x false 0 i = some (3, x, 0, 0, qf old x, 0) := by
    intro x
    rw [stepOK (k + 1) (by omega) _ _ _ _ _ _ _ _ (lat_ok 3 (Or.inl rfl) old) (by omega) (by omega)]
    unfold impl_Fb_step.f qf
    cases x <;> rfl
  have e4 : ∀ x y, impl_StepBlock.f (k + 1) 4 kept 0 0 x y 0 i = some (4, nkf kept x y, 0, 0, nkf kept x y, 0) := by
    intro x y
    rw [stepOK (k + 1) (by omega) _ _ _ _ _ _ _ _ (lat_ok 4 (Or.inr rfl) kept) (by omega) (by omega)]
    unfold impl_Fb_step.f nkf
    cases x <;> cases kept <;> rfl
  have tail : ∀ (x y : Bool) (u : Int), laws_FnBlocks.j4 (k + 1 + 1 + 1) x0 x1 u r kept i x y 3 old 0 0 4 kept 0 0 = laws_FnBlocks.l0 k x0 x1 u (addf (qf old x) r) x (nkf kept x y) (wrap64 (i + 1)) 3 x 0 0 4 (nkf kept x y) 0 0 := by
    intro x y u
    have s5 : laws_FnBlocks.j4 (k + 1 + 1 + 1) x0 x1 u r kept i x y 3 old 0 0 4 kept 0 0 = laws_FnBlocks.j5 (k + 1 + 1) x0 x1 u r x (nkf kept x y) i x y 3 old 0 0 4 kept 0 0 := by
      conv => lhs; unfold laws_FnBlocks.j4
      unfold nkf
      cases x <;> cases kept <;> rfl
    rw [s5]
    conv => lhs; unfold laws_FnBlocks.j5
    simp only [e3, e4, Option.bind_some, if_true, bne_self_eq_false]
    conv => lhs; unfold laws_FnBlocks.j6
    unfold addf
    cases qf old x <;> rfl
  have s3 : laws_FnBlocks.l0 (k + 1 + 1 + 1 + 1 + 1) x0 x1 r r old kept i 3 old 0 0 4 kept 0 0 = laws_FnBlocks.j3 (k + 1 + 1 + 1 + 1) x0 x1 r r kept i (p == 1) (q == 2) (qf old (p == 1)) 3 old 0 0 4 kept 0 0 := by
    conv => lhs; unfold laws_FnBlocks.l0
    rw [if_pos hi, hp, hq]
    simp only [Option.bind_some]
    unfold qf
    by_cases c1 : p = 1
    · rw [if_pos c1, c1]; rfl
    · have e1 : (p == 1) = false := by simpa using c1
      rw [if_neg c1, e1]; rfl
  rw [s3]
  conv => lhs; unfold laws_FnBlocks.j3
  rw [tail, tail]
  generalize qf old (p == 1) = z
  cases z <;> rfl
theorem blk_loop (x0 x1 : List Int) (h0 : ∀ x ∈ x0, (Lit.int .u8 x).wf = true) (h1 : ∀ x ∈ x1, (Lit.int .u8 x).wf = true) (d : Nat) :
    ∀ (k : Nat) (i r : Int) (old kept : Bool), 16 - i ≤ d → 5 * d + 8 ≤ k → 0 ≤ i → i ≤ 16 → laws_FnBlocks.l0 k x0 x1 r r old kept i 3 old 0 0 4 kept 0 0 = some true := by
  induction d with
  | zero =>
    intro k i r old kept hd hk h2 h3
    obtain ⟨k, rfl⟩ : ∃ m, k = m + 1 := ⟨k - 1, by omega⟩
    obtain ⟨kd, o, st, c, e, ok, k1, k2⟩ := fbDrawn_some h0 k (by omega)
    have ok2 : DFbText.fbokb kd o st c = true := ok
    obtain ⟨b, t1, t2⟩ := takes_same kd k1 k2
    conv => lhs; unfold laws_FnBlocks.l0
    rw [if_neg (by omega), e]
    unfold impl_FbText.f spec_FbText.f
    simp only [Option.bind_some, ok2, t1, t2, if_true]
    simp
  | succ d ih =>
    intro k i r old kept hd hk h2 h3
    by_cases hi : i < 16
    · obtain ⟨k, rfl⟩ : ∃ m, k = m + 1 + 1 + 1 + 1 + 1 := ⟨k - 5, by omega⟩
      have w1 : wrap64 (i + 1) = i + 1 := wrap_id (by omega) (by omega)
      obtain ⟨p, hp, p0, p1⟩ := at_some h0 i 2 (by omega) (by omega) (by omega)
      obtain ⟨q, hq, q0, q1⟩ := at_some h1 i 3 (by omega) (by omega) (by omega)
      rw [blk_iter k (by omega) x0 x1 r i p q old kept hp hq h2 hi, w1]
      exact ih k (i + 1) _ _ _ (by omega) (by omega) (by omega) (by omega)
    · obtain ⟨k, rfl⟩ : ∃ m, k = m + 1 := ⟨k - 1, by omega⟩
      obtain ⟨kd, o, st, c, e, ok, k1, k2⟩ := fbDrawn_some h0 k (by omega)
      have ok2 : DFbText.fbokb kd o st c = true := ok
      obtain ⟨b, t1, t2⟩ := takes_same kd k1 k2
      conv => lhs; unfold laws_FnBlocks.l0
      rw [if_neg (by omega), e]
      unfold impl_FbText.f spec_FbText.f
      simp only [Option.bind_some, ok2, t1, t2, if_true]
      simp
theorem FnBlocks : laws_FnBlocks.Pure := by
  intro x0 x1 _ _ h0 _ _ h1
  have e3 : impl_NewFb.f 3 = some (3, false, 0, 0, 0) := newFb_eq 3 (by omega)
  have e4 : impl_NewFb.f 4 = some (4, false, 0, 0, 0) := newFb_eq 4 (by omega)
  have hl := blk_loop x0 x1 h0 h1 16 100 0 0 false false (by omega) (by omega) (by omega) (by omega)
  refine ⟨102, ?_⟩
  have j : ∀ b, laws_FnBlocks.j0 102 x0 x1 b = some true := by
    intro b
    simp only [laws_FnBlocks.j0, e3, e4, Option.bind_some, if_true, laws_FnBlocks.j1, bne_self_eq_false, Bool.false_eq_true, if_false, hl]
    cases b <;> rfl
  unfold laws_FnBlocks.f
  rw [j, j]
  simp


end Go.Proofs.YtjgdfbcjlebniaaDoor.Pure

/- Proved: the pure statement behind the law FnCounter of the given program: for every input that the row lets in, the program's answer and the reference's agree and the law returns true. Conditions: none beyond the row's own. -/
import Derived.Test.YtohnenadkilaiaaMFnCounterx3
set_option linter.unusedVariables false
set_option linter.unusedSimpArgs false
namespace Go.Proofs.Ytohnenadkilaiaa.Pure
open Go.RowKit Go.Proofs.Ytohnenadkilaiaa.MFnCounter Go.Proofs.YtohnenadkilaiaaW.PrintWords Go.Proofs.YtohnenadkilaiaaW.PrintLast

theorem within_eq (a lo hi : Int) : impl_within.f a lo hi = some (decide (lo ≤ a ∧ a ≤ hi)) := by
  unfold impl_within.f
  by_cases h : a ≥ lo
  · have h' : lo ≤ a := h
    simp [h, h']
  · have h' : ¬ lo ≤ a := h
    simp [h, h']

theorem isValue_eq (a : Int) : impl_isValue.f a = some (decide (-2147483648 ≤ a ∧ a ≤ 2147483647)) := by
  unfold impl_isValue.f; rw [within_eq]; rfl

theorem when_eq (b : Bool) (c : Int) : impl_when.f b c = some (if b = true then c else 0) := by
  unfold impl_when.f
  split <;> rfl

/-- The first number of a list that is not 0; else 0. -/
def fnz : List Int → Int
  | [] => 0
  | a :: l => if a = 0 then fnz l else a

theorem first_from (l : List Int) (hl : l.length ≤ 1000) : ∀ (d k i : Nat), l.length - i ≤ d → d < k → i ≤ l.length → impl_first.l0 k l l.length (i : Int) = some (fnz (l.drop i)) := by
  intro d
  induction d with
  | zero =>
    intro k i hd hk hi
    obtain ⟨k, rfl⟩ : ∃ m, k = m + 1 := ⟨k - 1, by omega⟩
    simp only [impl_first.l0]
    rw [if_neg (by omega), List.drop_of_length_le (by omega)]
    rfl
  | succ d ih =>
    intro k i hd hk hi
    obtain ⟨k, rfl⟩ : ∃ m, k = m + 1 := ⟨k - 1, by omega⟩
    simp only [impl_first.l0]
    by_cases h : i < l.length
    · have hw : wrap64 ((i : Int) + 1) = ((i + 1 : Nat) : Int) := by unfold wrap64; omega
      rw [hw, ih k (i + 1) (by omega) (by omega) (by omega)]
      have e : rd l (i : Int) = l[i] := by simp [rd, List.getD_eq_getElem?_getD, h]
      rw [List.drop_eq_getElem_cons h, e]
      rw [if_pos (by omega), if_pos (by omega), if_pos (by omega)]
      simp only [fnz]
      split <;> rfl
    · rw [if_neg (by omega), List.drop_of_length_le (by omega)]
      rfl

theorem first_eq (l : List Int) (hl : l.length ≤ 1000) (k : Nat) (hk : l.length < k) : impl_first.f k l = some (fnz l) := by
  unfold impl_first.f
  have h := first_from l hl l.length k 0 (by omega) hk (by omega)
  simpa using h

def fbokb (kind : Int) (on : Bool) (start count : Int) : Bool :=
  if kind = 1 then decide (0 ≤ start ∧ start ≤ 2147483647 ∧ 0 ≤ count ∧ count ≤ 2147483647 ∧ (on = true ∨ (start = 0 ∧ count = 0)))
  else if kind = 2 then decide (start = 0 ∧ 0 ≤ count ∧ count ≤ 2147483647)
  else if kind = 3 ∨ kind = 4 then decide (start = 0 ∧ count = 0) else false
theorem isTime_eq (a : Int) : impl_isTime.f a = some (decide (0 ≤ a ∧ a ≤ 2147483647)) := by
  unfold impl_isTime.f; rw [within_eq]; rfl
theorem impl_fbok (k : Nat) (hk : 1 ≤ k) (a : Int) (b : Bool) (c d : Int) : impl_FbOK.f k a b c d = some (fbokb a b c d) := by
  obtain ⟨k, rfl⟩ : ∃ m, k = m + 1 := ⟨k - 1, by omega⟩
  unfold impl_FbOK.f fbokb
  simp only [isTime_eq, Option.bind_some, impl_FbOK.j0]
  by_cases p : 0 ≤ c ∧ c ≤ 2147483647
  · by_cases q : 0 ≤ d ∧ d ≤ 2147483647
    · by_cases h1 : a = 1
      · cases b
        · by_cases c0 : c = 0
          · by_cases d0 : d = 0 <;> simp [p, q, h1, c0, d0]
          · simp [p, q, h1, c0]
        · simp [p, q, h1]
      · by_cases h2 : a = 2
        · subst h2
          by_cases c0 : c = 0 <;> simp [p, q, c0]
        · by_cases h3 : a = 3
          · subst h3
            by_cases c0 : c = 0 <;> simp [p, q, c0]
            by_cases d0 : d = 0 <;> simp [d0]
          · by_cases h4 : a = 4
            · subst h4
              by_cases c0 : c = 0 <;> simp [p, q, c0]
              by_cases d0 : d = 0 <;> simp [d0]
            · simp [p, q, h1, h2, h3, h4]
    · have e : (decide (0 ≤ d ∧ d ≤ 2147483647)) = false := by simpa using q
      have z : ¬ d = 0 := by omega
      simp [p, e, z]
      intros
      omega
  · have e : (decide (0 ≤ c ∧ c ≤ 2147483647)) = false := by simpa using p
    have z : ¬ c = 0 := by omega
    simp [e, z]
    intros
    omega

/-- A valid block steps; nothing is refused. -/
theorem stepOK (k : Nat) (hk : 3 ≤ k) (kd : Int) (o : Bool) (s c : Int) (a b : Bool) (n now : Int) (h1 : fbokb kd o s c = true) (h2 : -2147483648 ≤ n ∧ n ≤ 2147483647) (h3 : 0 ≤ now ∧ now ≤ 2147483647) :
    impl_StepBlock.f k kd o s c a b n now = (impl_Fb_step.f kd o s c a b n now).bind fun t => some (t.2.1, t.2.2.1, t.2.2.2.1, t.2.2.2.2, t.1, 0) := by
  unfold impl_StepBlock.f
  simp only [impl_fbok k (by omega), isTime_eq, isValue_eq, when_eq, Option.bind_some, h1, decide_eq_true h2, decide_eq_true h3, if_true, Bool.not_true, Bool.false_eq_true, if_false]
  rw [first_eq _ (by simp) _ (by simp; omega)]
  simp [fnz]
theorem newFb_eq (k : Int) (h : 1 ≤ k ∧ k ≤ 4) : impl_NewFb.f k = some (k, false, 0, 0, 0) := by
  unfold impl_NewFb.f impl_isFbKind.f
  simp only [within_eq, Option.bind_some, decide_eq_true h, if_true]
theorem valueOK (k : Nat) (hk : 1 ≤ k) (kd : Int) (o : Bool) (s c : Int) (h : fbokb kd o s c = true) : impl_ValueOf.f k kd o s c = some (c, 0) := by
  unfold impl_ValueOf.f
  simp only [impl_fbok k hk, Option.bind_some, h, if_true]

theorem wrap_id {x : Int} (h1 : -9223372036854775808 ≤ x) (h2 : x ≤ 9223372036854775807) : wrap64 x = x := by unfold wrap64; omega

theorem u8_bounds {x : Int} (h : (Lit.int .u8 x).wf = true) : 0 ≤ x ∧ x ≤ 255 := by
  simp only [Lit.wf, IntKind.min, IntKind.max, IntKind.signed, IntKind.bits, Bool.and_eq_true, decide_eq_true_eq] at h
  simp at h
  omega
theorem rd_u8 {l : List Int} (hw : ∀ x ∈ l, (Lit.int .u8 x).wf = true) (i : Int) : 0 ≤ rd l i ∧ rd l i ≤ 255 := by
  unfold rd
  rw [List.getD_eq_getElem?_getD]
  by_cases h : i.toNat < l.length
  · rw [List.getElem?_eq_getElem h]
    exact u8_bounds (hw _ (List.getElem_mem h))
  · rw [List.getElem?_eq_none (by omega)]
    exact ⟨by decide, by decide⟩
theorem tmod_range {a b : Int} (ha : 0 ≤ a) (hb : 0 < b) : 0 ≤ Int.tmod a b ∧ Int.tmod a b < b := ⟨Int.tmod_nonneg _ ha, Int.tmod_lt_of_pos _ hb⟩
theorem tdiv_range {a b : Int} (ha : 0 ≤ a) (hb : 0 < b) : 0 ≤ Int.tdiv a b ∧ Int.tdiv a b ≤ a := by
  rw [Int.tdiv_eq_ediv_of_nonneg ha]
  exact ⟨Int.ediv_nonneg ha (by omega), Int.ediv_le_self _ ha⟩

theorem at_some {l : List Int} (hw : ∀ x ∈ l, (Lit.int .u8 x).wf = true) (a n : Int) (ha : 0 ≤ a) (ha2 : a ≤ 100000) (hn : 1 ≤ n) : ∃ r, laws_at.f l a n = some r ∧ 0 ≤ r ∧ r < n := by
  unfold laws_at.f
  by_cases h1 : n ≤ 1
  · exact ⟨0, by rw [if_pos h1], by omega, by omega⟩
  · rw [if_neg h1]
    have hn0 : ¬ n = 0 := by omega
    by_cases h2 : (l.length : Int) = 0
    · rw [if_pos h2, if_neg hn0]
      have e : wrap64 (a * 7) = a * 7 := wrap_id (by omega) (by omega)
      rw [e]
      have := tmod_range (a := a * 7) (b := n) (by omega) (by omega)
      exact ⟨_, rfl, this.1, this.2⟩
    · rw [if_neg h2, if_neg hn0]
      have hL : 0 < (l.length : Int) := by omega
      have e1 : wrap64 (a + 1) = a + 1 := wrap_id (by omega) (by omega)
      rw [e1]
      have t1 := tmod_range ha hL
      have t2 := tmod_range (a := a + 1) (by omega) hL
      rw [if_pos t1.1, if_pos t1.2, if_pos t2.1, if_pos t2.2]
      have r1 := rd_u8 hw (Int.tmod a (l.length : Int))
      have r2 := rd_u8 hw (Int.tmod (a + 1) (l.length : Int))
      have d := tdiv_range ha hL
      generalize rd l (Int.tmod a (l.length : Int)) = x at *
      generalize rd l (Int.tmod (a + 1) (l.length : Int)) = y at *
      generalize Int.tdiv a (l.length : Int) = z at *
      have e : wrap64 ((wrap64 ((wrap64 ((wrap64 x) * 31)) + (wrap64 y))) + (wrap64 z)) = x * 31 + y + z := by
        unfold wrap64; omega
      rw [e]
      have t3 := tmod_range (a := x * 31 + y + z) (b := n) (by omega) (by omega)
      exact ⟨_, rfl, t3.1, t3.2⟩

theorem cnt_ok (o : Bool) (c : Int) (h : 0 ≤ c ∧ c ≤ 2147483647) : fbokb 2 o 0 c = true := by
  unfold fbokb
  simp [h]
def nextC (a b o : Bool) (c : Int) : Int := if b = true then 0 else if a = true then (if o = true then c else c + 1) else c
theorem nextC_range (a b o : Bool) (c : Int) (h : 0 ≤ c) : 0 ≤ nextC a b o c ∧ nextC a b o c ≤ c + 1 := by
  unfold nextC
  cases a <;> cases b <;> cases o <;> simp <;> omega
theorem cnt_step (a b o : Bool) (c n now : Int) (h : 0 ≤ c ∧ c ≤ 100) : impl_Fb_step.f 2 o 0 c a b n now = some (decide (nextC a b o c ≥ n), 2, a, 0, nextC a b o c) := by
  have e : wrap64 (c + 1) = c + 1 := wrap_id (by omega) (by omega)
  have e2 : mn (c + 1) 2147483647 = c + 1 := by unfold mn; rw [if_neg (by omega)]
  unfold impl_Fb_step.f nextC
  rw [e, e2]
  cases a <;> cases b <;> cases o <;> simp
theorem cnt_j2 (k : Nat) (hk : 3 ≤ k) (x0 x1 : List Int) (set i c : Int) (a b o : Bool) (hs : 0 ≤ set ∧ set < 5) (hi : 0 ≤ i ∧ i ≤ 20) (hc : 0 ≤ c ∧ c ≤ 100) :
    laws_FnCounter.j2 (k + 1) x0 x1 set (nextC a b o c) i a b 2 o 0 c = laws_FnCounter.l0 k x0 x1 set (nextC a b o c) a (wrap64 (i + 1)) 2 a 0 (nextC a b o c) := by
  have hr := nextC_range a b o c hc.1
  simp only [laws_FnCounter.j2]
  rw [stepOK k hk _ _ _ _ _ _ _ _ (cnt_ok o c (by omega)) (by omega) (by omega), cnt_step a b o c set i hc]
  simp only [Option.bind_some, valueOK k (by omega) _ _ _ _ (cnt_ok a (nextC a b o c) (by omega)), bne_self_eq_false, if_true, Bool.false_eq_true, if_false]
theorem cnt_loop (x0 x1 : List Int) (h0 : ∀ x ∈ x0, (Lit.int .u8 x).wf = true) (h1 : ∀ x ∈ x1, (Lit.int .u8 x).wf = true) (set : Int) (hs : 0 ≤ set ∧ set < 5) (d : Nat) :
    ∀ (k : Nat) (i c : Int) (o : Bool), 20 - i ≤ d → 2 * d + 6 ≤ k → 0 ≤ i → i ≤ 20 → 0 ≤ c → c ≤ i → laws_FnCounter.l0 k x0 x1 set c o i 2 o 0 c = some true := by
  induction d with
  | zero =>
    intro k i c o hd hk h2 h3 _ _
    obtain ⟨k, rfl⟩ : ∃ m, k = m + 1 := ⟨k - 1, by omega⟩
    simp only [laws_FnCounter.l0]
    rw [if_neg (by omega)]
  | succ d ih =>
    intro k i c o hd hk h2 h3 h4 h5
    obtain ⟨k, rfl⟩ : ∃ m, k = m + 1 + 1 := ⟨k - 2, by omega⟩
    by_cases hi : i < 20
    · have w1 : wrap64 (i + 1) = i + 1 := wrap_id (by omega) (by omega)
      obtain ⟨p, hp, p0, p1⟩ := at_some h0 i 2 (by omega) (by omega) (by omega)
      obtain ⟨q, hq, q0, q1⟩ := at_some h1 (i + 1) 7 (by omega) (by omega) (by omega)
      have go : laws_FnCounter.l0 (k + 1 + 1) x0 x1 set c o i 2 o 0 c = laws_FnCounter.j2 (k + 1) x0 x1 set (nextC (p == 1) (q == 6) o c) i (p == 1) (q == 6) 2 o 0 c := by
        conv => lhs; unfold laws_FnCounter.l0
        rw [if_pos hi, w1, hp, hq]
        simp only [Option.bind_some]
        have w2 : wrap64 (c + 1) = c + 1 := wrap_id (by omega) (by omega)
        rw [w2]
        unfold nextC
        by_cases c6 : q = 6
        · rw [if_pos c6, c6]; rfl
        · have e6 : (q == 6) = false := by simpa using c6
          rw [if_neg c6, e6]
          by_cases c1 : p = 1
          · rw [if_pos c1, c1]; cases o <;> rfl
          · have e1 : (p == 1) = false := by simpa using c1
            rw [if_neg c1, e1]; rfl
      have hr := nextC_range (p == 1) (q == 6) o c h4
      rw [go, cnt_j2 k (by omega) x0 x1 set i c _ _ o hs (by omega) (by omega), w1]
      exact ih k (i + 1) _ _ (by omega) (by omega) (by omega) (by omega) hr.1 (by omega)
    · simp only [laws_FnCounter.l0]
      rw [if_neg hi]
theorem FnCounter : laws_FnCounter.Pure := by
  intro x0 x1 _ _ h0 _ _ h1
  obtain ⟨s, hs, s0, s1⟩ := at_some h1 0 5 (by omega) (by omega) (by omega)
  have e : impl_NewFb.f 2 = some (2, false, 0, 0, 0) := newFb_eq 2 (by omega)
  have hl := cnt_loop x0 x1 h0 h1 s ⟨s0, s1⟩ 20 60 0 0 false (by omega) (by omega) (by omega) (by omega) (by omega) (by omega)
  refine ⟨61, ?_⟩
  have j : ∀ b, laws_FnCounter.j0 61 x0 x1 b = some true := by
    intro b
    simp only [laws_FnCounter.j0, e, hs, Option.bind_some, if_true, hl]
    cases b <;> rfl
  unfold laws_FnCounter.f
  rw [j, j]
  simp


end Go.Proofs.Ytohnenadkilaiaa.Pure

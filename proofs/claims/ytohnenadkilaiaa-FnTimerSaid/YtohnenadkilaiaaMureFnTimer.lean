/- Proved: the pure statement behind the law FnTimer of the given program: for every input that the row lets in, the program's answer and the reference's agree and the law returns true. Conditions: none beyond the row's own. -/
import Derived.Test.YtohnenadkilaiaaMFnTimerx3
set_option linter.unusedVariables false
set_option linter.unusedSimpArgs false
namespace Go.Proofs.Ytohnenadkilaiaa.Pure
open Go.RowKit Go.Proofs.Ytohnenadkilaiaa.MFnTimer Go.Proofs.YtohnenadkilaiaaW.PrintWords Go.Proofs.YtohnenadkilaiaaW.PrintLast

theorem within_eq (a lo hi : Int) : impl_within.f a lo hi = some (decide (lo ≤ a ∧ a ≤ hi)) := by
  unfold impl_within.f
  by_cases h : a ≥ lo
  · have h' : lo ≤ a := h
    simp [h, h']
  · have h' : ¬ lo ≤ a := h
    simp [h, h']

theorem isValue_eq (a : Int) : impl_isValue.f a = some (decide (-2147483648 ≤ a ∧ a ≤ 2147483647)) := by
  unfold impl_isValue.f; rw [within_eq]; rfl

theorem when_eq (b : Bool) (c : Int) : impl_when.f b c = some (if b = true then c else 0) := by
  unfold impl_when.f
  split <;> rfl

/-- The first number of a list that is not 0; else 0. -/
def fnz : List Int → Int
  | [] => 0
  | a :: l => if a = 0 then fnz l else a

theorem first_from (l : List Int) (hl : l.length ≤ 1000) : ∀ (d k i : Nat), l.length - i ≤ d → d < k → i ≤ l.length → impl_first.l0 k l l.length (i : Int) = some (fnz (l.drop i)) := by
  intro d
  induction d with
  | zero =>
    intro k i hd hk hi
    obtain ⟨k, rfl⟩ : ∃ m, k = m + 1 := ⟨k - 1, by omega⟩
    simp only [impl_first.l0]
    rw [if_neg (by omega), List.drop_of_length_le (by omega)]
    rfl
  | succ d ih =>
    intro k i hd hk hi
    obtain ⟨k, rfl⟩ : ∃ m, k = m + 1 := ⟨k - 1, by omega⟩
    simp only [impl_first.l0]
    by_cases h : i < l.length
    · have hw : wrap64 ((i : Int) + 1) = ((i + 1 : Nat) : Int) := by unfold wrap64; omega
      rw [hw, ih k (i + 1) (by omega) (by omega) (by omega)]
      have e : rd l (i : Int) = l[i] := by simp [rd, List.getD_eq_getElem?_getD, h]
      rw [List.drop_eq_getElem_cons h, e]
      rw [if_pos (by omega), if_pos (by omega), if_pos (by omega)]
      simp only [fnz]
      split <;> rfl
    · rw [if_neg (by omega), List.drop_of_length_le (by omega)]
      rfl

theorem first_eq (l : List Int) (hl : l.length ≤ 1000) (k : Nat) (hk : l.length < k) : impl_first.f k l = some (fnz l) := by
  unfold impl_first.f
  have h := first_from l hl l.length k 0 (by omega) hk (by omega)
  simpa using h

def fbokb (kind : Int) (on : Bool) (start count : Int) : Bool :=
  if kind = 1 then decide (0 ≤ start ∧ start ≤ 2147483647 ∧ 0 ≤ count ∧ count ≤ 2147483647 ∧ (on = true ∨ (start = 0 ∧ count = 0)))
  else if kind = 2 then decide (start = 0 ∧ 0 ≤ count ∧ count ≤ 2147483647)
  else if kind = 3 ∨ kind = 4 then decide (start = 0 ∧ count = 0) else false
theorem isTime_eq (a : Int) : impl_isTime.f a = some (decide (0 ≤ a ∧ a ≤ 2147483647)) := by
  unfold impl_isTime.f; rw [within_eq]; rfl
theorem impl_fbok (k : Nat) (hk : 1 ≤ k) (a : Int) (b : Bool) (c d : Int) : impl_FbOK.f k a b c d = some (fbokb a b c d) := by
  obtain ⟨k, rfl⟩ : ∃ m, k = m + 1 := ⟨k - 1, by omega⟩
  unfold impl_FbOK.f fbokb
  simp only [isTime_eq, Option.bind_some, impl_FbOK.j0]
  by_cases p : 0 ≤ c ∧ c ≤ 2147483647
  · by_cases q : 0 ≤ d ∧ d ≤ 2147483647
    · by_cases h1 : a = 1
      · cases b
        · by_cases c0 : c = 0
          · by_cases d0 : d = 0 <;> simp [p, q, h1, c0, d0]
          · simp [p, q, h1, c0]
        · simp [p, q, h1]
      · by_cases h2 : a = 2
        · subst h2
          by_cases c0 : c = 0 <;> simp [p, q, c0]
        · by_cases h3 : a = 3
          · subst h3
            by_cases c0 : c = 0 <;> simp [p, q, c0]
            by_cases d0 : d = 0 <;> simp [d0]
          · by_cases h4 : a = 4
            · subst h4
              by_cases c0 : c = 0 <;> simp [p, q, c0]
              by_cases d0 : d = 0 <;> simp [d0]
            · simp [p, q, h1, h2, h3, h4]
    · have e : (decide (0 ≤ d ∧ d ≤ 2147483647)) = false := by simpa using q
      have z : ¬ d = 0 := by omega
      simp [p, e, z]
      intros
      omega
  · have e : (decide (0 ≤ c ∧ c ≤ 2147483647)) = false := by simpa using p
    have z : ¬ c = 0 := by omega
    simp [e, z]
    intros
    omega

/-- A valid block steps; nothing is refused. -/
theorem stepOK (k : Nat) (hk : 3 ≤ k) (kd : Int) (o : Bool) (s c : Int) (a b : Bool) (n now : Int) (h1 : fbokb kd o s c = true) (h2 : -2147483648 ≤ n ∧ n ≤ 2147483647) (h3 : 0 ≤ now ∧ now ≤ 2147483647) :
    impl_StepBlock.f k kd o s c a b n now = (impl_Fb_step.f kd o s c a b n now).bind fun t => some (t.2.1, t.2.2.1, t.2.2.2.1, t.2.2.2.2, t.1, 0) := by
  unfold impl_StepBlock.f
  simp only [impl_fbok k (by omega), isTime_eq, isValue_eq, when_eq, Option.bind_some, h1, decide_eq_true h2, decide_eq_true h3, if_true, Bool.not_true, Bool.false_eq_true, if_false]
  rw [first_eq _ (by simp) _ (by simp; omega)]
  simp [fnz]
theorem newFb_eq (k : Int) (h : 1 ≤ k ∧ k ≤ 4) : impl_NewFb.f k = some (k, false, 0, 0, 0) := by
  unfold impl_NewFb.f impl_isFbKind.f
  simp only [within_eq, Option.bind_some, decide_eq_true h, if_true]
theorem valueOK (k : Nat) (hk : 1 ≤ k) (kd : Int) (o : Bool) (s c : Int) (h : fbokb kd o s c = true) : impl_ValueOf.f k kd o s c = some (c, 0) := by
  unfold impl_ValueOf.f
  simp only [impl_fbok k hk, Option.bind_some, h, if_true]

theorem wrap_id {x : Int} (h1 : -9223372036854775808 ≤ x) (h2 : x ≤ 9223372036854775807) : wrap64 x = x := by unfold wrap64; omega

theorem u8_bounds {x : Int} (h : (Lit.int .u8 x).wf = true) : 0 ≤ x ∧ x ≤ 255 := by
  simp only [Lit.wf, IntKind.min, IntKind.max, IntKind.signed, IntKind.bits, Bool.and_eq_true, decide_eq_true_eq] at h
  simp at h
  omega
theorem rd_u8 {l : List Int} (hw : ∀ x ∈ l, (Lit.int .u8 x).wf = true) (i : Int) : 0 ≤ rd l i ∧ rd l i ≤ 255 := by
  unfold rd
  rw [List.getD_eq_getElem?_getD]
  by_cases h : i.toNat < l.length
  · rw [List.getElem?_eq_getElem h]
    exact u8_bounds (hw _ (List.getElem_mem h))
  · rw [List.getElem?_eq_none (by omega)]
    exact ⟨by decide, by decide⟩
theorem tmod_range {a b : Int} (ha : 0 ≤ a) (hb : 0 < b) : 0 ≤ Int.tmod a b ∧ Int.tmod a b < b := ⟨Int.tmod_nonneg _ ha, Int.tmod_lt_of_pos _ hb⟩
theorem tdiv_range {a b : Int} (ha : 0 ≤ a) (hb : 0 < b) : 0 ≤ Int.tdiv a b ∧ Int.tdiv a b ≤ a := by
  rw [Int.tdiv_eq_ediv_of_nonneg ha]
  exact ⟨Int.ediv_nonneg ha (by omega), Int.ediv_le_self _ ha⟩

theorem at_some {l : List Int} (hw : ∀ x ∈ l, (Lit.int .u8 x).wf = true) (a n : Int) (ha : 0 ≤ a) (ha2 : a ≤ 100000) (hn : 1 ≤ n) : ∃ r, laws_at.f l a n = some r ∧ 0 ≤ r ∧ r < n := by
  unfold laws_at.f
  by_cases h1 : n ≤ 1
  · exact ⟨0, by rw [if_pos h1], by omega, by omega⟩
  · rw [if_neg h1]
    have hn0 : ¬ n = 0 := by omega
    by_cases h2 : (l.length : Int) = 0
    · rw [if_pos h2, if_neg hn0]
      have e : wrap64 (a * 7) = a * 7 := wrap_id (by omega) (by omega)
      rw [e]
      have := tmod_range (a := a * 7) (b := n) (by omega) (by omega)
      exact ⟨_, rfl, this.1, this.2⟩
    · rw [if_neg h2, if_neg hn0]
      have hL : 0 < (l.length : Int) := by omega
      have e1 : wrap64 (a + 1) = a + 1 := wrap_id (by omega) (by omega)
      rw [e1]
      have t1 := tmod_range ha hL
      have t2 := tmod_range (a := a + 1) (by omega) hL
      rw [if_pos t1.1, if_pos t1.2, if_pos t2.1, if_pos t2.2]
      have r1 := rd_u8 hw (Int.tmod a (l.length : Int))
      have r2 := rd_u8 hw (Int.tmod (a + 1) (l.length : Int))
      have d := tdiv_range ha hL
      generalize rd l (Int.tmod a (l.length : Int)) = x at *
      generalize rd l (Int.tmod (a + 1) (l.length : Int)) = y at *
      generalize Int.tdiv a (l.length : Int) = z at *
      have e : wrap64 ((wrap64 ((wrap64 ((wrap64 x) * 31)) + (wrap64 y))) + (wrap64 z)) = x * 31 + y + z := by
        unfold wrap64; omega
      rw [e]
      have t3 := tmod_range (a := x * 31 + y + z) (b := n) (by omega) (by omega)
      exact ⟨_, rfl, t3.1, t3.2⟩

theorem tmr_ok (o : Bool) (s c : Int) (hs : 0 ≤ s ∧ s ≤ 2147483647) (hc : 0 ≤ c ∧ c ≤ 2147483647) (h : o = true ∨ (s = 0 ∧ c = 0)) : fbokb 1 o s c = true := by
  unfold fbokb
  rw [if_pos rfl]
  exact decide_eq_true ⟨hs.1, hs.2, hc.1, hc.2, h⟩
/-- Since when the input is true: -1 where it is false. -/
def sinceT (a : Bool) (since now : Int) : Int := if a = true then (if since < 0 then now else since) else -1
def onS (since : Int) : Bool := decide (0 ≤ since)
def stS (since : Int) : Int := if 0 ≤ since then since else 0
def ctT (since now n : Int) : Int := if 0 ≤ since then mn (now - since) n else 0
theorem ctT_range (since now n : Int) (h : since ≤ now) (hn : 0 ≤ n) : 0 ≤ ctT since now n ∧ ctT since now n ≤ n := by
  unfold ctT mn
  split
  · split <;> omega
  · omega
theorem tmr_step (a : Bool) (since c n now : Int) (h : -1 ≤ since ∧ since ≤ now) (hnow : 0 ≤ now ∧ now ≤ 1000) (hn : 0 ≤ n ∧ n ≤ 100) :
    impl_Fb_step.f 1 (onS since) (stS since) c a false n now = some (a && decide (now - sinceT a since now ≥ n), 1, a, stS (sinceT a since now), ctT (sinceT a since now) now n) := by
  have e0 : wrap64 (now - now) = 0 := by unfold wrap64; omega
  have m0 : mx 0 0 = 0 := by unfold mx; simp
  have m2 : mx n 0 = n := by unfold mx; rw [if_neg (by omega)]
  have m3 : mn 0 n = 0 := by unfold mn; rw [if_neg (by omega)]
  unfold impl_Fb_step.f
  rw [if_pos rfl, e0, m0, m2, m3]
  cases a
  · simp [sinceT, stS, ctT]
  · by_cases hs : 0 ≤ since
    · have e1 : wrap64 (now - since) = now - since := wrap_id (by omega) (by omega)
      have m1 : mx (now - since) 0 = now - since := by unfold mx; rw [if_neg (by omega)]
      have t1 : sinceT true since now = since := by unfold sinceT; rw [if_pos rfl, if_neg (by omega)]
      have t2 : stS since = since := by unfold stS; rw [if_pos hs]
      have t3 : ctT since now n = mn (now - since) n := by unfold ctT; rw [if_pos hs]
      have t4 : onS since = true := decide_eq_true hs
      have t5 : decide (mn (now - since) n ≥ n) = decide (now - since ≥ n) := by
        apply decide_eq_decide.mpr
        unfold mn
        split <;> omega
      rw [t1, t2, t3, t4, e1, m1, t5]
      rfl
    · have t1 : sinceT true since now = now := by unfold sinceT; rw [if_pos rfl, if_pos (by omega)]
      have t2 : stS now = now := by unfold stS; rw [if_pos (by omega)]
      have t3 : ctT now now n = 0 := by
        unfold ctT mn; rw [if_pos (by omega), if_neg (by omega)]; omega
      have t4 : onS since = false := decide_eq_false hs
      have t5 : decide (now - now ≥ n) = decide (0 ≥ n) := by apply decide_eq_decide.mpr; omega
      rw [t1, t2, t3, t4, t5]
      rfl
theorem on_since (a : Bool) (since now : Int) (h : 0 ≤ now) : onS (sinceT a since now) = a := by
  unfold onS sinceT
  cases a
  · rfl
  · simp
    split <;> omega
theorem since_range (a : Bool) (since now : Int) (h : -1 ≤ since ∧ since ≤ now) (h0 : 0 ≤ now) : -1 ≤ sinceT a since now ∧ sinceT a since now ≤ now := by
  unfold sinceT
  split
  · split <;> omega
  · omega
theorem tmr_j2 (k : Nat) (hk : 3 ≤ k) (x0 x1 : List Int) (set i c since now : Int) (a : Bool) (hs : 0 ≤ set ∧ set < 12) (hi : 0 ≤ i ∧ i ≤ 20) (hn : 0 ≤ now ∧ now ≤ 1000) (hsi : -1 ≤ since ∧ since ≤ now)
    (hc : 0 ≤ c ∧ c ≤ 100) (hc0 : since < 0 → c = 0) :
    laws_FnTimer.j2 (k + 1) x0 x1 set (sinceT a since now) now i a 1 (onS since) (stS since) c = laws_FnTimer.l0 k x0 x1 set (sinceT a since now) now (wrap64 (i + 1)) 1 a (stS (sinceT a since now)) (ctT (sinceT a since now) now set) := by
  have hr := since_range a since now hsi hn.1
  have hct := ctT_range (sinceT a since now) now set hr.2 hs.1
  have hst : 0 ≤ stS since ∧ stS since ≤ 1000 := by unfold stS; split <;> omega
  have hst2 : 0 ≤ stS (sinceT a since now) ∧ stS (sinceT a since now) ≤ 1000 := by unfold stS; split <;> omega
  have ok1 : fbokb 1 (onS since) (stS since) c = true := by
    apply tmr_ok _ _ _ (by omega) (by omega)
    by_cases h : 0 ≤ since
    · exact .inl (decide_eq_true h)
    · exact .inr ⟨by unfold stS; rw [if_neg h], hc0 (by omega)⟩
  have ok2 : fbokb 1 a (stS (sinceT a since now)) (ctT (sinceT a since now) now set) = true := by
    apply tmr_ok _ _ _ (by omega) (by omega)
    cases a
    · exact .inr ⟨by simp [stS, sinceT], by simp [ctT, sinceT]⟩
    · exact .inl rfl
  simp only [laws_FnTimer.j2]
  rw [stepOK k hk _ _ _ _ _ _ _ _ ok1 (by omega) (by omega), tmr_step a since c set now hsi hn (by omega)]
  simp only [Option.bind_some, valueOK k (by omega) _ _ _ _ ok2, impl_fbok k (by omega), ok2, if_true]
  cases a
  · simp [ctT, sinceT]
  · have hge : 0 ≤ sinceT true since now := by unfold sinceT; rw [if_pos rfl]; split <;> omega
    have e1 : wrap64 (now - sinceT true since now) = now - sinceT true since now := wrap_id (by omega) (by omega)
    have e2 : ctT (sinceT true since now) now set = mn (now - sinceT true since now) set := by unfold ctT; rw [if_pos hge]
    rw [e1, e2]
    simp only [Bool.true_and, bne_self_eq_false, Bool.false_eq_true, if_false, if_true]
theorem tmr_loop (x0 x1 : List Int) (h0 : ∀ x ∈ x0, (Lit.int .u8 x).wf = true) (h1 : ∀ x ∈ x1, (Lit.int .u8 x).wf = true) (set : Int) (hs : 0 ≤ set ∧ set < 12) (d : Nat) :
    ∀ (k : Nat) (i c since now : Int), 20 - i ≤ d → 2 * d + 6 ≤ k → 0 ≤ i → i ≤ 20 → 0 ≤ now → now ≤ 3 * i → -1 ≤ since → since ≤ now → 0 ≤ c → c ≤ 100 → (since < 0 → c = 0) → laws_FnTimer.l0 k x0 x1 set since now i 1 (onS since) (stS since) c = some true := by
  induction d with
  | zero =>
    intro k i c since now hd hk h2 h3 _ _ _ _ _ _ _
    obtain ⟨k, rfl⟩ : ∃ m, k = m + 1 := ⟨k - 1, by omega⟩
    simp only [laws_FnTimer.l0]
    rw [if_neg (by omega)]
  | succ d ih =>
    intro k i c since now hd hk h2 h3 h4 h5 h6 h7 h8 h9 h10
    obtain ⟨k, rfl⟩ : ∃ m, k = m + 1 + 1 := ⟨k - 2, by omega⟩
    by_cases hi : i < 20
    · have w1 : wrap64 (i + 1) = i + 1 := wrap_id (by omega) (by omega)
      obtain ⟨p, hp, p0, p1⟩ := at_some h0 i 4 (by omega) (by omega) (by omega)
      obtain ⟨q, hq, q0, q1⟩ := at_some h1 (i + 1) 4 (by omega) (by omega) (by omega)
      have w2 : wrap64 (now + p) = now + p := wrap_id (by omega) (by omega)
      have go : laws_FnTimer.l0 (k + 1 + 1) x0 x1 set since now i 1 (onS since) (stS since) c = laws_FnTimer.j2 (k + 1) x0 x1 set (sinceT (decide (q > 0)) since (now + p)) (now + p) i (decide (q > 0)) 1 (onS since) (stS since) c := by
        conv => lhs; unfold laws_FnTimer.l0
        rw [if_pos hi, w1, hp, hq]
        simp only [Option.bind_some]
        rw [w2]
        unfold sinceT
        by_cases c6 : q > 0
        · rw [if_pos c6]
          have e6 : decide (q > 0) = true := decide_eq_true c6
          rw [e6, if_pos rfl]
          by_cases c1 : since < 0
          · rw [if_pos c1, if_pos c1]
          · rw [if_neg c1, if_neg c1]
        · rw [if_neg c6]
          have e6 : decide (q > 0) = false := decide_eq_false c6
          rw [e6]; rfl
      have hr := since_range (decide (q > 0)) since (now + p) (by omega) (by omega)
      have hct := ctT_range (sinceT (decide (q > 0)) since (now + p)) (now + p) set hr.2 hs.1
      have hon := on_since (decide (q > 0)) since (now + p) (by omega)
      have hi2 := ih k (i + 1) (ctT (sinceT (decide (q > 0)) since (now + p)) (now + p) set) (sinceT (decide (q > 0)) since (now + p)) (now + p) (by omega) (by omega) (by omega) (by omega) (by omega) (by omega) hr.1 hr.2 hct.1 (by omega) (fun hl => by unfold ctT; rw [if_neg (by omega)])
      rw [hon] at hi2
      rw [go, tmr_j2 k (by omega) x0 x1 set i c since (now + p) _ hs (by omega) (by omega) (by omega) (by omega) h10, w1]
      exact hi2
    · simp only [laws_FnTimer.l0]
      rw [if_neg hi]
theorem FnTimer : laws_FnTimer.Pure := by
  intro x0 x1 _ _ h0 _ _ h1
  obtain ⟨s, hs, s0, s1⟩ := at_some h1 0 12 (by omega) (by omega) (by omega)
  have e : impl_NewFb.f 1 = some (1, false, 0, 0, 0) := newFb_eq 1 (by omega)
  have hl := tmr_loop x0 x1 h0 h1 s ⟨s0, s1⟩ 20 60 0 0 (-1) 0 (by omega) (by omega) (by omega) (by omega) (by omega) (by omega) (by omega) (by omega) (by omega) (by omega) (fun _ => rfl)
  have hl' : laws_FnTimer.l0 60 x0 x1 s (-1) 0 0 1 false 0 0 = some true := hl
  refine ⟨61, ?_⟩
  have j : ∀ b, laws_FnTimer.j0 61 x0 x1 b = some true := by
    intro b
    simp only [laws_FnTimer.j0, e, hs, Option.bind_some, if_true, hl']
    cases b <;> rfl
  unfold laws_FnTimer.f
  rw [j, j]
  simp


end Go.Proofs.Ytohnenadkilaiaa.Pure

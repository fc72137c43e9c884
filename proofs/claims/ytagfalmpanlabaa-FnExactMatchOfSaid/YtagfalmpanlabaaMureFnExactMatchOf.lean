/- Proved: the pure statement behind the law FnExactMatchOf of the given program: for every input that the row lets in, the program's answer and the reference's agree and the law returns true. Conditions: none beyond the row's own. -/
import Derived.Test.YtagfalmpanlabaaMFnExactMatchOfx3
set_option linter.unusedVariables false
set_option linter.unusedSimpArgs false
namespace Go.Proofs.Ytagfalmpanlabaa.Pure
open Go.RowKit Go.Proofs.Ytagfalmpanlabaa.MFnExactMatchOf Go.Proofs.YtagfalmpanlabaaW.PrintWords Go.Proofs.YtagfalmpanlabaaW.PrintLast

theorem within_eq (a lo hi : Int) : impl_within.f a lo hi = some (decide (lo ≤ a ∧ a ≤ hi)) := by
  unfold impl_within.f
  by_cases h : a ≥ lo
  · have h' : lo ≤ a := h
    simp [h, h']
  · have h' : ¬ lo ≤ a := h
    simp [h, h']

theorem when_eq (b : Bool) (c : Int) : impl_when.f b c = some (if b = true then c else 0) := by
  unfold impl_when.f
  split <;> rfl

/-- The first number of a list that is not 0; else 0. -/
def fnz : List Int → Int
  | [] => 0
  | a :: l => if a = 0 then fnz l else a

theorem first_from (l : List Int) (hl : l.length ≤ 1000) : ∀ (d k i : Nat), l.length - i ≤ d → d < k → i ≤ l.length → impl_first.l0 k l l.length (i : Int) = some (fnz (l.drop i)) := by
  intro d
  induction d with
  | zero =>
    intro k i hd hk hi
    obtain ⟨k, rfl⟩ : ∃ m, k = m + 1 := ⟨k - 1, by omega⟩
    simp only [impl_first.l0]
    rw [if_neg (by omega), List.drop_of_length_le (by omega)]
    rfl
  | succ d ih =>
    intro k i hd hk hi
    obtain ⟨k, rfl⟩ : ∃ m, k = m + 1 := ⟨k - 1, by omega⟩
    simp only [impl_first.l0]
    by_cases h : i < l.length
    · have hw : wrap64 ((i : Int) + 1) = ((i + 1 : Nat) : Int) := by unfold wrap64; omega
      rw [hw, ih k (i + 1) (by omega) (by omega) (by omega)]
      have e : rd l (i : Int) = l[i] := by simp [rd, List.getD_eq_getElem?_getD, h]
      rw [List.drop_eq_getElem_cons h, e]
      rw [if_pos (by omega), if_pos (by omega), if_pos (by omega)]
      simp only [fnz]
      split <;> rfl
    · rw [if_neg (by omega), List.drop_of_length_le (by omega)]
      rfl

theorem first_eq (l : List Int) (hl : l.length ≤ 1000) (k : Nat) (hk : l.length < k) : impl_first.f k l = some (fnz l) := by
  unfold impl_first.f
  have h := first_from l hl l.length k 0 (by omega) hk (by omega)
  simpa using h

/-- The program's instruction for the law's. -/
def cvI (x : S78) : S74 := ⟨x.f0, x.f1⟩
theorem toInstrS_from (l : List S78) (hl : l.length ≤ 1048576) : ∀ (d k i : Nat) (ys : List S74), l.length - i ≤ d → d < k → i ≤ l.length → ys.length = l.length → ys.take i = (l.take i).map cvI → laws_toInstrS.l0 k l ys (i : Int) = some (l.map cvI) := by
  intro d
  induction d with
  | zero =>
    intro k i ys hd hk hi hy ht
    obtain ⟨k, rfl⟩ : ∃ m, k = m + 1 := ⟨k - 1, by omega⟩
    simp only [laws_toInstrS.l0]
    rw [if_neg (by omega)]
    have e : i = l.length := by omega
    subst e
    rw [List.take_of_length_le (by omega), List.take_of_length_le (by omega)] at ht
    rw [ht]
  | succ d ih =>
    intro k i ys hd hk hi hy ht
    obtain ⟨k, rfl⟩ : ∃ m, k = m + 1 := ⟨k - 1, by omega⟩
    by_cases h : i < l.length
    · have hw : wrap64 ((i : Int) + 1) = ((i + 1 : Nat) : Int) := by unfold wrap64; omega
      have e : rd_T78 l (i : Int) = l[i] := by simp [rd_T78, List.getD_eq_getElem?_getD, h]
      conv => lhs; unfold laws_toInstrS.l0
      rw [if_pos (by omega), if_pos (by omega), e]
      unfold laws_toInstr.f
      simp only [Option.bind_some]
      rw [if_pos (by omega), hw]
      apply ih k (i + 1) _ (by omega) (by omega) (by omega) (by simpa using hy)
      have hi2 : i < ys.length := by omega
      have ei : ((i : Int)).toNat = i := by omega
      rw [ei]
      apply List.ext_getElem
      · simp; omega
      · intro j h1 h2
        simp only [List.length_take, List.length_set] at h1
        rw [List.getElem_take, List.getElem_set]
        by_cases hj : i = j
        · subst hj
          simp [cvI]
        · have hji : j < i := by omega
          rw [if_neg hj]
          have hh : (ys.take i)[j]? = ((l.take i).map cvI)[j]? := by rw [ht]
          simp [hji] at hh
          rw [List.getElem?_eq_getElem (by omega), List.getElem?_eq_getElem (by omega)] at hh
          simp at hh
          simp [hh]
    · conv => lhs; unfold laws_toInstrS.l0
      rw [if_neg (by omega)]
      have e : i = l.length := by omega
      subst e
      rw [List.take_of_length_le (by omega), List.take_of_length_le (by omega)] at ht
      rw [ht]
theorem toInstrS_eq (l : List S78) (hl : l.length ≤ 1048576) (k : Nat) (hk : l.length < k) : laws_toInstrS.f k l = some (l.map cvI) := by
  unfold laws_toInstrS.f
  rw [if_pos (by omega), if_pos (by omega)]
  have h := toInstrS_from l hl l.length k 0 (List.replicate l.length z74) (by omega) hk (by omega) (by simp) (by simp)
  simpa using h
theorem eqInstr_refl (a b : Int) : laws_eqInstr.f a b a b = some true := by
  unfold laws_eqInstr.f
  simp
theorem eqInstrS_from (l : List S74) (hl : l.length ≤ 1048576) : ∀ (d k i : Nat), l.length - i ≤ d → d < k → i ≤ l.length → laws_eqInstrS.l0 k l l (i : Int) = some true := by
  intro d
  induction d with
  | zero =>
    intro k i hd hk hi
    obtain ⟨k, rfl⟩ : ∃ m, k = m + 1 := ⟨k - 1, by omega⟩
    simp only [laws_eqInstrS.l0]
    rw [if_neg (by omega)]
  | succ d ih =>
    intro k i hd hk hi
    obtain ⟨k, rfl⟩ : ∃ m, k = m + 1 := ⟨k - 1, by omega⟩
    simp only [laws_eqInstrS.l0]
    by_cases h : i < l.length
    · have hw : wrap64 ((i : Int) + 1) = ((i + 1 : Nat) : Int) := by unfold wrap64; omega
      rw [hw, ih k (i + 1) (by omega) (by omega) (by omega), eqInstr_refl]
      rw [if_pos (by omega), if_pos (by omega), if_pos (by omega)]
      rfl
    · rw [if_neg (by omega)]
theorem eqInstrS_eq (l : List S74) (hl : l.length ≤ 1048576) (k : Nat) (hk : l.length < k) : laws_eqInstrS.f k l l = some true := by
  unfold laws_eqInstrS.f
  rw [if_pos rfl]
  have h := eqInstrS_from l hl l.length k 0 (by omega) hk (by omega)
  simpa using h
theorem szInstr_eq (l : List S78) (hl : l.length ≤ maxLen) : laws_szInstrS.f l 1048576 = some ((if (l.length : Int) ≤ 1048576 then 1048576 - (l.length : Int) else -1 : Int)) := by
  unfold laws_szInstrS.f
  have hm : (l.length : Int) ≤ 9223372036854775807 := by have : maxLen ≤ 9223372036854775807 := by decide
                                                         omega
  have hw : wrap64 (1048576 - (l.length : Int)) = 1048576 - l.length := by unfold wrap64; omega
  rw [hw]
  by_cases h : (l.length : Int) ≤ 1048576
  · rw [if_pos h, if_neg (by omega)]
  · rw [if_neg h, if_pos (by omega)]

abbrev Ins := S74
theorem match_same (l : List Ins) (hl : l.length ≤ 4096) : ∀ (k : Nat) (dep mid i : Int), 0 ≤ dep → dep ≤ i → 0 ≤ i → i ≤ l.length → 
    impl_match.l0 k l (dep + 1) mid i = spec_l04Match.l0 k l dep mid i := by
  intro k
  induction k using Nat.strongRecOn with
  | ind k ih =>
    intro dep mid i h0 h1 h2 h3
    cases k with
    | zero => rfl
    | succ k =>
      simp only [impl_match.l0, spec_l04Match.l0]
      by_cases hi : i < (l.length : Int)
      · rw [if_pos hi, if_pos hi, if_pos h2, if_pos h2]
        have hw : wrap64 (i + 1) = i + 1 := by unfold wrap64; omega
        have hd : wrap64 (dep + 1) = dep + 1 := by unfold wrap64; omega
        have hd2 : wrap64 (dep + 1 + 1) = dep + 1 + 1 := by unfold wrap64; omega
        have hd3 : wrap64 (dep + 1 - 1) = dep := by unfold wrap64; omega
        have hd4 : wrap64 (dep - 1) = dep - 1 := by unfold wrap64; omega
        have body : ∀ (o : Int) (b : Bool), impl_match.j1 k l (dep + 1) mid i o b = spec_l04Match.j1 k l dep mid i o b := by
          intro o b
          cases k with
          | zero => rfl
          | succ k =>
            simp only [impl_match.j1, spec_l04Match.j1]
            rw [hw, hd, hd2, hd3, hd4]
            have a1 := ih k (by omega) (dep + 1) mid (i + 1) (by omega) (by omega) (by omega) (by omega)
            have a2 := ih k (by omega) dep i (i + 1) (by omega) (by omega) (by omega) (by omega)
            have a3 := ih k (by omega) dep mid (i + 1) (by omega) (by omega) (by omega) (by omega)
            rw [a1, a2, a3]
            cases b
            · simp only [Bool.false_eq_true, if_false]
              by_cases o2 : o = 22
              · rw [if_pos o2, if_pos o2]
                by_cases d0 : dep = 0
                · rw [if_pos (show dep + 1 = 1 by omega), if_pos d0]
                · rw [if_neg (show ¬ dep + 1 = 1 by omega), if_neg d0]
              · rw [if_neg o2, if_neg o2]
                by_cases o3 : o = 23
                · rw [if_pos o3, if_pos o3]
                  by_cases d0 : dep = 0
                  · rw [if_pos d0, if_pos d0]
                  · rw [if_neg d0, if_neg d0]
                    have a4 := ih k (by omega) (dep - 1) mid (i + 1) (by omega) (by omega) (by omega) (by omega)
                    rw [show dep - 1 + 1 = dep by omega] at a4
                    rw [a4]
                · rw [if_neg o3, if_neg o3]
            · rfl
        rw [body, body]
      · rw [if_neg hi, if_neg hi]
theorem match_ends (l : List Ins) (hl : l.length ≤ 4096) : ∀ (d k : Nat) (dep mid i : Int), (l.length : Int) - i ≤ d → 2 * d + 1 < k → 0 ≤ i → ∃ r, spec_l04Match.l0 k l dep mid i = some r := by
  intro d
  induction d with
  | zero =>
    intro k dep mid i hd hk h2
    obtain ⟨k, rfl⟩ : ∃ m, k = m + 1 := ⟨k - 1, by omega⟩
    simp only [spec_l04Match.l0]
    rw [if_neg (by omega)]
    exact ⟨_, rfl⟩
  | succ d ih =>
    intro k dep mid i hd hk h2
    obtain ⟨k, rfl⟩ : ∃ m, k = m + 1 + 1 := ⟨k - 2, by omega⟩
    by_cases hi : i < (l.length : Int)
    · conv => rhs; intro r; lhs; unfold spec_l04Match.l0
      rw [if_pos hi, if_pos h2]
      have hw : wrap64 (i + 1) = i + 1 := by unfold wrap64; omega
      have nx : ∀ dep mid, ∃ r, spec_l04Match.l0 k l dep mid (i + 1) = some r := fun dep mid => ih k dep mid (i + 1) (by omega) (by omega) (by omega)
      have body : ∀ (o : Int) (b : Bool), ∃ r, spec_l04Match.j1 (k + 1) l dep mid i o b = some r := by
        intro o b
        simp only [spec_l04Match.j1]
        rw [hw]
        split
        · exact nx _ _
        · split
          · split
            · exact nx _ _
            · exact nx _ _
          · split
            · split
              · exact ⟨_, rfl⟩
              · exact nx _ _
            · exact nx _ _
      split
      · exact body _ _
      · exact body _ _
    · simp only [spec_l04Match.l0]
      rw [if_neg hi]
      exact ⟨_, rfl⟩

theorem match_start (l : List Ins) (hl : l.length ≤ 4096) (k : Nat) (a : Int) (h0 : 0 ≤ a) (h1 : a < l.length) (ho : (rd_T74 l a).f0 = 21 ∨ (rd_T74 l a).f0 = 24) :
    impl_match.f (k + 1 + 1) l a = spec_l04Match.f k l a := by
  have hw : wrap64 (a + 1) = a + 1 := by unfold wrap64; omega
  have h := match_same l hl k 0 0 (a + 1) (by omega) (by omega) (by omega) (by omega)
  unfold impl_match.f spec_l04Match.f
  rw [hw, ← h]
  conv => lhs; unfold impl_match.l0
  rw [if_pos h1, if_pos h0]
  rcases ho with ho | ho
  · rw [if_pos ho, ho]
    simp only [impl_match.j1]
    rw [hw, show wrap64 (0 + 1) = 0 + 1 by unfold wrap64; omega]
    exact if_pos rfl
  · have hn : ¬ (rd_T74 l a).f0 = 21 := by rw [ho]; decide
    rw [if_neg hn, ho]
    simp only [impl_match.j1]
    rw [hw, show wrap64 (0 + 1) = 0 + 1 by unfold wrap64; omega]
    exact if_pos rfl
theorem matchOf_same (l : List Ins) (k : Nat) (hk : 2 * l.length + 20 ≤ k) (hl : l.length ≤ 1048576) (a : Int) :
    ∃ r, spec_MatchOf.f k l a = some r ∧ impl_MatchOf.f k l a = some r := by
  unfold spec_MatchOf.f impl_MatchOf.f impl_Instr.f
  have hw : wrap64 ((l.length : Int) - 1) = (l.length : Int) - 1 := by unfold wrap64; omega
  rw [hw]
  simp only [when_eq, within_eq, Option.bind_some]
  rw [first_eq _ (by simp) _ (by simp; omega)]
  simp only [Option.bind_some, fnz]
  by_cases c1 : (l.length : Int) > 4096
  · refine ⟨(0, 0, 2), by rw [if_pos c1], ?_⟩
    simp [c1]
  · by_cases c2 : (l.length : Int) > 40
    · refine ⟨(0, 0, 6), by rw [if_neg c1, if_pos c2], ?_⟩
      simp [c1, c2]
    · obtain ⟨k, rfl⟩ : ∃ m, k = m + 1 := ⟨k - 1, by omega⟩
      rw [if_neg c1, if_neg c2]
      by_cases c3 : 0 ≤ a ∧ a ≤ (l.length : Int) - 1
      · have e3 : decide (0 ≤ a ∧ a ≤ (l.length : Int) - 1) = true := decide_eq_true c3
        have e1 : decide ((l.length : Int) > 4096) = false := decide_eq_false c1
        have e2 : decide ((l.length : Int) > 40) = false := decide_eq_false c2
        have e4 : decide (a ≥ (l.length : Int)) = false := decide_eq_false (by omega)
        simp only [e1, e2, e3, e4, Bool.not_true, Bool.false_eq_true, if_false, if_true]
        rw [if_neg (show ¬ a < 0 by omega), if_pos c3.1, if_pos (show a < (l.length : Int) by omega)]
        have sj : spec_MatchOf.j0 (k + 1) l a false = if (rd_T74 l a).f0 = 21 then spec_MatchOf.j1 k l a false else spec_MatchOf.j1 k l a ((rd_T74 l a).f0 != 24) := by
          simp only [spec_MatchOf.j0, Bool.false_eq_true, if_false]
          rw [if_pos c3.1, if_pos (show a < (l.length : Int) by omega)]
        rw [sj]
        by_cases ok : (rd_T74 l a).f0 = 21 ∨ (rd_T74 l a).f0 = 24
        · obtain ⟨k, rfl⟩ : ∃ m, k = m + 1 := ⟨k - 1, by omega⟩
          obtain ⟨k, rfl⟩ : ∃ m, k = m + 1 := ⟨k - 1, by omega⟩
          obtain ⟨r, hr⟩ := match_ends l (by omega) l.length k 0 0 (a + 1) (by omega) (by omega) (by omega)
          have hwa : wrap64 (a + 1) = a + 1 := by unfold wrap64; omega
          have m1 : impl_match.f (k + 1 + 1) l a = some r := by
            rw [match_start l (by omega) k a c3.1 (by omega) ok]
            unfold spec_l04Match.f
            rw [hwa]; exact hr
          have m2 : spec_l04Match.f (k + 1) l a = some r := by
            unfold spec_l04Match.f
            rw [hwa]; exact (spec_l04Match.mono_l k).1 _ _ _ _ _ hr
          have q1 : ∀ b, b = false → spec_MatchOf.j1 (k + 1 + 1) l a b = some (if r.2.2 = true then (r.1, r.2.1, 0) else (0, 0, 14)) := by
            intro b hb
            subst hb
            have m3 : spec_l04Match.f (k + 1) l a = some r := m2
            simp only [spec_MatchOf.j1, m3, Option.bind_some, Bool.false_eq_true, if_false]
            split <;> rfl
          have q2 : ∀ b, b = false → impl_MatchOf.j0 (k + 1 + 1 + 1) l a b = some (if r.2.2 = true then (r.1, r.2.1, 0) else (0, 0, 14)) := by
            intro b hb
            subst hb
            simp only [impl_MatchOf.j0, m1, Option.bind_some, Bool.false_eq_true, if_false]
            split <;> rfl
          refine ⟨if r.2.2 = true then (r.1, r.2.1, 0) else (0, 0, 14), ?_, ?_⟩
          · by_cases o1 : (rd_T74 l a).f0 = 21
            · rw [if_pos o1]; exact q1 _ rfl
            · rw [if_neg o1]; exact q1 _ (by have := ok.resolve_left o1; rw [this]; rfl)
          · by_cases o1 : (rd_T74 l a).f0 = 21
            · rw [if_pos o1]; exact q2 _ rfl
            · rw [if_neg o1]; exact q2 _ (by have := ok.resolve_left o1; rw [this]; rfl)
        · have n1 : ¬ (rd_T74 l a).f0 = 21 := fun h => ok (.inl h)
          have n2 : ((rd_T74 l a).f0 != 24) = true := by simpa using fun h => ok (.inr h)
          obtain ⟨k, rfl⟩ : ∃ m, k = m + 1 := ⟨k - 1, by omega⟩
          refine ⟨(0, 0, 10), ?_, ?_⟩
          · rw [if_neg n1, n2]; rfl
          · rw [if_neg n1, n2]; rfl
      · have e3 : decide (0 ≤ a ∧ a ≤ (l.length : Int) - 1) = false := decide_eq_false c3
        refine ⟨(0, 0, 4), ?_, ?_⟩
        · by_cases n : a < 0
          · rw [if_pos n]; rfl
          · rw [if_neg n]
            have : decide (a ≥ (l.length : Int)) = true := decide_eq_true (by omega)
            rw [this]; rfl
        · simp only [e3, decide_eq_false c1, decide_eq_false c2, Bool.not_false, Bool.false_eq_true, if_false, if_true]
          rfl
theorem FnExactMatchOf : laws_FnExactMatchOf.Pure := by
  intro l a hl _
  obtain ⟨hl, _⟩ := hl
  refine ⟨2 * l.length + 40, ?_⟩
  unfold laws_FnExactMatchOf.f
  rw [szInstr_eq l hl]
  simp only [Option.bind_some]
  by_cases h : (l.length : Int) ≤ 1048576
  · rw [if_pos h, if_neg (by omega), toInstrS_eq l (by omega) _ (by omega)]
    obtain ⟨r, h1, h2⟩ := matchOf_same (l.map cvI) (2 * l.length + 40) (by simp) (by simp; omega) a
    simp only [Option.bind_some, h1, h2, if_true, bne_self_eq_false]
    have j : laws_FnExactMatchOf.j0 (2 * l.length + 40) l (l.map cvI) false = some true := by
      rw [show 2 * l.length + 40 = (2 * l.length + 39) + 1 from rfl]
      simp only [laws_FnExactMatchOf.j0, Bool.false_eq_true, if_false]
      rw [toInstrS_eq l (by omega) _ (by omega)]
      simp only [Option.bind_some]
      rw [eqInstrS_eq _ (by simp; omega) _ (by simp; omega)]
      rfl
    exact j
  · rw [if_neg h]; rfl


end Go.Proofs.Ytagfalmpanlabaa.Pure

/- Proved: the pure statement behind the law FnExactStackAt of the given program: for every input that the row lets in, the program's answer and the reference's agree and the law returns true. Conditions: none beyond the row's own. -/
import Derived.Test.YtjgdfbcjlebniaaMFnExactStackAtx23
set_option linter.unusedVariables false
set_option linter.unusedSimpArgs false
namespace Go.Proofs.Ytjgdfbcjlebniaa.Pure
open Go.RowKit Go.Proofs.Ytjgdfbcjlebniaa.MFnExactStackAt Go.Proofs.YtjgdfbcjlebniaaW.PrintWords Go.Proofs.YtjgdfbcjlebniaaW.PrintLast

theorem within_eq (a lo hi : Int) : impl_within.f a lo hi = some (decide (lo ≤ a ∧ a ≤ hi)) := by
  unfold impl_within.f
  by_cases h : a ≥ lo
  · have h' : lo ≤ a := h
    simp [h, h']
  · have h' : ¬ lo ≤ a := h
    simp [h, h']

theorem l01In_eq (a lo hi : Int) : spec_l01In.f a lo hi = some (decide (lo ≤ a ∧ a ≤ hi)) := by
  unfold spec_l01In.f
  by_cases h : a ≥ lo
  · have h' : lo ≤ a := h
    simp [h, h']
  · have h' : ¬ lo ≤ a := h
    simp [h, h']

theorem when_eq (b : Bool) (c : Int) : impl_when.f b c = some (if b = true then c else 0) := by
  unfold impl_when.f
  split <;> rfl

/-- The first number of a list that is not 0; else 0. -/
def fnz : List Int → Int
  | [] => 0
  | a :: l => if a = 0 then fnz l else a

theorem first_from (l : List Int) (hl : l.length ≤ 1000) : ∀ (d k i : Nat), l.length - i ≤ d → d < k → i ≤ l.length → impl_first.l0 k l l.length (i : Int) = some (fnz (l.drop i)) := by
  intro d
  induction d with
  | zero =>
    intro k i hd hk hi
    obtain ⟨k, rfl⟩ : ∃ m, k = m + 1 := ⟨k - 1, by omega⟩
    simp only [impl_first.l0]
    rw [if_neg (by omega), List.drop_of_length_le (by omega)]
    rfl
  | succ d ih =>
    intro k i hd hk hi
    obtain ⟨k, rfl⟩ : ∃ m, k = m + 1 := ⟨k - 1, by omega⟩
    simp only [impl_first.l0]
    by_cases h : i < l.length
    · have hw : wrap64 ((i : Int) + 1) = ((i + 1 : Nat) : Int) := by unfold wrap64; omega
      rw [hw, ih k (i + 1) (by omega) (by omega) (by omega)]
      have e : rd l (i : Int) = l[i] := by simp [rd, List.getD_eq_getElem?_getD, h]
      rw [List.drop_eq_getElem_cons h, e]
      rw [if_pos (by omega), if_pos (by omega), if_pos (by omega)]
      simp only [fnz]
      split <;> rfl
    · rw [if_neg (by omega), List.drop_of_length_le (by omega)]
      rfl

theorem first_eq (l : List Int) (hl : l.length ≤ 1000) (k : Nat) (hk : l.length < k) : impl_first.f k l = some (fnz l) := by
  unfold impl_first.f
  have h := first_from l hl l.length k 0 (by omega) hk (by omega)
  simpa using h

/-- The program's instruction for the law's. -/
def cvI (x : S102) : S91 := ⟨x.f0, x.f1⟩
theorem toInstrS_from (l : List S102) (hl : l.length ≤ 1048576) : ∀ (d k i : Nat) (ys : List S91), l.length - i ≤ d → d < k → i ≤ l.length → ys.length = l.length → ys.take i = (l.take i).map cvI → laws_toInstrS.l0 k l ys (i : Int) = some (l.map cvI) := by
  intro d
  induction d with
  | zero =>
    intro k i ys hd hk hi hy ht
    obtain ⟨k, rfl⟩ : ∃ m, k = m + 1 := ⟨k - 1, by omega⟩
    simp only [laws_toInstrS.l0]
    rw [if_neg (by omega)]
    have e : i = l.length := by omega
    subst e
    rw [List.take_of_length_le (by omega), List.take_of_length_le (by omega)] at ht
    rw [ht]
  | succ d ih =>
    intro k i ys hd hk hi hy ht
    obtain ⟨k, rfl⟩ : ∃ m, k = m + 1 := ⟨k - 1, by omega⟩
    by_cases h : i < l.length
    · have hw : wrap64 ((i : Int) + 1) = ((i + 1 : Nat) : Int) := by unfold wrap64; omega
      have e : rd_T102 l (i : Int) = l[i] := by simp [rd_T102, List.getD_eq_getElem?_getD, h]
      conv => lhs; unfold laws_toInstrS.l0
      rw [if_pos (by omega), if_pos (by omega), e]
      unfold laws_toInstr.f
      simp only [Option.bind_some]
      rw [if_pos (by omega), hw]
      apply ih k (i + 1) _ (by omega) (by omega) (by omega) (by simpa using hy)
      have hi2 : i < ys.length := by omega
      have ei : ((i : Int)).toNat = i := by omega
      rw [ei]
      apply List.ext_getElem
      · simp; omega
      · intro j h1 h2
        simp only [List.length_take, List.length_set] at h1
        rw [List.getElem_take, List.getElem_set]
        by_cases hj : i = j
        · subst hj
          simp [cvI]
        · have hji : j < i := by omega
          rw [if_neg hj]
          have hh : (ys.take i)[j]? = ((l.take i).map cvI)[j]? := by rw [ht]
          simp [hji] at hh
          rw [List.getElem?_eq_getElem (by omega), List.getElem?_eq_getElem (by omega)] at hh
          simp at hh
          simp [hh]
    · conv => lhs; unfold laws_toInstrS.l0
      rw [if_neg (by omega)]
      have e : i = l.length := by omega
      subst e
      rw [List.take_of_length_le (by omega), List.take_of_length_le (by omega)] at ht
      rw [ht]
theorem toInstrS_eq (l : List S102) (hl : l.length ≤ 1048576) (k : Nat) (hk : l.length < k) : laws_toInstrS.f k l = some (l.map cvI) := by
  unfold laws_toInstrS.f
  rw [if_pos (by omega), if_pos (by omega)]
  have h := toInstrS_from l hl l.length k 0 (List.replicate l.length z91) (by omega) hk (by omega) (by simp) (by simp)
  simpa using h
theorem eqInstr_refl (a b : Int) : laws_eqInstr.f a b a b = some true := by
  unfold laws_eqInstr.f
  simp
theorem eqInstrS_from (l : List S91) (hl : l.length ≤ 1048576) : ∀ (d k i : Nat), l.length - i ≤ d → d < k → i ≤ l.length → laws_eqInstrS.l0 k l l (i : Int) = some true := by
  intro d
  induction d with
  | zero =>
    intro k i hd hk hi
    obtain ⟨k, rfl⟩ : ∃ m, k = m + 1 := ⟨k - 1, by omega⟩
    simp only [laws_eqInstrS.l0]
    rw [if_neg (by omega)]
  | succ d ih =>
    intro k i hd hk hi
    obtain ⟨k, rfl⟩ : ∃ m, k = m + 1 := ⟨k - 1, by omega⟩
    simp only [laws_eqInstrS.l0]
    by_cases h : i < l.length
    · have hw : wrap64 ((i : Int) + 1) = ((i + 1 : Nat) : Int) := by unfold wrap64; omega
      rw [hw, ih k (i + 1) (by omega) (by omega) (by omega), eqInstr_refl]
      rw [if_pos (by omega), if_pos (by omega), if_pos (by omega)]
      rfl
    · rw [if_neg (by omega)]
theorem eqInstrS_eq (l : List S91) (hl : l.length ≤ 1048576) (k : Nat) (hk : l.length < k) : laws_eqInstrS.f k l l = some true := by
  unfold laws_eqInstrS.f
  rw [if_pos rfl]
  have h := eqInstrS_from l hl l.length k 0 (by omega) hk (by omega)
  simpa using h
theorem szInstr_eq (l : List S102) (hl : l.length ≤ maxLen) : laws_szInstrS.f l 1048576 = some ((if (l.length : Int) ≤ 1048576 then 1048576 - (l.length : Int) else -1 : Int)) := by
  unfold laws_szInstrS.f
  have hm : (l.length : Int) ≤ 9223372036854775807 := by have : maxLen ≤ 9223372036854775807 := by decide
                                                         omega
  have hw : wrap64 (1048576 - (l.length : Int)) = 1048576 - l.length := by unfold wrap64; omega
  rw [hw]
  by_cases h : (l.length : Int) ≤ 1048576
  · rw [if_pos h, if_neg (by omega)]
  · rw [if_neg h, if_pos (by omega)]

theorem toIntS_from (l : List Int) (hl : l.length ≤ 1048576) : ∀ (d k i : Nat) (acc : List Int), l.length - i ≤ d → d < k → i ≤ l.length → acc.length = l.length → (∀ j, j < i → acc[j]? = l[j]?) → laws_toIntS.l0 k l acc (i : Int) = some l := by
  intro d
  induction d with
  | zero =>
    intro k i acc hd hk hi hlen hA
    obtain ⟨k, rfl⟩ : ∃ m, k = m + 1 := ⟨k - 1, by omega⟩
    simp only [laws_toIntS.l0]
    rw [if_neg (by omega)]
    congr 1
    apply List.ext_getElem?
    intro j
    by_cases h : j < i
    · exact hA j h
    · rw [List.getElem?_eq_none (by omega), List.getElem?_eq_none (by omega)]
  | succ d ih =>
    intro k i acc hd hk hi hlen hA
    obtain ⟨k, rfl⟩ : ∃ m, k = m + 1 := ⟨k - 1, by omega⟩
    simp only [laws_toIntS.l0]
    by_cases h : i < l.length
    · rw [if_pos (by omega), if_pos (by omega), if_pos (by omega)]
      have hw : wrap64 ((i : Int) + 1) = ((i + 1 : Nat) : Int) := by unfold wrap64; omega
      rw [hw]
      refine ih k (i + 1) _ (by omega) (by omega) (by omega) (by simp [hlen]) (fun j hj => ?_)
      have e : rd l (i : Int) = l[i] := by simp [rd, List.getD_eq_getElem?_getD, h]
      rw [e, Int.toNat_natCast, List.getElem?_set]
      by_cases hji : i = j
      · subst hji
        rw [if_pos rfl, if_pos (by omega), List.getElem?_eq_getElem h]
      · rw [if_neg hji]
        exact hA j (by omega)
    · rw [if_neg (by omega)]
      congr 1
      apply List.ext_getElem?
      intro j
      by_cases h2 : j < i
      · exact hA j h2
      · rw [List.getElem?_eq_none (by omega), List.getElem?_eq_none (by omega)]
theorem toIntS_eq (l : List Int) (hl : l.length ≤ 1048576) (k : Nat) (hk : l.length < k) : laws_toIntS.f k l = some l := by
  unfold laws_toIntS.f
  rw [if_pos (by omega), if_pos (by omega)]
  exact toIntS_from l hl l.length k 0 _ (by omega) hk (by omega) (by simp) (fun j hj => by omega)
theorem eqIntS_from (l : List Int) (hl : l.length ≤ 1048576) : ∀ (d k i : Nat), l.length - i ≤ d → d < k → i ≤ l.length → laws_eqIntS.l0 k l l (i : Int) = some true := by
  intro d
  induction d with
  | zero =>
    intro k i hd hk hi
    obtain ⟨k, rfl⟩ : ∃ m, k = m + 1 := ⟨k - 1, by omega⟩
    simp only [laws_eqIntS.l0]
    rw [if_neg (by omega)]
  | succ d ih =>
    intro k i hd hk hi
    obtain ⟨k, rfl⟩ : ∃ m, k = m + 1 := ⟨k - 1, by omega⟩
    simp only [laws_eqIntS.l0]
    by_cases h : i < l.length
    · have hw : wrap64 ((i : Int) + 1) = ((i + 1 : Nat) : Int) := by unfold wrap64; omega
      rw [if_pos (by omega), if_pos (by omega), hw, ih k (i + 1) (by omega) (by omega) (by omega)]
      simp only [show ((i : Int) < (l.length : Int)) from by omega, if_true]
    · rw [if_neg (by omega)]
theorem eqIntS_same (l : List Int) (hl : l.length ≤ 1048576) (k : Nat) (hk : l.length < k) : laws_eqIntS.f k l l = some true := by
  unfold laws_eqIntS.f
  rw [if_pos rfl]
  exact eqIntS_from l hl l.length k 0 (by omega) hk (by omega)

theorem has_j2 (k : Nat) (a : Int) (b : Bool) : spec_l02Has.j2 k a b = impl_rangeOf.j2 k a b := by
  cases k <;> simp only [spec_l02Has.j2, impl_rangeOf.j2]
theorem has_j1 (k : Nat) (a : Int) (b : Bool) : spec_l02Has.j1 k a b = impl_rangeOf.j1 k a b := by
  cases k <;> simp only [spec_l02Has.j1, impl_rangeOf.j1, has_j2]
theorem has_j0 (k : Nat) (a : Int) (b : Bool) : spec_l02Has.j0 k a b = impl_rangeOf.j0 k a b := by
  cases k <;> simp only [spec_l02Has.j0, impl_rangeOf.j0, has_j1]
theorem has_same (k : Nat) (a : Int) : spec_l02Has.f k a = impl_rangeOf.f k a := by
  unfold spec_l02Has.f impl_rangeOf.f
  simp only [has_j0]
/-- The range of an operation's operand, and whether it has one. -/
def rng (a : Int) : Int × Int × Bool :=
  if a = 1 then (-2147483648, 2147483647, true) else if a = 2 then (0, 1, true) else if a = 3 ∨ a = 4 then (0, 15, true) else if a = 5 ∨ a = 6 ∨ a = 7 ∨ a = 8 then (0, 7, true)
  else if a = 19 ∨ a = 20 then (0, 7, true) else if a = 24 then (1, 20, true) else if a = 26 then (0, 5, true) else (0, 0, false)
theorem range_eq (k : Nat) (hk : 3 ≤ k) (a : Int) : impl_rangeOf.f k a = some (rng a) := by
  obtain ⟨k, rfl⟩ : ∃ m, k = m + 3 := ⟨k - 3, by omega⟩
  unfold impl_rangeOf.f rng
  simp only [impl_rangeOf.j0, impl_rangeOf.j1, impl_rangeOf.j2]
  by_cases h1 : a = 1
  · subst h1; rfl
  by_cases h2 : a = 2
  · subst h2; rfl
  by_cases h3 : a = 3
  · subst h3; rfl
  by_cases h4 : a = 4
  · subst h4; rfl
  by_cases h5 : a = 5
  · subst h5; rfl
  by_cases h6 : a = 6
  · subst h6; rfl
  by_cases h7 : a = 7
  · subst h7; rfl
  by_cases h8 : a = 8
  · subst h8; rfl
  by_cases h19 : a = 19
  · subst h19; rfl
  by_cases h20 : a = 20
  · subst h20; rfl
  by_cases h24 : a = 24
  · subst h24; rfl
  by_cases h26 : a = 26
  · subst h26; rfl
  simp [h1, h2, h3, h4, h5, h6, h7, h8, h19, h20, h24, h26]

def instrb (op a : Int) : Bool := decide ((1 ≤ op ∧ op ≤ 26) ∧ ((rng op).1 ≤ a ∧ a ≤ (rng op).2.1))
theorem isOp_eq (a : Int) : impl_isOp.f a = some (decide (1 ≤ a ∧ a ≤ 26)) := by
  unfold impl_isOp.f; rw [within_eq]; rfl
theorem l02Op_eq (a : Int) : spec_l02Op.f a = some (decide (1 ≤ a ∧ a ≤ 26)) := by
  unfold spec_l02Op.f; rw [l01In_eq]; rfl
theorem spec_instr (k : Nat) (hk : 3 ≤ k) (op a : Int) : spec_l02OK.f k op a = some (instrb op a) := by
  unfold spec_l02OK.f instrb
  simp only [l02Op_eq, l01In_eq, has_same, range_eq k hk, Option.bind_some]
  by_cases h : 1 ≤ op ∧ op ≤ 26 <;> simp [h]
theorem impl_instr (k : Nat) (hk : 3 ≤ k) (op a : Int) : impl_InstrOK.f k op a = some (instrb op a) := by
  unfold impl_InstrOK.f instrb
  simp only [isOp_eq, within_eq, range_eq k hk, Option.bind_some]
  by_cases h : 1 ≤ op ∧ op ≤ 26 <;> simp [h]

theorem impl_all_int_isFbKind_from (p : Int → Bool) (K : Nat) (hF : ∀ (k : Nat) (x : Int), K ≤ k → impl_isFbKind.f x = some (p x)) (l : List Int) (hl : l.length ≤ 1048576) : ∀ (d k i : Nat), l.length - i ≤ d → d + K < k → i ≤ l.length →
    ∃ j, impl_all_int_isFbKind.l0 k l (i : Int) = some j ∧ (!(decide (0 ≤ j))) = (l.drop i).all p := by
  intro d
  induction d with
  | zero =>
    intro k i hd hk hi
    obtain ⟨k, rfl⟩ : ∃ m, k = m + 1 := ⟨k - 1, by omega⟩
    refine ⟨-1, ?_, ?_⟩
    · simp only [impl_all_int_isFbKind.l0]
      rw [if_neg (by omega)]
    · rw [List.drop_of_length_le (by omega)]
      rfl
  | succ d ih =>
    intro k i hd hk hi
    obtain ⟨k, rfl⟩ : ∃ m, k = m + 1 := ⟨k - 1, by omega⟩
    by_cases h : i < l.length
    · have e : rd l (i : Int) = l[i] := by simp [rd, List.getD_eq_getElem?_getD, h]
      have hw : wrap64 ((i : Int) + 1) = ((i + 1 : Nat) : Int) := by unfold wrap64; omega
      obtain ⟨j, hj, hp⟩ := ih k (i + 1) (by omega) (by omega) (by omega)
      have hx := hF k l[i] (by omega)
      rw [List.drop_eq_getElem_cons h, List.all_cons]
      simp only [impl_all_int_isFbKind.l0]
      rw [if_pos (by omega), if_pos (by omega), e, hw, hx]
      simp only [Option.bind_some]
      cases p l[i] with
      | true => exact ⟨j, by rw [if_pos rfl]; exact hj, by simpa using hp⟩
      | false => exact ⟨(i : Int), by rw [if_neg (by decide)], by simp⟩
    · refine ⟨-1, ?_, ?_⟩
      · simp only [impl_all_int_isFbKind.l0]
        rw [if_neg (by omega)]
      · rw [List.drop_of_length_le (by omega)]
        rfl
theorem impl_all_int_isFbKind_eq (p : Int → Bool) (K : Nat) (hF : ∀ (k : Nat) (x : Int), K ≤ k → impl_isFbKind.f x = some (p x)) (l : List Int) (hl : l.length ≤ 1048576) (k : Nat) (hk : l.length + K < k) : impl_all_int_isFbKind.f k l = some (l.all p) := by
  obtain ⟨j, hj, hp⟩ := impl_all_int_isFbKind_from p K hF l hl l.length k 0 (by omega) (by omega) (by omega)
  unfold impl_all_int_isFbKind.f
  have hj' : impl_all_int_isFbKind.l0 k l 0 = some j := hj
  rw [hj']
  simp only [Option.bind_some]
  rw [hp]
  rfl

theorem impl_all_Instr_InstrOK_from (p : S91 → Bool) (K : Nat) (hF : ∀ (k : Nat) (x : S91), K ≤ k → impl_InstrOK.f k x.f0 x.f1 = some (p x)) (l : List S91) (hl : l.length ≤ 1048576) : ∀ (d k i : Nat), l.length - i ≤ d → d + K < k → i ≤ l.length →
    ∃ j, impl_all_Instr_InstrOK.l0 k l (i : Int) = some j ∧ (!(decide (0 ≤ j))) = (l.drop i).all p := by
  intro d
  induction d with
  | zero =>
    intro k i hd hk hi
    obtain ⟨k, rfl⟩ : ∃ m, k = m + 1 := ⟨k - 1, by omega⟩
    refine ⟨-1, ?_, ?_⟩
    · simp only [impl_all_Instr_InstrOK.l0]
      rw [if_neg (by omega)]
    · rw [List.drop_of_length_le (by omega)]
      rfl
  | succ d ih =>
    intro k i hd hk hi
    obtain ⟨k, rfl⟩ : ∃ m, k = m + 1 := ⟨k - 1, by omega⟩
    by_cases h : i < l.length
    · have e : rd_T91 l (i : Int) = l[i] := by simp [rd_T91, List.getD_eq_getElem?_getD, h]
      have hw : wrap64 ((i : Int) + 1) = ((i + 1 : Nat) : Int) := by unfold wrap64; omega
      obtain ⟨j, hj, hp⟩ := ih k (i + 1) (by omega) (by omega) (by omega)
      have hx := hF k l[i] (by omega)
      rw [List.drop_eq_getElem_cons h, List.all_cons]
      simp only [impl_all_Instr_InstrOK.l0]
      rw [if_pos (by omega), if_pos (by omega), e, hw, hx]
      simp only [Option.bind_some]
      cases p l[i] with
      | true => exact ⟨j, by rw [if_pos rfl]; exact hj, by simpa using hp⟩
      | false => exact ⟨(i : Int), by rw [if_neg (by decide)], by simp⟩
    · refine ⟨-1, ?_, ?_⟩
      · simp only [impl_all_Instr_InstrOK.l0]
        rw [if_neg (by omega)]
      · rw [List.drop_of_length_le (by omega)]
        rfl
theorem impl_all_Instr_InstrOK_eq (p : S91 → Bool) (K : Nat) (hF : ∀ (k : Nat) (x : S91), K ≤ k → impl_InstrOK.f k x.f0 x.f1 = some (p x)) (l : List S91) (hl : l.length ≤ 1048576) (k : Nat) (hk : l.length + K < k) : impl_all_Instr_InstrOK.f k l = some (l.all p) := by
  obtain ⟨j, hj, hp⟩ := impl_all_Instr_InstrOK_from p K hF l hl l.length k 0 (by omega) (by omega) (by omega)
  unfold impl_all_Instr_InstrOK.f
  have hj' : impl_all_Instr_InstrOK.l0 k l 0 = some j := hj
  rw [hj']
  simp only [Option.bind_some]
  rw [hp]
  rfl

def kindB (a : Int) : Bool := decide (1 ≤ a ∧ a ≤ 4)
def insB (x : S91) : Bool := instrb x.f0 x.f1
theorem isFbKind_eq (a : Int) : impl_isFbKind.f a = some (kindB a) := by unfold impl_isFbKind.f kindB; rw [within_eq]; rfl
theorem l03Kind_eq (a : Int) : spec_l03Kind.f a = some (kindB a) := by unfold spec_l03Kind.f kindB; rw [l01In_eq]; rfl
theorem areKinds_eq (l : List Int) (hl : l.length ≤ 1048576) (k : Nat) (hk : l.length + 1 < k) : impl_areKinds.f k l = some (decide (l.length ≤ 8) && l.all kindB) := by
  unfold impl_areKinds.f
  by_cases h : l.length ≤ 8
  · rw [if_pos (by omega), impl_all_int_isFbKind_eq kindB 0 (fun k x _ => isFbKind_eq x) l hl k (by omega), decide_eq_true h]; rfl
  · rw [if_neg (by omega), decide_eq_false h]; rfl
theorem isCode_eq (l : List S91) (hl : l.length ≤ 1048576) (k : Nat) (hk : l.length + 4 < k) : impl_isCode.f k l = some (decide (l.length ≤ 40) && l.all insB) := by
  unfold impl_isCode.f
  by_cases h : l.length ≤ 40
  · rw [if_pos (by omega), impl_all_Instr_InstrOK_eq insB 3 (fun k x hk => impl_instr k hk x.f0 x.f1) l hl k (by omega), decide_eq_true h]; rfl
  · rw [if_neg (by omega), decide_eq_false h]; rfl
theorem l04Kinds_from (l : List Int) (hl : l.length ≤ 1048576) : ∀ (d k i : Nat), l.length - i ≤ d → d < k → i ≤ l.length → spec_l04Kinds.l0 k l (i : Int) = some ((l.drop i).all kindB) := by
  intro d
  induction d with
  | zero =>
    intro k i hd hk hi
    obtain ⟨k, rfl⟩ : ∃ m, k = m + 1 := ⟨k - 1, by omega⟩
    simp only [spec_l04Kinds.l0]
    rw [if_neg (by omega), List.drop_of_length_le (by omega)]
    rfl
  | succ d ih =>
    intro k i hd hk hi
    obtain ⟨k, rfl⟩ : ∃ m, k = m + 1 := ⟨k - 1, by omega⟩
    simp only [spec_l04Kinds.l0]
    by_cases h : i < l.length
    · have e : rd l (i : Int) = l[i] := by simp [rd, List.getD_eq_getElem?_getD, h]
      have hw : wrap64 ((i : Int) + 1) = ((i + 1 : Nat) : Int) := by unfold wrap64; omega
      rw [if_pos (by omega), if_pos (by omega), e, hw, ih k (i + 1) (by omega) (by omega) (by omega), l03Kind_eq, List.drop_eq_getElem_cons h, List.all_cons]
      simp only [Option.bind_some]
      cases kindB l[i] <;> rfl
    · rw [if_neg (by omega), List.drop_of_length_le (by omega)]
      rfl
theorem l04Kinds_eq (l : List Int) (hl : l.length ≤ 1048576) (k : Nat) (hk : l.length < k) : spec_l04Kinds.f k l = some (decide (l.length ≤ 8) && l.all kindB) := by
  unfold spec_l04Kinds.f
  by_cases h : l.length ≤ 8
  · have := l04Kinds_from l hl l.length k 0 (by omega) hk (by omega)
    rw [if_neg (by omega), decide_eq_true h]
    simpa using this
  · rw [if_pos (by omega), decide_eq_false h]; rfl
theorem l02All_from (l : List S91) (hl : l.length ≤ 1048576) : ∀ (d k i : Nat), l.length - i ≤ d → d + 3 < k → i ≤ l.length → spec_l02All.l0 k l (i : Int) = some ((l.drop i).all insB) := by
  intro d
  induction d with
  | zero =>
    intro k i hd hk hi
    obtain ⟨k, rfl⟩ : ∃ m, k = m + 1 := ⟨k - 1, by omega⟩
    simp only [spec_l02All.l0]
    rw [if_neg (by omega), List.drop_of_length_le (by omega)]
    rfl
  | succ d ih =>
    intro k i hd hk hi
    obtain ⟨k, rfl⟩ : ∃ m, k = m + 1 := ⟨k - 1, by omega⟩
    simp only [spec_l02All.l0]
    by_cases h : i < l.length
    · have e : rd_T91 l (i : Int) = l[i] := by simp [rd_T91, List.getD_eq_getElem?_getD, h]
      have hw : wrap64 ((i : Int) + 1) = ((i + 1 : Nat) : Int) := by unfold wrap64; omega
      rw [if_pos (by omega), if_pos (by omega), e, hw, ih k (i + 1) (by omega) (by omega) (by omega), spec_instr k (by omega), List.drop_eq_getElem_cons h, List.all_cons]
      simp only [Option.bind_some]
      show (if insB l[i] = true then _ else _) = _
      cases insB l[i] <;> rfl
    · rw [if_neg (by omega), List.drop_of_length_le (by omega)]
      rfl
theorem l02All_eq (l : List S91) (hl : l.length ≤ 1048576) (k : Nat) (hk : l.length + 3 < k) : spec_l02All.f k l = some (l.all insB) := by
  unfold spec_l02All.f
  have := l02All_from l hl l.length k 0 (by omega) hk (by omega)
  simpa using this
/-- What is asked well is fit for the walk. -/
theorem ok_of_ins {l0 : List S91} {l1 : List Int} (hl : l0.length ≤ 40) (h1 : l1.all kindB = true) (h0 : l0.all insB = true) : l0.length ≤ 4096 ∧ (l0.all fun x => vOKb l1 x.f0 x.f1) = true := by
  refine ⟨by omega, ?_⟩
  rw [List.all_eq_true] at h0 ⊢
  intro x hx
  have hi := h0 x hx
  unfold insB instrb at hi
  have hi' := of_decide_eq_true hi
  obtain ⟨⟨a1, a2⟩, a3, a4⟩ := hi'
  unfold vOKb
  have hk : (l1.all fun k => decide (1 ≤ k) && decide (k ≤ 4)) = true := by
    rw [List.all_eq_true] at h1 ⊢
    intro y hy
    have := of_decide_eq_true (h1 y hy)
    rw [decide_eq_true this.1, decide_eq_true this.2]; rfl
  rw [hk, decide_eq_true a1, decide_eq_true a2]
  by_cases h19 : x.f0 = 19
  · rw [h19] at a3
    have : (0 : Int) ≤ x.f1 := a3
    rw [decide_eq_true this]; simp
  · by_cases h20 : x.f0 = 20
    · rw [h20] at a3
      have : (0 : Int) ≤ x.f1 := a3
      rw [decide_eq_true this]; simp
    · have e1 : (x.f0 == 19) = false := by simpa using h19
      have e2 : (x.f0 == 20) = false := by simpa using h20
      rw [e1, e2]; rfl

/-- What a verifier is asked: the code of it. -/
def askC (l0 : List S91) (l1 : List Int) (a2 : Int) : Int :=
  if 4096 < l0.length ∨ 4096 < l1.length then 2 else if 40 < l0.length then 6
  else if ((decide (l1.length ≤ 8) && l1.all kindB) && l0.all insB) = true then (if 0 ≤ a2 ∧ a2 ≤ 6 then 0 else 4) else 1
theorem ok_of_ask {l0 : List S91} {l1 : List Int} {a2 : Int} (h : askC l0 l1 a2 = 0) : l0.length ≤ 40 ∧ l1.all kindB = true ∧ l0.all insB = true := by
  unfold askC at h
  by_cases h1 : 4096 < l0.length ∨ 4096 < l1.length
  · rw [if_pos h1] at h; cases h
  rw [if_neg h1] at h
  by_cases h2 : 40 < l0.length
  · rw [if_pos h2] at h; cases h
  rw [if_neg h2] at h
  by_cases h3 : ((decide (l1.length ≤ 8) && l1.all kindB) && l0.all insB) = true
  · simp only [Bool.and_eq_true] at h3
    exact ⟨by omega, h3.1.2, h3.2⟩
  · rw [if_neg h3] at h; cases h
theorem l04Ask_eq (l0 : List S91) (l1 : List Int) (a2 : Int) (h0 : l0.length ≤ 1048576) (h1 : l1.length ≤ 1048576) (k : Nat) (hk : l0.length + l1.length + 10 < k) : spec_l04Ask.f k l0 l1 a2 = some (askC l0 l1 a2) := by
  obtain ⟨k, rfl⟩ : ∃ m, k = m + 1 + 1 := ⟨k - 2, by omega⟩
  unfold spec_l04Ask.f askC
  by_cases c1 : 4096 < l0.length
  · rw [if_pos (by omega), if_pos (.inl c1)]; simp only [spec_l04Ask.j0]; rfl
  rw [if_neg (by omega)]
  by_cases c2 : 4096 < l1.length
  · rw [if_pos (.inr c2), decide_eq_true (by omega)]; simp only [spec_l04Ask.j0]; rfl
  rw [if_neg (by omega), decide_eq_false (by omega)]
  simp only [spec_l04Ask.j0, Bool.false_eq_true, if_false]
  by_cases c3 : 40 < l0.length
  · rw [if_pos (by omega), if_pos c3]
  rw [if_neg (by omega), if_neg c3, l04Kinds_eq l1 h1 _ (by omega)]
  simp only [Option.bind_some]
  by_cases c4 : (decide (l1.length ≤ 8) && l1.all kindB) = true
  · rw [if_pos c4, l02All_eq l0 h0 _ (by omega), c4, Bool.true_and]
    simp only [Option.bind_some]
    simp only [spec_l04Ask.j1]
    cases l0.all insB
    · rfl
    · simp only [Bool.not_true, Bool.false_eq_true, if_false, l01In_eq, Option.bind_some, if_true]
      by_cases c5 : 0 ≤ a2 ∧ a2 ≤ 6
      · rw [decide_eq_true c5, if_pos c5]; rfl
      · rw [decide_eq_false c5, if_neg c5]; rfl
  · rw [if_neg c4]
    simp only [spec_l04Ask.j1]
    have hn : ¬ ((decide (l1.length ≤ 8) && l1.all kindB) && l0.all insB) = true := fun h => c4 (by simp only [Bool.and_eq_true] at h ⊢; exact h.1)
    rw [if_neg hn]
    rfl
theorem verifyCode_eq (l0 : List S91) (l1 : List Int) (a2 : Int) (h0 : l0.length ≤ 1048576) (h1 : l1.length ≤ 1048576) (k : Nat) (hk : l0.length + l1.length + 10 < k) : impl_verifyCode.f k l0 l1 a2 = some (askC l0 l1 a2) := by
  unfold impl_verifyCode.f impl_many_int.f impl_Instr_115.f askC
  simp only [when_eq, Option.bind_some]
  rw [areKinds_eq l1 h1 _ (by omega)]
  simp only [Option.bind_some, isCode_eq l0 h0 k (by omega), within_eq]
  cases hk1 : (decide (l1.length ≤ 8) && l1.all kindB)
  · simp only [Bool.false_eq_true, if_false, if_true]
    rw [first_eq _ (by simp) _ (by simp; omega)]
    simp only [Option.bind_some, fnz, Bool.false_and, Bool.false_eq_true, if_false]
    by_cases c1 : 4096 < l0.length
    · simp [c1]; omega
    · by_cases c2 : 4096 < l1.length
      · have e1 : ¬ (4096 : Int) < l0.length := by omega
        have e2 : (4096 : Int) < l1.length := by omega
        simp [c1, c2, e1, e2]
      · have e1 : ¬ (4096 : Int) < l0.length := by omega
        have e2 : ¬ (4096 : Int) < l1.length := by omega
        by_cases c3 : 40 < l0.length
        · have e3 : (40 : Int) < l0.length := by omega
          simp [c1, c2, e1, e2, c3, e3]
        · have e3 : ¬ (40 : Int) < l0.length := by omega
          simp [c1, c2, e1, e2, c3, e3]
  · simp only [if_true]
    rw [first_eq _ (by simp) _ (by simp; omega)]
    simp only [Option.bind_some, fnz, Bool.true_and]
    by_cases c1 : 4096 < l0.length
    · have e1 : (4096 : Int) < l0.length := by omega
      simp [c1, e1]
    · by_cases c2 : 4096 < l1.length
      · have e1 : ¬ (4096 : Int) < l0.length := by omega
        have e2 : (4096 : Int) < l1.length := by omega
        simp [c1, c2, e1, e2]
      · have e1 : ¬ (4096 : Int) < l0.length := by omega
        have e2 : ¬ (4096 : Int) < l1.length := by omega
        by_cases c3 : 40 < l0.length
        · have e3 : (40 : Int) < l0.length := by omega
          simp [c1, c2, e1, e2, c3, e3]
        · have e3 : ¬ (40 : Int) < l0.length := by omega
          have e4 : decide (l0.length ≤ 40) = true := decide_eq_true (by omega)
          rw [e4, Bool.true_and]
          cases l0.all insB
          · simp [c1, c2, e1, e2, c3, e3]
          · by_cases c5 : 0 ≤ a2 ∧ a2 ≤ 6
            · simp [c1, c2, e1, e2, c3, e3, c5]
            · rw [decide_eq_false c5, if_neg c5]
              simp [c1, c2, e1, e2, c3, e3]

/-! the two verifiers, held against each other -/
def VR : ByteArray → List SO → List VO → Prop
  | _, [], [] => True
  | S, o :: P, v :: Q => v.at_ = o.at_ ∧ v.base = (o.stack.size : Int) ∧ ((o.op = 21 ∧ v.isIf = true ∧ v.hasElse = false) ∨ (o.op = 22 ∧ v.isIf = true ∧ v.hasElse = true) ∨ (o.op = 24 ∧ v.isIf = false ∧ v.hasElse = false)) ∧ o.stack.size ≤ S.size ∧ S.extract 0 o.stack.size = o.stack ∧ VR o.stack P Q
  | _, _, _ => False
theorem VR.base {S : ByteArray} {O : List SO} {Q : List VO} (h : VR S O Q) : sBase O = vBase Q := by
  cases O <;> cases Q <;> simp only [VR] at h
  · rfl
  · exact h.2.1.symm
theorem VR.length {O : List SO} : ∀ {S : ByteArray} {Q : List VO}, VR S O Q → O.length = Q.length := by
  induction O with
  | nil => intro S Q h; cases Q <;> simp only [VR] at h; rfl
  | cons o P ih =>
    intro S Q h
    cases Q <;> simp only [VR] at h
    simp [ih h.2.2.2.2.2]
theorem ext_ext (S Q : ByteArray) (k n : Nat) (hn : n ≤ k) (hk : k ≤ S.size) : (S.extract 0 k ++ Q).extract 0 n = S.extract 0 n := by
  apply ByteArray.ext
  simp only [ByteArray.data_extract, ByteArray.data_append]
  apply Array.ext'
  have h1 : S.data.toList.length = S.size := by rw [Array.length_toList]; rfl
  have h2 : S.data.size = S.size := rfl
  simp only [Array.toList_extract, Array.toList_append, List.extract_eq_take_drop, List.drop_zero, Nat.sub_zero]
  rw [List.take_append_of_le_length (by rw [List.length_take, h1]; omega), List.take_take, Nat.min_eq_left hn]
theorem VR.cut {S Q : ByteArray} {k : Nat} {O : List SO} {V : List VO} (h : VR S O V) (hk : k ≤ S.size) (hb : sBase O ≤ (k : Int)) : VR (S.extract 0 k ++ Q) O V := by
  cases O <;> cases V <;> simp only [VR, sBase] at h hb ⊢
  obtain ⟨h1, h2, h3, h4, h5, h6⟩ := h
  refine ⟨h1, h2, h3, ?_, ?_, h6⟩
  · rw [ByteArray.size_append, ByteArray.size_extract]; omega
  · rw [ext_ext _ _ _ _ (by omega) hk]; exact h5
theorem nest_eq {at_ op : Int} {S : ByteArray} {O : List SO} {V : List VO} (h : VR S O V) (hr : 21 ≤ op ∧ op ≤ 24) :
    (sNest at_ op S O).1 = (vNest at_ op S V).1 ∧ ((sNest at_ op S O).1 = 0 → VR S (sNest at_ op S O).2 (vNest at_ op S V).2) := by
  have hl := h.length
  by_cases h1 : op = 21 ∨ op = 24
  · by_cases h4 : O.length = 4
    · have h4' : V.length = 4 := by omega
      rw [show sNest at_ op S O = (17, O) from by unfold sNest; rw [if_pos h1, if_pos h4], show vNest at_ op S V = (17, V) from by unfold vNest; rw [if_pos h1, if_pos h4']]
      exact ⟨rfl, fun e => absurd e (by simp)⟩
    · have h4' : ¬ V.length = 4 := by omega
      rw [show sNest at_ op S O = (0, ⟨at_, op, S⟩ :: O) from by unfold sNest; rw [if_pos h1, if_neg h4], show vNest at_ op S V = (0, ⟨at_, (S.size : Int), decide (op = 21), false⟩ :: V) from by unfold vNest; rw [if_pos h1, if_neg h4']]
      refine ⟨rfl, fun _ => ?_⟩
      simp only [VR]
      refine ⟨trivial, trivial, ?_, Nat.le_refl _, ?_, h⟩
      · rcases h1 with rfl | rfl
        · exact .inl (by simp)
        · exact .inr (.inr (by simp))
      · apply ByteArray.ext; simp
  have h23 : op = 22 ∨ op = 23 := by omega
  cases O with
  | nil =>
    cases V <;> simp only [VR] at h
    rw [show sNest at_ op S [] = (14, []) from by unfold sNest; rw [if_neg h1]]
    rcases h23 with rfl | rfl
    · exact ⟨rfl, fun e => absurd e (by simp)⟩
    · exact ⟨rfl, fun e => absurd e (by simp)⟩
  | cons o P =>
    cases V with
    | nil => simp only [VR] at h
    | cons v Q =>
      simp only [VR] at h
      obtain ⟨e1, e2, e3, e4, e5, e6⟩ := h
      have hst : (S = o.stack) ↔ ((S.size : Int) = v.base) := by
        rw [e2]
        constructor
        · intro e; rw [e]
        · intro e
          have e' : o.stack.size = S.size := by omega
          rw [← e5, e']
          apply ByteArray.ext; simp
      rw [show sNest at_ op S (o :: P) = if op = 22 ∧ o.op ≠ 21 then (14, o :: P) else if S = o.stack then (if op = 22 then (0, { o with op := 22 } :: P) else (0, P)) else (13, o :: P) from by unfold sNest; rw [if_neg h1]]
      rcases h23 with rfl | rfl
      · rw [show vNest at_ 22 S (v :: Q) = if (!v.isIf || v.hasElse) = true then (14, v :: Q) else if (S.size : Int) = v.base then (0, { v with hasElse := true } :: Q) else (13, v :: Q) from by unfold vNest; rw [if_neg (by decide), if_pos rfl]]
        by_cases hb : o.op = 21
        · have hv : v.isIf = true ∧ v.hasElse = false := by rcases e3 with e3 | e3 | e3 <;> first | exact e3.2 | (exfalso; omega)
          have hv' : ¬ (!v.isIf || v.hasElse) = true := by rw [hv.1, hv.2]; decide
          rw [if_neg (by simp [hb]), if_neg hv']
          by_cases hs : S = o.stack
          · rw [if_pos hs, if_pos (hst.1 hs), if_pos rfl]
            refine ⟨rfl, fun _ => ?_⟩
            simp only [VR]
            exact ⟨e1, e2, .inr (.inl (by simp [hv.1])), e4, e5, e6⟩
          · rw [if_neg hs, if_neg (fun e => hs (hst.2 e))]
            exact ⟨rfl, fun e => absurd e (by simp)⟩
        · have hv : (!v.isIf || v.hasElse) = true := by
            rcases e3 with e3 | e3 | e3
            · exact absurd e3.1 hb
            · simp [e3.2.1, e3.2.2]
            · simp [e3.2.1, e3.2.2]
          rw [if_pos ⟨rfl, hb⟩, if_pos hv]
          exact ⟨rfl, fun e => absurd e (by simp)⟩
      · rw [show vNest at_ 23 S (v :: Q) = if (S.size : Int) = v.base then (0, Q) else (13, v :: Q) from by unfold vNest; rw [if_neg (by decide), if_neg (by decide), if_pos rfl]]
        rw [if_neg (by rintro ⟨e, _⟩; exact absurd e (by decide) : ¬ ((23 : Int) = 22 ∧ o.op ≠ 21)), if_neg (by decide : ¬ (23 : Int) = 22)]
        by_cases hs : S = o.stack
        · rw [if_pos hs, if_pos (hst.1 hs)]
          exact ⟨rfl, fun _ => by rw [hs]; exact e6⟩
        · rw [if_neg hs, if_neg (fun e => hs (hst.2 e))]
          exact ⟨rfl, fun e => absurd e (by simp)⟩
theorem step_eq {ks : List Int} {R at_ op a : Int} {S : ByteArray} {O : List SO} {V : List VO} (h : VR S O V) (hi : sInv S O) :
    (sStep ks R at_ op a S O).1 = (vStep ks R at_ op a S V).1 ∧ ((sStep ks R at_ op a S O).1 = 0 → (sStep ks R at_ op a S O).2.1 = (vStep ks R at_ op a S V).2.1 ∧ VR (sStep ks R at_ op a S O).2.1 (sStep ks R at_ op a S O).2.2 (vStep ks R at_ op a S V).2.2) := by
  have hb := h.base
  have hr := sBase_range hi
  unfold sStep vStep
  by_cases h1 : (op = 19 ∨ op = 20) ∧ (ks.length : Int) ≤ a
  · rw [if_pos h1, if_pos h1]; exact ⟨rfl, fun e => absurd e (by simp)⟩
  rw [if_neg h1, if_neg h1]
  by_cases h2 : op = 26 ∧ R ≤ a
  · rw [if_pos h2, if_pos h2]; exact ⟨rfl, fun e => absurd e (by simp)⟩
  rw [if_neg h2, if_neg h2]
  by_cases h3 : (S.size : Int) - sBase O < ((vEff ks op a).1.size : Int)
  · have h3' : (S.size : Int) - ((vEff ks op a).1.size : Int) < vBase V := by omega
    rw [if_pos h3, if_pos h3']; exact ⟨rfl, fun e => absurd e (by simp)⟩
  have h3' : ¬ (S.size : Int) - ((vEff ks op a).1.size : Int) < vBase V := by omega
  rw [if_neg h3, if_neg h3']
  by_cases h4 : S.extract (S.size - (vEff ks op a).1.size) S.size = (vEff ks op a).1
  · rw [if_pos h4, if_pos h4]
    by_cases h5 : S.size - (vEff ks op a).1.size + (vEff ks op a).2.size ≤ 8
    · rw [if_pos h5, if_pos h5]
      have hc : VR (S.extract 0 (S.size - (vEff ks op a).1.size) ++ (vEff ks op a).2) O V := h.cut (by omega) (by omega)
      by_cases h6 : 21 ≤ op ∧ op ≤ 24
      · rw [if_pos h6]
        obtain ⟨n1, n2⟩ := nest_eq (at_ := at_) hc h6
        exact ⟨n1, fun e => ⟨rfl, n2 e⟩⟩
      · rw [if_neg h6]
        have hv : vNest at_ op (S.extract 0 (S.size - (vEff ks op a).1.size) ++ (vEff ks op a).2) V = (0, V) := by
          unfold vNest
          rw [if_neg (by omega : ¬ (op = 21 ∨ op = 24)), if_neg (by omega : ¬ op = 22), if_neg (by omega : ¬ op = 23)]
        rw [hv]
        exact ⟨rfl, fun _ => ⟨rfl, hc⟩⟩
    · rw [if_neg h5, if_neg h5]; exact ⟨rfl, fun e => absurd e (by simp)⟩
  · rw [if_neg h4, if_neg h4]; exact ⟨rfl, fun e => absurd e (by simp)⟩
theorem loop_eq (ks : List Int) (R : Int) (xs : List S91) : ∀ (at_ : Int) (S : ByteArray) (O : List SO) (V : List VO) (out : List ByteArray), VR S O V → sInv S O → (vLoop ks R xs at_ S V out).2 = sLoop ks R xs at_ S O := by
  induction xs with
  | nil =>
    intro at_ S O V out h hi
    cases O <;> cases V <;> simp only [VR] at h
    · simp only [vLoop, sLoop]; split <;> rfl
    · simp only [vLoop, sLoop]; rw [h.1]
  | cons x xs ih =>
    intro at_ S O V out h hi
    obtain ⟨e1, e2⟩ := step_eq (ks := ks) (R := R) (at_ := at_) (op := x.f0) (a := x.f1) h hi
    simp only [vLoop, sLoop]
    rw [← e1]
    by_cases hc : (sStep ks R at_ x.f0 x.f1 S O).1 = 0
    · rw [if_pos hc, if_pos hc]
      obtain ⟨e3, e4⟩ := e2 hc
      rw [← e3]
      exact ih _ _ _ _ _ e4 (sStep_inv hi hc)
    · rw [if_neg hc, if_neg hc]

theorem loop_out (ks : List Int) (R : Int) (xs : List S91) : ∀ (at_ : Int) (S : ByteArray) (O : List SO) (V : List VO) (out : List ByteArray), VR S O V → sInv S O → (vLoop ks R xs at_ S V out).2.2 = 0 →
    ∃ tail, (vLoop ks R xs at_ S V out).1 = out ++ tail ∧ tail.length = xs.length + 1 ∧ ∀ i, i ≤ xs.length → tail[i]? = some (sRun ks R (xs.take i) at_ S O) ∧ (sRun ks R (xs.take i) at_ S O).size ≤ 8 := by
  induction xs with
  | nil =>
    intro at_ S O V out h hi h0
    cases V with
    | cons v Q => simp only [vLoop] at h0; exact absurd h0 (by decide)
    | nil =>
      simp only [vLoop] at h0 ⊢
      by_cases hs : S.size = 0
      · rw [if_pos hs]
        have e : S = ⟨#[]⟩ := ByteArray.ext (Array.eq_empty_of_size_eq_zero hs)
        refine ⟨[⟨#[]⟩], rfl, rfl, fun i hi' => ?_⟩
        have : i = 0 := by simpa using hi'
        subst this
        simp only [List.take_zero, sRun]
        exact ⟨by rw [e]; rfl, hi.1⟩
      · rw [if_neg hs] at h0
        exact absurd h0 (by simp)
  | cons x xs ih =>
    intro at_ S O V out h hi h0
    obtain ⟨e1, e2⟩ := step_eq (ks := ks) (R := R) (at_ := at_) (op := x.f0) (a := x.f1) h hi
    simp only [vLoop] at h0 ⊢
    rw [← e1] at h0 ⊢
    by_cases hc : (sStep ks R at_ x.f0 x.f1 S O).1 = 0
    · rw [if_pos hc] at h0 ⊢
      obtain ⟨e3, e4⟩ := e2 hc
      rw [← e3] at h0 ⊢
      obtain ⟨tail, t1, t2, t3⟩ := ih _ _ _ _ _ e4 (sStep_inv hi hc) h0
      refine ⟨S :: tail, by rw [t1]; simp, by simp [t2], fun i hi' => ?_⟩
      cases i with
      | zero => exact ⟨rfl, hi.1⟩
      | succ i =>
        simp only [List.take_succ_cons, sRun, List.getElem?_cons_succ]
        exact t3 i (by simpa using hi')
    · rw [if_neg hc] at h0
      exact absurd h0 hc
theorem stack_same (l0 : List S91) (l1 : List Int) (a2 a3 : Int) (h0 : l0.length ≤ 1048576) (h1 : l1.length ≤ 1048576) (k : Nat) (hk : l0.length + l1.length + 20 < k) :
    ∃ r, spec_StackAt.f k l0 l1 a2 a3 = some r ∧ impl_StackAt.f k l0 l1 a2 a3 = some r := by
  unfold spec_StackAt.f impl_StackAt.f
  rw [verifyCode_eq l0 l1 a2 h0 h1 _ (by omega)]
  simp only [Option.bind_some]
  by_cases c0 : 4096 < l0.length
  · have e : askC l0 l1 a2 = 2 := by unfold askC; rw [if_pos (.inl c0)]
    rw [if_pos c0, e]; exact ⟨_, rfl, rfl⟩
  rw [if_neg c0]
  by_cases c1 : 4096 < l1.length
  · have e : askC l0 l1 a2 = 2 := by unfold askC; rw [if_pos (.inr c1)]
    rw [if_pos c1, e]; exact ⟨_, rfl, rfl⟩
  rw [if_neg c1, l04Ask_eq l0 l1 a2 h0 h1 k (by omega)]
  simp only [Option.bind_some]
  by_cases hz : askC l0 l1 a2 = 0
  case neg => rw [if_neg hz, if_neg hz]; exact ⟨_, rfl, rfl⟩
  obtain ⟨z1, z2, z3⟩ := ok_of_ask hz
  have hp := ok_of_ins z1 z2 z3
  rw [if_pos hz, if_pos hz]
  unfold spec_l04Verify.f impl_verify.f
  rw [if_pos hp, if_pos hp]
  have hr : VR ⟨#[]⟩ [] [] := trivial
  have hi : sInv ⟨#[]⟩ [] := ⟨by decide, by decide, by simp⟩
  have he := loop_eq l1 a2 l0 0 ⟨#[]⟩ [] [] [] hr hi
  have ho := loop_out l1 a2 l0 0 ⟨#[]⟩ [] [] [] hr hi
  simp only [Option.bind_some]
  rw [← he, within_eq]
  simp only [Option.bind_some, when_eq]
  rw [first_eq _ (by simp) _ (by simp; omega)]
  simp only [Option.bind_some, fnz]
  by_cases hv : (vLoop l1 a2 l0 0 ⟨#[]⟩ [] []).2.2 = 0
  case neg => rw [if_neg hv, if_neg hv, if_neg hv]; exact ⟨_, rfl, rfl⟩
  rw [if_pos hv, if_pos hv]
  by_cases hin : 0 ≤ a3 ∧ a3 ≤ (l0.length : Int)
  · obtain ⟨tail, t1, t2, t3⟩ := ho hv
    obtain ⟨g1, g2⟩ := t3 a3.toNat (by omega)
    have hl : ((vLoop l1 a2 l0 0 ⟨#[]⟩ [] []).1.length : Int) = l0.length + 1 := by rw [t1]; simp [t2]
    rw [if_pos hin, decide_eq_true hin]
    simp only [Bool.not_true, Bool.false_eq_true, if_false, if_true]
    rw [if_pos hin.1, if_pos (by omega)]
    have hrd : rdOf ByteArray.empty (vLoop l1 a2 l0 0 ⟨#[]⟩ [] []).1 a3 = sRun l1 a2 (l0.take a3.toNat) 0 ⟨#[]⟩ [] := by
      unfold rdOf
      rw [t1, List.nil_append, List.getD_eq_getElem?_getD, g1]; rfl
    rw [hrd]
    unfold strings_Clone.f stringslite_Clone.f
    rw [if_pos (by omega)]
    exact ⟨_, rfl, rfl⟩
  · rw [if_neg hin, decide_eq_false hin]
    exact ⟨_, rfl, rfl⟩
theorem FnExactStackAt : laws_FnExactStackAt.Pure := by
  intro l0 l1 a2 a3 h0 h1 _ _
  obtain ⟨h0, _⟩ := h0
  obtain ⟨h1, _⟩ := h1
  refine ⟨l0.length + l1.length + 40, ?_⟩
  unfold laws_FnExactStackAt.f
  by_cases c1 : (l1.length : Int) > 1048576
  · rw [if_pos c1]
  rw [if_neg c1, szInstr_eq l0 h0]
  simp only [Option.bind_some]
  by_cases c0 : (l0.length : Int) ≤ 1048576
  · rw [if_pos c0, if_neg (by omega), toInstrS_eq l0 (by omega) _ (by omega), toIntS_eq l1 (by omega) _ (by omega)]
    obtain ⟨r, r1, r2⟩ := stack_same (l0.map cvI) l1 a2 a3 (by simp; omega) (by omega) (l0.length + l1.length + 40) (by simp)
    simp only [Option.bind_some, r1, r2, if_true, bne_self_eq_false]
    rw [show l0.length + l1.length + 40 = (l0.length + l1.length + 39) + 1 from rfl]
    simp only [laws_FnExactStackAt.j0, Bool.false_eq_true, if_false]
    rw [toInstrS_eq l0 (by omega) _ (by omega)]
    simp only [Option.bind_some]
    rw [eqInstrS_eq _ (by simp; omega) _ (by simp; omega)]
    simp only [Option.bind_some, if_true]
    rw [toIntS_eq l1 (by omega) _ (by omega)]
    simp only [Option.bind_some]
    rw [eqIntS_same l1 (by omega) _ (by omega)]
    rfl
  · rw [if_neg c0]; rfl


end Go.Proofs.Ytjgdfbcjlebniaa.Pure

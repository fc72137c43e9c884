/- Proved: the pure statement behind the law FnExactFlatOf of the given program: for every input that the row lets in, the program's answer and the reference's agree and the law returns true. Conditions: none beyond the row's own. -/
import Derived.Test.YtkegjmkdnfpfdaaMFnExactFlatOfx31
set_option linter.unusedVariables false
set_option linter.unusedSimpArgs false
namespace Go.Proofs.Ytkegjmkdnfpfdaa.Pure
open Go.RowKit Go.Proofs.Ytkegjmkdnfpfdaa.MFnExactFlatOf Go.Proofs.YtkegjmkdnfpfdaaW.PrintWords Go.Proofs.YtkegjmkdnfpfdaaW.PrintLast

theorem within_eq (a lo hi : Int) : impl_within.f a lo hi = some (decide (lo ≤ a ∧ a ≤ hi)) := by
  unfold impl_within.f
  by_cases h : a ≥ lo
  · have h' : lo ≤ a := h
    simp [h, h']
  · have h' : ¬ lo ≤ a := h
    simp [h, h']

theorem l01In_eq (a lo hi : Int) : spec_l01In.f a lo hi = some (decide (lo ≤ a ∧ a ≤ hi)) := by
  unfold spec_l01In.f
  by_cases h : a ≥ lo
  · have h' : lo ≤ a := h
    simp [h, h']
  · have h' : ¬ lo ≤ a := h
    simp [h, h']

theorem when_eq (b : Bool) (c : Int) : impl_when.f b c = some (if b = true then c else 0) := by
  unfold impl_when.f
  split <;> rfl

/-- The first number of a list that is not 0; else 0. -/
def fnz : List Int → Int
  | [] => 0
  | a :: l => if a = 0 then fnz l else a

theorem first_from (l : List Int) (hl : l.length ≤ 1000) : ∀ (d k i : Nat), l.length - i ≤ d → d < k → i ≤ l.length → impl_first.l0 k l l.length (i : Int) = some (fnz (l.drop i)) := by
  intro d
  induction d with
  | zero =>
    intro k i hd hk hi
    obtain ⟨k, rfl⟩ : ∃ m, k = m + 1 := ⟨k - 1, by omega⟩
    simp only [impl_first.l0]
    rw [if_neg (by omega), List.drop_of_length_le (by omega)]
    rfl
  | succ d ih =>
    intro k i hd hk hi
    obtain ⟨k, rfl⟩ : ∃ m, k = m + 1 := ⟨k - 1, by omega⟩
    simp only [impl_first.l0]
    by_cases h : i < l.length
    · have hw : wrap64 ((i : Int) + 1) = ((i + 1 : Nat) : Int) := by unfold wrap64; omega
      rw [hw, ih k (i + 1) (by omega) (by omega) (by omega)]
      have e : rd l (i : Int) = l[i] := by simp [rd, List.getD_eq_getElem?_getD, h]
      rw [List.drop_eq_getElem_cons h, e]
      rw [if_pos (by omega), if_pos (by omega), if_pos (by omega)]
      simp only [fnz]
      split <;> rfl
    · rw [if_neg (by omega), List.drop_of_length_le (by omega)]
      rfl

theorem first_eq (l : List Int) (hl : l.length ≤ 1000) (k : Nat) (hk : l.length < k) : impl_first.f k l = some (fnz l) := by
  unfold impl_first.f
  have h := first_from l hl l.length k 0 (by omega) hk (by omega)
  simpa using h

/-- The program's instruction for the law's. -/
def cvI (x : S88) : S96 := ⟨x.f0, x.f1⟩
theorem toInstrS_from (l : List S88) (hl : l.length ≤ 1048576) : ∀ (d k i : Nat) (ys : List S96), l.length - i ≤ d → d < k → i ≤ l.length → ys.length = l.length → ys.take i = (l.take i).map cvI → laws_toInstrS.l0 k l ys (i : Int) = some (l.map cvI) := by
  intro d
  induction d with
  | zero =>
    intro k i ys hd hk hi hy ht
    obtain ⟨k, rfl⟩ : ∃ m, k = m + 1 := ⟨k - 1, by omega⟩
    simp only [laws_toInstrS.l0]
    rw [if_neg (by omega)]
    have e : i = l.length := by omega
    subst e
    rw [List.take_of_length_le (by omega), List.take_of_length_le (by omega)] at ht
    rw [ht]
  | succ d ih =>
    intro k i ys hd hk hi hy ht
    obtain ⟨k, rfl⟩ : ∃ m, k = m + 1 := ⟨k - 1, by omega⟩
    by_cases h : i < l.length
    · have hw : wrap64 ((i : Int) + 1) = ((i + 1 : Nat) : Int) := by unfold wrap64; omega
      have e : rd_T88 l (i : Int) = l[i] := by simp [rd_T88, List.getD_eq_getElem?_getD, h]
      conv => lhs; unfold laws_toInstrS.l0
      rw [if_pos (by omega), if_pos (by omega), e]
      unfold laws_toInstr.f
      simp only [Option.bind_some]
      rw [if_pos (by omega), hw]
      apply ih k (i + 1) _ (by omega) (by omega) (by omega) (by simpa using hy)
      have hi2 : i < ys.length := by omega
      have ei : ((i : Int)).toNat = i := by omega
      rw [ei]
      apply List.ext_getElem
      · simp; omega
      · intro j h1 h2
        simp only [List.length_take, List.length_set] at h1
        rw [List.getElem_take, List.getElem_set]
        by_cases hj : i = j
        · subst hj
          simp [cvI]
        · have hji : j < i := by omega
          rw [if_neg hj]
          have hh : (ys.take i)[j]? = ((l.take i).map cvI)[j]? := by rw [ht]
          simp [hji] at hh
          rw [List.getElem?_eq_getElem (by omega), List.getElem?_eq_getElem (by omega)] at hh
          simp at hh
          simp [hh]
    · conv => lhs; unfold laws_toInstrS.l0
      rw [if_neg (by omega)]
      have e : i = l.length := by omega
      subst e
      rw [List.take_of_length_le (by omega), List.take_of_length_le (by omega)] at ht
      rw [ht]
theorem toInstrS_eq (l : List S88) (hl : l.length ≤ 1048576) (k : Nat) (hk : l.length < k) : laws_toInstrS.f k l = some (l.map cvI) := by
  unfold laws_toInstrS.f
  rw [if_pos (by omega), if_pos (by omega)]
  have h := toInstrS_from l hl l.length k 0 (List.replicate l.length z96) (by omega) hk (by omega) (by simp) (by simp)
  simpa using h
theorem eqInstr_refl (a b : Int) : laws_eqInstr.f a b a b = some true := by
  unfold laws_eqInstr.f
  simp
theorem eqInstrS_from (l : List S96) (hl : l.length ≤ 1048576) : ∀ (d k i : Nat), l.length - i ≤ d → d < k → i ≤ l.length → laws_eqInstrS.l0 k l l (i : Int) = some true := by
  intro d
  induction d with
  | zero =>
    intro k i hd hk hi
    obtain ⟨k, rfl⟩ : ∃ m, k = m + 1 := ⟨k - 1, by omega⟩
    simp only [laws_eqInstrS.l0]
    rw [if_neg (by omega)]
  | succ d ih =>
    intro k i hd hk hi
    obtain ⟨k, rfl⟩ : ∃ m, k = m + 1 := ⟨k - 1, by omega⟩
    simp only [laws_eqInstrS.l0]
    by_cases h : i < l.length
    · have hw : wrap64 ((i : Int) + 1) = ((i + 1 : Nat) : Int) := by unfold wrap64; omega
      rw [hw, ih k (i + 1) (by omega) (by omega) (by omega), eqInstr_refl]
      rw [if_pos (by omega), if_pos (by omega), if_pos (by omega)]
      rfl
    · rw [if_neg (by omega)]
theorem eqInstrS_eq (l : List S96) (hl : l.length ≤ 1048576) (k : Nat) (hk : l.length < k) : laws_eqInstrS.f k l l = some true := by
  unfold laws_eqInstrS.f
  rw [if_pos rfl]
  have h := eqInstrS_from l hl l.length k 0 (by omega) hk (by omega)
  simpa using h
theorem szInstr_eq (l : List S88) (hl : l.length ≤ maxLen) : laws_szInstrS.f l 1048576 = some ((if (l.length : Int) ≤ 1048576 then 1048576 - (l.length : Int) else -1 : Int)) := by
  unfold laws_szInstrS.f
  have hm : (l.length : Int) ≤ 9223372036854775807 := by have : maxLen ≤ 9223372036854775807 := by decide
                                                         omega
  have hw : wrap64 (1048576 - (l.length : Int)) = 1048576 - l.length := by unfold wrap64; omega
  rw [hw]
  by_cases h : (l.length : Int) ≤ 1048576
  · rw [if_pos h, if_neg (by omega)]
  · rw [if_neg h, if_pos (by omega)]

theorem toIntS_from (l : List Int) (hl : l.length ≤ 1048576) : ∀ (d k i : Nat) (acc : List Int), l.length - i ≤ d → d < k → i ≤ l.length → acc.length = l.length → (∀ j, j < i → acc[j]? = l[j]?) → laws_toIntS.l0 k l acc (i : Int) = some l := by
  intro d
  induction d with
  | zero =>
    intro k i acc hd hk hi hlen hA
    obtain ⟨k, rfl⟩ : ∃ m, k = m + 1 := ⟨k - 1, by omega⟩
    simp only [laws_toIntS.l0]
    rw [if_neg (by omega)]
    congr 1
    apply List.ext_getElem?
    intro j
    by_cases h : j < i
    · exact hA j h
    · rw [List.getElem?_eq_none (by omega), List.getElem?_eq_none (by omega)]
  | succ d ih =>
    intro k i acc hd hk hi hlen hA
    obtain ⟨k, rfl⟩ : ∃ m, k = m + 1 := ⟨k - 1, by omega⟩
    simp only [laws_toIntS.l0]
    by_cases h : i < l.length
    · rw [if_pos (by omega), if_pos (by omega), if_pos (by omega)]
      have hw : wrap64 ((i : Int) + 1) = ((i + 1 : Nat) : Int) := by unfold wrap64; omega
      rw [hw]
      refine ih k (i + 1) _ (by omega) (by omega) (by omega) (by simp [hlen]) (fun j hj => ?_)
      have e : rd l (i : Int) = l[i] := by simp [rd, List.getD_eq_getElem?_getD, h]
      rw [e, Int.toNat_natCast, List.getElem?_set]
      by_cases hji : i = j
      · subst hji
        rw [if_pos rfl, if_pos (by omega), List.getElem?_eq_getElem h]
      · rw [if_neg hji]
        exact hA j (by omega)
    · rw [if_neg (by omega)]
      congr 1
      apply List.ext_getElem?
      intro j
      by_cases h2 : j < i
      · exact hA j h2
      · rw [List.getElem?_eq_none (by omega), List.getElem?_eq_none (by omega)]
theorem toIntS_eq (l : List Int) (hl : l.length ≤ 1048576) (k : Nat) (hk : l.length < k) : laws_toIntS.f k l = some l := by
  unfold laws_toIntS.f
  rw [if_pos (by omega), if_pos (by omega)]
  exact toIntS_from l hl l.length k 0 _ (by omega) hk (by omega) (by simp) (fun j hj => by omega)
theorem eqIntS_from (l : List Int) (hl : l.length ≤ 1048576) : ∀ (d k i : Nat), l.length - i ≤ d → d < k → i ≤ l.length → laws_eqIntS.l0 k l l (i : Int) = some true := by
  intro d
  induction d with
  | zero =>
    intro k i hd hk hi
    obtain ⟨k, rfl⟩ : ∃ m, k = m + 1 := ⟨k - 1, by omega⟩
    simp only [laws_eqIntS.l0]
    rw [if_neg (by omega)]
  | succ d ih =>
    intro k i hd hk hi
    obtain ⟨k, rfl⟩ : ∃ m, k = m + 1 := ⟨k - 1, by omega⟩
    simp only [laws_eqIntS.l0]
    by_cases h : i < l.length
    · have hw : wrap64 ((i : Int) + 1) = ((i + 1 : Nat) : Int) := by unfold wrap64; omega
      rw [if_pos (by omega), if_pos (by omega), hw, ih k (i + 1) (by omega) (by omega) (by omega)]
      simp only [show ((i : Int) < (l.length : Int)) from by omega, if_true]
    · rw [if_neg (by omega)]
theorem eqIntS_same (l : List Int) (hl : l.length ≤ 1048576) (k : Nat) (hk : l.length < k) : laws_eqIntS.f k l l = some true := by
  unfold laws_eqIntS.f
  rw [if_pos rfl]
  exact eqIntS_from l hl l.length k 0 (by omega) hk (by omega)

theorem has_j2 (k : Nat) (a : Int) (b : Bool) : spec_l02Has.j2 k a b = impl_rangeOf.j2 k a b := by
  cases k <;> simp only [spec_l02Has.j2, impl_rangeOf.j2]
theorem has_j1 (k : Nat) (a : Int) (b : Bool) : spec_l02Has.j1 k a b = impl_rangeOf.j1 k a b := by
  cases k <;> simp only [spec_l02Has.j1, impl_rangeOf.j1, has_j2]
theorem has_j0 (k : Nat) (a : Int) (b : Bool) : spec_l02Has.j0 k a b = impl_rangeOf.j0 k a b := by
  cases k <;> simp only [spec_l02Has.j0, impl_rangeOf.j0, has_j1]
theorem has_same (k : Nat) (a : Int) : spec_l02Has.f k a = impl_rangeOf.f k a := by
  unfold spec_l02Has.f impl_rangeOf.f
  simp only [has_j0]
/-- The range of an operation's operand, and whether it has one. -/
def rng (a : Int) : Int × Int × Bool :=
  if a = 1 then (-2147483648, 2147483647, true) else if a = 2 then (0, 1, true) else if a = 3 ∨ a = 4 then (0, 15, true) else if a = 5 ∨ a = 6 ∨ a = 7 ∨ a = 8 then (0, 7, true)
  else if a = 19 ∨ a = 20 then (0, 7, true) else if a = 24 then (1, 20, true) else if a = 26 then (0, 5, true) else (0, 0, false)
theorem range_eq (k : Nat) (hk : 3 ≤ k) (a : Int) : impl_rangeOf.f k a = some (rng a) := by
  obtain ⟨k, rfl⟩ : ∃ m, k = m + 3 := ⟨k - 3, by omega⟩
  unfold impl_rangeOf.f rng
  simp only [impl_rangeOf.j0, impl_rangeOf.j1, impl_rangeOf.j2]
  by_cases h1 : a = 1
  · subst h1; rfl
  by_cases h2 : a = 2
  · subst h2; rfl
  by_cases h3 : a = 3
  · subst h3; rfl
  by_cases h4 : a = 4
  · subst h4; rfl
  by_cases h5 : a = 5
  · subst h5; rfl
  by_cases h6 : a = 6
  · subst h6; rfl
  by_cases h7 : a = 7
  · subst h7; rfl
  by_cases h8 : a = 8
  · subst h8; rfl
  by_cases h19 : a = 19
  · subst h19; rfl
  by_cases h20 : a = 20
  · subst h20; rfl
  by_cases h24 : a = 24
  · subst h24; rfl
  by_cases h26 : a = 26
  · subst h26; rfl
  simp [h1, h2, h3, h4, h5, h6, h7, h8, h19, h20, h24, h26]

def instrb (op a : Int) : Bool := decide ((1 ≤ op ∧ op ≤ 26) ∧ ((rng op).1 ≤ a ∧ a ≤ (rng op).2.1))
theorem isOp_eq (a : Int) : impl_isOp.f a = some (decide (1 ≤ a ∧ a ≤ 26)) := by
  unfold impl_isOp.f; rw [within_eq]; rfl
theorem l02Op_eq (a : Int) : spec_l02Op.f a = some (decide (1 ≤ a ∧ a ≤ 26)) := by
  unfold spec_l02Op.f; rw [l01In_eq]; rfl
theorem spec_instr (k : Nat) (hk : 3 ≤ k) (op a : Int) : spec_l02OK.f k op a = some (instrb op a) := by
  unfold spec_l02OK.f instrb
  simp only [l02Op_eq, l01In_eq, has_same, range_eq k hk, Option.bind_some]
  by_cases h : 1 ≤ op ∧ op ≤ 26 <;> simp [h]
theorem impl_instr (k : Nat) (hk : 3 ≤ k) (op a : Int) : impl_InstrOK.f k op a = some (instrb op a) := by
  unfold impl_InstrOK.f instrb
  simp only [isOp_eq, within_eq, range_eq k hk, Option.bind_some]
  by_cases h : 1 ≤ op ∧ op ≤ 26 <;> simp [h]

theorem impl_all_int_isFbKind_from (p : Int → Bool) (K : Nat) (hF : ∀ (k : Nat) (x : Int), K ≤ k → impl_isFbKind.f x = some (p x)) (l : List Int) (hl : l.length ≤ 1048576) : ∀ (d k i : Nat), l.length - i ≤ d → d + K < k → i ≤ l.length →
    ∃ j, impl_all_int_isFbKind.l0 k l (i : Int) = some j ∧ (!(decide (0 ≤ j))) = (l.drop i).all p := by
  intro d
  induction d with
  | zero =>
    intro k i hd hk hi
    obtain ⟨k, rfl⟩ : ∃ m, k = m + 1 := ⟨k - 1, by omega⟩
    refine ⟨-1, ?_, ?_⟩
    · simp only [impl_all_int_isFbKind.l0]
      rw [if_neg (by omega)]
    · rw [List.drop_of_length_le (by omega)]
      rfl
  | succ d ih =>
    intro k i hd hk hi
    obtain ⟨k, rfl⟩ : ∃ m, k = m + 1 := ⟨k - 1, by omega⟩
    by_cases h : i < l.length
    · have e : rd l (i : Int) = l[i] := by simp [rd, List.getD_eq_getElem?_getD, h]
      have hw : wrap64 ((i : Int) + 1) = ((i + 1 : Nat) : Int) := by unfold wrap64; omega
      obtain ⟨j, hj, hp⟩ := ih k (i + 1) (by omega) (by omega) (by omega)
      have hx := hF k l[i] (by omega)
      rw [List.drop_eq_getElem_cons h, List.all_cons]
      simp only [impl_all_int_isFbKind.l0]
      rw [if_pos (by omega), if_pos (by omega), e, hw, hx]
      simp only [Option.bind_some]
      cases p l[i] with
      | true => exact ⟨j, by rw [if_pos rfl]; exact hj, by simpa using hp⟩
      | false => exact ⟨(i : Int), by rw [if_neg (by decide)], by simp⟩
    · refine ⟨-1, ?_, ?_⟩
      · simp only [impl_all_int_isFbKind.l0]
        rw [if_neg (by omega)]
      · rw [List.drop_of_length_le (by omega)]
        rfl
theorem impl_all_int_isFbKind_eq (p : Int → Bool) (K : Nat) (hF : ∀ (k : Nat) (x : Int), K ≤ k → impl_isFbKind.f x = some (p x)) (l : List Int) (hl : l.length ≤ 1048576) (k : Nat) (hk : l.length + K < k) : impl_all_int_isFbKind.f k l = some (l.all p) := by
  obtain ⟨j, hj, hp⟩ := impl_all_int_isFbKind_from p K hF l hl l.length k 0 (by omega) (by omega) (by omega)
  unfold impl_all_int_isFbKind.f
  have hj' : impl_all_int_isFbKind.l0 k l 0 = some j := hj
  rw [hj']
  simp only [Option.bind_some]
  rw [hp]
  rfl

theorem impl_all_Instr_InstrOK_from (p : S96 → Bool) (K : Nat) (hF : ∀ (k : Nat) (x : S96), K ≤ k → impl_InstrOK.f k x.f0 x.f1 = some (p x)) (l : List S96) (hl : l.length ≤ 1048576) : ∀ (d k i : Nat), l.length - i ≤ d → d + K < k → i ≤ l.length →
    ∃ j, impl_all_Instr_InstrOK.l0 k l (i : Int) = some j ∧ (!(decide (0 ≤ j))) = (l.drop i).all p := by
  intro d
  induction d with
  | zero =>
    intro k i hd hk hi
    obtain ⟨k, rfl⟩ : ∃ m, k = m + 1 := ⟨k - 1, by omega⟩
    refine ⟨-1, ?_, ?_⟩
    · simp only [impl_all_Instr_InstrOK.l0]
      rw [if_neg (by omega)]
    · rw [List.drop_of_length_le (by omega)]
      rfl
  | succ d ih =>
    intro k i hd hk hi
    obtain ⟨k, rfl⟩ : ∃ m, k = m + 1 := ⟨k - 1, by omega⟩
    by_cases h : i < l.length
    · have e : rd_T96 l (i : Int) = l[i] := by simp [rd_T96, List.getD_eq_getElem?_getD, h]
      have hw : wrap64 ((i : Int) + 1) = ((i + 1 : Nat) : Int) := by unfold wrap64; omega
      obtain ⟨j, hj, hp⟩ := ih k (i + 1) (by omega) (by omega) (by omega)
      have hx := hF k l[i] (by omega)
      rw [List.drop_eq_getElem_cons h, List.all_cons]
      simp only [impl_all_Instr_InstrOK.l0]
      rw [if_pos (by omega), if_pos (by omega), e, hw, hx]
      simp only [Option.bind_some]
      cases p l[i] with
      | true => exact ⟨j, by rw [if_pos rfl]; exact hj, by simpa using hp⟩
      | false => exact ⟨(i : Int), by rw [if_neg (by decide)], by simp⟩
    · refine ⟨-1, ?_, ?_⟩
      · simp only [impl_all_Instr_InstrOK.l0]
        rw [if_neg (by omega)]
      · rw [List.drop_of_length_le (by omega)]
        rfl
theorem impl_all_Instr_InstrOK_eq (p : S96 → Bool) (K : Nat) (hF : ∀ (k : Nat) (x : S96), K ≤ k → impl_InstrOK.f k x.f0 x.f1 = some (p x)) (l : List S96) (hl : l.length ≤ 1048576) (k : Nat) (hk : l.length + K < k) : impl_all_Instr_InstrOK.f k l = some (l.all p) := by
  obtain ⟨j, hj, hp⟩ := impl_all_Instr_InstrOK_from p K hF l hl l.length k 0 (by omega) (by omega) (by omega)
  unfold impl_all_Instr_InstrOK.f
  have hj' : impl_all_Instr_InstrOK.l0 k l 0 = some j := hj
  rw [hj']
  simp only [Option.bind_some]
  rw [hp]
  rfl

def kindB (a : Int) : Bool := decide (1 ≤ a ∧ a ≤ 4)
def insB (x : S96) : Bool := instrb x.f0 x.f1
theorem isFbKind_eq (a : Int) : impl_isFbKind.f a = some (kindB a) := by unfold impl_isFbKind.f kindB; rw [within_eq]; rfl
theorem l03Kind_eq (a : Int) : spec_l03Kind.f a = some (kindB a) := by unfold spec_l03Kind.f kindB; rw [l01In_eq]; rfl
theorem areKinds_eq (l : List Int) (hl : l.length ≤ 1048576) (k : Nat) (hk : l.length + 1 < k) : impl_areKinds.f k l = some (decide (l.length ≤ 8) && l.all kindB) := by
  unfold impl_areKinds.f
  by_cases h : l.length ≤ 8
  · rw [if_pos (by omega), impl_all_int_isFbKind_eq kindB 0 (fun k x _ => isFbKind_eq x) l hl k (by omega), decide_eq_true h]; rfl
  · rw [if_neg (by omega), decide_eq_false h]; rfl
theorem isCode_eq (l : List S96) (hl : l.length ≤ 1048576) (k : Nat) (hk : l.length + 4 < k) : impl_isCode.f k l = some (decide (l.length ≤ 40) && l.all insB) := by
  unfold impl_isCode.f
  by_cases h : l.length ≤ 40
  · rw [if_pos (by omega), impl_all_Instr_InstrOK_eq insB 3 (fun k x hk => impl_instr k hk x.f0 x.f1) l hl k (by omega), decide_eq_true h]; rfl
  · rw [if_neg (by omega), decide_eq_false h]; rfl
theorem l04Kinds_from (l : List Int) (hl : l.length ≤ 1048576) : ∀ (d k i : Nat), l.length - i ≤ d → d < k → i ≤ l.length → spec_l04Kinds.l0 k l (i : Int) = some ((l.drop i).all kindB) := by
  intro d
  induction d with
  | zero =>
    intro k i hd hk hi
    obtain ⟨k, rfl⟩ : ∃ m, k = m + 1 := ⟨k - 1, by omega⟩
    simp only [spec_l04Kinds.l0]
    rw [if_neg (by omega), List.drop_of_length_le (by omega)]
    rfl
  | succ d ih =>
    intro k i hd hk hi
    obtain ⟨k, rfl⟩ : ∃ m, k = m + 1 := ⟨k - 1, by omega⟩
    simp only [spec_l04Kinds.l0]
    by_cases h : i < l.length
    · have e : rd l (i : Int) = l[i] := by simp [rd, List.getD_eq_getElem?_getD, h]
      have hw : wrap64 ((i : Int) + 1) = ((i + 1 : Nat) : Int) := by unfold wrap64; omega
      rw [if_pos (by omega), if_pos (by omega), e, hw, ih k (i + 1) (by omega) (by omega) (by omega), l03Kind_eq, List.drop_eq_getElem_cons h, List.all_cons]
      simp only [Option.bind_some]
      cases kindB l[i] <;> rfl
    · rw [if_neg (by omega), List.drop_of_length_le (by omega)]
      rfl
theorem l04Kinds_eq (l : List Int) (hl : l.length ≤ 1048576) (k : Nat) (hk : l.length < k) : spec_l04Kinds.f k l = some (decide (l.length ≤ 8) && l.all kindB) := by
  unfold spec_l04Kinds.f
  by_cases h : l.length ≤ 8
  · have := l04Kinds_from l hl l.length k 0 (by omega) hk (by omega)
    rw [if_neg (by omega), decide_eq_true h]
    simpa using this
  · rw [if_pos (by omega), decide_eq_false h]; rfl
theorem l02All_from (l : List S96) (hl : l.length ≤ 1048576) : ∀ (d k i : Nat), l.length - i ≤ d → d + 3 < k → i ≤ l.length → spec_l02All.l0 k l (i : Int) = some ((l.drop i).all insB) := by
  intro d
  induction d with
  | zero =>
    intro k i hd hk hi
    obtain ⟨k, rfl⟩ : ∃ m, k = m + 1 := ⟨k - 1, by omega⟩
    simp only [spec_l02All.l0]
    rw [if_neg (by omega), List.drop_of_length_le (by omega)]
    rfl
  | succ d ih =>
    intro k i hd hk hi
    obtain ⟨k, rfl⟩ : ∃ m, k = m + 1 := ⟨k - 1, by omega⟩
    simp only [spec_l02All.l0]
    by_cases h : i < l.length
    · have e : rd_T96 l (i : Int) = l[i] := by simp [rd_T96, List.getD_eq_getElem?_getD, h]
      have hw : wrap64 ((i : Int) + 1) = ((i + 1 : Nat) : Int) := by unfold wrap64; omega
      rw [if_pos (by omega), if_pos (by omega), e, hw, ih k (i + 1) (by omega) (by omega) (by omega), spec_instr k (by omega), List.drop_eq_getElem_cons h, List.all_cons]
      simp only [Option.bind_some]
      show (if insB l[i] = true then _ else _) = _
      cases insB l[i] <;> rfl
    · rw [if_neg (by omega), List.drop_of_length_le (by omega)]
      rfl
theorem l02All_eq (l : List S96) (hl : l.length ≤ 1048576) (k : Nat) (hk : l.length + 3 < k) : spec_l02All.f k l = some (l.all insB) := by
  unfold spec_l02All.f
  have := l02All_from l hl l.length k 0 (by omega) hk (by omega)
  simpa using this
/-- What is asked well is fit for the walk. -/
theorem ok_of_ins {l0 : List S96} {l1 : List Int} (hl : l0.length ≤ 40) (h1 : l1.all kindB = true) (h0 : l0.all insB = true) : l0.length ≤ 4096 ∧ (l0.all fun x => vOKb l1 x.f0 x.f1) = true := by
  refine ⟨by omega, ?_⟩
  rw [List.all_eq_true] at h0 ⊢
  intro x hx
  have hi := h0 x hx
  unfold insB instrb at hi
  have hi' := of_decide_eq_true hi
  obtain ⟨⟨a1, a2⟩, a3, a4⟩ := hi'
  unfold vOKb
  have hk : (l1.all fun k => decide (1 ≤ k) && decide (k ≤ 4)) = true := by
    rw [List.all_eq_true] at h1 ⊢
    intro y hy
    have := of_decide_eq_true (h1 y hy)
    rw [decide_eq_true this.1, decide_eq_true this.2]; rfl
  rw [hk, decide_eq_true a1, decide_eq_true a2]
  by_cases h19 : x.f0 = 19
  · rw [h19] at a3
    have : (0 : Int) ≤ x.f1 := a3
    rw [decide_eq_true this]; simp
  · by_cases h20 : x.f0 = 20
    · rw [h20] at a3
      have : (0 : Int) ≤ x.f1 := a3
      rw [decide_eq_true this]; simp
    · have e1 : (x.f0 == 19) = false := by simpa using h19
      have e2 : (x.f0 == 20) = false := by simpa using h20
      rw [e1, e2]; rfl

/-- What a verifier is asked: the code of it. -/
def askC (l0 : List S96) (l1 : List Int) (a2 : Int) : Int :=
  if 4096 < l0.length ∨ 4096 < l1.length then 2 else if 40 < l0.length then 6
  else if ((decide (l1.length ≤ 8) && l1.all kindB) && l0.all insB) = true then (if 0 ≤ a2 ∧ a2 ≤ 6 then 0 else 4) else 1
theorem ok_of_ask {l0 : List S96} {l1 : List Int} {a2 : Int} (h : askC l0 l1 a2 = 0) : l0.length ≤ 40 ∧ l1.all kindB = true ∧ l0.all insB = true := by
  unfold askC at h
  by_cases h1 : 4096 < l0.length ∨ 4096 < l1.length
  · rw [if_pos h1] at h; cases h
  rw [if_neg h1] at h
  by_cases h2 : 40 < l0.length
  · rw [if_pos h2] at h; cases h
  rw [if_neg h2] at h
  by_cases h3 : ((decide (l1.length ≤ 8) && l1.all kindB) && l0.all insB) = true
  · simp only [Bool.and_eq_true] at h3
    exact ⟨by omega, h3.1.2, h3.2⟩
  · rw [if_neg h3] at h; cases h
theorem l04Ask_eq (l0 : List S96) (l1 : List Int) (a2 : Int) (h0 : l0.length ≤ 1048576) (h1 : l1.length ≤ 1048576) (k : Nat) (hk : l0.length + l1.length + 10 < k) : spec_l04Ask.f k l0 l1 a2 = some (askC l0 l1 a2) := by
  obtain ⟨k, rfl⟩ : ∃ m, k = m + 1 + 1 := ⟨k - 2, by omega⟩
  unfold spec_l04Ask.f askC
  by_cases c1 : 4096 < l0.length
  · rw [if_pos (by omega), if_pos (.inl c1)]; simp only [spec_l04Ask.j0]; rfl
  rw [if_neg (by omega)]
  by_cases c2 : 4096 < l1.length
  · rw [if_pos (.inr c2), decide_eq_true (by omega)]; simp only [spec_l04Ask.j0]; rfl
  rw [if_neg (by omega), decide_eq_false (by omega)]
  simp only [spec_l04Ask.j0, Bool.false_eq_true, if_false]
  by_cases c3 : 40 < l0.length
  · rw [if_pos (by omega), if_pos c3]
  rw [if_neg (by omega), if_neg c3, l04Kinds_eq l1 h1 _ (by omega)]
  simp only [Option.bind_some]
  by_cases c4 : (decide (l1.length ≤ 8) && l1.all kindB) = true
  · rw [if_pos c4, l02All_eq l0 h0 _ (by omega), c4, Bool.true_and]
    simp only [Option.bind_some]
    simp only [spec_l04Ask.j1]
    cases l0.all insB
    · rfl
    · simp only [Bool.not_true, Bool.false_eq_true, if_false, l01In_eq, Option.bind_some, if_true]
      by_cases c5 : 0 ≤ a2 ∧ a2 ≤ 6
      · rw [decide_eq_true c5, if_pos c5]; rfl
      · rw [decide_eq_false c5, if_neg c5]; rfl
  · rw [if_neg c4]
    simp only [spec_l04Ask.j1]
    have hn : ¬ ((decide (l1.length ≤ 8) && l1.all kindB) && l0.all insB) = true := fun h => c4 (by simp only [Bool.and_eq_true] at h ⊢; exact h.1)
    rw [if_neg hn]
    rfl
theorem verifyCode_eq (l0 : List S96) (l1 : List Int) (a2 : Int) (h0 : l0.length ≤ 1048576) (h1 : l1.length ≤ 1048576) (k : Nat) (hk : l0.length + l1.length + 10 < k) : impl_verifyCode.f k l0 l1 a2 = some (askC l0 l1 a2) := by
  unfold impl_verifyCode.f impl_many_int.f impl_Instr_71.f askC
  simp only [when_eq, Option.bind_some]
  rw [areKinds_eq l1 h1 _ (by omega)]
  simp only [Option.bind_some, isCode_eq l0 h0 k (by omega), within_eq]
  cases hk1 : (decide (l1.length ≤ 8) && l1.all kindB)
  · simp only [Bool.false_eq_true, if_false, if_true]
    rw [first_eq _ (by simp) _ (by simp; omega)]
    simp only [Option.bind_some, fnz, Bool.false_and, Bool.false_eq_true, if_false]
    by_cases c1 : 4096 < l0.length
    · simp [c1]; omega
    · by_cases c2 : 4096 < l1.length
      · have e1 : ¬ (4096 : Int) < l0.length := by omega
        have e2 : (4096 : Int) < l1.length := by omega
        simp [c1, c2, e1, e2]
      · have e1 : ¬ (4096 : Int) < l0.length := by omega
        have e2 : ¬ (4096 : Int) < l1.length := by omega
        by_cases c3 : 40 < l0.length
        · have e3 : (40 : Int) < l0.length := by omega
          simp [c1, c2, e1, e2, c3, e3]
        · have e3 : ¬ (40 : Int) < l0.length := by omega
          simp [c1, c2, e1, e2, c3, e3]
  · simp only [if_true]
    rw [first_eq _ (by simp) _ (by simp; omega)]
    simp only [Option.bind_some, fnz, Bool.true_and]
    by_cases c1 : 4096 < l0.length
    · have e1 : (4096 : Int) < l0.length := by omega
      simp [c1, e1]
    · by_cases c2 : 4096 < l1.length
      · have e1 : ¬ (4096 : Int) < l0.length := by omega
        have e2 : (4096 : Int) < l1.length := by omega
        simp [c1, c2, e1, e2]
      · have e1 : ¬ (4096 : Int) < l0.length := by omega
        have e2 : ¬ (4096 : Int) < l1.length := by omega
        by_cases c3 : 40 < l0.length
        · have e3 : (40 : Int) < l0.length := by omega
          simp [c1, c2, e1, e2, c3, e3]
        · have e3 : ¬ (40 : Int) < l0.length := by omega
          have e4 : decide (l0.length ≤ 40) = true := decide_eq_true (by omega)
          rw [e4, Bool.true_and]
          cases l0.all insB
          · simp [c1, c2, e1, e2, c3, e3]
          · by_cases c5 : 0 ≤ a2 ∧ a2 ≤ 6
            · simp [c1, c2, e1, e2, c3, e3, c5]
            · rw [decide_eq_false c5, if_neg c5]
              simp [c1, c2, e1, e2, c3, e3]

/-! the two verifiers, held against each other -/
def VR : ByteArray → List SO → List VO → Prop
  | _, [], [] => True
  | S, o :: P, v :: Q => v.at_ = o.at_ ∧ v.base = (o.stack.size : Int) ∧ ((o.op = 21 ∧ v.isIf = true ∧ v.hasElse = false) ∨ (o.op = 22 ∧ v.isIf = true ∧ v.hasElse = true) ∨ (o.op = 24 ∧ v.isIf = false ∧ v.hasElse = false)) ∧ o.stack.size ≤ S.size ∧ S.extract 0 o.stack.size = o.stack ∧ VR o.stack P Q
  | _, _, _ => False
theorem VR.base {S : ByteArray} {O : List SO} {Q : List VO} (h : VR S O Q) : sBase O = vBase Q := by
  cases O <;> cases Q <;> simp only [VR] at h
  · rfl
  · exact h.2.1.symm
theorem VR.length {O : List SO} : ∀ {S : ByteArray} {Q : List VO}, VR S O Q → O.length = Q.length := by
  induction O with
  | nil => intro S Q h; cases Q <;> simp only [VR] at h; rfl
  | cons o P ih =>
    intro S Q h
    cases Q <;> simp only [VR] at h
    simp [ih h.2.2.2.2.2]
theorem ext_ext (S Q : ByteArray) (k n : Nat) (hn : n ≤ k) (hk : k ≤ S.size) : (S.extract 0 k ++ Q).extract 0 n = S.extract 0 n := by
  apply ByteArray.ext
  simp only [ByteArray.data_extract, ByteArray.data_append]
  apply Array.ext'
  have h1 : S.data.toList.length = S.size := by rw [Array.length_toList]; rfl
  have h2 : S.data.size = S.size := rfl
  simp only [Array.toList_extract, Array.toList_append, List.extract_eq_take_drop, List.drop_zero, Nat.sub_zero]
  rw [List.take_append_of_le_length (by rw [List.length_take, h1]; omega), List.take_take, Nat.min_eq_left hn]
theorem VR.cut {S Q : ByteArray} {k : Nat} {O : List SO} {V : List VO} (h : VR S O V) (hk : k ≤ S.size) (hb : sBase O ≤ (k : Int)) : VR (S.extract 0 k ++ Q) O V := by
  cases O <;> cases V <;> simp only [VR, sBase] at h hb ⊢
  obtain ⟨h1, h2, h3, h4, h5, h6⟩ := h
  refine ⟨h1, h2, h3, ?_, ?_, h6⟩
  · rw [ByteArray.size_append, ByteArray.size_extract]; omega
  · rw [ext_ext _ _ _ _ (by omega) hk]; exact h5
theorem nest_eq {at_ op : Int} {S : ByteArray} {O : List SO} {V : List VO} (h : VR S O V) (hr : 21 ≤ op ∧ op ≤ 24) :
    (sNest at_ op S O).1 = (vNest at_ op S V).1 ∧ ((sNest at_ op S O).1 = 0 → VR S (sNest at_ op S O).2 (vNest at_ op S V).2) := by
  have hl := h.length
  by_cases h1 : op = 21 ∨ op = 24
  · by_cases h4 : O.length = 4
    · have h4' : V.length = 4 := by omega
      rw [show sNest at_ op S O = (17, O) from by unfold sNest; rw [if_pos h1, if_pos h4], show vNest at_ op S V = (17, V) from by unfold vNest; rw [if_pos h1, if_pos h4']]
      exact ⟨rfl, fun e => absurd e (by simp)⟩
    · have h4' : ¬ V.length = 4 := by omega
      rw [show sNest at_ op S O = (0, ⟨at_, op, S⟩ :: O) from by unfold sNest; rw [if_pos h1, if_neg h4], show vNest at_ op S V = (0, ⟨at_, (S.size : Int), decide (op = 21), false⟩ :: V) from by unfold vNest; rw [if_pos h1, if_neg h4']]
      refine ⟨rfl, fun _ => ?_⟩
      simp only [VR]
      refine ⟨trivial, trivial, ?_, Nat.le_refl _, ?_, h⟩
      · rcases h1 with rfl | rfl
        · exact .inl (by simp)
        · exact .inr (.inr (by simp))
      · apply ByteArray.ext; simp
  have h23 : op = 22 ∨ op = 23 := by omega
  cases O with
  | nil =>
    cases V <;> simp only [VR] at h
    rw [show sNest at_ op S [] = (14, []) from by unfold sNest; rw [if_neg h1]]
    rcases h23 with rfl | rfl
    · exact ⟨rfl, fun e => absurd e (by simp)⟩
    · exact ⟨rfl, fun e => absurd e (by simp)⟩
  | cons o P =>
    cases V with
    | nil => simp only [VR] at h
    | cons v Q =>
      simp only [VR] at h
      obtain ⟨e1, e2, e3, e4, e5, e6⟩ := h
      have hst : (S = o.stack) ↔ ((S.size : Int) = v.base) := by
        rw [e2]
        constructor
        · intro e; rw [e]
        · intro e
          have e' : o.stack.size = S.size := by omega
          rw [← e5, e']
          apply ByteArray.ext; simp
      rw [show sNest at_ op S (o :: P) = if op = 22 ∧ o.op ≠ 21 then (14, o :: P) else if S = o.stack then (if op = 22 then (0, { o with op := 22 } :: P) else (0, P)) else (13, o :: P) from by unfold sNest; rw [if_neg h1]]
      rcases h23 with rfl | rfl
      · rw [show vNest at_ 22 S (v :: Q) = if (!v.isIf || v.hasElse) = true then (14, v :: Q) else if (S.size : Int) = v.base then (0, { v with hasElse := true } :: Q) else (13, v :: Q) from by unfold vNest; rw [if_neg (by decide), if_pos rfl]]
        by_cases hb : o.op = 21
        · have hv : v.isIf = true ∧ v.hasElse = false := by rcases e3 with e3 | e3 | e3 <;> first | exact e3.2 | (exfalso; omega)
          have hv' : ¬ (!v.isIf || v.hasElse) = true := by rw [hv.1, hv.2]; decide
          rw [if_neg (by simp [hb]), if_neg hv']
          by_cases hs : S = o.stack
          · rw [if_pos hs, if_pos (hst.1 hs), if_pos rfl]
            refine ⟨rfl, fun _ => ?_⟩
            simp only [VR]
            exact ⟨e1, e2, .inr (.inl (by simp [hv.1])), e4, e5, e6⟩
          · rw [if_neg hs, if_neg (fun e => hs (hst.2 e))]
            exact ⟨rfl, fun e => absurd e (by simp)⟩
        · have hv : (!v.isIf || v.hasElse) = true := by
            rcases e3 with e3 | e3 | e3
            · exact absurd e3.1 hb
            · simp [e3.2.1, e3.2.2]
            · simp [e3.2.1, e3.2.2]
          rw [if_pos ⟨rfl, hb⟩, if_pos hv]
          exact ⟨rfl, fun e => absurd e (by simp)⟩
      · rw [show vNest at_ 23 S (v :: Q) = if (S.size : Int) = v.base then (0, Q) else (13, v :: Q) from by unfold vNest; rw [if_neg (by decide), if_neg (by decide), if_pos rfl]]
        rw [if_neg (by rintro ⟨e, _⟩; exact absurd e (by decide) : ¬ ((23 : Int) = 22 ∧ o.op ≠ 21)), if_neg (by decide : ¬ (23 : Int) = 22)]
        by_cases hs : S = o.stack
        · rw [if_pos hs, if_pos (hst.1 hs)]
          exact ⟨rfl, fun _ => by rw [hs]; exact e6⟩
        · rw [if_neg hs, if_neg (fun e => hs (hst.2 e))]
          exact ⟨rfl, fun e => absurd e (by simp)⟩
theorem step_eq {ks : List Int} {R at_ op a : Int} {S : ByteArray} {O : List SO} {V : List VO} (h : VR S O V) (hi : sInv S O) :
    (sStep ks R at_ op a S O).1 = (vStep ks R at_ op a S V).1 ∧ ((sStep ks R at_ op a S O).1 = 0 → (sStep ks R at_ op a S O).2.1 = (vStep ks R at_ op a S V).2.1 ∧ VR (sStep ks R at_ op a S O).2.1 (sStep ks R at_ op a S O).2.2 (vStep ks R at_ op a S V).2.2) := by
  have hb := h.base
  have hr := sBase_range hi
  unfold sStep vStep
  by_cases h1 : (op = 19 ∨ op = 20) ∧ (ks.length : Int) ≤ a
  · rw [if_pos h1, if_pos h1]; exact ⟨rfl, fun e => absurd e (by simp)⟩
  rw [if_neg h1, if_neg h1]
  by_cases h2 : op = 26 ∧ R ≤ a
  · rw [if_pos h2, if_pos h2]; exact ⟨rfl, fun e => absurd e (by simp)⟩
  rw [if_neg h2, if_neg h2]
  by_cases h3 : (S.size : Int) - sBase O < ((vEff ks op a).1.size : Int)
  · have h3' : (S.size : Int) - ((vEff ks op a).1.size : Int) < vBase V := by omega
    rw [if_pos h3, if_pos h3']; exact ⟨rfl, fun e => absurd e (by simp)⟩
  have h3' : ¬ (S.size : Int) - ((vEff ks op a).1.size : Int) < vBase V := by omega
  rw [if_neg h3, if_neg h3']
  by_cases h4 : S.extract (S.size - (vEff ks op a).1.size) S.size = (vEff ks op a).1
  · rw [if_pos h4, if_pos h4]
    by_cases h5 : S.size - (vEff ks op a).1.size + (vEff ks op a).2.size ≤ 8
    · rw [if_pos h5, if_pos h5]
      have hc : VR (S.extract 0 (S.size - (vEff ks op a).1.size) ++ (vEff ks op a).2) O V := h.cut (by omega) (by omega)
      by_cases h6 : 21 ≤ op ∧ op ≤ 24
      · rw [if_pos h6]
        obtain ⟨n1, n2⟩ := nest_eq (at_ := at_) hc h6
        exact ⟨n1, fun e => ⟨rfl, n2 e⟩⟩
      · rw [if_neg h6]
        have hv : vNest at_ op (S.extract 0 (S.size - (vEff ks op a).1.size) ++ (vEff ks op a).2) V = (0, V) := by
          unfold vNest
          rw [if_neg (by omega : ¬ (op = 21 ∨ op = 24)), if_neg (by omega : ¬ op = 22), if_neg (by omega : ¬ op = 23)]
        rw [hv]
        exact ⟨rfl, fun _ => ⟨rfl, hc⟩⟩
    · rw [if_neg h5, if_neg h5]; exact ⟨rfl, fun e => absurd e (by simp)⟩
  · rw [if_neg h4, if_neg h4]; exact ⟨rfl, fun e => absurd e (by simp)⟩
theorem loop_eq (ks : List Int) (R : Int) (xs : List S96) : ∀ (at_ : Int) (S : ByteArray) (O : List SO) (V : List VO) (out : List ByteArray), VR S O V → sInv S O → (vLoop ks R xs at_ S V out).2 = sLoop ks R xs at_ S O := by
  induction xs with
  | nil =>
    intro at_ S O V out h hi
    cases O <;> cases V <;> simp only [VR] at h
    · simp only [vLoop, sLoop]; split <;> rfl
    · simp only [vLoop, sLoop]; rw [h.1]
  | cons x xs ih =>
    intro at_ S O V out h hi
    obtain ⟨e1, e2⟩ := step_eq (ks := ks) (R := R) (at_ := at_) (op := x.f0) (a := x.f1) h hi
    simp only [vLoop, sLoop]
    rw [← e1]
    by_cases hc : (sStep ks R at_ x.f0 x.f1 S O).1 = 0
    · rw [if_pos hc, if_pos hc]
      obtain ⟨e3, e4⟩ := e2 hc
      rw [← e3]
      exact ih _ _ _ _ _ e4 (sStep_inv hi hc)
    · rw [if_neg hc, if_neg hc]

theorem markIntS_from : ∀ (d k i : Nat) (l : List Int) (a b : Int), l.length - i ≤ d → d < k → i ≤ l.length → l.length ≤ 1048576 → 0 ≤ a → a ≤ 100000000 → b = a + i → (∀ j : Nat, j < i → l[j]? = some (a + j)) →
    ∃ l', laws_markIntS.l0 k l b (i : Int) = some (a + l.length, l') ∧ l'.length = l.length ∧ ∀ j : Nat, j < l.length → l'[j]? = some (a + j) := by
  intro d
  induction d with
  | zero =>
    intro k i l a b hd hk hi hl h0 h1 hb hA
    obtain ⟨k, rfl⟩ : ∃ m, k = m + 1 := ⟨k - 1, by omega⟩
    simp only [laws_markIntS.l0]
    rw [if_neg (by omega)]
    have e : i = l.length := by omega
    subst e
    exact ⟨l, by rw [hb], rfl, hA⟩
  | succ d ih =>
    intro k i l a b hd hk hi hl h0 h1 hb hA
    obtain ⟨k, rfl⟩ : ∃ m, k = m + 1 := ⟨k - 1, by omega⟩
    simp only [laws_markIntS.l0]
    by_cases h : i < l.length
    · have hw : wrap64 ((i : Int) + 1) = ((i + 1 : Nat) : Int) := by unfold wrap64; omega
      have hw2 : wrap64 (b + 1) = b + 1 := by unfold wrap64; omega
      rw [if_pos (by omega), if_pos (by omega), hw, hw2, Int.toNat_natCast]
      have hs := ih k (i + 1) (l.set i b) a (b + 1) (by simp; omega) (by omega) (by simp; omega) (by simpa using hl) h0 h1 (by omega) (fun j hj => by
        rw [List.getElem?_set]
        by_cases hji : i = j
        · subst hji
          rw [if_pos rfl, if_pos h, hb]
        · rw [if_neg hji]
          exact hA j (by omega))
      simpa using hs
    · rw [if_neg (by omega)]
      have e : i = l.length := by omega
      subst e
      exact ⟨l, by rw [hb], rfl, hA⟩
theorem markIntS_eq (l : List Int) (hl : l.length ≤ 1048576) (a : Int) (h0 : 0 ≤ a) (h1 : a ≤ 100000000) (k : Nat) (hk : l.length < k) :
    ∃ l', laws_markIntS.f k l a = some (a + l.length, l') ∧ l'.length = l.length ∧ ∀ j : Nat, j < l.length → l'[j]? = some (a + j) :=
  markIntS_from l.length k 0 l a a (by omega) hk (by omega) hl h0 h1 (by simp) (fun j hj => by omega)

abbrev Ins := S96
theorem match_same (l : List Ins) (hl : l.length ≤ 4096) : ∀ (k : Nat) (dep mid i : Int), 0 ≤ dep → dep ≤ i → 0 ≤ i → i ≤ l.length → 
    impl_match.l0 k l (dep + 1) mid i = spec_l04Match.l0 k l dep mid i := by
  intro k
  induction k using Nat.strongRecOn with
  | ind k ih =>
    intro dep mid i h0 h1 h2 h3
    cases k with
    | zero => rfl
    | succ k =>
      simp only [impl_match.l0, spec_l04Match.l0]
      by_cases hi : i < (l.length : Int)
      · rw [if_pos hi, if_pos hi, if_pos h2, if_pos h2]
        have hw : wrap64 (i + 1) = i + 1 := by unfold wrap64; omega
        have hd : wrap64 (dep + 1) = dep + 1 := by unfold wrap64; omega
        have hd2 : wrap64 (dep + 1 + 1) = dep + 1 + 1 := by unfold wrap64; omega
        have hd3 : wrap64 (dep + 1 - 1) = dep := by unfold wrap64; omega
        have hd4 : wrap64 (dep - 1) = dep - 1 := by unfold wrap64; omega
        have body : ∀ (o : Int) (b : Bool), impl_match.j1 k l (dep + 1) mid i o b = spec_l04Match.j1 k l dep mid i o b := by
          intro o b
          cases k with
          | zero => rfl
          | succ k =>
            simp only [impl_match.j1, spec_l04Match.j1]
            rw [hw, hd, hd2, hd3, hd4]
            have a1 := ih k (by omega) (dep + 1) mid (i + 1) (by omega) (by omega) (by omega) (by omega)
            have a2 := ih k (by omega) dep i (i + 1) (by omega) (by omega) (by omega) (by omega)
            have a3 := ih k (by omega) dep mid (i + 1) (by omega) (by omega) (by omega) (by omega)
            rw [a1, a2, a3]
            cases b
            · simp only [Bool.false_eq_true, if_false]
              by_cases o2 : o = 22
              · rw [if_pos o2, if_pos o2]
                by_cases d0 : dep = 0
                · rw [if_pos (show dep + 1 = 1 by omega), if_pos d0]
                · rw [if_neg (show ¬ dep + 1 = 1 by omega), if_neg d0]
              · rw [if_neg o2, if_neg o2]
                by_cases o3 : o = 23
                · rw [if_pos o3, if_pos o3]
                  by_cases d0 : dep = 0
                  · rw [if_pos d0, if_pos d0]
                  · rw [if_neg d0, if_neg d0]
                    have a4 := ih k (by omega) (dep - 1) mid (i + 1) (by omega) (by omega) (by omega) (by omega)
                    rw [show dep - 1 + 1 = dep by omega] at a4
                    rw [a4]
                · rw [if_neg o3, if_neg o3]
            · rfl
        rw [body, body]
      · rw [if_neg hi, if_neg hi]
theorem match_ends (l : List Ins) (hl : l.length ≤ 4096) : ∀ (d k : Nat) (dep mid i : Int), (l.length : Int) - i ≤ d → 2 * d + 1 < k → 0 ≤ i → ∃ r, spec_l04Match.l0 k l dep mid i = some r := by
  intro d
  induction d with
  | zero =>
    intro k dep mid i hd hk h2
    obtain ⟨k, rfl⟩ : ∃ m, k = m + 1 := ⟨k - 1, by omega⟩
    simp only [spec_l04Match.l0]
    rw [if_neg (by omega)]
    exact ⟨_, rfl⟩
  | succ d ih =>
    intro k dep mid i hd hk h2
    obtain ⟨k, rfl⟩ : ∃ m, k = m + 1 + 1 := ⟨k - 2, by omega⟩
    by_cases hi : i < (l.length : Int)
    · conv => rhs; intro r; lhs; unfold spec_l04Match.l0
      rw [if_pos hi, if_pos h2]
      have hw : wrap64 (i + 1) = i + 1 := by unfold wrap64; omega
      have nx : ∀ dep mid, ∃ r, spec_l04Match.l0 k l dep mid (i + 1) = some r := fun dep mid => ih k dep mid (i + 1) (by omega) (by omega) (by omega)
      have body : ∀ (o : Int) (b : Bool), ∃ r, spec_l04Match.j1 (k + 1) l dep mid i o b = some r := by
        intro o b
        simp only [spec_l04Match.j1]
        rw [hw]
        split
        · exact nx _ _
        · split
          · split
            · exact nx _ _
            · exact nx _ _
          · split
            · split
              · exact ⟨_, rfl⟩
              · exact nx _ _
            · exact nx _ _
      split
      · exact body _ _
      · exact body _ _
    · simp only [spec_l04Match.l0]
      rw [if_neg hi]
      exact ⟨_, rfl⟩

theorem match_start (l : List Ins) (hl : l.length ≤ 4096) (k : Nat) (a : Int) (h0 : 0 ≤ a) (h1 : a < l.length) (ho : (rd_T96 l a).f0 = 21 ∨ (rd_T96 l a).f0 = 24) :
    impl_match.f (k + 1 + 1) l a = spec_l04Match.f k l a := by
  have hw : wrap64 (a + 1) = a + 1 := by unfold wrap64; omega
  have h := match_same l hl k 0 0 (a + 1) (by omega) (by omega) (by omega) (by omega)
  unfold impl_match.f spec_l04Match.f
  rw [hw, ← h]
  conv => lhs; unfold impl_match.l0
  rw [if_pos h1, if_pos h0]
  rcases ho with ho | ho
  · rw [if_pos ho, ho]
    simp only [impl_match.j1]
    rw [hw, show wrap64 (0 + 1) = 0 + 1 by unfold wrap64; omega]
    exact if_pos rfl
  · have hn : ¬ (rd_T96 l a).f0 = 21 := by rw [ho]; decide
    rw [if_neg hn, ho]
    simp only [impl_match.j1]
    rw [hw, show wrap64 (0 + 1) = 0 + 1 by unfold wrap64; omega]
    exact if_pos rfl

theorem markInstrS_from (n : Nat) : ∀ (d k i : Nat) (l : List S96) (a : Int), l.length = n → n - i ≤ d → d < k → i ≤ n → 0 ≤ a → a + 2 * (n : Int) ≤ 4611686018427387904 →
    ∃ l', laws_markInstrS.l0 k l (a + 2 * i) (i : Int) = some (a + 2 * n, l') := by
  intro d
  induction d with
  | zero =>
    intro k i l a hn hd hk hi h0 h1
    obtain ⟨k, rfl⟩ : ∃ m, k = m + 1 := ⟨k - 1, by omega⟩
    simp only [laws_markInstrS.l0]
    rw [if_neg (by omega)]
    have e : i = n := by omega
    subst e
    exact ⟨l, rfl⟩
  | succ d ih =>
    intro k i l a hn hd hk hi h0 h1
    obtain ⟨k, rfl⟩ : ∃ m, k = m + 1 := ⟨k - 1, by omega⟩
    simp only [laws_markInstrS.l0]
    by_cases h : i < n
    · have hw : wrap64 ((i : Int) + 1) = ((i + 1 : Nat) : Int) := by unfold wrap64; omega
      have e1 : wrap64 (a + 2 * i + 1) = a + 2 * i + 1 := by unfold wrap64; omega
      have e2 : wrap64 (a + 2 * i + 1 + 1) = a + 2 * ((i + 1 : Nat) : Int) := by unfold wrap64; omega
      rw [if_pos (by omega), if_pos (by omega)]
      simp only [Option.bind_some, hw, e1, e2]
      exact ih k (i + 1) _ a (by simpa using hn) (by omega) (by omega) (by omega) h0 h1
    · rw [if_neg (by omega)]
      have e : i = n := by omega
      subst e
      exact ⟨l, rfl⟩
theorem markInstrS_eq (l : List S96) (a : Int) (h0 : 0 ≤ a) (h1 : a + 2 * (l.length : Int) ≤ 4611686018427387904) (k : Nat) (hk : l.length < k) : ∃ l', laws_markInstrS.f k l a = some (a + 2 * l.length, l') := by
  have h := markInstrS_from l.length l.length k 0 l a rfl (by omega) hk (by omega) h0 h1
  unfold laws_markInstrS.f
  simpa using h

abbrev Fl := S106
theorem match_bound (l : List Ins) : ∀ (k : Nat) (dep mid i : Int) (r : Int × Int × Bool), 0 ≤ i → (i ≤ l.length) → l.length ≤ 4096 → spec_l04Match.l0 k l dep mid i = some r →
    r = (0, 0, false) ∨ (i ≤ r.2.1 ∧ r.2.1 < l.length ∧ (r.1 = mid ∨ (i ≤ r.1 ∧ r.1 < l.length))) := by
  intro k
  induction k using Nat.strongRecOn with
  | ind k ih =>
    intro dep mid i r h0 h1 hl h
    cases k with
    | zero => simp only [spec_l04Match.l0] at h; cases h
    | succ k =>
      simp only [spec_l04Match.l0] at h
      by_cases hi : i < (l.length : Int)
      · rw [if_pos hi, if_pos h0] at h
        have hw : wrap64 (i + 1) = i + 1 := by unfold wrap64; omega
        have nx : ∀ k', k' < k + 1 → ∀ dep mid', (mid' = mid ∨ mid' = i) → spec_l04Match.l0 k' l dep mid' (i + 1) = some r → r = (0, 0, false) ∨ (i ≤ r.2.1 ∧ r.2.1 < l.length ∧ (r.1 = mid ∨ (i ≤ r.1 ∧ r.1 < l.length))) := by
          intro k' hk dep mid' hm h'
          rcases ih k' hk dep mid' (i + 1) r (by omega) (by omega) hl h' with e | ⟨e1, e2, e3⟩
          · exact .inl e
          · exact .inr ⟨by omega, e2, by omega⟩
        have body : ∀ (o : Int) (b : Bool), spec_l04Match.j1 k l dep mid i o b = some r → r = (0, 0, false) ∨ (i ≤ r.2.1 ∧ r.2.1 < l.length ∧ (r.1 = mid ∨ (i ≤ r.1 ∧ r.1 < l.length))) := by
          intro o b h
          cases k with
          | zero => simp only [spec_l04Match.j1] at h; cases h
          | succ k =>
            simp only [spec_l04Match.j1] at h
            rw [hw] at h
            split at h
            · exact nx k (by omega) _ _ (.inl rfl) h
            · split at h
              · split at h
                · exact nx k (by omega) _ _ (.inr rfl) h
                · exact nx k (by omega) _ _ (.inl rfl) h
              · split at h
                · split at h
                  · obtain rfl := Option.some.inj h
                    exact .inr ⟨Int.le_refl _, hi, .inl rfl⟩
                  · exact nx k (by omega) _ _ (.inl rfl) h
                · exact nx k (by omega) _ _ (.inl rfl) h
        split at h
        · exact body _ _ h
        · exact body _ _ h
      · rw [if_neg hi] at h
        obtain rfl := Option.some.inj h
        exact .inl rfl
/-- What both say of an if or a repeat. -/
theorem match_r (l : List Ins) (hl : l.length ≤ 4096) (a : Int) (h0 : 0 ≤ a) (h1 : a < l.length) (ho : (rd_T96 l a).f0 = 21 ∨ (rd_T96 l a).f0 = 24) :
    ∃ r : Int × Int × Bool, (0 ≤ r.1 ∧ r.1 < l.length ∧ 0 ≤ r.2.1 ∧ r.2.1 < l.length ∧ (r.1 > 0 → a < r.2.1)) ∧ ∀ k, 2 * l.length + 10 ≤ k → spec_l04Match.f k l a = some r ∧ impl_match.f k l a = some r := by
  obtain ⟨r, hr⟩ := match_ends l hl l.length (2 * l.length + 2) 0 0 (a + 1) (by omega) (by omega) (by omega)
  have hw : wrap64 (a + 1) = a + 1 := by unfold wrap64; omega
  have hs : ∀ k, 2 * l.length + 2 ≤ k → spec_l04Match.f k l a = some r := by
    intro k hk
    unfold spec_l04Match.f
    rw [hw]
    induction k with
    | zero => omega
    | succ k ih =>
      by_cases e : k + 1 = 2 * l.length + 2
      · rw [e]; exact hr
      · exact (spec_l04Match.mono_l k).1 _ _ _ _ _ (ih (by omega))
  refine ⟨r, ?_, fun k hk => ⟨hs k (by omega), ?_⟩⟩
  · rcases match_bound l _ _ _ _ _ (by omega) (by omega) hl hr with e | ⟨e1, e2, e3⟩
    · subst e
      exact ⟨by decide, by show (0 : Int) < _; omega, by decide, by show (0 : Int) < _; omega, fun h => absurd h (by decide)⟩
    · exact ⟨by omega, by omega, by omega, e2, fun _ => by omega⟩
  · obtain ⟨k, rfl⟩ : ∃ m, k = m + 1 + 1 := ⟨k - 2, by omega⟩
    rw [match_start l hl k a h0 h1 ho]
    exact hs k (by omega)
/-- Instructions beside their targets. -/
def mkFl (l : List Ins) (ts : List Int) : List Fl := List.zipWith (fun x t => ⟨x.f0, x.f1, t⟩) l ts
theorem mkFl_len {l : List Ins} {ts : List Int} (h : ts.length = l.length) : (mkFl l ts).length = l.length := by simp [mkFl, h]
theorem mkFl_set {l : List Ins} {ts : List Int} (h : ts.length = l.length) (n : Int) (h0 : 0 ≤ n) (h1 : n < l.length) (v : Int) :
    (mkFl l ts).set n.toNat (⟨(rd_T106 (mkFl l ts) n).f0, (rd_T106 (mkFl l ts) n).f1, v⟩ : Fl) = mkFl l (ts.set n.toNat v) := by
  obtain ⟨m, rfl⟩ : ∃ m : Nat, n = m := ⟨n.toNat, by omega⟩
  have hm : m < l.length := by omega
  have hm2 : m < ts.length := by omega
  have e : rd_T106 (mkFl l ts) (m : Int) = ⟨l[m].f0, l[m].f1, ts[m]⟩ := by
    have q : (mkFl l ts)[m]? = some ⟨l[m].f0, l[m].f1, ts[m]⟩ := by
      rw [List.getElem?_eq_getElem (by rw [mkFl_len h]; exact hm)]
      simp [mkFl]
    simp [rd_T106, List.getD_eq_getElem?_getD, q]
  rw [e]
  simp only [Int.toNat_natCast]
  apply List.ext_getElem
  · simp [mkFl, h]
  · intro j j1 j2
    simp only [List.length_set] at j1
    rw [List.getElem_set]
    simp only [mkFl, List.getElem_zipWith, List.getElem_set]
    split
    · rename_i e; subst e; rfl
    · rfl
theorem set4 (ts : List Int) (a o e : Nat) (v w : Int) (h : a ≠ e) : ((((ts.set a v).set a w).set o v).set e v) = ((((ts.set a v).set e v).set a w).set o v) := by
  apply List.ext_getElem?
  intro j
  simp only [List.getElem?_set, List.length_set]
  by_cases h1 : e = j
  · by_cases h2 : o = j
    · simp [h1, h2]
    · by_cases h3 : a = j
      · omega
      · simp [h1, h2, h3]
  · by_cases h2 : o = j
    · simp [h1, h2]
    · by_cases h3 : a = j
      · simp [h1, h2, h3]
      · simp [h1, h2, h3]
theorem flat_l1 (l : List Ins) (hl : l.length ≤ 4096) : ∀ (d k i : Nat) (ts : List Int), ts.length = l.length → l.length - i ≤ d → d + 2 * l.length + 20 < k → i ≤ l.length →
    ∃ r : List Fl, r.length = l.length ∧ spec_l07Flat.l1 k l (mkFl l ts) (i : Int) = some r ∧ impl_flatOf.l1 k l (mkFl l ts) l (l.length : Int) (i : Int) = some r := by
  intro d
  induction d with
  | zero =>
    intro k i ts ht hd hk hi
    obtain ⟨k, rfl⟩ : ∃ m, k = m + 1 := ⟨k - 1, by omega⟩
    refine ⟨_, mkFl_len ht, ?_, ?_⟩
    · simp only [spec_l07Flat.l1]; rw [if_neg (by omega)]
    · simp only [impl_flatOf.l1]; rw [if_neg (by omega)]
  | succ d ih =>
    intro k i ts ht hd hk hi
    obtain ⟨k, rfl⟩ : ∃ m, k = m + 1 := ⟨k - 1, by omega⟩
    by_cases h : i < l.length
    · have p1 : (i : Int) < (l.length : Int) := by omega
      have p2 : (0 : Int) ≤ (i : Int) := by omega
      have hw : wrap64 ((i : Int) + 1) = ((i + 1 : Nat) : Int) := by unfold wrap64; omega
      have hL : ((mkFl l ts).length : Int) = (l.length : Int) := by rw [mkFl_len ht]
      have nx := fun ts' (ht' : ts'.length = l.length) => ih k (i + 1) ts' ht' (by omega) (by omega) (by omega)
      by_cases o1 : (rd_T96 l (i : Int)).f0 = 21
      · obtain ⟨r, ⟨b0, b1, b2, b3, b4⟩, hm⟩ := match_r l hl (i : Int) p2 p1 (.inl o1)
        obtain ⟨m1, m2⟩ := hm k (by omega)
        have s1 := mkFl_set ht (i : Int) p2 p1 (wrap64 (r.2.1 + 1))
        have h1 : (ts.set ((i : Int)).toNat (wrap64 (r.2.1 + 1))).length = l.length := by simpa using ht
        by_cases c : r.1 > 0
        · have s2 := mkFl_set h1 (i : Int) p2 p1 (wrap64 (r.1 + 1))
          have h2 : ((ts.set ((i : Int)).toNat (wrap64 (r.2.1 + 1))).set ((i : Int)).toNat (wrap64 (r.1 + 1))).length = l.length := by simpa using ht
          have s3 := mkFl_set h2 r.1 b0 b1 (wrap64 (r.2.1 + 1))
          have h3 : (((ts.set ((i : Int)).toNat (wrap64 (r.2.1 + 1))).set ((i : Int)).toNat (wrap64 (r.1 + 1))).set r.1.toNat (wrap64 (r.2.1 + 1))).length = l.length := by simpa using ht
          have s4 := mkFl_set h3 r.2.1 b2 b3 (wrap64 (r.2.1 + 1))
          have t2 := mkFl_set h1 r.2.1 b2 b3 (wrap64 (r.2.1 + 1))
          have g2 : ((ts.set ((i : Int)).toNat (wrap64 (r.2.1 + 1))).set r.2.1.toNat (wrap64 (r.2.1 + 1))).length = l.length := by simpa using ht
          have t3 := mkFl_set g2 (i : Int) p2 p1 (wrap64 (r.1 + 1))
          have g3 : (((ts.set ((i : Int)).toNat (wrap64 (r.2.1 + 1))).set r.2.1.toNat (wrap64 (r.2.1 + 1))).set ((i : Int)).toNat (wrap64 (r.1 + 1))).length = l.length := by simpa using ht
          have t4 := mkFl_set g3 r.1 b0 b1 (wrap64 (r.2.1 + 1))
          have e4 := set4 ts ((i : Int)).toNat r.1.toNat r.2.1.toNat (wrap64 (r.2.1 + 1)) (wrap64 (r.1 + 1)) (by have := b4 c; omega)
          obtain ⟨q, q0, q1, q2⟩ := nx ((((ts.set ((i : Int)).toNat (wrap64 (r.2.1 + 1))).set ((i : Int)).toNat (wrap64 (r.1 + 1))).set r.1.toNat (wrap64 (r.2.1 + 1))).set r.2.1.toNat (wrap64 (r.2.1 + 1))) (by simpa using ht)
          refine ⟨q, q0, ?_, ?_⟩
          · simp only [spec_l07Flat.l1, if_pos p1, if_pos p2, if_pos o1, m1, Option.bind_some, hL, s1, s2, s3, s4, if_pos c, if_pos b0, if_pos b1, if_pos b2, if_pos b3, hw]
            exact q1
          · simp only [impl_flatOf.l1, if_pos p1, if_pos p2, if_pos o1, m2, Option.bind_some, hL, s1, t2, t3, t4, if_pos c, if_pos b0, if_pos b1, if_pos b2, if_pos b3, hw]
            rw [← e4]
            exact q2
        · have t2 := mkFl_set h1 r.2.1 b2 b3 (wrap64 (r.2.1 + 1))
          obtain ⟨q, q0, q1, q2⟩ := nx ((ts.set ((i : Int)).toNat (wrap64 (r.2.1 + 1))).set r.2.1.toNat (wrap64 (r.2.1 + 1))) (by simpa using ht)
          refine ⟨q, q0, ?_, ?_⟩
          · simp only [spec_l07Flat.l1, if_pos p1, if_pos p2, if_pos o1, m1, Option.bind_some, hL, s1, t2, if_neg c, if_pos b2, if_pos b3, hw]
            exact q1
          · simp only [impl_flatOf.l1, if_pos p1, if_pos p2, if_pos o1, m2, Option.bind_some, hL, s1, t2, if_neg c, if_pos b2, if_pos b3, hw]
            exact q2
      · by_cases o2 : (rd_T96 l (i : Int)).f0 = 24
        · obtain ⟨r, ⟨b0, b1, b2, b3, b4⟩, hm⟩ := match_r l hl (i : Int) p2 p1 (.inr o2)
          obtain ⟨m1, m2⟩ := hm k (by omega)
          have s1 := mkFl_set ht r.2.1 b2 b3 ((i + 1 : Nat) : Int)
          obtain ⟨q, q0, q1, q2⟩ := nx (ts.set r.2.1.toNat ((i + 1 : Nat) : Int)) (by simpa using ht)
          refine ⟨q, q0, ?_, ?_⟩
          · simp only [spec_l07Flat.l1, if_pos p1, if_pos p2, if_neg o1, if_pos o2, m1, Option.bind_some, hL, hw, s1, if_pos b2, if_pos b3]
            exact q1
          · simp only [impl_flatOf.l1, if_pos p1, if_pos p2, if_neg o1, if_pos o2, m2, Option.bind_some, hL, hw, s1, if_pos b2, if_pos b3]
            exact q2
        · obtain ⟨q, q0, q1, q2⟩ := nx ts ht
          refine ⟨q, q0, ?_, ?_⟩
          · simp only [spec_l07Flat.l1, if_pos p1, if_pos p2, if_neg o1, if_neg o2, hw]
            exact q1
          · simp only [impl_flatOf.l1, if_pos p1, if_pos p2, if_neg o1, if_neg o2, hw]
            exact q2
    · refine ⟨_, mkFl_len ht, ?_, ?_⟩
      · simp only [spec_l07Flat.l1]; rw [if_neg (by omega)]
      · simp only [impl_flatOf.l1]; rw [if_neg (by omega)]
theorem mkFl_snoc (l : List Ins) (i : Nat) (h : i < l.length) (x : Ins) (hx : x = l[i]) : mkFl (l.take i) (List.replicate i 0) ++ [(⟨x.f0, x.f1, 0⟩ : Fl)] = mkFl (l.take (i + 1)) (List.replicate (i + 1) 0) := by
  subst hx
  unfold mkFl
  rw [List.take_succ_eq_append_getElem h, List.replicate_succ', List.zipWith_append (by simp; omega)]
  rfl
theorem flat_l0 (l : List Ins) (hl : l.length ≤ 4096) : ∀ (d k i : Nat), l.length - i ≤ d → d + 3 * l.length + 30 < k → i ≤ l.length →
    ∃ r : List Fl, r.length = l.length ∧ spec_l07Flat.l0 k l (mkFl (l.take i) (List.replicate i 0)) (i : Int) = some r ∧ impl_flatOf.l0 k l (mkFl (l.take i) (List.replicate i 0)) l (l.length : Int) (i : Int) = some r := by
  intro d
  induction d with
  | zero =>
    intro k i hd hk hi
    obtain ⟨k, rfl⟩ : ∃ m, k = m + 1 := ⟨k - 1, by omega⟩
    have e : i = l.length := by omega
    subst e
    obtain ⟨q, q0, q1, q2⟩ := flat_l1 l hl l.length k 0 (List.replicate l.length 0) (by simp) (by omega) (by omega) (by omega)
    refine ⟨q, q0, ?_, ?_⟩
    · simp only [spec_l07Flat.l0]; rw [if_neg (by omega), List.take_of_length_le (Nat.le_refl _)]; exact q1
    · simp only [impl_flatOf.l0]; rw [if_neg (by omega), List.take_of_length_le (Nat.le_refl _)]; exact q2
  | succ d ih =>
    intro k i hd hk hi
    obtain ⟨k, rfl⟩ : ∃ m, k = m + 1 := ⟨k - 1, by omega⟩
    by_cases h : i < l.length
    · have p1 : (i : Int) < (l.length : Int) := by omega
      have p2 : (0 : Int) ≤ (i : Int) := by omega
      have hw : wrap64 ((i : Int) + 1) = ((i + 1 : Nat) : Int) := by unfold wrap64; omega
      have e : rd_T96 l (i : Int) = l[i] := by simp [rd_T96, List.getD_eq_getElem?_getD, h]
      have p3 : (mkFl (l.take i) (List.replicate i 0)).length < 5864062014805 := by rw [mkFl_len (by simp; omega)]; simp; omega
      have es := mkFl_snoc l i h _ e
      obtain ⟨q, q0, q1, q2⟩ := ih k (i + 1) (by omega) (by omega) (by omega)
      refine ⟨q, q0, ?_, ?_⟩
      · simp only [spec_l07Flat.l0, if_pos p1, if_pos p2, if_pos p3, es, hw]; exact q1
      · simp only [impl_flatOf.l0, if_pos p1, if_pos p2, if_pos p3, es, hw]; exact q2
    · have e : i = l.length := by omega
      subst e
      obtain ⟨q, q0, q1, q2⟩ := flat_l1 l hl l.length k 0 (List.replicate l.length 0) (by simp) (by omega) (by omega) (by omega)
      refine ⟨q, q0, ?_, ?_⟩
      · simp only [spec_l07Flat.l0]; rw [if_neg (by omega), List.take_of_length_le (Nat.le_refl _)]; exact q1
      · simp only [impl_flatOf.l0]; rw [if_neg (by omega), List.take_of_length_le (Nat.le_refl _)]; exact q2
/-- Both compile code alike. -/
theorem flat_same (l : List Ins) (hl : l.length ≤ 4096) (k : Nat) (hk : 4 * l.length + 40 < k) : ∃ r : List Fl, r.length = l.length ∧ spec_l07Flat.f k l = some r ∧ impl_flatOf.f k l = some r := by
  obtain ⟨q, q0, q1, q2⟩ := flat_l0 l hl l.length k 0 (by omega) (by omega) (by omega)
  exact ⟨q, q0, by unfold spec_l07Flat.f; simpa [mkFl] using q1, by unfold impl_flatOf.f; simpa [mkFl] using q2⟩
theorem eqFlat_refl (a b c : Int) : laws_eqFlat.f a b c a b c = some true := by
  unfold laws_eqFlat.f
  simp
theorem eqFlatS_from (l : List Fl) (hl : l.length ≤ 1048576) : ∀ (d k i : Nat), l.length - i ≤ d → d < k → i ≤ l.length → laws_eqFlatS.l0 k l l (i : Int) = some true := by
  intro d
  induction d with
  | zero =>
    intro k i hd hk hi
    obtain ⟨k, rfl⟩ : ∃ m, k = m + 1 := ⟨k - 1, by omega⟩
    simp only [laws_eqFlatS.l0]
    rw [if_neg (by omega)]
  | succ d ih =>
    intro k i hd hk hi
    obtain ⟨k, rfl⟩ : ∃ m, k = m + 1 := ⟨k - 1, by omega⟩
    simp only [laws_eqFlatS.l0]
    by_cases h : i < l.length
    · have hw : wrap64 ((i : Int) + 1) = ((i + 1 : Nat) : Int) := by unfold wrap64; omega
      rw [hw, ih k (i + 1) (by omega) (by omega) (by omega), eqFlat_refl]
      rw [if_pos (by omega), if_pos (by omega), if_pos (by omega)]
      rfl
    · rw [if_neg (by omega)]
theorem eqFlatS_eq (l : List Fl) (hl : l.length ≤ 1048576) (k : Nat) (hk : l.length < k) : laws_eqFlatS.f k l l = some true := by
  unfold laws_eqFlatS.f
  rw [if_pos rfl]
  have h := eqFlatS_from l hl l.length k 0 (by omega) hk (by omega)
  simpa using h
theorem rdset_Fl (x : List Fl) (i : Nat) (h : i < x.length) (v : Fl) : rd_T106 (x.set i v) (i : Int) = v := by simp [rd_T106, List.getD_eq_getElem?_getD, h]
def mkAt (a : Int) (j : Nat) : Fl := ⟨a + 3 * j, a + 3 * j + 1, a + 3 * j + 2⟩
theorem markFl_from (n : Nat) (a : Int) (h0 : 0 ≤ a) (h1 : a ≤ 100000000) (hn1 : n ≤ 1048576) : ∀ (d k i : Nat) (l : List Fl), l.length = n → n - i ≤ d → d < k → i ≤ n → (∀ j : Nat, j < i → l[j]? = some (mkAt a j)) →
    ∃ l', laws_markFlatS.l0 k l (a + 3 * i) (i : Int) = some (a + 3 * n, l') ∧ l'.length = n ∧ ∀ j : Nat, j < n → l'[j]? = some (mkAt a j) := by
  intro d
  induction d with
  | zero =>
    intro k i l hn hd hk hi hA
    obtain ⟨k, rfl⟩ : ∃ m, k = m + 1 := ⟨k - 1, by omega⟩
    simp only [laws_markFlatS.l0]
    rw [if_neg (by omega)]
    have e : i = n := by omega
    subst e
    exact ⟨l, rfl, hn, hA⟩
  | succ d ih =>
    intro k i l hn hd hk hi hA
    obtain ⟨k, rfl⟩ : ∃ m, k = m + 1 := ⟨k - 1, by omega⟩
    by_cases h : i < n
    · have hw : wrap64 ((i : Int) + 1) = ((i + 1 : Nat) : Int) := by unfold wrap64; omega
      have w1 : wrap64 (a + 3 * i + 1) = a + 3 * i + 1 := by unfold wrap64; omega
      have w2 : wrap64 (a + 3 * i + 1 + 1) = a + 3 * i + 2 := by unfold wrap64; omega
      have w3 : wrap64 (a + 3 * i + 2 + 1) = a + 3 * ((i + 1 : Nat) : Int) := by unfold wrap64; omega
      have p1 : (i : Int) < (l.length : Int) := by omega
      have p2 : (0 : Int) ≤ (i : Int) := by omega
      have hi1 : i < l.length := by omega
      simp only [laws_markFlatS.l0, if_pos p1, if_pos p2, Option.bind_some, Int.toNat_natCast, hw, w1, w2, w3, rdset_Fl _ _ hi1, List.set_set]
      exact ih k (i + 1) _ (by simpa using hn) (by omega) (by omega) (by omega) (fun j hj => by
        rw [List.getElem?_set]
        by_cases hji : i = j
        · subst hji
          rw [if_pos rfl, if_pos (by omega)]
          rfl
        · rw [if_neg hji]
          exact hA j (by omega))
    · simp only [laws_markFlatS.l0]
      rw [if_neg (by omega)]
      have e : i = n := by omega
      subst e
      exact ⟨l, rfl, hn, hA⟩
theorem markFl_eq (l : List Fl) (hl : l.length ≤ 1048576) (a : Int) (h0 : 0 ≤ a) (h1 : a ≤ 100000000) (k : Nat) (hk : l.length < k) :
    ∃ l', laws_markFlatS.f k l a = some (a + 3 * l.length, l') ∧ l'.length = l.length ∧ ∀ j : Nat, j < l.length → l'[j]? = some (mkAt a j) := by
  have h := markFl_from l.length a h0 h1 hl l.length k 0 l rfl (by omega) hk (by omega) (fun j hj => by omega)
  unfold laws_markFlatS.f
  simpa using h
theorem heldFl_from (l : List Fl) (hl : l.length ≤ 1048576) (a : Int) (h0 : 0 ≤ a) (h1 : a ≤ 100000000) (hA : ∀ j : Nat, j < l.length → l[j]? = some (mkAt a j)) : ∀ (d k i : Nat), l.length - i ≤ d → d < k → i ≤ l.length → laws_heldFlatS.l0 k l (a + 3 * i) (i : Int) = some (a + 3 * l.length) := by
  intro d
  induction d with
  | zero =>
    intro k i hd hk hi
    obtain ⟨k, rfl⟩ : ∃ m, k = m + 1 := ⟨k - 1, by omega⟩
    simp only [laws_heldFlatS.l0]
    rw [if_neg (by omega)]
    have e : i = l.length := by omega
    rw [e]
  | succ d ih =>
    intro k i hd hk hi
    obtain ⟨k, rfl⟩ : ∃ m, k = m + 1 := ⟨k - 1, by omega⟩
    by_cases h : i < l.length
    · have hw : wrap64 ((i : Int) + 1) = ((i + 1 : Nat) : Int) := by unfold wrap64; omega
      have w1 : wrap64 (a + 3 * i + 1) = a + 3 * i + 1 := by unfold wrap64; omega
      have w2 : wrap64 (a + 3 * i + 1 + 1) = a + 3 * i + 2 := by unfold wrap64; omega
      have w3 : wrap64 (a + 3 * i + 2 + 1) = a + 3 * ((i + 1 : Nat) : Int) := by unfold wrap64; omega
      have e : rd_T106 l (i : Int) = mkAt a i := by
        have := hA i h
        simp [rd_T106, List.getD_eq_getElem?_getD, this]
      have p1 : (i : Int) < (l.length : Int) := by omega
      have p2 : (0 : Int) ≤ (i : Int) := by omega
      simp only [laws_heldFlatS.l0, if_pos p1, if_pos p2, e, hw, w1, w2, w3, mkAt, if_true]
      exact ih k (i + 1) (by omega) (by omega) (by omega)
    · simp only [laws_heldFlatS.l0]
      rw [if_neg (by omega)]
      have e : i = l.length := by omega
      rw [e]
theorem heldFl_eq (l : List Fl) (hl : l.length ≤ 1048576) (a : Int) (h0 : 0 ≤ a) (h1 : a ≤ 100000000) (hA : ∀ j : Nat, j < l.length → l[j]? = some (mkAt a j)) (k : Nat) (hk : l.length < k) : laws_heldFlatS.f k l a = some (a + 3 * l.length) := by
  have h := heldFl_from l hl a h0 h1 hA l.length k 0 (by omega) hk (by omega)
  unfold laws_heldFlatS.f
  simpa using h

theorem fo_same (l0 : List Ins) (l1 : List Int) (a2 : Int) (h0 : l0.length ≤ 1048576) (h1 : l1.length ≤ 1048576) (k : Nat) (hk : l0.length + l1.length + 300 < k) :
    ∃ r : List Fl × Int, r.1.length ≤ l0.length ∧ spec_FlatOf.f k l0 l1 a2 = some r ∧ impl_FlatOf.f k l0 l1 a2 = some r := by
  obtain ⟨k, rfl⟩ : ∃ m, k = m + 1 := ⟨k - 1, by omega⟩
  have hs : spec_FlatOf.f (k + 1) l0 l1 a2 = (if askC l0 l1 a2 = 0 then (spec_l04Verify.f l0 l1 a2).bind fun bt => (if bt.2 = 0 then ((spec_l07Flat.f k l0).bind fun t => some (t, 0)) else some ([], bt.2)) else some ([], askC l0 l1 a2)) := by
    unfold spec_FlatOf.f
    by_cases c1 : 4096 < l0.length
    · rw [if_pos (by omega)]
      have e : askC l0 l1 a2 = 2 := by unfold askC; rw [if_pos (.inl c1)]
      rw [e]; simp only [spec_FlatOf.j0]; rfl
    rw [if_neg (by omega)]
    by_cases c2 : 4096 < l1.length
    · rw [decide_eq_true (by omega)]
      have e : askC l0 l1 a2 = 2 := by unfold askC; rw [if_pos (.inr c2)]
      rw [e]; simp only [spec_FlatOf.j0]; rfl
    rw [decide_eq_false (by omega)]
    simp only [spec_FlatOf.j0, Bool.false_eq_true, if_false, l04Ask_eq l0 l1 a2 h0 h1 k (by omega), Option.bind_some]
  have hi : impl_FlatOf.f (k + 1) l0 l1 a2 = (if askC l0 l1 a2 = 0 then (impl_verify.f l0 l1 a2).bind fun bt => (if bt.2.2 = 0 then ((impl_flatOf.f (k + 1) l0).bind fun t => some (t, 0)) else some ([], bt.2.2)) else some ([], askC l0 l1 a2)) := by
    unfold impl_FlatOf.f impl_VerifyCode.f
    rw [verifyCode_eq l0 l1 a2 h0 h1 _ (by omega)]
    simp only [Option.bind_some]
    by_cases hz : askC l0 l1 a2 = 0
    · rw [if_pos hz, if_pos hz]
      obtain ⟨z1, z2, z3⟩ := ok_of_ask hz
      unfold impl_verify.f
      rw [if_pos (ok_of_ins z1 z2 z3)]
      rfl
    · rw [if_neg hz, if_neg hz]
      simp only [Option.bind_some, if_neg hz]
  rw [hs, hi]
  by_cases hz : askC l0 l1 a2 = 0
  · obtain ⟨z1, z2, z3⟩ := ok_of_ask hz
    have hp := ok_of_ins z1 z2 z3
    rw [if_pos hz, if_pos hz]
    unfold spec_l04Verify.f impl_verify.f
    rw [if_pos hp, if_pos hp]
    have he := loop_eq l1 a2 l0 0 ⟨#[]⟩ [] [] [] trivial ⟨by decide, by decide, by simp⟩
    simp only [Option.bind_some]
    rw [← he]
    by_cases c : (vLoop l1 a2 l0 0 ⟨#[]⟩ [] []).2.2 = 0
    · rw [if_pos c, if_pos c]
      obtain ⟨q, q0, q1, _⟩ := flat_same l0 (by omega) k (by omega)
      obtain ⟨q', _, q1', q2'⟩ := flat_same l0 (by omega) (k + 1) (by omega)
      have hq : q = q' := by
        have m := spec_l07Flat.mono l0 k q q1
        rw [q1'] at m
        exact (Option.some.inj m).symm
      rw [q1, q2', hq]
      exact ⟨(q', 0), by rw [← hq]; exact Nat.le_of_eq q0, rfl, rfl⟩
    · rw [if_neg c, if_neg c]
      exact ⟨_, by simp, rfl, rfl⟩
  · rw [if_neg hz, if_neg hz]
    exact ⟨_, by simp, rfl, rfl⟩
theorem FnExactFlatOf : laws_FnExactFlatOf.Pure := by
  intro l0 l1 a2 h0 h1 _
  obtain ⟨h0, _⟩ := h0
  obtain ⟨h1, _⟩ := h1
  obtain ⟨K, hK⟩ : ∃ K, K = l0.length + l1.length + 1000 := ⟨_, rfl⟩
  refine ⟨K + 1 + 1 + 1, ?_⟩
  unfold laws_FnExactFlatOf.f
  by_cases c1 : (l1.length : Int) > 1048576
  · rw [if_pos c1]
  rw [if_neg c1, szInstr_eq l0 h0]
  simp only [Option.bind_some]
  by_cases c0 : (l0.length : Int) ≤ 1048576
  case neg => rw [if_neg c0]; rfl
  have n0 : (l0.map cvI).length = l0.length := by simp
  have ti := fun k (hk : l0.length < k) => toInstrS_eq l0 (by omega) k hk
  have tk := fun k (hk : l1.length < k) => toIntS_eq l1 (by omega) k hk
  rw [if_pos c0, if_neg (by omega), ti _ (by omega), tk _ (by omega)]
  have fo := fun k (hk : l0.length + l1.length + 300 < k) => fo_same (l0.map cvI) l1 a2 (by omega) (by omega) k (by omega)
  obtain ⟨r, rl, r1, r2⟩ := fo (K + 1 + 1 + 1) (by omega)
  simp only [Option.bind_some, r1, r2]
  have ef := fun k (hk : l0.length < k) => eqFlatS_eq r.1 (by omega) k (by omega)
  rw [ef _ (by omega)]
  simp only [Option.bind_some, if_true, bne_self_eq_false]
  simp only [laws_FnExactFlatOf.j0, Bool.false_eq_true, if_false]
  rw [ti _ (by omega)]
  simp only [Option.bind_some]
  rw [eqInstrS_eq _ (by omega) _ (by omega)]
  simp only [Option.bind_some, if_true]
  rw [tk _ (by omega)]
  simp only [Option.bind_some]
  rw [eqIntS_same l1 (by omega) _ (by omega)]
  simp only [Option.bind_some, if_true]
  obtain ⟨m1, em⟩ := markInstrS_eq (l0.map cvI) 1 (by omega) (by omega) (K + 1 + 1) (by omega)
  rw [em]
  simp only [Option.bind_some]
  obtain ⟨m2, en, _⟩ := markIntS_eq l1 (by omega) (1 + 2 * ((l0.map cvI).length : Int)) (by omega) (by omega) (K + 1 + 1) (by omega)
  rw [en]
  simp only [Option.bind_some]
  rw [if_neg (by omega), ef _ (by omega)]
  simp only [Option.bind_some, if_true, bne_self_eq_false]
  simp only [laws_FnExactFlatOf.j1, Bool.false_eq_true, if_false]
  obtain ⟨l', e1, e2, e3⟩ := markFl_eq r.1 (by omega) 1 (by omega) (by omega) (K + 1) (by omega)
  rw [e1]
  simp only [Option.bind_some]
  have hh := fun k (hk : l0.length < k) => heldFl_eq l' (by omega) 1 (by omega) (by omega) (fun j hj => e3 j (by omega)) k (by omega)
  rw [hh (K + 1) (by omega)]
  simp only [Option.bind_some]
  rw [if_neg (by omega), if_pos (by rw [e2]), ti _ (by omega)]
  simp only [Option.bind_some]
  rw [tk _ (by omega)]
  simp only [Option.bind_some]
  obtain ⟨q, _, q1, q2⟩ := fo (K + 1) (by omega)
  have hrq : q = r := by
    have m1 := impl_FlatOf.mono (l0.map cvI) l1 a2 (K + 1) q q2
    have m2 := impl_FlatOf.mono (l0.map cvI) l1 a2 (K + 1 + 1) q m1
    rw [r2] at m2
    exact (Option.some.inj m2).symm
  rw [q2, hrq]
  simp only [Option.bind_some]
  rw [ef _ (by omega)]
  simp only [Option.bind_some, if_true, bne_self_eq_false]
  simp only [laws_FnExactFlatOf.j2, Bool.false_eq_true, if_false]
  rw [hh K (by omega)]
  simp only [Option.bind_some]
  rw [if_neg (by omega), if_pos (by rw [e2])]


end Go.Proofs.Ytkegjmkdnfpfdaa.Pure

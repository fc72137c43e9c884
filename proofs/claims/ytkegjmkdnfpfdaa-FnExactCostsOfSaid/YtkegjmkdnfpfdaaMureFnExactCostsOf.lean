/- Proved: the pure statement behind the law FnExactCostsOf of the given program: for every input that the row lets in, the program's answer and the reference's agree and the law returns true. Conditions: none beyond the row's own. -/
import Derived.Test.YtkegjmkdnfpfdaaMFnExactCostsOfx45
set_option linter.unusedVariables false
set_option linter.unusedSimpArgs false
namespace Go.Proofs.Ytkegjmkdnfpfdaa.Pure
open Go.RowKit Go.Proofs.Ytkegjmkdnfpfdaa.MFnExactCostsOf Go.Proofs.YtkegjmkdnfpfdaaW.PrintWords Go.Proofs.YtkegjmkdnfpfdaaW.PrintLast

theorem within_eq (a lo hi : Int) : impl_within.f a lo hi = some (decide (lo ≤ a ∧ a ≤ hi)) := by
  unfold impl_within.f
  by_cases h : a ≥ lo
  · have h' : lo ≤ a := h
    simp [h, h']
  · have h' : ¬ lo ≤ a := h
    simp [h, h']

theorem l01In_eq (a lo hi : Int) : spec_l01In.f a lo hi = some (decide (lo ≤ a ∧ a ≤ hi)) := by
  unfold spec_l01In.f
  by_cases h : a ≥ lo
  · have h' : lo ≤ a := h
    simp [h, h']
  · have h' : ¬ lo ≤ a := h
    simp [h, h']

theorem when_eq (b : Bool) (c : Int) : impl_when.f b c = some (if b = true then c else 0) := by
  unfold impl_when.f
  split <;> rfl

/-- The first number of a list that is not 0; else 0. -/
def fnz : List Int → Int
  | [] => 0
  | a :: l => if a = 0 then fnz l else a

theorem first_from (l : List Int) (hl : l.length ≤ 1000) : ∀ (d k i : Nat), l.length - i ≤ d → d < k → i ≤ l.length → impl_first.l0 k l l.length (i : Int) = some (fnz (l.drop i)) := by
  intro d
  induction d with
  | zero =>
    intro k i hd hk hi
    obtain ⟨k, rfl⟩ : ∃ m, k = m + 1 := ⟨k - 1, by omega⟩
    simp only [impl_first.l0]
    rw [if_neg (by omega), List.drop_of_length_le (by omega)]
    rfl
  | succ d ih =>
    intro k i hd hk hi
    obtain ⟨k, rfl⟩ : ∃ m, k = m + 1 := ⟨k - 1, by omega⟩
    simp only [impl_first.l0]
    by_cases h : i < l.length
    · have hw : wrap64 ((i : Int) + 1) = ((i + 1 : Nat) : Int) := by unfold wrap64; omega
      rw [hw, ih k (i + 1) (by omega) (by omega) (by omega)]
      have e : rd l (i : Int) = l[i] := by simp [rd, List.getD_eq_getElem?_getD, h]
      rw [List.drop_eq_getElem_cons h, e]
      rw [if_pos (by omega), if_pos (by omega), if_pos (by omega)]
      simp only [fnz]
      split <;> rfl
    · rw [if_neg (by omega), List.drop_of_length_le (by omega)]
      rfl

theorem first_eq (l : List Int) (hl : l.length ≤ 1000) (k : Nat) (hk : l.length < k) : impl_first.f k l = some (fnz l) := by
  unfold impl_first.f
  have h := first_from l hl l.length k 0 (by omega) hk (by omega)
  simpa using h

/-- The program's instruction for the law's. -/
def cvI (x : S88) : S96 := ⟨x.f0, x.f1⟩
theorem toInstrS_from (l : List S88) (hl : l.length ≤ 1048576) : ∀ (d k i : Nat) (ys : List S96), l.length - i ≤ d → d < k → i ≤ l.length → ys.length = l.length → ys.take i = (l.take i).map cvI → laws_toInstrS.l0 k l ys (i : Int) = some (l.map cvI) := by
  intro d
  induction d with
  | zero =>
    intro k i ys hd hk hi hy ht
    obtain ⟨k, rfl⟩ : ∃ m, k = m + 1 := ⟨k - 1, by omega⟩
    simp only [laws_toInstrS.l0]
    rw [if_neg (by omega)]
    have e : i = l.length := by omega
    subst e
    rw [List.take_of_length_le (by omega), List.take_of_length_le (by omega)] at ht
    rw [ht]
  | succ d ih =>
    intro k i ys hd hk hi hy ht
    obtain ⟨k, rfl⟩ : ∃ m, k = m + 1 := ⟨k - 1, by omega⟩
    by_cases h : i < l.length
    · have hw : wrap64 ((i : Int) + 1) = ((i + 1 : Nat) : Int) := by unfold wrap64; omega
      have e : rd_T88 l (i : Int) = l[i] := by simp [rd_T88, List.getD_eq_getElem?_getD, h]
      conv => lhs; unfold laws_toInstrS.l0
      rw [if_pos (by omega), if_pos (by omega), e]
      unfold laws_toInstr.f
      simp only [Option.bind_some]
      rw [if_pos (by omega), hw]
      apply ih k (i + 1) _ (by omega) (by omega) (by omega) (by simpa using hy)
      have hi2 : i < ys.length := by omega
      have ei : ((i : Int)).toNat = i := by omega
      rw [ei]
      apply List.ext_getElem
      · simp; omega
      · intro j h1 h2
        simp only [List.length_take, List.length_set] at h1
        rw [List.getElem_take, List.getElem_set]
        by_cases hj : i = j
        · subst hj
          simp [cvI]
        · have hji : j < i := by omega
          rw [if_neg hj]
          have hh : (ys.take i)[j]? = ((l.take i).map cvI)[j]? := by rw [ht]
          simp [hji] at hh
          rw [List.getElem?_eq_getElem (by omega), List.getElem?_eq_getElem (by omega)] at hh
          simp at hh
          simp [hh]
    · conv => lhs; unfold laws_toInstrS.l0
      rw [if_neg (by omega)]
      have e : i = l.length := by omega
      subst e
      rw [List.take_of_length_le (by omega), List.take_of_length_le (by omega)] at ht
      rw [ht]
theorem toInstrS_eq (l : List S88) (hl : l.length ≤ 1048576) (k : Nat) (hk : l.length < k) : laws_toInstrS.f k l = some (l.map cvI) := by
  unfold laws_toInstrS.f
  rw [if_pos (by omega), if_pos (by omega)]
  have h := toInstrS_from l hl l.length k 0 (List.replicate l.length z96) (by omega) hk (by omega) (by simp) (by simp)
  simpa using h
theorem eqInstr_refl (a b : Int) : laws_eqInstr.f a b a b = some true := by
  unfold laws_eqInstr.f
  simp
theorem eqInstrS_from (l : List S96) (hl : l.length ≤ 1048576) : ∀ (d k i : Nat), l.length - i ≤ d → d < k → i ≤ l.length → laws_eqInstrS.l0 k l l (i : Int) = some true := by
  intro d
  induction d with
  | zero =>
    intro k i hd hk hi
    obtain ⟨k, rfl⟩ : ∃ m, k = m + 1 := ⟨k - 1, by omega⟩
    simp only [laws_eqInstrS.l0]
    rw [if_neg (by omega)]
  | succ d ih =>
    intro k i hd hk hi
    obtain ⟨k, rfl⟩ : ∃ m, k = m + 1 := ⟨k - 1, by omega⟩
    simp only [laws_eqInstrS.l0]
    by_cases h : i < l.length
    · have hw : wrap64 ((i : Int) + 1) = ((i + 1 : Nat) : Int) := by unfold wrap64; omega
      rw [hw, ih k (i + 1) (by omega) (by omega) (by omega), eqInstr_refl]
      rw [if_pos (by omega), if_pos (by omega), if_pos (by omega)]
      rfl
    · rw [if_neg (by omega)]
theorem eqInstrS_eq (l : List S96) (hl : l.length ≤ 1048576) (k : Nat) (hk : l.length < k) : laws_eqInstrS.f k l l = some true := by
  unfold laws_eqInstrS.f
  rw [if_pos rfl]
  have h := eqInstrS_from l hl l.length k 0 (by omega) hk (by omega)
  simpa using h
theorem szInstr_eq (l : List S88) (hl : l.length ≤ maxLen) : laws_szInstrS.f l 1048576 = some ((if (l.length : Int) ≤ 1048576 then 1048576 - (l.length : Int) else -1 : Int)) := by
  unfold laws_szInstrS.f
  have hm : (l.length : Int) ≤ 9223372036854775807 := by have : maxLen ≤ 9223372036854775807 := (by decide); omega
  have hw : wrap64 (1048576 - (l.length : Int)) = 1048576 - l.length := by unfold wrap64; omega
  rw [hw]
  by_cases h : (l.length : Int) ≤ 1048576
  · rw [if_pos h, if_neg (by omega)]
  · rw [if_neg h, if_pos (by omega)]

theorem toIntS_from (l : List Int) (hl : l.length ≤ 1048576) : ∀ (d k i : Nat) (acc : List Int), l.length - i ≤ d → d < k → i ≤ l.length → acc.length = l.length → (∀ j, j < i → acc[j]? = l[j]?) → laws_toIntS.l0 k l acc (i : Int) = some l := by
  intro d
  induction d with
  | zero =>
    intro k i acc hd hk hi hlen hA
    obtain ⟨k, rfl⟩ : ∃ m, k = m + 1 := ⟨k - 1, by omega⟩
    simp only [laws_toIntS.l0]
    rw [if_neg (by omega)]
    congr 1
    apply List.ext_getElem?
    intro j
    by_cases h : j < i
    · exact hA j h
    · rw [List.getElem?_eq_none (by omega), List.getElem?_eq_none (by omega)]
  | succ d ih =>
    intro k i acc hd hk hi hlen hA
    obtain ⟨k, rfl⟩ : ∃ m, k = m + 1 := ⟨k - 1, by omega⟩
    simp only [laws_toIntS.l0]
    by_cases h : i < l.length
    · rw [if_pos (by omega), if_pos (by omega), if_pos (by omega)]
      have hw : wrap64 ((i : Int) + 1) = ((i + 1 : Nat) : Int) := by unfold wrap64; omega
      rw [hw]
      refine ih k (i + 1) _ (by omega) (by omega) (by omega) (by simp [hlen]) (fun j hj => ?_)
      have e : rd l (i : Int) = l[i] := by simp [rd, List.getD_eq_getElem?_getD, h]
      rw [e, Int.toNat_natCast, List.getElem?_set]
      by_cases hji : i = j
      · subst hji
        rw [if_pos rfl, if_pos (by omega), List.getElem?_eq_getElem h]
      · rw [if_neg hji]
        exact hA j (by omega)
    · rw [if_neg (by omega)]
      congr 1
      apply List.ext_getElem?
      intro j
      by_cases h2 : j < i
      · exact hA j h2
      · rw [List.getElem?_eq_none (by omega), List.getElem?_eq_none (by omega)]
theorem toIntS_eq (l : List Int) (hl : l.length ≤ 1048576) (k : Nat) (hk : l.length < k) : laws_toIntS.f k l = some l := by
  unfold laws_toIntS.f
  rw [if_pos (by omega), if_pos (by omega)]
  exact toIntS_from l hl l.length k 0 _ (by omega) hk (by omega) (by simp) (fun j hj => by omega)
theorem eqIntS_from (l : List Int) (hl : l.length ≤ 1048576) : ∀ (d k i : Nat), l.length - i ≤ d → d < k → i ≤ l.length → laws_eqIntS.l0 k l l (i : Int) = some true := by
  intro d
  induction d with
  | zero =>
    intro k i hd hk hi
    obtain ⟨k, rfl⟩ : ∃ m, k = m + 1 := ⟨k - 1, by omega⟩
    simp only [laws_eqIntS.l0]
    rw [if_neg (by omega)]
  | succ d ih =>
    intro k i hd hk hi
    obtain ⟨k, rfl⟩ : ∃ m, k = m + 1 := ⟨k - 1, by omega⟩
    simp only [laws_eqIntS.l0]
    by_cases h : i < l.length
    · have hw : wrap64 ((i : Int) + 1) = ((i + 1 : Nat) : Int) := by unfold wrap64; omega
      rw [if_pos (by omega), if_pos (by omega), hw, ih k (i + 1) (by omega) (by omega) (by omega)]
      simp only [show ((i : Int) < (l.length : Int)) from by omega, if_true]
    · rw [if_neg (by omega)]
theorem eqIntS_same (l : List Int) (hl : l.length ≤ 1048576) (k : Nat) (hk : l.length < k) : laws_eqIntS.f k l l = some true := by
  unfold laws_eqIntS.f
  rw [if_pos rfl]
  exact eqIntS_from l hl l.length k 0 (by omega) hk (by omega)

theorem has_j2 (k : Nat) (a : Int) (b : Bool) : spec_l02Has.j2 k a b = impl_rangeOf.j2 k a b := by
  cases k <;> simp only [spec_l02Has.j2, impl_rangeOf.j2]
theorem has_j1 (k : Nat) (a : Int) (b : Bool) : spec_l02Has.j1 k a b = impl_rangeOf.j1 k a b := by
  cases k <;> simp only [spec_l02Has.j1, impl_rangeOf.j1, has_j2]
theorem has_j0 (k : Nat) (a : Int) (b : Bool) : spec_l02Has.j0 k a b = impl_rangeOf.j0 k a b := by
  cases k <;> simp only [spec_l02Has.j0, impl_rangeOf.j0, has_j1]
theorem has_same (k : Nat) (a : Int) : spec_l02Has.f k a = impl_rangeOf.f k a := by
  unfold spec_l02Has.f impl_rangeOf.f
  simp only [has_j0]
/-- The range of an operation's operand, and whether it has one. -/
def rng (a : Int) : Int × Int × Bool :=
  if a = 1 then (-2147483648, 2147483647, true) else if a = 2 then (0, 1, true) else if a = 3 ∨ a = 4 then (0, 15, true) else if a = 5 ∨ a = 6 ∨ a = 7 ∨ a = 8 then (0, 7, true)
  else if a = 19 ∨ a = 20 then (0, 7, true) else if a = 24 then (1, 20, true) else if a = 26 then (0, 5, true) else (0, 0, false)
theorem range_eq (k : Nat) (hk : 3 ≤ k) (a : Int) : impl_rangeOf.f k a = some (rng a) := by
  obtain ⟨k, rfl⟩ : ∃ m, k = m + 3 := ⟨k - 3, by omega⟩
  unfold impl_rangeOf.f rng
  simp only [impl_rangeOf.j0, impl_rangeOf.j1, impl_rangeOf.j2]
  by_cases h1 : a = 1
  · subst h1; rfl
  by_cases h2 : a = 2
  · subst h2; rfl
  by_cases h3 : a = 3
  · subst h3; rfl
  by_cases h4 : a = 4
  · subst h4; rfl
  by_cases h5 : a = 5
  · subst h5; rfl
  by_cases h6 : a = 6
  · subst h6; rfl
  by_cases h7 : a = 7
  · subst h7; rfl
  by_cases h8 : a = 8
  · subst h8; rfl
  by_cases h19 : a = 19
  · subst h19; rfl
  by_cases h20 : a = 20
  · subst h20; rfl
  by_cases h24 : a = 24
  · subst h24; rfl
  by_cases h26 : a = 26
  · subst h26; rfl
  simp [h1, h2, h3, h4, h5, h6, h7, h8, h19, h20, h24, h26]

def instrb (op a : Int) : Bool := decide ((1 ≤ op ∧ op ≤ 26) ∧ ((rng op).1 ≤ a ∧ a ≤ (rng op).2.1))
theorem isOp_eq (a : Int) : impl_isOp.f a = some (decide (1 ≤ a ∧ a ≤ 26)) := by
  unfold impl_isOp.f; rw [within_eq]; rfl
theorem l02Op_eq (a : Int) : spec_l02Op.f a = some (decide (1 ≤ a ∧ a ≤ 26)) := by
  unfold spec_l02Op.f; rw [l01In_eq]; rfl
theorem spec_instr (k : Nat) (hk : 3 ≤ k) (op a : Int) : spec_l02OK.f k op a = some (instrb op a) := by
  unfold spec_l02OK.f instrb
  simp only [l02Op_eq, l01In_eq, has_same, range_eq k hk, Option.bind_some]
  by_cases h : 1 ≤ op ∧ op ≤ 26 <;> simp [h]
theorem impl_instr (k : Nat) (hk : 3 ≤ k) (op a : Int) : impl_InstrOK.f k op a = some (instrb op a) := by
  unfold impl_InstrOK.f instrb
  simp only [isOp_eq, within_eq, range_eq k hk, Option.bind_some]
  by_cases h : 1 ≤ op ∧ op ≤ 26 <;> simp [h]

theorem impl_all_int_isFbKind_from (p : Int → Bool) (K : Nat) (hF : ∀ (k : Nat) (x : Int), K ≤ k → impl_isFbKind.f x = some (p x)) (l : List Int) (hl : l.length ≤ 1048576) : ∀ (d k i : Nat), l.length - i ≤ d → d + K < k → i ≤ l.length →
    ∃ j, impl_all_int_isFbKind.l0 k l (i : Int) = some j ∧ (!(decide (0 ≤ j))) = (l.drop i).all p := by
  intro d
  induction d with
  | zero =>
    intro k i hd hk hi
    obtain ⟨k, rfl⟩ : ∃ m, k = m + 1 := ⟨k - 1, by omega⟩
    refine ⟨-1, ?_, ?_⟩
    · simp only [impl_all_int_isFbKind.l0]
      rw [if_neg (by omega)]
    · rw [List.drop_of_length_le (by omega)]
      rfl
  | succ d ih =>
    intro k i hd hk hi
    obtain ⟨k, rfl⟩ : ∃ m, k = m + 1 := ⟨k - 1, by omega⟩
    by_cases h : i < l.length
    · have e : rd l (i : Int) = l[i] := by simp [rd, List.getD_eq_getElem?_getD, h]
      have hw : wrap64 ((i : Int) + 1) = ((i + 1 : Nat) : Int) := by unfold wrap64; omega
      obtain ⟨j, hj, hp⟩ := ih k (i + 1) (by omega) (by omega) (by omega)
      have hx := hF k l[i] (by omega)
      rw [List.drop_eq_getElem_cons h, List.all_cons]
      simp only [impl_all_int_isFbKind.l0]
      rw [if_pos (by omega), if_pos (by omega), e, hw, hx]
      simp only [Option.bind_some]
      cases p l[i] with
      | true => exact ⟨j, by rw [if_pos rfl]; exact hj, by simpa using hp⟩
      | false => exact ⟨(i : Int), by rw [if_neg (by decide)], by simp⟩
    · refine ⟨-1, ?_, ?_⟩
      · simp only [impl_all_int_isFbKind.l0]
        rw [if_neg (by omega)]
      · rw [List.drop_of_length_le (by omega)]
        rfl
theorem impl_all_int_isFbKind_eq (p : Int → Bool) (K : Nat) (hF : ∀ (k : Nat) (x : Int), K ≤ k → impl_isFbKind.f x = some (p x)) (l : List Int) (hl : l.length ≤ 1048576) (k : Nat) (hk : l.length + K < k) : impl_all_int_isFbKind.f k l = some (l.all p) := by
  obtain ⟨j, hj, hp⟩ := impl_all_int_isFbKind_from p K hF l hl l.length k 0 (by omega) (by omega) (by omega)
  unfold impl_all_int_isFbKind.f
  have hj' : impl_all_int_isFbKind.l0 k l 0 = some j := hj
  rw [hj']
  simp only [Option.bind_some]
  rw [hp]
  rfl

theorem impl_all_Instr_InstrOK_from (p : S96 → Bool) (K : Nat) (hF : ∀ (k : Nat) (x : S96), K ≤ k → impl_InstrOK.f k x.f0 x.f1 = some (p x)) (l : List S96) (hl : l.length ≤ 1048576) : ∀ (d k i : Nat), l.length - i ≤ d → d + K < k → i ≤ l.length →
    ∃ j, impl_all_Instr_InstrOK.l0 k l (i : Int) = some j ∧ (!(decide (0 ≤ j))) = (l.drop i).all p := by
  intro d
  induction d with
  | zero =>
    intro k i hd hk hi
    obtain ⟨k, rfl⟩ : ∃ m, k = m + 1 := ⟨k - 1, by omega⟩
    refine ⟨-1, ?_, ?_⟩
    · simp only [impl_all_Instr_InstrOK.l0]
      rw [if_neg (by omega)]
    · rw [List.drop_of_length_le (by omega)]
      rfl
  | succ d ih =>
    intro k i hd hk hi
    obtain ⟨k, rfl⟩ : ∃ m, k = m + 1 := ⟨k - 1, by omega⟩
    by_cases h : i < l.length
    · have e : rd_T96 l (i : Int) = l[i] := by simp [rd_T96, List.getD_eq_getElem?_getD, h]
      have hw : wrap64 ((i : Int) + 1) = ((i + 1 : Nat) : Int) := by unfold wrap64; omega
      obtain ⟨j, hj, hp⟩ := ih k (i + 1) (by omega) (by omega) (by omega)
      have hx := hF k l[i] (by omega)
      rw [List.drop_eq_getElem_cons h, List.all_cons]
      simp only [impl_all_Instr_InstrOK.l0]
      rw [if_pos (by omega), if_pos (by omega), e, hw, hx]
      simp only [Option.bind_some]
      cases p l[i] with
      | true => exact ⟨j, by rw [if_pos rfl]; exact hj, by simpa using hp⟩
      | false => exact ⟨(i : Int), by rw [if_neg (by decide)], by simp⟩
    · refine ⟨-1, ?_, ?_⟩
      · simp only [impl_all_Instr_InstrOK.l0]
        rw [if_neg (by omega)]
      · rw [List.drop_of_length_le (by omega)]
        rfl
theorem impl_all_Instr_InstrOK_eq (p : S96 → Bool) (K : Nat) (hF : ∀ (k : Nat) (x : S96), K ≤ k → impl_InstrOK.f k x.f0 x.f1 = some (p x)) (l : List S96) (hl : l.length ≤ 1048576) (k : Nat) (hk : l.length + K < k) : impl_all_Instr_InstrOK.f k l = some (l.all p) := by
  obtain ⟨j, hj, hp⟩ := impl_all_Instr_InstrOK_from p K hF l hl l.length k 0 (by omega) (by omega) (by omega)
  unfold impl_all_Instr_InstrOK.f
  have hj' : impl_all_Instr_InstrOK.l0 k l 0 = some j := hj
  rw [hj']
  simp only [Option.bind_some]
  rw [hp]
  rfl

def kindB (a : Int) : Bool := decide (1 ≤ a ∧ a ≤ 4)
def insB (x : S96) : Bool := instrb x.f0 x.f1
theorem isFbKind_eq (a : Int) : impl_isFbKind.f a = some (kindB a) := by unfold impl_isFbKind.f kindB; rw [within_eq]; rfl
theorem l03Kind_eq (a : Int) : spec_l03Kind.f a = some (kindB a) := by unfold spec_l03Kind.f kindB; rw [l01In_eq]; rfl
theorem areKinds_eq (l : List Int) (hl : l.length ≤ 1048576) (k : Nat) (hk : l.length + 1 < k) : impl_areKinds.f k l = some (decide (l.length ≤ 8) && l.all kindB) := by
  unfold impl_areKinds.f
  by_cases h : l.length ≤ 8
  · rw [if_pos (by omega), impl_all_int_isFbKind_eq kindB 0 (fun k x _ => isFbKind_eq x) l hl k (by omega), decide_eq_true h]; rfl
  · rw [if_neg (by omega), decide_eq_false h]; rfl
theorem isCode_eq (l : List S96) (hl : l.length ≤ 1048576) (k : Nat) (hk : l.length + 4 < k) : impl_isCode.f k l = some (decide (l.length ≤ 40) && l.all insB) := by
  unfold impl_isCode.f
  by_cases h : l.length ≤ 40
  · rw [if_pos (by omega), impl_all_Instr_InstrOK_eq insB 3 (fun k x hk => impl_instr k hk x.f0 x.f1) l hl k (by omega), decide_eq_true h]; rfl
  · rw [if_neg (by omega), decide_eq_false h]; rfl
theorem l04Kinds_from (l : List Int) (hl : l.length ≤ 1048576) : ∀ (d k i : Nat), l.length - i ≤ d → d < k → i ≤ l.length → spec_l04Kinds.l0 k l (i : Int) = some ((l.drop i).all kindB) := by
  intro d
  induction d with
  | zero =>
    intro k i hd hk hi
    obtain ⟨k, rfl⟩ : ∃ m, k = m + 1 := ⟨k - 1, by omega⟩
    simp only [spec_l04Kinds.l0]
    rw [if_neg (by omega), List.drop_of_length_le (by omega)]
    rfl
  | succ d ih =>
    intro k i hd hk hi
    obtain ⟨k, rfl⟩ : ∃ m, k = m + 1 := ⟨k - 1, by omega⟩
    simp only [spec_l04Kinds.l0]
    by_cases h : i < l.length
    · have e : rd l (i : Int) = l[i] := by simp [rd, List.getD_eq_getElem?_getD, h]
      have hw : wrap64 ((i : Int) + 1) = ((i + 1 : Nat) : Int) := by unfold wrap64; omega
      rw [if_pos (by omega), if_pos (by omega), e, hw, ih k (i + 1) (by omega) (by omega) (by omega), l03Kind_eq, List.drop_eq_getElem_cons h, List.all_cons]
      simp only [Option.bind_some]
      cases kindB l[i] <;> rfl
    · rw [if_neg (by omega), List.drop_of_length_le (by omega)]
      rfl
theorem l04Kinds_eq (l : List Int) (hl : l.length ≤ 1048576) (k : Nat) (hk : l.length < k) : spec_l04Kinds.f k l = some (decide (l.length ≤ 8) && l.all kindB) := by
  unfold spec_l04Kinds.f
  by_cases h : l.length ≤ 8
  · have := l04Kinds_from l hl l.length k 0 (by omega) hk (by omega)
    rw [if_neg (by omega), decide_eq_true h]
    simpa using this
  · rw [if_pos (by omega), decide_eq_false h]; rfl
theorem l02All_from (l : List S96) (hl : l.length ≤ 1048576) : ∀ (d k i : Nat), l.length - i ≤ d → d + 3 < k → i ≤ l.length → spec_l02All.l0 k l (i : Int) = some ((l.drop i).all insB) := by
  intro d
  induction d with
  | zero =>
    intro k i hd hk hi
    obtain ⟨k, rfl⟩ : ∃ m, k = m + 1 := ⟨k - 1, by omega⟩
    simp only [spec_l02All.l0]
    rw [if_neg (by omega), List.drop_of_length_le (by omega)]
    rfl
  | succ d ih =>
    intro k i hd hk hi
    obtain ⟨k, rfl⟩ : ∃ m, k = m + 1 := ⟨k - 1, by omega⟩
    simp only [spec_l02All.l0]
    by_cases h : i < l.length
    · have e : rd_T96 l (i : Int) = l[i] := by simp [rd_T96, List.getD_eq_getElem?_getD, h]
      have hw : wrap64 ((i : Int) + 1) = ((i + 1 : Nat) : Int) := by unfold wrap64; omega
      rw [if_pos (by omega), if_pos (by omega), e, hw, ih k (i + 1) (by omega) (by omega) (by omega), spec_instr k (by omega), List.drop_eq_getElem_cons h, List.all_cons]
      simp only [Option.bind_some]
      show (if insB l[i] = true then _ else _) = _
      cases insB l[i] <;> rfl
    · rw [if_neg (by omega), List.drop_of_length_le (by omega)]
      rfl
theorem l02All_eq (l : List S96) (hl : l.length ≤ 1048576) (k : Nat) (hk : l.length + 3 < k) : spec_l02All.f k l = some (l.all insB) := by
  unfold spec_l02All.f
  have := l02All_from l hl l.length k 0 (by omega) hk (by omega)
  simpa using this
/-- What is asked well is fit for the walk. -/
theorem ok_of_ins {l0 : List S96} {l1 : List Int} (hl : l0.length ≤ 40) (h1 : l1.all kindB = true) (h0 : l0.all insB = true) : l0.length ≤ 4096 ∧ (l0.all fun x => vOKb l1 x.f0 x.f1) = true := by
  refine ⟨by omega, ?_⟩
  rw [List.all_eq_true] at h0 ⊢
  intro x hx
  have hi := h0 x hx
  unfold insB instrb at hi
  have hi' := of_decide_eq_true hi
  obtain ⟨⟨a1, a2⟩, a3, a4⟩ := hi'
  unfold vOKb
  have hk : (l1.all fun k => decide (1 ≤ k) && decide (k ≤ 4)) = true := by
    rw [List.all_eq_true] at h1 ⊢
    intro y hy
    have := of_decide_eq_true (h1 y hy)
    rw [decide_eq_true this.1, decide_eq_true this.2]; rfl
  rw [hk, decide_eq_true a1, decide_eq_true a2]
  by_cases h19 : x.f0 = 19
  · rw [h19] at a3
    have : (0 : Int) ≤ x.f1 := a3
    rw [decide_eq_true this]; simp
  · by_cases h20 : x.f0 = 20
    · rw [h20] at a3
      have : (0 : Int) ≤ x.f1 := a3
      rw [decide_eq_true this]; simp
    · have e1 : (x.f0 == 19) = false := by simpa using h19
      have e2 : (x.f0 == 20) = false := by simpa using h20
      rw [e1, e2]; rfl

/-! the two verifiers, held against each other -/
def VR : ByteArray → List SO → List VO → Prop
  | _, [], [] => True
  | S, o :: P, v :: Q => v.at_ = o.at_ ∧ v.base = (o.stack.size : Int) ∧ ((o.op = 21 ∧ v.isIf = true ∧ v.hasElse = false) ∨ (o.op = 22 ∧ v.isIf = true ∧ v.hasElse = true) ∨ (o.op = 24 ∧ v.isIf = false ∧ v.hasElse = false)) ∧ o.stack.size ≤ S.size ∧ S.extract 0 o.stack.size = o.stack ∧ VR o.stack P Q
  | _, _, _ => False
theorem VR.base {S : ByteArray} {O : List SO} {Q : List VO} (h : VR S O Q) : sBase O = vBase Q := by
  cases O <;> cases Q <;> simp only [VR] at h
  · rfl
  · exact h.2.1.symm
theorem VR.length {O : List SO} : ∀ {S : ByteArray} {Q : List VO}, VR S O Q → O.length = Q.length := by
  induction O with
  | nil => intro S Q h; cases Q <;> simp only [VR] at h; rfl
  | cons o P ih =>
    intro S Q h
    cases Q <;> simp only [VR] at h
    simp [ih h.2.2.2.2.2]
theorem ext_ext (S Q : ByteArray) (k n : Nat) (hn : n ≤ k) (hk : k ≤ S.size) : (S.extract 0 k ++ Q).extract 0 n = S.extract 0 n := by
  apply ByteArray.ext
  simp only [ByteArray.data_extract, ByteArray.data_append]
  apply Array.ext'
  have h1 : S.data.toList.length = S.size := by rw [Array.length_toList]; rfl
  have h2 : S.data.size = S.size := rfl
  simp only [Array.toList_extract, Array.toList_append, List.extract_eq_take_drop, List.drop_zero, Nat.sub_zero]
  rw [List.take_append_of_le_length (by rw [List.length_take, h1]; omega), List.take_take, Nat.min_eq_left hn]
theorem VR.cut {S Q : ByteArray} {k : Nat} {O : List SO} {V : List VO} (h : VR S O V) (hk : k ≤ S.size) (hb : sBase O ≤ (k : Int)) : VR (S.extract 0 k ++ Q) O V := by
  cases O <;> cases V <;> simp only [VR, sBase] at h hb ⊢
  obtain ⟨h1, h2, h3, h4, h5, h6⟩ := h
  refine ⟨h1, h2, h3, ?_, ?_, h6⟩
  · rw [ByteArray.size_append, ByteArray.size_extract]; omega
  · rw [ext_ext _ _ _ _ (by omega) hk]; exact h5
theorem nest_eq {at_ op : Int} {S : ByteArray} {O : List SO} {V : List VO} (h : VR S O V) (hr : 21 ≤ op ∧ op ≤ 24) :
    (sNest at_ op S O).1 = (vNest at_ op S V).1 ∧ ((sNest at_ op S O).1 = 0 → VR S (sNest at_ op S O).2 (vNest at_ op S V).2) := by
  have hl := h.length
  by_cases h1 : op = 21 ∨ op = 24
  · by_cases h4 : O.length = 4
    · have h4' : V.length = 4 := by omega
      rw [show sNest at_ op S O = (17, O) from by unfold sNest; rw [if_pos h1, if_pos h4], show vNest at_ op S V = (17, V) from by unfold vNest; rw [if_pos h1, if_pos h4']]
      exact ⟨rfl, fun e => absurd e (by simp)⟩
    · have h4' : ¬ V.length = 4 := by omega
      rw [show sNest at_ op S O = (0, ⟨at_, op, S⟩ :: O) from by unfold sNest; rw [if_pos h1, if_neg h4], show vNest at_ op S V = (0, ⟨at_, (S.size : Int), decide (op = 21), false⟩ :: V) from by unfold vNest; rw [if_pos h1, if_neg h4']]
      refine ⟨rfl, fun _ => ?_⟩
      simp only [VR]
      refine ⟨trivial, trivial, ?_, Nat.le_refl _, ?_, h⟩
      · rcases h1 with rfl | rfl
        · exact .inl (by simp)
        · exact .inr (.inr (by simp))
      · apply ByteArray.ext; simp
  have h23 : op = 22 ∨ op = 23 := by omega
  cases O with
  | nil =>
    cases V <;> simp only [VR] at h
    rw [show sNest at_ op S [] = (14, []) from by unfold sNest; rw [if_neg h1]]
    rcases h23 with rfl | rfl
    · exact ⟨rfl, fun e => absurd e (by simp)⟩
    · exact ⟨rfl, fun e => absurd e (by simp)⟩
  | cons o P =>
    cases V with
    | nil => simp only [VR] at h
    | cons v Q =>
      simp only [VR] at h
      obtain ⟨e1, e2, e3, e4, e5, e6⟩ := h
      have hst : (S = o.stack) ↔ ((S.size : Int) = v.base) := by
        rw [e2]
        constructor
        · intro e; rw [e]
        · intro e
          have e' : o.stack.size = S.size := by omega
          rw [← e5, e']
          apply ByteArray.ext; simp
      rw [show sNest at_ op S (o :: P) = if op = 22 ∧ o.op ≠ 21 then (14, o :: P) else if S = o.stack then (if op = 22 then (0, { o with op := 22 } :: P) else (0, P)) else (13, o :: P) from by unfold sNest; rw [if_neg h1]]
      rcases h23 with rfl | rfl
      · rw [show vNest at_ 22 S (v :: Q) = if (!v.isIf || v.hasElse) = true then (14, v :: Q) else if (S.size : Int) = v.base then (0, { v with hasElse := true } :: Q) else (13, v :: Q) from by unfold vNest; rw [if_neg (by decide), if_pos rfl]]
        by_cases hb : o.op = 21
        · have hv : v.isIf = true ∧ v.hasElse = false := by rcases e3 with e3 | e3 | e3 <;> first | exact e3.2 | (exfalso; omega)
          have hv' : ¬ (!v.isIf || v.hasElse) = true := by rw [hv.1, hv.2]; decide
          rw [if_neg (by simp [hb]), if_neg hv']
          by_cases hs : S = o.stack
          · rw [if_pos hs, if_pos (hst.1 hs), if_pos rfl]
            refine ⟨rfl, fun _ => ?_⟩
            simp only [VR]
            exact ⟨e1, e2, .inr (.inl (by simp [hv.1])), e4, e5, e6⟩
          · rw [if_neg hs, if_neg (fun e => hs (hst.2 e))]
            exact ⟨rfl, fun e => absurd e (by simp)⟩
        · have hv : (!v.isIf || v.hasElse) = true := by
            rcases e3 with e3 | e3 | e3
            · exact absurd e3.1 hb
            · simp [e3.2.1, e3.2.2]
            · simp [e3.2.1, e3.2.2]
          rw [if_pos ⟨rfl, hb⟩, if_pos hv]
          exact ⟨rfl, fun e => absurd e (by simp)⟩
      · rw [show vNest at_ 23 S (v :: Q) = if (S.size : Int) = v.base then (0, Q) else (13, v :: Q) from by unfold vNest; rw [if_neg (by decide), if_neg (by decide), if_pos rfl]]
        rw [if_neg (by rintro ⟨e, _⟩; exact absurd e (by decide) : ¬ ((23 : Int) = 22 ∧ o.op ≠ 21)), if_neg (by decide : ¬ (23 : Int) = 22)]
        by_cases hs : S = o.stack
        · rw [if_pos hs, if_pos (hst.1 hs)]
          exact ⟨rfl, fun _ => by rw [hs]; exact e6⟩
        · rw [if_neg hs, if_neg (fun e => hs (hst.2 e))]
          exact ⟨rfl, fun e => absurd e (by simp)⟩
theorem step_eq {ks : List Int} {R at_ op a : Int} {S : ByteArray} {O : List SO} {V : List VO} (h : VR S O V) (hi : sInv S O) :
    (sStep ks R at_ op a S O).1 = (vStep ks R at_ op a S V).1 ∧ ((sStep ks R at_ op a S O).1 = 0 → (sStep ks R at_ op a S O).2.1 = (vStep ks R at_ op a S V).2.1 ∧ VR (sStep ks R at_ op a S O).2.1 (sStep ks R at_ op a S O).2.2 (vStep ks R at_ op a S V).2.2) := by
  have hb := h.base
  have hr := sBase_range hi
  unfold sStep vStep
  by_cases h1 : (op = 19 ∨ op = 20) ∧ (ks.length : Int) ≤ a
  · rw [if_pos h1, if_pos h1]; exact ⟨rfl, fun e => absurd e (by simp)⟩
  rw [if_neg h1, if_neg h1]
  by_cases h2 : op = 26 ∧ R ≤ a
  · rw [if_pos h2, if_pos h2]; exact ⟨rfl, fun e => absurd e (by simp)⟩
  rw [if_neg h2, if_neg h2]
  by_cases h3 : (S.size : Int) - sBase O < ((vEff ks op a).1.size : Int)
  · have h3' : (S.size : Int) - ((vEff ks op a).1.size : Int) < vBase V := by omega
    rw [if_pos h3, if_pos h3']; exact ⟨rfl, fun e => absurd e (by simp)⟩
  have h3' : ¬ (S.size : Int) - ((vEff ks op a).1.size : Int) < vBase V := by omega
  rw [if_neg h3, if_neg h3']
  by_cases h4 : S.extract (S.size - (vEff ks op a).1.size) S.size = (vEff ks op a).1
  · rw [if_pos h4, if_pos h4]
    by_cases h5 : S.size - (vEff ks op a).1.size + (vEff ks op a).2.size ≤ 8
    · rw [if_pos h5, if_pos h5]
      have hc : VR (S.extract 0 (S.size - (vEff ks op a).1.size) ++ (vEff ks op a).2) O V := h.cut (by omega) (by omega)
      by_cases h6 : 21 ≤ op ∧ op ≤ 24
      · rw [if_pos h6]
        obtain ⟨n1, n2⟩ := nest_eq (at_ := at_) hc h6
        exact ⟨n1, fun e => ⟨rfl, n2 e⟩⟩
      · rw [if_neg h6]
        have hv : vNest at_ op (S.extract 0 (S.size - (vEff ks op a).1.size) ++ (vEff ks op a).2) V = (0, V) := by
          unfold vNest
          rw [if_neg (by omega : ¬ (op = 21 ∨ op = 24)), if_neg (by omega : ¬ op = 22), if_neg (by omega : ¬ op = 23)]
        rw [hv]
        exact ⟨rfl, fun _ => ⟨rfl, hc⟩⟩
    · rw [if_neg h5, if_neg h5]; exact ⟨rfl, fun e => absurd e (by simp)⟩
  · rw [if_neg h4, if_neg h4]; exact ⟨rfl, fun e => absurd e (by simp)⟩
theorem loop_eq (ks : List Int) (R : Int) (xs : List S96) : ∀ (at_ : Int) (S : ByteArray) (O : List SO) (V : List VO) (out : List ByteArray), VR S O V → sInv S O → (vLoop ks R xs at_ S V out).2 = sLoop ks R xs at_ S O := by
  induction xs with
  | nil =>
    intro at_ S O V out h hi
    cases O <;> cases V <;> simp only [VR] at h
    · simp only [vLoop, sLoop]; split <;> rfl
    · simp only [vLoop, sLoop]; rw [h.1]
  | cons x xs ih =>
    intro at_ S O V out h hi
    obtain ⟨e1, e2⟩ := step_eq (ks := ks) (R := R) (at_ := at_) (op := x.f0) (a := x.f1) h hi
    simp only [vLoop, sLoop]
    rw [← e1]
    by_cases hc : (sStep ks R at_ x.f0 x.f1 S O).1 = 0
    · rw [if_pos hc, if_pos hc]
      obtain ⟨e3, e4⟩ := e2 hc
      rw [← e3]
      exact ih _ _ _ _ _ e4 (sStep_inv hi hc)
    · rw [if_neg hc, if_neg hc]

/-- The program's routine for the law's. -/
def cvR (x : S117) : S124 := ⟨x.f0.map cvI⟩
theorem toRoutine_eq (l : List S88) (hl : l.length ≤ 1048576) (k : Nat) (hk : l.length < k) : laws_toRoutine.f k l = some (l.map cvI) := by
  unfold laws_toRoutine.f
  rw [toInstrS_eq l hl k hk]; rfl
theorem toRoutineS_from (l : List S117) (hl : l.length ≤ 1048576) (hm : ∀ x ∈ l, x.f0.length ≤ 1048576) : ∀ (d k i : Nat) (ys : List S124), l.length - i ≤ d → d + 1048577 < k → i ≤ l.length → ys.length = l.length → ys.take i = (l.take i).map cvR → laws_toRoutineS.l0 k l ys (i : Int) = some (l.map cvR) := by
  intro d
  induction d with
  | zero =>
    intro k i ys hd hk hi hy ht
    obtain ⟨k, rfl⟩ : ∃ m, k = m + 1 := ⟨k - 1, by omega⟩
    simp only [laws_toRoutineS.l0]
    rw [if_neg (by omega)]
    have e : i = l.length := by omega
    subst e
    rw [List.take_of_length_le (by omega), List.take_of_length_le (by omega)] at ht
    rw [ht]
  | succ d ih =>
    intro k i ys hd hk hi hy ht
    obtain ⟨k, rfl⟩ : ∃ m, k = m + 1 := ⟨k - 1, by omega⟩
    by_cases h : i < l.length
    · have hw : wrap64 ((i : Int) + 1) = ((i + 1 : Nat) : Int) := by unfold wrap64; omega
      have e : rd_T117 l (i : Int) = l[i] := by simp [rd_T117, List.getD_eq_getElem?_getD, h]
      have hmi := hm l[i] (List.getElem_mem h)
      conv => lhs; unfold laws_toRoutineS.l0
      rw [if_pos (by omega), if_pos (by omega), e, toRoutine_eq _ hmi _ (by omega)]
      simp only [Option.bind_some]
      rw [if_pos (by omega), hw]
      apply ih k (i + 1) _ (by omega) (by omega) (by omega) (by simpa using hy)
      have hi2 : i < ys.length := by omega
      have ei : ((i : Int)).toNat = i := by omega
      rw [ei]
      apply List.ext_getElem
      · simp; omega
      · intro j h1 h2
        simp only [List.length_take, List.length_set] at h1
        rw [List.getElem_take, List.getElem_set]
        by_cases hj : i = j
        · subst hj
          simp [cvR]
        · have hji : j < i := by omega
          rw [if_neg hj]
          have hh : (ys.take i)[j]? = ((l.take i).map cvR)[j]? := by rw [ht]
          simp [hji] at hh
          rw [List.getElem?_eq_getElem (by omega), List.getElem?_eq_getElem (by omega)] at hh
          simp at hh
          simp [hh]
    · conv => lhs; unfold laws_toRoutineS.l0
      rw [if_neg (by omega)]
      have e : i = l.length := by omega
      subst e
      rw [List.take_of_length_le (by omega), List.take_of_length_le (by omega)] at ht
      rw [ht]
theorem toRoutineS_eq (l : List S117) (hl : l.length ≤ 1048576) (hm : ∀ x ∈ l, x.f0.length ≤ 1048576) (k : Nat) (hk : l.length + 1048577 < k) : laws_toRoutineS.f k l = some (l.map cvR) := by
  unfold laws_toRoutineS.f
  rw [if_pos (by omega), if_pos (by omega)]
  have h := toRoutineS_from l hl hm l.length k 0 (List.replicate l.length z124) (by omega) hk (by omega) (by simp) (by simp)
  simpa using h
theorem eqRoutine_same (l : List S96) (hl : l.length ≤ 1048576) (k : Nat) (hk : l.length < k) : laws_eqRoutine.f k l l = some true := by
  unfold laws_eqRoutine.f
  rw [eqInstrS_eq l hl k hk]; rfl
theorem eqRoutineS_from (l : List S124) (hl : l.length ≤ 1048576) (hm : ∀ x ∈ l, x.f0.length ≤ 1048576) : ∀ (d k i : Nat), l.length - i ≤ d → d + 1048577 < k → i ≤ l.length → laws_eqRoutineS.l0 k l l (i : Int) = some true := by
  intro d
  induction d with
  | zero =>
    intro k i hd hk hi
    obtain ⟨k, rfl⟩ : ∃ m, k = m + 1 := ⟨k - 1, by omega⟩
    simp only [laws_eqRoutineS.l0]
    rw [if_neg (by omega)]
  | succ d ih =>
    intro k i hd hk hi
    obtain ⟨k, rfl⟩ : ∃ m, k = m + 1 := ⟨k - 1, by omega⟩
    simp only [laws_eqRoutineS.l0]
    by_cases h : i < l.length
    · have hw : wrap64 ((i : Int) + 1) = ((i + 1 : Nat) : Int) := by unfold wrap64; omega
      have e : rd_T124 l (i : Int) = l[i] := by simp [rd_T124, List.getD_eq_getElem?_getD, h]
      rw [hw, ih k (i + 1) (by omega) (by omega) (by omega), e, eqRoutine_same _ (hm _ (List.getElem_mem h)) _ (by have := hm _ (List.getElem_mem h); omega)]
      rw [if_pos (by omega), if_pos (by omega), if_pos (by omega)]
      rfl
    · rw [if_neg (by omega)]
theorem eqRoutineS_eq (l : List S124) (hl : l.length ≤ 1048576) (hm : ∀ x ∈ l, x.f0.length ≤ 1048576) (k : Nat) (hk : l.length + 1048577 < k) : laws_eqRoutineS.f k l l = some true := by
  unfold laws_eqRoutineS.f
  rw [if_pos rfl]
  have h := eqRoutineS_from l hl hm l.length k 0 (by omega) hk (by omega)
  simpa using h
theorem szRoutine_eq (l : List S88) (hl : l.length ≤ maxLen) (a : Int) (h0 : 0 ≤ a) (h1 : a ≤ 1048576) : laws_szRoutine.f l a = some (if (l.length : Int) ≤ a then a - (l.length : Int) else -1) := by
  have hm : (l.length : Int) ≤ 9223372036854775807 := by have : maxLen ≤ 9223372036854775807 := (by decide); omega
  have hw : wrap64 (a - (l.length : Int)) = a - l.length := by unfold wrap64; omega
  unfold laws_szRoutine.f laws_szInstrS.f
  rw [hw]
  by_cases h : (l.length : Int) ≤ a
  · rw [if_pos h, if_neg (by omega)]
    simp only [Option.bind_some]
    rw [if_neg (by omega)]
  · rw [if_neg h, if_pos (by omega)]; rfl
theorem szRoutineS_from (l : List S117) (hl : l.length ≤ 1048576) (hm : ∀ x ∈ l, x.f0.length ≤ maxLen) : ∀ (d k i : Nat) (a : Int), l.length - i ≤ d → d < k → i ≤ l.length → 0 ≤ a → a ≤ 1048576 → ∃ t, laws_szRoutineS.l0 k l a (i : Int) = some t ∧ (¬ t < 0 → ∀ j (hj : j < l.length), i ≤ j → l[j].f0.length ≤ 1048576) := by
  intro d
  induction d with
  | zero =>
    intro k i a hd hk hi h0 h1
    obtain ⟨k, rfl⟩ : ∃ m, k = m + 1 := ⟨k - 1, by omega⟩
    refine ⟨a, ?_, fun _ j hj hij => by omega⟩
    simp only [laws_szRoutineS.l0]
    rw [if_neg (by omega)]
  | succ d ih =>
    intro k i a hd hk hi h0 h1
    obtain ⟨k, rfl⟩ : ∃ m, k = m + 1 := ⟨k - 1, by omega⟩
    by_cases h : i < l.length
    · have hw : wrap64 ((i : Int) + 1) = ((i + 1 : Nat) : Int) := by unfold wrap64; omega
      have e : rd_T117 l (i : Int) = l[i] := by simp [rd_T117, List.getD_eq_getElem?_getD, h]
      simp only [laws_szRoutineS.l0]
      rw [if_pos (by omega), if_pos (by omega), e, szRoutine_eq _ (hm _ (List.getElem_mem h)) a h0 h1]
      simp only [Option.bind_some]
      by_cases c : (l[i].f0.length : Int) ≤ a
      · obtain ⟨t, ht, hq⟩ := ih k (i + 1) (a - l[i].f0.length) (by omega) (by omega) (by omega) (by omega) (by omega)
        rw [if_pos c, if_neg (by omega), hw]
        refine ⟨t, ht, fun hn j hj hij => ?_⟩
        by_cases hji : j = i
        · subst hji; omega
        · exact hq hn j hj (by omega)
      · rw [if_neg c, if_pos (by omega)]
        exact ⟨-1, rfl, fun hn => absurd (by omega) hn⟩
    · refine ⟨a, ?_, fun _ j hj hij => by omega⟩
      simp only [laws_szRoutineS.l0]
      rw [if_neg (by omega)]
theorem szRoutineS_cases (l : List S117) (hl : l.length ≤ maxLen) (hm : ∀ x ∈ l, x.f0.length ≤ maxLen) (k : Nat) (hk : 1048577 < k) : ∃ t, laws_szRoutineS.f k l 1048576 = some t ∧ (¬ t < 0 → l.length ≤ 1048576 ∧ ∀ x ∈ l, x.f0.length ≤ 1048576) := by
  have hmx : (l.length : Int) ≤ 9223372036854775807 := by have : maxLen ≤ 9223372036854775807 := (by decide); omega
  have hw : wrap64 (1048576 - (l.length : Int)) = 1048576 - l.length := by unfold wrap64; omega
  unfold laws_szRoutineS.f
  rw [hw]
  by_cases h : (l.length : Int) ≤ 1048576
  · obtain ⟨t, ht, hq⟩ := szRoutineS_from l (by omega) hm l.length k 0 (1048576 - l.length) (by omega) (by omega) (by omega) (by omega) (by omega)
    rw [if_neg (by omega)]
    refine ⟨t, ht, fun hn => ⟨by omega, fun x hx => ?_⟩⟩
    obtain ⟨j, hj, rfl⟩ := List.getElem_of_mem hx
    exact hq hn j hj (by omega)
  · rw [if_pos (by omega)]
    exact ⟨-1, rfl, fun hn => absurd (by omega) hn⟩

theorem impl_all_Routine_areRoutines_1_from (p : S124 → Bool) (K : Nat) (l : List S124) (hF : ∀ (k : Nat) (x : S124), K ≤ k → x ∈ l → impl_areRoutines_1.f k x.f0 = some (p x)) (hl : l.length ≤ 1048576) : ∀ (d k i : Nat), l.length - i ≤ d → d + K < k → i ≤ l.length →
    ∃ j, impl_all_Routine_areRoutines_1.l0 k l (i : Int) = some j ∧ (!(decide (0 ≤ j))) = (l.drop i).all p := by
  intro d
  induction d with
  | zero =>
    intro k i hd hk hi
    obtain ⟨k, rfl⟩ : ∃ m, k = m + 1 := ⟨k - 1, by omega⟩
    refine ⟨-1, ?_, ?_⟩
    · simp only [impl_all_Routine_areRoutines_1.l0]
      rw [if_neg (by omega)]
    · rw [List.drop_of_length_le (by omega)]
      rfl
  | succ d ih =>
    intro k i hd hk hi
    obtain ⟨k, rfl⟩ : ∃ m, k = m + 1 := ⟨k - 1, by omega⟩
    by_cases h : i < l.length
    · have e : rd_T124 l (i : Int) = l[i] := by simp [rd_T124, List.getD_eq_getElem?_getD, h]
      have hw : wrap64 ((i : Int) + 1) = ((i + 1 : Nat) : Int) := by unfold wrap64; omega
      obtain ⟨j, hj, hp⟩ := ih k (i + 1) (by omega) (by omega) (by omega)
      have hx := hF k l[i] (by omega) (List.getElem_mem h)
      rw [List.drop_eq_getElem_cons h, List.all_cons]
      simp only [impl_all_Routine_areRoutines_1.l0]
      rw [if_pos (by omega), if_pos (by omega), e, hw, hx]
      simp only [Option.bind_some]
      cases p l[i] with
      | true => exact ⟨j, by rw [if_pos rfl]; exact hj, by simpa using hp⟩
      | false => exact ⟨(i : Int), by rw [if_neg (by decide)], by simp⟩
    · refine ⟨-1, ?_, ?_⟩
      · simp only [impl_all_Routine_areRoutines_1.l0]
        rw [if_neg (by omega)]
      · rw [List.drop_of_length_le (by omega)]
        rfl
theorem impl_all_Routine_areRoutines_1_eq (p : S124 → Bool) (K : Nat) (l : List S124) (hF : ∀ (k : Nat) (x : S124), K ≤ k → x ∈ l → impl_areRoutines_1.f k x.f0 = some (p x)) (hl : l.length ≤ 1048576) (k : Nat) (hk : l.length + K < k) : impl_all_Routine_areRoutines_1.f k l = some (l.all p) := by
  obtain ⟨j, hj, hp⟩ := impl_all_Routine_areRoutines_1_from p K l hF hl l.length k 0 (by omega) (by omega) (by omega)
  unfold impl_all_Routine_areRoutines_1.f
  have hj' : impl_all_Routine_areRoutines_1.l0 k l 0 = some j := hj
  rw [hj']
  simp only [Option.bind_some]
  rw [hp]
  rfl

def routB (x : S124) : Bool := decide (x.f0.length ≤ 40) && x.f0.all insB
theorem areRoutines_eq (l : List S124) (l1 : List Int) (hl : l.length ≤ 1048576) (h1 : l1.length ≤ 1048576) (hm : ∀ x ∈ l, x.f0.length ≤ 1048576) (k : Nat) (hk : l.length + l1.length + 1048600 < k) :
    impl_areRoutines.f k l l1 = some ((decide (l1.length ≤ 8) && l1.all kindB) && (decide (l.length ≤ 6) && l.all routB)) := by
  unfold impl_areRoutines.f
  rw [areKinds_eq l1 h1 k (by omega)]
  simp only [Option.bind_some]
  cases (decide (l1.length ≤ 8) && l1.all kindB)
  · rfl
  · simp only [if_true, Bool.true_and]
    by_cases h : l.length ≤ 6
    · rw [if_pos (by omega), decide_eq_true h, impl_all_Routine_areRoutines_1_eq routB 1048590 l (fun k x hk hx => by
        unfold impl_areRoutines_1.f
        rw [isCode_eq _ (hm x hx) k (by have := hm x hx; omega)]; rfl) hl k (by omega)]
      rfl
    · rw [if_neg (by omega), decide_eq_false h]; rfl
theorem l04Routines_from (l : List S124) (hl : l.length ≤ 1048576) (hm : ∀ x ∈ l, x.f0.length ≤ 1048576) : ∀ (d k i : Nat), l.length - i ≤ d → d + 1048590 < k → i ≤ l.length → spec_l04Routines.l0 k l (i : Int) = some ((l.drop i).all routB) := by
  intro d
  induction d with
  | zero =>
    intro k i hd hk hi
    obtain ⟨k, rfl⟩ : ∃ m, k = m + 1 := ⟨k - 1, by omega⟩
    simp only [spec_l04Routines.l0]
    rw [if_neg (by omega), List.drop_of_length_le (by omega)]
    rfl
  | succ d ih =>
    intro k i hd hk hi
    obtain ⟨k, rfl⟩ : ∃ m, k = m + 1 := ⟨k - 1, by omega⟩
    simp only [spec_l04Routines.l0]
    by_cases h : i < l.length
    · have e : rd_T124 l (i : Int) = l[i] := by simp [rd_T124, List.getD_eq_getElem?_getD, h]
      have hw : wrap64 ((i : Int) + 1) = ((i + 1 : Nat) : Int) := by unfold wrap64; omega
      rw [if_pos (by omega), if_pos (by omega), e, hw, ih k (i + 1) (by omega) (by omega) (by omega), List.drop_eq_getElem_cons h, List.all_cons]
      unfold routB
      by_cases c : l[i].f0.length ≤ 40
      · rw [if_neg (by omega), decide_eq_true c, l02All_eq _ (by omega) _ (by omega)]
        simp only [Option.bind_some, Bool.true_and]
        cases l[i].f0.all insB <;> rfl
      · rw [if_pos (by omega), decide_eq_false c]; rfl
    · rw [if_neg (by omega), List.drop_of_length_le (by omega)]
      rfl
theorem l04Routines_eq (l : List S124) (hl : l.length ≤ 1048576) (hm : ∀ x ∈ l, x.f0.length ≤ 1048576) (k : Nat) (hk : l.length + 1048590 < k) : spec_l04Routines.f k l = some (decide (l.length ≤ 6) && l.all routB) := by
  unfold spec_l04Routines.f
  by_cases h : l.length ≤ 6
  · have := l04Routines_from l hl hm l.length k 0 (by omega) hk (by omega)
    rw [if_neg (by omega), decide_eq_true h]
    simpa using this
  · rw [if_pos (by omega), decide_eq_false h]; rfl
theorem verify_ok {x : S124} {l1 : List Int} (h1 : l1.all kindB = true) (h : routB x = true) (a : Int) : ∃ r, spec_l04Verify.f x.f0 l1 a = some r ∧ ∃ q, impl_verify.f x.f0 l1 a = some (q, r) := by
  unfold routB at h
  simp only [Bool.and_eq_true, decide_eq_true_eq] at h
  have hp := ok_of_ins h.1 h1 h.2
  unfold spec_l04Verify.f impl_verify.f
  rw [if_pos hp, if_pos hp]
  have he := loop_eq l1 a x.f0 0 ⟨#[]⟩ [] [] [] trivial ⟨by decide, by decide, by simp⟩
  exact ⟨_, rfl, (vLoop l1 a x.f0 0 ⟨#[]⟩ [] []).1, by rw [← he]⟩
theorem verifyAll_from (l : List S124) (l1 : List Int) (hl : l.length ≤ 4096) (h1 : l1.all kindB = true) (hr : l.all routB = true) : ∀ (d k i : Nat), l.length - i ≤ d → d < k → i ≤ l.length →
    ∃ r, spec_l04All.l0 k l l1 (i : Int) = some r ∧ impl_verifyAll.l0 k l1 l (l.length : Int) (i : Int) = some r := by
  intro d
  induction d with
  | zero =>
    intro k i hd hk hi
    obtain ⟨k, rfl⟩ : ∃ m, k = m + 1 := ⟨k - 1, by omega⟩
    refine ⟨(0, 0, 0), ?_, ?_⟩
    · simp only [spec_l04All.l0]; rw [if_neg (by omega)]
    · simp only [impl_verifyAll.l0]; rw [if_neg (by omega)]
  | succ d ih =>
    intro k i hd hk hi
    obtain ⟨k, rfl⟩ : ∃ m, k = m + 1 := ⟨k - 1, by omega⟩
    by_cases h : i < l.length
    · have e : rd_T124 l (i : Int) = l[i] := by simp [rd_T124, List.getD_eq_getElem?_getD, h]
      have hw : wrap64 ((i : Int) + 1) = ((i + 1 : Nat) : Int) := by unfold wrap64; omega
      obtain ⟨r, hs, q, hi'⟩ := verify_ok h1 (List.all_eq_true.1 hr _ (List.getElem_mem h)) (i : Int)
      obtain ⟨r', g1, g2⟩ := ih k (i + 1) (by omega) (by omega) (by omega)
      simp only [spec_l04All.l0, impl_verifyAll.l0]
      rw [if_pos (by omega), if_pos (by omega), if_pos (by omega), if_pos (by omega), if_pos (by omega), e, hs, hi', hw]
      simp only [Option.bind_some]
      by_cases c : r.2 = 0
      · rw [if_pos c, if_pos c]; exact ⟨r', g1, g2⟩
      · rw [if_neg c, if_neg c]; exact ⟨_, rfl, rfl⟩
    · refine ⟨(0, 0, 0), ?_, ?_⟩
      · simp only [spec_l04All.l0]; rw [if_neg (by omega)]
      · simp only [impl_verifyAll.l0]; rw [if_neg (by omega)]
theorem verifyAll_same (l : List S124) (l1 : List Int) (hl : l.length ≤ 4096) (h1 : l1.all kindB = true) (hr : l.all routB = true) (k : Nat) (hk : l.length < k) :
    ∃ r, spec_l04All.f k l l1 = some r ∧ impl_verifyAll.f k l l1 = some r := by
  unfold spec_l04All.f impl_verifyAll.f
  exact verifyAll_from l l1 hl h1 hr l.length k 0 (by omega) hk (by omega)

theorem va_same (l : List S124) (l1 : List Int) (hl : l.length ≤ 1048576) (h1 : l1.length ≤ 1048576) (hm : ∀ x ∈ l, x.f0.length ≤ 1048576) (k : Nat) (hk : l.length + l1.length + 1048620 < k) :
    ∃ r, spec_VerifyAll.f k l l1 = some r ∧ impl_VerifyAll.f k l l1 = some r := by
  obtain ⟨k, rfl⟩ : ∃ m, k = m + 1 := ⟨k - 1, by omega⟩
  unfold spec_VerifyAll.f impl_VerifyAll.f impl_Routine_151.f impl_many_int.f
  simp only [when_eq, Option.bind_some]
  rw [areRoutines_eq l l1 hl h1 hm _ (by omega)]
  simp only [Option.bind_some]
  rw [first_eq _ (by simp) _ (by simp; omega)]
  simp only [Option.bind_some, fnz]
  by_cases c0 : 4096 < l.length
  · have e0 : (4096 : Int) < l.length := by omega
    refine ⟨(0, 0, 2), ?_, ?_⟩
    · rw [if_pos e0]; simp only [spec_VerifyAll.j0]; rfl
    · simp [e0]
  have e0 : ¬ (4096 : Int) < l.length := by omega
  by_cases c1 : 4096 < l1.length
  · have e1 : (4096 : Int) < l1.length := by omega
    refine ⟨(0, 0, 2), ?_, ?_⟩
    · rw [if_neg e0, decide_eq_true e1]; simp only [spec_VerifyAll.j0]; rfl
    · simp [e0, e1]
  have e1 : ¬ (4096 : Int) < l1.length := by omega
  rw [if_neg e0, decide_eq_false e1]
  have d0 : decide ((l.length : Int) > 4096) = false := decide_eq_false e0
  have d1 : decide ((l1.length : Int) > 4096) = false := decide_eq_false e1
  simp only [spec_VerifyAll.j0, Bool.false_eq_true, if_false, d0, d1, if_true]
  rw [l04Kinds_eq l1 h1 _ (by omega)]
  simp only [Option.bind_some]
  cases hkb : (decide (l1.length ≤ 8) && l1.all kindB)
  · refine ⟨(0, 0, 1), ?_, ?_⟩
    · rfl
    · simp
  · simp only [if_true, Bool.true_and]
    rw [l04Routines_eq l hl hm _ (by omega)]
    simp only [Option.bind_some]
    cases hrb : (decide (l.length ≤ 6) && l.all routB)
    · refine ⟨(0, 0, 1), ?_, ?_⟩
      · rfl
      · simp
    · simp only [Bool.and_eq_true] at hkb hrb
      obtain ⟨r, r1, _⟩ := verifyAll_same l l1 (by omega) hkb.2 hrb.2 k (by omega)
      obtain ⟨r', _, r2⟩ := verifyAll_same l l1 (by omega) hkb.2 hrb.2 (k + 1) (by omega)
      have hrr : r = r' := by
        have m := spec_l04All.mono l l1 k r r1
        obtain ⟨r3, r31, r32⟩ := verifyAll_same l l1 (by omega) hkb.2 hrb.2 (k + 1) (by omega)
        rw [r32] at r2
        rw [r31] at m
        injection m with m; injection r2 with r2
        rw [← m, r2]
      subst hrr
      refine ⟨r, ?_, ?_⟩
      · rw [if_pos rfl, r1]; rfl
      · simp only [Bool.not_true, Bool.false_eq_true, if_false, if_true]
        rw [r2]; rfl

theorem wrap_id {x : Int} (h1 : -9223372036854775808 ≤ x) (h2 : x ≤ 9223372036854775807) : wrap64 x = x := by unfold wrap64; omega

abbrev Sum5 := Int × Int × Int × Int × Int
def plusV (a b : Int) : Int := if a < 0 then -1 else if b < 0 then -1 else mn (a + b) 2147483647
def behindV (a b : Sum5) : Sum5 := (plusV a.1 b.1, plusV a.2.1 b.2.1, mx a.2.2.1 (plusV a.2.1 b.2.2.1), mx b.2.2.2.1 (plusV a.2.2.2.1 b.2.1), mx (mx a.2.2.2.2 b.2.2.2.2) (plusV a.2.2.2.1 b.2.2.1))
def InR (a : Int) : Prop := -1 ≤ a ∧ a ≤ 2147483647
def InV (s : Sum5) : Prop := InR s.1 ∧ InR s.2.1 ∧ InR s.2.2.1 ∧ InR s.2.2.2.1 ∧ InR s.2.2.2.2
theorem plus_in {a b : Int} (ha : InR a) (hb : InR b) : InR (plusV a b) := by
  unfold InR at *
  unfold plusV mn
  split
  · omega
  · split
    · omega
    · split <;> omega
theorem mx_in {a b : Int} (ha : InR a) (hb : InR b) : InR (mx a b) := by
  unfold InR at *
  unfold mx
  split <;> omega
theorem spec_plus {a b : Int} (ha : InR a) (hb : InR b) : spec_l05Plus.f a b = some (plusV a b) := by
  unfold InR at *
  unfold spec_l05Plus.f plusV
  split
  · rfl
  · split
    · rfl
    · have e : wrap64 (a + b) = a + b := by unfold wrap64; omega
      rw [e]
theorem impl_plus_ {a b : Int} (ha : InR a) (hb : InR b) : impl_plus.f a b = some (plusV a b) := by
  unfold InR at *
  unfold impl_plus.f plusV
  by_cases h : a = -1
  · rw [if_pos h, if_pos (show a < 0 by omega)]
  · rw [if_neg h]
    by_cases h2 : b = -1
    · rw [if_pos h2, if_neg (show ¬ a < 0 by omega), if_pos (show b < 0 by omega)]
    · have e : wrap64 (a + b) = a + b := by unfold wrap64; omega
      rw [if_neg h2, if_neg (show ¬ a < 0 by omega), if_neg (show ¬ b < 0 by omega), e]
theorem behind_in {a b : Sum5} (ha : InV a) (hb : InV b) : InV (behindV a b) := by
  obtain ⟨a0, a1, a2, a3, a4⟩ := ha
  obtain ⟨b0, b1, b2, b3, b4⟩ := hb
  exact ⟨plus_in a0 b0, plus_in a1 b1, mx_in a2 (plus_in a1 b2), mx_in b3 (plus_in a3 b1), mx_in (mx_in a4 b4) (plus_in a3 b2)⟩
theorem spec_behind {a b : Sum5} (ha : InV a) (hb : InV b) : spec_l05Behind.f a.1 a.2.1 a.2.2.1 a.2.2.2.1 a.2.2.2.2 b.1 b.2.1 b.2.2.1 b.2.2.2.1 b.2.2.2.2 = some (behindV a b) := by
  obtain ⟨a0, a1, a2, a3, a4⟩ := ha
  obtain ⟨b0, b1, b2, b3, b4⟩ := hb
  unfold spec_l05Behind.f
  rw [spec_plus a0 b0, spec_plus a1 b1, spec_plus a1 b2, spec_plus a3 b1, spec_plus a3 b2]
  rfl
theorem impl_behind1 {a b : Sum5} (ha : InV a) (hb : InV b) (k : Nat) (hk : 2 ≤ k) : impl_behind.f k a.1 a.2.1 a.2.2.1 a.2.2.2.1 a.2.2.2.2 [⟨b.1, b.2.1, b.2.2.1, b.2.2.2.1, b.2.2.2.2⟩] = some (behindV a b) := by
  obtain ⟨a0, a1, a2, a3, a4⟩ := ha
  obtain ⟨b0, b1, b2, b3, b4⟩ := hb
  obtain ⟨k, rfl⟩ : ∃ m, k = m + 2 := ⟨k - 2, by omega⟩
  unfold impl_behind.f
  have w0 : wrap64 ((0 : Int) + 1) = 1 := by unfold wrap64; omega
  simp only [impl_behind.l0, List.length_cons, List.length_nil, w0]
  have r0 : rd_T144 [(⟨b.1, b.2.1, b.2.2.1, b.2.2.2.1, b.2.2.2.2⟩ : S144)] 0 = ⟨b.1, b.2.1, b.2.2.1, b.2.2.2.1, b.2.2.2.2⟩ := rfl
  rw [r0]
  simp only [impl_plus_ a0 b0, impl_plus_ a1 b1, impl_plus_ a1 b2, impl_plus_ a3 b1, impl_plus_ a3 b2, Option.bind_some]
  simp [behindV]
theorem impl_behind2 {a b c : Sum5} (ha : InV a) (hb : InV b) (hc : InV c) (k : Nat) (hk : 3 ≤ k) :
    impl_behind.f k a.1 a.2.1 a.2.2.1 a.2.2.2.1 a.2.2.2.2 [⟨b.1, b.2.1, b.2.2.1, b.2.2.2.1, b.2.2.2.2⟩, ⟨c.1, c.2.1, c.2.2.1, c.2.2.2.1, c.2.2.2.2⟩] = some (behindV (behindV a b) c) := by
  have hab := behind_in ha hb
  obtain ⟨a0, a1, a2, a3, a4⟩ := ha
  obtain ⟨b0, b1, b2, b3, b4⟩ := hb
  obtain ⟨c0, c1, c2, c3, c4⟩ := hc
  obtain ⟨d0, d1, d2, d3, d4⟩ := hab
  obtain ⟨k, rfl⟩ : ∃ m, k = m + 3 := ⟨k - 3, by omega⟩
  unfold impl_behind.f
  have w0 : wrap64 ((0 : Int) + 1) = 1 := by unfold wrap64; omega
  have w1 : wrap64 ((1 : Int) + 1) = 2 := by unfold wrap64; omega
  simp only [impl_behind.l0, List.length_cons, List.length_nil, w0, w1]
  have r0 : rd_T144 [(⟨b.1, b.2.1, b.2.2.1, b.2.2.2.1, b.2.2.2.2⟩ : S144), ⟨c.1, c.2.1, c.2.2.1, c.2.2.2.1, c.2.2.2.2⟩] 0 = ⟨b.1, b.2.1, b.2.2.1, b.2.2.2.1, b.2.2.2.2⟩ := rfl
  have r1 : rd_T144 [(⟨b.1, b.2.1, b.2.2.1, b.2.2.2.1, b.2.2.2.2⟩ : S144), ⟨c.1, c.2.1, c.2.2.1, c.2.2.2.1, c.2.2.2.2⟩] 1 = ⟨c.1, c.2.1, c.2.2.1, c.2.2.2.1, c.2.2.2.2⟩ := rfl
  rw [r0, r1]
  simp only [impl_plus_ a0 b0, impl_plus_ a1 b1, impl_plus_ a1 b2, impl_plus_ a3 b1, impl_plus_ a3 b2, Option.bind_some]
  simp only [behindV] at d0 d1 d2 d3 d4
  simp only [impl_plus_ d0 c0, impl_plus_ d1 c1, impl_plus_ d1 c2, impl_plus_ d3 c1, impl_plus_ d3 c2, Option.bind_some]
  simp [behindV]
theorem one_in (n : Int) (h : 0 ≤ n ∧ n ≤ 2147483647) : InV (n, n, -1, -1, -1) := by
  unfold InV InR
  simp only
  omega

theorem plus_cases (a b : Int) : ((a < 0 ∨ b < 0) ∧ plusV a b = -1) ∨ (0 ≤ a ∧ 0 ≤ b ∧ a + b ≤ 2147483647 ∧ plusV a b = a + b) ∨ (0 ≤ a ∧ 0 ≤ b ∧ 2147483647 < a + b ∧ plusV a b = 2147483647) := by
  unfold plusV mn
  by_cases h1 : a < 0
  · rw [if_pos h1]; exact Or.inl ⟨Or.inl h1, rfl⟩
  · rw [if_neg h1]
    by_cases h2 : b < 0
    · rw [if_pos h2]; exact Or.inl ⟨Or.inr h2, rfl⟩
    · rw [if_neg h2]
      by_cases h3 : 2147483647 < a + b
      · rw [if_pos h3]; exact Or.inr (Or.inr ⟨by omega, by omega, h3, rfl⟩)
      · rw [if_neg h3]; exact Or.inr (Or.inl ⟨by omega, by omega, by omega, rfl⟩)
theorem mx_cases (a b : Int) : (a < b ∧ mx a b = b) ∨ (b ≤ a ∧ mx a b = a) := by
  unfold mx
  by_cases h : a < b
  · rw [if_pos h]; exact Or.inl ⟨h, rfl⟩
  · rw [if_neg h]; exact Or.inr ⟨by omega, rfl⟩
theorem plus_assoc_ (a b c : Int) : plusV (plusV a b) c = plusV a (plusV b c) := by
  have h1 := plus_cases a b
  have h2 := plus_cases b c
  have h3 := plus_cases (plusV a b) c
  have h4 := plus_cases a (plusV b c)
  omega
theorem plus_mx_r (a b c : Int) : plusV a (mx b c) = mx (plusV a b) (plusV a c) := by
  have h1 := plus_cases a b
  have h2 := plus_cases a c
  have h3 := plus_cases a (mx b c)
  have h4 := mx_cases b c
  have h5 := mx_cases (plusV a b) (plusV a c)
  omega
theorem plus_mx_l (a b c : Int) : plusV (mx a b) c = mx (plusV a c) (plusV b c) := by
  have h1 := plus_cases a c
  have h2 := plus_cases b c
  have h3 := plus_cases (mx a b) c
  have h4 := mx_cases a b
  have h5 := mx_cases (plusV a c) (plusV b c)
  omega
theorem mx_comm_ (a b : Int) : mx a b = mx b a := by
  have h1 := mx_cases a b
  have h2 := mx_cases b a
  omega
theorem mx_assoc_ (a b c : Int) : mx (mx a b) c = mx a (mx b c) := by
  have h1 := mx_cases a b
  have h2 := mx_cases b c
  have h3 := mx_cases (mx a b) c
  have h4 := mx_cases a (mx b c)
  omega
instance : Std.Associative mx := ⟨mx_assoc_⟩
instance : Std.Commutative mx := ⟨mx_comm_⟩
theorem behind_assoc (a b c : Sum5) : behindV (behindV a b) c = behindV a (behindV b c) := by
  simp only [behindV, plus_mx_r, plus_mx_l, plus_assoc_, Prod.mk.injEq]
  exact ⟨trivial, trivial, by ac_rfl, by ac_rfl, by ac_rfl⟩
def eitherV (a b : Sum5) : Sum5 := (mx a.1 b.1, mx a.2.1 b.2.1, mx a.2.2.1 b.2.2.1, mx a.2.2.2.1 b.2.2.2.1, mx a.2.2.2.2 b.2.2.2.2)

theorem times_from {a : Sum5} (ha : InV a) (n : Int) (hn : n ≤ 20) : ∀ (d k : Nat) (i : Int) (o : Sum5), 0 ≤ i → n - i ≤ d → d + 5 ≤ k → InV o →
    ∃ r : Sum5, spec_l05Times.l0 k n i a.1 a.2.1 a.2.2.1 a.2.2.2.1 a.2.2.2.2 o.1 o.2.1 o.2.2.1 o.2.2.2.1 o.2.2.2.2 = some r ∧ impl_repeated.l0 k n i a.1 a.2.1 a.2.2.1 a.2.2.2.1 a.2.2.2.2 o.1 o.2.1 o.2.2.1 o.2.2.2.1 o.2.2.2.2 = some r ∧ InV r := by
  intro d
  induction d with
  | zero =>
    intro k i o h0 hd hk ho
    obtain ⟨k, rfl⟩ : ∃ m, k = m + 1 := ⟨k - 1, by omega⟩
    simp only [spec_l05Times.l0, impl_repeated.l0]
    rw [if_neg (by omega), if_neg (by omega)]
    exact ⟨o, rfl, rfl, ho⟩
  | succ d ih =>
    intro k i o h0 hd hk ho
    obtain ⟨k, rfl⟩ : ∃ m, k = m + 1 := ⟨k - 1, by omega⟩
    simp only [spec_l05Times.l0, impl_repeated.l0]
    by_cases h : i < n
    · rw [if_pos h, if_pos h, spec_behind ho ha, impl_behind1 ho ha k (by omega)]
      simp only [Option.bind_some]
      have ew : wrap64 (i + 1) = i + 1 := by unfold wrap64; omega
      rw [ew]
      exact ih k (i + 1) (behindV o a) (by omega) (by omega) (by omega) (behind_in ho ha)
    · rw [if_neg h, if_neg h]
      exact ⟨o, rfl, rfl, ho⟩

abbrev Ins := S96
theorem match_same (l : List Ins) (hl : l.length ≤ 4096) : ∀ (k : Nat) (dep mid i : Int), 0 ≤ dep → dep ≤ i → 0 ≤ i → i ≤ l.length → 
    impl_match.l0 k l (dep + 1) mid i = spec_l04Match.l0 k l dep mid i := by
  intro k
  induction k using Nat.strongRecOn with
  | ind k ih =>
    intro dep mid i h0 h1 h2 h3
    cases k with
    | zero => rfl
    | succ k =>
      simp only [impl_match.l0, spec_l04Match.l0]
      by_cases hi : i < (l.length : Int)
      · rw [if_pos hi, if_pos hi, if_pos h2, if_pos h2]
        have hw : wrap64 (i + 1) = i + 1 := by unfold wrap64; omega
        have hd : wrap64 (dep + 1) = dep + 1 := by unfold wrap64; omega
        have hd2 : wrap64 (dep + 1 + 1) = dep + 1 + 1 := by unfold wrap64; omega
        have hd3 : wrap64 (dep + 1 - 1) = dep := by unfold wrap64; omega
        have hd4 : wrap64 (dep - 1) = dep - 1 := by unfold wrap64; omega
        have body : ∀ (o : Int) (b : Bool), impl_match.j1 k l (dep + 1) mid i o b = spec_l04Match.j1 k l dep mid i o b := by
          intro o b
          cases k with
          | zero => rfl
          | succ k =>
            simp only [impl_match.j1, spec_l04Match.j1]
            rw [hw, hd, hd2, hd3, hd4]
            have a1 := ih k (by omega) (dep + 1) mid (i + 1) (by omega) (by omega) (by omega) (by omega)
            have a2 := ih k (by omega) dep i (i + 1) (by omega) (by omega) (by omega) (by omega)
            have a3 := ih k (by omega) dep mid (i + 1) (by omega) (by omega) (by omega) (by omega)
            rw [a1, a2, a3]
            cases b
            · simp only [Bool.false_eq_true, if_false]
              by_cases o2 : o = 22
              · rw [if_pos o2, if_pos o2]
                by_cases d0 : dep = 0
                · rw [if_pos (show dep + 1 = 1 by omega), if_pos d0]
                · rw [if_neg (show ¬ dep + 1 = 1 by omega), if_neg d0]
              · rw [if_neg o2, if_neg o2]
                by_cases o3 : o = 23
                · rw [if_pos o3, if_pos o3]
                  by_cases d0 : dep = 0
                  · rw [if_pos d0, if_pos d0]
                  · rw [if_neg d0, if_neg d0]
                    have a4 := ih k (by omega) (dep - 1) mid (i + 1) (by omega) (by omega) (by omega) (by omega)
                    rw [show dep - 1 + 1 = dep by omega] at a4
                    rw [a4]
                · rw [if_neg o3, if_neg o3]
            · rfl
        rw [body, body]
      · rw [if_neg hi, if_neg hi]
theorem match_ends (l : List Ins) (hl : l.length ≤ 4096) : ∀ (d k : Nat) (dep mid i : Int), (l.length : Int) - i ≤ d → 2 * d + 1 < k → 0 ≤ i → ∃ r, spec_l04Match.l0 k l dep mid i = some r := by
  intro d
  induction d with
  | zero =>
    intro k dep mid i hd hk h2
    obtain ⟨k, rfl⟩ : ∃ m, k = m + 1 := ⟨k - 1, by omega⟩
    simp only [spec_l04Match.l0]
    rw [if_neg (by omega)]
    exact ⟨_, rfl⟩
  | succ d ih =>
    intro k dep mid i hd hk h2
    obtain ⟨k, rfl⟩ : ∃ m, k = m + 1 + 1 := ⟨k - 2, by omega⟩
    by_cases hi : i < (l.length : Int)
    · conv => rhs; intro r; lhs; unfold spec_l04Match.l0
      rw [if_pos hi, if_pos h2]
      have hw : wrap64 (i + 1) = i + 1 := by unfold wrap64; omega
      have nx : ∀ dep mid, ∃ r, spec_l04Match.l0 k l dep mid (i + 1) = some r := fun dep mid => ih k dep mid (i + 1) (by omega) (by omega) (by omega)
      have body : ∀ (o : Int) (b : Bool), ∃ r, spec_l04Match.j1 (k + 1) l dep mid i o b = some r := by
        intro o b
        simp only [spec_l04Match.j1]
        rw [hw]
        split
        · exact nx _ _
        · split
          · split
            · exact nx _ _
            · exact nx _ _
          · split
            · split
              · exact ⟨_, rfl⟩
              · exact nx _ _
            · exact nx _ _
      split
      · exact body _ _
      · exact body _ _
    · simp only [spec_l04Match.l0]
      rw [if_neg hi]
      exact ⟨_, rfl⟩

theorem match_start (l : List Ins) (hl : l.length ≤ 4096) (k : Nat) (a : Int) (h0 : 0 ≤ a) (h1 : a < l.length) (ho : (rd_T96 l a).f0 = 21 ∨ (rd_T96 l a).f0 = 24) :
    impl_match.f (k + 1 + 1) l a = spec_l04Match.f k l a := by
  have hw : wrap64 (a + 1) = a + 1 := by unfold wrap64; omega
  have h := match_same l hl k 0 0 (a + 1) (by omega) (by omega) (by omega) (by omega)
  unfold impl_match.f spec_l04Match.f
  rw [hw, ← h]
  conv => lhs; unfold impl_match.l0
  rw [if_pos h1, if_pos h0]
  rcases ho with ho | ho
  · rw [if_pos ho, ho]
    simp only [impl_match.j1]
    rw [hw, show wrap64 (0 + 1) = 0 + 1 by unfold wrap64; omega]
    exact if_pos rfl
  · have hn : ¬ (rd_T96 l a).f0 = 21 := by rw [ho]; decide
    rw [if_neg hn, ho]
    simp only [impl_match.j1]
    rw [hw, show wrap64 (0 + 1) = 0 + 1 by unfold wrap64; omega]
    exact if_pos rfl

theorem match_bound (l : List Ins) : ∀ (k : Nat) (dep mid i : Int) (r : Int × Int × Bool), 0 ≤ i → (i ≤ l.length) → l.length ≤ 4096 → spec_l04Match.l0 k l dep mid i = some r →
    r = (0, 0, false) ∨ (i ≤ r.2.1 ∧ r.2.1 < l.length ∧ (r.1 = mid ∨ (i ≤ r.1 ∧ r.1 < l.length))) := by
  intro k
  induction k using Nat.strongRecOn with
  | ind k ih =>
    intro dep mid i r h0 h1 hl h
    cases k with
    | zero => simp only [spec_l04Match.l0] at h; cases h
    | succ k =>
      simp only [spec_l04Match.l0] at h
      by_cases hi : i < (l.length : Int)
      · rw [if_pos hi, if_pos h0] at h
        have hw : wrap64 (i + 1) = i + 1 := by unfold wrap64; omega
        have nx : ∀ k', k' < k + 1 → ∀ dep mid', (mid' = mid ∨ mid' = i) → spec_l04Match.l0 k' l dep mid' (i + 1) = some r → r = (0, 0, false) ∨ (i ≤ r.2.1 ∧ r.2.1 < l.length ∧ (r.1 = mid ∨ (i ≤ r.1 ∧ r.1 < l.length))) := by
          intro k' hk dep mid' hm h'
          rcases ih k' hk dep mid' (i + 1) r (by omega) (by omega) hl h' with e | ⟨e1, e2, e3⟩
          · exact .inl e
          · exact .inr ⟨by omega, e2, by omega⟩
        have body : ∀ (o : Int) (b : Bool), spec_l04Match.j1 k l dep mid i o b = some r → r = (0, 0, false) ∨ (i ≤ r.2.1 ∧ r.2.1 < l.length ∧ (r.1 = mid ∨ (i ≤ r.1 ∧ r.1 < l.length))) := by
          intro o b h
          cases k with
          | zero => simp only [spec_l04Match.j1] at h; cases h
          | succ k =>
            simp only [spec_l04Match.j1] at h
            rw [hw] at h
            split at h
            · exact nx k (by omega) _ _ (.inl rfl) h
            · split at h
              · split at h
                · exact nx k (by omega) _ _ (.inr rfl) h
                · exact nx k (by omega) _ _ (.inl rfl) h
              · split at h
                · split at h
                  · obtain rfl := Option.some.inj h
                    exact .inr ⟨Int.le_refl _, hi, .inl rfl⟩
                  · exact nx k (by omega) _ _ (.inl rfl) h
                · exact nx k (by omega) _ _ (.inl rfl) h
        split at h
        · exact body _ _ h
        · exact body _ _ h
      · rw [if_neg hi] at h
        obtain rfl := Option.some.inj h
        exact .inl rfl
/-- What both say of an if or a repeat. -/
theorem match_r (l : List Ins) (hl : l.length ≤ 4096) (a : Int) (h0 : 0 ≤ a) (h1 : a < l.length) (ho : (rd_T96 l a).f0 = 21 ∨ (rd_T96 l a).f0 = 24) :
    ∃ r : Int × Int × Bool, (0 ≤ r.1 ∧ r.1 < l.length ∧ 0 ≤ r.2.1 ∧ r.2.1 < l.length ∧ (r.1 > 0 → a < r.2.1)) ∧ ∀ k, 2 * l.length + 10 ≤ k → spec_l04Match.f k l a = some r ∧ impl_match.f k l a = some r := by
  obtain ⟨r, hr⟩ := match_ends l hl l.length (2 * l.length + 2) 0 0 (a + 1) (by omega) (by omega) (by omega)
  have hw : wrap64 (a + 1) = a + 1 := by unfold wrap64; omega
  have hs : ∀ k, 2 * l.length + 2 ≤ k → spec_l04Match.f k l a = some r := by
    intro k hk
    unfold spec_l04Match.f
    rw [hw]
    induction k with
    | zero => omega
    | succ k ih =>
      by_cases e : k + 1 = 2 * l.length + 2
      · rw [e]; exact hr
      · exact (spec_l04Match.mono_l k).1 _ _ _ _ _ (ih (by omega))
  refine ⟨r, ?_, fun k hk => ⟨hs k (by omega), ?_⟩⟩
  · rcases match_bound l _ _ _ _ _ (by omega) (by omega) hl hr with e | ⟨e1, e2, e3⟩
    · subst e
      exact ⟨by decide, by show (0 : Int) < _; omega, by decide, by show (0 : Int) < _; omega, fun h => absurd h (by decide)⟩
    · exact ⟨by omega, by omega, by omega, e2, fun _ => by omega⟩
  · obtain ⟨k, rfl⟩ : ∃ m, k = m + 1 + 1 := ⟨k - 2, by omega⟩
    rw [match_start l hl k a h0 h1 ho]
    exact hs k (by omega)

theorem cost_same (k : Nat) (hk : 1 ≤ k) (a : Int) : ∃ c, (0 ≤ c ∧ c ≤ 4) ∧ spec_l02Cost.f k a = some c ∧ impl_cost.f k a = some c := by
  obtain ⟨k, rfl⟩ : ∃ m, k = m + 1 := ⟨k - 1, by omega⟩
  unfold spec_l02Cost.f impl_cost.f
  simp only [spec_l02Cost.j0, impl_cost.j0]
  repeat' split
  all_goals first
    | exact ⟨_, by omega, rfl, rfl⟩
    | (exfalso; simp_all; done)
    | (exfalso; omega)
theorem one_same (n : Int) (h : 0 ≤ n ∧ n ≤ 2147483647) (b : Bool) : ∃ v : Sum5, InV v ∧ spec_l05One.f n b = some v ∧ impl_oneCost.f n b = some v := by
  unfold spec_l05One.f impl_oneCost.f
  cases b
  · exact ⟨(n, n, -1, -1, -1), one_in n h, rfl, rfl⟩
  · refine ⟨(n, -1, n, 0, -1), ?_, rfl, rfl⟩
    unfold InV InR
    simp only
    omega
theorem either_in {a b : Sum5} (ha : InV a) (hb : InV b) : InV (eitherV a b) :=
  ⟨mx_in ha.1 hb.1, mx_in ha.2.1 hb.2.1, mx_in ha.2.2.1 hb.2.2.1, mx_in ha.2.2.2.1 hb.2.2.2.1, mx_in ha.2.2.2.2 hb.2.2.2.2⟩
theorem spec_either_ (a b : Sum5) : spec_l05Either.f a.1 a.2.1 a.2.2.1 a.2.2.2.1 a.2.2.2.2 b.1 b.2.1 b.2.2.1 b.2.2.2.1 b.2.2.2.2 = some (eitherV a b) := rfl
theorem impl_either_ (a b : Sum5) : impl_either.f a.1 a.2.1 a.2.2.1 a.2.2.2.1 a.2.2.2.2 b.1 b.2.1 b.2.2.1 b.2.2.2.1 b.2.2.2.2 = some (eitherV a b) := rfl
theorem times_same {a : Sum5} (ha : InV a) (n : Int) (hn : n ≤ 20) : ∃ r : Sum5, InV r ∧ ∀ k, 100 ≤ k → spec_l05Times.f k a.1 a.2.1 a.2.2.1 a.2.2.2.1 a.2.2.2.2 n = some r ∧ impl_repeated.f k a.1 a.2.1 a.2.2.1 a.2.2.2.1 a.2.2.2.2 n = some r := by
  obtain ⟨z, z0, z1, z2⟩ := one_same 0 (by omega) false
  obtain ⟨r, r1, r2, r3⟩ := times_from ha n hn 20 100 0 z (by omega) (by omega) (by omega) z0
  refine ⟨r, r3, fun k hk => ?_⟩
  unfold spec_l05Times.f impl_repeated.f
  rw [z1, z2]
  simp only [Option.bind_some]
  obtain ⟨q, q1, q2, q3⟩ := times_from ha n hn 20 k 0 z (by omega) (by omega) (by omega) z0
  have e : q = r := by
    have up : ∀ d, spec_l05Times.l0 (100 + d) n 0 a.1 a.2.1 a.2.2.1 a.2.2.2.1 a.2.2.2.2 z.1 z.2.1 z.2.2.1 z.2.2.2.1 z.2.2.2.2 = some r := by
      intro d
      induction d with
      | zero => exact r1
      | succ d ih => exact spec_l05Times.mono_l (100 + d) n 0 a.1 a.2.1 a.2.2.1 a.2.2.2.1 a.2.2.2.2 z.1 z.2.1 z.2.2.1 z.2.2.2.1 z.2.2.2.2 r ih
    have h := up (k - 100)
    rw [show 100 + (k - 100) = k by omega, q1] at h
    exact Option.some.inj h
  rw [e] at q1 q2
  exact ⟨q1, q2⟩
def CodeFit (l : List S96) (n : Nat) : Prop := l.length ≤ 4096 ∧ ∀ i : Nat, ∀ h : i < l.length, (l[i].f0 = 26 → 0 ≤ l[i].f1 ∧ l[i].f1 < n) ∧ (l[i].f0 = 24 → l[i].f1 ≤ 20) ∧
  ((l[i].f0 = 21 ∨ l[i].f0 = 24) → ∃ r : Int × Int × Bool, ((i : Int) < r.2.1 ∧ r.2.1 < l.length ∧ (r.1 > 0 → (i : Int) < r.1 ∧ r.1 < l.length)) ∧ ∀ k, 2 * l.length + 10 ≤ k → spec_l04Match.f k l (i : Int) = some r ∧ impl_match.f k l (i : Int) = some r)
def KnownIn (K : List S144) : Prop := ∀ y ∈ K, InV (y.f0, y.f1, y.f2, y.f3, y.f4)
theorem part_from (l : List S96) (K : List S144) (hf : CodeFit l K.length) (hK : KnownIn K) : ∀ (N pos : Nat), l.length - pos ≤ N → ∀ (tt : Int), tt ≤ l.length → ∀ v : Sum5, InV v →
    ∃ r : Sum5, InV r ∧ ∀ k, 4 * N + 9000 < k → spec_l05Part.l0 k l tt K (pos : Int) v.1 v.2.1 v.2.2.1 v.2.2.2.1 v.2.2.2.2 = some r ∧ impl_summarize.l0 k l tt K (pos : Int) v.1 v.2.1 v.2.2.1 v.2.2.2.1 v.2.2.2.2 1 1 (-1) (-1) (-1) = some r := by
  intro N
  induction N with
  | zero =>
    intro pos hp tt ht v hv
    refine ⟨v, hv, fun k hk => ?_⟩
    obtain ⟨k, rfl⟩ : ∃ m, k = m + 1 := ⟨k - 1, by omega⟩
    unfold spec_l05Part.l0 impl_summarize.l0
    rw [if_neg (by omega), if_neg (by omega)]
    exact ⟨rfl, rfl⟩
  | succ N ih =>
    intro pos hp tt ht v hv
    by_cases c : (pos : Int) < tt
    case neg =>
      refine ⟨v, hv, fun k hk => ?_⟩
      obtain ⟨k, rfl⟩ : ∃ m, k = m + 1 := ⟨k - 1, by omega⟩
      unfold spec_l05Part.l0 impl_summarize.l0
      rw [if_neg c, if_neg c]
      exact ⟨rfl, rfl⟩
    have hp' : pos < l.length := by omega
    have hw : wrap64 ((pos : Int) + 1) = ((pos + 1 : Nat) : Int) := by have := hf.1; unfold wrap64; omega
    have e : rd_T96 l (pos : Int) = l[pos] := by simp [rd_T96, List.getD_eq_getElem?_getD, hp']
    obtain ⟨f26, f24, fm⟩ := hf.2 pos hp'
    obtain ⟨cc, hc, hc1, _⟩ := cost_same 1 (by omega) l[pos].f0
    have hcost : ∀ k, 1 ≤ k → spec_l02Cost.f k l[pos].f0 = some cc ∧ impl_cost.f k l[pos].f0 = some cc := by
      intro k hk
      obtain ⟨d, hd, h1, h2⟩ := cost_same k hk l[pos].f0
      have : d = cc := by
        obtain ⟨m, rfl⟩ : ∃ m, k = 1 + m := ⟨k - 1, by omega⟩
        have up : ∀ m, spec_l02Cost.f (1 + m) l[pos].f0 = some cc := by
          intro m
          induction m with
          | zero => exact hc1
          | succ m ih => exact spec_l02Cost.mono l[pos].f0 (1 + m) cc ih
        have := up m
        rw [h1] at this
        exact Option.some.inj this
      rw [this] at h1 h2
      exact ⟨h1, h2⟩
    obtain ⟨o, ho, o1, o2⟩ := one_same cc (by omega) (l[pos].f0 == 25)
    obtain ⟨z, z0, z1, z2⟩ := one_same 0 (by omega) false
    obtain ⟨u, u0, u1, u2⟩ := one_same 1 (by omega) false
    have hu : u = (1, 1, -1, -1, -1) := by unfold spec_l05One.f at u1; simp at u1; exact u1.symm
    have part : ∀ q : Nat, pos < q → ∀ t : Int, t ≤ l.length → ∃ r : Sum5, InV r ∧ ∀ k, 4 * N + 9001 < k → spec_l05Part.f k l (q : Int) t K = some r ∧ impl_summarize.f k l (q : Int) t K = some r := by
      intro q hq t htt
      obtain ⟨r, r0, hr⟩ := ih q (by omega) t htt z z0
      refine ⟨r, r0, fun k hk => ?_⟩
      obtain ⟨k, rfl⟩ : ∃ m, k = m + 1 := ⟨k - 1, by omega⟩
      unfold spec_l05Part.f impl_summarize.f
      rw [z1, z2, u2, hu]
      simp only [Option.bind_some]
      exact hr k (by omega)
    have next : ∀ q : Nat, pos < q → ∀ s : Sum5, InV s → ∃ r : Sum5, InV r ∧ ∀ k, 4 * N + 9000 < k → spec_l05Part.l0 k l tt K (q : Int) s.1 s.2.1 s.2.2.1 s.2.2.2.1 s.2.2.2.2 = some r ∧ impl_summarize.l0 k l tt K (q : Int) s.1 s.2.1 s.2.2.1 s.2.2.2.1 s.2.2.2.2 1 1 (-1) (-1) (-1) = some r := fun q hq s hs => ih q (by omega) tt ht s hs
    have ub : ∀ (s : Sum5), InV s → ∀ k, 2 ≤ k → impl_behind.f k s.1 s.2.1 s.2.2.1 s.2.2.2.1 s.2.2.2.2 [⟨1, 1, -1, -1, -1⟩] = some (behindV s u) := by
      intro s hs k hk
      have := impl_behind1 hs u0 k hk
      rw [hu] at this ⊢
      exact this
    have p0 : (0 : Int) ≤ (pos : Int) := by omega
    have p1 : (pos : Int) < (l.length : Int) := by omega
    have hl := hf.1
    by_cases c26 : l[pos].f0 = 26
    · obtain ⟨a0, a1⟩ := f26 c26
      obtain ⟨y, hyd⟩ : ∃ y, rd_T144 K l[pos].f1 = y := ⟨_, rfl⟩
      have hy : InV (y.f0, y.f1, y.f2, y.f3, y.f4) := by
        refine hK y ?_
        rw [← hyd]
        have : l[pos].f1.toNat < K.length := by omega
        simp [rd_T144, List.getD_eq_getElem?_getD, this]
      have b1 : spec_l05Behind.f o.1 o.2.1 o.2.2.1 o.2.2.2.1 o.2.2.2.2 y.f0 y.f1 y.f2 y.f3 y.f4 = some (behindV o (y.f0, y.f1, y.f2, y.f3, y.f4)) := spec_behind ho hy
      have b2 : ∀ k, 2 ≤ k → impl_behind.f k (behindV v o).1 (behindV v o).2.1 (behindV v o).2.2.1 (behindV v o).2.2.2.1 (behindV v o).2.2.2.2 [⟨y.f0, y.f1, y.f2, y.f3, y.f4⟩] = some (behindV (behindV v o) (y.f0, y.f1, y.f2, y.f3, y.f4)) := fun k hk => impl_behind1 (behind_in hv ho) hy k hk
      obtain ⟨r, r0, hr⟩ := next (pos + 1) (by omega) (behindV v (behindV o (y.f0, y.f1, y.f2, y.f3, y.f4))) (behind_in hv (behind_in ho hy))
      refine ⟨r, r0, fun k hk => ?_⟩
      obtain ⟨k, rfl⟩ : ∃ m, k = m + 1 := ⟨k - 1, by omega⟩
      obtain ⟨g1, g2⟩ := hr k (by omega)
      unfold spec_l05Part.l0 impl_summarize.l0
      rw [if_pos c, if_pos p0, if_pos p1, if_pos c, if_pos p0, if_pos p1]
      simp only [e, (hcost k (by omega)).1, (hcost k (by omega)).2, o1, o2, Option.bind_some, if_pos c26, if_pos a0, if_pos a1, hyd, b1, hw]
      rw [impl_behind1 hv ho k (by omega), spec_behind hv (behind_in ho hy)]
      simp only [Option.bind_some]
      rw [b2 k (by omega), behind_assoc]
      simp only [Option.bind_some]
      exact ⟨g1, g2⟩
    by_cases c21 : l[pos].f0 = 21
    · obtain ⟨m, ⟨m1, m2, m3⟩, hm⟩ := fm (Or.inl c21)
      obtain ⟨en, hen⟩ : ∃ n : Nat, m.2.1 = n := ⟨m.2.1.toNat, by omega⟩
      have hwn : wrap64 (m.2.1 + 1) = ((en + 1 : Nat) : Int) := by rw [hen]; unfold wrap64; omega
      obtain ⟨C, C0, hC⟩ := part (pos + 1) (by omega) m.2.1 (by omega)
      by_cases cm : m.1 > 0
      · obtain ⟨q1, q2⟩ := m3 cm
        obtain ⟨el, hel⟩ : ∃ n : Nat, m.1 = n := ⟨m.1.toNat, by omega⟩
        have hwe : wrap64 (m.1 + 1) = ((el + 1 : Nat) : Int) := by rw [hel]; unfold wrap64; omega
        obtain ⟨A, A0, hA⟩ := part (pos + 1) (by omega) m.1 (by omega)
        obtain ⟨B, B0, hB⟩ := part (el + 1) (by omega) m.2.1 (by omega)
        have hE := either_in (behind_in A0 u0) (behind_in B0 u0)
        obtain ⟨r, r0, hr⟩ := next (en + 1) (by omega) (behindV v (behindV o (eitherV (behindV A u) (behindV B u)))) (behind_in hv (behind_in ho hE))
        refine ⟨r, r0, fun k hk => ?_⟩
        obtain ⟨k, rfl⟩ : ∃ m, k = m + 1 := ⟨k - 1, by omega⟩
        obtain ⟨g1, g2⟩ := hr k (by omega)
        unfold spec_l05Part.l0 impl_summarize.l0
        rw [if_pos c, if_pos p0, if_pos p1, if_pos c, if_pos p0, if_pos p1]
        simp only [e, (hcost k (by omega)).1, (hcost k (by omega)).2, o1, o2, u1, z2, Option.bind_some, if_neg c26, if_pos c21, (hm k (by omega)).1, (hm k (by omega)).2, if_pos cm, hw, hwe, hwn, (hA k (by omega)).1, (hA k (by omega)).2, (hB k (by omega)).1, (hB k (by omega)).2, (hC k (by omega)).2]
        rw [impl_behind1 hv ho k (by omega)]
        simp only [Option.bind_some, spec_behind A0 u0, spec_behind B0 u0, ub A A0 k (by omega), ub B B0 k (by omega), spec_either_, impl_either_, spec_behind ho hE, spec_behind hv (behind_in ho hE), impl_behind1 (behind_in hv ho) hE k (by omega)]
        rw [behind_assoc]
        exact ⟨g1, g2⟩
      · have hE := either_in (behind_in C0 u0) z0
        obtain ⟨r, r0, hr⟩ := next (en + 1) (by omega) (behindV v (behindV o (eitherV (behindV C u) z))) (behind_in hv (behind_in ho hE))
        refine ⟨r, r0, fun k hk => ?_⟩
        obtain ⟨k, rfl⟩ : ∃ m, k = m + 1 := ⟨k - 1, by omega⟩
        obtain ⟨g1, g2⟩ := hr k (by omega)
        unfold spec_l05Part.l0 impl_summarize.l0
        rw [if_pos c, if_pos p0, if_pos p1, if_pos c, if_pos p0, if_pos p1]
        simp only [e, (hcost k (by omega)).1, (hcost k (by omega)).2, o1, o2, u1, z1, z2, Option.bind_some, if_neg c26, if_pos c21, (hm k (by omega)).1, (hm k (by omega)).2, if_neg cm, hw, hwn, (hC k (by omega)).1, (hC k (by omega)).2]
        rw [impl_behind1 hv ho k (by omega)]
        simp only [Option.bind_some, spec_behind C0 u0, ub C C0 k (by omega), spec_either_, impl_either_, spec_behind ho hE, spec_behind hv (behind_in ho hE), impl_behind1 (behind_in hv ho) hE k (by omega)]
        rw [behind_assoc]
        exact ⟨g1, g2⟩
    by_cases c24 : l[pos].f0 = 24
    · obtain ⟨m, ⟨m1, m2, _⟩, hm⟩ := fm (Or.inr c24)
      obtain ⟨en, hen⟩ : ∃ n : Nat, m.2.1 = n := ⟨m.2.1.toNat, by omega⟩
      have hwn : wrap64 (m.2.1 + 1) = ((en + 1 : Nat) : Int) := by rw [hen]; unfold wrap64; omega
      obtain ⟨C, C0, hC⟩ := part (pos + 1) (by omega) m.2.1 (by omega)
      obtain ⟨T, T0, hT⟩ := times_same (behind_in C0 u0) l[pos].f1 (f24 c24)
      obtain ⟨r, r0, hr⟩ := next (en + 1) (by omega) (behindV v (behindV o T)) (behind_in hv (behind_in ho T0))
      refine ⟨r, r0, fun k hk => ?_⟩
      obtain ⟨k, rfl⟩ : ∃ m, k = m + 1 := ⟨k - 1, by omega⟩
      obtain ⟨g1, g2⟩ := hr k (by omega)
      unfold spec_l05Part.l0 impl_summarize.l0
      rw [if_pos c, if_pos p0, if_pos p1, if_pos c, if_pos p0, if_pos p1]
      simp only [e, (hcost k (by omega)).1, (hcost k (by omega)).2, o1, o2, u1, Option.bind_some, if_neg c26, if_neg c21, if_pos c24, (hm k (by omega)).1, (hm k (by omega)).2, hw, hwn, (hC k (by omega)).1, (hC k (by omega)).2]
      rw [impl_behind1 hv ho k (by omega)]
      simp only [Option.bind_some, spec_behind C0 u0, ub C C0 k (by omega), (hT k (by omega)).1, (hT k (by omega)).2, spec_behind ho T0, spec_behind hv (behind_in ho T0), impl_behind1 (behind_in hv ho) T0 k (by omega)]
      rw [behind_assoc]
      exact ⟨g1, g2⟩
    obtain ⟨r, r0, hr⟩ := next (pos + 1) (by omega) (behindV v o) (behind_in hv ho)
    refine ⟨r, r0, fun k hk => ?_⟩
    obtain ⟨k, rfl⟩ : ∃ m, k = m + 1 := ⟨k - 1, by omega⟩
    obtain ⟨g1, g2⟩ := hr k (by omega)
    unfold spec_l05Part.l0 impl_summarize.l0
    rw [if_pos c, if_pos p0, if_pos p1, if_pos c, if_pos p0, if_pos p1]
    simp only [e, (hcost k (by omega)).1, (hcost k (by omega)).2, o1, o2, Option.bind_some, if_neg c26, if_neg c21, if_neg c24, hw]
    rw [impl_behind1 hv ho k (by omega), spec_behind hv ho]
    simp only [Option.bind_some]
    exact ⟨g1, g2⟩
theorem part_same (l : List S96) (K : List S144) (hf : CodeFit l K.length) (hK : KnownIn K) : ∃ r : Sum5, InV r ∧ ∀ k, 30000 < k → spec_l05Part.f k l 0 (l.length : Int) K = some r ∧ impl_summarize.f k l 0 (l.length : Int) K = some r := by
  obtain ⟨z, z0, z1, z2⟩ := one_same 0 (by omega) false
  obtain ⟨u, u0, u1, u2⟩ := one_same 1 (by omega) false
  have hu : u = (1, 1, -1, -1, -1) := by unfold spec_l05One.f at u1; simp at u1; exact u1.symm
  have hl := hf.1
  obtain ⟨r, r0, hr⟩ := part_from l K hf hK l.length 0 (by omega) l.length (by omega) z z0
  refine ⟨r, r0, fun k hk => ?_⟩
  obtain ⟨k, rfl⟩ : ∃ m, k = m + 1 := ⟨k - 1, by omega⟩
  unfold spec_l05Part.f impl_summarize.f
  rw [z1, z2, u2, hu]
  simp only [Option.bind_some]
  exact hr k (by omega)
theorem costs_from (rs : List S124) (hn : rs.length ≤ 4096) (hall : ∀ j : Nat, ∀ h : j < rs.length, CodeFit rs[j].f0 j) : ∀ (d j : Nat) (K : List S144), rs.length - j ≤ d → j ≤ rs.length → K.length = j → KnownIn K →
    ∃ R : List S144, R.length = rs.length ∧ ∀ k, 30000 + d < k → spec_l05Costs.l0 k rs K (j : Int) = some R ∧ impl_costsOf.l0 k K rs (rs.length : Int) (j : Int) = some R := by
  intro d
  induction d with
  | zero =>
    intro j K hd hj hk hi
    refine ⟨K, by omega, fun k hk => ?_⟩
    obtain ⟨k, rfl⟩ : ∃ m, k = m + 1 := ⟨k - 1, by omega⟩
    unfold spec_l05Costs.l0 impl_costsOf.l0
    rw [if_neg (by omega), if_neg (by omega)]
    exact ⟨rfl, rfl⟩
  | succ d ih =>
    intro j K hd hj hk hi
    by_cases h : j < rs.length
    case neg =>
      obtain ⟨R, R0, hR⟩ := ih j K (by omega) hj hk hi
      exact ⟨R, R0, fun k hk => hR k (by omega)⟩
    have hw : wrap64 ((j : Int) + 1) = ((j + 1 : Nat) : Int) := by unfold wrap64; omega
    have e : rd_T124 rs (j : Int) = rs[j] := by simp [rd_T124, List.getD_eq_getElem?_getD, h]
    obtain ⟨r, r0, hr⟩ := part_same rs[j].f0 K (by rw [hk]; exact hall j h) hi
    obtain ⟨R, R0, hR⟩ := ih (j + 1) (K ++ [⟨r.1, r.2.1, r.2.2.1, r.2.2.2.1, r.2.2.2.2⟩]) (by omega) (by omega) (by simp [hk]) (by
      intro y hy
      rcases List.mem_append.1 hy with m | m
      · exact hi y m
      · have : y = ⟨r.1, r.2.1, r.2.2.1, r.2.2.2.1, r.2.2.2.2⟩ := by simpa using m
        rw [this]; exact r0)
    refine ⟨R, R0, fun k hk => ?_⟩
    obtain ⟨k, rfl⟩ : ∃ m, k = m + 1 := ⟨k - 1, by omega⟩
    obtain ⟨g1, g2⟩ := hR k (by omega)
    obtain ⟨t1, t2⟩ := hr k (by omega)
    have q0 : (0 : Int) ≤ (j : Int) := by omega
    have q1 : (j : Int) < (rs.length : Int) := by omega
    have q2 : K.length < 3518437208883 := by omega
    unfold spec_l05Costs.l0 impl_costsOf.l0
    simp only [if_pos q0, if_pos q1, if_pos q2, e, t1, t2, Option.bind_some, hw]
    exact ⟨g1, g2⟩
theorem costs_same (rs : List S124) (hn : rs.length ≤ 4096) (hall : ∀ j : Nat, ∀ h : j < rs.length, CodeFit rs[j].f0 j) : ∃ R : List S144, R.length = rs.length ∧ ∀ k, 40000 < k → spec_l05Costs.f k rs = some R ∧ impl_costsOf.f k rs = some R := by
  obtain ⟨R, R0, hR⟩ := costs_from rs hn hall rs.length 0 [] (by omega) (by omega) rfl (by intro y hy; simp at hy)
  refine ⟨R, R0, fun k hk => ?_⟩
  unfold spec_l05Costs.f impl_costsOf.f
  exact hR k (by omega)

theorem sStep_len {ks : List Int} {R at_ op a : Int} {S : ByteArray} {O : List SO} (h : (sStep ks R at_ op a S O).1 = 0) :
    ((op = 21 ∨ op = 24) → (sStep ks R at_ op a S O).2.2.length = O.length + 1) ∧ (op = 22 → (sStep ks R at_ op a S O).2.2.length = O.length) ∧ (op = 23 → (sStep ks R at_ op a S O).2.2.length + 1 = O.length) ∧ (¬ (21 ≤ op ∧ op ≤ 24) → (sStep ks R at_ op a S O).2.2 = O) ∧ (op = 26 → a < R) := by
  unfold sStep at h ⊢
  split at h
  · (simp at h; done)
  split at h
  · (simp at h; done)
  rename_i n1 n2
  rw [if_neg n1, if_neg n2]
  split at h
  · (simp at h; done)
  rename_i n3
  rw [if_neg n3]
  split at h
  case isFalse => (simp at h; done)
  rename_i n4
  rw [if_pos n4]
  split at h
  case isFalse => (simp at h; done)
  rename_i n5
  rw [if_pos n5]
  have h26 : op = 26 → a < R := fun e => by
    have : ¬ R ≤ a := fun g => n2 ⟨e, g⟩
    omega
  split at h
  case isFalse n6 =>
    rw [if_neg n6]
    exact ⟨fun e => absurd (by omega) n6, fun e => absurd (by omega) n6, fun e => absurd (by omega) n6, fun _ => rfl, h26⟩
  rename_i n6
  rw [if_pos n6]
  refine ⟨?_, ?_, ?_, fun e => absurd n6 e, h26⟩ <;> intro e <;> simp only at h ⊢ <;> unfold sNest at h ⊢
  · rw [if_pos e] at h ⊢
    split at h
    · (simp at h; done)
    · rename_i n7; rw [if_neg n7]; simp
  · rw [if_neg (by omega)] at h ⊢
    cases O with
    | nil => (simp at h; done)
    | cons o P =>
      simp only at h ⊢
      split at h
      · (simp at h; done)
      · rename_i n7
        rw [if_neg n7]
        split at h
        · rename_i n8; rw [if_pos n8, if_pos e]; simp
        · (simp at h; done)
  · rw [if_neg (by omega)] at h ⊢
    cases O with
    | nil => (simp at h; done)
    | cons o P =>
      simp only at h ⊢
      split at h
      · (simp at h; done)
      · rename_i n7
        rw [if_neg n7]
        split at h
        · rename_i n8; rw [if_pos n8, if_neg (by omega)]; simp
        · (simp at h; done)
theorem match_found (ks : List Int) (R : Int) (l : List S96) (hl : l.length ≤ 4096) : ∀ (k : Nat) (dep mid : Int) (i : Nat) (r : Int × Int × Bool) (at_ x : Int) (S : ByteArray) (O : List SO), i ≤ l.length → sLoop ks R (l.drop i) at_ S O = (x, 0) → 0 ≤ dep → dep < O.length → dep ≤ i → spec_l04Match.l0 k l dep mid (i : Int) = some r → r.2.2 = true := by
  intro k
  induction k using Nat.strongRecOn with
  | ind k ih =>
    intro dep mid i r at_ x S O hi hs h0 h1 hO h
    cases k with
    | zero => simp only [spec_l04Match.l0] at h; cases h
    | succ k =>
      by_cases hil : i < l.length
      case neg =>
        rw [List.drop_of_length_le (by omega)] at hs
        cases O with
        | nil => simp at h1; omega
        | cons o P => simp [sLoop] at hs
      have e : rd_T96 l (i : Int) = l[i] := by simp [rd_T96, List.getD_eq_getElem?_getD, hil]
      have hw : wrap64 ((i : Int) + 1) = ((i + 1 : Nat) : Int) := by unfold wrap64; omega
      rw [List.drop_eq_getElem_cons hil, sLoop] at hs
      by_cases hz : (sStep ks R at_ l[i].f0 l[i].f1 S O).1 = 0
      case neg => rw [if_neg hz] at hs; exact absurd (congrArg Prod.snd hs) hz
      rw [if_pos hz] at hs
      obtain ⟨g1, g2, g3, g4, _⟩ := sStep_len hz
      simp only [spec_l04Match.l0] at h
      rw [if_pos (by omega), if_pos (by omega), e] at h
      have nx : ∀ k', k' < k + 1 → ∀ (dep' mid' : Int), 0 ≤ dep' → dep' < (sStep ks R at_ l[i].f0 l[i].f1 S O).2.2.length → dep' ≤ i + 1 → spec_l04Match.l0 k' l dep' mid' ((i + 1 : Nat) : Int) = some r → r.2.2 = true := fun k' hk dep' mid' d0 d1 d2 h' =>
        ih k' hk dep' mid' (i + 1) r _ x _ _ (by omega) hs d0 d1 (by omega) h'
      have body : ∀ b : Bool, (b = true ↔ (l[i].f0 = 21 ∨ l[i].f0 = 24)) → spec_l04Match.j1 k l dep mid (i : Int) l[i].f0 b = some r → r.2.2 = true := by
        intro b hb h
        cases k with
        | zero => simp only [spec_l04Match.j1] at h; cases h
        | succ k =>
          simp only [spec_l04Match.j1] at h
          rw [hw] at h
          by_cases cb : b = true
          · rw [if_pos cb] at h
            have := g1 (hb.1 cb)
            have hw2 : wrap64 (dep + 1) = dep + 1 := by unfold wrap64; omega
            rw [hw2] at h
            exact nx k (by omega) _ _ (by omega) (by omega) (by omega) h
          rw [if_neg cb] at h
          have n21 : ¬ (l[i].f0 = 21 ∨ l[i].f0 = 24) := fun e => cb (hb.2 e)
          by_cases c22 : l[i].f0 = 22
          · have := g2 c22
            rw [if_pos c22] at h
            split at h
            · exact nx k (by omega) _ _ (by omega) (by omega) (by omega) h
            · exact nx k (by omega) _ _ (by omega) (by omega) (by omega) h
          rw [if_neg c22] at h
          by_cases c23 : l[i].f0 = 23
          · have := g3 c23
            rw [if_pos c23] at h
            split at h
            · obtain rfl := Option.some.inj h; rfl
            · have hw2 : wrap64 (dep - 1) = dep - 1 := by unfold wrap64; omega
              rw [hw2] at h
              exact nx k (by omega) _ _ (by omega) (by omega) (by omega) h
          rw [if_neg c23] at h
          have := g4 (by omega)
          exact nx k (by omega) _ _ (by omega) (by rw [this]; omega) (by omega) h
      by_cases c21 : l[i].f0 = 21
      · rw [if_pos c21] at h
        exact body _ (by simp [c21]) h
      · rw [if_neg c21] at h
        exact body _ (by simp [c21]) h
theorem loop_at (ks : List Int) (R : Int) (l : List S96) (x : Int) (h : ∃ at_ S O, sLoop ks R l at_ S O = (x, 0)) : ∀ i : Nat, i ≤ l.length → ∃ at_ S O, sLoop ks R (l.drop i) at_ S O = (x, 0) := by
  intro i
  induction i with
  | zero => intro _; simpa using h
  | succ i ih =>
    intro hi
    obtain ⟨at_, S, O, hs⟩ := ih (by omega)
    have hil : i < l.length := by omega
    rw [List.drop_eq_getElem_cons hil, sLoop] at hs
    by_cases hz : (sStep ks R at_ l[i].f0 l[i].f1 S O).1 = 0
    · rw [if_pos hz] at hs
      exact ⟨_, _, _, hs⟩
    · rw [if_neg hz] at hs
      exact absurd (congrArg Prod.snd hs) hz
theorem fit_of_loop (ks : List Int) (j : Nat) (l : List S96) (hl : l.length ≤ 4096) (hins : l.all insB = true) (at_ : Int) (S : ByteArray) (O : List SO) (x : Int) (h : sLoop ks (j : Int) l at_ S O = (x, 0)) : CodeFit l j := by
  refine ⟨hl, fun i hi => ?_⟩
  obtain ⟨at1, S1, O1, hs⟩ := loop_at ks j l x ⟨_, _, _, h⟩ i (by omega)
  have hb := List.all_eq_true.1 hins l[i] (List.getElem_mem hi)
  unfold insB instrb at hb
  have hb := of_decide_eq_true hb
  rw [List.drop_eq_getElem_cons hi, sLoop] at hs
  by_cases hz : (sStep ks j at1 l[i].f0 l[i].f1 S1 O1).1 = 0
  case neg => rw [if_neg hz] at hs; exact absurd (congrArg Prod.snd hs) hz
  rw [if_pos hz] at hs
  obtain ⟨g1, g2, g3, g4, g5⟩ := sStep_len hz
  refine ⟨fun e => ?_, fun e => ?_, fun e => ?_⟩
  · rw [e] at hb
    have h2 : 0 ≤ l[i].f1 ∧ l[i].f1 ≤ 5 := hb.2
    exact ⟨h2.1, g5 e⟩
  · rw [e] at hb
    have h2 : 1 ≤ l[i].f1 ∧ l[i].f1 ≤ 20 := hb.2
    exact h2.2
  · have er : rd_T96 l (i : Int) = l[i] := by simp [rd_T96, List.getD_eq_getElem?_getD, hi]
    obtain ⟨r, _, hr⟩ := match_r l hl (i : Int) (by omega) (by omega) (by rw [er]; exact e)
    have hw : wrap64 ((i : Int) + 1) = ((i + 1 : Nat) : Int) := by unfold wrap64; omega
    have h0 := (hr (2 * l.length + 10) (by omega)).1
    unfold spec_l04Match.f at h0
    rw [hw] at h0
    have hO := g1 e
    have ht := match_found ks j l hl _ 0 0 (i + 1) r _ x _ _ (by omega) hs (by omega) (by omega) (by omega) h0
    refine ⟨r, ?_, hr⟩
    rcases match_bound l _ _ _ _ _ (by omega) (by omega) hl h0 with e0 | ⟨e1, e2, e3⟩
    · rw [e0] at ht; cases ht
    · exact ⟨by omega, e2, fun c => by omega⟩

theorem all_fit (l : List S124) (l1 : List Int) (hl : l.length ≤ 4096) (hr : l.all routB = true) : ∀ (k j : Nat) (r : Int × Int × Int), j ≤ l.length → spec_l04All.l0 k l l1 (j : Int) = some r → r.2.2 = 0 → ∀ i, j ≤ i → ∀ h : i < l.length, CodeFit l[i].f0 i := by
  intro k
  induction k with
  | zero => intro j r hj h; simp only [spec_l04All.l0] at h; cases h
  | succ k ih =>
    intro j r hj h h0 i hji hi
    have hjl : j < l.length := by omega
    have e : rd_T124 l (j : Int) = l[j] := by simp [rd_T124, List.getD_eq_getElem?_getD, hjl]
    have hw : wrap64 ((j : Int) + 1) = ((j + 1 : Nat) : Int) := by unfold wrap64; omega
    simp only [spec_l04All.l0] at h
    rw [if_pos (by omega), if_pos (by omega), e, hw] at h
    unfold spec_l04Verify.f at h
    split at h
    case isFalse => simp at h
    rename_i hc
    simp only [Option.bind_some] at h
    by_cases hz : (sLoop l1 (j : Int) l[j].f0 0 ⟨#[]⟩ []).2 = 0
    · rw [if_pos hz] at h
      by_cases hij : i = j
      · subst hij
        have hb := List.all_eq_true.1 hr l[i] (List.getElem_mem hi)
        have hb' : l[i].f0.length ≤ 40 ∧ l[i].f0.all insB = true := by simpa [routB] using hb
        exact fit_of_loop l1 i l[i].f0 hc.1 hb'.2 0 ⟨#[]⟩ [] (sLoop l1 (i : Int) l[i].f0 0 ⟨#[]⟩ []).1 (Prod.ext rfl hz)
      · exact ih (j + 1) r (by omega) h h0 i (by omega) hi
    · rw [if_neg hz] at h
      obtain rfl := Option.some.inj h
      exact absurd h0 hz
theorem va_fit (l : List S124) (l1 : List Int) (hl : l.length ≤ 1048576) (h1 : l1.length ≤ 1048576) (hm : ∀ x ∈ l, x.f0.length ≤ 1048576) (k : Nat) (hk : l.length + l1.length + 1048620 < k) (r : Int × Int × Int) (h : spec_VerifyAll.f k l l1 = some r) (h0 : r.2.2 = 0) :
    l.length ≤ 4096 ∧ l1.length ≤ 4096 ∧ ∀ i : Nat, ∀ h : i < l.length, CodeFit l[i].f0 i := by
  obtain ⟨k, rfl⟩ : ∃ m, k = m + 1 := ⟨k - 1, by omega⟩
  unfold spec_VerifyAll.f at h
  by_cases c0 : 4096 < l.length
  · have e0 : (4096 : Int) < l.length := by omega
    rw [if_pos e0] at h
    simp only [spec_VerifyAll.j0, if_true] at h
    obtain rfl := Option.some.inj h
    exact absurd h0 (by decide)
  have e0 : ¬ (4096 : Int) < l.length := by omega
  by_cases c1 : 4096 < l1.length
  · have e1 : (4096 : Int) < l1.length := by omega
    rw [if_neg e0, decide_eq_true e1] at h
    simp only [spec_VerifyAll.j0, if_true] at h
    obtain rfl := Option.some.inj h
    exact absurd h0 (by decide)
  have e1 : ¬ (4096 : Int) < l1.length := by omega
  refine ⟨by omega, by omega, ?_⟩
  rw [if_neg e0, decide_eq_false e1] at h
  simp only [spec_VerifyAll.j0, Bool.false_eq_true, if_false] at h
  rw [l04Kinds_eq l1 h1 _ (by omega)] at h
  simp only [Option.bind_some] at h
  cases hkb : (decide (l1.length ≤ 8) && l1.all kindB)
  · rw [hkb] at h
    simp only [Bool.false_eq_true, if_false] at h
    obtain rfl := Option.some.inj h
    exact absurd h0 (by decide)
  · rw [hkb] at h
    simp only [if_true] at h
    rw [l04Routines_eq l hl hm _ (by omega)] at h
    simp only [Option.bind_some] at h
    cases hrb : (decide (l.length ≤ 6) && l.all routB)
    · rw [hrb] at h
      simp only [Bool.false_eq_true, if_false] at h
      obtain rfl := Option.some.inj h
      exact absurd h0 (by decide)
    · rw [hrb] at h
      simp only [if_true] at h
      simp only [Bool.and_eq_true] at hrb
      obtain ⟨q, hq, hqr⟩ := Option.bind_eq_some_iff.1 h
      obtain rfl : q = r := Option.some.inj hqr
      have h' : spec_l04All.l0 k l l1 ((0 : Nat) : Int) = some q := hq
      exact fun i hi => all_fit l l1 (by omega) hrb.2 k 0 q (by omega) h' h0 i (by omega) hi

theorem markIntB_from : ∀ (d k i : Nat) (l : List Int) (a b : Int), l.length - i ≤ d → d < k → i ≤ l.length → l.length ≤ 1048576 → 0 ≤ a → a ≤ 4611686018427387904 → b = a + i → (∀ j : Nat, j < i → l[j]? = some (a + j)) →
    ∃ l', laws_markIntS.l0 k l b (i : Int) = some (a + l.length, l') ∧ l'.length = l.length ∧ ∀ j : Nat, j < l.length → l'[j]? = some (a + j) := by
  intro d
  induction d with
  | zero =>
    intro k i l a b hd hk hi hl h0 h1 hb hA
    obtain ⟨k, rfl⟩ : ∃ m, k = m + 1 := ⟨k - 1, by omega⟩
    simp only [laws_markIntS.l0]
    rw [if_neg (by omega)]
    have e : i = l.length := by omega
    subst e
    exact ⟨l, by rw [hb], rfl, hA⟩
  | succ d ih =>
    intro k i l a b hd hk hi hl h0 h1 hb hA
    obtain ⟨k, rfl⟩ : ∃ m, k = m + 1 := ⟨k - 1, by omega⟩
    simp only [laws_markIntS.l0]
    by_cases h : i < l.length
    · have hw : wrap64 ((i : Int) + 1) = ((i + 1 : Nat) : Int) := by unfold wrap64; omega
      have hw2 : wrap64 (b + 1) = b + 1 := by unfold wrap64; omega
      rw [if_pos (by omega), if_pos (by omega), hw, hw2, Int.toNat_natCast]
      have hs := ih k (i + 1) (l.set i b) a (b + 1) (by simp; omega) (by omega) (by simp; omega) (by simpa using hl) h0 h1 (by omega) (fun j hj => by
        rw [List.getElem?_set]
        by_cases hji : i = j
        · subst hji
          rw [if_pos rfl, if_pos h, hb]
        · rw [if_neg hji]
          exact hA j (by omega))
      simpa using hs
    · rw [if_neg (by omega)]
      have e : i = l.length := by omega
      subst e
      exact ⟨l, by rw [hb], rfl, hA⟩
theorem markIntB_eq (l : List Int) (hl : l.length ≤ 1048576) (a : Int) (h0 : 0 ≤ a) (h1 : a ≤ 4611686018427387904) (k : Nat) (hk : l.length < k) :
    ∃ l', laws_markIntS.f k l a = some (a + l.length, l') ∧ l'.length = l.length ∧ ∀ j : Nat, j < l.length → l'[j]? = some (a + j) :=
  markIntB_from l.length k 0 l a a (by omega) hk (by omega) hl h0 h1 (by simp) (fun j hj => by omega)

theorem eqSu_refl (a b c d e : Int) : laws_eqSummary.f a b c d e a b c d e = some true := by
  unfold laws_eqSummary.f
  simp
theorem eqSuS_from (l : List S144) (hl : l.length ≤ 1048576) : ∀ (d k i : Nat), l.length - i ≤ d → d < k → i ≤ l.length → laws_eqSummaryS.l0 k l l (i : Int) = some true := by
  intro d
  induction d with
  | zero =>
    intro k i hd hk hi
    obtain ⟨k, rfl⟩ : ∃ m, k = m + 1 := ⟨k - 1, by omega⟩
    simp only [laws_eqSummaryS.l0]
    rw [if_neg (by omega)]
  | succ d ih =>
    intro k i hd hk hi
    obtain ⟨k, rfl⟩ : ∃ m, k = m + 1 := ⟨k - 1, by omega⟩
    simp only [laws_eqSummaryS.l0]
    by_cases h : i < l.length
    · have hw : wrap64 ((i : Int) + 1) = ((i + 1 : Nat) : Int) := by unfold wrap64; omega
      rw [hw, ih k (i + 1) (by omega) (by omega) (by omega), eqSu_refl]
      rw [if_pos (by omega), if_pos (by omega), if_pos (by omega)]
      rfl
    · rw [if_neg (by omega)]
theorem eqSuS_eq (l : List S144) (hl : l.length ≤ 1048576) (k : Nat) (hk : l.length < k) : laws_eqSummaryS.f k l l = some true := by
  unfold laws_eqSummaryS.f
  rw [if_pos rfl]
  have h := eqSuS_from l hl l.length k 0 (by omega) hk (by omega)
  simpa using h

def mSu (a : Int) : S144 := ⟨a, a + 1, a + 2, a + 3, a + 4⟩
theorem markSu_from (n : Nat) (a : Int) (h0 : 0 ≤ a) (h1 : a ≤ 100000000) (hn1 : n ≤ 1048576) : ∀ (d k i : Nat) (l : List S144), l.length = n → n - i ≤ d → d < k → i ≤ n → (∀ j : Nat, j < i → l[j]? = some (mSu (a + 5 * j))) →
    ∃ l', laws_markSummaryS.l0 k l (a + 5 * i) (i : Int) = some (a + 5 * n, l') ∧ l'.length = n ∧ ∀ j : Nat, j < n → l'[j]? = some (mSu (a + 5 * j)) := by
  intro d
  induction d with
  | zero =>
    intro k i l hn hd hk hi hA
    obtain ⟨k, rfl⟩ : ∃ m, k = m + 1 := ⟨k - 1, by omega⟩
    simp only [laws_markSummaryS.l0]
    rw [if_neg (by omega)]
    have e : i = n := by omega
    subst e
    exact ⟨l, rfl, hn, hA⟩
  | succ d ih =>
    intro k i l hn hd hk hi hA
    obtain ⟨k, rfl⟩ : ∃ m, k = m + 1 := ⟨k - 1, by omega⟩
    simp only [laws_markSummaryS.l0]
    by_cases h : i < n
    · have hw : wrap64 ((i : Int) + 1) = ((i + 1 : Nat) : Int) := by unfold wrap64; omega
      have e1 : wrap64 (a + 5 * i + 1) = a + 5 * i + 1 := by unfold wrap64; omega
      have e2 : wrap64 (a + 5 * i + 1 + 1) = a + 5 * i + 2 := by unfold wrap64; omega
      have e3 : wrap64 (a + 5 * i + 2 + 1) = a + 5 * i + 3 := by unfold wrap64; omega
      have e4 : wrap64 (a + 5 * i + 3 + 1) = a + 5 * i + 4 := by unfold wrap64; omega
      have e5 : wrap64 (a + 5 * i + 4 + 1) = a + 5 * ((i + 1 : Nat) : Int) := by unfold wrap64; omega
      rw [if_pos (by omega), if_pos (by omega)]
      simp only [Option.bind_some, hw, e1, e2, e3, e4, e5]
      refine ih k (i + 1) _ (by simpa using hn) (by omega) (by omega) (by omega) (fun j hj => ?_)
      have hil : i < l.length := by omega
      by_cases hji : i = j
      · subst hji
        simp [rd_T144, List.getD_eq_getElem?_getD, hil, mSu]
      · have := hA j (by omega)
        simp only [Int.toNat_natCast, List.getElem?_set, if_neg hji]
        exact this
    · rw [if_neg (by omega)]
      have e : i = n := by omega
      subst e
      exact ⟨l, rfl, hn, hA⟩
theorem markSu_eq (l : List S144) (hl : l.length ≤ 1048576) (a : Int) (h0 : 0 ≤ a) (h1 : a ≤ 100000000) (k : Nat) (hk : l.length < k) :
    ∃ l', laws_markSummaryS.f k l a = some (a + 5 * l.length, l') ∧ l'.length = l.length ∧ ∀ j : Nat, j < l.length → l'[j]? = some (mSu (a + 5 * j)) := by
  have h := markSu_from l.length a h0 h1 hl l.length k 0 l rfl (by omega) hk (by omega) (fun j hj => by omega)
  unfold laws_markSummaryS.f
  simpa using h
theorem heldSu_from (l : List S144) (hl : l.length ≤ 1048576) (a : Int) (h0 : 0 ≤ a) (h1 : a ≤ 100000000) (hA : ∀ j : Nat, j < l.length → l[j]? = some (mSu (a + 5 * j))) : ∀ (d k i : Nat), l.length - i ≤ d → d < k → i ≤ l.length → laws_heldSummaryS.l0 k l (a + 5 * i) (i : Int) = some (a + 5 * l.length) := by
  intro d
  induction d with
  | zero =>
    intro k i hd hk hi
    obtain ⟨k, rfl⟩ : ∃ m, k = m + 1 := ⟨k - 1, by omega⟩
    simp only [laws_heldSummaryS.l0]
    rw [if_neg (by omega)]
    have e : i = l.length := by omega
    rw [e]
  | succ d ih =>
    intro k i hd hk hi
    obtain ⟨k, rfl⟩ : ∃ m, k = m + 1 := ⟨k - 1, by omega⟩
    simp only [laws_heldSummaryS.l0]
    by_cases h : i < l.length
    · have hw : wrap64 ((i : Int) + 1) = ((i + 1 : Nat) : Int) := by unfold wrap64; omega
      have e1 : wrap64 (a + 5 * i + 1) = a + 5 * i + 1 := by unfold wrap64; omega
      have e2 : wrap64 (a + 5 * i + 1 + 1) = a + 5 * i + 2 := by unfold wrap64; omega
      have e3 : wrap64 (a + 5 * i + 2 + 1) = a + 5 * i + 3 := by unfold wrap64; omega
      have e4 : wrap64 (a + 5 * i + 3 + 1) = a + 5 * i + 4 := by unfold wrap64; omega
      have e5 : wrap64 (a + 5 * i + 4 + 1) = a + 5 * ((i + 1 : Nat) : Int) := by unfold wrap64; omega
      have e : rd_T144 l (i : Int) = mSu (a + 5 * i) := by
        have := hA i h
        simp [rd_T144, List.getD_eq_getElem?_getD, this]
      rw [if_pos (by omega), if_pos (by omega), e]
      simp only [mSu, if_true, e1, e2, e3, e4, e5, hw]
      exact ih k (i + 1) (by omega) (by omega) (by omega)
    · rw [if_neg (by omega)]
      have e : i = l.length := by omega
      rw [e]
theorem heldSu_eq (l : List S144) (hl : l.length ≤ 1048576) (a : Int) (h0 : 0 ≤ a) (h1 : a ≤ 100000000) (hA : ∀ j : Nat, j < l.length → l[j]? = some (mSu (a + 5 * j))) (k : Nat) (hk : l.length < k) : laws_heldSummaryS.f k l a = some (a + 5 * l.length) := by
  have h := heldSu_from l hl a h0 h1 hA l.length k 0 (by omega) hk (by omega)
  unfold laws_heldSummaryS.f
  simpa using h

theorem cs_same (l : List S124) (l1 : List Int) (hl : l.length ≤ 1048576) (h1 : l1.length ≤ 1048576) (hm : ∀ x ∈ l, x.f0.length ≤ 1048576) (k : Nat) (hk : l.length + l1.length + 1048700 < k) :
    ∃ R : List S144 × Int, R.1.length ≤ 4096 ∧ spec_CostsOf.f k l l1 = some R ∧ impl_CostsOf.f k l l1 = some R := by
  obtain ⟨k, rfl⟩ : ∃ m, k = m + 1 := ⟨k - 1, by omega⟩
  obtain ⟨r, r1, r2⟩ := va_same l l1 hl h1 hm k (by omega)
  obtain ⟨r', s1, s2⟩ := va_same l l1 hl h1 hm (k + 1) (by omega)
  have hrr : r' = r := by
    have := spec_VerifyAll.mono l l1 k r r1
    rw [s1] at this
    exact Option.some.inj this
  rw [hrr] at s1 s2
  unfold spec_CostsOf.f impl_CostsOf.f
  rw [s2]
  simp only [Option.bind_some]
  by_cases c0 : 4096 < l.length
  · have e0 : (4096 : Int) < l.length := by omega
    unfold spec_VerifyAll.f at s1
    rw [if_pos e0] at s1
    simp only [spec_VerifyAll.j0, if_true] at s1
    obtain rfl := Option.some.inj s1
    exact ⟨([], 2), by simp, by rw [if_pos e0]; simp only [spec_CostsOf.j0, if_true], by rw [if_neg (by decide)]⟩
  have e0 : ¬ (4096 : Int) < l.length := by omega
  by_cases c1 : 4096 < l1.length
  · have e1 : (4096 : Int) < l1.length := by omega
    unfold spec_VerifyAll.f at s1
    rw [if_neg e0, decide_eq_true e1] at s1
    simp only [spec_VerifyAll.j0, if_true] at s1
    obtain rfl := Option.some.inj s1
    exact ⟨([], 2), by simp, by rw [if_neg e0, decide_eq_true e1]; simp only [spec_CostsOf.j0, if_true], by rw [if_neg (by decide)]⟩
  have e1 : ¬ (4096 : Int) < l1.length := by omega
  rw [if_neg e0, decide_eq_false e1]
  simp only [spec_CostsOf.j0, Bool.false_eq_true, if_false]
  rw [r1]
  simp only [Option.bind_some]
  by_cases cz : r.2.2 = 0
  · obtain ⟨f1, f2, f3⟩ := va_fit l l1 hl h1 hm k (by omega) r r1 cz
    obtain ⟨R, R0, hR⟩ := costs_same l f1 f3
    rw [if_pos cz, if_pos cz, (hR k (by omega)).1, (hR (k + 1) (by omega)).2]
    exact ⟨(R, 0), by simpa [R0] using f1, rfl, rfl⟩
  · rw [if_neg cz, if_neg cz]
    exact ⟨([], r.2.2), by simp, rfl, rfl⟩
theorem cs_all (l : List S124) (l1 : List Int) (hl : l.length ≤ 1048576) (h1 : l1.length ≤ 1048576) (hm : ∀ x ∈ l, x.f0.length ≤ 1048576) :
    ∃ R : List S144 × Int, R.1.length ≤ 4096 ∧ ∀ k, l.length + l1.length + 1048700 < k → spec_CostsOf.f k l l1 = some R ∧ impl_CostsOf.f k l l1 = some R := by
  obtain ⟨b, hb⟩ : ∃ b, b = l.length + l1.length + 1048701 := ⟨_, rfl⟩
  obtain ⟨R, r0, r1, r2⟩ := cs_same l l1 hl h1 hm b (by omega)
  refine ⟨R, r0, fun k hk => ?_⟩
  obtain ⟨d, rfl⟩ : ∃ d, k = b + d := ⟨k - b, by omega⟩
  clear hk hb
  induction d with
  | zero => exact ⟨r1, r2⟩
  | succ d ih => exact ⟨spec_CostsOf.mono l l1 (b + d) R ih.1, impl_CostsOf.mono l l1 (b + d) R ih.2⟩
theorem totR_bd : ∀ (l : List S124), (∀ x ∈ l, x.f0.length ≤ 1048576) → totR l ≤ l.length * 1048576
  | [], _ => by simp [totR]
  | x :: l, h => by
    have ih := totR_bd l (fun y hy => h y (List.mem_cons_of_mem _ hy))
    have hx := h x (List.mem_cons_self ..)
    have e : totR (x :: l) = x.f0.length + totR l := by simp [totR]
    rw [e, List.length_cons]
    omega
theorem FnExactCostsOf : laws_FnExactCostsOf.Pure := by
  intro l0 l1 h0 h1
  obtain ⟨h0, hw⟩ := h0
  obtain ⟨h1, _⟩ := h1
  obtain ⟨K, hK⟩ : ∃ K, K = l0.length + l1.length + 1048800 := ⟨_, rfl⟩
  refine ⟨K + 1 + 1 + 1, ?_⟩
  unfold laws_FnExactCostsOf.f
  by_cases c1 : (l1.length : Int) > 1048576
  · rw [if_pos c1]
  rw [if_neg c1]
  obtain ⟨t, ht, hq⟩ := szRoutineS_cases l0 h0 (fun x hx => (hw x hx).1) (K + 1 + 1 + 1) (by omega)
  rw [ht]
  simp only [Option.bind_some]
  by_cases c : t < 0
  · rw [if_pos c]
  obtain ⟨q0, qm⟩ := hq c
  have qm' : ∀ x ∈ l0.map cvR, x.f0.length ≤ 1048576 := by
    intro x hx
    obtain ⟨y, hy, rfl⟩ := List.mem_map.1 hx
    simpa [cvR] using qm y hy
  have n0 : (l0.map cvR).length = l0.length := by simp
  have tb := totR_bd (l0.map cvR) qm'
  rw [n0] at tb
  have tb2 : totR (l0.map cvR) ≤ 1099511627776 := Nat.le_trans tb (Nat.le_trans (Nat.mul_le_mul_right _ q0) (by decide))
  clear tb
  rw [if_neg c, toRoutineS_eq l0 q0 qm _ (by omega), toIntS_eq l1 (by omega) _ (by omega)]
  obtain ⟨R, rl, hr⟩ := cs_all (l0.map cvR) l1 (by omega) (by omega) qm'
  simp only [Option.bind_some]
  rw [(hr (K + 1 + 1 + 1) (by omega)).1, (hr (K + 1 + 1 + 1) (by omega)).2]
  simp only [Option.bind_some, bne_self_eq_false]
  rw [eqSuS_eq R.1 (by omega) _ (by omega)]
  simp only [Option.bind_some, if_true]
  simp only [laws_FnExactCostsOf.j0, Bool.false_eq_true, if_false]
  rw [toRoutineS_eq l0 q0 qm _ (by omega)]
  simp only [Option.bind_some]
  rw [eqRoutineS_eq _ (by omega) qm' _ (by omega)]
  simp only [Option.bind_some, if_true]
  rw [toIntS_eq l1 (by omega) _ (by omega)]
  simp only [Option.bind_some]
  rw [eqIntS_same l1 (by omega) _ (by omega)]
  simp only [Option.bind_some, if_true]
  have hmr : laws_markRoutineS.f (l0.map cvR) 1 = some (1 + 2 * (totR (l0.map cvR) : Int)) := by
    unfold laws_markRoutineS.f
    rw [if_pos (by omega)]
  rw [hmr]
  simp only [Option.bind_some]
  obtain ⟨lm, e1, e2, _⟩ := markIntB_eq l1 (by omega) (1 + 2 * (totR (l0.map cvR) : Int)) (by omega) (by omega) (K + 1 + 1) (by omega)
  rw [e1]
  simp only [Option.bind_some]
  rw [if_neg (by omega), eqSuS_eq R.1 (by omega) _ (by omega)]
  simp only [Option.bind_some, if_true, bne_self_eq_false]
  simp only [laws_FnExactCostsOf.j1, Bool.false_eq_true, if_false]
  obtain ⟨l', f1, f2, f3⟩ := markSu_eq R.1 (by omega) 1 (by omega) (by omega) (K + 1) (by omega)
  rw [f1]
  simp only [Option.bind_some]
  have hh := fun k (hk : R.1.length < k) => heldSu_eq l' (by omega) 1 (by omega) (by omega) (fun j hj => f3 j (by omega)) k (by omega)
  rw [hh (K + 1) (by omega)]
  simp only [Option.bind_some]
  rw [if_neg (by omega), if_pos (by rw [f2]), toRoutineS_eq l0 q0 qm _ (by omega)]
  simp only [Option.bind_some]
  rw [toIntS_eq l1 (by omega) _ (by omega)]
  simp only [Option.bind_some]
  rw [(hr (K + 1) (by omega)).2]
  simp only [Option.bind_some]
  rw [eqSuS_eq R.1 (by omega) _ (by omega)]
  simp only [Option.bind_some, if_true, bne_self_eq_false]
  simp only [laws_FnExactCostsOf.j2, Bool.false_eq_true, if_false]
  rw [hh K (by omega)]
  simp only [Option.bind_some]
  rw [if_neg (by omega), if_pos (by rw [f2])]


end Go.Proofs.Ytkegjmkdnfpfdaa.Pure

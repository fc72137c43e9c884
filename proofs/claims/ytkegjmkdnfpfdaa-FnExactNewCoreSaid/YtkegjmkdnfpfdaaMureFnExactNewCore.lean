/- Proved: the pure statement behind the law FnExactNewCore of the given program: for every input that the row lets in, the program's answer and the reference's agree and the law returns true. Conditions: none beyond the row's own. -/
import Derived.Test.YtkegjmkdnfpfdaaMFnExactNewCorex36
set_option linter.unusedVariables false
set_option linter.unusedSimpArgs false
namespace Go.Proofs.Ytkegjmkdnfpfdaa.Pure
open Go.RowKit Go.Proofs.Ytkegjmkdnfpfdaa.MFnExactNewCore Go.Proofs.YtkegjmkdnfpfdaaW.PrintWords Go.Proofs.YtkegjmkdnfpfdaaW.PrintLast

theorem within_eq (a lo hi : Int) : impl_within.f a lo hi = some (decide (lo ≤ a ∧ a ≤ hi)) := by
  unfold impl_within.f
  by_cases h : a ≥ lo
  · have h' : lo ≤ a := h
    simp [h, h']
  · have h' : ¬ lo ≤ a := h
    simp [h, h']

theorem l01In_eq (a lo hi : Int) : spec_l01In.f a lo hi = some (decide (lo ≤ a ∧ a ≤ hi)) := by
  unfold spec_l01In.f
  by_cases h : a ≥ lo
  · have h' : lo ≤ a := h
    simp [h, h']
  · have h' : ¬ lo ≤ a := h
    simp [h, h']

theorem when_eq (b : Bool) (c : Int) : impl_when.f b c = some (if b = true then c else 0) := by
  unfold impl_when.f
  split <;> rfl

/-- The first number of a list that is not 0; else 0. -/
def fnz : List Int → Int
  | [] => 0
  | a :: l => if a = 0 then fnz l else a

theorem first_from (l : List Int) (hl : l.length ≤ 1000) : ∀ (d k i : Nat), l.length - i ≤ d → d < k → i ≤ l.length → impl_first.l0 k l l.length (i : Int) = some (fnz (l.drop i)) := by
  intro d
  induction d with
  | zero =>
    intro k i hd hk hi
    obtain ⟨k, rfl⟩ : ∃ m, k = m + 1 := ⟨k - 1, by omega⟩
    simp only [impl_first.l0]
    rw [if_neg (by omega), List.drop_of_length_le (by omega)]
    rfl
  | succ d ih =>
    intro k i hd hk hi
    obtain ⟨k, rfl⟩ : ∃ m, k = m + 1 := ⟨k - 1, by omega⟩
    simp only [impl_first.l0]
    by_cases h : i < l.length
    · have hw : wrap64 ((i : Int) + 1) = ((i + 1 : Nat) : Int) := by unfold wrap64; omega
      rw [hw, ih k (i + 1) (by omega) (by omega) (by omega)]
      have e : rd l (i : Int) = l[i] := by simp [rd, List.getD_eq_getElem?_getD, h]
      rw [List.drop_eq_getElem_cons h, e]
      rw [if_pos (by omega), if_pos (by omega), if_pos (by omega)]
      simp only [fnz]
      split <;> rfl
    · rw [if_neg (by omega), List.drop_of_length_le (by omega)]
      rfl

theorem first_eq (l : List Int) (hl : l.length ≤ 1000) (k : Nat) (hk : l.length < k) : impl_first.f k l = some (fnz l) := by
  unfold impl_first.f
  have h := first_from l hl l.length k 0 (by omega) hk (by omega)
  simpa using h

/-- The program's instruction for the law's. -/
def cvI (x : S88) : S96 := ⟨x.f0, x.f1⟩
theorem toInstrS_from (l : List S88) (hl : l.length ≤ 1048576) : ∀ (d k i : Nat) (ys : List S96), l.length - i ≤ d → d < k → i ≤ l.length → ys.length = l.length → ys.take i = (l.take i).map cvI → laws_toInstrS.l0 k l ys (i : Int) = some (l.map cvI) := by
  intro d
  induction d with
  | zero =>
    intro k i ys hd hk hi hy ht
    obtain ⟨k, rfl⟩ : ∃ m, k = m + 1 := ⟨k - 1, by omega⟩
    simp only [laws_toInstrS.l0]
    rw [if_neg (by omega)]
    have e : i = l.length := by omega
    subst e
    rw [List.take_of_length_le (by omega), List.take_of_length_le (by omega)] at ht
    rw [ht]
  | succ d ih =>
    intro k i ys hd hk hi hy ht
    obtain ⟨k, rfl⟩ : ∃ m, k = m + 1 := ⟨k - 1, by omega⟩
    by_cases h : i < l.length
    · have hw : wrap64 ((i : Int) + 1) = ((i + 1 : Nat) : Int) := by unfold wrap64; omega
      have e : rd_T88 l (i : Int) = l[i] := by simp [rd_T88, List.getD_eq_getElem?_getD, h]
      conv => lhs; unfold laws_toInstrS.l0
      rw [if_pos (by omega), if_pos (by omega), e]
      unfold laws_toInstr.f
      simp only [Option.bind_some]
      rw [if_pos (by omega), hw]
      apply ih k (i + 1) _ (by omega) (by omega) (by omega) (by simpa using hy)
      have hi2 : i < ys.length := by omega
      have ei : ((i : Int)).toNat = i := by omega
      rw [ei]
      apply List.ext_getElem
      · simp; omega
      · intro j h1 h2
        simp only [List.length_take, List.length_set] at h1
        rw [List.getElem_take, List.getElem_set]
        by_cases hj : i = j
        · subst hj
          simp [cvI]
        · have hji : j < i := by omega
          rw [if_neg hj]
          have hh : (ys.take i)[j]? = ((l.take i).map cvI)[j]? := by rw [ht]
          simp [hji] at hh
          rw [List.getElem?_eq_getElem (by omega), List.getElem?_eq_getElem (by omega)] at hh
          simp at hh
          simp [hh]
    · conv => lhs; unfold laws_toInstrS.l0
      rw [if_neg (by omega)]
      have e : i = l.length := by omega
      subst e
      rw [List.take_of_length_le (by omega), List.take_of_length_le (by omega)] at ht
      rw [ht]
theorem toInstrS_eq (l : List S88) (hl : l.length ≤ 1048576) (k : Nat) (hk : l.length < k) : laws_toInstrS.f k l = some (l.map cvI) := by
  unfold laws_toInstrS.f
  rw [if_pos (by omega), if_pos (by omega)]
  have h := toInstrS_from l hl l.length k 0 (List.replicate l.length z96) (by omega) hk (by omega) (by simp) (by simp)
  simpa using h
theorem eqInstr_refl (a b : Int) : laws_eqInstr.f a b a b = some true := by
  unfold laws_eqInstr.f
  simp
theorem eqInstrS_from (l : List S96) (hl : l.length ≤ 1048576) : ∀ (d k i : Nat), l.length - i ≤ d → d < k → i ≤ l.length → laws_eqInstrS.l0 k l l (i : Int) = some true := by
  intro d
  induction d with
  | zero =>
    intro k i hd hk hi
    obtain ⟨k, rfl⟩ : ∃ m, k = m + 1 := ⟨k - 1, by omega⟩
    simp only [laws_eqInstrS.l0]
    rw [if_neg (by omega)]
  | succ d ih =>
    intro k i hd hk hi
    obtain ⟨k, rfl⟩ : ∃ m, k = m + 1 := ⟨k - 1, by omega⟩
    simp only [laws_eqInstrS.l0]
    by_cases h : i < l.length
    · have hw : wrap64 ((i : Int) + 1) = ((i + 1 : Nat) : Int) := by unfold wrap64; omega
      rw [hw, ih k (i + 1) (by omega) (by omega) (by omega), eqInstr_refl]
      rw [if_pos (by omega), if_pos (by omega), if_pos (by omega)]
      rfl
    · rw [if_neg (by omega)]
theorem eqInstrS_eq (l : List S96) (hl : l.length ≤ 1048576) (k : Nat) (hk : l.length < k) : laws_eqInstrS.f k l l = some true := by
  unfold laws_eqInstrS.f
  rw [if_pos rfl]
  have h := eqInstrS_from l hl l.length k 0 (by omega) hk (by omega)
  simpa using h
theorem szInstr_eq (l : List S88) (hl : l.length ≤ maxLen) : laws_szInstrS.f l 1048576 = some ((if (l.length : Int) ≤ 1048576 then 1048576 - (l.length : Int) else -1 : Int)) := by
  unfold laws_szInstrS.f
  have hm : (l.length : Int) ≤ 9223372036854775807 := by have : maxLen ≤ 9223372036854775807 := (by decide); omega
  have hw : wrap64 (1048576 - (l.length : Int)) = 1048576 - l.length := by unfold wrap64; omega
  rw [hw]
  by_cases h : (l.length : Int) ≤ 1048576
  · rw [if_pos h, if_neg (by omega)]
  · rw [if_neg h, if_pos (by omega)]

theorem toIntS_from (l : List Int) (hl : l.length ≤ 1048576) : ∀ (d k i : Nat) (acc : List Int), l.length - i ≤ d → d < k → i ≤ l.length → acc.length = l.length → (∀ j, j < i → acc[j]? = l[j]?) → laws_toIntS.l0 k l acc (i : Int) = some l := by
  intro d
  induction d with
  | zero =>
    intro k i acc hd hk hi hlen hA
    obtain ⟨k, rfl⟩ : ∃ m, k = m + 1 := ⟨k - 1, by omega⟩
    simp only [laws_toIntS.l0]
    rw [if_neg (by omega)]
    congr 1
    apply List.ext_getElem?
    intro j
    by_cases h : j < i
    · exact hA j h
    · rw [List.getElem?_eq_none (by omega), List.getElem?_eq_none (by omega)]
  | succ d ih =>
    intro k i acc hd hk hi hlen hA
    obtain ⟨k, rfl⟩ : ∃ m, k = m + 1 := ⟨k - 1, by omega⟩
    simp only [laws_toIntS.l0]
    by_cases h : i < l.length
    · rw [if_pos (by omega), if_pos (by omega), if_pos (by omega)]
      have hw : wrap64 ((i : Int) + 1) = ((i + 1 : Nat) : Int) := by unfold wrap64; omega
      rw [hw]
      refine ih k (i + 1) _ (by omega) (by omega) (by omega) (by simp [hlen]) (fun j hj => ?_)
      have e : rd l (i : Int) = l[i] := by simp [rd, List.getD_eq_getElem?_getD, h]
      rw [e, Int.toNat_natCast, List.getElem?_set]
      by_cases hji : i = j
      · subst hji
        rw [if_pos rfl, if_pos (by omega), List.getElem?_eq_getElem h]
      · rw [if_neg hji]
        exact hA j (by omega)
    · rw [if_neg (by omega)]
      congr 1
      apply List.ext_getElem?
      intro j
      by_cases h2 : j < i
      · exact hA j h2
      · rw [List.getElem?_eq_none (by omega), List.getElem?_eq_none (by omega)]
theorem toIntS_eq (l : List Int) (hl : l.length ≤ 1048576) (k : Nat) (hk : l.length < k) : laws_toIntS.f k l = some l := by
  unfold laws_toIntS.f
  rw [if_pos (by omega), if_pos (by omega)]
  exact toIntS_from l hl l.length k 0 _ (by omega) hk (by omega) (by simp) (fun j hj => by omega)
theorem eqIntS_from (l : List Int) (hl : l.length ≤ 1048576) : ∀ (d k i : Nat), l.length - i ≤ d → d < k → i ≤ l.length → laws_eqIntS.l0 k l l (i : Int) = some true := by
  intro d
  induction d with
  | zero =>
    intro k i hd hk hi
    obtain ⟨k, rfl⟩ : ∃ m, k = m + 1 := ⟨k - 1, by omega⟩
    simp only [laws_eqIntS.l0]
    rw [if_neg (by omega)]
  | succ d ih =>
    intro k i hd hk hi
    obtain ⟨k, rfl⟩ : ∃ m, k = m + 1 := ⟨k - 1, by omega⟩
    simp only [laws_eqIntS.l0]
    by_cases h : i < l.length
    · have hw : wrap64 ((i : Int) + 1) = ((i + 1 : Nat) : Int) := by unfold wrap64; omega
      rw [if_pos (by omega), if_pos (by omega), hw, ih k (i + 1) (by omega) (by omega) (by omega)]
      simp only [show ((i : Int) < (l.length : Int)) from by omega, if_true]
    · rw [if_neg (by omega)]
theorem eqIntS_same (l : List Int) (hl : l.length ≤ 1048576) (k : Nat) (hk : l.length < k) : laws_eqIntS.f k l l = some true := by
  unfold laws_eqIntS.f
  rw [if_pos rfl]
  exact eqIntS_from l hl l.length k 0 (by omega) hk (by omega)

theorem has_j2 (k : Nat) (a : Int) (b : Bool) : spec_l02Has.j2 k a b = impl_rangeOf.j2 k a b := by
  cases k <;> simp only [spec_l02Has.j2, impl_rangeOf.j2]
theorem has_j1 (k : Nat) (a : Int) (b : Bool) : spec_l02Has.j1 k a b = impl_rangeOf.j1 k a b := by
  cases k <;> simp only [spec_l02Has.j1, impl_rangeOf.j1, has_j2]
theorem has_j0 (k : Nat) (a : Int) (b : Bool) : spec_l02Has.j0 k a b = impl_rangeOf.j0 k a b := by
  cases k <;> simp only [spec_l02Has.j0, impl_rangeOf.j0, has_j1]
theorem has_same (k : Nat) (a : Int) : spec_l02Has.f k a = impl_rangeOf.f k a := by
  unfold spec_l02Has.f impl_rangeOf.f
  simp only [has_j0]
/-- The range of an operation's operand, and whether it has one. -/
def rng (a : Int) : Int × Int × Bool :=
  if a = 1 then (-2147483648, 2147483647, true) else if a = 2 then (0, 1, true) else if a = 3 ∨ a = 4 then (0, 15, true) else if a = 5 ∨ a = 6 ∨ a = 7 ∨ a = 8 then (0, 7, true)
  else if a = 19 ∨ a = 20 then (0, 7, true) else if a = 24 then (1, 20, true) else if a = 26 then (0, 5, true) else (0, 0, false)
theorem range_eq (k : Nat) (hk : 3 ≤ k) (a : Int) : impl_rangeOf.f k a = some (rng a) := by
  obtain ⟨k, rfl⟩ : ∃ m, k = m + 3 := ⟨k - 3, by omega⟩
  unfold impl_rangeOf.f rng
  simp only [impl_rangeOf.j0, impl_rangeOf.j1, impl_rangeOf.j2]
  by_cases h1 : a = 1
  · subst h1; rfl
  by_cases h2 : a = 2
  · subst h2; rfl
  by_cases h3 : a = 3
  · subst h3; rfl
  by_cases h4 : a = 4
  · subst h4; rfl
  by_cases h5 : a = 5
  · subst h5; rfl
  by_cases h6 : a = 6
  · subst h6; rfl
  by_cases h7 : a = 7
  · subst h7; rfl
  by_cases h8 : a = 8
  · subst h8; rfl
  by_cases h19 : a = 19
  · subst h19; rfl
  by_cases h20 : a = 20
  · subst h20; rfl
  by_cases h24 : a = 24
  · subst h24; rfl
  by_cases h26 : a = 26
  · subst h26; rfl
  simp [h1, h2, h3, h4, h5, h6, h7, h8, h19, h20, h24, h26]

def instrb (op a : Int) : Bool := decide ((1 ≤ op ∧ op ≤ 26) ∧ ((rng op).1 ≤ a ∧ a ≤ (rng op).2.1))
theorem isOp_eq (a : Int) : impl_isOp.f a = some (decide (1 ≤ a ∧ a ≤ 26)) := by
  unfold impl_isOp.f; rw [within_eq]; rfl
theorem l02Op_eq (a : Int) : spec_l02Op.f a = some (decide (1 ≤ a ∧ a ≤ 26)) := by
  unfold spec_l02Op.f; rw [l01In_eq]; rfl
theorem spec_instr (k : Nat) (hk : 3 ≤ k) (op a : Int) : spec_l02OK.f k op a = some (instrb op a) := by
  unfold spec_l02OK.f instrb
  simp only [l02Op_eq, l01In_eq, has_same, range_eq k hk, Option.bind_some]
  by_cases h : 1 ≤ op ∧ op ≤ 26 <;> simp [h]
theorem impl_instr (k : Nat) (hk : 3 ≤ k) (op a : Int) : impl_InstrOK.f k op a = some (instrb op a) := by
  unfold impl_InstrOK.f instrb
  simp only [isOp_eq, within_eq, range_eq k hk, Option.bind_some]
  by_cases h : 1 ≤ op ∧ op ≤ 26 <;> simp [h]

theorem impl_all_int_isFbKind_from (p : Int → Bool) (K : Nat) (hF : ∀ (k : Nat) (x : Int), K ≤ k → impl_isFbKind.f x = some (p x)) (l : List Int) (hl : l.length ≤ 1048576) : ∀ (d k i : Nat), l.length - i ≤ d → d + K < k → i ≤ l.length →
    ∃ j, impl_all_int_isFbKind.l0 k l (i : Int) = some j ∧ (!(decide (0 ≤ j))) = (l.drop i).all p := by
  intro d
  induction d with
  | zero =>
    intro k i hd hk hi
    obtain ⟨k, rfl⟩ : ∃ m, k = m + 1 := ⟨k - 1, by omega⟩
    refine ⟨-1, ?_, ?_⟩
    · simp only [impl_all_int_isFbKind.l0]
      rw [if_neg (by omega)]
    · rw [List.drop_of_length_le (by omega)]
      rfl
  | succ d ih =>
    intro k i hd hk hi
    obtain ⟨k, rfl⟩ : ∃ m, k = m + 1 := ⟨k - 1, by omega⟩
    by_cases h : i < l.length
    · have e : rd l (i : Int) = l[i] := by simp [rd, List.getD_eq_getElem?_getD, h]
      have hw : wrap64 ((i : Int) + 1) = ((i + 1 : Nat) : Int) := by unfold wrap64; omega
      obtain ⟨j, hj, hp⟩ := ih k (i + 1) (by omega) (by omega) (by omega)
      have hx := hF k l[i] (by omega)
      rw [List.drop_eq_getElem_cons h, List.all_cons]
      simp only [impl_all_int_isFbKind.l0]
      rw [if_pos (by omega), if_pos (by omega), e, hw, hx]
      simp only [Option.bind_some]
      cases p l[i] with
      | true => exact ⟨j, by rw [if_pos rfl]; exact hj, by simpa using hp⟩
      | false => exact ⟨(i : Int), by rw [if_neg (by decide)], by simp⟩
    · refine ⟨-1, ?_, ?_⟩
      · simp only [impl_all_int_isFbKind.l0]
        rw [if_neg (by omega)]
      · rw [List.drop_of_length_le (by omega)]
        rfl
theorem impl_all_int_isFbKind_eq (p : Int → Bool) (K : Nat) (hF : ∀ (k : Nat) (x : Int), K ≤ k → impl_isFbKind.f x = some (p x)) (l : List Int) (hl : l.length ≤ 1048576) (k : Nat) (hk : l.length + K < k) : impl_all_int_isFbKind.f k l = some (l.all p) := by
  obtain ⟨j, hj, hp⟩ := impl_all_int_isFbKind_from p K hF l hl l.length k 0 (by omega) (by omega) (by omega)
  unfold impl_all_int_isFbKind.f
  have hj' : impl_all_int_isFbKind.l0 k l 0 = some j := hj
  rw [hj']
  simp only [Option.bind_some]
  rw [hp]
  rfl

theorem impl_all_Instr_InstrOK_from (p : S96 → Bool) (K : Nat) (hF : ∀ (k : Nat) (x : S96), K ≤ k → impl_InstrOK.f k x.f0 x.f1 = some (p x)) (l : List S96) (hl : l.length ≤ 1048576) : ∀ (d k i : Nat), l.length - i ≤ d → d + K < k → i ≤ l.length →
    ∃ j, impl_all_Instr_InstrOK.l0 k l (i : Int) = some j ∧ (!(decide (0 ≤ j))) = (l.drop i).all p := by
  intro d
  induction d with
  | zero =>
    intro k i hd hk hi
    obtain ⟨k, rfl⟩ : ∃ m, k = m + 1 := ⟨k - 1, by omega⟩
    refine ⟨-1, ?_, ?_⟩
    · simp only [impl_all_Instr_InstrOK.l0]
      rw [if_neg (by omega)]
    · rw [List.drop_of_length_le (by omega)]
      rfl
  | succ d ih =>
    intro k i hd hk hi
    obtain ⟨k, rfl⟩ : ∃ m, k = m + 1 := ⟨k - 1, by omega⟩
    by_cases h : i < l.length
    · have e : rd_T96 l (i : Int) = l[i] := by simp [rd_T96, List.getD_eq_getElem?_getD, h]
      have hw : wrap64 ((i : Int) + 1) = ((i + 1 : Nat) : Int) := by unfold wrap64; omega
      obtain ⟨j, hj, hp⟩ := ih k (i + 1) (by omega) (by omega) (by omega)
      have hx := hF k l[i] (by omega)
      rw [List.drop_eq_getElem_cons h, List.all_cons]
      simp only [impl_all_Instr_InstrOK.l0]
      rw [if_pos (by omega), if_pos (by omega), e, hw, hx]
      simp only [Option.bind_some]
      cases p l[i] with
      | true => exact ⟨j, by rw [if_pos rfl]; exact hj, by simpa using hp⟩
      | false => exact ⟨(i : Int), by rw [if_neg (by decide)], by simp⟩
    · refine ⟨-1, ?_, ?_⟩
      · simp only [impl_all_Instr_InstrOK.l0]
        rw [if_neg (by omega)]
      · rw [List.drop_of_length_le (by omega)]
        rfl
theorem impl_all_Instr_InstrOK_eq (p : S96 → Bool) (K : Nat) (hF : ∀ (k : Nat) (x : S96), K ≤ k → impl_InstrOK.f k x.f0 x.f1 = some (p x)) (l : List S96) (hl : l.length ≤ 1048576) (k : Nat) (hk : l.length + K < k) : impl_all_Instr_InstrOK.f k l = some (l.all p) := by
  obtain ⟨j, hj, hp⟩ := impl_all_Instr_InstrOK_from p K hF l hl l.length k 0 (by omega) (by omega) (by omega)
  unfold impl_all_Instr_InstrOK.f
  have hj' : impl_all_Instr_InstrOK.l0 k l 0 = some j := hj
  rw [hj']
  simp only [Option.bind_some]
  rw [hp]
  rfl

def kindB (a : Int) : Bool := decide (1 ≤ a ∧ a ≤ 4)
def insB (x : S96) : Bool := instrb x.f0 x.f1
theorem isFbKind_eq (a : Int) : impl_isFbKind.f a = some (kindB a) := by unfold impl_isFbKind.f kindB; rw [within_eq]; rfl
theorem l03Kind_eq (a : Int) : spec_l03Kind.f a = some (kindB a) := by unfold spec_l03Kind.f kindB; rw [l01In_eq]; rfl
theorem areKinds_eq (l : List Int) (hl : l.length ≤ 1048576) (k : Nat) (hk : l.length + 1 < k) : impl_areKinds.f k l = some (decide (l.length ≤ 8) && l.all kindB) := by
  unfold impl_areKinds.f
  by_cases h : l.length ≤ 8
  · rw [if_pos (by omega), impl_all_int_isFbKind_eq kindB 0 (fun k x _ => isFbKind_eq x) l hl k (by omega), decide_eq_true h]; rfl
  · rw [if_neg (by omega), decide_eq_false h]; rfl
theorem isCode_eq (l : List S96) (hl : l.length ≤ 1048576) (k : Nat) (hk : l.length + 4 < k) : impl_isCode.f k l = some (decide (l.length ≤ 40) && l.all insB) := by
  unfold impl_isCode.f
  by_cases h : l.length ≤ 40
  · rw [if_pos (by omega), impl_all_Instr_InstrOK_eq insB 3 (fun k x hk => impl_instr k hk x.f0 x.f1) l hl k (by omega), decide_eq_true h]; rfl
  · rw [if_neg (by omega), decide_eq_false h]; rfl
theorem l04Kinds_from (l : List Int) (hl : l.length ≤ 1048576) : ∀ (d k i : Nat), l.length - i ≤ d → d < k → i ≤ l.length → spec_l04Kinds.l0 k l (i : Int) = some ((l.drop i).all kindB) := by
  intro d
  induction d with
  | zero =>
    intro k i hd hk hi
    obtain ⟨k, rfl⟩ : ∃ m, k = m + 1 := ⟨k - 1, by omega⟩
    simp only [spec_l04Kinds.l0]
    rw [if_neg (by omega), List.drop_of_length_le (by omega)]
    rfl
  | succ d ih =>
    intro k i hd hk hi
    obtain ⟨k, rfl⟩ : ∃ m, k = m + 1 := ⟨k - 1, by omega⟩
    simp only [spec_l04Kinds.l0]
    by_cases h : i < l.length
    · have e : rd l (i : Int) = l[i] := by simp [rd, List.getD_eq_getElem?_getD, h]
      have hw : wrap64 ((i : Int) + 1) = ((i + 1 : Nat) : Int) := by unfold wrap64; omega
      rw [if_pos (by omega), if_pos (by omega), e, hw, ih k (i + 1) (by omega) (by omega) (by omega), l03Kind_eq, List.drop_eq_getElem_cons h, List.all_cons]
      simp only [Option.bind_some]
      cases kindB l[i] <;> rfl
    · rw [if_neg (by omega), List.drop_of_length_le (by omega)]
      rfl
theorem l04Kinds_eq (l : List Int) (hl : l.length ≤ 1048576) (k : Nat) (hk : l.length < k) : spec_l04Kinds.f k l = some (decide (l.length ≤ 8) && l.all kindB) := by
  unfold spec_l04Kinds.f
  by_cases h : l.length ≤ 8
  · have := l04Kinds_from l hl l.length k 0 (by omega) hk (by omega)
    rw [if_neg (by omega), decide_eq_true h]
    simpa using this
  · rw [if_pos (by omega), decide_eq_false h]; rfl
theorem l02All_from (l : List S96) (hl : l.length ≤ 1048576) : ∀ (d k i : Nat), l.length - i ≤ d → d + 3 < k → i ≤ l.length → spec_l02All.l0 k l (i : Int) = some ((l.drop i).all insB) := by
  intro d
  induction d with
  | zero =>
    intro k i hd hk hi
    obtain ⟨k, rfl⟩ : ∃ m, k = m + 1 := ⟨k - 1, by omega⟩
    simp only [spec_l02All.l0]
    rw [if_neg (by omega), List.drop_of_length_le (by omega)]
    rfl
  | succ d ih =>
    intro k i hd hk hi
    obtain ⟨k, rfl⟩ : ∃ m, k = m + 1 := ⟨k - 1, by omega⟩
    simp only [spec_l02All.l0]
    by_cases h : i < l.length
    · have e : rd_T96 l (i : Int) = l[i] := by simp [rd_T96, List.getD_eq_getElem?_getD, h]
      have hw : wrap64 ((i : Int) + 1) = ((i + 1 : Nat) : Int) := by unfold wrap64; omega
      rw [if_pos (by omega), if_pos (by omega), e, hw, ih k (i + 1) (by omega) (by omega) (by omega), spec_instr k (by omega), List.drop_eq_getElem_cons h, List.all_cons]
      simp only [Option.bind_some]
      show (if insB l[i] = true then _ else _) = _
      cases insB l[i] <;> rfl
    · rw [if_neg (by omega), List.drop_of_length_le (by omega)]
      rfl
theorem l02All_eq (l : List S96) (hl : l.length ≤ 1048576) (k : Nat) (hk : l.length + 3 < k) : spec_l02All.f k l = some (l.all insB) := by
  unfold spec_l02All.f
  have := l02All_from l hl l.length k 0 (by omega) hk (by omega)
  simpa using this
/-- What is asked well is fit for the walk. -/
theorem ok_of_ins {l0 : List S96} {l1 : List Int} (hl : l0.length ≤ 40) (h1 : l1.all kindB = true) (h0 : l0.all insB = true) : l0.length ≤ 4096 ∧ (l0.all fun x => vOKb l1 x.f0 x.f1) = true := by
  refine ⟨by omega, ?_⟩
  rw [List.all_eq_true] at h0 ⊢
  intro x hx
  have hi := h0 x hx
  unfold insB instrb at hi
  have hi' := of_decide_eq_true hi
  obtain ⟨⟨a1, a2⟩, a3, a4⟩ := hi'
  unfold vOKb
  have hk : (l1.all fun k => decide (1 ≤ k) && decide (k ≤ 4)) = true := by
    rw [List.all_eq_true] at h1 ⊢
    intro y hy
    have := of_decide_eq_true (h1 y hy)
    rw [decide_eq_true this.1, decide_eq_true this.2]; rfl
  rw [hk, decide_eq_true a1, decide_eq_true a2]
  by_cases h19 : x.f0 = 19
  · rw [h19] at a3
    have : (0 : Int) ≤ x.f1 := a3
    rw [decide_eq_true this]; simp
  · by_cases h20 : x.f0 = 20
    · rw [h20] at a3
      have : (0 : Int) ≤ x.f1 := a3
      rw [decide_eq_true this]; simp
    · have e1 : (x.f0 == 19) = false := by simpa using h19
      have e2 : (x.f0 == 20) = false := by simpa using h20
      rw [e1, e2]; rfl

/-! the two verifiers, held against each other -/
def VR : ByteArray → List SO → List VO → Prop
  | _, [], [] => True
  | S, o :: P, v :: Q => v.at_ = o.at_ ∧ v.base = (o.stack.size : Int) ∧ ((o.op = 21 ∧ v.isIf = true ∧ v.hasElse = false) ∨ (o.op = 22 ∧ v.isIf = true ∧ v.hasElse = true) ∨ (o.op = 24 ∧ v.isIf = false ∧ v.hasElse = false)) ∧ o.stack.size ≤ S.size ∧ S.extract 0 o.stack.size = o.stack ∧ VR o.stack P Q
  | _, _, _ => False
theorem VR.base {S : ByteArray} {O : List SO} {Q : List VO} (h : VR S O Q) : sBase O = vBase Q := by
  cases O <;> cases Q <;> simp only [VR] at h
  · rfl
  · exact h.2.1.symm
theorem VR.length {O : List SO} : ∀ {S : ByteArray} {Q : List VO}, VR S O Q → O.length = Q.length := by
  induction O with
  | nil => intro S Q h; cases Q <;> simp only [VR] at h; rfl
  | cons o P ih =>
    intro S Q h
    cases Q <;> simp only [VR] at h
    simp [ih h.2.2.2.2.2]
theorem ext_ext (S Q : ByteArray) (k n : Nat) (hn : n ≤ k) (hk : k ≤ S.size) : (S.extract 0 k ++ Q).extract 0 n = S.extract 0 n := by
  apply ByteArray.ext
  simp only [ByteArray.data_extract, ByteArray.data_append]
  apply Array.ext'
  have h1 : S.data.toList.length = S.size := by rw [Array.length_toList]; rfl
  have h2 : S.data.size = S.size := rfl
  simp only [Array.toList_extract, Array.toList_append, List.extract_eq_take_drop, List.drop_zero, Nat.sub_zero]
  rw [List.take_append_of_le_length (by rw [List.length_take, h1]; omega), List.take_take, Nat.min_eq_left hn]
theorem VR.cut {S Q : ByteArray} {k : Nat} {O : List SO} {V : List VO} (h : VR S O V) (hk : k ≤ S.size) (hb : sBase O ≤ (k : Int)) : VR (S.extract 0 k ++ Q) O V := by
  cases O <;> cases V <;> simp only [VR, sBase] at h hb ⊢
  obtain ⟨h1, h2, h3, h4, h5, h6⟩ := h
  refine ⟨h1, h2, h3, ?_, ?_, h6⟩
  · rw [ByteArray.size_append, ByteArray.size_extract]; omega
  · rw [ext_ext _ _ _ _ (by omega) hk]; exact h5
theorem nest_eq {at_ op : Int} {S : ByteArray} {O : List SO} {V : List VO} (h : VR S O V) (hr : 21 ≤ op ∧ op ≤ 24) :
    (sNest at_ op S O).1 = (vNest at_ op S V).1 ∧ ((sNest at_ op S O).1 = 0 → VR S (sNest at_ op S O).2 (vNest at_ op S V).2) := by
  have hl := h.length
  by_cases h1 : op = 21 ∨ op = 24
  · by_cases h4 : O.length = 4
    · have h4' : V.length = 4 := by omega
      rw [show sNest at_ op S O = (17, O) from by unfold sNest; rw [if_pos h1, if_pos h4], show vNest at_ op S V = (17, V) from by unfold vNest; rw [if_pos h1, if_pos h4']]
      exact ⟨rfl, fun e => absurd e (by simp)⟩
    · have h4' : ¬ V.length = 4 := by omega
      rw [show sNest at_ op S O = (0, ⟨at_, op, S⟩ :: O) from by unfold sNest; rw [if_pos h1, if_neg h4], show vNest at_ op S V = (0, ⟨at_, (S.size : Int), decide (op = 21), false⟩ :: V) from by unfold vNest; rw [if_pos h1, if_neg h4']]
      refine ⟨rfl, fun _ => ?_⟩
      simp only [VR]
      refine ⟨trivial, trivial, ?_, Nat.le_refl _, ?_, h⟩
      · rcases h1 with rfl | rfl
        · exact .inl (by simp)
        · exact .inr (.inr (by simp))
      · apply ByteArray.ext; simp
  have h23 : op = 22 ∨ op = 23 := by omega
  cases O with
  | nil =>
    cases V <;> simp only [VR] at h
    rw [show sNest at_ op S [] = (14, []) from by unfold sNest; rw [if_neg h1]]
    rcases h23 with rfl | rfl
    · exact ⟨rfl, fun e => absurd e (by simp)⟩
    · exact ⟨rfl, fun e => absurd e (by simp)⟩
  | cons o P =>
    cases V with
    | nil => simp only [VR] at h
    | cons v Q =>
      simp only [VR] at h
      obtain ⟨e1, e2, e3, e4, e5, e6⟩ := h
      have hst : (S = o.stack) ↔ ((S.size : Int) = v.base) := by
        rw [e2]
        constructor
        · intro e; rw [e]
        · intro e
          have e' : o.stack.size = S.size := by omega
          rw [← e5, e']
          apply ByteArray.ext; simp
      rw [show sNest at_ op S (o :: P) = if op = 22 ∧ o.op ≠ 21 then (14, o :: P) else if S = o.stack then (if op = 22 then (0, { o with op := 22 } :: P) else (0, P)) else (13, o :: P) from by unfold sNest; rw [if_neg h1]]
      rcases h23 with rfl | rfl
      · rw [show vNest at_ 22 S (v :: Q) = if (!v.isIf || v.hasElse) = true then (14, v :: Q) else if (S.size : Int) = v.base then (0, { v with hasElse := true } :: Q) else (13, v :: Q) from by unfold vNest; rw [if_neg (by decide), if_pos rfl]]
        by_cases hb : o.op = 21
        · have hv : v.isIf = true ∧ v.hasElse = false := by rcases e3 with e3 | e3 | e3 <;> first | exact e3.2 | (exfalso; omega)
          have hv' : ¬ (!v.isIf || v.hasElse) = true := by rw [hv.1, hv.2]; decide
          rw [if_neg (by simp [hb]), if_neg hv']
          by_cases hs : S = o.stack
          · rw [if_pos hs, if_pos (hst.1 hs), if_pos rfl]
            refine ⟨rfl, fun _ => ?_⟩
            simp only [VR]
            exact ⟨e1, e2, .inr (.inl (by simp [hv.1])), e4, e5, e6⟩
          · rw [if_neg hs, if_neg (fun e => hs (hst.2 e))]
            exact ⟨rfl, fun e => absurd e (by simp)⟩
        · have hv : (!v.isIf || v.hasElse) = true := by
            rcases e3 with e3 | e3 | e3
            · exact absurd e3.1 hb
            · simp [e3.2.1, e3.2.2]
            · simp [e3.2.1, e3.2.2]
          rw [if_pos ⟨rfl, hb⟩, if_pos hv]
          exact ⟨rfl, fun e => absurd e (by simp)⟩
      · rw [show vNest at_ 23 S (v :: Q) = if (S.size : Int) = v.base then (0, Q) else (13, v :: Q) from by unfold vNest; rw [if_neg (by decide), if_neg (by decide), if_pos rfl]]
        rw [if_neg (by rintro ⟨e, _⟩; exact absurd e (by decide) : ¬ ((23 : Int) = 22 ∧ o.op ≠ 21)), if_neg (by decide : ¬ (23 : Int) = 22)]
        by_cases hs : S = o.stack
        · rw [if_pos hs, if_pos (hst.1 hs)]
          exact ⟨rfl, fun _ => by rw [hs]; exact e6⟩
        · rw [if_neg hs, if_neg (fun e => hs (hst.2 e))]
          exact ⟨rfl, fun e => absurd e (by simp)⟩
theorem step_eq {ks : List Int} {R at_ op a : Int} {S : ByteArray} {O : List SO} {V : List VO} (h : VR S O V) (hi : sInv S O) :
    (sStep ks R at_ op a S O).1 = (vStep ks R at_ op a S V).1 ∧ ((sStep ks R at_ op a S O).1 = 0 → (sStep ks R at_ op a S O).2.1 = (vStep ks R at_ op a S V).2.1 ∧ VR (sStep ks R at_ op a S O).2.1 (sStep ks R at_ op a S O).2.2 (vStep ks R at_ op a S V).2.2) := by
  have hb := h.base
  have hr := sBase_range hi
  unfold sStep vStep
  by_cases h1 : (op = 19 ∨ op = 20) ∧ (ks.length : Int) ≤ a
  · rw [if_pos h1, if_pos h1]; exact ⟨rfl, fun e => absurd e (by simp)⟩
  rw [if_neg h1, if_neg h1]
  by_cases h2 : op = 26 ∧ R ≤ a
  · rw [if_pos h2, if_pos h2]; exact ⟨rfl, fun e => absurd e (by simp)⟩
  rw [if_neg h2, if_neg h2]
  by_cases h3 : (S.size : Int) - sBase O < ((vEff ks op a).1.size : Int)
  · have h3' : (S.size : Int) - ((vEff ks op a).1.size : Int) < vBase V := by omega
    rw [if_pos h3, if_pos h3']; exact ⟨rfl, fun e => absurd e (by simp)⟩
  have h3' : ¬ (S.size : Int) - ((vEff ks op a).1.size : Int) < vBase V := by omega
  rw [if_neg h3, if_neg h3']
  by_cases h4 : S.extract (S.size - (vEff ks op a).1.size) S.size = (vEff ks op a).1
  · rw [if_pos h4, if_pos h4]
    by_cases h5 : S.size - (vEff ks op a).1.size + (vEff ks op a).2.size ≤ 8
    · rw [if_pos h5, if_pos h5]
      have hc : VR (S.extract 0 (S.size - (vEff ks op a).1.size) ++ (vEff ks op a).2) O V := h.cut (by omega) (by omega)
      by_cases h6 : 21 ≤ op ∧ op ≤ 24
      · rw [if_pos h6]
        obtain ⟨n1, n2⟩ := nest_eq (at_ := at_) hc h6
        exact ⟨n1, fun e => ⟨rfl, n2 e⟩⟩
      · rw [if_neg h6]
        have hv : vNest at_ op (S.extract 0 (S.size - (vEff ks op a).1.size) ++ (vEff ks op a).2) V = (0, V) := by
          unfold vNest
          rw [if_neg (by omega : ¬ (op = 21 ∨ op = 24)), if_neg (by omega : ¬ op = 22), if_neg (by omega : ¬ op = 23)]
        rw [hv]
        exact ⟨rfl, fun _ => ⟨rfl, hc⟩⟩
    · rw [if_neg h5, if_neg h5]; exact ⟨rfl, fun e => absurd e (by simp)⟩
  · rw [if_neg h4, if_neg h4]; exact ⟨rfl, fun e => absurd e (by simp)⟩
theorem loop_eq (ks : List Int) (R : Int) (xs : List S96) : ∀ (at_ : Int) (S : ByteArray) (O : List SO) (V : List VO) (out : List ByteArray), VR S O V → sInv S O → (vLoop ks R xs at_ S V out).2 = sLoop ks R xs at_ S O := by
  induction xs with
  | nil =>
    intro at_ S O V out h hi
    cases O <;> cases V <;> simp only [VR] at h
    · simp only [vLoop, sLoop]; split <;> rfl
    · simp only [vLoop, sLoop]; rw [h.1]
  | cons x xs ih =>
    intro at_ S O V out h hi
    obtain ⟨e1, e2⟩ := step_eq (ks := ks) (R := R) (at_ := at_) (op := x.f0) (a := x.f1) h hi
    simp only [vLoop, sLoop]
    rw [← e1]
    by_cases hc : (sStep ks R at_ x.f0 x.f1 S O).1 = 0
    · rw [if_pos hc, if_pos hc]
      obtain ⟨e3, e4⟩ := e2 hc
      rw [← e3]
      exact ih _ _ _ _ _ e4 (sStep_inv hi hc)
    · rw [if_neg hc, if_neg hc]

/-- The program's routine for the law's. -/
def cvR (x : S117) : S124 := ⟨x.f0.map cvI⟩
theorem toRoutine_eq (l : List S88) (hl : l.length ≤ 1048576) (k : Nat) (hk : l.length < k) : laws_toRoutine.f k l = some (l.map cvI) := by
  unfold laws_toRoutine.f
  rw [toInstrS_eq l hl k hk]; rfl
theorem toRoutineS_from (l : List S117) (hl : l.length ≤ 1048576) (hm : ∀ x ∈ l, x.f0.length ≤ 1048576) : ∀ (d k i : Nat) (ys : List S124), l.length - i ≤ d → d + 1048577 < k → i ≤ l.length → ys.length = l.length → ys.take i = (l.take i).map cvR → laws_toRoutineS.l0 k l ys (i : Int) = some (l.map cvR) := by
  intro d
  induction d with
  | zero =>
    intro k i ys hd hk hi hy ht
    obtain ⟨k, rfl⟩ : ∃ m, k = m + 1 := ⟨k - 1, by omega⟩
    simp only [laws_toRoutineS.l0]
    rw [if_neg (by omega)]
    have e : i = l.length := by omega
    subst e
    rw [List.take_of_length_le (by omega), List.take_of_length_le (by omega)] at ht
    rw [ht]
  | succ d ih =>
    intro k i ys hd hk hi hy ht
    obtain ⟨k, rfl⟩ : ∃ m, k = m + 1 := ⟨k - 1, by omega⟩
    by_cases h : i < l.length
    · have hw : wrap64 ((i : Int) + 1) = ((i + 1 : Nat) : Int) := by unfold wrap64; omega
      have e : rd_T117 l (i : Int) = l[i] := by simp [rd_T117, List.getD_eq_getElem?_getD, h]
      have hmi := hm l[i] (List.getElem_mem h)
      conv => lhs; unfold laws_toRoutineS.l0
      rw [if_pos (by omega), if_pos (by omega), e, toRoutine_eq _ hmi _ (by omega)]
      simp only [Option.bind_some]
      rw [if_pos (by omega), hw]
      apply ih k (i + 1) _ (by omega) (by omega) (by omega) (by simpa using hy)
      have hi2 : i < ys.length := by omega
      have ei : ((i : Int)).toNat = i := by omega
      rw [ei]
      apply List.ext_getElem
      · simp; omega
      · intro j h1 h2
        simp only [List.length_take, List.length_set] at h1
        rw [List.getElem_take, List.getElem_set]
        by_cases hj : i = j
        · subst hj
          simp [cvR]
        · have hji : j < i := by omega
          rw [if_neg hj]
          have hh : (ys.take i)[j]? = ((l.take i).map cvR)[j]? := by rw [ht]
          simp [hji] at hh
          rw [List.getElem?_eq_getElem (by omega), List.getElem?_eq_getElem (by omega)] at hh
          simp at hh
          simp [hh]
    · conv => lhs; unfold laws_toRoutineS.l0
      rw [if_neg (by omega)]
      have e : i = l.length := by omega
      subst e
      rw [List.take_of_length_le (by omega), List.take_of_length_le (by omega)] at ht
      rw [ht]
theorem toRoutineS_eq (l : List S117) (hl : l.length ≤ 1048576) (hm : ∀ x ∈ l, x.f0.length ≤ 1048576) (k : Nat) (hk : l.length + 1048577 < k) : laws_toRoutineS.f k l = some (l.map cvR) := by
  unfold laws_toRoutineS.f
  rw [if_pos (by omega), if_pos (by omega)]
  have h := toRoutineS_from l hl hm l.length k 0 (List.replicate l.length z124) (by omega) hk (by omega) (by simp) (by simp)
  simpa using h
theorem eqRoutine_same (l : List S96) (hl : l.length ≤ 1048576) (k : Nat) (hk : l.length < k) : laws_eqRoutine.f k l l = some true := by
  unfold laws_eqRoutine.f
  rw [eqInstrS_eq l hl k hk]; rfl
theorem eqRoutineS_from (l : List S124) (hl : l.length ≤ 1048576) (hm : ∀ x ∈ l, x.f0.length ≤ 1048576) : ∀ (d k i : Nat), l.length - i ≤ d → d + 1048577 < k → i ≤ l.length → laws_eqRoutineS.l0 k l l (i : Int) = some true := by
  intro d
  induction d with
  | zero =>
    intro k i hd hk hi
    obtain ⟨k, rfl⟩ : ∃ m, k = m + 1 := ⟨k - 1, by omega⟩
    simp only [laws_eqRoutineS.l0]
    rw [if_neg (by omega)]
  | succ d ih =>
    intro k i hd hk hi
    obtain ⟨k, rfl⟩ : ∃ m, k = m + 1 := ⟨k - 1, by omega⟩
    simp only [laws_eqRoutineS.l0]
    by_cases h : i < l.length
    · have hw : wrap64 ((i : Int) + 1) = ((i + 1 : Nat) : Int) := by unfold wrap64; omega
      have e : rd_T124 l (i : Int) = l[i] := by simp [rd_T124, List.getD_eq_getElem?_getD, h]
      rw [hw, ih k (i + 1) (by omega) (by omega) (by omega), e, eqRoutine_same _ (hm _ (List.getElem_mem h)) _ (by have := hm _ (List.getElem_mem h); omega)]
      rw [if_pos (by omega), if_pos (by omega), if_pos (by omega)]
      rfl
    · rw [if_neg (by omega)]
theorem eqRoutineS_eq (l : List S124) (hl : l.length ≤ 1048576) (hm : ∀ x ∈ l, x.f0.length ≤ 1048576) (k : Nat) (hk : l.length + 1048577 < k) : laws_eqRoutineS.f k l l = some true := by
  unfold laws_eqRoutineS.f
  rw [if_pos rfl]
  have h := eqRoutineS_from l hl hm l.length k 0 (by omega) hk (by omega)
  simpa using h
theorem szRoutine_eq (l : List S88) (hl : l.length ≤ maxLen) (a : Int) (h0 : 0 ≤ a) (h1 : a ≤ 1048576) : laws_szRoutine.f l a = some (if (l.length : Int) ≤ a then a - (l.length : Int) else -1) := by
  have hm : (l.length : Int) ≤ 9223372036854775807 := by have : maxLen ≤ 9223372036854775807 := (by decide); omega
  have hw : wrap64 (a - (l.length : Int)) = a - l.length := by unfold wrap64; omega
  unfold laws_szRoutine.f laws_szInstrS.f
  rw [hw]
  by_cases h : (l.length : Int) ≤ a
  · rw [if_pos h, if_neg (by omega)]
    simp only [Option.bind_some]
    rw [if_neg (by omega)]
  · rw [if_neg h, if_pos (by omega)]; rfl
theorem szRoutineS_from (l : List S117) (hl : l.length ≤ 1048576) (hm : ∀ x ∈ l, x.f0.length ≤ maxLen) : ∀ (d k i : Nat) (a : Int), l.length - i ≤ d → d < k → i ≤ l.length → 0 ≤ a → a ≤ 1048576 → ∃ t, laws_szRoutineS.l0 k l a (i : Int) = some t ∧ (¬ t < 0 → ∀ j (hj : j < l.length), i ≤ j → l[j].f0.length ≤ 1048576) := by
  intro d
  induction d with
  | zero =>
    intro k i a hd hk hi h0 h1
    obtain ⟨k, rfl⟩ : ∃ m, k = m + 1 := ⟨k - 1, by omega⟩
    refine ⟨a, ?_, fun _ j hj hij => by omega⟩
    simp only [laws_szRoutineS.l0]
    rw [if_neg (by omega)]
  | succ d ih =>
    intro k i a hd hk hi h0 h1
    obtain ⟨k, rfl⟩ : ∃ m, k = m + 1 := ⟨k - 1, by omega⟩
    by_cases h : i < l.length
    · have hw : wrap64 ((i : Int) + 1) = ((i + 1 : Nat) : Int) := by unfold wrap64; omega
      have e : rd_T117 l (i : Int) = l[i] := by simp [rd_T117, List.getD_eq_getElem?_getD, h]
      simp only [laws_szRoutineS.l0]
      rw [if_pos (by omega), if_pos (by omega), e, szRoutine_eq _ (hm _ (List.getElem_mem h)) a h0 h1]
      simp only [Option.bind_some]
      by_cases c : (l[i].f0.length : Int) ≤ a
      · obtain ⟨t, ht, hq⟩ := ih k (i + 1) (a - l[i].f0.length) (by omega) (by omega) (by omega) (by omega) (by omega)
        rw [if_pos c, if_neg (by omega), hw]
        refine ⟨t, ht, fun hn j hj hij => ?_⟩
        by_cases hji : j = i
        · subst hji; omega
        · exact hq hn j hj (by omega)
      · rw [if_neg c, if_pos (by omega)]
        exact ⟨-1, rfl, fun hn => absurd (by omega) hn⟩
    · refine ⟨a, ?_, fun _ j hj hij => by omega⟩
      simp only [laws_szRoutineS.l0]
      rw [if_neg (by omega)]
theorem szRoutineS_cases (l : List S117) (hl : l.length ≤ maxLen) (hm : ∀ x ∈ l, x.f0.length ≤ maxLen) (k : Nat) (hk : 1048577 < k) : ∃ t, laws_szRoutineS.f k l 1048576 = some t ∧ (¬ t < 0 → l.length ≤ 1048576 ∧ ∀ x ∈ l, x.f0.length ≤ 1048576) := by
  have hmx : (l.length : Int) ≤ 9223372036854775807 := by have : maxLen ≤ 9223372036854775807 := (by decide); omega
  have hw : wrap64 (1048576 - (l.length : Int)) = 1048576 - l.length := by unfold wrap64; omega
  unfold laws_szRoutineS.f
  rw [hw]
  by_cases h : (l.length : Int) ≤ 1048576
  · obtain ⟨t, ht, hq⟩ := szRoutineS_from l (by omega) hm l.length k 0 (1048576 - l.length) (by omega) (by omega) (by omega) (by omega) (by omega)
    rw [if_neg (by omega)]
    refine ⟨t, ht, fun hn => ⟨by omega, fun x hx => ?_⟩⟩
    obtain ⟨j, hj, rfl⟩ := List.getElem_of_mem hx
    exact hq hn j hj (by omega)
  · rw [if_pos (by omega)]
    exact ⟨-1, rfl, fun hn => absurd (by omega) hn⟩

theorem impl_all_Routine_areRoutines_1_from (p : S124 → Bool) (K : Nat) (l : List S124) (hF : ∀ (k : Nat) (x : S124), K ≤ k → x ∈ l → impl_areRoutines_1.f k x.f0 = some (p x)) (hl : l.length ≤ 1048576) : ∀ (d k i : Nat), l.length - i ≤ d → d + K < k → i ≤ l.length →
    ∃ j, impl_all_Routine_areRoutines_1.l0 k l (i : Int) = some j ∧ (!(decide (0 ≤ j))) = (l.drop i).all p := by
  intro d
  induction d with
  | zero =>
    intro k i hd hk hi
    obtain ⟨k, rfl⟩ : ∃ m, k = m + 1 := ⟨k - 1, by omega⟩
    refine ⟨-1, ?_, ?_⟩
    · simp only [impl_all_Routine_areRoutines_1.l0]
      rw [if_neg (by omega)]
    · rw [List.drop_of_length_le (by omega)]
      rfl
  | succ d ih =>
    intro k i hd hk hi
    obtain ⟨k, rfl⟩ : ∃ m, k = m + 1 := ⟨k - 1, by omega⟩
    by_cases h : i < l.length
    · have e : rd_T124 l (i : Int) = l[i] := by simp [rd_T124, List.getD_eq_getElem?_getD, h]
      have hw : wrap64 ((i : Int) + 1) = ((i + 1 : Nat) : Int) := by unfold wrap64; omega
      obtain ⟨j, hj, hp⟩ := ih k (i + 1) (by omega) (by omega) (by omega)
      have hx := hF k l[i] (by omega) (List.getElem_mem h)
      rw [List.drop_eq_getElem_cons h, List.all_cons]
      simp only [impl_all_Routine_areRoutines_1.l0]
      rw [if_pos (by omega), if_pos (by omega), e, hw, hx]
      simp only [Option.bind_some]
      cases p l[i] with
      | true => exact ⟨j, by rw [if_pos rfl]; exact hj, by simpa using hp⟩
      | false => exact ⟨(i : Int), by rw [if_neg (by decide)], by simp⟩
    · refine ⟨-1, ?_, ?_⟩
      · simp only [impl_all_Routine_areRoutines_1.l0]
        rw [if_neg (by omega)]
      · rw [List.drop_of_length_le (by omega)]
        rfl
theorem impl_all_Routine_areRoutines_1_eq (p : S124 → Bool) (K : Nat) (l : List S124) (hF : ∀ (k : Nat) (x : S124), K ≤ k → x ∈ l → impl_areRoutines_1.f k x.f0 = some (p x)) (hl : l.length ≤ 1048576) (k : Nat) (hk : l.length + K < k) : impl_all_Routine_areRoutines_1.f k l = some (l.all p) := by
  obtain ⟨j, hj, hp⟩ := impl_all_Routine_areRoutines_1_from p K l hF hl l.length k 0 (by omega) (by omega) (by omega)
  unfold impl_all_Routine_areRoutines_1.f
  have hj' : impl_all_Routine_areRoutines_1.l0 k l 0 = some j := hj
  rw [hj']
  simp only [Option.bind_some]
  rw [hp]
  rfl

def routB (x : S124) : Bool := decide (x.f0.length ≤ 40) && x.f0.all insB
theorem areRoutines_eq (l : List S124) (l1 : List Int) (hl : l.length ≤ 1048576) (h1 : l1.length ≤ 1048576) (hm : ∀ x ∈ l, x.f0.length ≤ 1048576) (k : Nat) (hk : l.length + l1.length + 1048600 < k) :
    impl_areRoutines.f k l l1 = some ((decide (l1.length ≤ 8) && l1.all kindB) && (decide (l.length ≤ 6) && l.all routB)) := by
  unfold impl_areRoutines.f
  rw [areKinds_eq l1 h1 k (by omega)]
  simp only [Option.bind_some]
  cases (decide (l1.length ≤ 8) && l1.all kindB)
  · rfl
  · simp only [if_true, Bool.true_and]
    by_cases h : l.length ≤ 6
    · rw [if_pos (by omega), decide_eq_true h, impl_all_Routine_areRoutines_1_eq routB 1048590 l (fun k x hk hx => by
        unfold impl_areRoutines_1.f
        rw [isCode_eq _ (hm x hx) k (by have := hm x hx; omega)]; rfl) hl k (by omega)]
      rfl
    · rw [if_neg (by omega), decide_eq_false h]; rfl
theorem l04Routines_from (l : List S124) (hl : l.length ≤ 1048576) (hm : ∀ x ∈ l, x.f0.length ≤ 1048576) : ∀ (d k i : Nat), l.length - i ≤ d → d + 1048590 < k → i ≤ l.length → spec_l04Routines.l0 k l (i : Int) = some ((l.drop i).all routB) := by
  intro d
  induction d with
  | zero =>
    intro k i hd hk hi
    obtain ⟨k, rfl⟩ : ∃ m, k = m + 1 := ⟨k - 1, by omega⟩
    simp only [spec_l04Routines.l0]
    rw [if_neg (by omega), List.drop_of_length_le (by omega)]
    rfl
  | succ d ih =>
    intro k i hd hk hi
    obtain ⟨k, rfl⟩ : ∃ m, k = m + 1 := ⟨k - 1, by omega⟩
    simp only [spec_l04Routines.l0]
    by_cases h : i < l.length
    · have e : rd_T124 l (i : Int) = l[i] := by simp [rd_T124, List.getD_eq_getElem?_getD, h]
      have hw : wrap64 ((i : Int) + 1) = ((i + 1 : Nat) : Int) := by unfold wrap64; omega
      rw [if_pos (by omega), if_pos (by omega), e, hw, ih k (i + 1) (by omega) (by omega) (by omega), List.drop_eq_getElem_cons h, List.all_cons]
      unfold routB
      by_cases c : l[i].f0.length ≤ 40
      · rw [if_neg (by omega), decide_eq_true c, l02All_eq _ (by omega) _ (by omega)]
        simp only [Option.bind_some, Bool.true_and]
        cases l[i].f0.all insB <;> rfl
      · rw [if_pos (by omega), decide_eq_false c]; rfl
    · rw [if_neg (by omega), List.drop_of_length_le (by omega)]
      rfl
theorem l04Routines_eq (l : List S124) (hl : l.length ≤ 1048576) (hm : ∀ x ∈ l, x.f0.length ≤ 1048576) (k : Nat) (hk : l.length + 1048590 < k) : spec_l04Routines.f k l = some (decide (l.length ≤ 6) && l.all routB) := by
  unfold spec_l04Routines.f
  by_cases h : l.length ≤ 6
  · have := l04Routines_from l hl hm l.length k 0 (by omega) hk (by omega)
    rw [if_neg (by omega), decide_eq_true h]
    simpa using this
  · rw [if_pos (by omega), decide_eq_false h]; rfl
theorem verify_ok {x : S124} {l1 : List Int} (h1 : l1.all kindB = true) (h : routB x = true) (a : Int) : ∃ r, spec_l04Verify.f x.f0 l1 a = some r ∧ ∃ q, impl_verify.f x.f0 l1 a = some (q, r) := by
  unfold routB at h
  simp only [Bool.and_eq_true, decide_eq_true_eq] at h
  have hp := ok_of_ins h.1 h1 h.2
  unfold spec_l04Verify.f impl_verify.f
  rw [if_pos hp, if_pos hp]
  have he := loop_eq l1 a x.f0 0 ⟨#[]⟩ [] [] [] trivial ⟨by decide, by decide, by simp⟩
  exact ⟨_, rfl, (vLoop l1 a x.f0 0 ⟨#[]⟩ [] []).1, by rw [← he]⟩
theorem verifyAll_from (l : List S124) (l1 : List Int) (hl : l.length ≤ 4096) (h1 : l1.all kindB = true) (hr : l.all routB = true) : ∀ (d k i : Nat), l.length - i ≤ d → d < k → i ≤ l.length →
    ∃ r, spec_l04All.l0 k l l1 (i : Int) = some r ∧ impl_verifyAll.l0 k l1 l (l.length : Int) (i : Int) = some r := by
  intro d
  induction d with
  | zero =>
    intro k i hd hk hi
    obtain ⟨k, rfl⟩ : ∃ m, k = m + 1 := ⟨k - 1, by omega⟩
    refine ⟨(0, 0, 0), ?_, ?_⟩
    · simp only [spec_l04All.l0]; rw [if_neg (by omega)]
    · simp only [impl_verifyAll.l0]; rw [if_neg (by omega)]
  | succ d ih =>
    intro k i hd hk hi
    obtain ⟨k, rfl⟩ : ∃ m, k = m + 1 := ⟨k - 1, by omega⟩
    by_cases h : i < l.length
    · have e : rd_T124 l (i : Int) = l[i] := by simp [rd_T124, List.getD_eq_getElem?_getD, h]
      have hw : wrap64 ((i : Int) + 1) = ((i + 1 : Nat) : Int) := by unfold wrap64; omega
      obtain ⟨r, hs, q, hi'⟩ := verify_ok h1 (List.all_eq_true.1 hr _ (List.getElem_mem h)) (i : Int)
      obtain ⟨r', g1, g2⟩ := ih k (i + 1) (by omega) (by omega) (by omega)
      simp only [spec_l04All.l0, impl_verifyAll.l0]
      rw [if_pos (by omega), if_pos (by omega), if_pos (by omega), if_pos (by omega), if_pos (by omega), e, hs, hi', hw]
      simp only [Option.bind_some]
      by_cases c : r.2 = 0
      · rw [if_pos c, if_pos c]; exact ⟨r', g1, g2⟩
      · rw [if_neg c, if_neg c]; exact ⟨_, rfl, rfl⟩
    · refine ⟨(0, 0, 0), ?_, ?_⟩
      · simp only [spec_l04All.l0]; rw [if_neg (by omega)]
      · simp only [impl_verifyAll.l0]; rw [if_neg (by omega)]
theorem verifyAll_same (l : List S124) (l1 : List Int) (hl : l.length ≤ 4096) (h1 : l1.all kindB = true) (hr : l.all routB = true) (k : Nat) (hk : l.length < k) :
    ∃ r, spec_l04All.f k l l1 = some r ∧ impl_verifyAll.f k l l1 = some r := by
  unfold spec_l04All.f impl_verifyAll.f
  exact verifyAll_from l l1 hl h1 hr l.length k 0 (by omega) hk (by omega)

theorem va_same (l : List S124) (l1 : List Int) (hl : l.length ≤ 1048576) (h1 : l1.length ≤ 1048576) (hm : ∀ x ∈ l, x.f0.length ≤ 1048576) (k : Nat) (hk : l.length + l1.length + 1048620 < k) :
    ∃ r, spec_VerifyAll.f k l l1 = some r ∧ impl_VerifyAll.f k l l1 = some r := by
  obtain ⟨k, rfl⟩ : ∃ m, k = m + 1 := ⟨k - 1, by omega⟩
  unfold spec_VerifyAll.f impl_VerifyAll.f impl_Routine_151.f impl_many_int.f
  simp only [when_eq, Option.bind_some]
  rw [areRoutines_eq l l1 hl h1 hm _ (by omega)]
  simp only [Option.bind_some]
  rw [first_eq _ (by simp) _ (by simp; omega)]
  simp only [Option.bind_some, fnz]
  by_cases c0 : 4096 < l.length
  · have e0 : (4096 : Int) < l.length := by omega
    refine ⟨(0, 0, 2), ?_, ?_⟩
    · rw [if_pos e0]; simp only [spec_VerifyAll.j0]; rfl
    · simp [e0]
  have e0 : ¬ (4096 : Int) < l.length := by omega
  by_cases c1 : 4096 < l1.length
  · have e1 : (4096 : Int) < l1.length := by omega
    refine ⟨(0, 0, 2), ?_, ?_⟩
    · rw [if_neg e0, decide_eq_true e1]; simp only [spec_VerifyAll.j0]; rfl
    · simp [e0, e1]
  have e1 : ¬ (4096 : Int) < l1.length := by omega
  rw [if_neg e0, decide_eq_false e1]
  have d0 : decide ((l.length : Int) > 4096) = false := decide_eq_false e0
  have d1 : decide ((l1.length : Int) > 4096) = false := decide_eq_false e1
  simp only [spec_VerifyAll.j0, Bool.false_eq_true, if_false, d0, d1, if_true]
  rw [l04Kinds_eq l1 h1 _ (by omega)]
  simp only [Option.bind_some]
  cases hkb : (decide (l1.length ≤ 8) && l1.all kindB)
  · refine ⟨(0, 0, 1), ?_, ?_⟩
    · rfl
    · simp
  · simp only [if_true, Bool.true_and]
    rw [l04Routines_eq l hl hm _ (by omega)]
    simp only [Option.bind_some]
    cases hrb : (decide (l.length ≤ 6) && l.all routB)
    · refine ⟨(0, 0, 1), ?_, ?_⟩
      · rfl
      · simp
    · simp only [Bool.and_eq_true] at hkb hrb
      obtain ⟨r, r1, _⟩ := verifyAll_same l l1 (by omega) hkb.2 hrb.2 k (by omega)
      obtain ⟨r', _, r2⟩ := verifyAll_same l l1 (by omega) hkb.2 hrb.2 (k + 1) (by omega)
      have hrr : r = r' := by
        have m := spec_l04All.mono l l1 k r r1
        obtain ⟨r3, r31, r32⟩ := verifyAll_same l l1 (by omega) hkb.2 hrb.2 (k + 1) (by omega)
        rw [r32] at r2
        rw [r31] at m
        injection m with m; injection r2 with r2
        rw [← m, r2]
      subst hrr
      refine ⟨r, ?_, ?_⟩
      · rw [if_pos rfl, r1]; rfl
      · simp only [Bool.not_true, Bool.false_eq_true, if_false, if_true]
        rw [r2]; rfl

theorem markIntB_from : ∀ (d k i : Nat) (l : List Int) (a b : Int), l.length - i ≤ d → d < k → i ≤ l.length → l.length ≤ 1048576 → 0 ≤ a → a ≤ 4611686018427387904 → b = a + i → (∀ j : Nat, j < i → l[j]? = some (a + j)) →
    ∃ l', laws_markIntS.l0 k l b (i : Int) = some (a + l.length, l') ∧ l'.length = l.length ∧ ∀ j : Nat, j < l.length → l'[j]? = some (a + j) := by
  intro d
  induction d with
  | zero =>
    intro k i l a b hd hk hi hl h0 h1 hb hA
    obtain ⟨k, rfl⟩ : ∃ m, k = m + 1 := ⟨k - 1, by omega⟩
    simp only [laws_markIntS.l0]
    rw [if_neg (by omega)]
    have e : i = l.length := by omega
    subst e
    exact ⟨l, by rw [hb], rfl, hA⟩
  | succ d ih =>
    intro k i l a b hd hk hi hl h0 h1 hb hA
    obtain ⟨k, rfl⟩ : ∃ m, k = m + 1 := ⟨k - 1, by omega⟩
    simp only [laws_markIntS.l0]
    by_cases h : i < l.length
    · have hw : wrap64 ((i : Int) + 1) = ((i + 1 : Nat) : Int) := by unfold wrap64; omega
      have hw2 : wrap64 (b + 1) = b + 1 := by unfold wrap64; omega
      rw [if_pos (by omega), if_pos (by omega), hw, hw2, Int.toNat_natCast]
      have hs := ih k (i + 1) (l.set i b) a (b + 1) (by simp; omega) (by omega) (by simp; omega) (by simpa using hl) h0 h1 (by omega) (fun j hj => by
        rw [List.getElem?_set]
        by_cases hji : i = j
        · subst hji
          rw [if_pos rfl, if_pos h, hb]
        · rw [if_neg hji]
          exact hA j (by omega))
      simpa using hs
    · rw [if_neg (by omega)]
      have e : i = l.length := by omega
      subst e
      exact ⟨l, by rw [hb], rfl, hA⟩
theorem markIntB_eq (l : List Int) (hl : l.length ≤ 1048576) (a : Int) (h0 : 0 ≤ a) (h1 : a ≤ 4611686018427387904) (k : Nat) (hk : l.length < k) :
    ∃ l', laws_markIntS.f k l a = some (a + l.length, l') ∧ l'.length = l.length ∧ ∀ j : Nat, j < l.length → l'[j]? = some (a + j) :=
  markIntB_from l.length k 0 l a a (by omega) hk (by omega) hl h0 h1 (by simp) (fun j hj => by omega)

theorem eqFrame_same (a b : Int) (l : List Int) (hl : l.length ≤ 1048576) (k : Nat) (hk : l.length < k) : laws_eqFrame.f k a b l a b l = some true := by
  unfold laws_eqFrame.f
  rw [if_pos rfl, if_pos rfl, eqIntS_same l hl k hk]; rfl
theorem eqFrameS_from (l : List S184) (hl : l.length ≤ 1048576) (hm : ∀ x ∈ l, x.f2.length ≤ 1048576) : ∀ (d k i : Nat), l.length - i ≤ d → d + 1048577 < k → i ≤ l.length → laws_eqFrameS.l0 k l l (i : Int) = some true := by
  intro d
  induction d with
  | zero =>
    intro k i hd hk hi
    obtain ⟨k, rfl⟩ : ∃ m, k = m + 1 := ⟨k - 1, by omega⟩
    simp only [laws_eqFrameS.l0]
    rw [if_neg (by omega)]
  | succ d ih =>
    intro k i hd hk hi
    obtain ⟨k, rfl⟩ : ∃ m, k = m + 1 := ⟨k - 1, by omega⟩
    simp only [laws_eqFrameS.l0]
    by_cases h : i < l.length
    · have hw : wrap64 ((i : Int) + 1) = ((i + 1 : Nat) : Int) := by unfold wrap64; omega
      have e : rd_T184 l (i : Int) = l[i] := by simp [rd_T184, List.getD_eq_getElem?_getD, h]
      rw [hw, ih k (i + 1) (by omega) (by omega) (by omega), e, eqFrame_same _ _ _ (hm _ (List.getElem_mem h)) _ (by have := hm _ (List.getElem_mem h); omega)]
      rw [if_pos (by omega), if_pos (by omega), if_pos (by omega)]
      rfl
    · rw [if_neg (by omega)]
theorem eqFrameS_eq (l : List S184) (hl : l.length ≤ 1048576) (hm : ∀ x ∈ l, x.f2.length ≤ 1048576) (k : Nat) (hk : l.length + 1048577 < k) : laws_eqFrameS.f k l l = some true := by
  unfold laws_eqFrameS.f
  rw [if_pos rfl]
  have h := eqFrameS_from l hl hm l.length k 0 (by omega) hk (by omega)
  simpa using h

theorem own_nil (k : Nat) (hk : 3 ≤ k) : spec_l07Own.f k [] [] = some ([], []) := by
  obtain ⟨k, rfl⟩ : ∃ m, k = m + 1 := ⟨k - 1, by omega⟩
  unfold spec_l07Own.f spec_l07Own.l0
  rfl
theorem own_one (k : Nat) (hk : 3 ≤ k) (a : Int) : spec_l07Own.f k [⟨a, 0, []⟩] [] = some ([⟨a, 0, []⟩], []) := by
  obtain ⟨k, rfl⟩ : ∃ m, k = m + 1 + 1 := ⟨k - 2, by omega⟩
  unfold spec_l07Own.f spec_l07Own.l0
  have hw : wrap64 ((0 : Int) + 1) = 1 := by unfold wrap64; omega
  simp only [hw, List.nil_append]
  unfold spec_l07Own.l0
  rfl
theorem up_same (k : Nat) (hk : 3 ≤ k) (l : List S124) (a : Int) (h0 : 0 ≤ a) (h1 : a < l.length) : ∃ R : List S184 × List Int, R.2 = [] ∧ (R.1 = [] ∨ R.1 = [⟨a, 0, []⟩]) ∧ spec_l07New.f k l a = some R ∧ impl_newCore.f l a = some R := by
  obtain ⟨k, rfl⟩ : ∃ m, k = m + 1 + 1 := ⟨k - 2, by omega⟩
  have hw : wrap64 ((1 : Int) - 1) = 0 := by unfold wrap64; omega
  have hr : rd_T184 [(⟨a, 0, []⟩ : S184)] 0 = ⟨a, 0, []⟩ := rfl
  unfold spec_l07New.f spec_l07Up.f spec_l07Up.l0 impl_newCore.f
  simp only [List.length_cons, List.length_nil, Nat.zero_add, Int.natCast_one, hw, hr]
  rw [if_pos h0, if_pos h1, if_pos (by omega), if_pos (by omega), if_pos (by omega), if_pos h0, if_pos h1]
  by_cases c : (((rd_T124 l a).f0).length : Int) = 0
  · rw [if_pos c, if_neg (by omega), if_pos (by omega)]
    refine ⟨([], []), rfl, .inl rfl, ?_, rfl⟩
    unfold spec_l07Up.l0
    rfl
  · rw [if_neg c, if_pos (by omega)]
    exact ⟨([⟨a, 0, []⟩], []), rfl, .inr rfl, rfl, rfl⟩
theorem nc_same (l : List S124) (l1 : List Int) (a : Int) (hl : l.length ≤ 1048576) (h1 : l1.length ≤ 1048576) (hm : ∀ x ∈ l, x.f0.length ≤ 1048576) (k : Nat) (hk : l.length + l1.length + 1048700 < k) :
    ∃ R : List S184 × List Int × Int, R.2.1 = [] ∧ (R.1 = [] ∨ R.1 = [⟨a, 0, []⟩]) ∧ spec_NewCore.f k l l1 a = some R ∧ impl_NewCore.f k l l1 a = some R := by
  obtain ⟨k, rfl⟩ : ∃ m, k = m + 1 := ⟨k - 1, by omega⟩
  obtain ⟨r, r1, r2⟩ := va_same l l1 hl h1 hm k (by omega)
  obtain ⟨r', s1, s2⟩ := va_same l l1 hl h1 hm (k + 1) (by omega)
  have hrr : r' = r := by
    have := spec_VerifyAll.mono l l1 k r r1
    rw [s1] at this
    exact Option.some.inj this
  rw [hrr] at s1 s2
  unfold spec_NewCore.f impl_NewCore.f
  rw [s2]
  simp only [Option.bind_some]
  by_cases c0 : 4096 < l.length
  · have e0 : (4096 : Int) < l.length := by omega
    unfold spec_VerifyAll.f at s1
    rw [if_pos e0] at s1
    simp only [spec_VerifyAll.j0, if_true] at s1
    obtain rfl := Option.some.inj s1
    exact ⟨([], [], 2), rfl, .inl rfl, by rw [if_pos e0]; simp only [spec_NewCore.j0, if_true], by rw [if_neg (by decide)]⟩
  have e0 : ¬ (4096 : Int) < l.length := by omega
  by_cases c1 : 4096 < l1.length
  · have e1 : (4096 : Int) < l1.length := by omega
    unfold spec_VerifyAll.f at s1
    rw [if_neg e0, decide_eq_true e1] at s1
    simp only [spec_VerifyAll.j0, if_true] at s1
    obtain rfl := Option.some.inj s1
    exact ⟨([], [], 2), rfl, .inl rfl, by rw [if_neg e0, decide_eq_true e1]; simp only [spec_NewCore.j0, if_true], by rw [if_neg (by decide)]⟩
  have e1 : ¬ (4096 : Int) < l1.length := by omega
  rw [if_neg e0, decide_eq_false e1]
  simp only [spec_NewCore.j0, Bool.false_eq_true, if_false]
  rw [r1]
  simp only [Option.bind_some]
  by_cases cz : r.2.2 = 0
  · have hw : wrap64 ((l.length : Int) - 1) = (l.length : Int) - 1 := by unfold wrap64; omega
    rw [if_pos cz, if_pos cz, hw, l01In_eq, within_eq]
    simp only [Option.bind_some]
    by_cases ca : 0 ≤ a ∧ a ≤ (l.length : Int) - 1
    · obtain ⟨R, h2, h3, h4, h5⟩ := up_same k (by omega) l a ca.1 (by omega)
      rw [decide_eq_true ca]
      simp only [if_true]
      rw [h4, h5]
      obtain ⟨R1, R2⟩ := R
      simp only at h2 h3
      subst h2
      simp only [Option.bind_some]
      refine ⟨(R1, [], 0), rfl, h3, ?_, rfl⟩
      rcases h3 with rfl | rfl
      · rw [own_nil k (by omega)]; rfl
      · rw [own_one k (by omega)]; rfl
    · rw [decide_eq_false ca]
      exact ⟨([], [], 4), rfl, .inl rfl, rfl, rfl⟩
  · rw [if_neg cz, if_neg cz]
    exact ⟨([], [], r.2.2), rfl, .inl rfl, rfl, rfl⟩
theorem nc_all (l : List S124) (l1 : List Int) (a : Int) (hl : l.length ≤ 1048576) (h1 : l1.length ≤ 1048576) (hm : ∀ x ∈ l, x.f0.length ≤ 1048576) :
    ∃ R : List S184 × List Int × Int, R.2.1 = [] ∧ (R.1 = [] ∨ R.1 = [⟨a, 0, []⟩]) ∧ ∀ k, l.length + l1.length + 1048700 < k → spec_NewCore.f k l l1 a = some R ∧ impl_NewCore.f k l l1 a = some R := by
  obtain ⟨b, hb⟩ : ∃ b, b = l.length + l1.length + 1048701 := ⟨_, rfl⟩
  obtain ⟨R, r0, r3, r1, r2⟩ := nc_same l l1 a hl h1 hm b (by omega)
  refine ⟨R, r0, r3, fun k hk => ?_⟩
  obtain ⟨d, rfl⟩ : ∃ d, k = b + d := ⟨k - b, by omega⟩
  clear hk hb
  induction d with
  | zero => exact ⟨r1, r2⟩
  | succ d ih => exact ⟨spec_NewCore.mono l l1 a (b + d) R ih.1, impl_NewCore.mono l l1 a (b + d) R ih.2⟩
theorem totR_bd : ∀ (l : List S124), (∀ x ∈ l, x.f0.length ≤ 1048576) → totR l ≤ l.length * 1048576
  | [], _ => by simp [totR]
  | x :: l, h => by
    have ih := totR_bd l (fun y hy => h y (List.mem_cons_of_mem _ hy))
    have hx := h x (List.mem_cons_self ..)
    have e : totR (x :: l) = x.f0.length + totR l := by simp [totR]
    rw [e, List.length_cons]
    omega
theorem mark_held (R1 : List S184) (a : Int) (h : R1 = [] ∨ R1 = [⟨a, 0, []⟩]) : ∃ (m : Int) (F : List S184), 0 ≤ m ∧ ∀ k, 5 ≤ k → laws_markCore.f k R1 [] 1 = some (m, F, []) ∧ laws_heldCore.f k F [] 1 = some m := by
  rcases h with rfl | rfl
  · refine ⟨1, [], by omega, fun k hk => ?_⟩
    obtain ⟨k, rfl⟩ : ∃ m, k = m + 1 + 1 := ⟨k - 2, by omega⟩
    exact ⟨rfl, rfl⟩
  · refine ⟨3, [⟨1, 2, []⟩], by omega, fun k hk => ?_⟩
    obtain ⟨k, rfl⟩ : ∃ m, k = m + 1 + 1 + 1 := ⟨k - 3, by omega⟩
    have ht : totF [(⟨a, 0, []⟩ : S184)] = 2 := rfl
    have w1 : wrap64 ((1 : Int) + 1) = 2 := by unfold wrap64; omega
    have w2 : wrap64 ((2 : Int) + 1) = 3 := by unfold wrap64; omega
    have w3 : wrap64 ((0 : Int) + 1) = 1 := by unfold wrap64; omega
    constructor
    · unfold laws_markCore.f
      rw [ht, if_pos ⟨rfl, by decide, by decide⟩]
      unfold laws_markIntS.f laws_markIntS.l0
      rfl
    · have hr : rd_T184 [(⟨1, 2, []⟩ : S184)] 0 = ⟨1, 2, []⟩ := rfl
      unfold laws_heldCore.f laws_heldFrameS.f laws_heldFrameS.l0
      simp only [hr, w1, w2, w3, List.length_cons, List.length_nil, Nat.zero_add, Int.natCast_one]
      unfold laws_heldIntS.f laws_heldIntS.l0 laws_heldFrameS.l0
      rfl
theorem eqCore_same (R1 : List S184) (a : Int) (h : R1 = [] ∨ R1 = [⟨a, 0, []⟩]) (k : Nat) (hk : 1048600 ≤ k) : laws_eqCore.f k R1 [] R1 [] = some true := by
  have hl : R1.length ≤ 1 := by rcases h with rfl | rfl <;> simp
  have hm : ∀ x ∈ R1, x.f2.length ≤ 1048576 := by rcases h with rfl | rfl <;> simp
  unfold laws_eqCore.f
  rw [eqFrameS_eq R1 (by omega) hm k (by omega)]
  simp only [Option.bind_some, if_true]
  rw [eqIntS_same [] (by simp) k (by simp; omega)]
  rfl
theorem FnExactNewCore : laws_FnExactNewCore.Pure := by
  intro l0 l1 a h0 h1 _
  obtain ⟨h0, hw⟩ := h0
  obtain ⟨h1, _⟩ := h1
  obtain ⟨K, hK⟩ : ∃ K, K = l0.length + l1.length + 1048800 := ⟨_, rfl⟩
  refine ⟨K + 1 + 1 + 1, ?_⟩
  unfold laws_FnExactNewCore.f
  by_cases c1 : (l1.length : Int) > 1048576
  · rw [if_pos c1]
  rw [if_neg c1]
  obtain ⟨t, ht, hq⟩ := szRoutineS_cases l0 h0 (fun x hx => (hw x hx).1) (K + 1 + 1 + 1) (by omega)
  rw [ht]
  simp only [Option.bind_some]
  by_cases c : t < 0
  · rw [if_pos c]
  obtain ⟨q0, qm⟩ := hq c
  have qm' : ∀ x ∈ l0.map cvR, x.f0.length ≤ 1048576 := by
    intro x hx
    obtain ⟨y, hy, rfl⟩ := List.mem_map.1 hx
    simpa [cvR] using qm y hy
  have n0 : (l0.map cvR).length = l0.length := by simp
  have tb := totR_bd (l0.map cvR) qm'
  rw [n0] at tb
  have tb2 : totR (l0.map cvR) ≤ 1099511627776 := Nat.le_trans tb (Nat.le_trans (Nat.mul_le_mul_right _ q0) (by decide))
  clear tb
  rw [if_neg c, toRoutineS_eq l0 q0 qm _ (by omega), toIntS_eq l1 (by omega) _ (by omega)]
  obtain ⟨⟨R1, R2, R3⟩, e2, e3, hr⟩ := nc_all (l0.map cvR) l1 a (by omega) (by omega) qm'
  simp only at e2 e3
  subst e2
  have heq := fun k (hk : 1048600 ≤ k) => eqCore_same R1 a e3 k hk
  simp only [Option.bind_some]
  rw [(hr (K + 1 + 1 + 1) (by omega)).1, (hr (K + 1 + 1 + 1) (by omega)).2]
  simp only [Option.bind_some, bne_self_eq_false]
  rw [heq _ (by omega)]
  simp only [Option.bind_some, if_true]
  simp only [laws_FnExactNewCore.j0, Bool.false_eq_true, if_false]
  rw [toRoutineS_eq l0 q0 qm _ (by omega)]
  simp only [Option.bind_some]
  rw [eqRoutineS_eq _ (by omega) qm' _ (by omega)]
  simp only [Option.bind_some, if_true]
  rw [toIntS_eq l1 (by omega) _ (by omega)]
  simp only [Option.bind_some]
  rw [eqIntS_same l1 (by omega) _ (by omega)]
  simp only [Option.bind_some, if_true]
  have hmr : laws_markRoutineS.f (l0.map cvR) 1 = some (1 + 2 * (totR (l0.map cvR) : Int)) := by
    unfold laws_markRoutineS.f
    rw [if_pos (by omega)]
  rw [hmr]
  simp only [Option.bind_some]
  obtain ⟨lm, f1, f2, _⟩ := markIntB_eq l1 (by omega) (1 + 2 * (totR (l0.map cvR) : Int)) (by omega) (by omega) (K + 1 + 1) (by omega)
  rw [f1]
  simp only [Option.bind_some]
  rw [if_neg (by omega), heq _ (by omega)]
  simp only [Option.bind_some, if_true]
  simp only [laws_FnExactNewCore.j1, Bool.false_eq_true, if_false]
  obtain ⟨m, F, m0, hmh⟩ := mark_held R1 a e3
  rw [(hmh (K + 1) (by omega)).1]
  simp only [Option.bind_some]
  rw [(hmh (K + 1) (by omega)).2]
  simp only [Option.bind_some, if_true]
  rw [if_neg (show ¬ m < 0 by omega), toRoutineS_eq l0 q0 qm _ (by omega)]
  simp only [Option.bind_some]
  rw [toIntS_eq l1 (by omega) _ (by omega)]
  simp only [Option.bind_some]
  rw [(hr (K + 1) (by omega)).2]
  simp only [Option.bind_some]
  rw [heq _ (by omega)]
  simp only [Option.bind_some, if_true, bne_self_eq_false]
  simp only [laws_FnExactNewCore.j2, Bool.false_eq_true, if_false]
  rw [(hmh K (by omega)).2]
  simp only [Option.bind_some, if_true]
  rw [if_neg (show ¬ m < 0 by omega)]


end Go.Proofs.Ytkegjmkdnfpfdaa.Pure

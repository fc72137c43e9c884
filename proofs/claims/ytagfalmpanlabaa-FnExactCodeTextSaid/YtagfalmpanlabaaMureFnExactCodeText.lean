/- Proved: the pure statement behind the law FnExactCodeText of the given program: for every input that the row lets in, the program's answer and the reference's agree and the law returns true. Conditions: none beyond the row's own. -/
import Derived.Test.YtagfalmpanlabaaMFnExactCodeTextx12
set_option linter.unusedVariables false
set_option linter.unusedSimpArgs false
namespace Go.Proofs.Ytagfalmpanlabaa.Pure
open Go.RowKit Go.Proofs.Ytagfalmpanlabaa.MFnExactCodeText Go.Proofs.YtagfalmpanlabaaW.PrintWords Go.Proofs.YtagfalmpanlabaaW.PrintLast

theorem within_eq (a lo hi : Int) : impl_within.f a lo hi = some (decide (lo ≤ a ∧ a ≤ hi)) := by
  unfold impl_within.f
  by_cases h : a ≥ lo
  · have h' : lo ≤ a := h
    simp [h, h']
  · have h' : ¬ lo ≤ a := h
    simp [h, h']

theorem l01In_eq (a lo hi : Int) : spec_l01In.f a lo hi = some (decide (lo ≤ a ∧ a ≤ hi)) := by
  unfold spec_l01In.f
  by_cases h : a ≥ lo
  · have h' : lo ≤ a := h
    simp [h, h']
  · have h' : ¬ lo ≤ a := h
    simp [h, h']

theorem when_eq (b : Bool) (c : Int) : impl_when.f b c = some (if b = true then c else 0) := by
  unfold impl_when.f
  split <;> rfl

/-- The first number of a list that is not 0; else 0. -/
def fnz : List Int → Int
  | [] => 0
  | a :: l => if a = 0 then fnz l else a

theorem first_from (l : List Int) (hl : l.length ≤ 1000) : ∀ (d k i : Nat), l.length - i ≤ d → d < k → i ≤ l.length → impl_first.l0 k l l.length (i : Int) = some (fnz (l.drop i)) := by
  intro d
  induction d with
  | zero =>
    intro k i hd hk hi
    obtain ⟨k, rfl⟩ : ∃ m, k = m + 1 := ⟨k - 1, by omega⟩
    simp only [impl_first.l0]
    rw [if_neg (by omega), List.drop_of_length_le (by omega)]
    rfl
  | succ d ih =>
    intro k i hd hk hi
    obtain ⟨k, rfl⟩ : ∃ m, k = m + 1 := ⟨k - 1, by omega⟩
    simp only [impl_first.l0]
    by_cases h : i < l.length
    · have hw : wrap64 ((i : Int) + 1) = ((i + 1 : Nat) : Int) := by unfold wrap64; omega
      rw [hw, ih k (i + 1) (by omega) (by omega) (by omega)]
      have e : rd l (i : Int) = l[i] := by simp [rd, List.getD_eq_getElem?_getD, h]
      rw [List.drop_eq_getElem_cons h, e]
      rw [if_pos (by omega), if_pos (by omega), if_pos (by omega)]
      simp only [fnz]
      split <;> rfl
    · rw [if_neg (by omega), List.drop_of_length_le (by omega)]
      rfl

theorem first_eq (l : List Int) (hl : l.length ≤ 1000) (k : Nat) (hk : l.length < k) : impl_first.f k l = some (fnz l) := by
  unfold impl_first.f
  have h := first_from l hl l.length k 0 (by omega) hk (by omega)
  simpa using h

/-- The program's instruction for the law's. -/
def cvI (x : S78) : S74 := ⟨x.f0, x.f1⟩
theorem toInstrS_from (l : List S78) (hl : l.length ≤ 1048576) : ∀ (d k i : Nat) (ys : List S74), l.length - i ≤ d → d < k → i ≤ l.length → ys.length = l.length → ys.take i = (l.take i).map cvI → laws_toInstrS.l0 k l ys (i : Int) = some (l.map cvI) := by
  intro d
  induction d with
  | zero =>
    intro k i ys hd hk hi hy ht
    obtain ⟨k, rfl⟩ : ∃ m, k = m + 1 := ⟨k - 1, by omega⟩
    simp only [laws_toInstrS.l0]
    rw [if_neg (by omega)]
    have e : i = l.length := by omega
    subst e
    rw [List.take_of_length_le (by omega), List.take_of_length_le (by omega)] at ht
    rw [ht]
  | succ d ih =>
    intro k i ys hd hk hi hy ht
    obtain ⟨k, rfl⟩ : ∃ m, k = m + 1 := ⟨k - 1, by omega⟩
    by_cases h : i < l.length
    · have hw : wrap64 ((i : Int) + 1) = ((i + 1 : Nat) : Int) := by unfold wrap64; omega
      have e : rd_T78 l (i : Int) = l[i] := by simp [rd_T78, List.getD_eq_getElem?_getD, h]
      conv => lhs; unfold laws_toInstrS.l0
      rw [if_pos (by omega), if_pos (by omega), e]
      unfold laws_toInstr.f
      simp only [Option.bind_some]
      rw [if_pos (by omega), hw]
      apply ih k (i + 1) _ (by omega) (by omega) (by omega) (by simpa using hy)
      have hi2 : i < ys.length := by omega
      have ei : ((i : Int)).toNat = i := by omega
      rw [ei]
      apply List.ext_getElem
      · simp; omega
      · intro j h1 h2
        simp only [List.length_take, List.length_set] at h1
        rw [List.getElem_take, List.getElem_set]
        by_cases hj : i = j
        · subst hj
          simp [cvI]
        · have hji : j < i := by omega
          rw [if_neg hj]
          have hh : (ys.take i)[j]? = ((l.take i).map cvI)[j]? := by rw [ht]
          simp [hji] at hh
          rw [List.getElem?_eq_getElem (by omega), List.getElem?_eq_getElem (by omega)] at hh
          simp at hh
          simp [hh]
    · conv => lhs; unfold laws_toInstrS.l0
      rw [if_neg (by omega)]
      have e : i = l.length := by omega
      subst e
      rw [List.take_of_length_le (by omega), List.take_of_length_le (by omega)] at ht
      rw [ht]
theorem toInstrS_eq (l : List S78) (hl : l.length ≤ 1048576) (k : Nat) (hk : l.length < k) : laws_toInstrS.f k l = some (l.map cvI) := by
  unfold laws_toInstrS.f
  rw [if_pos (by omega), if_pos (by omega)]
  have h := toInstrS_from l hl l.length k 0 (List.replicate l.length z74) (by omega) hk (by omega) (by simp) (by simp)
  simpa using h
theorem eqInstr_refl (a b : Int) : laws_eqInstr.f a b a b = some true := by
  unfold laws_eqInstr.f
  simp
theorem eqInstrS_from (l : List S74) (hl : l.length ≤ 1048576) : ∀ (d k i : Nat), l.length - i ≤ d → d < k → i ≤ l.length → laws_eqInstrS.l0 k l l (i : Int) = some true := by
  intro d
  induction d with
  | zero =>
    intro k i hd hk hi
    obtain ⟨k, rfl⟩ : ∃ m, k = m + 1 := ⟨k - 1, by omega⟩
    simp only [laws_eqInstrS.l0]
    rw [if_neg (by omega)]
  | succ d ih =>
    intro k i hd hk hi
    obtain ⟨k, rfl⟩ : ∃ m, k = m + 1 := ⟨k - 1, by omega⟩
    simp only [laws_eqInstrS.l0]
    by_cases h : i < l.length
    · have hw : wrap64 ((i : Int) + 1) = ((i + 1 : Nat) : Int) := by unfold wrap64; omega
      rw [hw, ih k (i + 1) (by omega) (by omega) (by omega), eqInstr_refl]
      rw [if_pos (by omega), if_pos (by omega), if_pos (by omega)]
      rfl
    · rw [if_neg (by omega)]
theorem eqInstrS_eq (l : List S74) (hl : l.length ≤ 1048576) (k : Nat) (hk : l.length < k) : laws_eqInstrS.f k l l = some true := by
  unfold laws_eqInstrS.f
  rw [if_pos rfl]
  have h := eqInstrS_from l hl l.length k 0 (by omega) hk (by omega)
  simpa using h
theorem szInstr_eq (l : List S78) (hl : l.length ≤ maxLen) : laws_szInstrS.f l 1048576 = some ((if (l.length : Int) ≤ 1048576 then 1048576 - (l.length : Int) else -1 : Int)) := by
  unfold laws_szInstrS.f
  have hm : (l.length : Int) ≤ 9223372036854775807 := by have : maxLen ≤ 9223372036854775807 := (by decide); omega
  have hw : wrap64 (1048576 - (l.length : Int)) = 1048576 - l.length := by unfold wrap64; omega
  rw [hw]
  by_cases h : (l.length : Int) ≤ 1048576
  · rw [if_pos h, if_neg (by omega)]
  · rw [if_neg h, if_pos (by omega)]

theorem has_j2 (k : Nat) (a : Int) (b : Bool) : spec_l02Has.j2 k a b = impl_rangeOf.j2 k a b := by
  cases k <;> simp only [spec_l02Has.j2, impl_rangeOf.j2]
theorem has_j1 (k : Nat) (a : Int) (b : Bool) : spec_l02Has.j1 k a b = impl_rangeOf.j1 k a b := by
  cases k <;> simp only [spec_l02Has.j1, impl_rangeOf.j1, has_j2]
theorem has_j0 (k : Nat) (a : Int) (b : Bool) : spec_l02Has.j0 k a b = impl_rangeOf.j0 k a b := by
  cases k <;> simp only [spec_l02Has.j0, impl_rangeOf.j0, has_j1]
theorem has_same (k : Nat) (a : Int) : spec_l02Has.f k a = impl_rangeOf.f k a := by
  unfold spec_l02Has.f impl_rangeOf.f
  simp only [has_j0]
/-- The range of an operation's operand, and whether it has one. -/
def rng (a : Int) : Int × Int × Bool :=
  if a = 1 then (-2147483648, 2147483647, true) else if a = 2 then (0, 1, true) else if a = 3 ∨ a = 4 then (0, 15, true) else if a = 5 ∨ a = 6 ∨ a = 7 ∨ a = 8 then (0, 7, true)
  else if a = 19 ∨ a = 20 then (0, 7, true) else if a = 24 then (1, 20, true) else if a = 26 then (0, 5, true) else (0, 0, false)
theorem range_eq (k : Nat) (hk : 3 ≤ k) (a : Int) : impl_rangeOf.f k a = some (rng a) := by
  obtain ⟨k, rfl⟩ : ∃ m, k = m + 3 := ⟨k - 3, by omega⟩
  unfold impl_rangeOf.f rng
  simp only [impl_rangeOf.j0, impl_rangeOf.j1, impl_rangeOf.j2]
  by_cases h1 : a = 1
  · subst h1; rfl
  by_cases h2 : a = 2
  · subst h2; rfl
  by_cases h3 : a = 3
  · subst h3; rfl
  by_cases h4 : a = 4
  · subst h4; rfl
  by_cases h5 : a = 5
  · subst h5; rfl
  by_cases h6 : a = 6
  · subst h6; rfl
  by_cases h7 : a = 7
  · subst h7; rfl
  by_cases h8 : a = 8
  · subst h8; rfl
  by_cases h19 : a = 19
  · subst h19; rfl
  by_cases h20 : a = 20
  · subst h20; rfl
  by_cases h24 : a = 24
  · subst h24; rfl
  by_cases h26 : a = 26
  · subst h26; rfl
  simp [h1, h2, h3, h4, h5, h6, h7, h8, h19, h20, h24, h26]

def instrb (op a : Int) : Bool := decide ((1 ≤ op ∧ op ≤ 26) ∧ ((rng op).1 ≤ a ∧ a ≤ (rng op).2.1))
theorem isOp_eq (a : Int) : impl_isOp.f a = some (decide (1 ≤ a ∧ a ≤ 26)) := by
  unfold impl_isOp.f; rw [within_eq]; rfl
theorem l02Op_eq (a : Int) : spec_l02Op.f a = some (decide (1 ≤ a ∧ a ≤ 26)) := by
  unfold spec_l02Op.f; rw [l01In_eq]; rfl
theorem spec_instr (k : Nat) (hk : 3 ≤ k) (op a : Int) : spec_l02OK.f k op a = some (instrb op a) := by
  unfold spec_l02OK.f instrb
  simp only [l02Op_eq, l01In_eq, has_same, range_eq k hk, Option.bind_some]
  by_cases h : 1 ≤ op ∧ op ≤ 26 <;> simp [h]
theorem impl_instr (k : Nat) (hk : 3 ≤ k) (op a : Int) : impl_InstrOK.f k op a = some (instrb op a) := by
  unfold impl_InstrOK.f instrb
  simp only [isOp_eq, within_eq, range_eq k hk, Option.bind_some]
  by_cases h : 1 ≤ op ∧ op ≤ 26 <;> simp [h]

theorem impl_all_Instr_InstrOK_from (p : S74 → Bool) (K : Nat) (hF : ∀ (k : Nat) (x : S74), K ≤ k → impl_InstrOK.f k x.f0 x.f1 = some (p x)) (l : List S74) (hl : l.length ≤ 1048576) : ∀ (d k i : Nat), l.length - i ≤ d → d + K < k → i ≤ l.length →
    ∃ j, impl_all_Instr_InstrOK.l0 k l (i : Int) = some j ∧ (!(decide (0 ≤ j))) = (l.drop i).all p := by
  intro d
  induction d with
  | zero =>
    intro k i hd hk hi
    obtain ⟨k, rfl⟩ : ∃ m, k = m + 1 := ⟨k - 1, by omega⟩
    refine ⟨-1, ?_, ?_⟩
    · simp only [impl_all_Instr_InstrOK.l0]
      rw [if_neg (by omega)]
    · rw [List.drop_of_length_le (by omega)]
      rfl
  | succ d ih =>
    intro k i hd hk hi
    obtain ⟨k, rfl⟩ : ∃ m, k = m + 1 := ⟨k - 1, by omega⟩
    by_cases h : i < l.length
    · have e : rd_T74 l (i : Int) = l[i] := by simp [rd_T74, List.getD_eq_getElem?_getD, h]
      have hw : wrap64 ((i : Int) + 1) = ((i + 1 : Nat) : Int) := by unfold wrap64; omega
      obtain ⟨j, hj, hp⟩ := ih k (i + 1) (by omega) (by omega) (by omega)
      have hx := hF k l[i] (by omega)
      rw [List.drop_eq_getElem_cons h, List.all_cons]
      simp only [impl_all_Instr_InstrOK.l0]
      rw [if_pos (by omega), if_pos (by omega), e, hw, hx]
      simp only [Option.bind_some]
      cases p l[i] with
      | true => exact ⟨j, by rw [if_pos rfl]; exact hj, by simpa using hp⟩
      | false => exact ⟨(i : Int), by rw [if_neg (by decide)], by simp⟩
    · refine ⟨-1, ?_, ?_⟩
      · simp only [impl_all_Instr_InstrOK.l0]
        rw [if_neg (by omega)]
      · rw [List.drop_of_length_le (by omega)]
        rfl
theorem impl_all_Instr_InstrOK_eq (p : S74 → Bool) (K : Nat) (hF : ∀ (k : Nat) (x : S74), K ≤ k → impl_InstrOK.f k x.f0 x.f1 = some (p x)) (l : List S74) (hl : l.length ≤ 1048576) (k : Nat) (hk : l.length + K < k) : impl_all_Instr_InstrOK.f k l = some (l.all p) := by
  obtain ⟨j, hj, hp⟩ := impl_all_Instr_InstrOK_from p K hF l hl l.length k 0 (by omega) (by omega) (by omega)
  unfold impl_all_Instr_InstrOK.f
  have hj' : impl_all_Instr_InstrOK.l0 k l 0 = some j := hj
  rw [hj']
  simp only [Option.bind_some]
  rw [hp]
  rfl

def insB (x : S74) : Bool := instrb x.f0 x.f1
theorem l02All_from (l : List S74) (hl : l.length ≤ 1048576) : ∀ (d k i : Nat), l.length - i ≤ d → d + 3 < k → i ≤ l.length → spec_l02All.l0 k l (i : Int) = some ((l.drop i).all insB) := by
  intro d
  induction d with
  | zero =>
    intro k i hd hk hi
    obtain ⟨k, rfl⟩ : ∃ m, k = m + 1 := ⟨k - 1, by omega⟩
    simp only [spec_l02All.l0]
    rw [if_neg (by omega), List.drop_of_length_le (by omega)]
    rfl
  | succ d ih =>
    intro k i hd hk hi
    obtain ⟨k, rfl⟩ : ∃ m, k = m + 1 := ⟨k - 1, by omega⟩
    simp only [spec_l02All.l0]
    by_cases h : i < l.length
    · have e : rd_T74 l (i : Int) = l[i] := by simp [rd_T74, List.getD_eq_getElem?_getD, h]
      have hw : wrap64 ((i : Int) + 1) = ((i + 1 : Nat) : Int) := by unfold wrap64; omega
      rw [if_pos (by omega), if_pos (by omega), e, hw, ih k (i + 1) (by omega) (by omega) (by omega), spec_instr k (by omega), List.drop_eq_getElem_cons h, List.all_cons]
      simp only [Option.bind_some]
      show (if insB l[i] = true then _ else _) = _
      cases insB l[i] <;> rfl
    · rw [if_neg (by omega), List.drop_of_length_le (by omega)]
      rfl
theorem l02All_eq (l : List S74) (hl : l.length ≤ 1048576) (k : Nat) (hk : l.length + 3 < k) : spec_l02All.f k l = some (l.all insB) := by
  unfold spec_l02All.f
  have := l02All_from l hl l.length k 0 (by omega) hk (by omega)
  simpa using this
/-- What is asked well is fit for the walk. -/

theorem wstep0 : wrap64 ((0 : Int) + 1) = 1 := by unfold wrap64; omega
theorem wstep1 : wrap64 ((1 : Int) + 1) = 2 := by unfold wrap64; omega
theorem wstep2 : wrap64 ((2 : Int) + 1) = 3 := by unfold wrap64; omega
theorem wstep3 : wrap64 ((3 : Int) + 1) = 4 := by unfold wrap64; omega
theorem wone : wrap64 (1 : Int) = 1 := by unfold wrap64; omega
theorem wtwo : wrap64 (2 : Int) = 2 := by unfold wrap64; omega
theorem wthree : wrap64 (3 : Int) = 3 := by unfold wrap64; omega
theorem wfour : wrap64 (4 : Int) = 4 := by unfold wrap64; omega
theorem u64b0 (x : Int) : IntKind.u64.wrap x % 256 = x % 256 := by simp only [IntKind.wrap_u64]; omega
theorem u64b1 (x : Int) : IntKind.u64.wrap x / 256 % 256 = x / 256 % 256 := by simp only [IntKind.wrap_u64]; omega
theorem u64b2 (x : Int) : IntKind.u64.wrap x / 256 / 256 % 256 = x / 256 / 256 % 256 := by simp only [IntKind.wrap_u64]; omega
theorem u64b3 (x : Int) : IntKind.u64.wrap x / 256 / 256 / 256 % 256 = x / 256 / 256 / 256 % 256 := by simp only [IntKind.wrap_u64]; omega

theorem spec_put1 (x : Int) (k : Nat) (hk : 5 ≤ k) : spec_l01Put.f k x 1 = some (strOfNums [x % 256]) := by
  obtain ⟨k, rfl⟩ : ∃ m, k = m + 5 := ⟨k - 5, by omega⟩
  unfold spec_l01Put.f
  simp [spec_l01Put.l0, wstep0, wone, wtwo, wthree, wfour, u64b0]
theorem spec_put2 (x : Int) (k : Nat) (hk : 5 ≤ k) : spec_l01Put.f k x 2 = some (strOfNums [x % 256, x / 256 % 256]) := by
  obtain ⟨k, rfl⟩ : ∃ m, k = m + 5 := ⟨k - 5, by omega⟩
  unfold spec_l01Put.f
  simp [spec_l01Put.l0, wstep0, wstep1, wone, wtwo, wthree, wfour, u64b0, u64b1]
theorem spec_put4 (x : Int) (k : Nat) (hk : 5 ≤ k) : spec_l01Put.f k x 4 = some (strOfNums [x % 256, x / 256 % 256, x / 256 / 256 % 256, x / 256 / 256 / 256 % 256]) := by
  obtain ⟨k, rfl⟩ : ∃ m, k = m + 5 := ⟨k - 5, by omega⟩
  unfold spec_l01Put.f
  simp [spec_l01Put.l0, wstep0, wstep1, wstep2, wstep3, wone, wtwo, wthree, wfour, u64b0, u64b1, u64b2, u64b3]
theorem impl_put1 (x : Int) (k : Nat) (hk : 5 ≤ k) : impl_put.f k x 1 = some (strOfNums [x % 256]) := by
  obtain ⟨k, rfl⟩ : ∃ m, k = m + 5 := ⟨k - 5, by omega⟩
  unfold impl_put.f
  simp [impl_put.l0, wstep0, wone, wtwo, wthree, wfour]
theorem impl_put2 (x : Int) (k : Nat) (hk : 5 ≤ k) : impl_put.f k x 2 = some (strOfNums [x % 256, x / 256 % 256]) := by
  obtain ⟨k, rfl⟩ : ∃ m, k = m + 5 := ⟨k - 5, by omega⟩
  unfold impl_put.f
  simp [impl_put.l0, wstep0, wstep1, wone, wtwo, wthree, wfour]
theorem impl_put4 (x : Int) (k : Nat) (hk : 5 ≤ k) : impl_put.f k x 4 = some (strOfNums [x % 256, x / 256 % 256, x / 256 / 256 % 256, x / 256 / 256 / 256 % 256]) := by
  obtain ⟨k, rfl⟩ : ∃ m, k = m + 5 := ⟨k - 5, by omega⟩
  unfold impl_put.f
  simp [impl_put.l0, wstep0, wstep1, wstep2, wstep3, wone, wtwo, wthree, wfour]

abbrev Ins := S74
theorem son_append (a b : List Int) : strOfNums a ++ strOfNums b = strOfNums (a ++ b) := by
  apply ByteArray.ext
  simp [strOfNums, ByteArray.data_append]
theorem son_size (a : List Int) : (strOfNums a).size = a.length := by simp [strOfNums, ByteArray.size]
theorem son_inj {a b : List Int} (ha : ∀ x ∈ a, 0 ≤ x ∧ x < 256) (hb : ∀ x ∈ b, 0 ≤ x ∧ x < 256) (h : strOfNums a = strOfNums b) : a = b := by
  have h1 : a.map (fun n => UInt8.ofNat n.toNat) = b.map (fun n => UInt8.ofNat n.toNat) := by
    have := congrArg (fun z : ByteArray => z.data.toList) h
    simpa [strOfNums] using this
  have hl : a.length = b.length := by simpa using congrArg List.length h1
  apply List.ext_getElem hl
  intro i i1 i2
  have h2 : (a.map (fun n => UInt8.ofNat n.toNat))[i]'(by simpa using i1) = (b.map (fun n => UInt8.ofNat n.toNat))[i]'(by simpa using i2) := by
    simp only [h1]
  simp only [List.getElem_map] at h2
  have h3 := congrArg UInt8.toNat h2
  have h4 := ha _ (List.getElem_mem i1)
  have h5 := hb _ (List.getElem_mem i2)
  simp only [UInt8.toNat_ofNat'] at h3
  omega
def e1 (n : Int) : List Int := [n % 256]
def e2 (n : Int) : List Int := [n % 256, n / 256 % 256]
def e4 (n : Int) : List Int := [n % 256, n / 256 % 256, n / 256 / 256 % 256, n / 256 / 256 / 256 % 256]
def By (l : List Int) : Prop := ∀ x ∈ l, 0 ≤ x ∧ x < 256
theorem by_e1 (n : Int) : By (e1 n) := by intro x hx; simp only [e1, List.mem_cons, List.not_mem_nil, or_false] at hx; omega
theorem by_e2 (n : Int) : By (e2 n) := by intro x hx; simp only [e2, List.mem_cons, List.not_mem_nil, or_false] at hx; omega
theorem by_e4 (n : Int) : By (e4 n) := by intro x hx; simp only [e4, List.mem_cons, List.not_mem_nil, or_false] at hx; omega
theorem by_app {a b : List Int} (ha : By a) (hb : By b) : By (a ++ b) := by
  intro x hx
  rcases List.mem_append.1 hx with h | h
  · exact ha x h
  · exact hb x h
theorem by_flat {α : Type} (f : α → List Int) (hf : ∀ x, By (f x)) (l : List α) : By (l.flatMap f) := by
  intro x hx
  obtain ⟨y, _, h⟩ := List.mem_flatMap.1 hx
  exact hf y x h
/-- An encoding that can be read off the front of a text. -/
def Front {α : Type} (ok : α → Prop) (f : α → List Int) : Prop := ∀ x y r s, ok x → ok y → f x ++ r = f y ++ s → x = y ∧ r = s
theorem front_e1 : Front (fun n : Int => 0 ≤ n ∧ n < 256) e1 := by
  intro x y r s hx hy h
  simp only [e1, List.cons_append, List.nil_append, List.cons.injEq] at h
  exact ⟨by omega, h.2⟩
theorem front_e2 : Front (fun n : Int => 0 ≤ n ∧ n < 65536) e2 := by
  intro x y r s hx hy h
  simp only [e2, List.cons_append, List.nil_append, List.cons.injEq] at h
  exact ⟨by omega, h.2.2⟩
theorem front_e4 : Front (fun n : Int => -2147483648 ≤ n ∧ n ≤ 2147483647) e4 := by
  intro x y r s hx hy h
  simp only [e4, List.cons_append, List.nil_append, List.cons.injEq] at h
  exact ⟨by omega, h.2.2.2.2⟩
theorem front_flat {α : Type} {ok : α → Prop} {f : α → List Int} (hf : Front ok f) : ∀ (x y : List α) (r s : List Int), x.length = y.length → (∀ a ∈ x, ok a) → (∀ a ∈ y, ok a) → x.flatMap f ++ r = y.flatMap f ++ s → x = y ∧ r = s := by
  intro x
  induction x with
  | nil =>
    intro y r s hl _ _ h
    obtain rfl : y = [] := List.length_eq_zero_iff.1 (by simpa using hl.symm)
    exact ⟨rfl, by simpa using h⟩
  | cons a x ih =>
    intro y r s hl hx hy h
    cases y with
    | nil => simp at hl
    | cons b y =>
      simp only [List.flatMap_cons, List.append_assoc] at h
      obtain ⟨rfl, h'⟩ := hf a b _ _ (hx a (by simp)) (hy b (by simp)) h
      obtain ⟨rfl, h''⟩ := ih y r s (by simpa using hl) (fun z hz => hx z (by simp [hz])) (fun z hz => hy z (by simp [hz])) h'
      exact ⟨rfl, h''⟩
/-- How many, and each of them. -/
def many1 {α : Type} (f : α → List Int) (x : List α) : List Int := e1 (x.length : Int) ++ x.flatMap f
theorem front_many {α : Type} {ok : α → Prop} {f : α → List Int} (hf : Front ok f) : Front (fun x : List α => x.length < 256 ∧ ∀ a ∈ x, ok a) (many1 f) := by
  intro x y r s hx hy h
  unfold many1 at h
  rw [List.append_assoc, List.append_assoc] at h
  obtain ⟨hl, h'⟩ := front_e1 _ _ _ _ (by omega) (by omega) h
  exact front_flat hf x y r s (by omega) hx.2 hy.2 h'
def insE (x : Ins) : List Int := e1 x.f0 ++ (if (rng x.f0).2.2 = true then e4 x.f1 else [])
theorem ins_facts {x : Ins} (h : instrb x.f0 x.f1 = true) : (1 ≤ x.f0 ∧ x.f0 ≤ 26) ∧ (-2147483648 ≤ x.f1 ∧ x.f1 ≤ 2147483647) ∧ ((rng x.f0).2.2 = false → x.f1 = 0) := by
  have h1 := of_decide_eq_true h
  obtain ⟨h1, h2⟩ := h1
  refine ⟨h1, ?_, ?_⟩
  · unfold rng at h2
    repeat' split at h2
    all_goals (simp only at h2; omega)
  · intro h3
    unfold rng at h2 h3
    repeat' split at h3
    all_goals first | (exact absurd h3 (by decide)) | skip
    simp only [*, if_false] at h2
    omega
theorem front_ins : Front (fun x : Ins => instrb x.f0 x.f1 = true) insE := by
  intro x y r s hx hy h
  obtain ⟨a1, a2, a3⟩ := ins_facts hx
  obtain ⟨b1, b2, b3⟩ := ins_facts hy
  unfold insE at h
  rw [List.append_assoc, List.append_assoc] at h
  obtain ⟨ho, h'⟩ := front_e1 _ _ _ _ (by omega) (by omega) h
  rw [ho] at h' a3
  by_cases hc : (rng y.f0).2.2 = true
  · rw [if_pos hc, if_pos hc] at h'
    obtain ⟨hA, h''⟩ := front_e4 _ _ _ _ a2 b2 h'
    exact ⟨by cases x; cases y; simp_all, h''⟩
  · have hc' : (rng y.f0).2.2 = false := by simpa using hc
    rw [if_neg hc, if_neg hc] at h'
    exact ⟨by have := a3 hc'; have := b3 hc'; cases x; cases y; simp_all, by simpa using h'⟩
theorem insE_len (x : Ins) : (insE x).length ≤ 5 ∧ 1 ≤ (insE x).length := by
  unfold insE e1 e4
  split <;> simp
/-- Code, alone in a text. -/
theorem code_inj : ∀ (x y : List Ins), (∀ a ∈ x, instrb a.f0 a.f1 = true) → (∀ a ∈ y, instrb a.f0 a.f1 = true) → x.flatMap insE = y.flatMap insE → x = y := by
  intro x
  induction x with
  | nil =>
    intro y _ hy h
    cases y with
    | nil => rfl
    | cons b y =>
      have := congrArg List.length h
      have hb := insE_len b
      simp only [List.flatMap_cons, List.length_append, List.flatMap_nil, List.length_nil] at this
      omega
  | cons a x ih =>
    intro y hx hy h
    cases y with
    | nil =>
      have := congrArg List.length h
      have hb := insE_len a
      simp only [List.flatMap_cons, List.length_append, List.flatMap_nil, List.length_nil] at this
      omega
    | cons b y =>
      simp only [List.flatMap_cons] at h
      obtain ⟨rfl, h'⟩ := front_ins a b _ _ (hx a (by simp)) (hy b (by simp)) h
      rw [ih y (fun z hz => hx z (by simp [hz])) (fun z hz => hy z (by simp [hz])) h']
theorem flat_len {α : Type} (f : α → List Int) (n : Nat) (hf : ∀ x, (f x).length ≤ n) (l : List α) : (l.flatMap f).length ≤ n * l.length := by
  induction l with
  | nil => simp
  | cons a l ih =>
    have := hf a
    simp only [List.flatMap_cons, List.length_append, List.length_cons]
    rw [Nat.mul_add]
    omega

theorem rdI (l : List Ins) (i : Nat) (h : i < l.length) : rd_T74 l (i : Int) = l[i] := by simp [rd_T74, List.getD_eq_getElem?_getD, h]
theorem bytes_from (l : List Ins) (hl : l.length ≤ 4096) : ∀ (d k i : Nat) (A : List Int), l.length - i ≤ d → d + 20 < k → i ≤ l.length → A.length + 5 * d ≤ 100000 →
    spec_l02Bytes.l0 k l (strOfNums A) (i : Int) = some (strOfNums (A ++ (l.drop i).flatMap insE)) := by
  intro d
  induction d with
  | zero =>
    intro k i A hd hk hi hA
    obtain ⟨k, rfl⟩ : ∃ m, k = m + 1 := ⟨k - 1, by omega⟩
    simp only [spec_l02Bytes.l0]
    rw [if_neg (by omega), List.drop_of_length_le (by omega)]
    simp
  | succ d ih =>
    intro k i A hd hk hi hA
    obtain ⟨k, rfl⟩ : ∃ m, k = m + 1 := ⟨k - 1, by omega⟩
    by_cases h : i < l.length
    · have hw : wrap64 ((i : Int) + 1) = ((i + 1 : Nat) : Int) := by unfold wrap64; omega
      have p1 : (i : Int) < (l.length : Int) := by omega
      have p2 : (0 : Int) ≤ (i : Int) := by omega
      rw [List.drop_eq_getElem_cons h]
      simp only [spec_l02Bytes.l0, if_pos p1, if_pos p2, rdI l i h, spec_put1 _ k (by omega), Option.bind_some, has_same, range_eq k (by omega), spec_put4 _ k (by omega), hw]
      have g1 : (strOfNums A).size + (strOfNums [(l[i]).f0 % 256]).size ≤ 9223372036854775807 := by rw [son_size, son_size]; simp; omega
      rw [if_pos g1, son_append]
      simp only [List.flatMap_cons, insE]
      by_cases c : (rng l[i].f0).2.2 = true
      · rw [if_pos c, if_pos c, if_pos (by rw [son_size, son_size]; simp; omega), son_append, ih k (i + 1) _ (by omega) (by omega) (by omega) (by simp; omega)]
        simp [e1, e4, List.append_assoc]
      · rw [if_neg c, if_neg c, ih k (i + 1) _ (by omega) (by omega) (by omega) (by simp; omega)]
        simp [e1, List.append_assoc]
    · simp only [spec_l02Bytes.l0]
      rw [if_neg (by omega), List.drop_of_length_le (by omega)]
      simp
theorem bytes_eq (l : List Ins) (hl : l.length ≤ 4096) (k : Nat) (hk : l.length + 20 < k) : spec_l02Bytes.f k l = some (strOfNums (l.flatMap insE)) := by
  have h := bytes_from l hl l.length k 0 [] (by omega) hk (by omega) (by simp; omega)
  unfold spec_l02Bytes.f
  simpa [strOfNums] using h

theorem rangeP (a : Int) : impl_rangeOf.f 10 a = some (rng a) := range_eq 10 (by decide) a
theorem hasOp_eq (a : Int) : impl_hasOperand.f 10 a = some (rng a).2.2 := by
  unfold impl_hasOperand.f
  rw [rangeP]; rfl
theorem u8_mod (a : Int) : (fun n : Int => UInt8.ofNat n.toNat) (a % 256) = UInt8.ofNat (a % 256).toNat := rfl
theorem son_list (l : List Int) : (strOfNums l).data.toList = l.map (fun n : Int => UInt8.ofNat n.toNat) := by simp [strOfNums]
theorem ct_go_eq (l : List Ins) : ∀ acc : List UInt8, acc.length + 5 * l.length ≤ 100000 → ct_go l acc = some (acc ++ (l.flatMap insE).map (fun n : Int => UInt8.ofNat n.toNat)) := by
  induction l with
  | nil => intro acc _; simp [ct_go]
  | cons x l ih =>
    intro acc h
    simp only [List.length_cons] at h
    simp only [ct_go, hasOp_eq, Option.bind_some, List.flatMap_cons, List.map_append, insE]
    by_cases c : (rng x.f0).2.2 = true
    · rw [if_pos c, if_pos c, impl_put4 _ 10 (by decide)]
      simp only [Option.bind_some]
      rw [if_pos (by rw [son_size]; simp; omega), son_list, ih _ (by simp; omega)]
      simp [e1, e4]
    · rw [if_neg c, if_neg c, if_pos (by omega), ih _ (by simp; omega)]
      simp [e1]
theorem codeText_eq (l : List Ins) (hl : l.length ≤ 4096) : impl_codeText.f l = some (strOfNums (l.flatMap insE)) := by
  unfold impl_codeText.f
  rw [if_pos hl, ct_go_eq l [] (by simp; omega)]
  rfl

theorem code_same (l0 : List Ins) (h0 : l0.length ≤ 1048576) (k : Nat) (hk : l0.length + 100 < k) :
    ∃ r, spec_CodeText.f k l0 = some r ∧ impl_CodeText.f k l0 = some r := by
  unfold spec_CodeText.f impl_CodeText.f impl_Instr_48.f
  simp only [when_eq, Option.bind_some]
  have hall : impl_all_Instr_InstrOK.f k l0 = some (l0.all insB) := impl_all_Instr_InstrOK_eq insB 3 (fun k x hk => impl_instr k hk x.f0 x.f1) l0 h0 k (by omega)
  rw [hall]
  simp only [Option.bind_some]
  rw [first_eq _ (by simp) _ (by simp; omega)]
  simp only [Option.bind_some, fnz]
  by_cases c0 : 4096 < l0.length
  · exact ⟨(⟨#[]⟩, 2), by rw [if_pos (by omega)], by rw [decide_eq_true (by omega)]; rfl⟩
  rw [if_neg (by omega), decide_eq_false (by omega)]
  by_cases c1 : 40 < l0.length
  · exact ⟨(⟨#[]⟩, 6), by rw [if_pos (by omega)], by rw [decide_eq_true (by omega)]; rfl⟩
  rw [if_neg (by omega), decide_eq_false (by omega), l02All_eq l0 h0 k (by omega)]
  simp only [Option.bind_some]
  cases hb : l0.all insB
  · exact ⟨(⟨#[]⟩, 1), rfl, rfl⟩
  · rw [if_pos rfl, bytes_eq l0 (by omega) k (by omega)]
    refine ⟨(strOfNums (l0.flatMap insE), 0), rfl, ?_⟩
    simp only [Bool.not_true, Bool.false_eq_true, if_false, bne_self_eq_false, if_true]
    rw [codeText_eq l0 (by omega)]
    rfl
theorem FnExactCodeText : laws_FnExactCodeText.Pure := by
  intro l0 h0
  obtain ⟨h0, _⟩ := h0
  obtain ⟨K, hK⟩ : ∃ K, K = l0.length + 1000 := ⟨_, rfl⟩
  refine ⟨K + 1, ?_⟩
  unfold laws_FnExactCodeText.f
  rw [szInstr_eq l0 h0]
  simp only [Option.bind_some]
  by_cases c0 : (l0.length : Int) ≤ 1048576
  case neg => rw [if_neg c0]; rfl
  have n0 : (l0.map cvI).length = l0.length := by simp
  rw [if_pos c0, if_neg (by omega), toInstrS_eq l0 (by omega) _ (by omega)]
  obtain ⟨r, r1, r2⟩ := code_same (l0.map cvI) (by omega) (K + 1) (by omega)
  simp only [Option.bind_some, r1, r2, if_true, bne_self_eq_false]
  simp only [laws_FnExactCodeText.j0, Bool.false_eq_true, if_false]
  rw [toInstrS_eq l0 (by omega) _ (by omega)]
  simp only [Option.bind_some]
  rw [eqInstrS_eq _ (by omega) _ (by omega)]
  rfl


end Go.Proofs.Ytagfalmpanlabaa.Pure

import Derived.Test.YtkegjmkdnfpfdaaMFnExactImageTextx43
set_option linter.unusedVariables false
set_option linter.unusedSimpArgs false
namespace Go.Proofs.Ytkegjmkdnfpfdaa.Pure
open Go.RowKit Go.Proofs.Ytkegjmkdnfpfdaa.MFnExactImageText Go.Proofs.YtkegjmkdnfpfdaaW.PrintWords Go.Proofs.YtkegjmkdnfpfdaaW.PrintLast
theorem within_eq (a lo hi : Int) : impl_within.f a lo hi = some (decide (lo ≤ a ∧ a ≤ hi)) := by
 unfold impl_within.f
 by_cases h : a ≥ lo
 ·have h' : lo ≤ a := h
  simp [h, h']
 ·have h' : ¬ lo ≤ a := h
  simp [h, h']
theorem l01In_eq (a lo hi : Int) : spec_l01In.f a lo hi = some (decide (lo ≤ a ∧ a ≤ hi)) := by
 unfold spec_l01In.f
 by_cases h : a ≥ lo
 ·have h' : lo ≤ a := h
  simp [h, h']
 ·have h' : ¬ lo ≤ a := h
  simp [h, h']
theorem when_eq (b : Bool) (c : Int) : impl_when.f b c = some (if b = true then c else 0) := by
 unfold impl_when.f
 split <;> rfl
def fnz : List Int → Int
 | [] => 0
 | a :: l => if a = 0 then fnz l else a
theorem first_from (l : List Int) (hl : l.length ≤ 1000) : ∀ (d k i : Nat), l.length - i ≤ d → d < k → i ≤ l.length → impl_first.l0 k l l.length (i : Int) = some (fnz (l.drop i)) := by
 intro d
 induction d with
 | zero =>
  intro k i hd hk hi
  obtain ⟨k, rfl⟩ : ∃ m, k = m + 1 := ⟨k - 1, by omega⟩
  simp only [impl_first.l0]
  rw [if_neg (by omega), List.drop_of_length_le (by omega)]
  rfl
 | succ d ih =>
  intro k i hd hk hi
  obtain ⟨k, rfl⟩ : ∃ m, k = m + 1 := ⟨k - 1, by omega⟩
  simp only [impl_first.l0]
  by_cases h : i < l.length
  ·have hw : wrap64 ((i : Int) + 1) = ((i + 1 : Nat) : Int) := by unfold wrap64; omega
   rw [hw, ih k (i + 1) (by omega) (by omega) (by omega)]
   have e : rd l (i : Int) = l[i] := by simp [rd, List.getD_eq_getElem?_getD, h]
   rw [List.drop_eq_getElem_cons h, e]
   rw [if_pos (by omega), if_pos (by omega), if_pos (by omega)]
   simp only [fnz]
   split <;> rfl
  ·rw [if_neg (by omega), List.drop_of_length_le (by omega)]
   rfl
theorem first_eq (l : List Int) (hl : l.length ≤ 1000) (k : Nat) (hk : l.length < k) : impl_first.f k l = some (fnz l) := by
 unfold impl_first.f
 have h := first_from l hl l.length k 0 (by omega) hk (by omega)
 simpa using h
theorem long_eq (s : ByteArray) : impl_long.f s = some (if (s.size : Int) > 65536 then 2 else 0) := by
 unfold impl_long.f
 rw [when_eq]
 simp
def cvI (x : S88) : S96 := ⟨x.f0, x.f1⟩
theorem toInstrS_from (l : List S88) (hl : l.length ≤ 1048576) : ∀ (d k i : Nat) (ys : List S96), l.length - i ≤ d → d < k → i ≤ l.length → ys.length = l.length → ys.take i = (l.take i).map cvI → laws_toInstrS.l0 k l ys (i : Int) = some (l.map cvI) := by
 intro d
 induction d with
 | zero =>
  intro k i ys hd hk hi hy ht
  obtain ⟨k, rfl⟩ : ∃ m, k = m + 1 := ⟨k - 1, by omega⟩
  simp only [laws_toInstrS.l0]
  rw [if_neg (by omega)]
  have e : i = l.length := by omega
  subst e
  rw [List.take_of_length_le (by omega), List.take_of_length_le (by omega)] at ht
  rw [ht]
 | succ d ih =>
  intro k i ys hd hk hi hy ht
  obtain ⟨k, rfl⟩ : ∃ m, k = m + 1 := ⟨k - 1, by omega⟩
  by_cases h : i < l.length
  ·have hw : wrap64 ((i : Int) + 1) = ((i + 1 : Nat) : Int) := by unfold wrap64; omega
   have e : rd_T88 l (i : Int) = l[i] := by simp [rd_T88, List.getD_eq_getElem?_getD, h]
   conv => lhs; unfold laws_toInstrS.l0
   rw [if_pos (by omega), if_pos (by omega), e]
   unfold laws_toInstr.f
   simp only [Option.bind_some]
   rw [if_pos (by omega), hw]
   apply ih k (i + 1) _ (by omega) (by omega) (by omega) (by simpa using hy)
   have hi2 : i < ys.length := by omega
   have ei : ((i : Int)).toNat = i := by omega
   rw [ei]
   apply List.ext_getElem
   ·simp; omega
   ·intro j h1 h2
    simp only [List.length_take, List.length_set] at h1
    rw [List.getElem_take, List.getElem_set]
    by_cases hj : i = j
    ·subst hj
     simp [cvI]
    ·have hji : j < i := by omega
     rw [if_neg hj]
     have hh : (ys.take i)[j]? = ((l.take i).map cvI)[j]? := by rw [ht]
     simp [hji] at hh
     rw [List.getElem?_eq_getElem (by omega), List.getElem?_eq_getElem (by omega)] at hh
     simp at hh
     simp [hh]
  ·conv => lhs; unfold laws_toInstrS.l0
   rw [if_neg (by omega)]
   have e : i = l.length := by omega
   subst e
   rw [List.take_of_length_le (by omega), List.take_of_length_le (by omega)] at ht
   rw [ht]
theorem toInstrS_eq (l : List S88) (hl : l.length ≤ 1048576) (k : Nat) (hk : l.length < k) : laws_toInstrS.f k l = some (l.map cvI) := by
 unfold laws_toInstrS.f
 rw [if_pos (by omega), if_pos (by omega)]
 have h := toInstrS_from l hl l.length k 0 (List.replicate l.length z96) (by omega) hk (by omega) (by simp) (by simp)
 simpa using h
theorem eqInstr_refl (a b : Int) : laws_eqInstr.f a b a b = some true := by
 unfold laws_eqInstr.f
 simp
theorem eqInstrS_from (l : List S96) (hl : l.length ≤ 1048576) : ∀ (d k i : Nat), l.length - i ≤ d → d < k → i ≤ l.length → laws_eqInstrS.l0 k l l (i : Int) = some true := by
 intro d
 induction d with
 | zero =>
  intro k i hd hk hi
  obtain ⟨k, rfl⟩ : ∃ m, k = m + 1 := ⟨k - 1, by omega⟩
  simp only [laws_eqInstrS.l0]
  rw [if_neg (by omega)]
 | succ d ih =>
  intro k i hd hk hi
  obtain ⟨k, rfl⟩ : ∃ m, k = m + 1 := ⟨k - 1, by omega⟩
  simp only [laws_eqInstrS.l0]
  by_cases h : i < l.length
  ·have hw : wrap64 ((i : Int) + 1) = ((i + 1 : Nat) : Int) := by unfold wrap64; omega
   rw [hw, ih k (i + 1) (by omega) (by omega) (by omega), eqInstr_refl]
   rw [if_pos (by omega), if_pos (by omega), if_pos (by omega)]
   rfl
  ·rw [if_neg (by omega)]
theorem eqInstrS_eq (l : List S96) (hl : l.length ≤ 1048576) (k : Nat) (hk : l.length < k) : laws_eqInstrS.f k l l = some true := by
 unfold laws_eqInstrS.f
 rw [if_pos rfl]
 have h := eqInstrS_from l hl l.length k 0 (by omega) hk (by omega)
 simpa using h
theorem toIntS_from (l : List Int) (hl : l.length ≤ 1048576) : ∀ (d k i : Nat) (acc : List Int), l.length - i ≤ d → d < k → i ≤ l.length → acc.length = l.length → (∀ j, j < i → acc[j]? = l[j]?) → laws_toIntS.l0 k l acc (i : Int) = some l := by
 intro d
 induction d with
 | zero =>
  intro k i acc hd hk hi hlen hA
  obtain ⟨k, rfl⟩ : ∃ m, k = m + 1 := ⟨k - 1, by omega⟩
  simp only [laws_toIntS.l0]
  rw [if_neg (by omega)]
  congr 1
  apply List.ext_getElem?
  intro j
  by_cases h : j < i
  ·exact hA j h
  ·rw [List.getElem?_eq_none (by omega), List.getElem?_eq_none (by omega)]
 | succ d ih =>
  intro k i acc hd hk hi hlen hA
  obtain ⟨k, rfl⟩ : ∃ m, k = m + 1 := ⟨k - 1, by omega⟩
  simp only [laws_toIntS.l0]
  by_cases h : i < l.length
  ·rw [if_pos (by omega), if_pos (by omega), if_pos (by omega)]
   have hw : wrap64 ((i : Int) + 1) = ((i + 1 : Nat) : Int) := by unfold wrap64; omega
   rw [hw]
   refine ih k (i + 1) _ (by omega) (by omega) (by omega) (by simp [hlen]) (fun j hj => ?_)
   have e : rd l (i : Int) = l[i] := by simp [rd, List.getD_eq_getElem?_getD, h]
   rw [e, Int.toNat_natCast, List.getElem?_set]
   by_cases hji : i = j
   ·subst hji
    rw [if_pos rfl, if_pos (by omega), List.getElem?_eq_getElem h]
   ·rw [if_neg hji]
    exact hA j (by omega)
  ·rw [if_neg (by omega)]
   congr 1
   apply List.ext_getElem?
   intro j
   by_cases h2 : j < i
   ·exact hA j h2
   ·rw [List.getElem?_eq_none (by omega), List.getElem?_eq_none (by omega)]
theorem toIntS_eq (l : List Int) (hl : l.length ≤ 1048576) (k : Nat) (hk : l.length < k) : laws_toIntS.f k l = some l := by
 unfold laws_toIntS.f
 rw [if_pos (by omega), if_pos (by omega)]
 exact toIntS_from l hl l.length k 0 _ (by omega) hk (by omega) (by simp) (fun j hj => by omega)
theorem eqIntS_from (l : List Int) (hl : l.length ≤ 1048576) : ∀ (d k i : Nat), l.length - i ≤ d → d < k → i ≤ l.length → laws_eqIntS.l0 k l l (i : Int) = some true := by
 intro d
 induction d with
 | zero =>
  intro k i hd hk hi
  obtain ⟨k, rfl⟩ : ∃ m, k = m + 1 := ⟨k - 1, by omega⟩
  simp only [laws_eqIntS.l0]
  rw [if_neg (by omega)]
 | succ d ih =>
  intro k i hd hk hi
  obtain ⟨k, rfl⟩ : ∃ m, k = m + 1 := ⟨k - 1, by omega⟩
  simp only [laws_eqIntS.l0]
  by_cases h : i < l.length
  ·have hw : wrap64 ((i : Int) + 1) = ((i + 1 : Nat) : Int) := by unfold wrap64; omega
   rw [if_pos (by omega), if_pos (by omega), hw, ih k (i + 1) (by omega) (by omega) (by omega)]
   simp only [show ((i : Int) < (l.length : Int)) from by omega, if_true]
  ·rw [if_neg (by omega)]
theorem eqIntS_same (l : List Int) (hl : l.length ≤ 1048576) (k : Nat) (hk : l.length < k) : laws_eqIntS.f k l l = some true := by
 unfold laws_eqIntS.f
 rw [if_pos rfl]
 exact eqIntS_from l hl l.length k 0 (by omega) hk (by omega)
theorem toBoolS_from (l : List Bool) (hl : l.length ≤ 1048576) : ∀ (d k i : Nat) (acc : List Bool), l.length - i ≤ d → d < k → i ≤ l.length → acc.length = l.length → (∀ j, j < i → acc[j]? = l[j]?) → laws_toBoolS.l0 k l acc (i : Int) = some l := by
 intro d
 induction d with
 | zero =>
  intro k i acc hd hk hi hlen hA
  obtain ⟨k, rfl⟩ : ∃ m, k = m + 1 := ⟨k - 1, by omega⟩
  simp only [laws_toBoolS.l0]
  rw [if_neg (by omega)]
  congr 1
  apply List.ext_getElem?
  intro j
  by_cases h : j < i
  ·exact hA j h
  ·rw [List.getElem?_eq_none (by omega), List.getElem?_eq_none (by omega)]
 | succ d ih =>
  intro k i acc hd hk hi hlen hA
  obtain ⟨k, rfl⟩ : ∃ m, k = m + 1 := ⟨k - 1, by omega⟩
  simp only [laws_toBoolS.l0]
  by_cases h : i < l.length
  ·rw [if_pos (by omega), if_pos (by omega), if_pos (by omega)]
   have hw : wrap64 ((i : Int) + 1) = ((i + 1 : Nat) : Int) := by unfold wrap64; omega
   rw [hw]
   refine ih k (i + 1) _ (by omega) (by omega) (by omega) (by simp [hlen]) (fun j hj => ?_)
   have e : rdOf false l (i : Int) = l[i] := by simp [rdOf, List.getD_eq_getElem?_getD, h]
   rw [e, Int.toNat_natCast, List.getElem?_set]
   by_cases hji : i = j
   ·subst hji
    rw [if_pos rfl, if_pos (by omega), List.getElem?_eq_getElem h]
   ·rw [if_neg hji]
    exact hA j (by omega)
  ·rw [if_neg (by omega)]
   congr 1
   apply List.ext_getElem?
   intro j
   by_cases h2 : j < i
   ·exact hA j h2
   ·rw [List.getElem?_eq_none (by omega), List.getElem?_eq_none (by omega)]
theorem toBoolS_eq (l : List Bool) (hl : l.length ≤ 1048576) (k : Nat) (hk : l.length < k) : laws_toBoolS.f k l = some l := by
 unfold laws_toBoolS.f
 rw [if_pos (by omega), if_pos (by omega)]
 exact toBoolS_from l hl l.length k 0 _ (by omega) hk (by omega) (by simp) (fun j hj => by omega)
theorem eqBoolS_from (l : List Bool) (hl : l.length ≤ 1048576) : ∀ (d k i : Nat), l.length - i ≤ d → d < k → i ≤ l.length → laws_eqBoolS.l0 k l l (i : Int) = some true := by
 intro d
 induction d with
 | zero =>
  intro k i hd hk hi
  obtain ⟨k, rfl⟩ : ∃ m, k = m + 1 := ⟨k - 1, by omega⟩
  simp only [laws_eqBoolS.l0]
  rw [if_neg (by omega)]
 | succ d ih =>
  intro k i hd hk hi
  obtain ⟨k, rfl⟩ : ∃ m, k = m + 1 := ⟨k - 1, by omega⟩
  simp only [laws_eqBoolS.l0]
  by_cases h : i < l.length
  ·have hw : wrap64 ((i : Int) + 1) = ((i + 1 : Nat) : Int) := by unfold wrap64; omega
   rw [if_pos (by omega), if_pos (by omega), hw, ih k (i + 1) (by omega) (by omega) (by omega)]
   simp only [show ((i : Int) < (l.length : Int)) from by omega, if_true, bne_self_eq_false, Bool.false_eq_true, if_false]
  ·rw [if_neg (by omega)]
theorem eqBoolS_same (l : List Bool) (hl : l.length ≤ 1048576) (k : Nat) (hk : l.length < k) : laws_eqBoolS.f k l l = some true := by
 unfold laws_eqBoolS.f
 rw [if_pos rfl]
 exact eqBoolS_from l hl l.length k 0 (by omega) hk (by omega)
theorem has_j2 (k : Nat) (a : Int) (b : Bool) : spec_l02Has.j2 k a b = impl_rangeOf.j2 k a b := by
 cases k <;> simp only [spec_l02Has.j2, impl_rangeOf.j2]
theorem has_j1 (k : Nat) (a : Int) (b : Bool) : spec_l02Has.j1 k a b = impl_rangeOf.j1 k a b := by
 cases k <;> simp only [spec_l02Has.j1, impl_rangeOf.j1, has_j2]
theorem has_j0 (k : Nat) (a : Int) (b : Bool) : spec_l02Has.j0 k a b = impl_rangeOf.j0 k a b := by
 cases k <;> simp only [spec_l02Has.j0, impl_rangeOf.j0, has_j1]
theorem has_same (k : Nat) (a : Int) : spec_l02Has.f k a = impl_rangeOf.f k a := by
 unfold spec_l02Has.f impl_rangeOf.f
 simp only [has_j0]
def rng (a : Int) : Int × Int × Bool :=
 if a = 1 then (-2147483648, 2147483647, true) else if a = 2 then (0, 1, true) else if a = 3 ∨ a = 4 then (0, 15, true) else if a = 5 ∨ a = 6 ∨ a = 7 ∨ a = 8 then (0, 7, true)
 else if a = 19 ∨ a = 20 then (0, 7, true) else if a = 24 then (1, 20, true) else if a = 26 then (0, 5, true) else (0, 0, false)
theorem range_eq (k : Nat) (hk : 3 ≤ k) (a : Int) : impl_rangeOf.f k a = some (rng a) := by
 obtain ⟨k, rfl⟩ : ∃ m, k = m + 3 := ⟨k - 3, by omega⟩
 unfold impl_rangeOf.f rng
 simp only [impl_rangeOf.j0, impl_rangeOf.j1, impl_rangeOf.j2]
 by_cases h1 : a = 1
 ·subst h1; rfl
 by_cases h2 : a = 2
 ·subst h2; rfl
 by_cases h3 : a = 3
 ·subst h3; rfl
 by_cases h4 : a = 4
 ·subst h4; rfl
 by_cases h5 : a = 5
 ·subst h5; rfl
 by_cases h6 : a = 6
 ·subst h6; rfl
 by_cases h7 : a = 7
 ·subst h7; rfl
 by_cases h8 : a = 8
 ·subst h8; rfl
 by_cases h19 : a = 19
 ·subst h19; rfl
 by_cases h20 : a = 20
 ·subst h20; rfl
 by_cases h24 : a = 24
 ·subst h24; rfl
 by_cases h26 : a = 26
 ·subst h26; rfl
 simp [h1, h2, h3, h4, h5, h6, h7, h8, h19, h20, h24, h26]
def instrb (op a : Int) : Bool := decide ((1 ≤ op ∧ op ≤ 26) ∧ ((rng op).1 ≤ a ∧ a ≤ (rng op).2.1))
theorem isOp_eq (a : Int) : impl_isOp.f a = some (decide (1 ≤ a ∧ a ≤ 26)) := by
 unfold impl_isOp.f; rw [within_eq]; rfl
theorem l02Op_eq (a : Int) : spec_l02Op.f a = some (decide (1 ≤ a ∧ a ≤ 26)) := by
 unfold spec_l02Op.f; rw [l01In_eq]; rfl
theorem spec_instr (k : Nat) (hk : 3 ≤ k) (op a : Int) : spec_l02OK.f k op a = some (instrb op a) := by
 unfold spec_l02OK.f instrb
 simp only [l02Op_eq, l01In_eq, has_same, range_eq k hk, Option.bind_some]
 by_cases h : 1 ≤ op ∧ op ≤ 26 <;> simp [h]
theorem impl_instr (k : Nat) (hk : 3 ≤ k) (op a : Int) : impl_InstrOK.f k op a = some (instrb op a) := by
 unfold impl_InstrOK.f instrb
 simp only [isOp_eq, within_eq, range_eq k hk, Option.bind_some]
 by_cases h : 1 ≤ op ∧ op ≤ 26 <;> simp [h]
theorem impl_all_int_isFbKind_from (p : Int → Bool) (K : Nat) (hF : ∀ (k : Nat) (x : Int), K ≤ k → impl_isFbKind.f x = some (p x)) (l : List Int) (hl : l.length ≤ 1048576) : ∀ (d k i : Nat), l.length - i ≤ d → d + K < k → i ≤ l.length →
 ∃ j, impl_all_int_isFbKind.l0 k l (i : Int) = some j ∧ (!(decide (0 ≤ j))) = (l.drop i).all p := by
 intro d
 induction d with
 | zero =>
  intro k i hd hk hi
  obtain ⟨k, rfl⟩ : ∃ m, k = m + 1 := ⟨k - 1, by omega⟩
  refine ⟨-1, ?_, ?_⟩
  ·simp only [impl_all_int_isFbKind.l0]
   rw [if_neg (by omega)]
  ·rw [List.drop_of_length_le (by omega)]
   rfl
 | succ d ih =>
  intro k i hd hk hi
  obtain ⟨k, rfl⟩ : ∃ m, k = m + 1 := ⟨k - 1, by omega⟩
  by_cases h : i < l.length
  ·have e : rd l (i : Int) = l[i] := by simp [rd, List.getD_eq_getElem?_getD, h]
   have hw : wrap64 ((i : Int) + 1) = ((i + 1 : Nat) : Int) := by unfold wrap64; omega
   obtain ⟨j, hj, hp⟩ := ih k (i + 1) (by omega) (by omega) (by omega)
   have hx := hF k l[i] (by omega)
   rw [List.drop_eq_getElem_cons h, List.all_cons]
   simp only [impl_all_int_isFbKind.l0]
   rw [if_pos (by omega), if_pos (by omega), e, hw, hx]
   simp only [Option.bind_some]
   cases p l[i] with
   | true => exact ⟨j, by rw [if_pos rfl]; exact hj, by simpa using hp⟩
   | false => exact ⟨(i : Int), by rw [if_neg (by decide)], by simp⟩
  ·refine ⟨-1, ?_, ?_⟩
   ·simp only [impl_all_int_isFbKind.l0]
    rw [if_neg (by omega)]
   ·rw [List.drop_of_length_le (by omega)]
    rfl
theorem impl_all_int_isFbKind_eq (p : Int → Bool) (K : Nat) (hF : ∀ (k : Nat) (x : Int), K ≤ k → impl_isFbKind.f x = some (p x)) (l : List Int) (hl : l.length ≤ 1048576) (k : Nat) (hk : l.length + K < k) : impl_all_int_isFbKind.f k l = some (l.all p) := by
 obtain ⟨j, hj, hp⟩ := impl_all_int_isFbKind_from p K hF l hl l.length k 0 (by omega) (by omega) (by omega)
 unfold impl_all_int_isFbKind.f
 have hj' : impl_all_int_isFbKind.l0 k l 0 = some j := hj
 rw [hj']
 simp only [Option.bind_some]
 rw [hp]
 rfl
theorem impl_all_Instr_InstrOK_from (p : S96 → Bool) (K : Nat) (hF : ∀ (k : Nat) (x : S96), K ≤ k → impl_InstrOK.f k x.f0 x.f1 = some (p x)) (l : List S96) (hl : l.length ≤ 1048576) : ∀ (d k i : Nat), l.length - i ≤ d → d + K < k → i ≤ l.length →
 ∃ j, impl_all_Instr_InstrOK.l0 k l (i : Int) = some j ∧ (!(decide (0 ≤ j))) = (l.drop i).all p := by
 intro d
 induction d with
 | zero =>
  intro k i hd hk hi
  obtain ⟨k, rfl⟩ : ∃ m, k = m + 1 := ⟨k - 1, by omega⟩
  refine ⟨-1, ?_, ?_⟩
  ·simp only [impl_all_Instr_InstrOK.l0]
   rw [if_neg (by omega)]
  ·rw [List.drop_of_length_le (by omega)]
   rfl
 | succ d ih =>
  intro k i hd hk hi
  obtain ⟨k, rfl⟩ : ∃ m, k = m + 1 := ⟨k - 1, by omega⟩
  by_cases h : i < l.length
  ·have e : rd_T96 l (i : Int) = l[i] := by simp [rd_T96, List.getD_eq_getElem?_getD, h]
   have hw : wrap64 ((i : Int) + 1) = ((i + 1 : Nat) : Int) := by unfold wrap64; omega
   obtain ⟨j, hj, hp⟩ := ih k (i + 1) (by omega) (by omega) (by omega)
   have hx := hF k l[i] (by omega)
   rw [List.drop_eq_getElem_cons h, List.all_cons]
   simp only [impl_all_Instr_InstrOK.l0]
   rw [if_pos (by omega), if_pos (by omega), e, hw, hx]
   simp only [Option.bind_some]
   cases p l[i] with
   | true => exact ⟨j, by rw [if_pos rfl]; exact hj, by simpa using hp⟩
   | false => exact ⟨(i : Int), by rw [if_neg (by decide)], by simp⟩
  ·refine ⟨-1, ?_, ?_⟩
   ·simp only [impl_all_Instr_InstrOK.l0]
    rw [if_neg (by omega)]
   ·rw [List.drop_of_length_le (by omega)]
    rfl
theorem impl_all_Instr_InstrOK_eq (p : S96 → Bool) (K : Nat) (hF : ∀ (k : Nat) (x : S96), K ≤ k → impl_InstrOK.f k x.f0 x.f1 = some (p x)) (l : List S96) (hl : l.length ≤ 1048576) (k : Nat) (hk : l.length + K < k) : impl_all_Instr_InstrOK.f k l = some (l.all p) := by
 obtain ⟨j, hj, hp⟩ := impl_all_Instr_InstrOK_from p K hF l hl l.length k 0 (by omega) (by omega) (by omega)
 unfold impl_all_Instr_InstrOK.f
 have hj' : impl_all_Instr_InstrOK.l0 k l 0 = some j := hj
 rw [hj']
 simp only [Option.bind_some]
 rw [hp]
 rfl
def kindB (a : Int) : Bool := decide (1 ≤ a ∧ a ≤ 4)
def insB (x : S96) : Bool := instrb x.f0 x.f1
theorem isFbKind_eq (a : Int) : impl_isFbKind.f a = some (kindB a) := by unfold impl_isFbKind.f kindB; rw [within_eq]; rfl
theorem l03Kind_eq (a : Int) : spec_l03Kind.f a = some (kindB a) := by unfold spec_l03Kind.f kindB; rw [l01In_eq]; rfl
theorem areKinds_eq (l : List Int) (hl : l.length ≤ 1048576) (k : Nat) (hk : l.length + 1 < k) : impl_areKinds.f k l = some (decide (l.length ≤ 8) && l.all kindB) := by
 unfold impl_areKinds.f
 by_cases h : l.length ≤ 8
 ·rw [if_pos (by omega), impl_all_int_isFbKind_eq kindB 0 (fun k x _ => isFbKind_eq x) l hl k (by omega), decide_eq_true h]; rfl
 ·rw [if_neg (by omega), decide_eq_false h]; rfl
theorem isCode_eq (l : List S96) (hl : l.length ≤ 1048576) (k : Nat) (hk : l.length + 4 < k) : impl_isCode.f k l = some (decide (l.length ≤ 40) && l.all insB) := by
 unfold impl_isCode.f
 by_cases h : l.length ≤ 40
 ·rw [if_pos (by omega), impl_all_Instr_InstrOK_eq insB 3 (fun k x hk => impl_instr k hk x.f0 x.f1) l hl k (by omega), decide_eq_true h]; rfl
 ·rw [if_neg (by omega), decide_eq_false h]; rfl
theorem l04Kinds_from (l : List Int) (hl : l.length ≤ 1048576) : ∀ (d k i : Nat), l.length - i ≤ d → d < k → i ≤ l.length → spec_l04Kinds.l0 k l (i : Int) = some ((l.drop i).all kindB) := by
 intro d
 induction d with
 | zero =>
  intro k i hd hk hi
  obtain ⟨k, rfl⟩ : ∃ m, k = m + 1 := ⟨k - 1, by omega⟩
  simp only [spec_l04Kinds.l0]
  rw [if_neg (by omega), List.drop_of_length_le (by omega)]
  rfl
 | succ d ih =>
  intro k i hd hk hi
  obtain ⟨k, rfl⟩ : ∃ m, k = m + 1 := ⟨k - 1, by omega⟩
  simp only [spec_l04Kinds.l0]
  by_cases h : i < l.length
  ·have e : rd l (i : Int) = l[i] := by simp [rd, List.getD_eq_getElem?_getD, h]
   have hw : wrap64 ((i : Int) + 1) = ((i + 1 : Nat) : Int) := by unfold wrap64; omega
   rw [if_pos (by omega), if_pos (by omega), e, hw, ih k (i + 1) (by omega) (by omega) (by omega), l03Kind_eq, List.drop_eq_getElem_cons h, List.all_cons]
   simp only [Option.bind_some]
   cases kindB l[i] <;> rfl
  ·rw [if_neg (by omega), List.drop_of_length_le (by omega)]
   rfl
theorem l04Kinds_eq (l : List Int) (hl : l.length ≤ 1048576) (k : Nat) (hk : l.length < k) : spec_l04Kinds.f k l = some (decide (l.length ≤ 8) && l.all kindB) := by
 unfold spec_l04Kinds.f
 by_cases h : l.length ≤ 8
 ·have := l04Kinds_from l hl l.length k 0 (by omega) hk (by omega)
  rw [if_neg (by omega), decide_eq_true h]
  simpa using this
 ·rw [if_pos (by omega), decide_eq_false h]; rfl
theorem l02All_from (l : List S96) (hl : l.length ≤ 1048576) : ∀ (d k i : Nat), l.length - i ≤ d → d + 3 < k → i ≤ l.length → spec_l02All.l0 k l (i : Int) = some ((l.drop i).all insB) := by
 intro d
 induction d with
 | zero =>
  intro k i hd hk hi
  obtain ⟨k, rfl⟩ : ∃ m, k = m + 1 := ⟨k - 1, by omega⟩
  simp only [spec_l02All.l0]
  rw [if_neg (by omega), List.drop_of_length_le (by omega)]
  rfl
 | succ d ih =>
  intro k i hd hk hi
  obtain ⟨k, rfl⟩ : ∃ m, k = m + 1 := ⟨k - 1, by omega⟩
  simp only [spec_l02All.l0]
  by_cases h : i < l.length
  ·have e : rd_T96 l (i : Int) = l[i] := by simp [rd_T96, List.getD_eq_getElem?_getD, h]
   have hw : wrap64 ((i : Int) + 1) = ((i + 1 : Nat) : Int) := by unfold wrap64; omega
   rw [if_pos (by omega), if_pos (by omega), e, hw, ih k (i + 1) (by omega) (by omega) (by omega), spec_instr k (by omega), List.drop_eq_getElem_cons h, List.all_cons]
   simp only [Option.bind_some]
   show (if insB l[i] = true then _ else _) = _
   cases insB l[i] <;> rfl
  ·rw [if_neg (by omega), List.drop_of_length_le (by omega)]
   rfl
theorem l02All_eq (l : List S96) (hl : l.length ≤ 1048576) (k : Nat) (hk : l.length + 3 < k) : spec_l02All.f k l = some (l.all insB) := by
 unfold spec_l02All.f
 have := l02All_from l hl l.length k 0 (by omega) hk (by omega)
 simpa using this
theorem ok_of_ins {l0 : List S96} {l1 : List Int} (hl : l0.length ≤ 40) (h1 : l1.all kindB = true) (h0 : l0.all insB = true) : l0.length ≤ 4096 ∧ (l0.all fun x => vOKb l1 x.f0 x.f1) = true := by
 refine ⟨by omega, ?_⟩
 rw [List.all_eq_true] at h0 ⊢
 intro x hx
 have hi := h0 x hx
 unfold insB instrb at hi
 have hi' := of_decide_eq_true hi
 obtain ⟨⟨a1, a2⟩, a3, a4⟩ := hi'
 unfold vOKb
 have hk : (l1.all fun k => decide (1 ≤ k) && decide (k ≤ 4)) = true := by
  rw [List.all_eq_true] at h1 ⊢
  intro y hy
  have := of_decide_eq_true (h1 y hy)
  rw [decide_eq_true this.1, decide_eq_true this.2]; rfl
 rw [hk, decide_eq_true a1, decide_eq_true a2]
 by_cases h19 : x.f0 = 19
 ·rw [h19] at a3
  have : (0 : Int) ≤ x.f1 := a3
  rw [decide_eq_true this]; simp
 ·by_cases h20 : x.f0 = 20
  ·rw [h20] at a3
   have : (0 : Int) ≤ x.f1 := a3
   rw [decide_eq_true this]; simp
  ·have e1 : (x.f0 == 19) = false := by simpa using h19
   have e2 : (x.f0 == 20) = false := by simpa using h20
   rw [e1, e2]; rfl
def VR : ByteArray → List SO → List VO → Prop
 | _, [], [] => True
 | S, o :: P, v :: Q => v.at_ = o.at_ ∧ v.base = (o.stack.size : Int) ∧ ((o.op = 21 ∧ v.isIf = true ∧ v.hasElse = false) ∨ (o.op = 22 ∧ v.isIf = true ∧ v.hasElse = true) ∨ (o.op = 24 ∧ v.isIf = false ∧ v.hasElse = false)) ∧ o.stack.size ≤ S.size ∧ S.extract 0 o.stack.size = o.stack ∧ VR o.stack P Q
 | _, _, _ => False
theorem VR.base {S : ByteArray} {O : List SO} {Q : List VO} (h : VR S O Q) : sBase O = vBase Q := by
 cases O <;> cases Q <;> simp only [VR] at h
 ·rfl
 ·exact h.2.1.symm
theorem VR.length {O : List SO} : ∀ {S : ByteArray} {Q : List VO}, VR S O Q → O.length = Q.length := by
 induction O with
 | nil => intro S Q h; cases Q <;> simp only [VR] at h; rfl
 | cons o P ih =>
  intro S Q h
  cases Q <;> simp only [VR] at h
  simp [ih h.2.2.2.2.2]
theorem ext_ext (S Q : ByteArray) (k n : Nat) (hn : n ≤ k) (hk : k ≤ S.size) : (S.extract 0 k ++ Q).extract 0 n = S.extract 0 n := by
 apply ByteArray.ext
 simp only [ByteArray.data_extract, ByteArray.data_append]
 apply Array.ext'
 have h1 : S.data.toList.length = S.size := by rw [Array.length_toList]; rfl
 have h2 : S.data.size = S.size := rfl
 simp only [Array.toList_extract, Array.toList_append, List.extract_eq_take_drop, List.drop_zero, Nat.sub_zero]
 rw [List.take_append_of_le_length (by rw [List.length_take, h1]; omega), List.take_take, Nat.min_eq_left hn]
theorem VR.cut {S Q : ByteArray} {k : Nat} {O : List SO} {V : List VO} (h : VR S O V) (hk : k ≤ S.size) (hb : sBase O ≤ (k : Int)) : VR (S.extract 0 k ++ Q) O V := by
 cases O <;> cases V <;> simp only [VR, sBase] at h hb ⊢
 obtain ⟨h1, h2, h3, h4, h5, h6⟩ := h
 refine ⟨h1, h2, h3, ?_, ?_, h6⟩
 ·rw [ByteArray.size_append, ByteArray.size_extract]; omega
 ·rw [ext_ext _ _ _ _ (by omega) hk]; exact h5
theorem nest_eq {at_ op : Int} {S : ByteArray} {O : List SO} {V : List VO} (h : VR S O V) (hr : 21 ≤ op ∧ op ≤ 24) :
 (sNest at_ op S O).1 = (vNest at_ op S V).1 ∧ ((sNest at_ op S O).1 = 0 → VR S (sNest at_ op S O).2 (vNest at_ op S V).2) := by
 have hl := h.length
 by_cases h1 : op = 21 ∨ op = 24
 ·by_cases h4 : O.length = 4
  ·have h4' : V.length = 4 := by omega
   rw [show sNest at_ op S O = (17, O) from by unfold sNest; rw [if_pos h1, if_pos h4], show vNest at_ op S V = (17, V) from by unfold vNest; rw [if_pos h1, if_pos h4']]
   exact ⟨rfl, fun e => absurd e (by simp)⟩
  ·have h4' : ¬ V.length = 4 := by omega
   rw [show sNest at_ op S O = (0, ⟨at_, op, S⟩ :: O) from by unfold sNest; rw [if_pos h1, if_neg h4], show vNest at_ op S V = (0, ⟨at_, (S.size : Int), decide (op = 21), false⟩ :: V) from by unfold vNest; rw [if_pos h1, if_neg h4']]
   refine ⟨rfl, fun _ => ?_⟩
   simp only [VR]
   refine ⟨trivial, trivial, ?_, Nat.le_refl _, ?_, h⟩
   ·rcases h1 with rfl | rfl
    ·exact .inl (by simp)
    ·exact .inr (.inr (by simp))
   ·apply ByteArray.ext; simp
 have h23 : op = 22 ∨ op = 23 := by omega
 cases O with
 | nil =>
  cases V <;> simp only [VR] at h
  rw [show sNest at_ op S [] = (14, []) from by unfold sNest; rw [if_neg h1]]
  rcases h23 with rfl | rfl
  ·exact ⟨rfl, fun e => absurd e (by simp)⟩
  ·exact ⟨rfl, fun e => absurd e (by simp)⟩
 | cons o P =>
  cases V with
  | nil => simp only [VR] at h
  | cons v Q =>
   simp only [VR] at h
   obtain ⟨e1, e2, e3, e4, e5, e6⟩ := h
   have hst : (S = o.stack) ↔ ((S.size : Int) = v.base) := by
    rw [e2]
    constructor
    ·intro e; rw [e]
    ·intro e
     have e' : o.stack.size = S.size := by omega
     rw [← e5, e']
     apply ByteArray.ext; simp
   rw [show sNest at_ op S (o :: P) = if op = 22 ∧ o.op ≠ 21 then (14, o :: P) else if S = o.stack then (if op = 22 then (0, { o with op := 22 } :: P) else (0, P)) else (13, o :: P) from by unfold sNest; rw [if_neg h1]]
   rcases h23 with rfl | rfl
   ·rw [show vNest at_ 22 S (v :: Q) = if (!v.isIf || v.hasElse) = true then (14, v :: Q) else if (S.size : Int) = v.base then (0, { v with hasElse := true } :: Q) else (13, v :: Q) from by unfold vNest; rw [if_neg (by decide), if_pos rfl]]
    by_cases hb : o.op = 21
    ·have hv : v.isIf = true ∧ v.hasElse = false := by rcases e3 with e3 | e3 | e3 <;> first | exact e3.2 | (exfalso; omega)
     have hv' : ¬ (!v.isIf || v.hasElse) = true := by rw [hv.1, hv.2]; decide
     rw [if_neg (by simp [hb]), if_neg hv']
     by_cases hs : S = o.stack
     ·rw [if_pos hs, if_pos (hst.1 hs), if_pos rfl]
      refine ⟨rfl, fun _ => ?_⟩
      simp only [VR]
      exact ⟨e1, e2, .inr (.inl (by simp [hv.1])), e4, e5, e6⟩
     ·rw [if_neg hs, if_neg (fun e => hs (hst.2 e))]
      exact ⟨rfl, fun e => absurd e (by simp)⟩
    ·have hv : (!v.isIf || v.hasElse) = true := by
      rcases e3 with e3 | e3 | e3
      ·exact absurd e3.1 hb
      ·simp [e3.2.1, e3.2.2]
      ·simp [e3.2.1, e3.2.2]
     rw [if_pos ⟨rfl, hb⟩, if_pos hv]
     exact ⟨rfl, fun e => absurd e (by simp)⟩
   ·rw [show vNest at_ 23 S (v :: Q) = if (S.size : Int) = v.base then (0, Q) else (13, v :: Q) from by unfold vNest; rw [if_neg (by decide), if_neg (by decide), if_pos rfl]]
    rw [if_neg (by rintro ⟨e, _⟩; exact absurd e (by decide) : ¬ ((23 : Int) = 22 ∧ o.op ≠ 21)), if_neg (by decide : ¬ (23 : Int) = 22)]
    by_cases hs : S = o.stack
    ·rw [if_pos hs, if_pos (hst.1 hs)]
     exact ⟨rfl, fun _ => by rw [hs]; exact e6⟩
    ·rw [if_neg hs, if_neg (fun e => hs (hst.2 e))]
     exact ⟨rfl, fun e => absurd e (by simp)⟩
theorem step_eq {ks : List Int} {R at_ op a : Int} {S : ByteArray} {O : List SO} {V : List VO} (h : VR S O V) (hi : sInv S O) :
 (sStep ks R at_ op a S O).1 = (vStep ks R at_ op a S V).1 ∧ ((sStep ks R at_ op a S O).1 = 0 → (sStep ks R at_ op a S O).2.1 = (vStep ks R at_ op a S V).2.1 ∧ VR (sStep ks R at_ op a S O).2.1 (sStep ks R at_ op a S O).2.2 (vStep ks R at_ op a S V).2.2) := by
 have hb := h.base
 have hr := sBase_range hi
 unfold sStep vStep
 by_cases h1 : (op = 19 ∨ op = 20) ∧ (ks.length : Int) ≤ a
 ·rw [if_pos h1, if_pos h1]; exact ⟨rfl, fun e => absurd e (by simp)⟩
 rw [if_neg h1, if_neg h1]
 by_cases h2 : op = 26 ∧ R ≤ a
 ·rw [if_pos h2, if_pos h2]; exact ⟨rfl, fun e => absurd e (by simp)⟩
 rw [if_neg h2, if_neg h2]
 by_cases h3 : (S.size : Int) - sBase O < ((vEff ks op a).1.size : Int)
 ·have h3' : (S.size : Int) - ((vEff ks op a).1.size : Int) < vBase V := by omega
  rw [if_pos h3, if_pos h3']; exact ⟨rfl, fun e => absurd e (by simp)⟩
 have h3' : ¬ (S.size : Int) - ((vEff ks op a).1.size : Int) < vBase V := by omega
 rw [if_neg h3, if_neg h3']
 by_cases h4 : S.extract (S.size - (vEff ks op a).1.size) S.size = (vEff ks op a).1
 ·rw [if_pos h4, if_pos h4]
  by_cases h5 : S.size - (vEff ks op a).1.size + (vEff ks op a).2.size ≤ 8
  ·rw [if_pos h5, if_pos h5]
   have hc : VR (S.extract 0 (S.size - (vEff ks op a).1.size) ++ (vEff ks op a).2) O V := h.cut (by omega) (by omega)
   by_cases h6 : 21 ≤ op ∧ op ≤ 24
   ·rw [if_pos h6]
    obtain ⟨n1, n2⟩ := nest_eq (at_ := at_) hc h6
    exact ⟨n1, fun e => ⟨rfl, n2 e⟩⟩
   ·rw [if_neg h6]
    have hv : vNest at_ op (S.extract 0 (S.size - (vEff ks op a).1.size) ++ (vEff ks op a).2) V = (0, V) := by
     unfold vNest
     rw [if_neg (by omega : ¬ (op = 21 ∨ op = 24)), if_neg (by omega : ¬ op = 22), if_neg (by omega : ¬ op = 23)]
    rw [hv]
    exact ⟨rfl, fun _ => ⟨rfl, hc⟩⟩
  ·rw [if_neg h5, if_neg h5]; exact ⟨rfl, fun e => absurd e (by simp)⟩
 ·rw [if_neg h4, if_neg h4]; exact ⟨rfl, fun e => absurd e (by simp)⟩
theorem loop_eq (ks : List Int) (R : Int) (xs : List S96) : ∀ (at_ : Int) (S : ByteArray) (O : List SO) (V : List VO) (out : List ByteArray), VR S O V → sInv S O → (vLoop ks R xs at_ S V out).2 = sLoop ks R xs at_ S O := by
 induction xs with
 | nil =>
  intro at_ S O V out h hi
  cases O <;> cases V <;> simp only [VR] at h
  ·simp only [vLoop, sLoop]; split <;> rfl
  ·simp only [vLoop, sLoop]; rw [h.1]
 | cons x xs ih =>
  intro at_ S O V out h hi
  obtain ⟨e1, e2⟩ := step_eq (ks := ks) (R := R) (at_ := at_) (op := x.f0) (a := x.f1) h hi
  simp only [vLoop, sLoop]
  rw [← e1]
  by_cases hc : (sStep ks R at_ x.f0 x.f1 S O).1 = 0
  ·rw [if_pos hc, if_pos hc]
   obtain ⟨e3, e4⟩ := e2 hc
   rw [← e3]
   exact ih _ _ _ _ _ e4 (sStep_inv hi hc)
  ·rw [if_neg hc, if_neg hc]
def cvR (x : S117) : S124 := ⟨x.f0.map cvI⟩
theorem toRoutine_eq (l : List S88) (hl : l.length ≤ 1048576) (k : Nat) (hk : l.length < k) : laws_toRoutine.f k l = some (l.map cvI) := by
 unfold laws_toRoutine.f
 rw [toInstrS_eq l hl k hk]; rfl
theorem toRoutineS_from (l : List S117) (hl : l.length ≤ 1048576) (hm : ∀ x ∈ l, x.f0.length ≤ 1048576) : ∀ (d k i : Nat) (ys : List S124), l.length - i ≤ d → d + 1048577 < k → i ≤ l.length → ys.length = l.length → ys.take i = (l.take i).map cvR → laws_toRoutineS.l0 k l ys (i : Int) = some (l.map cvR) := by
 intro d
 induction d with
 | zero =>
  intro k i ys hd hk hi hy ht
  obtain ⟨k, rfl⟩ : ∃ m, k = m + 1 := ⟨k - 1, by omega⟩
  simp only [laws_toRoutineS.l0]
  rw [if_neg (by omega)]
  have e : i = l.length := by omega
  subst e
  rw [List.take_of_length_le (by omega), List.take_of_length_le (by omega)] at ht
  rw [ht]
 | succ d ih =>
  intro k i ys hd hk hi hy ht
  obtain ⟨k, rfl⟩ : ∃ m, k = m + 1 := ⟨k - 1, by omega⟩
  by_cases h : i < l.length
  ·have hw : wrap64 ((i : Int) + 1) = ((i + 1 : Nat) : Int) := by unfold wrap64; omega
   have e : rd_T117 l (i : Int) = l[i] := by simp [rd_T117, List.getD_eq_getElem?_getD, h]
   have hmi := hm l[i] (List.getElem_mem h)
   conv => lhs; unfold laws_toRoutineS.l0
   rw [if_pos (by omega), if_pos (by omega), e, toRoutine_eq _ hmi _ (by omega)]
   simp only [Option.bind_some]
   rw [if_pos (by omega), hw]
   apply ih k (i + 1) _ (by omega) (by omega) (by omega) (by simpa using hy)
   have hi2 : i < ys.length := by omega
   have ei : ((i : Int)).toNat = i := by omega
   rw [ei]
   apply List.ext_getElem
   ·simp; omega
   ·intro j h1 h2
    simp only [List.length_take, List.length_set] at h1
    rw [List.getElem_take, List.getElem_set]
    by_cases hj : i = j
    ·subst hj
     simp [cvR]
    ·have hji : j < i := by omega
     rw [if_neg hj]
     have hh : (ys.take i)[j]? = ((l.take i).map cvR)[j]? := by rw [ht]
     simp [hji] at hh
     rw [List.getElem?_eq_getElem (by omega), List.getElem?_eq_getElem (by omega)] at hh
     simp at hh
     simp [hh]
  ·conv => lhs; unfold laws_toRoutineS.l0
   rw [if_neg (by omega)]
   have e : i = l.length := by omega
   subst e
   rw [List.take_of_length_le (by omega), List.take_of_length_le (by omega)] at ht
   rw [ht]
theorem toRoutineS_eq (l : List S117) (hl : l.length ≤ 1048576) (hm : ∀ x ∈ l, x.f0.length ≤ 1048576) (k : Nat) (hk : l.length + 1048577 < k) : laws_toRoutineS.f k l = some (l.map cvR) := by
 unfold laws_toRoutineS.f
 rw [if_pos (by omega), if_pos (by omega)]
 have h := toRoutineS_from l hl hm l.length k 0 (List.replicate l.length z124) (by omega) hk (by omega) (by simp) (by simp)
 simpa using h
theorem eqRoutine_same (l : List S96) (hl : l.length ≤ 1048576) (k : Nat) (hk : l.length < k) : laws_eqRoutine.f k l l = some true := by
 unfold laws_eqRoutine.f
 rw [eqInstrS_eq l hl k hk]; rfl
theorem eqRoutineS_from (l : List S124) (hl : l.length ≤ 1048576) (hm : ∀ x ∈ l, x.f0.length ≤ 1048576) : ∀ (d k i : Nat), l.length - i ≤ d → d + 1048577 < k → i ≤ l.length → laws_eqRoutineS.l0 k l l (i : Int) = some true := by
 intro d
 induction d with
 | zero =>
  intro k i hd hk hi
  obtain ⟨k, rfl⟩ : ∃ m, k = m + 1 := ⟨k - 1, by omega⟩
  simp only [laws_eqRoutineS.l0]
  rw [if_neg (by omega)]
 | succ d ih =>
  intro k i hd hk hi
  obtain ⟨k, rfl⟩ : ∃ m, k = m + 1 := ⟨k - 1, by omega⟩
  simp only [laws_eqRoutineS.l0]
  by_cases h : i < l.length
  ·have hw : wrap64 ((i : Int) + 1) = ((i + 1 : Nat) : Int) := by unfold wrap64; omega
   have e : rd_T124 l (i : Int) = l[i] := by simp [rd_T124, List.getD_eq_getElem?_getD, h]
   rw [hw, ih k (i + 1) (by omega) (by omega) (by omega), e, eqRoutine_same _ (hm _ (List.getElem_mem h)) _ (by have := hm _ (List.getElem_mem h); omega)]
   rw [if_pos (by omega), if_pos (by omega), if_pos (by omega)]
   rfl
  ·rw [if_neg (by omega)]
theorem eqRoutineS_eq (l : List S124) (hl : l.length ≤ 1048576) (hm : ∀ x ∈ l, x.f0.length ≤ 1048576) (k : Nat) (hk : l.length + 1048577 < k) : laws_eqRoutineS.f k l l = some true := by
 unfold laws_eqRoutineS.f
 rw [if_pos rfl]
 have h := eqRoutineS_from l hl hm l.length k 0 (by omega) hk (by omega)
 simpa using h
theorem szRoutine_eq (l : List S88) (hl : l.length ≤ maxLen) (a : Int) (h0 : 0 ≤ a) (h1 : a ≤ 1048576) : laws_szRoutine.f l a = some (if (l.length : Int) ≤ a then a - (l.length : Int) else -1) := by
 have hm : (l.length : Int) ≤ 9223372036854775807 := by have : maxLen ≤ 9223372036854775807 := (by decide); omega
 have hw : wrap64 (a - (l.length : Int)) = a - l.length := by unfold wrap64; omega
 unfold laws_szRoutine.f laws_szInstrS.f
 rw [hw]
 by_cases h : (l.length : Int) ≤ a
 ·rw [if_pos h, if_neg (by omega)]
  simp only [Option.bind_some]
  rw [if_neg (by omega)]
 ·rw [if_neg h, if_pos (by omega)]; rfl
theorem impl_all_Routine_areRoutines_1_from (p : S124 → Bool) (K : Nat) (l : List S124) (hF : ∀ (k : Nat) (x : S124), K ≤ k → x ∈ l → impl_areRoutines_1.f k x.f0 = some (p x)) (hl : l.length ≤ 1048576) : ∀ (d k i : Nat), l.length - i ≤ d → d + K < k → i ≤ l.length →
 ∃ j, impl_all_Routine_areRoutines_1.l0 k l (i : Int) = some j ∧ (!(decide (0 ≤ j))) = (l.drop i).all p := by
 intro d
 induction d with
 | zero =>
  intro k i hd hk hi
  obtain ⟨k, rfl⟩ : ∃ m, k = m + 1 := ⟨k - 1, by omega⟩
  refine ⟨-1, ?_, ?_⟩
  ·simp only [impl_all_Routine_areRoutines_1.l0]
   rw [if_neg (by omega)]
  ·rw [List.drop_of_length_le (by omega)]
   rfl
 | succ d ih =>
  intro k i hd hk hi
  obtain ⟨k, rfl⟩ : ∃ m, k = m + 1 := ⟨k - 1, by omega⟩
  by_cases h : i < l.length
  ·have e : rd_T124 l (i : Int) = l[i] := by simp [rd_T124, List.getD_eq_getElem?_getD, h]
   have hw : wrap64 ((i : Int) + 1) = ((i + 1 : Nat) : Int) := by unfold wrap64; omega
   obtain ⟨j, hj, hp⟩ := ih k (i + 1) (by omega) (by omega) (by omega)
   have hx := hF k l[i] (by omega) (List.getElem_mem h)
   rw [List.drop_eq_getElem_cons h, List.all_cons]
   simp only [impl_all_Routine_areRoutines_1.l0]
   rw [if_pos (by omega), if_pos (by omega), e, hw, hx]
   simp only [Option.bind_some]
   cases p l[i] with
   | true => exact ⟨j, by rw [if_pos rfl]; exact hj, by simpa using hp⟩
   | false => exact ⟨(i : Int), by rw [if_neg (by decide)], by simp⟩
  ·refine ⟨-1, ?_, ?_⟩
   ·simp only [impl_all_Routine_areRoutines_1.l0]
    rw [if_neg (by omega)]
   ·rw [List.drop_of_length_le (by omega)]
    rfl
theorem impl_all_Routine_areRoutines_1_eq (p : S124 → Bool) (K : Nat) (l : List S124) (hF : ∀ (k : Nat) (x : S124), K ≤ k → x ∈ l → impl_areRoutines_1.f k x.f0 = some (p x)) (hl : l.length ≤ 1048576) (k : Nat) (hk : l.length + K < k) : impl_all_Routine_areRoutines_1.f k l = some (l.all p) := by
 obtain ⟨j, hj, hp⟩ := impl_all_Routine_areRoutines_1_from p K l hF hl l.length k 0 (by omega) (by omega) (by omega)
 unfold impl_all_Routine_areRoutines_1.f
 have hj' : impl_all_Routine_areRoutines_1.l0 k l 0 = some j := hj
 rw [hj']
 simp only [Option.bind_some]
 rw [hp]
 rfl
def routB (x : S124) : Bool := decide (x.f0.length ≤ 40) && x.f0.all insB
theorem areRoutines_eq (l : List S124) (l1 : List Int) (hl : l.length ≤ 1048576) (h1 : l1.length ≤ 1048576) (hm : ∀ x ∈ l, x.f0.length ≤ 1048576) (k : Nat) (hk : l.length + l1.length + 1048600 < k) :
 impl_areRoutines.f k l l1 = some ((decide (l1.length ≤ 8) && l1.all kindB) && (decide (l.length ≤ 6) && l.all routB)) := by
 unfold impl_areRoutines.f
 rw [areKinds_eq l1 h1 k (by omega)]
 simp only [Option.bind_some]
 cases (decide (l1.length ≤ 8) && l1.all kindB)
 ·rfl
 ·simp only [if_true, Bool.true_and]
  by_cases h : l.length ≤ 6
  ·rw [if_pos (by omega), decide_eq_true h, impl_all_Routine_areRoutines_1_eq routB 1048590 l (fun k x hk hx => by
    unfold impl_areRoutines_1.f
    rw [isCode_eq _ (hm x hx) k (by have := hm x hx; omega)]; rfl) hl k (by omega)]
   rfl
  ·rw [if_neg (by omega), decide_eq_false h]; rfl
theorem l04Routines_from (l : List S124) (hl : l.length ≤ 1048576) (hm : ∀ x ∈ l, x.f0.length ≤ 1048576) : ∀ (d k i : Nat), l.length - i ≤ d → d + 1048590 < k → i ≤ l.length → spec_l04Routines.l0 k l (i : Int) = some ((l.drop i).all routB) := by
 intro d
 induction d with
 | zero =>
  intro k i hd hk hi
  obtain ⟨k, rfl⟩ : ∃ m, k = m + 1 := ⟨k - 1, by omega⟩
  simp only [spec_l04Routines.l0]
  rw [if_neg (by omega), List.drop_of_length_le (by omega)]
  rfl
 | succ d ih =>
  intro k i hd hk hi
  obtain ⟨k, rfl⟩ : ∃ m, k = m + 1 := ⟨k - 1, by omega⟩
  simp only [spec_l04Routines.l0]
  by_cases h : i < l.length
  ·have e : rd_T124 l (i : Int) = l[i] := by simp [rd_T124, List.getD_eq_getElem?_getD, h]
   have hw : wrap64 ((i : Int) + 1) = ((i + 1 : Nat) : Int) := by unfold wrap64; omega
   rw [if_pos (by omega), if_pos (by omega), e, hw, ih k (i + 1) (by omega) (by omega) (by omega), List.drop_eq_getElem_cons h, List.all_cons]
   unfold routB
   by_cases c : l[i].f0.length ≤ 40
   ·rw [if_neg (by omega), decide_eq_true c, l02All_eq _ (by omega) _ (by omega)]
    simp only [Option.bind_some, Bool.true_and]
    cases l[i].f0.all insB <;> rfl
   ·rw [if_pos (by omega), decide_eq_false c]; rfl
  ·rw [if_neg (by omega), List.drop_of_length_le (by omega)]
   rfl
theorem l04Routines_eq (l : List S124) (hl : l.length ≤ 1048576) (hm : ∀ x ∈ l, x.f0.length ≤ 1048576) (k : Nat) (hk : l.length + 1048590 < k) : spec_l04Routines.f k l = some (decide (l.length ≤ 6) && l.all routB) := by
 unfold spec_l04Routines.f
 by_cases h : l.length ≤ 6
 ·have := l04Routines_from l hl hm l.length k 0 (by omega) hk (by omega)
  rw [if_neg (by omega), decide_eq_true h]
  simpa using this
 ·rw [if_pos (by omega), decide_eq_false h]; rfl
theorem verify_ok {x : S124} {l1 : List Int} (h1 : l1.all kindB = true) (h : routB x = true) (a : Int) : ∃ r, spec_l04Verify.f x.f0 l1 a = some r ∧ ∃ q, impl_verify.f x.f0 l1 a = some (q, r) := by
 unfold routB at h
 simp only [Bool.and_eq_true, decide_eq_true_eq] at h
 have hp := ok_of_ins h.1 h1 h.2
 unfold spec_l04Verify.f impl_verify.f
 rw [if_pos hp, if_pos hp]
 have he := loop_eq l1 a x.f0 0 ⟨#[]⟩ [] [] [] trivial ⟨by decide, by decide, by simp⟩
 exact ⟨_, rfl, (vLoop l1 a x.f0 0 ⟨#[]⟩ [] []).1, by rw [← he]⟩
theorem verifyAll_from (l : List S124) (l1 : List Int) (hl : l.length ≤ 4096) (h1 : l1.all kindB = true) (hr : l.all routB = true) : ∀ (d k i : Nat), l.length - i ≤ d → d < k → i ≤ l.length →
 ∃ r, spec_l04All.l0 k l l1 (i : Int) = some r ∧ impl_verifyAll.l0 k l1 l (l.length : Int) (i : Int) = some r := by
 intro d
 induction d with
 | zero =>
  intro k i hd hk hi
  obtain ⟨k, rfl⟩ : ∃ m, k = m + 1 := ⟨k - 1, by omega⟩
  refine ⟨(0, 0, 0), ?_, ?_⟩
  ·simp only [spec_l04All.l0]; rw [if_neg (by omega)]
  ·simp only [impl_verifyAll.l0]; rw [if_neg (by omega)]
 | succ d ih =>
  intro k i hd hk hi
  obtain ⟨k, rfl⟩ : ∃ m, k = m + 1 := ⟨k - 1, by omega⟩
  by_cases h : i < l.length
  ·have e : rd_T124 l (i : Int) = l[i] := by simp [rd_T124, List.getD_eq_getElem?_getD, h]
   have hw : wrap64 ((i : Int) + 1) = ((i + 1 : Nat) : Int) := by unfold wrap64; omega
   obtain ⟨r, hs, q, hi'⟩ := verify_ok h1 (List.all_eq_true.1 hr _ (List.getElem_mem h)) (i : Int)
   obtain ⟨r', g1, g2⟩ := ih k (i + 1) (by omega) (by omega) (by omega)
   simp only [spec_l04All.l0, impl_verifyAll.l0]
   rw [if_pos (by omega), if_pos (by omega), if_pos (by omega), if_pos (by omega), if_pos (by omega), e, hs, hi', hw]
   simp only [Option.bind_some]
   by_cases c : r.2 = 0
   ·rw [if_pos c, if_pos c]; exact ⟨r', g1, g2⟩
   ·rw [if_neg c, if_neg c]; exact ⟨_, rfl, rfl⟩
  ·refine ⟨(0, 0, 0), ?_, ?_⟩
   ·simp only [spec_l04All.l0]; rw [if_neg (by omega)]
   ·simp only [impl_verifyAll.l0]; rw [if_neg (by omega)]
theorem verifyAll_same (l : List S124) (l1 : List Int) (hl : l.length ≤ 4096) (h1 : l1.all kindB = true) (hr : l.all routB = true) (k : Nat) (hk : l.length < k) :
 ∃ r, spec_l04All.f k l l1 = some r ∧ impl_verifyAll.f k l l1 = some r := by
 unfold spec_l04All.f impl_verifyAll.f
 exact verifyAll_from l l1 hl h1 hr l.length k 0 (by omega) hk (by omega)
def cvT (x : S189) : S135 := ⟨x.f0, x.f1, x.f2, x.f3, x.f4, x.f5⟩
theorem toTaskS_from (l : List S189) (hl : l.length ≤ 1048576) : ∀ (d k i : Nat) (ys : List S135), l.length - i ≤ d → d < k → i ≤ l.length → ys.length = l.length → ys.take i = (l.take i).map cvT → laws_toTaskS.l0 k l ys (i : Int) = some (l.map cvT) := by
 intro d
 induction d with
 | zero =>
  intro k i ys hd hk hi hy ht
  obtain ⟨k, rfl⟩ : ∃ m, k = m + 1 := ⟨k - 1, by omega⟩
  simp only [laws_toTaskS.l0]
  rw [if_neg (by omega)]
  have e : i = l.length := by omega
  subst e
  rw [List.take_of_length_le (by omega), List.take_of_length_le (by omega)] at ht
  rw [ht]
 | succ d ih =>
  intro k i ys hd hk hi hy ht
  obtain ⟨k, rfl⟩ : ∃ m, k = m + 1 := ⟨k - 1, by omega⟩
  by_cases h : i < l.length
  ·have hw : wrap64 ((i : Int) + 1) = ((i + 1 : Nat) : Int) := by unfold wrap64; omega
   have e : rd_T189 l (i : Int) = l[i] := by simp [rd_T189, List.getD_eq_getElem?_getD, h]
   conv => lhs; unfold laws_toTaskS.l0
   rw [if_pos (by omega), if_pos (by omega), e]
   unfold laws_toTask.f
   simp only [Option.bind_some]
   rw [if_pos (by omega), hw]
   apply ih k (i + 1) _ (by omega) (by omega) (by omega) (by simpa using hy)
   have hi2 : i < ys.length := by omega
   have ei : ((i : Int)).toNat = i := by omega
   rw [ei]
   apply List.ext_getElem
   ·simp; omega
   ·intro j h1 h2
    simp only [List.length_take, List.length_set] at h1
    rw [List.getElem_take, List.getElem_set]
    by_cases hj : i = j
    ·subst hj
     simp [cvT]
    ·have hji : j < i := by omega
     rw [if_neg hj]
     have hh : (ys.take i)[j]? = ((l.take i).map cvT)[j]? := by rw [ht]
     simp [hji] at hh
     rw [List.getElem?_eq_getElem (by omega), List.getElem?_eq_getElem (by omega)] at hh
     simp at hh
     simp [hh]
  ·conv => lhs; unfold laws_toTaskS.l0
   rw [if_neg (by omega)]
   have e : i = l.length := by omega
   subst e
   rw [List.take_of_length_le (by omega), List.take_of_length_le (by omega)] at ht
   rw [ht]
theorem toTaskS_eq (l : List S189) (hl : l.length ≤ 1048576) (k : Nat) (hk : l.length < k) : laws_toTaskS.f k l = some (l.map cvT) := by
 unfold laws_toTaskS.f
 rw [if_pos (by omega), if_pos (by omega)]
 have h := toTaskS_from l hl l.length k 0 (List.replicate l.length z135) (by omega) hk (by omega) (by simp) (by simp)
 simpa using h
theorem eqTask_refl (a b c d e f : Int) : laws_eqTask.f a b c d e f a b c d e f = some true := by
 unfold laws_eqTask.f
 simp
theorem eqTaskS_from (l : List S135) (hl : l.length ≤ 1048576) : ∀ (d k i : Nat), l.length - i ≤ d → d < k → i ≤ l.length → laws_eqTaskS.l0 k l l (i : Int) = some true := by
 intro d
 induction d with
 | zero =>
  intro k i hd hk hi
  obtain ⟨k, rfl⟩ : ∃ m, k = m + 1 := ⟨k - 1, by omega⟩
  simp only [laws_eqTaskS.l0]
  rw [if_neg (by omega)]
 | succ d ih =>
  intro k i hd hk hi
  obtain ⟨k, rfl⟩ : ∃ m, k = m + 1 := ⟨k - 1, by omega⟩
  simp only [laws_eqTaskS.l0]
  by_cases h : i < l.length
  ·have hw : wrap64 ((i : Int) + 1) = ((i + 1 : Nat) : Int) := by unfold wrap64; omega
   rw [hw, ih k (i + 1) (by omega) (by omega) (by omega), eqTask_refl]
   rw [if_pos (by omega), if_pos (by omega), if_pos (by omega)]
   rfl
  ·rw [if_neg (by omega)]
theorem eqTaskS_eq (l : List S135) (hl : l.length ≤ 1048576) (k : Nat) (hk : l.length < k) : laws_eqTaskS.f k l l = some true := by
 unfold laws_eqTaskS.f
 rw [if_pos rfl]
 have h := eqTaskS_from l hl l.length k 0 (by omega) hk (by omega)
 simpa using h
theorem task_j (k : Nat) (x : Bool) (a b c d e f : Int) : impl_TaskOK.j0 k x a b c d e f = spec_TaskOK.j0 k x a b c d e f := by
 cases k with
 | zero => simp only [impl_TaskOK.j0, spec_TaskOK.j0]
 | succ k => simp only [impl_TaskOK.j0, spec_TaskOK.j0, within_eq, l01In_eq]
theorem task_same (k : Nat) (a b c d e f : Int) : impl_TaskOK.f k a b c d e f = spec_TaskOK.f k a b c d e f := by
 unfold impl_TaskOK.f spec_TaskOK.f
 simp only [within_eq, l01In_eq, task_j]
theorem task_some (a b c d e f : Int) : ∃ r, spec_TaskOK.f 1 a b c d e f = some r := by
 unfold spec_TaskOK.f
 simp only [l01In_eq, Option.bind_some, spec_TaskOK.j0]
 repeat' split
 all_goals exact ⟨_, rfl⟩
theorem task_ok (a b c d e f : Int) : ∃ r, ∀ k, 1 ≤ k → spec_TaskOK.f k a b c d e f = some r ∧ impl_TaskOK.f k a b c d e f = some r := by
 obtain ⟨r, hr⟩ := task_some a b c d e f
 refine ⟨r, fun k hk => ?_⟩
 have h : spec_TaskOK.f k a b c d e f = some r := by
  induction k with
  | zero => omega
  | succ k ih =>
   by_cases h0 : k = 0
   ·subst h0; exact hr
   ·exact spec_TaskOK.mono a b c d e f k r (ih (by omega))
 exact ⟨h, by rw [task_same]; exact h⟩
theorem left_eq' (n : Nat) (a : Int) (hn : n ≤ maxLen) (h0 : 0 ≤ a) (h1 : a ≤ 1048576) : wrap64 (a - (n : Int)) = a - n := by
 have : maxLen ≤ 9223372036854775807 := by decide
 unfold wrap64; omega
theorem szIntS_eq (l : List Int) (hl : l.length ≤ maxLen) (a : Int) (h0 : 0 ≤ a) (h1 : a ≤ 1048576) : laws_szIntS.f l a = some (if (l.length : Int) ≤ a then a - l.length else -1) := by
 unfold laws_szIntS.f
 rw [left_eq' _ _ hl h0 h1]
 by_cases h : (l.length : Int) ≤ a
 ·rw [if_pos h, if_neg (by omega)]
 ·rw [if_neg h, if_pos (by omega)]
theorem szBoolS_eq (l : List Bool) (hl : l.length ≤ maxLen) (a : Int) (h0 : 0 ≤ a) (h1 : a ≤ 1048576) : laws_szBoolS.f l a = some (if (l.length : Int) ≤ a then a - l.length else -1) := by
 unfold laws_szBoolS.f
 rw [left_eq' _ _ hl h0 h1]
 by_cases h : (l.length : Int) ≤ a
 ·rw [if_pos h, if_neg (by omega)]
 ·rw [if_neg h, if_pos (by omega)]
theorem szTaskS_eq (l : List S189) (hl : l.length ≤ maxLen) (a : Int) (h0 : 0 ≤ a) (h1 : a ≤ 1048576) : laws_szTaskS.f l a = some (if (l.length : Int) ≤ a then a - l.length else -1) := by
 unfold laws_szTaskS.f
 rw [left_eq' _ _ hl h0 h1]
 by_cases h : (l.length : Int) ≤ a
 ·rw [if_pos h, if_neg (by omega)]
 ·rw [if_neg h, if_pos (by omega)]
theorem szRoutineS_fromB (l : List S117) (hl : l.length ≤ 1048576) (hm : ∀ x ∈ l, x.f0.length ≤ maxLen) : ∀ (d k i : Nat) (a : Int), l.length - i ≤ d → d < k → i ≤ l.length → 0 ≤ a → a ≤ 1048576 → ∃ t, laws_szRoutineS.l0 k l a (i : Int) = some t ∧ (¬ t < 0 → t ≤ a ∧ ∀ j (hj : j < l.length), i ≤ j → l[j].f0.length ≤ 1048576) := by
 intro d
 induction d with
 | zero =>
  intro k i a hd hk hi h0 h1
  obtain ⟨k, rfl⟩ : ∃ m, k = m + 1 := ⟨k - 1, by omega⟩
  refine ⟨a, ?_, fun _ => ⟨Int.le_refl _, fun j hj hij => by omega⟩⟩
  simp only [laws_szRoutineS.l0]
  rw [if_neg (by omega)]
 | succ d ih =>
  intro k i a hd hk hi h0 h1
  obtain ⟨k, rfl⟩ : ∃ m, k = m + 1 := ⟨k - 1, by omega⟩
  by_cases h : i < l.length
  ·have hw : wrap64 ((i : Int) + 1) = ((i + 1 : Nat) : Int) := by unfold wrap64; omega
   have e : rd_T117 l (i : Int) = l[i] := by simp [rd_T117, List.getD_eq_getElem?_getD, h]
   simp only [laws_szRoutineS.l0]
   rw [if_pos (by omega), if_pos (by omega), e, szRoutine_eq _ (hm _ (List.getElem_mem h)) a h0 h1]
   simp only [Option.bind_some]
   by_cases c : (l[i].f0.length : Int) ≤ a
   ·obtain ⟨t, ht, hq⟩ := ih k (i + 1) (a - l[i].f0.length) (by omega) (by omega) (by omega) (by omega) (by omega)
    rw [if_pos c, if_neg (by omega), hw]
    refine ⟨t, ht, fun hn => ⟨by have := (hq hn).1; omega, fun j hj hij => ?_⟩⟩
    by_cases hji : j = i
    ·subst hji; omega
    ·exact (hq hn).2 j hj (by omega)
   ·rw [if_neg c, if_pos (by omega)]
    exact ⟨-1, rfl, fun hn => absurd (by omega) hn⟩
  ·refine ⟨a, ?_, fun _ => ⟨Int.le_refl _, fun j hj hij => by omega⟩⟩
   simp only [laws_szRoutineS.l0]
   rw [if_neg (by omega)]
theorem szRoutineS_casesB (l : List S117) (b : Int) (hb0 : 0 ≤ b) (hb1 : b ≤ 1048576) (hl : l.length ≤ maxLen) (hm : ∀ x ∈ l, x.f0.length ≤ maxLen) (k : Nat) (hk : 1048577 < k) : ∃ t, laws_szRoutineS.f k l b = some t ∧ (¬ t < 0 → t ≤ b ∧ l.length ≤ 1048576 ∧ ∀ x ∈ l, x.f0.length ≤ 1048576) := by
 have hw : wrap64 (b - (l.length : Int)) = b - l.length := left_eq' _ _ hl hb0 hb1
 clear hl
 unfold laws_szRoutineS.f
 rw [hw]
 by_cases h : (l.length : Int) ≤ b
 ·obtain ⟨t, ht, hq⟩ := szRoutineS_fromB l (by omega) hm l.length k 0 (b - l.length) (by omega) (by omega) (by omega) (by omega) (by omega)
  rw [if_neg (by omega)]
  refine ⟨t, ht, fun hn => ⟨by have := (hq hn).1; omega, by omega, fun x hx => ?_⟩⟩
  obtain ⟨j, hj, rfl⟩ := List.getElem_of_mem hx
  exact (hq hn).2 j hj (by omega)
 ·rw [if_pos (by omega)]
  exact ⟨-1, rfl, fun hn => absurd (by omega) hn⟩
theorem szProgram_cases (x0 : List Int) (x1 : List S117) (x2 : List S189) (x3 : List Bool) (b : Int) (hb0 : 0 ≤ b) (hb1 : b ≤ 1048576) (h0 : x0.length ≤ maxLen) (h1 : x1.length ≤ maxLen) (hm : ∀ x ∈ x1, x.f0.length ≤ maxLen) (h2 : x2.length ≤ maxLen) (h3 : x3.length ≤ maxLen) (k : Nat) (hk : 1048577 < k) :
 ∃ t, laws_szProgram.f k x0 x1 x2 x3 b = some t ∧ (¬ t < 0 → t ≤ b ∧ x0.length ≤ 1048576 ∧ x1.length ≤ 1048576 ∧ (∀ x ∈ x1, x.f0.length ≤ 1048576) ∧ x2.length ≤ 1048576 ∧ x3.length ≤ 1048576) := by
 unfold laws_szProgram.f
 rw [szIntS_eq x0 h0 b hb0 hb1]
 simp only [Option.bind_some]
 by_cases c0 : (x0.length : Int) ≤ b
 case neg => rw [if_neg c0]; exact ⟨-1, rfl, fun h => absurd (by omega) h⟩
 rw [if_pos c0, if_neg (by omega)]
 obtain ⟨t, ht, hq⟩ := szRoutineS_casesB x1 (b - x0.length) (by omega) (by omega) h1 hm k hk
 rw [ht]
 simp only [Option.bind_some]
 by_cases c1 : t < 0
 ·rw [if_pos c1]; exact ⟨-1, rfl, fun h => absurd (by omega) h⟩
 obtain ⟨q1, q2, q3⟩ := hq c1
 rw [if_neg c1, szTaskS_eq x2 h2 t (by omega) (by omega)]
 simp only [Option.bind_some]
 by_cases c2 : (x2.length : Int) ≤ t
 case neg => rw [if_neg c2]; exact ⟨-1, rfl, fun h => absurd (by omega) h⟩
 rw [if_pos c2, if_neg (by omega), szBoolS_eq x3 h3 _ (by omega) (by omega)]
 simp only [Option.bind_some]
 by_cases c3 : (x3.length : Int) ≤ t - x2.length
 case neg => rw [if_neg c3]; exact ⟨-1, rfl, fun h => absurd (by omega) h⟩
 rw [if_pos c3, if_neg (by omega)]
 exact ⟨_, rfl, fun _ => ⟨by omega, by omega, q2, q3, by omega, by omega⟩⟩
theorem toProgram_eq (x0 : List Int) (x1 : List S117) (x2 : List S189) (x3 : List Bool) (h0 : x0.length ≤ 1048576) (h1 : x1.length ≤ 1048576) (hm : ∀ x ∈ x1, x.f0.length ≤ 1048576) (h2 : x2.length ≤ 1048576) (h3 : x3.length ≤ 1048576) (k : Nat) (hk : 2097160 < k) :
 laws_toProgram.f k x0 x1 x2 x3 = some (x0, x1.map cvR, x2.map cvT, x3) := by
 unfold laws_toProgram.f
 rw [toIntS_eq x0 h0 k (by omega), toRoutineS_eq x1 h1 hm k (by omega), toTaskS_eq x2 h2 k (by omega), toBoolS_eq x3 h3 k (by omega)]
 rfl
theorem eqProgram_same (x0 : List Int) (x1 : List S124) (x2 : List S135) (x3 : List Bool) (h0 : x0.length ≤ 1048576) (h1 : x1.length ≤ 1048576) (hm : ∀ x ∈ x1, x.f0.length ≤ 1048576) (h2 : x2.length ≤ 1048576) (h3 : x3.length ≤ 1048576) (k : Nat) (hk : 2097160 < k) :
 laws_eqProgram.f k x0 x1 x2 x3 x0 x1 x2 x3 = some true := by
 unfold laws_eqProgram.f
 rw [eqIntS_same x0 h0 k (by omega), eqRoutineS_eq x1 h1 hm k (by omega), eqTaskS_eq x2 h2 k (by omega), eqBoolS_same x3 h3 k (by omega)]
 rfl
theorem tasks_from (x0 : List Int) (x1 : List S124) (x2 : List S135) (x3 : List Bool) (hl : x2.length ≤ 5) : ∀ (d k i : Nat), x2.length - i ≤ d → d + 10 < k → i ≤ x2.length →
 ∃ r, spec_l08Check.l0 k (i : Int) x0 x1 x2 x3 = some r ∧ impl_CheckProgram.l0 k x2 (x2.length : Int) (i : Int) x0 x1 x2 x3 = some r := by
 intro d
 induction d with
 | zero =>
  intro k i hd hk hi
  obtain ⟨k, rfl⟩ : ∃ m, k = m + 1 := ⟨k - 1, by omega⟩
  refine ⟨(0, 0), ?_, ?_⟩
  ·simp only [spec_l08Check.l0]; rw [if_neg (by omega)]
  ·simp only [impl_CheckProgram.l0]; rw [if_neg (by omega)]
 | succ d ih =>
  intro k i hd hk hi
  obtain ⟨k, rfl⟩ : ∃ m, k = m + 1 := ⟨k - 1, by omega⟩
  by_cases h : i < x2.length
  ·have hw : wrap64 ((i : Int) + 1) = ((i + 1 : Nat) : Int) := by unfold wrap64; omega
   obtain ⟨r', g1, g2⟩ := ih k (i + 1) (by omega) (by omega) (by omega)
   obtain ⟨b, hb⟩ := task_ok (rd_T135 x2 (i : Int)).f0 (rd_T135 x2 (i : Int)).f1 (rd_T135 x2 (i : Int)).f2 (rd_T135 x2 (i : Int)).f3 (rd_T135 x2 (i : Int)).f4 (rd_T135 x2 (i : Int)).f5
   obtain ⟨b1, b2⟩ := hb k (by omega)
   have p1 : (i : Int) < (x2.length : Int) := by omega
   have p2 : (0 : Int) ≤ (i : Int) := by omega
   simp only [spec_l08Check.l0, impl_CheckProgram.l0, if_pos p1, if_pos p2, b1, b2, hw, Option.bind_some, when_eq]
   rw [first_eq _ (by simp) _ (by simp; omega)]
   simp only [Option.bind_some, fnz]
   cases b
   ·exact ⟨_, rfl, rfl⟩
   ·by_cases c : (rd_T135 x2 (i : Int)).f5 ≥ (x1.length : Int)
    ·rw [if_pos rfl, if_pos c, decide_eq_true c]
     exact ⟨_, rfl, rfl⟩
    ·rw [if_pos rfl, if_neg c, decide_eq_false c]
     exact ⟨r', g1, g2⟩
  ·refine ⟨(0, 0), ?_, ?_⟩
   ·simp only [spec_l08Check.l0]; rw [if_neg (by omega)]
   ·simp only [impl_CheckProgram.l0]; rw [if_neg (by omega)]
theorem check_same (x0 : List Int) (x1 : List S124) (x2 : List S135) (x3 : List Bool) (h0 : x0.length ≤ 1048576) (h1 : x1.length ≤ 1048576) (hm : ∀ x ∈ x1, x.f0.length ≤ 1048576) (h2 : x2.length ≤ 1048576) (h3 : x3.length ≤ 1048576) (k : Nat) (hk : 4194400 < k) :
 ∃ r, spec_l08Check.f k x0 x1 x2 x3 = some r ∧ impl_CheckProgram.f k x0 x1 x2 x3 = some r := by
 unfold spec_l08Check.f impl_CheckProgram.f
 rw [l04Kinds_eq x0 h0 k (by omega), areRoutines_eq x1 x0 h1 h0 hm k (by omega)]
 simp only [Option.bind_some]
 obtain ⟨k, rfl⟩ : ∃ m, k = m + 1 := ⟨k - 1, by omega⟩
 cases hkb : (decide (x0.length ≤ 8) && x0.all kindB)
 ·exact ⟨(0, 1), rfl, rfl⟩
 ·simp only [if_true, Bool.true_and]
  rw [l04Routines_eq x1 h1 hm _ (by omega)]
  simp only [Option.bind_some]
  cases hrb : (decide (x1.length ≤ 6) && x1.all routB)
  ·exact ⟨(0, 1), rfl, rfl⟩
  ·simp only [if_true]
   by_cases c3 : x3.length = 8
   case neg =>
    have e : ((x3.length : Int) != 8) = true := by simp; omega
    rw [e]
    exact ⟨(0, 1), rfl, rfl⟩
   have e : ((x3.length : Int) != 8) = false := by simp; omega
   rw [e]
   simp only [spec_l08Check.j0, impl_CheckProgram.j0, Bool.false_eq_true, if_false]
   simp only [Bool.and_eq_true, decide_eq_true_eq] at hkb hrb
   obtain ⟨r, r1, r2⟩ := verifyAll_same x1 x0 (by omega) hkb.2 hrb.2 k (by omega)
   rw [r1, r2]
   simp only [Option.bind_some, when_eq]
   by_cases c : r.2.2 = 0
   case neg => rw [if_neg c, if_neg c]; exact ⟨_, rfl, rfl⟩
   rw [if_pos c, if_pos c, first_eq _ (by simp) _ (by simp; omega)]
   simp only [Option.bind_some, fnz]
   by_cases d0 : x2.length = 0
   ·have e0 : (x2.length : Int) = 0 := by omega
    rw [if_pos e0]
    refine ⟨_, rfl, ?_⟩
    simp [e0]
   have n0 : ¬ (x2.length : Int) = 0 := by omega
   have n1 : ((x2.length : Int) == 0) = false := by simpa using n0
   rw [if_neg n0, n1]
   by_cases d5 : (x2.length : Int) > 5
   ·rw [if_pos d5, decide_eq_true d5]
    exact ⟨_, rfl, rfl⟩
   ·rw [if_neg d5, decide_eq_false d5]
    obtain ⟨r', g1, g2⟩ := tasks_from x0 x1 x2 x3 (by omega) x2.length k 0 (by omega) (by omega) (by omega)
    exact ⟨r', g1, by simpa using g2⟩
theorem wstep0 : wrap64 ((0 : Int) + 1) = 1 := by unfold wrap64; omega
theorem wstep1 : wrap64 ((1 : Int) + 1) = 2 := by unfold wrap64; omega
theorem wstep2 : wrap64 ((2 : Int) + 1) = 3 := by unfold wrap64; omega
theorem wstep3 : wrap64 ((3 : Int) + 1) = 4 := by unfold wrap64; omega
theorem wone : wrap64 (1 : Int) = 1 := by unfold wrap64; omega
theorem wtwo : wrap64 (2 : Int) = 2 := by unfold wrap64; omega
theorem wthree : wrap64 (3 : Int) = 3 := by unfold wrap64; omega
theorem wfour : wrap64 (4 : Int) = 4 := by unfold wrap64; omega
theorem u64b0 (x : Int) : IntKind.u64.wrap x % 256 = x % 256 := by simp only [IntKind.wrap_u64]; omega
theorem u64b1 (x : Int) : IntKind.u64.wrap x / 256 % 256 = x / 256 % 256 := by simp only [IntKind.wrap_u64]; omega
theorem u64b2 (x : Int) : IntKind.u64.wrap x / 256 / 256 % 256 = x / 256 / 256 % 256 := by simp only [IntKind.wrap_u64]; omega
theorem u64b3 (x : Int) : IntKind.u64.wrap x / 256 / 256 / 256 % 256 = x / 256 / 256 / 256 % 256 := by simp only [IntKind.wrap_u64]; omega
theorem spec_put1 (x : Int) (k : Nat) (hk : 5 ≤ k) : spec_l01Put.f k x 1 = some (strOfNums [x % 256]) := by
 obtain ⟨k, rfl⟩ : ∃ m, k = m + 5 := ⟨k - 5, by omega⟩
 unfold spec_l01Put.f
 simp [spec_l01Put.l0, wstep0, wone, wtwo, wthree, wfour, u64b0]
theorem spec_put2 (x : Int) (k : Nat) (hk : 5 ≤ k) : spec_l01Put.f k x 2 = some (strOfNums [x % 256, x / 256 % 256]) := by
 obtain ⟨k, rfl⟩ : ∃ m, k = m + 5 := ⟨k - 5, by omega⟩
 unfold spec_l01Put.f
 simp [spec_l01Put.l0, wstep0, wstep1, wone, wtwo, wthree, wfour, u64b0, u64b1]
theorem spec_put4 (x : Int) (k : Nat) (hk : 5 ≤ k) : spec_l01Put.f k x 4 = some (strOfNums [x % 256, x / 256 % 256, x / 256 / 256 % 256, x / 256 / 256 / 256 % 256]) := by
 obtain ⟨k, rfl⟩ : ∃ m, k = m + 5 := ⟨k - 5, by omega⟩
 unfold spec_l01Put.f
 simp [spec_l01Put.l0, wstep0, wstep1, wstep2, wstep3, wone, wtwo, wthree, wfour, u64b0, u64b1, u64b2, u64b3]
theorem impl_put1 (x : Int) (k : Nat) (hk : 5 ≤ k) : impl_put.f k x 1 = some (strOfNums [x % 256]) := by
 obtain ⟨k, rfl⟩ : ∃ m, k = m + 5 := ⟨k - 5, by omega⟩
 unfold impl_put.f
 simp [impl_put.l0, wstep0, wone, wtwo, wthree, wfour]
theorem impl_put2 (x : Int) (k : Nat) (hk : 5 ≤ k) : impl_put.f k x 2 = some (strOfNums [x % 256, x / 256 % 256]) := by
 obtain ⟨k, rfl⟩ : ∃ m, k = m + 5 := ⟨k - 5, by omega⟩
 unfold impl_put.f
 simp [impl_put.l0, wstep0, wstep1, wone, wtwo, wthree, wfour]
theorem impl_put4 (x : Int) (k : Nat) (hk : 5 ≤ k) : impl_put.f k x 4 = some (strOfNums [x % 256, x / 256 % 256, x / 256 / 256 % 256, x / 256 / 256 / 256 % 256]) := by
 obtain ⟨k, rfl⟩ : ∃ m, k = m + 5 := ⟨k - 5, by omega⟩
 unfold impl_put.f
 simp [impl_put.l0, wstep0, wstep1, wstep2, wstep3, wone, wtwo, wthree, wfour]
theorem sum_same (s : ByteArray) : ∀ (k : Nat) (a i : Int), impl_SumOf.l0 k s a s.size i = spec_l01Sum.l0 k s a i := by
 intro k
 induction k with
 | zero => intro a i; rfl
 | succ k ih =>
  intro a i
  simp only [impl_SumOf.l0, spec_l01Sum.l0]
  by_cases h : i < (s.size : Int)
  ·by_cases h0 : 0 ≤ i
   ·simp only [if_pos h, if_pos h0, ih]
   ·simp only [if_pos h, if_neg h0]
  ·simp only [if_neg h]
theorem sum_ends (s : ByteArray) (hn : s.size ≤ 65536) (d : Nat) : ∀ (k : Nat) (a i : Int), 0 ≤ i → (s.size : Int) - i ≤ d → d < k → ∃ r, spec_l01Sum.l0 k s a i = some r := by
 induction d with
 | zero =>
  intro k a i h0 hd hk
  obtain ⟨k, rfl⟩ : ∃ m, k = m + 1 := ⟨k - 1, by omega⟩
  exact ⟨a, by simp only [spec_l01Sum.l0]; rw [if_neg (by omega)]⟩
 | succ d ih =>
  intro k a i h0 hd hk
  obtain ⟨k, rfl⟩ : ∃ m, k = m + 1 := ⟨k - 1, by omega⟩
  by_cases hlt : i < (s.size : Int)
  ·simp only [spec_l01Sum.l0]
   rw [if_pos hlt, if_pos h0]
   have hw : wrap64 (i + 1) = i + 1 := by unfold wrap64; omega
   rw [hw]
   exact ih k _ (i + 1) (by omega) (by omega) (by omega)
  ·exact ⟨a, by simp only [spec_l01Sum.l0]; rw [if_neg hlt]⟩
abbrev Ins := S96
theorem son_append (a b : List Int) : strOfNums a ++ strOfNums b = strOfNums (a ++ b) := by
 apply ByteArray.ext
 simp [strOfNums, ByteArray.data_append]
theorem son_size (a : List Int) : (strOfNums a).size = a.length := by simp [strOfNums, ByteArray.size]
def e1 (n : Int) : List Int := [n % 256]
def e2 (n : Int) : List Int := [n % 256, n / 256 % 256]
def e4 (n : Int) : List Int := [n % 256, n / 256 % 256, n / 256 / 256 % 256, n / 256 / 256 / 256 % 256]
def many1 {α : Type} (f : α → List Int) (x : List α) : List Int := e1 (x.length : Int) ++ x.flatMap f
def insE (x : Ins) : List Int := e1 x.f0 ++ (if (rng x.f0).2.2 = true then e4 x.f1 else [])
theorem insE_len (x : Ins) : (insE x).length ≤ 5 ∧ 1 ≤ (insE x).length := by
 unfold insE e1 e4
 split <;> simp
theorem flat_len {α : Type} (f : α → List Int) (n : Nat) (hf : ∀ x, (f x).length ≤ n) (l : List α) : (l.flatMap f).length ≤ n * l.length := by
 induction l with
 | nil => simp
 | cons a l ih =>
  have := hf a
  simp only [List.flatMap_cons, List.length_append, List.length_cons]
  rw [Nat.mul_add]
  omega
def routE (r : S124) : List Int := e2 ((r.f0.flatMap insE).length : Int) ++ r.f0.flatMap insE
def taskE (x : S135) : List Int := e1 x.f0 ++ (e4 x.f1 ++ (e4 x.f2 ++ (e1 x.f3 ++ (e1 x.f4 ++ e1 x.f5))))
def taskIn (x : S135) : Prop := (0 ≤ x.f0 ∧ x.f0 < 256) ∧ (-2147483648 ≤ x.f1 ∧ x.f1 ≤ 2147483647) ∧ (-2147483648 ≤ x.f2 ∧ x.f2 ≤ 2147483647) ∧ (0 ≤ x.f3 ∧ x.f3 < 256) ∧ (0 ≤ x.f4 ∧ x.f4 < 256) ∧ (0 ≤ x.f5 ∧ x.f5 < 256)
def bitN (b : Bool) : Int := if b = true then 1 else 0
def bitsN : List Bool → Int
 | [] => 0
 | b :: l => 2 * bitsN l + bitN b
theorem bitN_lt (b : Bool) : 0 ≤ bitN b ∧ bitN b ≤ 1 := by cases b <;> decide
def progIn (x0 : List Int) (x1 : List S124) (x2 : List S135) (x3 : List Bool) : Prop :=
 (x0.length ≤ 8 ∧ ∀ a ∈ x0, 0 ≤ a ∧ a < 256) ∧ (x1.length ≤ 6 ∧ ∀ r ∈ x1, r.f0.length ≤ 40 ∧ ∀ a ∈ r.f0, instrb a.f0 a.f1 = true) ∧ (x2.length ≤ 5 ∧ ∀ a ∈ x2, taskIn a) ∧ x3.length = 8
theorem rdI (l : List Ins) (i : Nat) (h : i < l.length) : rd_T96 l (i : Int) = l[i] := by simp [rd_T96, List.getD_eq_getElem?_getD, h]
theorem bytes_from (l : List Ins) (hl : l.length ≤ 4096) : ∀ (d k i : Nat) (A : List Int), l.length - i ≤ d → d + 20 < k → i ≤ l.length → A.length + 5 * d ≤ 100000 →
 spec_l02Bytes.l0 k l (strOfNums A) (i : Int) = some (strOfNums (A ++ (l.drop i).flatMap insE)) := by
 intro d
 induction d with
 | zero =>
  intro k i A hd hk hi hA
  obtain ⟨k, rfl⟩ : ∃ m, k = m + 1 := ⟨k - 1, by omega⟩
  simp only [spec_l02Bytes.l0]
  rw [if_neg (by omega), List.drop_of_length_le (by omega)]
  simp
 | succ d ih =>
  intro k i A hd hk hi hA
  obtain ⟨k, rfl⟩ : ∃ m, k = m + 1 := ⟨k - 1, by omega⟩
  by_cases h : i < l.length
  ·have hw : wrap64 ((i : Int) + 1) = ((i + 1 : Nat) : Int) := by unfold wrap64; omega
   have p1 : (i : Int) < (l.length : Int) := by omega
   have p2 : (0 : Int) ≤ (i : Int) := by omega
   rw [List.drop_eq_getElem_cons h]
   simp only [spec_l02Bytes.l0, if_pos p1, if_pos p2, rdI l i h, spec_put1 _ k (by omega), Option.bind_some, has_same, range_eq k (by omega), spec_put4 _ k (by omega), hw]
   have g1 : (strOfNums A).size + (strOfNums [(l[i]).f0 % 256]).size ≤ 9223372036854775807 := by rw [son_size, son_size]; simp; omega
   rw [if_pos g1, son_append]
   simp only [List.flatMap_cons, insE]
   by_cases c : (rng l[i].f0).2.2 = true
   ·rw [if_pos c, if_pos c, if_pos (by rw [son_size, son_size]; simp; omega), son_append, ih k (i + 1) _ (by omega) (by omega) (by omega) (by simp; omega)]
    simp [e1, e4, List.append_assoc]
   ·rw [if_neg c, if_neg c, ih k (i + 1) _ (by omega) (by omega) (by omega) (by simp; omega)]
    simp [e1, List.append_assoc]
  ·simp only [spec_l02Bytes.l0]
   rw [if_neg (by omega), List.drop_of_length_le (by omega)]
   simp
theorem bytes_eq (l : List Ins) (hl : l.length ≤ 4096) (k : Nat) (hk : l.length + 20 < k) : spec_l02Bytes.f k l = some (strOfNums (l.flatMap insE)) := by
 have h := bytes_from l hl l.length k 0 [] (by omega) hk (by omega) (by simp; omega)
 unfold spec_l02Bytes.f
 simpa [strOfNums] using h
abbrev Rt := S124
abbrev Tk := S135
theorem taskok_in (k : Nat) (a b c d e f : Int) (h : spec_TaskOK.f k a b c d e f = some true) : taskIn ⟨a, b, c, d, e, f⟩ := by
 unfold spec_TaskOK.f at h
 simp only [l01In_eq, Option.bind_some] at h
 cases k with
 | zero => simp [spec_TaskOK.j0] at h
 | succ k =>
  simp only [spec_TaskOK.j0, l01In_eq, Option.bind_some] at h
  unfold taskIn
  by_cases h1 : 1 ≤ b ∧ b ≤ 5000
  case neg => simp [h1] at h
  by_cases h2 : 1 ≤ c ∧ c ≤ 5000
  case neg => simp [h1, h2] at h
  by_cases h3 : 1 ≤ e ∧ e ≤ 4
  case neg => simp [h1, h2, h3] at h
  by_cases h4 : 0 ≤ f ∧ f ≤ 5
  case neg => simp [h1, h2, h3, h4] at h
  by_cases h5 : a = 1
  ·by_cases h6 : d = 0
   ·simp only
    omega
   ·simp [h1, h2, h3, h4, h5, h6] at h
  by_cases h6 : a = 2
  ·by_cases h7 : 0 ≤ d ∧ d ≤ 7
   ·simp only
    omega
   ·simp [h1, h2, h3, h4, h5, h6, h7] at h
  simp [h1, h2, h3, h4, h5, h6] at h
theorem l08tasks (x0 : List Int) (x1 : List Rt) (x2 : List Tk) (x3 : List Bool) : ∀ (k i : Nat) (r : Int × Int), spec_l08Check.l0 k (i : Int) x0 x1 x2 x3 = some r → r.2 = 0 → x2.length ≤ 4096 → ∀ j (h : j < x2.length), i ≤ j → taskIn x2[j] := by
 intro k
 induction k with
 | zero => intro i r h; simp [spec_l08Check.l0] at h
 | succ k ih =>
  intro i r h h0 hl j hj hij
  simp only [spec_l08Check.l0] at h
  have p1 : (i : Int) < (x2.length : Int) := by omega
  have p2 : (0 : Int) ≤ (i : Int) := by omega
  have hw : wrap64 ((i : Int) + 1) = ((i + 1 : Nat) : Int) := by unfold wrap64; omega
  have e : rd_T135 x2 (i : Int) = x2[i]'(by omega) := by simp [rd_T135, List.getD_eq_getElem?_getD, show i < x2.length by omega]
  rw [if_pos p1, if_pos p2, e, hw] at h
  obtain ⟨b, hb, h⟩ := Option.bind_eq_some_iff.1 h
  cases b
  ·simp only [Bool.false_eq_true, if_false, Option.some.injEq] at h
   subst h
   exact absurd h0 (by simp)
  ·have ht := taskok_in _ _ _ _ _ _ _ hb
   rw [if_pos rfl] at h
   by_cases c : (x2[i]'(by omega)).f5 ≥ (x1.length : Int)
   ·rw [if_pos c, Option.some.injEq] at h
    subst h
    exact absurd h0 (by simp)
   ·rw [if_neg c] at h
    by_cases hji : j = i
    ·subst hji; exact ht
    ·exact ih (i + 1) r h h0 hl j hj (by omega)
theorem check_ok (x0 : List Int) (x1 : List Rt) (x2 : List Tk) (x3 : List Bool) (h0 : x0.length ≤ 1048576) (h1 : x1.length ≤ 1048576) (hm : ∀ x ∈ x1, x.f0.length ≤ 1048576) (k : Nat) (hk : 4194400 < k) (r : Int × Int) (h : spec_l08Check.f k x0 x1 x2 x3 = some r) (hr : r.2 = 0) : progIn x0 x1 x2 x3 := by
 unfold spec_l08Check.f at h
 obtain ⟨k, rfl⟩ : ∃ m, k = m + 1 := ⟨k - 1, by omega⟩
 rw [l04Kinds_eq x0 h0 _ (by omega)] at h
 simp only [Option.bind_some] at h
 have bad : ∀ {z : Option (Int × Int)}, z = some (0, 1) → z = some r → False := by
  intro z hz hz'
  rw [hz, Option.some.injEq] at hz'
  subst hz'
  exact absurd hr (by decide)
 cases hkb : (decide (x0.length ≤ 8) && x0.all kindB)
 ·rw [hkb] at h
  exact (bad (by simp [spec_l08Check.j0]) h).elim
 rw [hkb, if_pos rfl, l04Routines_eq x1 h1 hm _ (by omega)] at h
 simp only [Option.bind_some] at h
 cases hrb : (decide (x1.length ≤ 6) && x1.all routB)
 ·rw [hrb] at h
  exact (bad (by simp [spec_l08Check.j0]) h).elim
 rw [hrb, if_pos rfl] at h
 by_cases c3 : x3.length = 8
 case neg =>
  have e : ((x3.length : Int) != 8) = true := by simp; omega
  rw [e] at h
  exact (bad (by simp [spec_l08Check.j0]) h).elim
 have e : ((x3.length : Int) != 8) = false := by simp; omega
 rw [e] at h
 simp only [spec_l08Check.j0, Bool.false_eq_true, if_false] at h
 obtain ⟨q, _, h⟩ := Option.bind_eq_some_iff.1 h
 by_cases c : q.2.2 = 0
 case neg =>
  rw [if_neg c, Option.some.injEq] at h
  subst h
  exact absurd hr c
 rw [if_pos c] at h
 by_cases d0 : (x2.length : Int) = 0
 ·rw [if_pos d0, Option.some.injEq] at h
  subst h
  exact absurd hr (by decide)
 rw [if_neg d0] at h
 by_cases d5 : (x2.length : Int) > 5
 ·rw [if_pos d5, Option.some.injEq] at h
  subst h
  exact absurd hr (by decide)
 rw [if_neg d5] at h
 simp only [Bool.and_eq_true, decide_eq_true_eq, List.all_eq_true] at hkb hrb
 refine ⟨⟨hkb.1, fun a ha => ?_⟩, ⟨hrb.1, fun a ha => ?_⟩, ⟨by omega, fun a ha => ?_⟩, c3⟩
 ·have := of_decide_eq_true (hkb.2 a ha); omega
 ·have := hrb.2 a ha
  unfold routB at this
  simp only [Bool.and_eq_true, decide_eq_true_eq, List.all_eq_true] at this
  exact ⟨this.1, this.2⟩
 ·obtain ⟨j, hj, rfl⟩ := List.getElem_of_mem ha
  exact l08tasks x0 x1 x2 x3 k 0 r (by simpa using h) hr (by omega) j hj (Nat.zero_le _)
theorem l06Bit_eq (b : Bool) : spec_l06Bit.f b = some (bitN b) := by cases b <;> rfl
def bitW (a : Int) (b : Bool) : Int := wrap64 (wrap64 (2 * a) + bitN b)
theorem bitW_eq (a : Int) (b : Bool) (h0 : 0 ≤ a) (h1 : a ≤ 1000000) : bitW a b = 2 * a + bitN b := by
 have := bitN_lt b
 unfold bitW wrap64
 omega
theorem bitsW8 (b0 b1 b2 b3 b4 b5 b6 b7 : Bool) : bitW (bitW (bitW (bitW (bitW (bitW (bitW (bitW 0 b7) b6) b5) b4) b3) b2) b1) b0 = bitsN [b0, b1, b2, b3, b4, b5, b6, b7] := by
 have n0 := bitN_lt b0
 have n1 := bitN_lt b1
 have n2 := bitN_lt b2
 have n3 := bitN_lt b3
 have n4 := bitN_lt b4
 have n5 := bitN_lt b5
 have n6 := bitN_lt b6
 have n7 := bitN_lt b7
 rw [bitW_eq 0 b7 (by omega) (by omega), bitW_eq _ b6 (by omega) (by omega), bitW_eq _ b5 (by omega) (by omega), bitW_eq _ b4 (by omega) (by omega), bitW_eq _ b3 (by omega) (by omega), bitW_eq _ b2 (by omega) (by omega), bitW_eq _ b1 (by omega) (by omega), bitW_eq _ b0 (by omega) (by omega)]
 simp only [bitsN]
theorem bits_step (k : Nat) (a : Int) (l : List Bool) (i : Nat) (hl : l.length ≤ 4096) (h : i < l.length) : spec_l08Bits.l0 (k + 1) l a (i : Int) = spec_l08Bits.l0 k l (bitW a l[i]) ((i : Int) - 1) := by
 have hw : wrap64 ((i : Int) - 1) = (i : Int) - 1 := by unfold wrap64; omega
 have p1 : (i : Int) ≥ 0 := by omega
 have p2 : (0 : Int) ≤ (i : Int) := by omega
 have p3 : (i : Int) < (l.length : Int) := by omega
 have e : rdOf false l (i : Int) = l[i] := by simp [rdOf, List.getD_eq_getElem?_getD, h]
 conv => lhs; unfold spec_l08Bits.l0
 rw [if_pos p1, if_pos p2, if_pos p3, e, l06Bit_eq, hw]
 rfl
theorem bits_eq (l : List Bool) (hl : l.length = 8) (k : Nat) (hk : 9 ≤ k) : spec_l08Bits.f k l = some (bitsN l) := by
 obtain ⟨k, rfl⟩ : ∃ m, k = m + 1 + 1 + 1 + 1 + 1 + 1 + 1 + 1 + 1 := ⟨k - 9, by omega⟩
 have h := fun (k : Nat) (a : Int) (i : Nat) (hi : i < 8) => bits_step k a l i (by omega) (by omega)
 have s7 := h (k + 1 + 1 + 1 + 1 + 1 + 1 + 1 + 1) 0 7 (by decide)
 unfold spec_l08Bits.f
 rw [hl, show wrap64 (((8 : Nat) : Int) - 1) = ((7 : Nat) : Int) by unfold wrap64; omega, s7]
 rw [show (((7 : Nat) : Int) - 1) = ((6 : Nat) : Int) from rfl, h _ _ 6 (by decide), show (((6 : Nat) : Int) - 1) = ((5 : Nat) : Int) from rfl, h _ _ 5 (by decide), show (((5 : Nat) : Int) - 1) = ((4 : Nat) : Int) from rfl, h _ _ 4 (by decide), show (((4 : Nat) : Int) - 1) = ((3 : Nat) : Int) from rfl, h _ _ 3 (by decide), show (((3 : Nat) : Int) - 1) = ((2 : Nat) : Int) from rfl, h _ _ 2 (by decide), show (((2 : Nat) : Int) - 1) = ((1 : Nat) : Int) from rfl, h _ _ 1 (by decide), show (((1 : Nat) : Int) - 1) = ((0 : Nat) : Int) from rfl, h _ _ 0 (by decide)]
 conv => lhs; unfold spec_l08Bits.l0
 rw [if_neg (by decide)]
 match l, hl with
 | [b0, b1, b2, b3, b4, b5, b6, b7], _ => exact congrArg some (bitsW8 b0 b1 b2 b3 b4 b5 b6 b7)
def frE (B : List Int) (r : Int) : List Int := ([80, 76, 67, 49] ++ e4 (B.length : Int)) ++ (B ++ e2 r)
theorem rangeP (a : Int) : impl_rangeOf.f 10 a = some (rng a) := range_eq 10 (by decide) a
theorem hasOp_eq (a : Int) : impl_hasOperand.f 10 a = some (rng a).2.2 := by
 unfold impl_hasOperand.f
 rw [rangeP]; rfl
theorem son_list (l : List Int) : (strOfNums l).data.toList = l.map (fun n : Int => UInt8.ofNat n.toNat) := by simp [strOfNums]
theorem ct_go_eq (l : List Ins) : ∀ acc : List UInt8, acc.length + 5 * l.length ≤ 100000 → ct_go l acc = some (acc ++ (l.flatMap insE).map (fun n : Int => UInt8.ofNat n.toNat)) := by
 induction l with
 | nil => intro acc _; simp [ct_go]
 | cons x l ih =>
  intro acc h
  simp only [List.length_cons] at h
  simp only [ct_go, hasOp_eq, Option.bind_some, List.flatMap_cons, List.map_append, insE]
  by_cases c : (rng x.f0).2.2 = true
  ·rw [if_pos c, if_pos c, impl_put4 _ 10 (by decide)]
   simp only [Option.bind_some]
   rw [if_pos (by rw [son_size]; simp; omega), son_list, ih _ (by simp; omega)]
   simp [e1, e4]
  ·rw [if_neg c, if_neg c, if_pos (by omega), ih _ (by simp; omega)]
   simp [e1]
theorem codeText_eq (l : List Ins) (hl : l.length ≤ 4096) : impl_codeText.f l = some (strOfNums (l.flatMap insE)) := by
 unfold impl_codeText.f
 rw [if_pos hl, ct_go_eq l [] (by simp; omega)]
 rfl
theorem rdT (l : List Tk) (i : Nat) (h : i < l.length) : rd_T135 l (i : Int) = l[i] := by simp [rd_T135, List.getD_eq_getElem?_getD, h]
theorem rdR (l : List Rt) (i : Nat) (h : i < l.length) : rd_T124 l (i : Int) = l[i] := by simp [rd_T124, List.getD_eq_getElem?_getD, h]
theorem sum_all (s : ByteArray) (hn : s.size ≤ 65536) : ∃ r, ∀ k, s.size + 1 < k → spec_l01Sum.l0 k s 1 0 = some r := by
 obtain ⟨r, hr⟩ := sum_ends s hn s.size (s.size + 2) 1 0 (by omega) (by omega) (by omega)
 refine ⟨r, fun k hk => ?_⟩
 induction k with
 | zero => omega
 | succ k ih =>
  by_cases e : k + 1 = s.size + 2
  ·rw [e]; exact hr
  ·exact spec_l01Sum.mono_l k s 1 0 r (ih (by omega))
theorem frame_both (B : List Int) (hB : B.length ≤ 60000) : ∃ r, ∀ k, B.length + 100 < k → spec_l01Frame.f k (strOfNums B) = some (strOfNums (frE B r)) ∧ impl_FrameText.f k (strOfNums B) = some (strOfNums (frE B r), 0) := by
 obtain ⟨r, hr⟩ := sum_all (strOfNums ([80, 76, 67, 49] ++ [(B.length : Int) % 256, (B.length : Int) / 256 % 256, (B.length : Int) / 256 / 256 % 256, (B.length : Int) / 256 / 256 / 256 % 256] ++ B)) (by rw [son_size]; simp; omega)
 rw [son_size] at hr
 have hlen : ([80, 76, 67, 49] ++ [(B.length : Int) % 256, (B.length : Int) / 256 % 256, (B.length : Int) / 256 / 256 % 256, (B.length : Int) / 256 / 256 / 256 % 256] ++ B).length = 8 + B.length := by simp; omega
 rw [hlen] at hr
 refine ⟨r, fun k hk => ⟨?_, ?_⟩⟩
 ·unfold spec_l01Frame.f
  rw [spec_put4 _ _ (by omega)]
  simp only [Option.bind_some]
  rw [show (⟨#[80, 76, 67, 49]⟩ : ByteArray) = strOfNums [80, 76, 67, 49] from rfl]
  simp only [son_append, son_size]
  rw [if_pos (by simp), if_pos (by simp; omega)]
  unfold spec_l01Sum.f
  rw [hr k (by omega)]
  simp only [Option.bind_some]
  rw [spec_put2 _ _ (by omega)]
  simp only [Option.bind_some, son_append, son_size]
  rw [if_pos (by simp; omega)]
  simp [frE, e4, e2, List.append_assoc]
 ·unfold impl_FrameText.f
  rw [long_eq, when_eq, son_size, if_neg (show ¬ ((B.length : Int) > 65536) by omega), decide_eq_false (show ¬ ((B.length : Int) > 65526) by omega)]
  simp only [Option.bind_some, Bool.false_eq_true, if_false]
  rw [first_eq _ (by simp) _ (by simp; omega), show fnz [0, 0] = 0 from rfl]
  simp only [Option.bind_some, if_true]
  rw [impl_put4 _ _ (by omega)]
  simp only [Option.bind_some]
  rw [show (⟨#[80, 76, 67, 49]⟩ : ByteArray) = strOfNums [80, 76, 67, 49] from rfl]
  simp only [son_append, son_size]
  rw [if_pos (by simp), if_pos (by simp; omega)]
  unfold impl_SumOf.f
  rw [son_size, hlen, if_neg (by omega)]
  have hs := sum_same (strOfNums ([80, 76, 67, 49] ++ [(B.length : Int) % 256, (B.length : Int) / 256 % 256, (B.length : Int) / 256 / 256 % 256, (B.length : Int) / 256 / 256 / 256 % 256] ++ B)) k 1 0
  rw [son_size, hlen] at hs
  rw [hs, hr k (by omega)]
  simp only [Option.bind_some]
  rw [impl_put2 _ _ (by omega)]
  simp only [Option.bind_some, son_append, son_size]
  rw [if_pos (by simp; omega)]
  simp [frE, e4, e2, List.append_assoc]
theorem bit_eq (b : Bool) : impl_bit.f b = some (bitN b) := by cases b <;> rfl
def orS (a : Int) (b : Bool) (i : Nat) : Int := Go.bits .or .i64 a (shl .i64 (bitN b) (i : Int))
theorem bits8 : ∀ b0 b1 b2 b3 b4 b5 b6 b7 : Bool, orS (orS (orS (orS (orS (orS (orS (orS 0 b0 0) b1 1) b2 2) b3 3) b4 4) b5 5) b6 6) b7 7 = bitsN [b0, b1, b2, b3, b4, b5, b6, b7] := by
 intro b0 b1 b2 b3 b4 b5 b6 b7
 cases b0 <;> cases b1 <;> cases b2 <;> cases b3 <;> cases b4 <;> cases b5 <;> cases b6 <;> cases b7 <;> rfl
theorem l3_step (k : Nat) (X : ByteArray) (a : Int) (l : List Bool) (hl : l.length = 8) (i : Nat) (h : i < 8) : impl_ImageText.l3 (k + 1) X a l 8 (i : Int) = impl_ImageText.l3 k X (orS a (l[i]'(by omega)) i) l 8 ((i + 1 : Nat) : Int) := by
 have hw : wrap64 ((i : Int) + 1) = ((i + 1 : Nat) : Int) := by unfold wrap64; omega
 have p1 : (i : Int) < 8 := by omega
 have p2 : (0 : Int) ≤ (i : Int) := by omega
 have p3 : (i : Int) < (l.length : Int) := by omega
 have e : rdOf false l (i : Int) = l[i]'(by omega) := by simp [rdOf, List.getD_eq_getElem?_getD, show i < l.length by omega]
 conv => lhs; unfold impl_ImageText.l3
 rw [if_pos p1, if_pos p2, if_pos p3, e, bit_eq, hw]
 rfl
theorem l3_eq (X : List Int) (l : List Bool) (hl : l.length = 8) (hX : X.length ≤ 50000) (r : Int) (hr : ∀ k, (X ++ [bitsN l % 256]).length + 100 < k → spec_l01Frame.f k (strOfNums (X ++ [bitsN l % 256])) = some (strOfNums (frE (X ++ [bitsN l % 256]) r)) ∧ impl_FrameText.f k (strOfNums (X ++ [bitsN l % 256])) = some (strOfNums (frE (X ++ [bitsN l % 256]) r), 0)) (k : Nat) (hk : 51000 < k) : impl_ImageText.l3 k (strOfNums X) 0 l 8 0 = some (strOfNums (frE (X ++ [bitsN l % 256]) r), 0) := by
 obtain ⟨k, rfl⟩ : ∃ m, k = m + 1 + 1 + 1 + 1 + 1 + 1 + 1 + 1 + 1 := ⟨k - 9, by omega⟩
 have s0 := l3_step (k + 1 + 1 + 1 + 1 + 1 + 1 + 1 + 1) (strOfNums X) 0 l hl 0 (by decide)
 rw [show ((0 : Nat) : Int) = 0 from rfl] at s0
 rw [s0, l3_step _ _ _ l hl 1 (by decide), l3_step _ _ _ l hl 2 (by decide), l3_step _ _ _ l hl 3 (by decide), l3_step _ _ _ l hl 4 (by decide), l3_step _ _ _ l hl 5 (by decide), l3_step _ _ _ l hl 6 (by decide), l3_step _ _ _ l hl 7 (by decide)]
 conv => lhs; unfold impl_ImageText.l3
 rw [if_neg (by decide)]
 have e : orS (orS (orS (orS (orS (orS (orS (orS 0 (l[0]'(by omega)) 0) (l[1]'(by omega)) 1) (l[2]'(by omega)) 2) (l[3]'(by omega)) 3) (l[4]'(by omega)) 4) (l[5]'(by omega)) 5) (l[6]'(by omega)) 6) (l[7]'(by omega)) 7 = bitsN l := by
  match l, hl with
  | [b0, b1, b2, b3, b4, b5, b6, b7], _ => exact bits8 b0 b1 b2 b3 b4 b5 b6 b7
 rw [e, impl_put1 _ _ (by omega)]
 simp only [Option.bind_some, son_append, son_size]
 rw [if_pos (by simp; omega), (hr k (by simp; omega)).2]
 rfl
theorem img_l2 (x0 : List Int) (x1 : List Rt) (x2 : List Tk) (x3 : List Bool) (h2 : x2.length ≤ 5) (h3 : x3.length = 8) : ∀ (d i : Nat) (A : List Int), x2.length - i ≤ d → i ≤ x2.length → A.length + 12 * d ≤ 40000 →
 ∃ r, ∀ k, d + 60000 < k → spec_l08Text.l2 k (strOfNums A) (i : Int) x0 x1 x2 x3 = some (strOfNums (frE (A ++ ((x2.drop i).flatMap taskE ++ [bitsN x3 % 256])) r)) ∧ impl_ImageText.l2 k (strOfNums A) x2 (x2.length : Int) (i : Int) x0 x1 x2 x3 = some (strOfNums (frE (A ++ ((x2.drop i).flatMap taskE ++ [bitsN x3 % 256])) r), 0) := by
 intro d
 induction d with
 | zero =>
  intro i A hd hi hA
  obtain ⟨r, hr⟩ := frame_both (A ++ [bitsN x3 % 256]) (by simp; omega)
  refine ⟨r, fun k hk => ?_⟩
  obtain ⟨k, rfl⟩ : ∃ m, k = m + 1 := ⟨k - 1, by omega⟩
  rw [List.drop_of_length_le (by omega)]
  simp only [List.flatMap_nil, List.nil_append]
  constructor
  ·simp only [spec_l08Text.l2]
   rw [if_neg (by omega), bits_eq x3 h3 k (by omega)]
   simp only [Option.bind_some, son_append, son_size]
   rw [if_pos (by simp; omega), (hr k (by simp; omega)).1]; rfl
  ·conv => lhs; unfold impl_ImageText.l2
   rw [if_neg (by omega), h3]
   exact l3_eq A x3 h3 (by omega) r hr k (by omega)
 | succ d ih =>
  intro i A hd hi hA
  by_cases h : i < x2.length
  case neg =>
   obtain ⟨r, hr⟩ := ih i A (by omega) hi (by omega)
   exact ⟨r, fun k hk => hr k (by omega)⟩
  have hw : wrap64 ((i : Int) + 1) = ((i + 1 : Nat) : Int) := by unfold wrap64; omega
  have p1 : (i : Int) < (x2.length : Int) := by omega
  have p2 : (0 : Int) ≤ (i : Int) := by omega
  obtain ⟨r, hr⟩ := ih (i + 1) (A ++ taskE x2[i]) (by omega) (by omega) (by simp [taskE, e1, e4]; omega)
  have he : taskE x2[i] = [x2[i].f0 % 256] ++ [x2[i].f1 % 256, x2[i].f1 / 256 % 256, x2[i].f1 / 256 / 256 % 256, x2[i].f1 / 256 / 256 / 256 % 256] ++ [x2[i].f2 % 256, x2[i].f2 / 256 % 256, x2[i].f2 / 256 / 256 % 256, x2[i].f2 / 256 / 256 / 256 % 256] ++ [x2[i].f3 % 256] ++ [x2[i].f4 % 256] ++ [x2[i].f5 % 256] := rfl
  refine ⟨r, fun k hk => ?_⟩
  obtain ⟨k, rfl⟩ : ∃ m, k = m + 1 := ⟨k - 1, by omega⟩
  obtain ⟨s1, s2⟩ := hr k (by omega)
  rw [List.drop_eq_getElem_cons h, List.flatMap_cons]
  constructor
  ·simp only [spec_l08Text.l2, if_pos p1, if_pos p2, rdT x2 i h, spec_put1 _ k (by omega), spec_put4 _ k (by omega), Option.bind_some, hw, son_append, son_size]
   rw [if_pos (by simp), if_pos (by simp), if_pos (by simp), if_pos (by simp), if_pos (by simp), if_pos (by simp; omega)]
   rw [← he, s1]
   simp only [List.append_assoc]
  ·conv => lhs; unfold impl_ImageText.l2
   simp only [if_pos p1, if_pos p2, rdT x2 i h, impl_put1 _ k (by omega), impl_put4 _ k (by omega), Option.bind_some, hw, son_append, son_size]
   rw [if_pos (by simp), if_pos (by simp), if_pos (by simp), if_pos (by simp), if_pos (by simp), if_pos (by simp; omega)]
   rw [← he, s2]
   simp only [List.append_assoc]
theorem img_l1 (x0 : List Int) (x1 : List Rt) (x2 : List Tk) (x3 : List Bool) (h1 : x1.length ≤ 6) (hm : ∀ r ∈ x1, r.f0.length ≤ 40) (h2 : x2.length ≤ 5) (h3 : x3.length = 8) : ∀ (d i : Nat) (A : List Int), x1.length - i ≤ d → i ≤ x1.length → A.length + 202 * d ≤ 30000 →
 ∃ r, ∀ k, d + 70000 < k → spec_l08Text.l1 k (strOfNums A) (i : Int) x0 x1 x2 x3 = some (strOfNums (frE (A ++ ((x1.drop i).flatMap routE ++ (many1 taskE x2 ++ [bitsN x3 % 256]))) r)) ∧ impl_ImageText.l1 k (strOfNums A) x1 (x1.length : Int) (i : Int) x0 x1 x2 x3 = some (strOfNums (frE (A ++ ((x1.drop i).flatMap routE ++ (many1 taskE x2 ++ [bitsN x3 % 256]))) r), 0) := by
 intro d
 induction d with
 | zero =>
  intro i A hd hi hA
  obtain ⟨r, hr⟩ := img_l2 x0 x1 x2 x3 h2 h3 x2.length 0 (A ++ [(x2.length : Int) % 256]) (by omega) (by omega) (by simp; omega)
  refine ⟨r, fun k hk => ?_⟩
  obtain ⟨k, rfl⟩ : ∃ m, k = m + 1 := ⟨k - 1, by omega⟩
  obtain ⟨s1, s2⟩ := hr k (by omega)
  rw [List.drop_of_length_le (by omega)]
  rw [show ((0 : Nat) : Int) = 0 from rfl] at s1 s2
  constructor
  ·simp only [spec_l08Text.l1]
   rw [if_neg (by omega), spec_put1 _ k (by omega)]
   simp only [Option.bind_some, son_append, son_size, List.flatMap_nil, List.nil_append]
   rw [if_pos (by simp; omega), s1]
   simp [many1, e1, List.append_assoc]
  ·conv => lhs; unfold impl_ImageText.l1
   rw [if_neg (by omega), impl_put1 _ k (by omega)]
   simp only [Option.bind_some, son_append, son_size, List.flatMap_nil, List.nil_append]
   rw [if_pos (by simp; omega), s2]
   simp [many1, e1, List.append_assoc]
 | succ d ih =>
  intro i A hd hi hA
  by_cases h : i < x1.length
  case neg =>
   obtain ⟨r, hr⟩ := ih i A (by omega) hi (by omega)
   exact ⟨r, fun k hk => hr k (by omega)⟩
  have hw : wrap64 ((i : Int) + 1) = ((i + 1 : Nat) : Int) := by unfold wrap64; omega
  have p1 : (i : Int) < (x1.length : Int) := by omega
  have p2 : (0 : Int) ≤ (i : Int) := by omega
  have hm' := hm x1[i] (List.getElem_mem h)
  have hfl := flat_len insE 5 (fun z => (insE_len z).1) x1[i].f0
  obtain ⟨r, hr⟩ := ih (i + 1) (A ++ routE x1[i]) (by omega) (by omega) (by simp only [List.length_append, routE, e2, List.length_cons, List.length_nil]; omega)
  have he : routE x1[i] = [((x1[i].f0.flatMap insE).length : Int) % 256, ((x1[i].f0.flatMap insE).length : Int) / 256 % 256] ++ x1[i].f0.flatMap insE := rfl
  refine ⟨r, fun k hk => ?_⟩
  obtain ⟨k, rfl⟩ : ∃ m, k = m + 1 := ⟨k - 1, by omega⟩
  obtain ⟨s1, s2⟩ := hr k (by omega)
  rw [List.drop_eq_getElem_cons h, List.flatMap_cons]
  constructor
  ·simp only [spec_l08Text.l1, if_pos p1, if_pos p2, rdR x1 i h, bytes_eq _ (by omega : x1[i].f0.length ≤ 4096) k (by omega), spec_put2 _ k (by omega), Option.bind_some, hw, son_append, son_size]
   rw [if_pos (by simp only [List.length_cons, List.length_nil]; omega), if_pos (by simp only [List.length_append, List.length_cons, List.length_nil]; omega)]
   rw [← he, s1]
   simp only [List.append_assoc]
  ·conv => lhs; unfold impl_ImageText.l1
   simp only [if_pos p1, if_pos p2, rdR x1 i h, codeText_eq _ (by omega : x1[i].f0.length ≤ 4096), impl_put2 _ k (by omega), Option.bind_some, hw, son_append, son_size]
   rw [if_pos (by simp only [List.length_cons, List.length_nil]; omega), if_pos (by simp only [List.length_append, List.length_cons, List.length_nil]; omega)]
   rw [← he, s2]
   simp only [List.append_assoc]
theorem img_l0 (x0 : List Int) (x1 : List Rt) (x2 : List Tk) (x3 : List Bool) (h0 : x0.length ≤ 8) (h1 : x1.length ≤ 6) (hm : ∀ r ∈ x1, r.f0.length ≤ 40) (h2 : x2.length ≤ 5) (h3 : x3.length = 8) : ∀ (d i : Nat) (A : List Int), x0.length - i ≤ d → i ≤ x0.length → A.length + d ≤ 20000 →
 ∃ r, ∀ k, d + 80000 < k → spec_l08Text.l0 k (strOfNums A) (i : Int) x0 x1 x2 x3 = some (strOfNums (frE (A ++ ((x0.drop i).flatMap e1 ++ (many1 routE x1 ++ (many1 taskE x2 ++ [bitsN x3 % 256])))) r)) ∧ impl_ImageText.l0 k (strOfNums A) x0 (x0.length : Int) (i : Int) x0 x1 x2 x3 = some (strOfNums (frE (A ++ ((x0.drop i).flatMap e1 ++ (many1 routE x1 ++ (many1 taskE x2 ++ [bitsN x3 % 256])))) r), 0) := by
 intro d
 induction d with
 | zero =>
  intro i A hd hi hA
  obtain ⟨r, hr⟩ := img_l1 x0 x1 x2 x3 h1 hm h2 h3 x1.length 0 (A ++ [(x1.length : Int) % 256]) (by omega) (by omega) (by simp; omega)
  refine ⟨r, fun k hk => ?_⟩
  obtain ⟨k, rfl⟩ : ∃ m, k = m + 1 := ⟨k - 1, by omega⟩
  obtain ⟨s1, s2⟩ := hr k (by omega)
  rw [List.drop_of_length_le (by omega)]
  rw [show ((0 : Nat) : Int) = 0 from rfl] at s1 s2
  constructor
  ·simp only [spec_l08Text.l0]
   rw [if_neg (by omega), spec_put1 _ k (by omega)]
   simp only [Option.bind_some, son_append, son_size, List.flatMap_nil, List.nil_append]
   rw [if_pos (by simp; omega), s1]
   simp [many1, e1, List.append_assoc]
  ·conv => lhs; unfold impl_ImageText.l0
   rw [if_neg (by omega), impl_put1 _ k (by omega)]
   simp only [Option.bind_some, son_append, son_size, List.flatMap_nil, List.nil_append]
   rw [if_pos (by simp; omega), s2]
   simp [many1, e1, List.append_assoc]
 | succ d ih =>
  intro i A hd hi hA
  by_cases h : i < x0.length
  case neg =>
   obtain ⟨r, hr⟩ := ih i A (by omega) hi (by omega)
   exact ⟨r, fun k hk => hr k (by omega)⟩
  have hw : wrap64 ((i : Int) + 1) = ((i + 1 : Nat) : Int) := by unfold wrap64; omega
  have p1 : (i : Int) < (x0.length : Int) := by omega
  have p2 : (0 : Int) ≤ (i : Int) := by omega
  have e : rd x0 (i : Int) = x0[i] := by simp [rd, List.getD_eq_getElem?_getD, h]
  obtain ⟨r, hr⟩ := ih (i + 1) (A ++ [x0[i] % 256]) (by omega) (by omega) (by simp; omega)
  refine ⟨r, fun k hk => ?_⟩
  obtain ⟨k, rfl⟩ : ∃ m, k = m + 1 := ⟨k - 1, by omega⟩
  obtain ⟨s1, s2⟩ := hr k (by omega)
  rw [List.drop_eq_getElem_cons h, List.flatMap_cons]
  constructor
  ·simp only [spec_l08Text.l0, if_pos p1, if_pos p2, e, spec_put1 _ k (by omega), Option.bind_some, hw, son_append, son_size]
   rw [if_pos (by simp; omega), s1]
   simp only [e1, List.append_assoc]
  ·conv => lhs; unfold impl_ImageText.l0
   simp only [if_pos p1, if_pos p2, e, impl_put1 _ k (by omega), Option.bind_some, hw, son_append, son_size]
   rw [if_pos (by simp; omega), s2]
   simp only [e1, List.append_assoc]
theorem img_same (x0 : List Int) (x1 : List Rt) (x2 : List Tk) (x3 : List Bool) (h0 : x0.length ≤ 1048576) (h1 : x1.length ≤ 1048576) (hm : ∀ x ∈ x1, x.f0.length ≤ 1048576) (h2 : x2.length ≤ 1048576) (h3 : x3.length ≤ 1048576) (k : Nat) (hk : 4194400 < k) :
 ∃ r, spec_ImageText.f k x0 x1 x2 x3 = some r ∧ impl_ImageText.f k x0 x1 x2 x3 = some r := by
 obtain ⟨r, r1, r2⟩ := check_same x0 x1 x2 x3 h0 h1 hm h2 h3 k hk
 unfold spec_ImageText.f impl_ImageText.f impl_isProgram.f
 rw [r1, r2]
 simp only [Option.bind_some]
 by_cases c : r.2 = 0
 case neg => exact ⟨(⟨#[]⟩, 1), by rw [if_neg c], by rw [if_neg (by simpa using c)]⟩
 obtain ⟨a0, a1, a2, a3⟩ := check_ok x0 x1 x2 x3 h0 h1 hm k hk r r1 c
 rw [if_pos c, if_pos (by simpa using c)]
 obtain ⟨s, hs⟩ := img_l0 x0 x1 x2 x3 a0.1 a1.1 (fun z hz => (a1.2 z hz).1) a2.1 a3 x0.length 0 [(x0.length : Int) % 256] (by omega) (by omega) (by simp; omega)
 obtain ⟨s1, s2⟩ := hs k (by omega)
 rw [show ((0 : Nat) : Int) = 0 from rfl] at s1 s2
 unfold spec_l08Text.f
 rw [spec_put1 _ k (by omega), impl_put1 _ k (by omega)]
 simp only [Option.bind_some]
 rw [s1, s2]
 exact ⟨_, rfl, rfl⟩
theorem FnExactImageText : laws_FnExactImageText.Pure := by
 intro x hx
 obtain ⟨⟨h0, _⟩, ⟨h1, hw⟩, ⟨h2, _⟩, h3, _⟩ := hx
 refine ⟨4194500, ?_⟩
 unfold laws_FnExactImageText.f
 obtain ⟨t, ht, hq⟩ := szProgram_cases x.f0 x.f1 x.f2 x.f3 1048576 (by omega) (by omega) h0 h1 (fun y hy => (hw y hy).1) h2 h3 4194500 (by omega)
 rw [ht]
 simp only [Option.bind_some]
 by_cases c : t < 0
 ·rw [if_pos c]
 obtain ⟨_, q0, q1, qm, q2, q3⟩ := hq c
 have qm' : ∀ y ∈ x.f1.map cvR, y.f0.length ≤ 1048576 := by
  intro y hy
  obtain ⟨z, hz, rfl⟩ := List.mem_map.1 hy
  simpa [cvR] using qm z hz
 rw [if_neg c, toProgram_eq _ _ _ _ q0 q1 qm q2 q3 _ (by omega)]
 simp only [Option.bind_some]
 obtain ⟨r, r1, r2⟩ := img_same x.f0 (x.f1.map cvR) (x.f2.map cvT) x.f3 q0 (by simpa using q1) qm' (by simpa using q2) q3 4194500 (by omega)
 rw [r1, r2]
 simp only [Option.bind_some, if_true, bne_self_eq_false]
 obtain ⟨K, hK⟩ : ∃ K, K = 4194499 := ⟨_, rfl⟩
 rw [show 4194500 = K + 1 by omega]
 simp only [laws_FnExactImageText.j0, Bool.false_eq_true, if_false]
 rw [toProgram_eq _ _ _ _ q0 q1 qm q2 q3 _ (by omega)]
 simp only [Option.bind_some]
 rw [eqProgram_same _ _ _ _ q0 (by simpa using q1) qm' (by simpa using q2) q3 _ (by omega)]
 rfl
end Go.Proofs.Ytkegjmkdnfpfdaa.Pure

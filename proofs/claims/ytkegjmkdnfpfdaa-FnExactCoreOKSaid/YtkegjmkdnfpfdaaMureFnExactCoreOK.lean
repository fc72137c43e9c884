import Derived.Test.YtkegjmkdnfpfdaaMFnExactCoreOKx47
set_option linter.unusedVariables false
set_option linter.unusedSimpArgs false
namespace Go.Proofs.Ytkegjmkdnfpfdaa.Pure
open Go.RowKit Go.Proofs.Ytkegjmkdnfpfdaa.MFnExactCoreOK Go.Proofs.YtkegjmkdnfpfdaaW.PrintWords Go.Proofs.YtkegjmkdnfpfdaaW.PrintLast
theorem within_eq (a lo hi : Int) : impl_within.f a lo hi = some (decide (lo ≤ a ∧ a ≤ hi)) := by
 unfold impl_within.f
 by_cases h : a ≥ lo
 ·have h' : lo ≤ a := h
  simp [h, h']
 ·have h' : ¬ lo ≤ a := h
  simp [h, h']
theorem l01In_eq (a lo hi : Int) : spec_l01In.f a lo hi = some (decide (lo ≤ a ∧ a ≤ hi)) := by
 unfold spec_l01In.f
 by_cases h : a ≥ lo
 ·have h' : lo ≤ a := h
  simp [h, h']
 ·have h' : ¬ lo ≤ a := h
  simp [h, h']
theorem when_eq (b : Bool) (c : Int) : impl_when.f b c = some (if b = true then c else 0) := by
 unfold impl_when.f
 split <;> rfl
def fnz : List Int → Int
 | [] => 0
 | a :: l => if a = 0 then fnz l else a
theorem first_from (l : List Int) (hl : l.length ≤ 1000) : ∀ (d k i : Nat), l.length - i ≤ d → d < k → i ≤ l.length → impl_first.l0 k l l.length (i : Int) = some (fnz (l.drop i)) := by
 intro d
 induction d with
 | zero =>
  intro k i hd hk hi
  obtain ⟨k, rfl⟩ : ∃ m, k = m + 1 := ⟨k - 1, by omega⟩
  simp only [impl_first.l0]
  rw [if_neg (by omega), List.drop_of_length_le (by omega)]
  rfl
 | succ d ih =>
  intro k i hd hk hi
  obtain ⟨k, rfl⟩ : ∃ m, k = m + 1 := ⟨k - 1, by omega⟩
  simp only [impl_first.l0]
  by_cases h : i < l.length
  ·have hw : wrap64 ((i : Int) + 1) = ((i + 1 : Nat) : Int) := by unfold wrap64; omega
   rw [hw, ih k (i + 1) (by omega) (by omega) (by omega)]
   have e : rd l (i : Int) = l[i] := by simp [rd, List.getD_eq_getElem?_getD, h]
   rw [List.drop_eq_getElem_cons h, e]
   rw [if_pos (by omega), if_pos (by omega), if_pos (by omega)]
   simp only [fnz]
   split <;> rfl
  ·rw [if_neg (by omega), List.drop_of_length_le (by omega)]
   rfl
theorem first_eq (l : List Int) (hl : l.length ≤ 1000) (k : Nat) (hk : l.length < k) : impl_first.f k l = some (fnz l) := by
 unfold impl_first.f
 have h := first_from l hl l.length k 0 (by omega) hk (by omega)
 simpa using h
def cvI (x : S88) : S96 := ⟨x.f0, x.f1⟩
theorem toInstrS_from (l : List S88) (hl : l.length ≤ 1048576) : ∀ (d k i : Nat) (ys : List S96), l.length - i ≤ d → d < k → i ≤ l.length → ys.length = l.length → ys.take i = (l.take i).map cvI → laws_toInstrS.l0 k l ys (i : Int) = some (l.map cvI) := by
 intro d
 induction d with
 | zero =>
  intro k i ys hd hk hi hy ht
  obtain ⟨k, rfl⟩ : ∃ m, k = m + 1 := ⟨k - 1, by omega⟩
  simp only [laws_toInstrS.l0]
  rw [if_neg (by omega)]
  have e : i = l.length := by omega
  subst e
  rw [List.take_of_length_le (by omega), List.take_of_length_le (by omega)] at ht
  rw [ht]
 | succ d ih =>
  intro k i ys hd hk hi hy ht
  obtain ⟨k, rfl⟩ : ∃ m, k = m + 1 := ⟨k - 1, by omega⟩
  by_cases h : i < l.length
  ·have hw : wrap64 ((i : Int) + 1) = ((i + 1 : Nat) : Int) := by unfold wrap64; omega
   have e : rd_T88 l (i : Int) = l[i] := by simp [rd_T88, List.getD_eq_getElem?_getD, h]
   conv => lhs; unfold laws_toInstrS.l0
   rw [if_pos (by omega), if_pos (by omega), e]
   unfold laws_toInstr.f
   simp only [Option.bind_some]
   rw [if_pos (by omega), hw]
   apply ih k (i + 1) _ (by omega) (by omega) (by omega) (by simpa using hy)
   have hi2 : i < ys.length := by omega
   have ei : ((i : Int)).toNat = i := by omega
   rw [ei]
   apply List.ext_getElem
   ·simp; omega
   ·intro j h1 h2
    simp only [List.length_take, List.length_set] at h1
    rw [List.getElem_take, List.getElem_set]
    by_cases hj : i = j
    ·subst hj
     simp [cvI]
    ·have hji : j < i := by omega
     rw [if_neg hj]
     have hh : (ys.take i)[j]? = ((l.take i).map cvI)[j]? := by rw [ht]
     simp [hji] at hh
     rw [List.getElem?_eq_getElem (by omega), List.getElem?_eq_getElem (by omega)] at hh
     simp at hh
     simp [hh]
  ·conv => lhs; unfold laws_toInstrS.l0
   rw [if_neg (by omega)]
   have e : i = l.length := by omega
   subst e
   rw [List.take_of_length_le (by omega), List.take_of_length_le (by omega)] at ht
   rw [ht]
theorem toInstrS_eq (l : List S88) (hl : l.length ≤ 1048576) (k : Nat) (hk : l.length < k) : laws_toInstrS.f k l = some (l.map cvI) := by
 unfold laws_toInstrS.f
 rw [if_pos (by omega), if_pos (by omega)]
 have h := toInstrS_from l hl l.length k 0 (List.replicate l.length z96) (by omega) hk (by omega) (by simp) (by simp)
 simpa using h
theorem eqInstr_refl (a b : Int) : laws_eqInstr.f a b a b = some true := by
 unfold laws_eqInstr.f
 simp
theorem eqInstrS_from (l : List S96) (hl : l.length ≤ 1048576) : ∀ (d k i : Nat), l.length - i ≤ d → d < k → i ≤ l.length → laws_eqInstrS.l0 k l l (i : Int) = some true := by
 intro d
 induction d with
 | zero =>
  intro k i hd hk hi
  obtain ⟨k, rfl⟩ : ∃ m, k = m + 1 := ⟨k - 1, by omega⟩
  simp only [laws_eqInstrS.l0]
  rw [if_neg (by omega)]
 | succ d ih =>
  intro k i hd hk hi
  obtain ⟨k, rfl⟩ : ∃ m, k = m + 1 := ⟨k - 1, by omega⟩
  simp only [laws_eqInstrS.l0]
  by_cases h : i < l.length
  ·have hw : wrap64 ((i : Int) + 1) = ((i + 1 : Nat) : Int) := by unfold wrap64; omega
   rw [hw, ih k (i + 1) (by omega) (by omega) (by omega), eqInstr_refl]
   rw [if_pos (by omega), if_pos (by omega), if_pos (by omega)]
   rfl
  ·rw [if_neg (by omega)]
theorem eqInstrS_eq (l : List S96) (hl : l.length ≤ 1048576) (k : Nat) (hk : l.length < k) : laws_eqInstrS.f k l l = some true := by
 unfold laws_eqInstrS.f
 rw [if_pos rfl]
 have h := eqInstrS_from l hl l.length k 0 (by omega) hk (by omega)
 simpa using h
theorem toIntS_from (l : List Int) (hl : l.length ≤ 1048576) : ∀ (d k i : Nat) (acc : List Int), l.length - i ≤ d → d < k → i ≤ l.length → acc.length = l.length → (∀ j, j < i → acc[j]? = l[j]?) → laws_toIntS.l0 k l acc (i : Int) = some l := by
 intro d
 induction d with
 | zero =>
  intro k i acc hd hk hi hlen hA
  obtain ⟨k, rfl⟩ : ∃ m, k = m + 1 := ⟨k - 1, by omega⟩
  simp only [laws_toIntS.l0]
  rw [if_neg (by omega)]
  congr 1
  apply List.ext_getElem?
  intro j
  by_cases h : j < i
  ·exact hA j h
  ·rw [List.getElem?_eq_none (by omega), List.getElem?_eq_none (by omega)]
 | succ d ih =>
  intro k i acc hd hk hi hlen hA
  obtain ⟨k, rfl⟩ : ∃ m, k = m + 1 := ⟨k - 1, by omega⟩
  simp only [laws_toIntS.l0]
  by_cases h : i < l.length
  ·rw [if_pos (by omega), if_pos (by omega), if_pos (by omega)]
   have hw : wrap64 ((i : Int) + 1) = ((i + 1 : Nat) : Int) := by unfold wrap64; omega
   rw [hw]
   refine ih k (i + 1) _ (by omega) (by omega) (by omega) (by simp [hlen]) (fun j hj => ?_)
   have e : rd l (i : Int) = l[i] := by simp [rd, List.getD_eq_getElem?_getD, h]
   rw [e, Int.toNat_natCast, List.getElem?_set]
   by_cases hji : i = j
   ·subst hji
    rw [if_pos rfl, if_pos (by omega), List.getElem?_eq_getElem h]
   ·rw [if_neg hji]
    exact hA j (by omega)
  ·rw [if_neg (by omega)]
   congr 1
   apply List.ext_getElem?
   intro j
   by_cases h2 : j < i
   ·exact hA j h2
   ·rw [List.getElem?_eq_none (by omega), List.getElem?_eq_none (by omega)]
theorem toIntS_eq (l : List Int) (hl : l.length ≤ 1048576) (k : Nat) (hk : l.length < k) : laws_toIntS.f k l = some l := by
 unfold laws_toIntS.f
 rw [if_pos (by omega), if_pos (by omega)]
 exact toIntS_from l hl l.length k 0 _ (by omega) hk (by omega) (by simp) (fun j hj => by omega)
theorem eqIntS_from (l : List Int) (hl : l.length ≤ 1048576) : ∀ (d k i : Nat), l.length - i ≤ d → d < k → i ≤ l.length → laws_eqIntS.l0 k l l (i : Int) = some true := by
 intro d
 induction d with
 | zero =>
  intro k i hd hk hi
  obtain ⟨k, rfl⟩ : ∃ m, k = m + 1 := ⟨k - 1, by omega⟩
  simp only [laws_eqIntS.l0]
  rw [if_neg (by omega)]
 | succ d ih =>
  intro k i hd hk hi
  obtain ⟨k, rfl⟩ : ∃ m, k = m + 1 := ⟨k - 1, by omega⟩
  simp only [laws_eqIntS.l0]
  by_cases h : i < l.length
  ·have hw : wrap64 ((i : Int) + 1) = ((i + 1 : Nat) : Int) := by unfold wrap64; omega
   rw [if_pos (by omega), if_pos (by omega), hw, ih k (i + 1) (by omega) (by omega) (by omega)]
   simp only [show ((i : Int) < (l.length : Int)) from by omega, if_true]
  ·rw [if_neg (by omega)]
theorem eqIntS_same (l : List Int) (hl : l.length ≤ 1048576) (k : Nat) (hk : l.length < k) : laws_eqIntS.f k l l = some true := by
 unfold laws_eqIntS.f
 rw [if_pos rfl]
 exact eqIntS_from l hl l.length k 0 (by omega) hk (by omega)
theorem has_j2 (k : Nat) (a : Int) (b : Bool) : spec_l02Has.j2 k a b = impl_rangeOf.j2 k a b := by
 cases k <;> simp only [spec_l02Has.j2, impl_rangeOf.j2]
theorem has_j1 (k : Nat) (a : Int) (b : Bool) : spec_l02Has.j1 k a b = impl_rangeOf.j1 k a b := by
 cases k <;> simp only [spec_l02Has.j1, impl_rangeOf.j1, has_j2]
theorem has_j0 (k : Nat) (a : Int) (b : Bool) : spec_l02Has.j0 k a b = impl_rangeOf.j0 k a b := by
 cases k <;> simp only [spec_l02Has.j0, impl_rangeOf.j0, has_j1]
theorem has_same (k : Nat) (a : Int) : spec_l02Has.f k a = impl_rangeOf.f k a := by
 unfold spec_l02Has.f impl_rangeOf.f
 simp only [has_j0]
def rng (a : Int) : Int × Int × Bool :=
 if a = 1 then (-2147483648, 2147483647, true) else if a = 2 then (0, 1, true) else if a = 3 ∨ a = 4 then (0, 15, true) else if a = 5 ∨ a = 6 ∨ a = 7 ∨ a = 8 then (0, 7, true)
 else if a = 19 ∨ a = 20 then (0, 7, true) else if a = 24 then (1, 20, true) else if a = 26 then (0, 5, true) else (0, 0, false)
theorem range_eq (k : Nat) (hk : 3 ≤ k) (a : Int) : impl_rangeOf.f k a = some (rng a) := by
 obtain ⟨k, rfl⟩ : ∃ m, k = m + 3 := ⟨k - 3, by omega⟩
 unfold impl_rangeOf.f rng
 simp only [impl_rangeOf.j0, impl_rangeOf.j1, impl_rangeOf.j2]
 by_cases h1 : a = 1
 ·subst h1; rfl
 by_cases h2 : a = 2
 ·subst h2; rfl
 by_cases h3 : a = 3
 ·subst h3; rfl
 by_cases h4 : a = 4
 ·subst h4; rfl
 by_cases h5 : a = 5
 ·subst h5; rfl
 by_cases h6 : a = 6
 ·subst h6; rfl
 by_cases h7 : a = 7
 ·subst h7; rfl
 by_cases h8 : a = 8
 ·subst h8; rfl
 by_cases h19 : a = 19
 ·subst h19; rfl
 by_cases h20 : a = 20
 ·subst h20; rfl
 by_cases h24 : a = 24
 ·subst h24; rfl
 by_cases h26 : a = 26
 ·subst h26; rfl
 simp [h1, h2, h3, h4, h5, h6, h7, h8, h19, h20, h24, h26]
def instrb (op a : Int) : Bool := decide ((1 ≤ op ∧ op ≤ 26) ∧ ((rng op).1 ≤ a ∧ a ≤ (rng op).2.1))
theorem isOp_eq (a : Int) : impl_isOp.f a = some (decide (1 ≤ a ∧ a ≤ 26)) := by
 unfold impl_isOp.f; rw [within_eq]; rfl
theorem l02Op_eq (a : Int) : spec_l02Op.f a = some (decide (1 ≤ a ∧ a ≤ 26)) := by
 unfold spec_l02Op.f; rw [l01In_eq]; rfl
theorem spec_instr (k : Nat) (hk : 3 ≤ k) (op a : Int) : spec_l02OK.f k op a = some (instrb op a) := by
 unfold spec_l02OK.f instrb
 simp only [l02Op_eq, l01In_eq, has_same, range_eq k hk, Option.bind_some]
 by_cases h : 1 ≤ op ∧ op ≤ 26 <;> simp [h]
theorem impl_instr (k : Nat) (hk : 3 ≤ k) (op a : Int) : impl_InstrOK.f k op a = some (instrb op a) := by
 unfold impl_InstrOK.f instrb
 simp only [isOp_eq, within_eq, range_eq k hk, Option.bind_some]
 by_cases h : 1 ≤ op ∧ op ≤ 26 <;> simp [h]
theorem impl_all_int_isFbKind_from (p : Int → Bool) (K : Nat) (hF : ∀ (k : Nat) (x : Int), K ≤ k → impl_isFbKind.f x = some (p x)) (l : List Int) (hl : l.length ≤ 1048576) : ∀ (d k i : Nat), l.length - i ≤ d → d + K < k → i ≤ l.length →
 ∃ j, impl_all_int_isFbKind.l0 k l (i : Int) = some j ∧ (!(decide (0 ≤ j))) = (l.drop i).all p := by
 intro d
 induction d with
 | zero =>
  intro k i hd hk hi
  obtain ⟨k, rfl⟩ : ∃ m, k = m + 1 := ⟨k - 1, by omega⟩
  refine ⟨-1, ?_, ?_⟩
  ·simp only [impl_all_int_isFbKind.l0]
   rw [if_neg (by omega)]
  ·rw [List.drop_of_length_le (by omega)]
   rfl
 | succ d ih =>
  intro k i hd hk hi
  obtain ⟨k, rfl⟩ : ∃ m, k = m + 1 := ⟨k - 1, by omega⟩
  by_cases h : i < l.length
  ·have e : rd l (i : Int) = l[i] := by simp [rd, List.getD_eq_getElem?_getD, h]
   have hw : wrap64 ((i : Int) + 1) = ((i + 1 : Nat) : Int) := by unfold wrap64; omega
   obtain ⟨j, hj, hp⟩ := ih k (i + 1) (by omega) (by omega) (by omega)
   have hx := hF k l[i] (by omega)
   rw [List.drop_eq_getElem_cons h, List.all_cons]
   simp only [impl_all_int_isFbKind.l0]
   rw [if_pos (by omega), if_pos (by omega), e, hw, hx]
   simp only [Option.bind_some]
   cases p l[i] with
   | true => exact ⟨j, by rw [if_pos rfl]; exact hj, by simpa using hp⟩
   | false => exact ⟨(i : Int), by rw [if_neg (by decide)], by simp⟩
  ·refine ⟨-1, ?_, ?_⟩
   ·simp only [impl_all_int_isFbKind.l0]
    rw [if_neg (by omega)]
   ·rw [List.drop_of_length_le (by omega)]
    rfl
theorem impl_all_int_isFbKind_eq (p : Int → Bool) (K : Nat) (hF : ∀ (k : Nat) (x : Int), K ≤ k → impl_isFbKind.f x = some (p x)) (l : List Int) (hl : l.length ≤ 1048576) (k : Nat) (hk : l.length + K < k) : impl_all_int_isFbKind.f k l = some (l.all p) := by
 obtain ⟨j, hj, hp⟩ := impl_all_int_isFbKind_from p K hF l hl l.length k 0 (by omega) (by omega) (by omega)
 unfold impl_all_int_isFbKind.f
 have hj' : impl_all_int_isFbKind.l0 k l 0 = some j := hj
 rw [hj']
 simp only [Option.bind_some]
 rw [hp]
 rfl
theorem impl_all_Instr_InstrOK_from (p : S96 → Bool) (K : Nat) (hF : ∀ (k : Nat) (x : S96), K ≤ k → impl_InstrOK.f k x.f0 x.f1 = some (p x)) (l : List S96) (hl : l.length ≤ 1048576) : ∀ (d k i : Nat), l.length - i ≤ d → d + K < k → i ≤ l.length →
 ∃ j, impl_all_Instr_InstrOK.l0 k l (i : Int) = some j ∧ (!(decide (0 ≤ j))) = (l.drop i).all p := by
 intro d
 induction d with
 | zero =>
  intro k i hd hk hi
  obtain ⟨k, rfl⟩ : ∃ m, k = m + 1 := ⟨k - 1, by omega⟩
  refine ⟨-1, ?_, ?_⟩
  ·simp only [impl_all_Instr_InstrOK.l0]
   rw [if_neg (by omega)]
  ·rw [List.drop_of_length_le (by omega)]
   rfl
 | succ d ih =>
  intro k i hd hk hi
  obtain ⟨k, rfl⟩ : ∃ m, k = m + 1 := ⟨k - 1, by omega⟩
  by_cases h : i < l.length
  ·have e : rd_T96 l (i : Int) = l[i] := by simp [rd_T96, List.getD_eq_getElem?_getD, h]
   have hw : wrap64 ((i : Int) + 1) = ((i + 1 : Nat) : Int) := by unfold wrap64; omega
   obtain ⟨j, hj, hp⟩ := ih k (i + 1) (by omega) (by omega) (by omega)
   have hx := hF k l[i] (by omega)
   rw [List.drop_eq_getElem_cons h, List.all_cons]
   simp only [impl_all_Instr_InstrOK.l0]
   rw [if_pos (by omega), if_pos (by omega), e, hw, hx]
   simp only [Option.bind_some]
   cases p l[i] with
   | true => exact ⟨j, by rw [if_pos rfl]; exact hj, by simpa using hp⟩
   | false => exact ⟨(i : Int), by rw [if_neg (by decide)], by simp⟩
  ·refine ⟨-1, ?_, ?_⟩
   ·simp only [impl_all_Instr_InstrOK.l0]
    rw [if_neg (by omega)]
   ·rw [List.drop_of_length_le (by omega)]
    rfl
theorem impl_all_Instr_InstrOK_eq (p : S96 → Bool) (K : Nat) (hF : ∀ (k : Nat) (x : S96), K ≤ k → impl_InstrOK.f k x.f0 x.f1 = some (p x)) (l : List S96) (hl : l.length ≤ 1048576) (k : Nat) (hk : l.length + K < k) : impl_all_Instr_InstrOK.f k l = some (l.all p) := by
 obtain ⟨j, hj, hp⟩ := impl_all_Instr_InstrOK_from p K hF l hl l.length k 0 (by omega) (by omega) (by omega)
 unfold impl_all_Instr_InstrOK.f
 have hj' : impl_all_Instr_InstrOK.l0 k l 0 = some j := hj
 rw [hj']
 simp only [Option.bind_some]
 rw [hp]
 rfl
def kindB (a : Int) : Bool := decide (1 ≤ a ∧ a ≤ 4)
def insB (x : S96) : Bool := instrb x.f0 x.f1
theorem isFbKind_eq (a : Int) : impl_isFbKind.f a = some (kindB a) := by unfold impl_isFbKind.f kindB; rw [within_eq]; rfl
theorem l03Kind_eq (a : Int) : spec_l03Kind.f a = some (kindB a) := by unfold spec_l03Kind.f kindB; rw [l01In_eq]; rfl
theorem areKinds_eq (l : List Int) (hl : l.length ≤ 1048576) (k : Nat) (hk : l.length + 1 < k) : impl_areKinds.f k l = some (decide (l.length ≤ 8) && l.all kindB) := by
 unfold impl_areKinds.f
 by_cases h : l.length ≤ 8
 ·rw [if_pos (by omega), impl_all_int_isFbKind_eq kindB 0 (fun k x _ => isFbKind_eq x) l hl k (by omega), decide_eq_true h]; rfl
 ·rw [if_neg (by omega), decide_eq_false h]; rfl
theorem isCode_eq (l : List S96) (hl : l.length ≤ 1048576) (k : Nat) (hk : l.length + 4 < k) : impl_isCode.f k l = some (decide (l.length ≤ 40) && l.all insB) := by
 unfold impl_isCode.f
 by_cases h : l.length ≤ 40
 ·rw [if_pos (by omega), impl_all_Instr_InstrOK_eq insB 3 (fun k x hk => impl_instr k hk x.f0 x.f1) l hl k (by omega), decide_eq_true h]; rfl
 ·rw [if_neg (by omega), decide_eq_false h]; rfl
theorem l04Kinds_from (l : List Int) (hl : l.length ≤ 1048576) : ∀ (d k i : Nat), l.length - i ≤ d → d < k → i ≤ l.length → spec_l04Kinds.l0 k l (i : Int) = some ((l.drop i).all kindB) := by
 intro d
 induction d with
 | zero =>
  intro k i hd hk hi
  obtain ⟨k, rfl⟩ : ∃ m, k = m + 1 := ⟨k - 1, by omega⟩
  simp only [spec_l04Kinds.l0]
  rw [if_neg (by omega), List.drop_of_length_le (by omega)]
  rfl
 | succ d ih =>
  intro k i hd hk hi
  obtain ⟨k, rfl⟩ : ∃ m, k = m + 1 := ⟨k - 1, by omega⟩
  simp only [spec_l04Kinds.l0]
  by_cases h : i < l.length
  ·have e : rd l (i : Int) = l[i] := by simp [rd, List.getD_eq_getElem?_getD, h]
   have hw : wrap64 ((i : Int) + 1) = ((i + 1 : Nat) : Int) := by unfold wrap64; omega
   rw [if_pos (by omega), if_pos (by omega), e, hw, ih k (i + 1) (by omega) (by omega) (by omega), l03Kind_eq, List.drop_eq_getElem_cons h, List.all_cons]
   simp only [Option.bind_some]
   cases kindB l[i] <;> rfl
  ·rw [if_neg (by omega), List.drop_of_length_le (by omega)]
   rfl
theorem l04Kinds_eq (l : List Int) (hl : l.length ≤ 1048576) (k : Nat) (hk : l.length < k) : spec_l04Kinds.f k l = some (decide (l.length ≤ 8) && l.all kindB) := by
 unfold spec_l04Kinds.f
 by_cases h : l.length ≤ 8
 ·have := l04Kinds_from l hl l.length k 0 (by omega) hk (by omega)
  rw [if_neg (by omega), decide_eq_true h]
  simpa using this
 ·rw [if_pos (by omega), decide_eq_false h]; rfl
theorem l02All_from (l : List S96) (hl : l.length ≤ 1048576) : ∀ (d k i : Nat), l.length - i ≤ d → d + 3 < k → i ≤ l.length → spec_l02All.l0 k l (i : Int) = some ((l.drop i).all insB) := by
 intro d
 induction d with
 | zero =>
  intro k i hd hk hi
  obtain ⟨k, rfl⟩ : ∃ m, k = m + 1 := ⟨k - 1, by omega⟩
  simp only [spec_l02All.l0]
  rw [if_neg (by omega), List.drop_of_length_le (by omega)]
  rfl
 | succ d ih =>
  intro k i hd hk hi
  obtain ⟨k, rfl⟩ : ∃ m, k = m + 1 := ⟨k - 1, by omega⟩
  simp only [spec_l02All.l0]
  by_cases h : i < l.length
  ·have e : rd_T96 l (i : Int) = l[i] := by simp [rd_T96, List.getD_eq_getElem?_getD, h]
   have hw : wrap64 ((i : Int) + 1) = ((i + 1 : Nat) : Int) := by unfold wrap64; omega
   rw [if_pos (by omega), if_pos (by omega), e, hw, ih k (i + 1) (by omega) (by omega) (by omega), spec_instr k (by omega), List.drop_eq_getElem_cons h, List.all_cons]
   simp only [Option.bind_some]
   show (if insB l[i] = true then _ else _) = _
   cases insB l[i] <;> rfl
  ·rw [if_neg (by omega), List.drop_of_length_le (by omega)]
   rfl
theorem l02All_eq (l : List S96) (hl : l.length ≤ 1048576) (k : Nat) (hk : l.length + 3 < k) : spec_l02All.f k l = some (l.all insB) := by
 unfold spec_l02All.f
 have := l02All_from l hl l.length k 0 (by omega) hk (by omega)
 simpa using this
theorem ok_of_ins {l0 : List S96} {l1 : List Int} (hl : l0.length ≤ 40) (h1 : l1.all kindB = true) (h0 : l0.all insB = true) : l0.length ≤ 4096 ∧ (l0.all fun x => vOKb l1 x.f0 x.f1) = true := by
 refine ⟨by omega, ?_⟩
 rw [List.all_eq_true] at h0 ⊢
 intro x hx
 have hi := h0 x hx
 unfold insB instrb at hi
 have hi' := of_decide_eq_true hi
 obtain ⟨⟨a1, a2⟩, a3, a4⟩ := hi'
 unfold vOKb
 have hk : (l1.all fun k => decide (1 ≤ k) && decide (k ≤ 4)) = true := by
  rw [List.all_eq_true] at h1 ⊢
  intro y hy
  have := of_decide_eq_true (h1 y hy)
  rw [decide_eq_true this.1, decide_eq_true this.2]; rfl
 rw [hk, decide_eq_true a1, decide_eq_true a2]
 by_cases h19 : x.f0 = 19
 ·rw [h19] at a3
  have : (0 : Int) ≤ x.f1 := a3
  rw [decide_eq_true this]; simp
 ·by_cases h20 : x.f0 = 20
  ·rw [h20] at a3
   have : (0 : Int) ≤ x.f1 := a3
   rw [decide_eq_true this]; simp
  ·have e1 : (x.f0 == 19) = false := by simpa using h19
   have e2 : (x.f0 == 20) = false := by simpa using h20
   rw [e1, e2]; rfl
def askC (l0 : List S96) (l1 : List Int) (a2 : Int) : Int :=
 if 4096 < l0.length ∨ 4096 < l1.length then 2 else if 40 < l0.length then 6
 else if ((decide (l1.length ≤ 8) && l1.all kindB) && l0.all insB) = true then (if 0 ≤ a2 ∧ a2 ≤ 6 then 0 else 4) else 1
theorem l04Ask_eq (l0 : List S96) (l1 : List Int) (a2 : Int) (h0 : l0.length ≤ 1048576) (h1 : l1.length ≤ 1048576) (k : Nat) (hk : l0.length + l1.length + 10 < k) : spec_l04Ask.f k l0 l1 a2 = some (askC l0 l1 a2) := by
 obtain ⟨k, rfl⟩ : ∃ m, k = m + 1 + 1 := ⟨k - 2, by omega⟩
 unfold spec_l04Ask.f askC
 by_cases c1 : 4096 < l0.length
 ·rw [if_pos (by omega), if_pos (.inl c1)]; simp only [spec_l04Ask.j0]; rfl
 rw [if_neg (by omega)]
 by_cases c2 : 4096 < l1.length
 ·rw [if_pos (.inr c2), decide_eq_true (by omega)]; simp only [spec_l04Ask.j0]; rfl
 rw [if_neg (by omega), decide_eq_false (by omega)]
 simp only [spec_l04Ask.j0, Bool.false_eq_true, if_false]
 by_cases c3 : 40 < l0.length
 ·rw [if_pos (by omega), if_pos c3]
 rw [if_neg (by omega), if_neg c3, l04Kinds_eq l1 h1 _ (by omega)]
 simp only [Option.bind_some]
 by_cases c4 : (decide (l1.length ≤ 8) && l1.all kindB) = true
 ·rw [if_pos c4, l02All_eq l0 h0 _ (by omega), c4, Bool.true_and]
  simp only [Option.bind_some]
  simp only [spec_l04Ask.j1]
  cases l0.all insB
  ·rfl
  ·simp only [Bool.not_true, Bool.false_eq_true, if_false, l01In_eq, Option.bind_some, if_true]
   by_cases c5 : 0 ≤ a2 ∧ a2 ≤ 6
   ·rw [decide_eq_true c5, if_pos c5]; rfl
   ·rw [decide_eq_false c5, if_neg c5]; rfl
 ·rw [if_neg c4]
  simp only [spec_l04Ask.j1]
  have hn : ¬ ((decide (l1.length ≤ 8) && l1.all kindB) && l0.all insB) = true := fun h => c4 (by simp only [Bool.and_eq_true] at h ⊢; exact h.1)
  rw [if_neg hn]
  rfl
def VR : ByteArray → List SO → List VO → Prop
 | _, [], [] => True
 | S, o :: P, v :: Q => v.at_ = o.at_ ∧ v.base = (o.stack.size : Int) ∧ ((o.op = 21 ∧ v.isIf = true ∧ v.hasElse = false) ∨ (o.op = 22 ∧ v.isIf = true ∧ v.hasElse = true) ∨ (o.op = 24 ∧ v.isIf = false ∧ v.hasElse = false)) ∧ o.stack.size ≤ S.size ∧ S.extract 0 o.stack.size = o.stack ∧ VR o.stack P Q
 | _, _, _ => False
theorem VR.base {S : ByteArray} {O : List SO} {Q : List VO} (h : VR S O Q) : sBase O = vBase Q := by
 cases O <;> cases Q <;> simp only [VR] at h
 ·rfl
 ·exact h.2.1.symm
theorem VR.length {O : List SO} : ∀ {S : ByteArray} {Q : List VO}, VR S O Q → O.length = Q.length := by
 induction O with
 | nil => intro S Q h; cases Q <;> simp only [VR] at h; rfl
 | cons o P ih =>
  intro S Q h
  cases Q <;> simp only [VR] at h
  simp [ih h.2.2.2.2.2]
theorem ext_ext (S Q : ByteArray) (k n : Nat) (hn : n ≤ k) (hk : k ≤ S.size) : (S.extract 0 k ++ Q).extract 0 n = S.extract 0 n := by
 apply ByteArray.ext
 simp only [ByteArray.data_extract, ByteArray.data_append]
 apply Array.ext'
 have h1 : S.data.toList.length = S.size := by rw [Array.length_toList]; rfl
 have h2 : S.data.size = S.size := rfl
 simp only [Array.toList_extract, Array.toList_append, List.extract_eq_take_drop, List.drop_zero, Nat.sub_zero]
 rw [List.take_append_of_le_length (by rw [List.length_take, h1]; omega), List.take_take, Nat.min_eq_left hn]
theorem VR.cut {S Q : ByteArray} {k : Nat} {O : List SO} {V : List VO} (h : VR S O V) (hk : k ≤ S.size) (hb : sBase O ≤ (k : Int)) : VR (S.extract 0 k ++ Q) O V := by
 cases O <;> cases V <;> simp only [VR, sBase] at h hb ⊢
 obtain ⟨h1, h2, h3, h4, h5, h6⟩ := h
 refine ⟨h1, h2, h3, ?_, ?_, h6⟩
 ·rw [ByteArray.size_append, ByteArray.size_extract]; omega
 ·rw [ext_ext _ _ _ _ (by omega) hk]; exact h5
theorem nest_eq {at_ op : Int} {S : ByteArray} {O : List SO} {V : List VO} (h : VR S O V) (hr : 21 ≤ op ∧ op ≤ 24) :
 (sNest at_ op S O).1 = (vNest at_ op S V).1 ∧ ((sNest at_ op S O).1 = 0 → VR S (sNest at_ op S O).2 (vNest at_ op S V).2) := by
 have hl := h.length
 by_cases h1 : op = 21 ∨ op = 24
 ·by_cases h4 : O.length = 4
  ·have h4' : V.length = 4 := by omega
   rw [show sNest at_ op S O = (17, O) from by unfold sNest; rw [if_pos h1, if_pos h4], show vNest at_ op S V = (17, V) from by unfold vNest; rw [if_pos h1, if_pos h4']]
   exact ⟨rfl, fun e => absurd e (by simp)⟩
  ·have h4' : ¬ V.length = 4 := by omega
   rw [show sNest at_ op S O = (0, ⟨at_, op, S⟩ :: O) from by unfold sNest; rw [if_pos h1, if_neg h4], show vNest at_ op S V = (0, ⟨at_, (S.size : Int), decide (op = 21), false⟩ :: V) from by unfold vNest; rw [if_pos h1, if_neg h4']]
   refine ⟨rfl, fun _ => ?_⟩
   simp only [VR]
   refine ⟨trivial, trivial, ?_, Nat.le_refl _, ?_, h⟩
   ·rcases h1 with rfl | rfl
    ·exact .inl (by simp)
    ·exact .inr (.inr (by simp))
   ·apply ByteArray.ext; simp
 have h23 : op = 22 ∨ op = 23 := by omega
 cases O with
 | nil =>
  cases V <;> simp only [VR] at h
  rw [show sNest at_ op S [] = (14, []) from by unfold sNest; rw [if_neg h1]]
  rcases h23 with rfl | rfl
  ·exact ⟨rfl, fun e => absurd e (by simp)⟩
  ·exact ⟨rfl, fun e => absurd e (by simp)⟩
 | cons o P =>
  cases V with
  | nil => simp only [VR] at h
  | cons v Q =>
   simp only [VR] at h
   obtain ⟨e1, e2, e3, e4, e5, e6⟩ := h
   have hst : (S = o.stack) ↔ ((S.size : Int) = v.base) := by
    rw [e2]
    constructor
    ·intro e; rw [e]
    ·intro e
     have e' : o.stack.size = S.size := by omega
     rw [← e5, e']
     apply ByteArray.ext; simp
   rw [show sNest at_ op S (o :: P) = if op = 22 ∧ o.op ≠ 21 then (14, o :: P) else if S = o.stack then (if op = 22 then (0, { o with op := 22 } :: P) else (0, P)) else (13, o :: P) from by unfold sNest; rw [if_neg h1]]
   rcases h23 with rfl | rfl
   ·rw [show vNest at_ 22 S (v :: Q) = if (!v.isIf || v.hasElse) = true then (14, v :: Q) else if (S.size : Int) = v.base then (0, { v with hasElse := true } :: Q) else (13, v :: Q) from by unfold vNest; rw [if_neg (by decide), if_pos rfl]]
    by_cases hb : o.op = 21
    ·have hv : v.isIf = true ∧ v.hasElse = false := by rcases e3 with e3 | e3 | e3 <;> first | exact e3.2 | (exfalso; omega)
     have hv' : ¬ (!v.isIf || v.hasElse) = true := by rw [hv.1, hv.2]; decide
     rw [if_neg (by simp [hb]), if_neg hv']
     by_cases hs : S = o.stack
     ·rw [if_pos hs, if_pos (hst.1 hs), if_pos rfl]
      refine ⟨rfl, fun _ => ?_⟩
      simp only [VR]
      exact ⟨e1, e2, .inr (.inl (by simp [hv.1])), e4, e5, e6⟩
     ·rw [if_neg hs, if_neg (fun e => hs (hst.2 e))]
      exact ⟨rfl, fun e => absurd e (by simp)⟩
    ·have hv : (!v.isIf || v.hasElse) = true := by
      rcases e3 with e3 | e3 | e3
      ·exact absurd e3.1 hb
      ·simp [e3.2.1, e3.2.2]
      ·simp [e3.2.1, e3.2.2]
     rw [if_pos ⟨rfl, hb⟩, if_pos hv]
     exact ⟨rfl, fun e => absurd e (by simp)⟩
   ·rw [show vNest at_ 23 S (v :: Q) = if (S.size : Int) = v.base then (0, Q) else (13, v :: Q) from by unfold vNest; rw [if_neg (by decide), if_neg (by decide), if_pos rfl]]
    rw [if_neg (by rintro ⟨e, _⟩; exact absurd e (by decide) : ¬ ((23 : Int) = 22 ∧ o.op ≠ 21)), if_neg (by decide : ¬ (23 : Int) = 22)]
    by_cases hs : S = o.stack
    ·rw [if_pos hs, if_pos (hst.1 hs)]
     exact ⟨rfl, fun _ => by rw [hs]; exact e6⟩
    ·rw [if_neg hs, if_neg (fun e => hs (hst.2 e))]
     exact ⟨rfl, fun e => absurd e (by simp)⟩
theorem step_eq {ks : List Int} {R at_ op a : Int} {S : ByteArray} {O : List SO} {V : List VO} (h : VR S O V) (hi : sInv S O) :
 (sStep ks R at_ op a S O).1 = (vStep ks R at_ op a S V).1 ∧ ((sStep ks R at_ op a S O).1 = 0 → (sStep ks R at_ op a S O).2.1 = (vStep ks R at_ op a S V).2.1 ∧ VR (sStep ks R at_ op a S O).2.1 (sStep ks R at_ op a S O).2.2 (vStep ks R at_ op a S V).2.2) := by
 have hb := h.base
 have hr := sBase_range hi
 unfold sStep vStep
 by_cases h1 : (op = 19 ∨ op = 20) ∧ (ks.length : Int) ≤ a
 ·rw [if_pos h1, if_pos h1]; exact ⟨rfl, fun e => absurd e (by simp)⟩
 rw [if_neg h1, if_neg h1]
 by_cases h2 : op = 26 ∧ R ≤ a
 ·rw [if_pos h2, if_pos h2]; exact ⟨rfl, fun e => absurd e (by simp)⟩
 rw [if_neg h2, if_neg h2]
 by_cases h3 : (S.size : Int) - sBase O < ((vEff ks op a).1.size : Int)
 ·have h3' : (S.size : Int) - ((vEff ks op a).1.size : Int) < vBase V := by omega
  rw [if_pos h3, if_pos h3']; exact ⟨rfl, fun e => absurd e (by simp)⟩
 have h3' : ¬ (S.size : Int) - ((vEff ks op a).1.size : Int) < vBase V := by omega
 rw [if_neg h3, if_neg h3']
 by_cases h4 : S.extract (S.size - (vEff ks op a).1.size) S.size = (vEff ks op a).1
 ·rw [if_pos h4, if_pos h4]
  by_cases h5 : S.size - (vEff ks op a).1.size + (vEff ks op a).2.size ≤ 8
  ·rw [if_pos h5, if_pos h5]
   have hc : VR (S.extract 0 (S.size - (vEff ks op a).1.size) ++ (vEff ks op a).2) O V := h.cut (by omega) (by omega)
   by_cases h6 : 21 ≤ op ∧ op ≤ 24
   ·rw [if_pos h6]
    obtain ⟨n1, n2⟩ := nest_eq (at_ := at_) hc h6
    exact ⟨n1, fun e => ⟨rfl, n2 e⟩⟩
   ·rw [if_neg h6]
    have hv : vNest at_ op (S.extract 0 (S.size - (vEff ks op a).1.size) ++ (vEff ks op a).2) V = (0, V) := by
     unfold vNest
     rw [if_neg (by omega : ¬ (op = 21 ∨ op = 24)), if_neg (by omega : ¬ op = 22), if_neg (by omega : ¬ op = 23)]
    rw [hv]
    exact ⟨rfl, fun _ => ⟨rfl, hc⟩⟩
  ·rw [if_neg h5, if_neg h5]; exact ⟨rfl, fun e => absurd e (by simp)⟩
 ·rw [if_neg h4, if_neg h4]; exact ⟨rfl, fun e => absurd e (by simp)⟩
theorem loop_eq (ks : List Int) (R : Int) (xs : List S96) : ∀ (at_ : Int) (S : ByteArray) (O : List SO) (V : List VO) (out : List ByteArray), VR S O V → sInv S O → (vLoop ks R xs at_ S V out).2 = sLoop ks R xs at_ S O := by
 induction xs with
 | nil =>
  intro at_ S O V out h hi
  cases O <;> cases V <;> simp only [VR] at h
  ·simp only [vLoop, sLoop]; split <;> rfl
  ·simp only [vLoop, sLoop]; rw [h.1]
 | cons x xs ih =>
  intro at_ S O V out h hi
  obtain ⟨e1, e2⟩ := step_eq (ks := ks) (R := R) (at_ := at_) (op := x.f0) (a := x.f1) h hi
  simp only [vLoop, sLoop]
  rw [← e1]
  by_cases hc : (sStep ks R at_ x.f0 x.f1 S O).1 = 0
  ·rw [if_pos hc, if_pos hc]
   obtain ⟨e3, e4⟩ := e2 hc
   rw [← e3]
   exact ih _ _ _ _ _ e4 (sStep_inv hi hc)
  ·rw [if_neg hc, if_neg hc]
def cvR (x : S117) : S124 := ⟨x.f0.map cvI⟩
theorem toRoutine_eq (l : List S88) (hl : l.length ≤ 1048576) (k : Nat) (hk : l.length < k) : laws_toRoutine.f k l = some (l.map cvI) := by
 unfold laws_toRoutine.f
 rw [toInstrS_eq l hl k hk]; rfl
theorem toRoutineS_from (l : List S117) (hl : l.length ≤ 1048576) (hm : ∀ x ∈ l, x.f0.length ≤ 1048576) : ∀ (d k i : Nat) (ys : List S124), l.length - i ≤ d → d + 1048577 < k → i ≤ l.length → ys.length = l.length → ys.take i = (l.take i).map cvR → laws_toRoutineS.l0 k l ys (i : Int) = some (l.map cvR) := by
 intro d
 induction d with
 | zero =>
  intro k i ys hd hk hi hy ht
  obtain ⟨k, rfl⟩ : ∃ m, k = m + 1 := ⟨k - 1, by omega⟩
  simp only [laws_toRoutineS.l0]
  rw [if_neg (by omega)]
  have e : i = l.length := by omega
  subst e
  rw [List.take_of_length_le (by omega), List.take_of_length_le (by omega)] at ht
  rw [ht]
 | succ d ih =>
  intro k i ys hd hk hi hy ht
  obtain ⟨k, rfl⟩ : ∃ m, k = m + 1 := ⟨k - 1, by omega⟩
  by_cases h : i < l.length
  ·have hw : wrap64 ((i : Int) + 1) = ((i + 1 : Nat) : Int) := by unfold wrap64; omega
   have e : rd_T117 l (i : Int) = l[i] := by simp [rd_T117, List.getD_eq_getElem?_getD, h]
   have hmi := hm l[i] (List.getElem_mem h)
   conv => lhs; unfold laws_toRoutineS.l0
   rw [if_pos (by omega), if_pos (by omega), e, toRoutine_eq _ hmi _ (by omega)]
   simp only [Option.bind_some]
   rw [if_pos (by omega), hw]
   apply ih k (i + 1) _ (by omega) (by omega) (by omega) (by simpa using hy)
   have hi2 : i < ys.length := by omega
   have ei : ((i : Int)).toNat = i := by omega
   rw [ei]
   apply List.ext_getElem
   ·simp; omega
   ·intro j h1 h2
    simp only [List.length_take, List.length_set] at h1
    rw [List.getElem_take, List.getElem_set]
    by_cases hj : i = j
    ·subst hj
     simp [cvR]
    ·have hji : j < i := by omega
     rw [if_neg hj]
     have hh : (ys.take i)[j]? = ((l.take i).map cvR)[j]? := by rw [ht]
     simp [hji] at hh
     rw [List.getElem?_eq_getElem (by omega), List.getElem?_eq_getElem (by omega)] at hh
     simp at hh
     simp [hh]
  ·conv => lhs; unfold laws_toRoutineS.l0
   rw [if_neg (by omega)]
   have e : i = l.length := by omega
   subst e
   rw [List.take_of_length_le (by omega), List.take_of_length_le (by omega)] at ht
   rw [ht]
theorem toRoutineS_eq (l : List S117) (hl : l.length ≤ 1048576) (hm : ∀ x ∈ l, x.f0.length ≤ 1048576) (k : Nat) (hk : l.length + 1048577 < k) : laws_toRoutineS.f k l = some (l.map cvR) := by
 unfold laws_toRoutineS.f
 rw [if_pos (by omega), if_pos (by omega)]
 have h := toRoutineS_from l hl hm l.length k 0 (List.replicate l.length z124) (by omega) hk (by omega) (by simp) (by simp)
 simpa using h
theorem eqRoutine_same (l : List S96) (hl : l.length ≤ 1048576) (k : Nat) (hk : l.length < k) : laws_eqRoutine.f k l l = some true := by
 unfold laws_eqRoutine.f
 rw [eqInstrS_eq l hl k hk]; rfl
theorem eqRoutineS_from (l : List S124) (hl : l.length ≤ 1048576) (hm : ∀ x ∈ l, x.f0.length ≤ 1048576) : ∀ (d k i : Nat), l.length - i ≤ d → d + 1048577 < k → i ≤ l.length → laws_eqRoutineS.l0 k l l (i : Int) = some true := by
 intro d
 induction d with
 | zero =>
  intro k i hd hk hi
  obtain ⟨k, rfl⟩ : ∃ m, k = m + 1 := ⟨k - 1, by omega⟩
  simp only [laws_eqRoutineS.l0]
  rw [if_neg (by omega)]
 | succ d ih =>
  intro k i hd hk hi
  obtain ⟨k, rfl⟩ : ∃ m, k = m + 1 := ⟨k - 1, by omega⟩
  simp only [laws_eqRoutineS.l0]
  by_cases h : i < l.length
  ·have hw : wrap64 ((i : Int) + 1) = ((i + 1 : Nat) : Int) := by unfold wrap64; omega
   have e : rd_T124 l (i : Int) = l[i] := by simp [rd_T124, List.getD_eq_getElem?_getD, h]
   rw [hw, ih k (i + 1) (by omega) (by omega) (by omega), e, eqRoutine_same _ (hm _ (List.getElem_mem h)) _ (by have := hm _ (List.getElem_mem h); omega)]
   rw [if_pos (by omega), if_pos (by omega), if_pos (by omega)]
   rfl
  ·rw [if_neg (by omega)]
theorem eqRoutineS_eq (l : List S124) (hl : l.length ≤ 1048576) (hm : ∀ x ∈ l, x.f0.length ≤ 1048576) (k : Nat) (hk : l.length + 1048577 < k) : laws_eqRoutineS.f k l l = some true := by
 unfold laws_eqRoutineS.f
 rw [if_pos rfl]
 have h := eqRoutineS_from l hl hm l.length k 0 (by omega) hk (by omega)
 simpa using h
theorem szRoutine_eq (l : List S88) (hl : l.length ≤ maxLen) (a : Int) (h0 : 0 ≤ a) (h1 : a ≤ 1048576) : laws_szRoutine.f l a = some (if (l.length : Int) ≤ a then a - (l.length : Int) else -1) := by
 have hm : (l.length : Int) ≤ 9223372036854775807 := by have : maxLen ≤ 9223372036854775807 := (by decide); omega
 have hw : wrap64 (a - (l.length : Int)) = a - l.length := by unfold wrap64; omega
 unfold laws_szRoutine.f laws_szInstrS.f
 rw [hw]
 by_cases h : (l.length : Int) ≤ a
 ·rw [if_pos h, if_neg (by omega)]
  simp only [Option.bind_some]
  rw [if_neg (by omega)]
 ·rw [if_neg h, if_pos (by omega)]; rfl
theorem impl_all_Routine_areRoutines_1_from (p : S124 → Bool) (K : Nat) (l : List S124) (hF : ∀ (k : Nat) (x : S124), K ≤ k → x ∈ l → impl_areRoutines_1.f k x.f0 = some (p x)) (hl : l.length ≤ 1048576) : ∀ (d k i : Nat), l.length - i ≤ d → d + K < k → i ≤ l.length →
 ∃ j, impl_all_Routine_areRoutines_1.l0 k l (i : Int) = some j ∧ (!(decide (0 ≤ j))) = (l.drop i).all p := by
 intro d
 induction d with
 | zero =>
  intro k i hd hk hi
  obtain ⟨k, rfl⟩ : ∃ m, k = m + 1 := ⟨k - 1, by omega⟩
  refine ⟨-1, ?_, ?_⟩
  ·simp only [impl_all_Routine_areRoutines_1.l0]
   rw [if_neg (by omega)]
  ·rw [List.drop_of_length_le (by omega)]
   rfl
 | succ d ih =>
  intro k i hd hk hi
  obtain ⟨k, rfl⟩ : ∃ m, k = m + 1 := ⟨k - 1, by omega⟩
  by_cases h : i < l.length
  ·have e : rd_T124 l (i : Int) = l[i] := by simp [rd_T124, List.getD_eq_getElem?_getD, h]
   have hw : wrap64 ((i : Int) + 1) = ((i + 1 : Nat) : Int) := by unfold wrap64; omega
   obtain ⟨j, hj, hp⟩ := ih k (i + 1) (by omega) (by omega) (by omega)
   have hx := hF k l[i] (by omega) (List.getElem_mem h)
   rw [List.drop_eq_getElem_cons h, List.all_cons]
   simp only [impl_all_Routine_areRoutines_1.l0]
   rw [if_pos (by omega), if_pos (by omega), e, hw, hx]
   simp only [Option.bind_some]
   cases p l[i] with
   | true => exact ⟨j, by rw [if_pos rfl]; exact hj, by simpa using hp⟩
   | false => exact ⟨(i : Int), by rw [if_neg (by decide)], by simp⟩
  ·refine ⟨-1, ?_, ?_⟩
   ·simp only [impl_all_Routine_areRoutines_1.l0]
    rw [if_neg (by omega)]
   ·rw [List.drop_of_length_le (by omega)]
    rfl
theorem impl_all_Routine_areRoutines_1_eq (p : S124 → Bool) (K : Nat) (l : List S124) (hF : ∀ (k : Nat) (x : S124), K ≤ k → x ∈ l → impl_areRoutines_1.f k x.f0 = some (p x)) (hl : l.length ≤ 1048576) (k : Nat) (hk : l.length + K < k) : impl_all_Routine_areRoutines_1.f k l = some (l.all p) := by
 obtain ⟨j, hj, hp⟩ := impl_all_Routine_areRoutines_1_from p K l hF hl l.length k 0 (by omega) (by omega) (by omega)
 unfold impl_all_Routine_areRoutines_1.f
 have hj' : impl_all_Routine_areRoutines_1.l0 k l 0 = some j := hj
 rw [hj']
 simp only [Option.bind_some]
 rw [hp]
 rfl
def routB (x : S124) : Bool := decide (x.f0.length ≤ 40) && x.f0.all insB
theorem areRoutines_eq (l : List S124) (l1 : List Int) (hl : l.length ≤ 1048576) (h1 : l1.length ≤ 1048576) (hm : ∀ x ∈ l, x.f0.length ≤ 1048576) (k : Nat) (hk : l.length + l1.length + 1048600 < k) :
 impl_areRoutines.f k l l1 = some ((decide (l1.length ≤ 8) && l1.all kindB) && (decide (l.length ≤ 6) && l.all routB)) := by
 unfold impl_areRoutines.f
 rw [areKinds_eq l1 h1 k (by omega)]
 simp only [Option.bind_some]
 cases (decide (l1.length ≤ 8) && l1.all kindB)
 ·rfl
 ·simp only [if_true, Bool.true_and]
  by_cases h : l.length ≤ 6
  ·rw [if_pos (by omega), decide_eq_true h, impl_all_Routine_areRoutines_1_eq routB 1048590 l (fun k x hk hx => by
    unfold impl_areRoutines_1.f
    rw [isCode_eq _ (hm x hx) k (by have := hm x hx; omega)]; rfl) hl k (by omega)]
   rfl
  ·rw [if_neg (by omega), decide_eq_false h]; rfl
theorem l04Routines_from (l : List S124) (hl : l.length ≤ 1048576) (hm : ∀ x ∈ l, x.f0.length ≤ 1048576) : ∀ (d k i : Nat), l.length - i ≤ d → d + 1048590 < k → i ≤ l.length → spec_l04Routines.l0 k l (i : Int) = some ((l.drop i).all routB) := by
 intro d
 induction d with
 | zero =>
  intro k i hd hk hi
  obtain ⟨k, rfl⟩ : ∃ m, k = m + 1 := ⟨k - 1, by omega⟩
  simp only [spec_l04Routines.l0]
  rw [if_neg (by omega), List.drop_of_length_le (by omega)]
  rfl
 | succ d ih =>
  intro k i hd hk hi
  obtain ⟨k, rfl⟩ : ∃ m, k = m + 1 := ⟨k - 1, by omega⟩
  simp only [spec_l04Routines.l0]
  by_cases h : i < l.length
  ·have e : rd_T124 l (i : Int) = l[i] := by simp [rd_T124, List.getD_eq_getElem?_getD, h]
   have hw : wrap64 ((i : Int) + 1) = ((i + 1 : Nat) : Int) := by unfold wrap64; omega
   rw [if_pos (by omega), if_pos (by omega), e, hw, ih k (i + 1) (by omega) (by omega) (by omega), List.drop_eq_getElem_cons h, List.all_cons]
   unfold routB
   by_cases c : l[i].f0.length ≤ 40
   ·rw [if_neg (by omega), decide_eq_true c, l02All_eq _ (by omega) _ (by omega)]
    simp only [Option.bind_some, Bool.true_and]
    cases l[i].f0.all insB <;> rfl
   ·rw [if_pos (by omega), decide_eq_false c]; rfl
  ·rw [if_neg (by omega), List.drop_of_length_le (by omega)]
   rfl
theorem l04Routines_eq (l : List S124) (hl : l.length ≤ 1048576) (hm : ∀ x ∈ l, x.f0.length ≤ 1048576) (k : Nat) (hk : l.length + 1048590 < k) : spec_l04Routines.f k l = some (decide (l.length ≤ 6) && l.all routB) := by
 unfold spec_l04Routines.f
 by_cases h : l.length ≤ 6
 ·have := l04Routines_from l hl hm l.length k 0 (by omega) hk (by omega)
  rw [if_neg (by omega), decide_eq_true h]
  simpa using this
 ·rw [if_pos (by omega), decide_eq_false h]; rfl
theorem verify_ok {x : S124} {l1 : List Int} (h1 : l1.all kindB = true) (h : routB x = true) (a : Int) : ∃ r, spec_l04Verify.f x.f0 l1 a = some r ∧ ∃ q, impl_verify.f x.f0 l1 a = some (q, r) := by
 unfold routB at h
 simp only [Bool.and_eq_true, decide_eq_true_eq] at h
 have hp := ok_of_ins h.1 h1 h.2
 unfold spec_l04Verify.f impl_verify.f
 rw [if_pos hp, if_pos hp]
 have he := loop_eq l1 a x.f0 0 ⟨#[]⟩ [] [] [] trivial ⟨by decide, by decide, by simp⟩
 exact ⟨_, rfl, (vLoop l1 a x.f0 0 ⟨#[]⟩ [] []).1, by rw [← he]⟩
theorem verifyAll_from (l : List S124) (l1 : List Int) (hl : l.length ≤ 4096) (h1 : l1.all kindB = true) (hr : l.all routB = true) : ∀ (d k i : Nat), l.length - i ≤ d → d < k → i ≤ l.length →
 ∃ r, spec_l04All.l0 k l l1 (i : Int) = some r ∧ impl_verifyAll.l0 k l1 l (l.length : Int) (i : Int) = some r := by
 intro d
 induction d with
 | zero =>
  intro k i hd hk hi
  obtain ⟨k, rfl⟩ : ∃ m, k = m + 1 := ⟨k - 1, by omega⟩
  refine ⟨(0, 0, 0), ?_, ?_⟩
  ·simp only [spec_l04All.l0]; rw [if_neg (by omega)]
  ·simp only [impl_verifyAll.l0]; rw [if_neg (by omega)]
 | succ d ih =>
  intro k i hd hk hi
  obtain ⟨k, rfl⟩ : ∃ m, k = m + 1 := ⟨k - 1, by omega⟩
  by_cases h : i < l.length
  ·have e : rd_T124 l (i : Int) = l[i] := by simp [rd_T124, List.getD_eq_getElem?_getD, h]
   have hw : wrap64 ((i : Int) + 1) = ((i + 1 : Nat) : Int) := by unfold wrap64; omega
   obtain ⟨r, hs, q, hi'⟩ := verify_ok h1 (List.all_eq_true.1 hr _ (List.getElem_mem h)) (i : Int)
   obtain ⟨r', g1, g2⟩ := ih k (i + 1) (by omega) (by omega) (by omega)
   simp only [spec_l04All.l0, impl_verifyAll.l0]
   rw [if_pos (by omega), if_pos (by omega), if_pos (by omega), if_pos (by omega), if_pos (by omega), e, hs, hi', hw]
   simp only [Option.bind_some]
   by_cases c : r.2 = 0
   ·rw [if_pos c, if_pos c]; exact ⟨r', g1, g2⟩
   ·rw [if_neg c, if_neg c]; exact ⟨_, rfl, rfl⟩
  ·refine ⟨(0, 0, 0), ?_, ?_⟩
   ·simp only [spec_l04All.l0]; rw [if_neg (by omega)]
   ·simp only [impl_verifyAll.l0]; rw [if_neg (by omega)]
theorem verifyAll_same (l : List S124) (l1 : List Int) (hl : l.length ≤ 4096) (h1 : l1.all kindB = true) (hr : l.all routB = true) (k : Nat) (hk : l.length < k) :
 ∃ r, spec_l04All.f k l l1 = some r ∧ impl_verifyAll.f k l l1 = some r := by
 unfold spec_l04All.f impl_verifyAll.f
 exact verifyAll_from l l1 hl h1 hr l.length k 0 (by omega) hk (by omega)
theorem va_same (l : List S124) (l1 : List Int) (hl : l.length ≤ 1048576) (h1 : l1.length ≤ 1048576) (hm : ∀ x ∈ l, x.f0.length ≤ 1048576) (k : Nat) (hk : l.length + l1.length + 1048620 < k) :
 ∃ r, spec_VerifyAll.f k l l1 = some r ∧ impl_VerifyAll.f k l l1 = some r := by
 obtain ⟨k, rfl⟩ : ∃ m, k = m + 1 := ⟨k - 1, by omega⟩
 unfold spec_VerifyAll.f impl_VerifyAll.f impl_Routine_151.f impl_many_int.f
 simp only [when_eq, Option.bind_some]
 rw [areRoutines_eq l l1 hl h1 hm _ (by omega)]
 simp only [Option.bind_some]
 rw [first_eq _ (by simp) _ (by simp; omega)]
 simp only [Option.bind_some, fnz]
 by_cases c0 : 4096 < l.length
 ·have e0 : (4096 : Int) < l.length := by omega
  refine ⟨(0, 0, 2), ?_, ?_⟩
  ·rw [if_pos e0]; simp only [spec_VerifyAll.j0]; rfl
  ·simp [e0]
 have e0 : ¬ (4096 : Int) < l.length := by omega
 by_cases c1 : 4096 < l1.length
 ·have e1 : (4096 : Int) < l1.length := by omega
  refine ⟨(0, 0, 2), ?_, ?_⟩
  ·rw [if_neg e0, decide_eq_true e1]; simp only [spec_VerifyAll.j0]; rfl
  ·simp [e0, e1]
 have e1 : ¬ (4096 : Int) < l1.length := by omega
 rw [if_neg e0, decide_eq_false e1]
 have d0 : decide ((l.length : Int) > 4096) = false := decide_eq_false e0
 have d1 : decide ((l1.length : Int) > 4096) = false := decide_eq_false e1
 simp only [spec_VerifyAll.j0, Bool.false_eq_true, if_false, d0, d1, if_true]
 rw [l04Kinds_eq l1 h1 _ (by omega)]
 simp only [Option.bind_some]
 cases hkb : (decide (l1.length ≤ 8) && l1.all kindB)
 ·refine ⟨(0, 0, 1), ?_, ?_⟩
  ·rfl
  ·simp
 ·simp only [if_true, Bool.true_and]
  rw [l04Routines_eq l hl hm _ (by omega)]
  simp only [Option.bind_some]
  cases hrb : (decide (l.length ≤ 6) && l.all routB)
  ·refine ⟨(0, 0, 1), ?_, ?_⟩
   ·rfl
   ·simp
  ·simp only [Bool.and_eq_true] at hkb hrb
   obtain ⟨r, r1, _⟩ := verifyAll_same l l1 (by omega) hkb.2 hrb.2 k (by omega)
   obtain ⟨r', _, r2⟩ := verifyAll_same l l1 (by omega) hkb.2 hrb.2 (k + 1) (by omega)
   have hrr : r = r' := by
    have m := spec_l04All.mono l l1 k r r1
    obtain ⟨r3, r31, r32⟩ := verifyAll_same l l1 (by omega) hkb.2 hrb.2 (k + 1) (by omega)
    rw [r32] at r2
    rw [r31] at m
    injection m with m; injection r2 with r2
    rw [← m, r2]
   subst hrr
   refine ⟨r, ?_, ?_⟩
   ·rw [if_pos rfl, r1]; rfl
   ·simp only [Bool.not_true, Bool.false_eq_true, if_false, if_true]
    rw [r2]; rfl
abbrev Ins := S96
theorem match_same (l : List Ins) (hl : l.length ≤ 4096) : ∀ (k : Nat) (dep mid i : Int), 0 ≤ dep → dep ≤ i → 0 ≤ i → i ≤ l.length →
 impl_match.l0 k l (dep + 1) mid i = spec_l04Match.l0 k l dep mid i := by
 intro k
 induction k using Nat.strongRecOn with
 | ind k ih =>
  intro dep mid i h0 h1 h2 h3
  cases k with
  | zero => rfl
  | succ k =>
   simp only [impl_match.l0, spec_l04Match.l0]
   by_cases hi : i < (l.length : Int)
   ·rw [if_pos hi, if_pos hi, if_pos h2, if_pos h2]
    have hw : wrap64 (i + 1) = i + 1 := by unfold wrap64; omega
    have hd : wrap64 (dep + 1) = dep + 1 := by unfold wrap64; omega
    have hd2 : wrap64 (dep + 1 + 1) = dep + 1 + 1 := by unfold wrap64; omega
    have hd3 : wrap64 (dep + 1 - 1) = dep := by unfold wrap64; omega
    have hd4 : wrap64 (dep - 1) = dep - 1 := by unfold wrap64; omega
    have body : ∀ (o : Int) (b : Bool), impl_match.j1 k l (dep + 1) mid i o b = spec_l04Match.j1 k l dep mid i o b := by
     intro o b
     cases k with
     | zero => rfl
     | succ k =>
      simp only [impl_match.j1, spec_l04Match.j1]
      rw [hw, hd, hd2, hd3, hd4]
      have a1 := ih k (by omega) (dep + 1) mid (i + 1) (by omega) (by omega) (by omega) (by omega)
      have a2 := ih k (by omega) dep i (i + 1) (by omega) (by omega) (by omega) (by omega)
      have a3 := ih k (by omega) dep mid (i + 1) (by omega) (by omega) (by omega) (by omega)
      rw [a1, a2, a3]
      cases b
      ·simp only [Bool.false_eq_true, if_false]
       by_cases o2 : o = 22
       ·rw [if_pos o2, if_pos o2]
        by_cases d0 : dep = 0
        ·rw [if_pos (show dep + 1 = 1 by omega), if_pos d0]
        ·rw [if_neg (show ¬ dep + 1 = 1 by omega), if_neg d0]
       ·rw [if_neg o2, if_neg o2]
        by_cases o3 : o = 23
        ·rw [if_pos o3, if_pos o3]
         by_cases d0 : dep = 0
         ·rw [if_pos d0, if_pos d0]
         ·rw [if_neg d0, if_neg d0]
          have a4 := ih k (by omega) (dep - 1) mid (i + 1) (by omega) (by omega) (by omega) (by omega)
          rw [show dep - 1 + 1 = dep by omega] at a4
          rw [a4]
        ·rw [if_neg o3, if_neg o3]
      ·rfl
    rw [body, body]
   ·rw [if_neg hi, if_neg hi]
theorem match_ends (l : List Ins) (hl : l.length ≤ 4096) : ∀ (d k : Nat) (dep mid i : Int), (l.length : Int) - i ≤ d → 2 * d + 1 < k → 0 ≤ i → ∃ r, spec_l04Match.l0 k l dep mid i = some r := by
 intro d
 induction d with
 | zero =>
  intro k dep mid i hd hk h2
  obtain ⟨k, rfl⟩ : ∃ m, k = m + 1 := ⟨k - 1, by omega⟩
  simp only [spec_l04Match.l0]
  rw [if_neg (by omega)]
  exact ⟨_, rfl⟩
 | succ d ih =>
  intro k dep mid i hd hk h2
  obtain ⟨k, rfl⟩ : ∃ m, k = m + 1 + 1 := ⟨k - 2, by omega⟩
  by_cases hi : i < (l.length : Int)
  ·conv => rhs; intro r; lhs; unfold spec_l04Match.l0
   rw [if_pos hi, if_pos h2]
   have hw : wrap64 (i + 1) = i + 1 := by unfold wrap64; omega
   have nx : ∀ dep mid, ∃ r, spec_l04Match.l0 k l dep mid (i + 1) = some r := fun dep mid => ih k dep mid (i + 1) (by omega) (by omega) (by omega)
   have body : ∀ (o : Int) (b : Bool), ∃ r, spec_l04Match.j1 (k + 1) l dep mid i o b = some r := by
    intro o b
    simp only [spec_l04Match.j1]
    rw [hw]
    split
    ·exact nx _ _
    ·split
     ·split
      ·exact nx _ _
      ·exact nx _ _
     ·split
      ·split
       ·exact ⟨_, rfl⟩
       ·exact nx _ _
      ·exact nx _ _
   split
   ·exact body _ _
   ·exact body _ _
  ·simp only [spec_l04Match.l0]
   rw [if_neg hi]
   exact ⟨_, rfl⟩
theorem match_start (l : List Ins) (hl : l.length ≤ 4096) (k : Nat) (a : Int) (h0 : 0 ≤ a) (h1 : a < l.length) (ho : (rd_T96 l a).f0 = 21 ∨ (rd_T96 l a).f0 = 24) :
 impl_match.f (k + 1 + 1) l a = spec_l04Match.f k l a := by
 have hw : wrap64 (a + 1) = a + 1 := by unfold wrap64; omega
 have h := match_same l hl k 0 0 (a + 1) (by omega) (by omega) (by omega) (by omega)
 unfold impl_match.f spec_l04Match.f
 rw [hw, ← h]
 conv => lhs; unfold impl_match.l0
 rw [if_pos h1, if_pos h0]
 rcases ho with ho | ho
 ·rw [if_pos ho, ho]
  simp only [impl_match.j1]
  rw [hw, show wrap64 (0 + 1) = 0 + 1 by unfold wrap64; omega]
  exact if_pos rfl
 ·have hn : ¬ (rd_T96 l a).f0 = 21 := by rw [ho]; decide
  rw [if_neg hn, ho]
  simp only [impl_match.j1]
  rw [hw, show wrap64 (0 + 1) = 0 + 1 by unfold wrap64; omega]
  exact if_pos rfl
theorem match_bound (l : List Ins) : ∀ (k : Nat) (dep mid i : Int) (r : Int × Int × Bool), 0 ≤ i → (i ≤ l.length) → l.length ≤ 4096 → spec_l04Match.l0 k l dep mid i = some r →
 r = (0, 0, false) ∨ (i ≤ r.2.1 ∧ r.2.1 < l.length ∧ (r.1 = mid ∨ (i ≤ r.1 ∧ r.1 < l.length))) := by
 intro k
 induction k using Nat.strongRecOn with
 | ind k ih =>
  intro dep mid i r h0 h1 hl h
  cases k with
  | zero => simp only [spec_l04Match.l0] at h; cases h
  | succ k =>
   simp only [spec_l04Match.l0] at h
   by_cases hi : i < (l.length : Int)
   ·rw [if_pos hi, if_pos h0] at h
    have hw : wrap64 (i + 1) = i + 1 := by unfold wrap64; omega
    have nx : ∀ k', k' < k + 1 → ∀ dep mid', (mid' = mid ∨ mid' = i) → spec_l04Match.l0 k' l dep mid' (i + 1) = some r → r = (0, 0, false) ∨ (i ≤ r.2.1 ∧ r.2.1 < l.length ∧ (r.1 = mid ∨ (i ≤ r.1 ∧ r.1 < l.length))) := by
     intro k' hk dep mid' hm h'
     rcases ih k' hk dep mid' (i + 1) r (by omega) (by omega) hl h' with e | ⟨e1, e2, e3⟩
     ·exact .inl e
     ·exact .inr ⟨by omega, e2, by omega⟩
    have body : ∀ (o : Int) (b : Bool), spec_l04Match.j1 k l dep mid i o b = some r → r = (0, 0, false) ∨ (i ≤ r.2.1 ∧ r.2.1 < l.length ∧ (r.1 = mid ∨ (i ≤ r.1 ∧ r.1 < l.length))) := by
     intro o b h
     cases k with
     | zero => simp only [spec_l04Match.j1] at h; cases h
     | succ k =>
      simp only [spec_l04Match.j1] at h
      rw [hw] at h
      split at h
      ·exact nx k (by omega) _ _ (.inl rfl) h
      ·split at h
       ·split at h
        ·exact nx k (by omega) _ _ (.inr rfl) h
        ·exact nx k (by omega) _ _ (.inl rfl) h
       ·split at h
        ·split at h
         ·obtain rfl := Option.some.inj h
          exact .inr ⟨Int.le_refl _, hi, .inl rfl⟩
         ·exact nx k (by omega) _ _ (.inl rfl) h
        ·exact nx k (by omega) _ _ (.inl rfl) h
    split at h
    ·exact body _ _ h
    ·exact body _ _ h
   ·rw [if_neg hi] at h
    obtain rfl := Option.some.inj h
    exact .inl rfl
theorem match_r (l : List Ins) (hl : l.length ≤ 4096) (a : Int) (h0 : 0 ≤ a) (h1 : a < l.length) (ho : (rd_T96 l a).f0 = 21 ∨ (rd_T96 l a).f0 = 24) :
 ∃ r : Int × Int × Bool, (0 ≤ r.1 ∧ r.1 < l.length ∧ 0 ≤ r.2.1 ∧ r.2.1 < l.length ∧ (r.1 > 0 → a < r.2.1)) ∧ ∀ k, 2 * l.length + 10 ≤ k → spec_l04Match.f k l a = some r ∧ impl_match.f k l a = some r := by
 obtain ⟨r, hr⟩ := match_ends l hl l.length (2 * l.length + 2) 0 0 (a + 1) (by omega) (by omega) (by omega)
 have hw : wrap64 (a + 1) = a + 1 := by unfold wrap64; omega
 have hs : ∀ k, 2 * l.length + 2 ≤ k → spec_l04Match.f k l a = some r := by
  intro k hk
  unfold spec_l04Match.f
  rw [hw]
  induction k with
  | zero => omega
  | succ k ih =>
   by_cases e : k + 1 = 2 * l.length + 2
   ·rw [e]; exact hr
   ·exact (spec_l04Match.mono_l k).1 _ _ _ _ _ (ih (by omega))
 refine ⟨r, ?_, fun k hk => ⟨hs k (by omega), ?_⟩⟩
 ·rcases match_bound l _ _ _ _ _ (by omega) (by omega) hl hr with e | ⟨e1, e2, e3⟩
  ·subst e
   exact ⟨by decide, by show (0 : Int) < _; omega, by decide, by show (0 : Int) < _; omega, fun h => absurd h (by decide)⟩
  ·exact ⟨by omega, by omega, by omega, e2, fun _ => by omega⟩
 ·obtain ⟨k, rfl⟩ : ∃ m, k = m + 1 + 1 := ⟨k - 2, by omega⟩
  rw [match_start l hl k a h0 h1 ho]
  exact hs k (by omega)
def cvFr (x : S199) : S184 := ⟨x.f0, x.f1, x.f2⟩
theorem toFrame_eq (a b : Int) (l : List Int) (hl : l.length ≤ 1048576) (k : Nat) (hk : l.length < k) : laws_toFrame.f k a b l = some (a, b, l) := by
 unfold laws_toFrame.f
 rw [toIntS_eq l hl k hk]; rfl
theorem toFrameS_from (l : List S199) (hl : l.length ≤ 1048576) (hm : ∀ x ∈ l, x.f2.length ≤ 1048576) : ∀ (d k i : Nat) (ys : List S184), l.length - i ≤ d → d + 1048577 < k → i ≤ l.length → ys.length = l.length → ys.take i = (l.take i).map cvFr → laws_toFrameS.l0 k l ys (i : Int) = some (l.map cvFr) := by
 intro d
 induction d with
 | zero =>
  intro k i ys hd hk hi hy ht
  obtain ⟨k, rfl⟩ : ∃ m, k = m + 1 := ⟨k - 1, by omega⟩
  simp only [laws_toFrameS.l0]
  rw [if_neg (by omega)]
  have e : i = l.length := by omega
  subst e
  rw [List.take_of_length_le (by omega), List.take_of_length_le (by omega)] at ht
  rw [ht]
 | succ d ih =>
  intro k i ys hd hk hi hy ht
  obtain ⟨k, rfl⟩ : ∃ m, k = m + 1 := ⟨k - 1, by omega⟩
  by_cases h : i < l.length
  ·have hw : wrap64 ((i : Int) + 1) = ((i + 1 : Nat) : Int) := by unfold wrap64; omega
   have e : rd_T199 l (i : Int) = l[i] := by simp [rd_T199, List.getD_eq_getElem?_getD, h]
   have hmi := hm l[i] (List.getElem_mem h)
   conv => lhs; unfold laws_toFrameS.l0
   rw [if_pos (by omega), if_pos (by omega), e, toFrame_eq _ _ _ hmi _ (by omega)]
   simp only [Option.bind_some]
   rw [if_pos (by omega), hw]
   apply ih k (i + 1) _ (by omega) (by omega) (by omega) (by simpa using hy)
   have hi2 : i < ys.length := by omega
   have ei : ((i : Int)).toNat = i := by omega
   rw [ei]
   apply List.ext_getElem
   ·simp; omega
   ·intro j h1 h2
    simp only [List.length_take, List.length_set] at h1
    rw [List.getElem_take, List.getElem_set]
    by_cases hj : i = j
    ·subst hj
     simp [cvFr]
    ·have hji : j < i := by omega
     rw [if_neg hj]
     have hh : (ys.take i)[j]? = ((l.take i).map cvFr)[j]? := by rw [ht]
     simp [hji] at hh
     rw [List.getElem?_eq_getElem (by omega), List.getElem?_eq_getElem (by omega)] at hh
     simp at hh
     simp [hh]
  ·conv => lhs; unfold laws_toFrameS.l0
   rw [if_neg (by omega)]
   have e : i = l.length := by omega
   subst e
   rw [List.take_of_length_le (by omega), List.take_of_length_le (by omega)] at ht
   rw [ht]
theorem toFrameS_eq (l : List S199) (hl : l.length ≤ 1048576) (hm : ∀ x ∈ l, x.f2.length ≤ 1048576) (k : Nat) (hk : l.length + 1048577 < k) : laws_toFrameS.f k l = some (l.map cvFr) := by
 unfold laws_toFrameS.f
 rw [if_pos (by omega), if_pos (by omega)]
 have h := toFrameS_from l hl hm l.length k 0 (List.replicate l.length z184) (by omega) hk (by omega) (by simp) (by simp)
 simpa using h
theorem eqFrame_same (a b : Int) (l : List Int) (hl : l.length ≤ 1048576) (k : Nat) (hk : l.length < k) : laws_eqFrame.f k a b l a b l = some true := by
 unfold laws_eqFrame.f
 rw [if_pos rfl, if_pos rfl, eqIntS_same l hl k hk]; rfl
theorem eqFrameS_from (l : List S184) (hl : l.length ≤ 1048576) (hm : ∀ x ∈ l, x.f2.length ≤ 1048576) : ∀ (d k i : Nat), l.length - i ≤ d → d + 1048577 < k → i ≤ l.length → laws_eqFrameS.l0 k l l (i : Int) = some true := by
 intro d
 induction d with
 | zero =>
  intro k i hd hk hi
  obtain ⟨k, rfl⟩ : ∃ m, k = m + 1 := ⟨k - 1, by omega⟩
  simp only [laws_eqFrameS.l0]
  rw [if_neg (by omega)]
 | succ d ih =>
  intro k i hd hk hi
  obtain ⟨k, rfl⟩ : ∃ m, k = m + 1 := ⟨k - 1, by omega⟩
  simp only [laws_eqFrameS.l0]
  by_cases h : i < l.length
  ·have hw : wrap64 ((i : Int) + 1) = ((i + 1 : Nat) : Int) := by unfold wrap64; omega
   have e : rd_T184 l (i : Int) = l[i] := by simp [rd_T184, List.getD_eq_getElem?_getD, h]
   rw [hw, ih k (i + 1) (by omega) (by omega) (by omega), e, eqFrame_same _ _ _ (hm _ (List.getElem_mem h)) _ (by have := hm _ (List.getElem_mem h); omega)]
   rw [if_pos (by omega), if_pos (by omega), if_pos (by omega)]
   rfl
  ·rw [if_neg (by omega)]
theorem eqFrameS_eq (l : List S184) (hl : l.length ≤ 1048576) (hm : ∀ x ∈ l, x.f2.length ≤ 1048576) (k : Nat) (hk : l.length + 1048577 < k) : laws_eqFrameS.f k l l = some true := by
 unfold laws_eqFrameS.f
 rw [if_pos rfl]
 have h := eqFrameS_from l hl hm l.length k 0 (by omega) hk (by omega)
 simpa using h
theorem szFrame_eq (p q : Int) (l : List Int) (hl : l.length ≤ maxLen) (a : Int) (h0 : 0 ≤ a) (h1 : a ≤ 1048576) : laws_szFrame.f p q l a = some (if (l.length : Int) ≤ a then a - (l.length : Int) else -1) := by
 have hm : (l.length : Int) ≤ 9223372036854775807 := by have : maxLen ≤ 9223372036854775807 := (by decide); omega
 have hw : wrap64 (a - (l.length : Int)) = a - l.length := by unfold wrap64; omega
 unfold laws_szFrame.f laws_szIntS.f
 rw [hw]
 by_cases h : (l.length : Int) ≤ a
 ·rw [if_pos h, if_neg (by omega)]
  simp only [Option.bind_some]
  rw [if_neg (by omega)]
 ·rw [if_neg h, if_pos (by omega)]; rfl
theorem szFrameS_from (l : List S199) (hl : l.length ≤ 1048576) (hm : ∀ x ∈ l, x.f2.length ≤ maxLen) : ∀ (d k i : Nat) (a : Int), l.length - i ≤ d → d < k → i ≤ l.length → 0 ≤ a → a ≤ 1048576 → ∃ t, laws_szFrameS.l0 k l a (i : Int) = some t ∧ t ≤ 1048576 ∧ (¬ t < 0 → ∀ j (hj : j < l.length), i ≤ j → l[j].f2.length ≤ 1048576) := by
 intro d
 induction d with
 | zero =>
  intro k i a hd hk hi h0 h1
  obtain ⟨k, rfl⟩ : ∃ m, k = m + 1 := ⟨k - 1, by omega⟩
  refine ⟨a, ?_, h1, fun _ j hj hij => by omega⟩
  simp only [laws_szFrameS.l0]
  rw [if_neg (by omega)]
 | succ d ih =>
  intro k i a hd hk hi h0 h1
  obtain ⟨k, rfl⟩ : ∃ m, k = m + 1 := ⟨k - 1, by omega⟩
  by_cases h : i < l.length
  ·have hw : wrap64 ((i : Int) + 1) = ((i + 1 : Nat) : Int) := by unfold wrap64; omega
   have e : rd_T199 l (i : Int) = l[i] := by simp [rd_T199, List.getD_eq_getElem?_getD, h]
   simp only [laws_szFrameS.l0]
   rw [if_pos (by omega), if_pos (by omega), e, szFrame_eq _ _ _ (hm _ (List.getElem_mem h)) a h0 h1]
   simp only [Option.bind_some]
   by_cases c : (l[i].f2.length : Int) ≤ a
   ·obtain ⟨t, ht, htl, hq⟩ := ih k (i + 1) (a - l[i].f2.length) (by omega) (by omega) (by omega) (by omega) (by omega)
    rw [if_pos c, if_neg (by omega), hw]
    refine ⟨t, ht, htl, fun hn j hj hij => ?_⟩
    by_cases hji : j = i
    ·subst hji; omega
    ·exact hq hn j hj (by omega)
   ·rw [if_neg c, if_pos (by omega)]
    exact ⟨-1, rfl, by omega, fun hn => absurd (by omega) hn⟩
  ·refine ⟨a, ?_, h1, fun _ j hj hij => by omega⟩
   simp only [laws_szFrameS.l0]
   rw [if_neg (by omega)]
theorem szFrameS_cases (l : List S199) (hl : l.length ≤ maxLen) (hm : ∀ x ∈ l, x.f2.length ≤ maxLen) (b : Int) (hb : 0 ≤ b ∧ b ≤ 1048576) (k : Nat) (hk : 1048577 < k) : ∃ t, laws_szFrameS.f k l b = some t ∧ t ≤ 1048576 ∧ (¬ t < 0 → l.length ≤ 1048576 ∧ ∀ x ∈ l, x.f2.length ≤ 1048576) := by
 have hmx : (l.length : Int) ≤ 9223372036854775807 := by have : maxLen ≤ 9223372036854775807 := (by decide); omega
 have hw : wrap64 (b - (l.length : Int)) = b - l.length := by unfold wrap64; omega
 unfold laws_szFrameS.f
 rw [hw]
 by_cases h : (l.length : Int) ≤ b
 ·obtain ⟨t, ht, htl, hq⟩ := szFrameS_from l (by omega) hm l.length k 0 (b - l.length) (by omega) (by omega) (by omega) (by omega) (by omega)
  rw [if_neg (by omega)]
  refine ⟨t, ht, htl, fun hn => ⟨by omega, fun x hx => ?_⟩⟩
  obtain ⟨j, hj, rfl⟩ := List.getElem_of_mem hx
  exact hq hn j hj (by omega)
 ·rw [if_pos (by omega)]
  exact ⟨-1, rfl, by omega, fun hn => absurd (by omega) hn⟩
theorem left_eq' (n : Nat) (a : Int) (hn : n ≤ maxLen) (h0 : 0 ≤ a) (h1 : a ≤ 1048576) : wrap64 (a - (n : Int)) = a - n := by
 have : maxLen ≤ 9223372036854775807 := by decide
 unfold wrap64; omega
theorem szIntS_eq (l : List Int) (hl : l.length ≤ maxLen) (a : Int) (h0 : 0 ≤ a) (h1 : a ≤ 1048576) : laws_szIntS.f l a = some (if (l.length : Int) ≤ a then a - l.length else -1) := by
 unfold laws_szIntS.f
 rw [left_eq' _ _ hl h0 h1]
 by_cases h : (l.length : Int) ≤ a
 ·rw [if_pos h, if_neg (by omega)]
 ·rw [if_neg h, if_pos (by omega)]
theorem szRoutineS_fromB (l : List S117) (hl : l.length ≤ 1048576) (hm : ∀ x ∈ l, x.f0.length ≤ maxLen) : ∀ (d k i : Nat) (a : Int), l.length - i ≤ d → d < k → i ≤ l.length → 0 ≤ a → a ≤ 1048576 → ∃ t, laws_szRoutineS.l0 k l a (i : Int) = some t ∧ (¬ t < 0 → t ≤ a ∧ ∀ j (hj : j < l.length), i ≤ j → l[j].f0.length ≤ 1048576) := by
 intro d
 induction d with
 | zero =>
  intro k i a hd hk hi h0 h1
  obtain ⟨k, rfl⟩ : ∃ m, k = m + 1 := ⟨k - 1, by omega⟩
  refine ⟨a, ?_, fun _ => ⟨Int.le_refl _, fun j hj hij => by omega⟩⟩
  simp only [laws_szRoutineS.l0]
  rw [if_neg (by omega)]
 | succ d ih =>
  intro k i a hd hk hi h0 h1
  obtain ⟨k, rfl⟩ : ∃ m, k = m + 1 := ⟨k - 1, by omega⟩
  by_cases h : i < l.length
  ·have hw : wrap64 ((i : Int) + 1) = ((i + 1 : Nat) : Int) := by unfold wrap64; omega
   have e : rd_T117 l (i : Int) = l[i] := by simp [rd_T117, List.getD_eq_getElem?_getD, h]
   simp only [laws_szRoutineS.l0]
   rw [if_pos (by omega), if_pos (by omega), e, szRoutine_eq _ (hm _ (List.getElem_mem h)) a h0 h1]
   simp only [Option.bind_some]
   by_cases c : (l[i].f0.length : Int) ≤ a
   ·obtain ⟨t, ht, hq⟩ := ih k (i + 1) (a - l[i].f0.length) (by omega) (by omega) (by omega) (by omega) (by omega)
    rw [if_pos c, if_neg (by omega), hw]
    refine ⟨t, ht, fun hn => ⟨by have := (hq hn).1; omega, fun j hj hij => ?_⟩⟩
    by_cases hji : j = i
    ·subst hji; omega
    ·exact (hq hn).2 j hj (by omega)
   ·rw [if_neg c, if_pos (by omega)]
    exact ⟨-1, rfl, fun hn => absurd (by omega) hn⟩
  ·refine ⟨a, ?_, fun _ => ⟨Int.le_refl _, fun j hj hij => by omega⟩⟩
   simp only [laws_szRoutineS.l0]
   rw [if_neg (by omega)]
theorem szRoutineS_casesB (l : List S117) (b : Int) (hb0 : 0 ≤ b) (hb1 : b ≤ 1048576) (hl : l.length ≤ maxLen) (hm : ∀ x ∈ l, x.f0.length ≤ maxLen) (k : Nat) (hk : 1048577 < k) : ∃ t, laws_szRoutineS.f k l b = some t ∧ (¬ t < 0 → t ≤ b ∧ l.length ≤ 1048576 ∧ ∀ x ∈ l, x.f0.length ≤ 1048576) := by
 have hw : wrap64 (b - (l.length : Int)) = b - l.length := left_eq' _ _ hl hb0 hb1
 clear hl
 unfold laws_szRoutineS.f
 rw [hw]
 by_cases h : (l.length : Int) ≤ b
 ·obtain ⟨t, ht, hq⟩ := szRoutineS_fromB l (by omega) hm l.length k 0 (b - l.length) (by omega) (by omega) (by omega) (by omega) (by omega)
  rw [if_neg (by omega)]
  refine ⟨t, ht, fun hn => ⟨by have := (hq hn).1; omega, by omega, fun x hx => ?_⟩⟩
  obtain ⟨j, hj, rfl⟩ := List.getElem_of_mem hx
  exact (hq hn).2 j hj (by omega)
 ·rw [if_pos (by omega)]
  exact ⟨-1, rfl, fun hn => absurd (by omega) hn⟩
theorem loop_out (ks : List Int) (R : Int) (xs : List S96) : ∀ (at_ : Int) (S : ByteArray) (O : List SO) (V : List VO) (out : List ByteArray), VR S O V → sInv S O → (vLoop ks R xs at_ S V out).2.2 = 0 →
 ∃ tail, (vLoop ks R xs at_ S V out).1 = out ++ tail ∧ tail.length = xs.length + 1 ∧ ∀ i, i ≤ xs.length → tail[i]? = some (sRun ks R (xs.take i) at_ S O) ∧ (sRun ks R (xs.take i) at_ S O).size ≤ 8 := by
 induction xs with
 | nil =>
  intro at_ S O V out h hi h0
  cases V with
  | cons v Q => simp only [vLoop] at h0; exact absurd h0 (by decide)
  | nil =>
   simp only [vLoop] at h0 ⊢
   by_cases hs : S.size = 0
   ·rw [if_pos hs]
    have e : S = ⟨#[]⟩ := ByteArray.ext (Array.eq_empty_of_size_eq_zero hs)
    refine ⟨[⟨#[]⟩], rfl, rfl, fun i hi' => ?_⟩
    have : i = 0 := by simpa using hi'
    subst this
    simp only [List.take_zero, sRun]
    exact ⟨by rw [e]; rfl, hi.1⟩
   ·rw [if_neg hs] at h0
    exact absurd h0 (by simp)
 | cons x xs ih =>
  intro at_ S O V out h hi h0
  obtain ⟨e1, e2⟩ := step_eq (ks := ks) (R := R) (at_ := at_) (op := x.f0) (a := x.f1) h hi
  simp only [vLoop] at h0 ⊢
  rw [← e1] at h0 ⊢
  by_cases hc : (sStep ks R at_ x.f0 x.f1 S O).1 = 0
  ·rw [if_pos hc] at h0 ⊢
   obtain ⟨e3, e4⟩ := e2 hc
   rw [← e3] at h0 ⊢
   obtain ⟨tail, t1, t2, t3⟩ := ih _ _ _ _ _ e4 (sStep_inv hi hc) h0
   refine ⟨S :: tail, by rw [t1]; simp, by simp [t2], fun i hi' => ?_⟩
   cases i with
   | zero => exact ⟨rfl, hi.1⟩
   | succ i =>
    simp only [List.take_succ_cons, sRun, List.getElem?_cons_succ]
    exact t3 i (by simpa using hi')
  ·rw [if_neg hc] at h0
   exact absurd h0 hc
abbrev Rt := S124
abbrev Fr := S184
theorem rdI (l : List Ins) (i : Nat) (h : i < l.length) : rd_T96 l (i : Int) = l[i] := by simp [rd_T96, List.getD_eq_getElem?_getD, h]
theorem rdR (l : List Rt) (i : Nat) (h : i < l.length) : rd_T124 l (i : Int) = l[i] := by simp [rd_T124, List.getD_eq_getElem?_getD, h]
theorem rdF (l : List Fr) (i : Nat) (h : i < l.length) : rd_T184 l (i : Int) = l[i] := by simp [rd_T184, List.getD_eq_getElem?_getD, h]
theorem open_from (l : List Ins) (hl : l.length ≤ 4096) (pc : Nat) (hp : pc ≤ l.length) : ∀ (d i : Nat) (A : List Int), pc - i ≤ d → i ≤ pc → A.length ≤ i →
 ∃ r : List Int, r.length ≤ pc ∧ ∀ k, d + 2 * l.length + 20 ≤ k → spec_l07Open.l0 k l (pc : Int) A (i : Int) = some r ∧ impl_openAt.l0 k l (pc : Int) A (pc : Int) (i : Int) = some r := by
 intro d
 induction d with
 | zero =>
  intro i A hd hi hA
  refine ⟨A, by omega, fun k hk => ?_⟩
  obtain ⟨k, rfl⟩ : ∃ m, k = m + 1 := ⟨k - 1, by omega⟩
  constructor
  ·simp only [spec_l07Open.l0]; rw [if_neg (by omega)]
  ·simp only [impl_openAt.l0]; rw [if_neg (by omega)]
 | succ d ih =>
  intro i A hd hi hA
  by_cases h : i < pc
  case neg =>
   obtain ⟨r, r0, r1⟩ := ih i A (by omega) hi hA
   exact ⟨r, r0, fun k hk => r1 k (by omega)⟩
  have hw : wrap64 ((i : Int) + 1) = ((i + 1 : Nat) : Int) := by unfold wrap64; omega
  have p1 : (i : Int) < (pc : Int) := by omega
  have p2 : (0 : Int) ≤ (i : Int) := by omega
  have p3 : (i : Int) < (l.length : Int) := by omega
  have p4 : i < l.length := by omega
  by_cases o : l[i].f0 = 24
  ·obtain ⟨q, _, hm⟩ := match_r l hl (i : Int) p2 p3 (.inr (by rw [rdI l i p4]; exact o))
   by_cases e : q.2.1 ≥ (pc : Int)
   ·obtain ⟨r, r0, r1⟩ := ih (i + 1) (A ++ [l[i].f1]) (by omega) (by omega) (by simp; omega)
    refine ⟨r, r0, fun k hk => ?_⟩
    obtain ⟨k, rfl⟩ : ∃ m, k = m + 1 := ⟨k - 1, by omega⟩
    obtain ⟨m1, m2⟩ := hm k (by omega)
    obtain ⟨s1, s2⟩ := r1 k (by omega)
    have p5 : A.length < 17592186044416 := by omega
    constructor
    ·simp only [spec_l07Open.l0, if_pos p1, if_pos p2, if_pos p3, rdI l i p4, if_pos o, m1, Option.bind_some, if_pos e, if_pos p5, hw]; exact s1
    ·simp only [impl_openAt.l0, if_pos p1, if_pos p2, if_pos p3, rdI l i p4, if_pos o, m2, Option.bind_some, if_pos e, if_pos p5, hw]; exact s2
   ·obtain ⟨r, r0, r1⟩ := ih (i + 1) A (by omega) (by omega) (by omega)
    refine ⟨r, r0, fun k hk => ?_⟩
    obtain ⟨k, rfl⟩ : ∃ m, k = m + 1 := ⟨k - 1, by omega⟩
    obtain ⟨m1, m2⟩ := hm k (by omega)
    obtain ⟨s1, s2⟩ := r1 k (by omega)
    constructor
    ·simp only [spec_l07Open.l0, if_pos p1, if_pos p2, if_pos p3, rdI l i p4, if_pos o, m1, Option.bind_some, if_neg e, hw]; exact s1
    ·simp only [impl_openAt.l0, if_pos p1, if_pos p2, if_pos p3, rdI l i p4, if_pos o, m2, Option.bind_some, if_neg e, hw]; exact s2
  ·obtain ⟨r, r0, r1⟩ := ih (i + 1) A (by omega) (by omega) (by omega)
   refine ⟨r, r0, fun k hk => ?_⟩
   obtain ⟨k, rfl⟩ : ∃ m, k = m + 1 := ⟨k - 1, by omega⟩
   obtain ⟨s1, s2⟩ := r1 k (by omega)
   constructor
   ·simp only [spec_l07Open.l0, if_pos p1, if_pos p2, if_pos p3, rdI l i p4, if_neg o, hw]; exact s1
   ·simp only [impl_openAt.l0, if_pos p1, if_pos p2, if_pos p3, rdI l i p4, if_neg o, hw]; exact s2
theorem loops_from (op lp : List Int) (a p : Int) (he : op.length = lp.length) (hl : lp.length ≤ 1048576) : ∀ (d i : Nat), lp.length - i ≤ d → i ≤ lp.length →
 ∃ b : Bool, ∀ k, d < k → spec_l07Frame.l0 k op (i : Int) a p lp = some b ∧ impl_frameOK.l0 k op lp (lp.length : Int) (i : Int) = some b := by
 intro d
 induction d with
 | zero =>
  intro i hd hi
  refine ⟨true, fun k hk => ?_⟩
  obtain ⟨k, rfl⟩ : ∃ m, k = m + 1 := ⟨k - 1, by omega⟩
  constructor
  ·simp only [spec_l07Frame.l0]; rw [if_neg (by omega)]
  ·simp only [impl_frameOK.l0]; rw [if_neg (by omega)]
 | succ d ih =>
  intro i hd hi
  by_cases h : i < lp.length
  case neg =>
   obtain ⟨b, hb⟩ := ih i (by omega) hi
   exact ⟨b, fun k hk => hb k (by omega)⟩
  have hw : wrap64 ((i : Int) + 1) = ((i + 1 : Nat) : Int) := by unfold wrap64; omega
  have p1 : (i : Int) < (op.length : Int) := by omega
  have p2 : (0 : Int) ≤ (i : Int) := by omega
  have p3 : (i : Int) < (lp.length : Int) := by omega
  obtain ⟨b, hb⟩ := ih (i + 1) (by omega) (by omega)
  by_cases c : 1 ≤ rd lp (i : Int) ∧ rd lp (i : Int) ≤ rd op (i : Int)
  ·refine ⟨b, fun k hk => ?_⟩
   obtain ⟨k, rfl⟩ : ∃ m, k = m + 1 := ⟨k - 1, by omega⟩
   obtain ⟨s1, s2⟩ := hb k (by omega)
   constructor
   ·simp only [spec_l07Frame.l0, if_pos p1, if_pos p2, if_pos p3, l01In_eq, decide_eq_true c, Option.bind_some, if_true, hw]; exact s1
   ·simp only [impl_frameOK.l0, if_pos p1, if_pos p2, if_pos p3, within_eq, decide_eq_true c, Option.bind_some, if_true, hw]; exact s2
  ·refine ⟨false, fun k hk => ?_⟩
   obtain ⟨k, rfl⟩ : ∃ m, k = m + 1 := ⟨k - 1, by omega⟩
   constructor
   ·simp only [spec_l07Frame.l0, if_pos p1, if_pos p2, if_pos p3, l01In_eq, decide_eq_false c, Option.bind_some, Bool.false_eq_true, if_false]
   ·simp only [impl_frameOK.l0, if_pos p1, if_pos p2, if_pos p3, within_eq, decide_eq_false c, Option.bind_some, Bool.false_eq_true, if_false]
def codeOf (L : List Rt) (a : Int) : List Ins := (rd_T124 L a).f0
theorem codeOf_mem (L : List Rt) (a : Int) (h0 : 0 ≤ a) (h1 : a < (L.length : Int)) : ∃ h : a.toNat < L.length, codeOf L a = (L[a.toNat]'h).f0 := by
 have h : a.toNat < L.length := by omega
 refine ⟨h, ?_⟩
 obtain ⟨n, rfl⟩ : ∃ n : Nat, a = (n : Int) := ⟨a.toNat, by omega⟩
 unfold codeOf
 rw [rdR L n (by omega)]
 simp
theorem frame_same (L : List Rt) (hL : L.length ≤ 6) (hc : ∀ x ∈ L, x.f0.length ≤ 40) (a p : Int) (lp : List Int) (hlp : lp.length ≤ 1048576) :
 ∃ b : Bool, (b = true → 0 ≤ a ∧ a < (L.length : Int) ∧ 0 ≤ p ∧ p ≤ ((codeOf L a).length : Int)) ∧ ∀ k, 1048900 < k → spec_l07Frame.f k L a p lp = some b ∧ ∀ last : Bool, impl_frameOK.f k L a p lp last = some (b && !(last && (p == ((codeOf L a).length : Int)))) := by
 have hw : wrap64 ((L.length : Int) - 1) = (L.length : Int) - 1 := by unfold wrap64; omega
 by_cases c0 : 0 ≤ a ∧ a ≤ (L.length : Int) - 1
 case neg =>
  refine ⟨false, fun h => by simp at h, fun k hk => ?_⟩
  obtain ⟨k, rfl⟩ : ∃ m, k = m + 1 := ⟨k - 1, by omega⟩
  constructor
  ·unfold spec_l07Frame.f
   simp only [l01In_eq, hw, decide_eq_false c0, Option.bind_some, Bool.false_eq_true, if_false, spec_l07Frame.j0, if_true]
  ·intro last
   unfold impl_frameOK.f
   simp only [within_eq, hw, decide_eq_false c0, Option.bind_some, Bool.false_eq_true, if_false, Bool.false_and]
 have q0 : 0 ≤ a := c0.1
 have q1 : a < (L.length : Int) := by omega
 obtain ⟨hn, hcode⟩ := codeOf_mem L a q0 q1
 have hcl : (codeOf L a).length ≤ 40 := by rw [hcode]; exact hc _ (List.getElem_mem hn)
 by_cases c1 : 0 ≤ p ∧ p ≤ ((codeOf L a).length : Int)
 case neg =>
  refine ⟨false, fun h => by simp at h, fun k hk => ?_⟩
  obtain ⟨k, rfl⟩ : ∃ m, k = m + 1 := ⟨k - 1, by omega⟩
  have c1' : ¬ (0 ≤ p ∧ p ≤ ((rd_T124 L a).f0.length : Int)) := c1
  constructor
  ·unfold spec_l07Frame.f
   simp only [l01In_eq, hw, decide_eq_true c0, Option.bind_some, if_true, if_pos q0, if_pos q1, decide_eq_false c1', Bool.not_false, spec_l07Frame.j0]
  ·intro last
   unfold impl_frameOK.f
   simp only [within_eq, hw, decide_eq_true c0, Option.bind_some, if_true, if_pos q0, if_pos q1, decide_eq_false c1', Bool.false_eq_true, if_false, impl_frameOK.j0, Bool.false_and]
 obtain ⟨r, r0, r1⟩ := open_from (codeOf L a) (by omega) p.toNat (by omega) p.toNat 0 [] (by omega) (by omega) (by simp)
 have ep : ((p.toNat : Nat) : Int) = p := by omega
 rw [ep] at r1
 have ho : ∀ k, 200 ≤ k → spec_l07Open.f k (codeOf L a) p = some r ∧ impl_openAt.f k (codeOf L a) p = some r := by
  intro k hk
  obtain ⟨s1, s2⟩ := r1 k (by omega)
  exact ⟨s1, s2⟩
 have hres : ∃ b : Bool, ∀ k, 1048880 < k → (if (r.length : Int) = (lp.length : Int) then spec_l07Frame.l0 k r 0 a p lp else some false) = some b ∧ (if (lp.length : Int) = (r.length : Int) then impl_frameOK.l0 k r lp (lp.length : Int) 0 else some false) = some b := by
  by_cases c2 : r.length = lp.length
  ·obtain ⟨b, hb⟩ := loops_from r lp a p c2 hlp lp.length 0 (by omega) (by omega)
   refine ⟨b, fun k hk => ?_⟩
   rw [if_pos (by omega), if_pos (by omega)]
   exact hb k (by omega)
  ·refine ⟨false, fun k hk => ?_⟩
   rw [if_neg (by omega), if_neg (by omega)]
   exact ⟨rfl, rfl⟩
 obtain ⟨b, hb⟩ := hres
 refine ⟨b, fun _ => ⟨q0, q1, c1.1, c1.2⟩, fun k hk => ?_⟩
 obtain ⟨k, rfl⟩ : ∃ m, k = m + 1 := ⟨k - 1, by omega⟩
 obtain ⟨s1, s2⟩ := hb k (by omega)
 obtain ⟨o1, o2⟩ := ho k (by omega)
 have c1' : 0 ≤ p ∧ p ≤ ((rd_T124 L a).f0.length : Int) := c1
 have o1' : spec_l07Open.f k (rd_T124 L a).f0 p = some r := o1
 have o2' : impl_openAt.f k (rd_T124 L a).f0 p = some r := o2
 constructor
 ·unfold spec_l07Frame.f
  simp only [l01In_eq, hw, decide_eq_true c0, Option.bind_some, if_true, if_pos q0, if_pos q1, decide_eq_true c1', Bool.not_true, spec_l07Frame.j0, Bool.false_eq_true, if_false, o1']
  exact s1
 ·intro last
  unfold impl_frameOK.f
  simp only [within_eq, hw, decide_eq_true c0, Option.bind_some, if_true, if_pos q0, if_pos q1, decide_eq_true c1', impl_frameOK.j0]
  cases last
  ·simp only [Bool.false_eq_true, if_false, o2', Option.bind_some, Bool.false_and, Bool.not_false, Bool.and_true]
   exact s2
  ·simp only [if_true, Bool.true_and]
   by_cases c3 : p = ((codeOf L a).length : Int)
   ·have e1 : (p == ((codeOf L a).length : Int)) = true := by simpa using c3
    have e2 : (p == ((rd_T124 L a).f0.length : Int)) = true := e1
    rw [e1, e2]
    simp
   ·have e1 : (p == ((codeOf L a).length : Int)) = false := by simpa using c3
    have e2 : (p == ((rd_T124 L a).f0.length : Int)) = false := e1
    rw [e1, e2]
    simp only [Bool.false_eq_true, if_false, o2', Option.bind_some, Bool.not_false, Bool.and_true]
    exact s2
def Ver (L : List Rt) (ks : List Int) : Prop := ks.length ≤ 8 ∧ ks.all kindB = true ∧ L.length ≤ 6 ∧ L.all routB = true ∧ ∀ j (h : j < L.length), (sLoop ks (j : Int) L[j].f0 0 ⟨#[]⟩ []).2 = 0
theorem all_facts (L : List Rt) (ks : List Int) (hL : L.length ≤ 6) (hk : ks.all kindB = true) (hr : L.all routB = true) : ∀ (k i : Nat) (r : Int × Int × Int), spec_l04All.l0 k L ks (i : Int) = some r → r.2.2 = 0 → ∀ j (h : j < L.length), i ≤ j → (sLoop ks (j : Int) L[j].f0 0 ⟨#[]⟩ []).2 = 0 := by
 intro k
 induction k with
 | zero => intro i r h; simp [spec_l04All.l0] at h
 | succ k ih =>
  intro i r h h0 j hj hij
  simp only [spec_l04All.l0] at h
  have p1 : (i : Int) < (L.length : Int) := by omega
  have p2 : (0 : Int) ≤ (i : Int) := by omega
  have hw : wrap64 ((i : Int) + 1) = ((i + 1 : Nat) : Int) := by unfold wrap64; omega
  have hi : i < L.length := by omega
  have hb := List.all_eq_true.1 hr _ (List.getElem_mem hi)
  unfold routB at hb
  simp only [Bool.and_eq_true, decide_eq_true_eq] at hb
  have hp := ok_of_ins hb.1 hk hb.2
  rw [if_pos p1, if_pos p2, rdR L i hi, hw] at h
  unfold spec_l04Verify.f at h
  rw [if_pos hp] at h
  simp only [Option.bind_some] at h
  by_cases c : (sLoop ks (i : Int) L[i].f0 0 ⟨#[]⟩ []).2 = 0
  ·rw [if_pos c] at h
   by_cases hji : j = i
   ·subst hji; exact c
   ·exact ih (i + 1) r h h0 j hj (by omega)
  ·rw [if_neg c, Option.some.injEq] at h
   subst h
   exact absurd h0 c
theorem va_facts (L : List Rt) (ks : List Int) (h0 : L.length ≤ 1048576) (h1 : ks.length ≤ 1048576) (hm : ∀ x ∈ L, x.f0.length ≤ 1048576) (k : Nat) (hk : 3000000 < k) (r : Int × Int × Int) (h : spec_VerifyAll.f k L ks = some r) (hr : r.2.2 = 0) : Ver L ks := by
 obtain ⟨k, rfl⟩ : ∃ m, k = m + 1 := ⟨k - 1, by omega⟩
 unfold spec_VerifyAll.f at h
 have bad : ∀ {z : Option (Int × Int × Int)} {q : Int × Int × Int}, z = some q → q.2.2 ≠ 0 → z = some r → False := by
  intro z q hz hq hz'
  rw [hz, Option.some.injEq] at hz'
  subst hz'
  exact hq hr
 by_cases c0 : (L.length : Int) > 4096
 ·rw [if_pos c0] at h
  exact (bad (q := (0, 0, 2)) (by simp [spec_VerifyAll.j0]) (by decide) h).elim
 rw [if_neg c0] at h
 by_cases c1 : (ks.length : Int) > 4096
 ·rw [decide_eq_true c1] at h
  exact (bad (q := (0, 0, 2)) (by simp [spec_VerifyAll.j0]) (by decide) h).elim
 rw [decide_eq_false c1] at h
 simp only [spec_VerifyAll.j0, Bool.false_eq_true, if_false] at h
 rw [l04Kinds_eq ks h1 _ (by omega)] at h
 simp only [Option.bind_some] at h
 cases hkb : (decide (ks.length ≤ 8) && ks.all kindB)
 ·rw [hkb] at h
  exact (bad (q := (0, 0, 1)) (by simp) (by decide) h).elim
 rw [hkb, if_pos rfl, l04Routines_eq L h0 hm _ (by omega)] at h
 simp only [Option.bind_some] at h
 cases hrb : (decide (L.length ≤ 6) && L.all routB)
 ·rw [hrb] at h
  exact (bad (q := (0, 0, 1)) (by simp) (by decide) h).elim
 rw [hrb, if_pos rfl] at h
 simp only [Bool.and_eq_true, decide_eq_true_eq] at hkb hrb
 obtain ⟨q, q1, q2⟩ := Option.bind_eq_some_iff.1 h
 rw [Option.some.injEq] at q2
 refine ⟨hkb.1, hkb.2, hrb.1, hrb.2, fun j hj => ?_⟩
 unfold spec_l04All.f at q1
 exact all_facts L ks hrb.1 hkb.2 hrb.2 k 0 q (by simpa using q1) (by rw [← q2] at hr; exact hr) j hj (Nat.zero_le _)
def tyF (L : List Rt) (ks : List Int) (f : Fr) : ByteArray := sRun ks f.f0 ((codeOf L f.f0).take f.f1.toNat) 0 ⟨#[]⟩ []
def okF (L : List Rt) (f : Fr) : Prop := 0 ≤ f.f0 ∧ f.f0 < (L.length : Int) ∧ 0 ≤ f.f1 ∧ f.f1 ≤ ((codeOf L f.f0).length : Int)
theorem ty_both {L : List Rt} {ks : List Int} (hv : Ver L ks) {f : Fr} (hf : okF L f) (k : Nat) (hk : 200 < k) :
 (tyF L ks f).size ≤ 8 ∧ spec_StackAt.f k (codeOf L f.f0) ks f.f0 f.f1 = some (tyF L ks f, 0) ∧ ∃ q, impl_verify.f (codeOf L f.f0) ks f.f0 = some q ∧ f.f1 < (q.1.length : Int) ∧ rdOf ByteArray.empty q.1 f.f1 = tyF L ks f := by
 obtain ⟨v0, v1, v2, v3, v4⟩ := hv
 obtain ⟨f0, f1, f2, f3⟩ := hf
 obtain ⟨hn, hcode⟩ := codeOf_mem L f.f0 f0 f1
 have hb := List.all_eq_true.1 v3 _ (List.getElem_mem hn)
 unfold routB at hb
 simp only [Bool.and_eq_true, decide_eq_true_eq] at hb
 rw [← hcode] at hb
 have hp := ok_of_ins hb.1 v1 hb.2
 have h4 := v4 f.f0.toNat hn
 rw [← hcode, show ((f.f0.toNat : Nat) : Int) = f.f0 by omega] at h4
 have hr : VR ⟨#[]⟩ [] [] := trivial
 have hi : sInv ⟨#[]⟩ [] := ⟨by decide, by decide, by simp⟩
 have he := loop_eq ks f.f0 (codeOf L f.f0) 0 ⟨#[]⟩ [] [] [] hr hi
 have ho := loop_out ks f.f0 (codeOf L f.f0) 0 ⟨#[]⟩ [] [] [] hr hi
 rw [← he] at h4
 obtain ⟨tail, t1, t2, t3⟩ := ho h4
 obtain ⟨g1, g2⟩ := t3 f.f1.toNat (by omega)
 refine ⟨g2, ?_, vLoop ks f.f0 (codeOf L f.f0) 0 ⟨#[]⟩ [] [], ?_, ?_, ?_⟩
 ·unfold spec_StackAt.f
  rw [if_neg (by omega), if_neg (by omega), l04Ask_eq _ _ _ (by omega) (by omega) k (by omega)]
  have hz : askC (codeOf L f.f0) ks f.f0 = 0 := by
   unfold askC
   rw [if_neg (by omega), if_neg (by omega), if_pos (by simp [v0, v1, hb.2]), if_pos (by omega)]
  simp only [Option.bind_some]
  rw [hz, if_pos rfl]
  unfold spec_l04Verify.f
  rw [if_pos hp]
  simp only [Option.bind_some]
  rw [← he, if_pos h4, if_pos ⟨f2, f3⟩]
  rfl
 ·unfold impl_verify.f
  rw [if_pos hp]
 ·rw [t1]; simp [t2]; omega
 ·unfold rdOf
  rw [t1, List.nil_append, List.getD_eq_getElem?_getD, g1]; rfl
def tyA (L : List Rt) (ks : List Int) : ByteArray → List Fr → ByteArray
 | A, [] => A
 | A, f :: fs => tyA L ks (A ++ tyF L ks f) fs
theorem types_from {L : List Rt} {ks : List Int} (hv : Ver L ks) (fr : List Fr) (st : List Int) (hf : fr.length ≤ 6) (ho : ∀ j (h : j < fr.length), okF L fr[j]) : ∀ (d k i : Nat) (A : ByteArray), fr.length - i ≤ d → d + 300 < k → i ≤ fr.length → A.size + 8 * d ≤ 1000 →
 spec_l07Types.l0 k L ks A (i : Int) fr st = some (tyA L ks A (fr.drop i)) := by
 intro d
 induction d with
 | zero =>
  intro k i A hd hk hi hA
  obtain ⟨k, rfl⟩ : ∃ m, k = m + 1 := ⟨k - 1, by omega⟩
  simp only [spec_l07Types.l0]
  rw [if_neg (by omega), List.drop_of_length_le (by omega)]
  rfl
 | succ d ih =>
  intro k i A hd hk hi hA
  by_cases h : i < fr.length
  case neg => exact ih k i A (by omega) (by omega) hi (by omega)
  obtain ⟨k, rfl⟩ : ∃ m, k = m + 1 := ⟨k - 1, by omega⟩
  have hw : wrap64 ((i : Int) + 1) = ((i + 1 : Nat) : Int) := by unfold wrap64; omega
  have p1 : (i : Int) < (fr.length : Int) := by omega
  have p2 : (0 : Int) ≤ (i : Int) := by omega
  have hok := ho i h
  obtain ⟨z1, z2, _⟩ := ty_both hv hok k (by omega)
  have z2' : spec_StackAt.f k (rd_T124 L fr[i].f0).f0 ks fr[i].f0 fr[i].f1 = some (tyF L ks fr[i], 0) := z2
  simp only [spec_l07Types.l0, if_pos p1, if_pos p2, rdF fr i h, if_pos hok.1, if_pos hok.2.1, z2', Option.bind_some, hw]
  rw [if_pos (by omega), ih k (i + 1) _ (by omega) (by omega) (by omega) (by rw [ByteArray.size_append]; omega), List.drop_eq_getElem_cons h]
  rfl
theorem isValue_eq (a : Int) : impl_isValue.f a = some (decide (-2147483648 ≤ a ∧ a ≤ 2147483647)) := by unfold impl_isValue.f; rw [within_eq]; rfl
theorem l01Int_eq (a : Int) : spec_l01Int.f a = some (decide (-2147483648 ≤ a ∧ a ≤ 2147483647)) := by unfold spec_l01Int.f; rw [l01In_eq]; rfl
theorem on_from (A : ByteArray) (fr : List Fr) (st : List Int) (hs : A.size = st.length) (hl : A.size ≤ 4096) : ∀ (d i : Nat), st.length - i ≤ d → i ≤ st.length →
 ∃ b : Bool, ∀ k, d < k → spec_l07OK.l1 k A (i : Int) fr st = some b ∧ impl_areOn.l0 k A st (st.length : Int) (i : Int) = some b := by
 intro d
 induction d with
 | zero =>
  intro i hd hi
  refine ⟨true, fun k hk => ?_⟩
  obtain ⟨k, rfl⟩ : ∃ m, k = m + 1 := ⟨k - 1, by omega⟩
  constructor
  ·simp only [spec_l07OK.l1]; rw [if_neg (by omega)]
  ·simp only [impl_areOn.l0]; rw [if_neg (by omega)]
 | succ d ih =>
  intro i hd hi
  by_cases h : i < st.length
  case neg =>
   obtain ⟨b, hb⟩ := ih i (by omega) hi
   exact ⟨b, fun k hk => hb k (by omega)⟩
  have hw : wrap64 ((i : Int) + 1) = ((i + 1 : Nat) : Int) := by unfold wrap64; omega
  have p1 : (i : Int) < (A.size : Int) := by omega
  have p2 : (0 : Int) ≤ (i : Int) := by omega
  have p3 : (i : Int) < (st.length : Int) := by omega
  obtain ⟨b, hb⟩ := ih (i + 1) (by omega) (by omega)
  by_cases c : bt A (i : Int) = 98
  ·by_cases c1 : 0 ≤ rd st (i : Int) ∧ rd st (i : Int) ≤ 1
   ·have c2 : -2147483648 ≤ rd st (i : Int) ∧ rd st (i : Int) ≤ 2147483647 := by omega
    refine ⟨b, fun k hk => ?_⟩
    obtain ⟨k, rfl⟩ : ∃ m, k = m + 1 := ⟨k - 1, by omega⟩
    obtain ⟨s1, s2⟩ := hb k (by omega)
    constructor
    ·simp only [spec_l07OK.l1, if_pos p1, if_pos p2, if_pos p3, if_pos c, l01In_eq, l01Int_eq, decide_eq_true c1, decide_eq_true c2, Option.bind_some, if_true, hw]; exact s1
    ·simp only [impl_areOn.l0, if_pos p1, if_pos p2, if_pos p3, if_pos c, within_eq, isValue_eq, decide_eq_true c1, decide_eq_true c2, Option.bind_some, if_true, hw]; exact s2
   ·refine ⟨false, fun k hk => ?_⟩
    obtain ⟨k, rfl⟩ : ∃ m, k = m + 1 := ⟨k - 1, by omega⟩
    constructor
    ·simp only [spec_l07OK.l1, if_pos p1, if_pos p2, if_pos p3, if_pos c, l01In_eq, decide_eq_false c1, Option.bind_some, Bool.false_eq_true, if_false]
    ·simp only [impl_areOn.l0, if_pos p1, if_pos p2, if_pos p3, if_pos c, within_eq, decide_eq_false c1, Option.bind_some, Bool.false_eq_true, if_false]
  ·by_cases c2 : -2147483648 ≤ rd st (i : Int) ∧ rd st (i : Int) ≤ 2147483647
   ·refine ⟨b, fun k hk => ?_⟩
    obtain ⟨k, rfl⟩ : ∃ m, k = m + 1 := ⟨k - 1, by omega⟩
    obtain ⟨s1, s2⟩ := hb k (by omega)
    constructor
    ·simp only [spec_l07OK.l1, if_pos p1, if_pos p2, if_pos p3, if_neg c, l01Int_eq, decide_eq_true c2, Option.bind_some, if_true, hw]; exact s1
    ·simp only [impl_areOn.l0, if_pos p1, if_pos p2, if_pos p3, if_neg c, isValue_eq, decide_eq_true c2, Option.bind_some, if_true, hw]; exact s2
   ·refine ⟨false, fun k hk => ?_⟩
    obtain ⟨k, rfl⟩ : ∃ m, k = m + 1 := ⟨k - 1, by omega⟩
    constructor
    ·simp only [spec_l07OK.l1, if_pos p1, if_pos p2, if_pos p3, if_neg c, l01Int_eq, decide_eq_false c2, Option.bind_some, Bool.false_eq_true, if_false]
    ·simp only [impl_areOn.l0, if_pos p1, if_pos p2, if_pos p3, if_neg c, isValue_eq, decide_eq_false c2, Option.bind_some, Bool.false_eq_true, if_false]
theorem on_same (A : ByteArray) (fr : List Fr) (st : List Int) (hs : A.size = st.length) (hl : A.size ≤ 4096) : ∃ b : Bool, ∀ k, 4100 < k → spec_l07OK.l1 k A 0 fr st = some b ∧ impl_areOn.f k st A = some b := by
 obtain ⟨b, hb⟩ := on_from A fr st hs hl st.length 0 (by omega) (by omega)
 refine ⟨b, fun k hk => ?_⟩
 obtain ⟨s1, s2⟩ := hb k (by omega)
 refine ⟨s1, ?_⟩
 have hw : wrap64 ((st.length : Int) - (A.size : Int)) = 0 := by unfold wrap64; omega
 unfold impl_areOn.f
 rw [hw]
 simp only [Int.lt_irrefl, if_false, Int.le_refl, if_true, Int.toNat_zero, List.drop_zero]
 rw [if_pos (by omega)]
 exact s2
theorem core_from {L : List Rt} {ks : List Int} (hv : Ver L ks) (fr : List Fr) (st : List Int) (hf : fr.length ≤ 6) (hm : ∀ x ∈ fr, x.f2.length ≤ 1048576) : ∀ (d i : Nat) (A : ByteArray), fr.length - i ≤ d → i ≤ fr.length → A.size + 8 * d ≤ 1000 → tyA L ks ⟨#[]⟩ fr = tyA L ks A (fr.drop i) → (∀ j (h : j < fr.length), j < i → okF L fr[j]) →
 ∃ b : Bool, ∀ k, 1049000 + 2 * d < k → spec_l07OK.l0 k L ks (i : Int) fr st = some b ∧ impl_coreOK.l0 k L ks A fr (fr.length : Int) (i : Int) fr st = some b := by
 have hL := hv.2.2.1
 have hc : ∀ x ∈ L, x.f0.length ≤ 40 := by
  intro x hx
  have hb := List.all_eq_true.1 hv.2.2.2.1 _ hx
  unfold routB at hb
  simp only [Bool.and_eq_true, decide_eq_true_eq] at hb
  exact hb.1
 have hwl : wrap64 ((fr.length : Int) - 1) = (fr.length : Int) - 1 := by unfold wrap64; omega
 intro d
 induction d with
 | zero =>
  intro i A hd hi hA hT ho
  have e : i = fr.length := by omega
  have hty : ∀ k, 400 < k → spec_l07Types.f k L ks fr st = some A := by
   intro k hk
   have := types_from hv fr st hf (fun j h => ho j h (by omega)) fr.length k 0 ⟨#[]⟩ (by omega) (by omega) (by omega) (by show 0 + 8 * fr.length ≤ 1000; omega)
   unfold spec_l07Types.f
   rw [List.drop_zero, hT, e, List.drop_of_length_le (Nat.le_refl _)] at this
   exact this
  by_cases c : A.size = st.length
  ·obtain ⟨b, hb⟩ := on_same A fr st c (by omega)
   refine ⟨b, fun k hk => ?_⟩
   obtain ⟨k, rfl⟩ : ∃ m, k = m + 1 := ⟨k - 1, by omega⟩
   obtain ⟨s1, s2⟩ := hb k (by omega)
   constructor
   ·simp only [spec_l07OK.l0]
    rw [if_neg (by omega), hty k (by omega)]
    simp only [Option.bind_some]
    rw [if_pos (by omega)]; exact s1
   ·simp only [impl_coreOK.l0]
    rw [if_neg (by omega), if_pos (by omega), s2]
    rfl
  ·refine ⟨false, fun k hk => ?_⟩
   obtain ⟨k, rfl⟩ : ∃ m, k = m + 1 := ⟨k - 1, by omega⟩
   constructor
   ·simp only [spec_l07OK.l0]
    rw [if_neg (by omega), hty k (by omega)]
    simp only [Option.bind_some]
    rw [if_neg (by omega)]
   ·simp only [impl_coreOK.l0]
    rw [if_neg (by omega), if_neg (by omega)]
 | succ d ih =>
  intro i A hd hi hA hT ho
  by_cases h : i < fr.length
  case neg =>
   obtain ⟨b, hb⟩ := ih i A (by omega) hi (by omega) hT ho
   exact ⟨b, fun k hk => hb k (by omega)⟩
  have hw : wrap64 ((i : Int) + 1) = ((i + 1 : Nat) : Int) := by unfold wrap64; omega
  have p1 : (i : Int) < (fr.length : Int) := by omega
  have p2 : (0 : Int) ≤ (i : Int) := by omega
  obtain ⟨b0, hok, hfr⟩ := frame_same L hL hc fr[i].f0 fr[i].f1 fr[i].f2 (hm _ (List.getElem_mem h))
  have eF := rdF fr i h
  have fail : ∀ (P : (k : Nat) → 1049000 + 2 * (d + 1) < k → spec_l07OK.l0 k L ks (i : Int) fr st = some false ∧ impl_coreOK.l0 k L ks A fr (fr.length : Int) (i : Int) fr st = some false), ∃ b : Bool, ∀ k, 1049000 + 2 * (d + 1) < k → spec_l07OK.l0 k L ks (i : Int) fr st = some b ∧ impl_coreOK.l0 k L ks A fr (fr.length : Int) (i : Int) fr st = some b := fun P => ⟨false, P⟩
  cases b0 with
  | false =>
   refine fail (fun k hk => ?_)
   obtain ⟨k, rfl⟩ : ∃ m, k = m + 1 := ⟨k - 1, by omega⟩
   obtain ⟨s1, s2⟩ := hfr k (by omega)
   constructor
   ·simp only [spec_l07OK.l0, if_pos p1, if_pos p2, eF, s1, Option.bind_some, Bool.false_eq_true, if_false]
   ·simp only [impl_coreOK.l0, if_pos p1, if_pos p2, eF, s2, Option.bind_some, Bool.false_and, Bool.false_eq_true, if_false]
  | true =>
   have hokF : okF L fr[i] := hok rfl
   obtain ⟨g0, g1, g2, g3⟩ := hokF
   have hcl : ((codeOf L fr[i].f0).length : Int) ≤ 40 := by
    obtain ⟨hn, hcode⟩ := codeOf_mem L fr[i].f0 g0 g1
    rw [hcode]
    have := hc _ (List.getElem_mem hn)
    omega
   have hwp : wrap64 (fr[i].f1 - 1) = fr[i].f1 - 1 := by unfold wrap64; omega
   have next : ∃ b : Bool, ∀ k, 1049000 + 2 * d < k → spec_l07OK.l0 k L ks ((i + 1 : Nat) : Int) fr st = some b ∧ impl_coreOK.l0 k L ks (A ++ tyF L ks fr[i]) fr (fr.length : Int) ((i + 1 : Nat) : Int) fr st = some b := by
    obtain ⟨z1, _⟩ := ty_both hv ⟨g0, g1, g2, g3⟩ 300 (by omega)
    refine ih (i + 1) (A ++ tyF L ks fr[i]) (by omega) (by omega) (by rw [ByteArray.size_append]; omega) ?_ ?_
    ·rw [hT, List.drop_eq_getElem_cons h]; rfl
    ·intro j hj hji
     by_cases e : j = i
     ·subst e; exact ⟨g0, g1, g2, g3⟩
     ·exact ho j hj (by omega)
   obtain ⟨z1, _, q, q1, q2, q3⟩ := ty_both hv ⟨g0, g1, g2, g3⟩ 300 (by omega)
   have q1' : impl_verify.f (rd_T124 L fr[i].f0).f0 ks fr[i].f0 = some q := q1
   have zz : A.size + (rdOf ByteArray.empty q.1 fr[i].f1).size ≤ 9223372036854775807 := by rw [q3]; omega
   by_cases last : (i : Int) = (fr.length : Int) - 1
   ·have eL : ((i : Int) == (fr.length : Int) - 1) = true := by simpa using last
    by_cases c : fr[i].f1 = ((codeOf L fr[i].f0).length : Int)
    ·have eC : (fr[i].f1 == ((codeOf L fr[i].f0).length : Int)) = true := by simpa using c
     have eC' : (fr[i].f1 == ((rd_T124 L fr[i].f0).f0.length : Int)) = true := eC
     refine fail (fun k hk => ?_)
     obtain ⟨k, rfl⟩ : ∃ m, k = m + 1 + 1 := ⟨k - 2, by omega⟩
     obtain ⟨s1, s2⟩ := hfr (k + 1) (by omega)
     constructor
     ·simp only [spec_l07OK.l0, if_pos p1, if_pos p2, eF, s1, Option.bind_some, if_true, if_pos g0, if_pos g1, hwl, if_pos last, eC', spec_l07OK.j1]
     ·simp only [impl_coreOK.l0, if_pos p1, if_pos p2, eF, hwl, eL, s2, eC, Option.bind_some, Bool.true_and, Bool.not_true, Bool.false_eq_true, if_false]
    ·have eC : (fr[i].f1 == ((codeOf L fr[i].f0).length : Int)) = false := by simpa using c
     have eC' : (fr[i].f1 == ((rd_T124 L fr[i].f0).f0.length : Int)) = false := eC
     obtain ⟨b, hb⟩ := next
     refine ⟨b, fun k hk => ?_⟩
     obtain ⟨k, rfl⟩ : ∃ m, k = m + 1 + 1 := ⟨k - 2, by omega⟩
     obtain ⟨s1, s2⟩ := hfr (k + 1) (by omega)
     have nl : ¬ (i : Int) < (fr.length : Int) - 1 := by omega
     constructor
     ·simp only [spec_l07OK.l0, if_pos p1, if_pos p2, eF, s1, Option.bind_some, if_true, if_pos g0, if_pos g1, hwl, if_pos last, eC', spec_l07OK.j1, Bool.false_eq_true, if_false, if_neg nl, hw]
      exact (hb k (by omega)).1
     ·obtain ⟨m, em⟩ : ∃ m, k + 1 = m := ⟨_, rfl⟩
      rw [em] at s2 ⊢
      simp only [impl_coreOK.l0, if_pos p1, if_pos p2, eF, hwl, eL, s2, eC, Option.bind_some, Bool.true_and, Bool.not_false, if_true, if_pos g0, if_pos g1, if_pos last, q1', if_pos g2, if_pos q2, if_pos zz, hw]
      rw [q3, ← em]
      exact (hb (k + 1) (by omega)).2
   ·have eL : ((i : Int) == (fr.length : Int) - 1) = false := by simpa using last
    have nl : (i : Int) < (fr.length : Int) - 1 := by omega
    by_cases c0 : fr[i].f1 = 0
    ·refine fail (fun k hk => ?_)
     obtain ⟨k, rfl⟩ : ∃ m, k = m + 1 + 1 := ⟨k - 2, by omega⟩
     obtain ⟨s1, s2⟩ := hfr (k + 1) (by omega)
     constructor
     ·simp only [spec_l07OK.l0, if_pos p1, if_pos p2, eF, s1, Option.bind_some, if_true, if_pos g0, if_pos g1, hwl, if_neg last, spec_l07OK.j1, Bool.false_eq_true, if_false, if_pos nl, if_pos c0]
     ·simp only [impl_coreOK.l0, if_pos p1, if_pos p2, eF, hwl, eL, s2, Option.bind_some, Bool.true_and, Bool.false_and, Bool.not_false, if_true, if_pos g0, if_pos g1, if_neg last, if_pos c0]
    have n1 : 0 ≤ fr[i].f1 - 1 := by omega
    have n2 : fr[i].f1 - 1 < ((rd_T124 L fr[i].f0).f0.length : Int) := by
     have : fr[i].f1 ≤ ((rd_T124 L fr[i].f0).f0.length : Int) := g3
     omega
    have n3 : (0 : Int) ≤ ((i + 1 : Nat) : Int) := by omega
    have n4 : ((i + 1 : Nat) : Int) < (fr.length : Int) := by omega
    by_cases cc : (!(((rd_T96 (rd_T124 L fr[i].f0).f0 (fr[i].f1 - 1)).f0) == 26) || (!(((rd_T96 (rd_T124 L fr[i].f0).f0 (fr[i].f1 - 1)).f1) == ((rd_T184 fr ((i + 1 : Nat) : Int)).f0)))) = true
    ·refine fail (fun k hk => ?_)
     obtain ⟨k, rfl⟩ : ∃ m, k = m + 1 + 1 := ⟨k - 2, by omega⟩
     obtain ⟨s1, s2⟩ := hfr (k + 1) (by omega)
     constructor
     ·simp only [spec_l07OK.l0, if_pos p1, if_pos p2, eF, s1, Option.bind_some, if_true, if_pos g0, if_pos g1, hwl, if_neg last, spec_l07OK.j1, Bool.false_eq_true, if_false, if_pos nl, if_neg c0, hwp, if_pos n1, if_pos n2, hw, if_pos n3, if_pos n4, if_pos cc]
     ·simp only [impl_coreOK.l0, if_pos p1, if_pos p2, eF, hwl, eL, s2, Option.bind_some, Bool.true_and, Bool.false_and, Bool.not_false, if_true, if_pos g0, if_pos g1, if_neg last, if_neg c0, hwp, if_pos n1, if_pos n2, hw, if_pos n3, if_pos n4, if_pos cc]
    ·obtain ⟨b, hb⟩ := next
     refine ⟨b, fun k hk => ?_⟩
     obtain ⟨k, rfl⟩ : ∃ m, k = m + 1 + 1 := ⟨k - 2, by omega⟩
     obtain ⟨s1, s2⟩ := hfr (k + 1) (by omega)
     constructor
     ·simp only [spec_l07OK.l0, if_pos p1, if_pos p2, eF, s1, Option.bind_some, if_true, if_pos g0, if_pos g1, hwl, if_neg last, spec_l07OK.j1, Bool.false_eq_true, if_false, if_pos nl, if_neg c0, hwp, if_pos n1, if_pos n2, hw, if_pos n3, if_pos n4, if_neg cc]
      exact (hb k (by omega)).1
     ·obtain ⟨m, em⟩ : ∃ m, k + 1 = m := ⟨_, rfl⟩
      rw [em] at s2 ⊢
      simp only [impl_coreOK.l0, if_pos p1, if_pos p2, eF, hwl, eL, s2, Option.bind_some, Bool.true_and, Bool.false_and, Bool.not_false, if_true, if_pos g0, if_pos g1, if_neg last, if_neg c0, hwp, if_pos n1, if_pos n2, hw, if_pos n3, if_pos n4, if_neg cc, q1', if_pos g2, if_pos q2, if_pos zz]
      rw [q3, ← em]
      exact (hb (k + 1) (by omega)).2
theorem core_same {L : List Rt} {ks : List Int} (h0 : L.length ≤ 1048576) (h1 : ks.length ≤ 1048576) (hm : ∀ x ∈ L, x.f0.length ≤ 1048576) (fr : List Fr) (st : List Int) (hf : ∀ x ∈ fr, x.f2.length ≤ 1048576) (k : Nat) (hk : 4194400 < k) :
 ∃ r, spec_CoreOK.f k L ks fr st = some r ∧ impl_CoreOK.f k L ks fr st = some r := by
 obtain ⟨k, rfl⟩ : ∃ m, k = m + 1 := ⟨k - 1, by omega⟩
 obtain ⟨r, r1, r2⟩ := va_same L ks h0 h1 hm k (by omega)
 obtain ⟨r', r3, r4⟩ := va_same L ks h0 h1 hm (k + 1) (by omega)
 have hrr : r' = r := by
  have m := spec_VerifyAll.mono L ks k r r1
  rw [r3] at m
  exact Option.some.inj m
 subst hrr
 unfold spec_CoreOK.f impl_CoreOK.f
 rw [r4]
 simp only [Option.bind_some]
 by_cases c : r'.2.2 = 0
 case neg =>
  rw [if_neg c]
  refine ⟨false, ?_, rfl⟩
  by_cases c0 : (L.length : Int) > 4096
  ·rw [if_pos c0]; simp only [spec_CoreOK.j0, if_true]
  ·rw [if_neg c0]
   by_cases c1 : (ks.length : Int) > 4096
   ·rw [decide_eq_true c1]; simp only [spec_CoreOK.j0, if_true]
   ·rw [decide_eq_false c1]; simp only [spec_CoreOK.j0, Bool.false_eq_true, if_false, r1, Option.bind_some, if_neg c]
 have hv := va_facts L ks h0 h1 hm k (by omega) r' r1 c
 rw [if_pos c, if_neg (by have := hv.2.2.1; omega), decide_eq_false (by have := hv.1; omega)]
 simp only [spec_CoreOK.j0, Bool.false_eq_true, if_false, r1, Option.bind_some, if_pos c]
 unfold spec_l07OK.f impl_coreOK.f
 by_cases c6 : (fr.length : Int) > 6
 ·rw [if_pos c6, if_pos c6]; exact ⟨false, rfl, rfl⟩
 rw [if_neg c6, if_neg c6]
 obtain ⟨b, hb⟩ := core_from hv fr st (by omega) hf fr.length 0 ⟨#[]⟩ (by omega) (by omega) (by show 0 + 8 * fr.length ≤ 1000; omega) rfl (fun j h hj => by omega)
 have s1 := (hb k (by omega)).1
 have s2 := (hb (k + 1) (by omega)).2
 rw [show ((0 : Nat) : Int) = 0 from rfl] at s1 s2
 rw [s1, s2]
 exact ⟨b, rfl, rfl⟩
theorem cvR_le {l : List S117} (hm : ∀ x ∈ l, x.f0.length ≤ 1048576) : ∀ y ∈ l.map cvR, y.f0.length ≤ 1048576 := by
 intro y hy
 obtain ⟨z, hz, rfl⟩ := List.mem_map.1 hy
 simpa [cvR] using hm z hz
theorem cvFr_le {l : List S199} (hm : ∀ x ∈ l, x.f2.length ≤ 1048576) : ∀ y ∈ l.map cvFr, y.f2.length ≤ 1048576 := by
 intro y hy
 obtain ⟨z, hz, rfl⟩ := List.mem_map.1 hy
 simpa [cvFr] using hm z hz
theorem FnExactCoreOK : laws_FnExactCoreOK.Pure := by
 intro l0 l1 x h0 h1 hx
 obtain ⟨h0, hw⟩ := h0
 obtain ⟨h1, _⟩ := h1
 obtain ⟨⟨f0, fw⟩, ⟨f1, _⟩⟩ := hx
 refine ⟨4194500, ?_⟩
 unfold laws_FnExactCoreOK.f
 by_cases c1 : (l1.length : Int) > 1048576
 ·rw [if_pos c1]
 rw [if_neg c1]
 obtain ⟨t, ht, hq⟩ := szRoutineS_casesB l0 1048576 (by omega) (by omega) h0 (fun y hy => (hw y hy).1) 4194500 (by omega)
 rw [ht]
 simp only [Option.bind_some]
 by_cases c : t < 0
 ·rw [if_pos c]
 obtain ⟨tl, q0, qm⟩ := hq c
 rw [if_neg c]
 unfold laws_szCore.f
 obtain ⟨u, hu, ul, hv⟩ := szFrameS_cases x.f0 f0 (fun y hy => (fw y hy).2.2.1) t ⟨by omega, tl⟩ 4194500 (by omega)
 rw [hu]
 simp only [Option.bind_some]
 by_cases d : u < 0
 ·rw [if_pos d]
  simp
 obtain ⟨v0, vm⟩ := hv d
 rw [if_neg d, szIntS_eq x.f1 f1 u (by omega) ul]
 simp only [Option.bind_some]
 by_cases d1 : (x.f1.length : Int) ≤ u
 case neg =>
  rw [if_neg d1]
  simp
 rw [if_pos d1, if_neg (by omega)]
 simp only [Option.bind_some]
 rw [if_neg (by omega), toRoutineS_eq l0 q0 qm _ (by omega), toIntS_eq l1 (by omega) _ (by omega)]
 unfold laws_toCore.f
 rw [toFrameS_eq x.f0 v0 vm _ (by omega), toIntS_eq x.f1 (by omega) _ (by omega)]
 simp only [Option.bind_some]
 obtain ⟨r, r1, r2⟩ := core_same (L := l0.map cvR) (ks := l1) (by simpa using q0) (by omega) (cvR_le qm) (x.f0.map cvFr) x.f1 (cvFr_le vm) 4194500 (by omega)
 rw [r1, r2]
 simp only [Option.bind_some, bne_self_eq_false, Bool.false_eq_true, if_false]
 rw [eqRoutineS_eq _ (by simpa using q0) (cvR_le qm) _ (by simp; omega)]
 simp only [Option.bind_some, if_true]
 rw [eqIntS_same l1 (by omega) _ (by omega)]
 simp only [Option.bind_some, if_true]
 unfold laws_eqCore.f
 rw [eqFrameS_eq _ (by simpa using v0) (cvFr_le vm) _ (by simp; omega)]
 simp only [Option.bind_some, if_true]
 rw [eqIntS_same x.f1 (by omega) _ (by omega)]
 rfl
end Go.Proofs.Ytkegjmkdnfpfdaa.Pure

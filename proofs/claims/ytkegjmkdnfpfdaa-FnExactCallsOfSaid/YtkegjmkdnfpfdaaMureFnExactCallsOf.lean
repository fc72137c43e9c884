import Derived.Test.YtkegjmkdnfpfdaaMFnExactCallsOfx13
set_option linter.unusedVariables false
set_option linter.unusedSimpArgs false
namespace Go.Proofs.Ytkegjmkdnfpfdaa.Pure
open Go.RowKit Go.Proofs.Ytkegjmkdnfpfdaa.MFnExactCallsOf Go.Proofs.YtkegjmkdnfpfdaaW.PrintWords Go.Proofs.YtkegjmkdnfpfdaaW.PrintLast
theorem within_eq (a lo hi : Int) : impl_within.f a lo hi = some (decide (lo ≤ a ∧ a ≤ hi)) := by
 unfold impl_within.f
 by_cases h : a ≥ lo
 ·have h' : lo ≤ a := h
  simp [h, h']
 ·have h' : ¬ lo ≤ a := h
  simp [h, h']
theorem l01In_eq (a lo hi : Int) : spec_l01In.f a lo hi = some (decide (lo ≤ a ∧ a ≤ hi)) := by
 unfold spec_l01In.f
 by_cases h : a ≥ lo
 ·have h' : lo ≤ a := h
  simp [h, h']
 ·have h' : ¬ lo ≤ a := h
  simp [h, h']
theorem when_eq (b : Bool) (c : Int) : impl_when.f b c = some (if b = true then c else 0) := by
 unfold impl_when.f
 split <;> rfl
def fnz : List Int → Int
 | [] => 0
 | a :: l => if a = 0 then fnz l else a
theorem first_from (l : List Int) (hl : l.length ≤ 1000) : ∀ (d k i : Nat), l.length - i ≤ d → d < k → i ≤ l.length → impl_first.l0 k l l.length (i : Int) = some (fnz (l.drop i)) := by
 intro d
 induction d with
 | zero =>
  intro k i hd hk hi
  obtain ⟨k, rfl⟩ : ∃ m, k = m + 1 := ⟨k - 1, by omega⟩
  simp only [impl_first.l0]
  rw [if_neg (by omega), List.drop_of_length_le (by omega)]
  rfl
 | succ d ih =>
  intro k i hd hk hi
  obtain ⟨k, rfl⟩ : ∃ m, k = m + 1 := ⟨k - 1, by omega⟩
  simp only [impl_first.l0]
  by_cases h : i < l.length
  ·have hw : wrap64 ((i : Int) + 1) = ((i + 1 : Nat) : Int) := by unfold wrap64; omega
   rw [hw, ih k (i + 1) (by omega) (by omega) (by omega)]
   have e : rd l (i : Int) = l[i] := by simp [rd, List.getD_eq_getElem?_getD, h]
   rw [List.drop_eq_getElem_cons h, e]
   rw [if_pos (by omega), if_pos (by omega), if_pos (by omega)]
   simp only [fnz]
   split <;> rfl
  ·rw [if_neg (by omega), List.drop_of_length_le (by omega)]
   rfl
theorem first_eq (l : List Int) (hl : l.length ≤ 1000) (k : Nat) (hk : l.length < k) : impl_first.f k l = some (fnz l) := by
 unfold impl_first.f
 have h := first_from l hl l.length k 0 (by omega) hk (by omega)
 simpa using h
def cvI (x : S88) : S96 := ⟨x.f0, x.f1⟩
theorem toInstrS_from (l : List S88) (hl : l.length ≤ 1048576) : ∀ (d k i : Nat) (ys : List S96), l.length - i ≤ d → d < k → i ≤ l.length → ys.length = l.length → ys.take i = (l.take i).map cvI → laws_toInstrS.l0 k l ys (i : Int) = some (l.map cvI) := by
 intro d
 induction d with
 | zero =>
  intro k i ys hd hk hi hy ht
  obtain ⟨k, rfl⟩ : ∃ m, k = m + 1 := ⟨k - 1, by omega⟩
  simp only [laws_toInstrS.l0]
  rw [if_neg (by omega)]
  have e : i = l.length := by omega
  subst e
  rw [List.take_of_length_le (by omega), List.take_of_length_le (by omega)] at ht
  rw [ht]
 | succ d ih =>
  intro k i ys hd hk hi hy ht
  obtain ⟨k, rfl⟩ : ∃ m, k = m + 1 := ⟨k - 1, by omega⟩
  by_cases h : i < l.length
  ·have hw : wrap64 ((i : Int) + 1) = ((i + 1 : Nat) : Int) := by unfold wrap64; omega
   have e : rd_T88 l (i : Int) = l[i] := by simp [rd_T88, List.getD_eq_getElem?_getD, h]
   conv => lhs; unfold laws_toInstrS.l0
   rw [if_pos (by omega), if_pos (by omega), e]
   unfold laws_toInstr.f
   simp only [Option.bind_some]
   rw [if_pos (by omega), hw]
   apply ih k (i + 1) _ (by omega) (by omega) (by omega) (by simpa using hy)
   have hi2 : i < ys.length := by omega
   have ei : ((i : Int)).toNat = i := by omega
   rw [ei]
   apply List.ext_getElem
   ·simp; omega
   ·intro j h1 h2
    simp only [List.length_take, List.length_set] at h1
    rw [List.getElem_take, List.getElem_set]
    by_cases hj : i = j
    ·subst hj
     simp [cvI]
    ·have hji : j < i := by omega
     rw [if_neg hj]
     have hh : (ys.take i)[j]? = ((l.take i).map cvI)[j]? := by rw [ht]
     simp [hji] at hh
     rw [List.getElem?_eq_getElem (by omega), List.getElem?_eq_getElem (by omega)] at hh
     simp at hh
     simp [hh]
  ·conv => lhs; unfold laws_toInstrS.l0
   rw [if_neg (by omega)]
   have e : i = l.length := by omega
   subst e
   rw [List.take_of_length_le (by omega), List.take_of_length_le (by omega)] at ht
   rw [ht]
theorem toInstrS_eq (l : List S88) (hl : l.length ≤ 1048576) (k : Nat) (hk : l.length < k) : laws_toInstrS.f k l = some (l.map cvI) := by
 unfold laws_toInstrS.f
 rw [if_pos (by omega), if_pos (by omega)]
 have h := toInstrS_from l hl l.length k 0 (List.replicate l.length z96) (by omega) hk (by omega) (by simp) (by simp)
 simpa using h
theorem eqInstr_refl (a b : Int) : laws_eqInstr.f a b a b = some true := by
 unfold laws_eqInstr.f
 simp
theorem eqInstrS_from (l : List S96) (hl : l.length ≤ 1048576) : ∀ (d k i : Nat), l.length - i ≤ d → d < k → i ≤ l.length → laws_eqInstrS.l0 k l l (i : Int) = some true := by
 intro d
 induction d with
 | zero =>
  intro k i hd hk hi
  obtain ⟨k, rfl⟩ : ∃ m, k = m + 1 := ⟨k - 1, by omega⟩
  simp only [laws_eqInstrS.l0]
  rw [if_neg (by omega)]
 | succ d ih =>
  intro k i hd hk hi
  obtain ⟨k, rfl⟩ : ∃ m, k = m + 1 := ⟨k - 1, by omega⟩
  simp only [laws_eqInstrS.l0]
  by_cases h : i < l.length
  ·have hw : wrap64 ((i : Int) + 1) = ((i + 1 : Nat) : Int) := by unfold wrap64; omega
   rw [hw, ih k (i + 1) (by omega) (by omega) (by omega), eqInstr_refl]
   rw [if_pos (by omega), if_pos (by omega), if_pos (by omega)]
   rfl
  ·rw [if_neg (by omega)]
theorem eqInstrS_eq (l : List S96) (hl : l.length ≤ 1048576) (k : Nat) (hk : l.length < k) : laws_eqInstrS.f k l l = some true := by
 unfold laws_eqInstrS.f
 rw [if_pos rfl]
 have h := eqInstrS_from l hl l.length k 0 (by omega) hk (by omega)
 simpa using h
theorem szInstr_eq (l : List S88) (hl : l.length ≤ maxLen) : laws_szInstrS.f l 1048576 = some ((if (l.length : Int) ≤ 1048576 then 1048576 - (l.length : Int) else -1 : Int)) := by
 unfold laws_szInstrS.f
 have hm : (l.length : Int) ≤ 9223372036854775807 := by have : maxLen ≤ 9223372036854775807 := (by decide); omega
 have hw : wrap64 (1048576 - (l.length : Int)) = 1048576 - l.length := by unfold wrap64; omega
 rw [hw]
 by_cases h : (l.length : Int) ≤ 1048576
 ·rw [if_pos h, if_neg (by omega)]
 ·rw [if_neg h, if_pos (by omega)]
theorem eqIntS_from (l : List Int) (hl : l.length ≤ 1048576) : ∀ (d k i : Nat), l.length - i ≤ d → d < k → i ≤ l.length → laws_eqIntS.l0 k l l (i : Int) = some true := by
 intro d
 induction d with
 | zero =>
  intro k i hd hk hi
  obtain ⟨k, rfl⟩ : ∃ m, k = m + 1 := ⟨k - 1, by omega⟩
  simp only [laws_eqIntS.l0]
  rw [if_neg (by omega)]
 | succ d ih =>
  intro k i hd hk hi
  obtain ⟨k, rfl⟩ : ∃ m, k = m + 1 := ⟨k - 1, by omega⟩
  simp only [laws_eqIntS.l0]
  by_cases h : i < l.length
  ·have hw : wrap64 ((i : Int) + 1) = ((i + 1 : Nat) : Int) := by unfold wrap64; omega
   rw [if_pos (by omega), if_pos (by omega), hw, ih k (i + 1) (by omega) (by omega) (by omega)]
   simp only [show ((i : Int) < (l.length : Int)) from by omega, if_true]
  ·rw [if_neg (by omega)]
theorem eqIntS_same (l : List Int) (hl : l.length ≤ 1048576) (k : Nat) (hk : l.length < k) : laws_eqIntS.f k l l = some true := by
 unfold laws_eqIntS.f
 rw [if_pos rfl]
 exact eqIntS_from l hl l.length k 0 (by omega) hk (by omega)
theorem has_j2 (k : Nat) (a : Int) (b : Bool) : spec_l02Has.j2 k a b = impl_rangeOf.j2 k a b := by
 cases k <;> simp only [spec_l02Has.j2, impl_rangeOf.j2]
theorem has_j1 (k : Nat) (a : Int) (b : Bool) : spec_l02Has.j1 k a b = impl_rangeOf.j1 k a b := by
 cases k <;> simp only [spec_l02Has.j1, impl_rangeOf.j1, has_j2]
theorem has_j0 (k : Nat) (a : Int) (b : Bool) : spec_l02Has.j0 k a b = impl_rangeOf.j0 k a b := by
 cases k <;> simp only [spec_l02Has.j0, impl_rangeOf.j0, has_j1]
theorem has_same (k : Nat) (a : Int) : spec_l02Has.f k a = impl_rangeOf.f k a := by
 unfold spec_l02Has.f impl_rangeOf.f
 simp only [has_j0]
def rng (a : Int) : Int × Int × Bool :=
 if a = 1 then (-2147483648, 2147483647, true) else if a = 2 then (0, 1, true) else if a = 3 ∨ a = 4 then (0, 15, true) else if a = 5 ∨ a = 6 ∨ a = 7 ∨ a = 8 then (0, 7, true)
 else if a = 19 ∨ a = 20 then (0, 7, true) else if a = 24 then (1, 20, true) else if a = 26 then (0, 5, true) else (0, 0, false)
theorem range_eq (k : Nat) (hk : 3 ≤ k) (a : Int) : impl_rangeOf.f k a = some (rng a) := by
 obtain ⟨k, rfl⟩ : ∃ m, k = m + 3 := ⟨k - 3, by omega⟩
 unfold impl_rangeOf.f rng
 simp only [impl_rangeOf.j0, impl_rangeOf.j1, impl_rangeOf.j2]
 by_cases h1 : a = 1
 ·subst h1; rfl
 by_cases h2 : a = 2
 ·subst h2; rfl
 by_cases h3 : a = 3
 ·subst h3; rfl
 by_cases h4 : a = 4
 ·subst h4; rfl
 by_cases h5 : a = 5
 ·subst h5; rfl
 by_cases h6 : a = 6
 ·subst h6; rfl
 by_cases h7 : a = 7
 ·subst h7; rfl
 by_cases h8 : a = 8
 ·subst h8; rfl
 by_cases h19 : a = 19
 ·subst h19; rfl
 by_cases h20 : a = 20
 ·subst h20; rfl
 by_cases h24 : a = 24
 ·subst h24; rfl
 by_cases h26 : a = 26
 ·subst h26; rfl
 simp [h1, h2, h3, h4, h5, h6, h7, h8, h19, h20, h24, h26]
def instrb (op a : Int) : Bool := decide ((1 ≤ op ∧ op ≤ 26) ∧ ((rng op).1 ≤ a ∧ a ≤ (rng op).2.1))
theorem isOp_eq (a : Int) : impl_isOp.f a = some (decide (1 ≤ a ∧ a ≤ 26)) := by
 unfold impl_isOp.f; rw [within_eq]; rfl
theorem l02Op_eq (a : Int) : spec_l02Op.f a = some (decide (1 ≤ a ∧ a ≤ 26)) := by
 unfold spec_l02Op.f; rw [l01In_eq]; rfl
theorem spec_instr (k : Nat) (hk : 3 ≤ k) (op a : Int) : spec_l02OK.f k op a = some (instrb op a) := by
 unfold spec_l02OK.f instrb
 simp only [l02Op_eq, l01In_eq, has_same, range_eq k hk, Option.bind_some]
 by_cases h : 1 ≤ op ∧ op ≤ 26 <;> simp [h]
theorem impl_instr (k : Nat) (hk : 3 ≤ k) (op a : Int) : impl_InstrOK.f k op a = some (instrb op a) := by
 unfold impl_InstrOK.f instrb
 simp only [isOp_eq, within_eq, range_eq k hk, Option.bind_some]
 by_cases h : 1 ≤ op ∧ op ≤ 26 <;> simp [h]
theorem impl_all_Instr_InstrOK_from (p : S96 → Bool) (K : Nat) (hF : ∀ (k : Nat) (x : S96), K ≤ k → impl_InstrOK.f k x.f0 x.f1 = some (p x)) (l : List S96) (hl : l.length ≤ 1048576) : ∀ (d k i : Nat), l.length - i ≤ d → d + K < k → i ≤ l.length →
 ∃ j, impl_all_Instr_InstrOK.l0 k l (i : Int) = some j ∧ (!(decide (0 ≤ j))) = (l.drop i).all p := by
 intro d
 induction d with
 | zero =>
  intro k i hd hk hi
  obtain ⟨k, rfl⟩ : ∃ m, k = m + 1 := ⟨k - 1, by omega⟩
  refine ⟨-1, ?_, ?_⟩
  ·simp only [impl_all_Instr_InstrOK.l0]
   rw [if_neg (by omega)]
  ·rw [List.drop_of_length_le (by omega)]
   rfl
 | succ d ih =>
  intro k i hd hk hi
  obtain ⟨k, rfl⟩ : ∃ m, k = m + 1 := ⟨k - 1, by omega⟩
  by_cases h : i < l.length
  ·have e : rd_T96 l (i : Int) = l[i] := by simp [rd_T96, List.getD_eq_getElem?_getD, h]
   have hw : wrap64 ((i : Int) + 1) = ((i + 1 : Nat) : Int) := by unfold wrap64; omega
   obtain ⟨j, hj, hp⟩ := ih k (i + 1) (by omega) (by omega) (by omega)
   have hx := hF k l[i] (by omega)
   rw [List.drop_eq_getElem_cons h, List.all_cons]
   simp only [impl_all_Instr_InstrOK.l0]
   rw [if_pos (by omega), if_pos (by omega), e, hw, hx]
   simp only [Option.bind_some]
   cases p l[i] with
   | true => exact ⟨j, by rw [if_pos rfl]; exact hj, by simpa using hp⟩
   | false => exact ⟨(i : Int), by rw [if_neg (by decide)], by simp⟩
  ·refine ⟨-1, ?_, ?_⟩
   ·simp only [impl_all_Instr_InstrOK.l0]
    rw [if_neg (by omega)]
   ·rw [List.drop_of_length_le (by omega)]
    rfl
theorem impl_all_Instr_InstrOK_eq (p : S96 → Bool) (K : Nat) (hF : ∀ (k : Nat) (x : S96), K ≤ k → impl_InstrOK.f k x.f0 x.f1 = some (p x)) (l : List S96) (hl : l.length ≤ 1048576) (k : Nat) (hk : l.length + K < k) : impl_all_Instr_InstrOK.f k l = some (l.all p) := by
 obtain ⟨j, hj, hp⟩ := impl_all_Instr_InstrOK_from p K hF l hl l.length k 0 (by omega) (by omega) (by omega)
 unfold impl_all_Instr_InstrOK.f
 have hj' : impl_all_Instr_InstrOK.l0 k l 0 = some j := hj
 rw [hj']
 simp only [Option.bind_some]
 rw [hp]
 rfl
def insB (x : S96) : Bool := instrb x.f0 x.f1
theorem l02All_from (l : List S96) (hl : l.length ≤ 1048576) : ∀ (d k i : Nat), l.length - i ≤ d → d + 3 < k → i ≤ l.length → spec_l02All.l0 k l (i : Int) = some ((l.drop i).all insB) := by
 intro d
 induction d with
 | zero =>
  intro k i hd hk hi
  obtain ⟨k, rfl⟩ : ∃ m, k = m + 1 := ⟨k - 1, by omega⟩
  simp only [spec_l02All.l0]
  rw [if_neg (by omega), List.drop_of_length_le (by omega)]
  rfl
 | succ d ih =>
  intro k i hd hk hi
  obtain ⟨k, rfl⟩ : ∃ m, k = m + 1 := ⟨k - 1, by omega⟩
  simp only [spec_l02All.l0]
  by_cases h : i < l.length
  ·have e : rd_T96 l (i : Int) = l[i] := by simp [rd_T96, List.getD_eq_getElem?_getD, h]
   have hw : wrap64 ((i : Int) + 1) = ((i + 1 : Nat) : Int) := by unfold wrap64; omega
   rw [if_pos (by omega), if_pos (by omega), e, hw, ih k (i + 1) (by omega) (by omega) (by omega), spec_instr k (by omega), List.drop_eq_getElem_cons h, List.all_cons]
   simp only [Option.bind_some]
   show (if insB l[i] = true then _ else _) = _
   cases insB l[i] <;> rfl
  ·rw [if_neg (by omega), List.drop_of_length_le (by omega)]
   rfl
theorem l02All_eq (l : List S96) (hl : l.length ≤ 1048576) (k : Nat) (hk : l.length + 3 < k) : spec_l02All.f k l = some (l.all insB) := by
 unfold spec_l02All.f
 have := l02All_from l hl l.length k 0 (by omega) hk (by omega)
 simpa using this
theorem markIntS_from : ∀ (d k i : Nat) (l : List Int) (a b : Int), l.length - i ≤ d → d < k → i ≤ l.length → l.length ≤ 1048576 → 0 ≤ a → a ≤ 100000000 → b = a + i → (∀ j : Nat, j < i → l[j]? = some (a + j)) →
 ∃ l', laws_markIntS.l0 k l b (i : Int) = some (a + l.length, l') ∧ l'.length = l.length ∧ ∀ j : Nat, j < l.length → l'[j]? = some (a + j) := by
 intro d
 induction d with
 | zero =>
  intro k i l a b hd hk hi hl h0 h1 hb hA
  obtain ⟨k, rfl⟩ : ∃ m, k = m + 1 := ⟨k - 1, by omega⟩
  simp only [laws_markIntS.l0]
  rw [if_neg (by omega)]
  have e : i = l.length := by omega
  subst e
  exact ⟨l, by rw [hb], rfl, hA⟩
 | succ d ih =>
  intro k i l a b hd hk hi hl h0 h1 hb hA
  obtain ⟨k, rfl⟩ : ∃ m, k = m + 1 := ⟨k - 1, by omega⟩
  simp only [laws_markIntS.l0]
  by_cases h : i < l.length
  ·have hw : wrap64 ((i : Int) + 1) = ((i + 1 : Nat) : Int) := by unfold wrap64; omega
   have hw2 : wrap64 (b + 1) = b + 1 := by unfold wrap64; omega
   rw [if_pos (by omega), if_pos (by omega), hw, hw2, Int.toNat_natCast]
   have hs := ih k (i + 1) (l.set i b) a (b + 1) (by simp; omega) (by omega) (by simp; omega) (by simpa using hl) h0 h1 (by omega) (fun j hj => by
    rw [List.getElem?_set]
    by_cases hji : i = j
    ·subst hji
     rw [if_pos rfl, if_pos h, hb]
    ·rw [if_neg hji]
     exact hA j (by omega))
   simpa using hs
  ·rw [if_neg (by omega)]
   have e : i = l.length := by omega
   subst e
   exact ⟨l, by rw [hb], rfl, hA⟩
theorem markIntS_eq (l : List Int) (hl : l.length ≤ 1048576) (a : Int) (h0 : 0 ≤ a) (h1 : a ≤ 100000000) (k : Nat) (hk : l.length < k) :
 ∃ l', laws_markIntS.f k l a = some (a + l.length, l') ∧ l'.length = l.length ∧ ∀ j : Nat, j < l.length → l'[j]? = some (a + j) :=
 markIntS_from l.length k 0 l a a (by omega) hk (by omega) hl h0 h1 (by simp) (fun j hj => by omega)
theorem heldIntS_from (l : List Int) (hl : l.length ≤ 1048576) (a : Int) (h0 : 0 ≤ a) (h1 : a ≤ 100000000) (hA : ∀ j : Nat, j < l.length → l[j]? = some (a + j)) : ∀ (d k i : Nat), l.length - i ≤ d → d < k → i ≤ l.length → laws_heldIntS.l0 k l (a + i) (i : Int) = some (a + l.length) := by
 intro d
 induction d with
 | zero =>
  intro k i hd hk hi
  obtain ⟨k, rfl⟩ : ∃ m, k = m + 1 := ⟨k - 1, by omega⟩
  simp only [laws_heldIntS.l0]
  rw [if_neg (by omega)]
  have e : i = l.length := by omega
  rw [e]
 | succ d ih =>
  intro k i hd hk hi
  obtain ⟨k, rfl⟩ : ∃ m, k = m + 1 := ⟨k - 1, by omega⟩
  simp only [laws_heldIntS.l0]
  by_cases h : i < l.length
  ·have hw : wrap64 ((i : Int) + 1) = ((i + 1 : Nat) : Int) := by unfold wrap64; omega
   have hw2 : wrap64 (a + i + 1) = a + ((i + 1 : Nat) : Int) := by unfold wrap64; omega
   have e : rd l (i : Int) = a + i := by
    have := hA i h
    simp [rd, List.getD_eq_getElem?_getD, this]
   rw [if_pos (by omega), if_pos (by omega), e, if_pos rfl, hw, hw2]
   exact ih k (i + 1) (by omega) (by omega) (by omega)
  ·rw [if_neg (by omega)]
   have e : i = l.length := by omega
   rw [e]
theorem heldIntS_eq (l : List Int) (hl : l.length ≤ 1048576) (a : Int) (h0 : 0 ≤ a) (h1 : a ≤ 100000000) (hA : ∀ j : Nat, j < l.length → l[j]? = some (a + j)) (k : Nat) (hk : l.length < k) : laws_heldIntS.f k l a = some (a + l.length) := by
 have h := heldIntS_from l hl a h0 h1 hA l.length k 0 (by omega) hk (by omega)
 unfold laws_heldIntS.f
 simpa using h
theorem markInstrS_from (n : Nat) : ∀ (d k i : Nat) (l : List S96) (a : Int), l.length = n → n - i ≤ d → d < k → i ≤ n → 0 ≤ a → a + 2 * (n : Int) ≤ 4611686018427387904 →
 ∃ l', laws_markInstrS.l0 k l (a + 2 * i) (i : Int) = some (a + 2 * n, l') := by
 intro d
 induction d with
 | zero =>
  intro k i l a hn hd hk hi h0 h1
  obtain ⟨k, rfl⟩ : ∃ m, k = m + 1 := ⟨k - 1, by omega⟩
  simp only [laws_markInstrS.l0]
  rw [if_neg (by omega)]
  have e : i = n := by omega
  subst e
  exact ⟨l, rfl⟩
 | succ d ih =>
  intro k i l a hn hd hk hi h0 h1
  obtain ⟨k, rfl⟩ : ∃ m, k = m + 1 := ⟨k - 1, by omega⟩
  simp only [laws_markInstrS.l0]
  by_cases h : i < n
  ·have hw : wrap64 ((i : Int) + 1) = ((i + 1 : Nat) : Int) := by unfold wrap64; omega
   have e1 : wrap64 (a + 2 * i + 1) = a + 2 * i + 1 := by unfold wrap64; omega
   have e2 : wrap64 (a + 2 * i + 1 + 1) = a + 2 * ((i + 1 : Nat) : Int) := by unfold wrap64; omega
   rw [if_pos (by omega), if_pos (by omega)]
   simp only [Option.bind_some, hw, e1, e2]
   exact ih k (i + 1) _ a (by simpa using hn) (by omega) (by omega) (by omega) h0 h1
  ·rw [if_neg (by omega)]
   have e : i = n := by omega
   subst e
   exact ⟨l, rfl⟩
theorem markInstrS_eq (l : List S96) (a : Int) (h0 : 0 ≤ a) (h1 : a + 2 * (l.length : Int) ≤ 4611686018427387904) (k : Nat) (hk : l.length < k) : ∃ l', laws_markInstrS.f k l a = some (a + 2 * l.length, l') := by
 have h := markInstrS_from l.length l.length k 0 l a rfl (by omega) hk (by omega) h0 h1
 unfold laws_markInstrS.f
 simpa using h
theorem strict_ext : ∀ (a b : List Int), a.Pairwise (· < ·) → b.Pairwise (· < ·) → (∀ v, v ∈ a ↔ v ∈ b) → a = b
 | [], [], _, _, _ => rfl
 | [], y :: b, _, _, h => by have := (h y).2 (by simp); simp at this
 | x :: a, [], _, _, h => by have := (h x).1 (by simp); simp at this
 | x :: a, y :: b, ha, hb, h => by
  obtain ⟨ha1, ha2⟩ := List.pairwise_cons.1 ha
  obtain ⟨hb1, hb2⟩ := List.pairwise_cons.1 hb
  have e : x = y := by
   rcases List.mem_cons.1 ((h x).1 (by simp)) with e | m
   ·exact e
   ·rcases List.mem_cons.1 ((h y).2 (by simp)) with e | m'
    ·exact e.symm
    ·have := hb1 x m; have := ha1 y m'; omega
  subst e
  rw [strict_ext a b ha2 hb2 (fun v => ⟨fun m => by
   rcases List.mem_cons.1 ((h v).1 (List.mem_cons_of_mem _ m)) with e | m'
   ·have := ha1 v m; omega
   ·exact m', fun m => by
   rcases List.mem_cons.1 ((h v).2 (List.mem_cons_of_mem _ m)) with e | m'
   ·have := hb1 v m; omega
   ·exact m'⟩)]
theorem compact_inv (d : Array Int) (hs : ∀ i j, i ≤ j → j < d.size → d[i]! ≤ d[j]!) : ∀ m, m ≤ d.size → (Lib.compactUpTo d m).Pairwise (· < ·) ∧ ∀ v, v ∈ Lib.compactUpTo d m ↔ ∃ j, j < m ∧ d[j]! = v := by
 intro m
 induction m with
 | zero => intro _; exact ⟨by simp [Lib.compactUpTo], by simp [Lib.compactUpTo]⟩
 | succ m ih =>
  intro hm
  obtain ⟨i1, i2⟩ := ih (by omega)
  rw [Lib.compactUpTo_succ]
  cases hk : Lib.keeps d m
  ·have hk' : m ≠ 0 ∧ d[m]! = d[m - 1]! := by simpa [Lib.keeps] using hk
   refine ⟨by simpa using i1, fun v => ?_⟩
   simp only [Bool.false_eq_true, if_false, List.append_nil]
   rw [i2 v]
   constructor
   ·rintro ⟨j, hj, e⟩; exact ⟨j, by omega, e⟩
   ·rintro ⟨j, hj, e⟩
    by_cases c : j = m
    ·subst c; exact ⟨j - 1, by omega, by rw [← hk'.2]; exact e⟩
    ·exact ⟨j, by omega, e⟩
  ·simp only [if_true]
   refine ⟨List.pairwise_append.2 ⟨i1, by simp, fun a ha b hb => ?_⟩, fun v => ?_⟩
   ·obtain ⟨j, hj, e⟩ := (i2 a).1 ha
    have hb' : b = d[m]! := by simpa using hb
    have h1 := hs j (m - 1) (by omega) (by omega)
    have h2 := hs (m - 1) m (by omega) (by omega)
    have hne : d[m]! ≠ d[m - 1]! := by
     intro e'
     rw [Lib.keeps_neg (by omega) e'] at hk
     cases hk
    omega
   ·rw [List.mem_append, i2 v]
    constructor
    ·rintro (⟨j, hj, e⟩ | hb)
     ·exact ⟨j, by omega, e⟩
     ·have e : v = d[m]! := by simpa using hb
      exact ⟨m, by omega, e.symm⟩
    ·rintro ⟨j, hj, e⟩
     by_cases c : j = m
     ·subst c; exact Or.inr (by simpa using e.symm)
     ·exact Or.inl ⟨j, by omega, e⟩
theorem compact_sorted (zs : List Int) : (Lib.compact (sortI zs)).Pairwise (· < ·) ∧ ∀ v, v ∈ Lib.compact (sortI zs) ↔ v ∈ zs := by
 have hp : (sortI zs).Pairwise (fun a b => (decide (a ≤ b)) = true) := List.pairwise_mergeSort (by intro a b c h1 h2; simp only [decide_eq_true_eq] at *; omega) (by intro a b; simp only [Bool.or_eq_true, decide_eq_true_eq]; omega) zs
 have hs : ∀ i j, i ≤ j → j < (sortI zs).toArray.size → (sortI zs).toArray[i]! ≤ (sortI zs).toArray[j]! := by
  intro i j hij hj
  have hj' : j < (sortI zs).length := by simpa using hj
  have hi' : i < (sortI zs).length := by omega
  have e1 : (sortI zs).toArray[i]! = (sortI zs)[i] := by simp [hi']
  have e2 : (sortI zs).toArray[j]! = (sortI zs)[j] := by simp [hj']
  rw [e1, e2]
  by_cases c : i = j
  ·subst c; omega
  ·have := List.pairwise_iff_getElem.1 hp i j hi' hj' (by omega)
   simpa using this
 have h := compact_inv (sortI zs).toArray hs (sortI zs).length (by simp)
 refine ⟨h.1, fun v => ?_⟩
 rw [show Lib.compact (sortI zs) = Lib.compactUpTo (sortI zs).toArray (sortI zs).length from rfl, h.2 v]
 have hm : v ∈ zs ↔ v ∈ sortI zs := by simp [sortI]
 rw [hm]
 constructor
 ·rintro ⟨j, hj, e⟩
  have e1 : (sortI zs).toArray[j]! = (sortI zs)[j] := by simp [hj]
  rw [e1] at e
  rw [← e]; exact List.getElem_mem hj
 ·intro hv
  obtain ⟨j, hj, e⟩ := List.getElem_of_mem hv
  exact ⟨j, hj, by simpa [hj] using e⟩
def tlC (C : List Int) (n : Int) : List Int := if n ∈ C then [n] else []
def stC (C : List Int) : Nat → List Int
 | 0 => []
 | n + 1 => stC C n ++ tlC C (n : Int)
theorem stC_mem (C : List Int) : ∀ n v, v ∈ stC C n ↔ (0 ≤ v ∧ v < (n : Int) ∧ v ∈ C)
 | 0, v => by simp [stC]; omega
 | n + 1, v => by
  rw [stC, List.mem_append, stC_mem C n v]
  unfold tlC
  by_cases c : (n : Int) ∈ C
  ·rw [if_pos c]
   constructor
   ·rintro (⟨a, b, m⟩ | m)
    ·exact ⟨a, by omega, m⟩
    ·have e : v = (n : Int) := by simpa using m
     subst e; exact ⟨by omega, by omega, c⟩
   ·rintro ⟨a, b, m⟩
    by_cases e : v = (n : Int)
    ·exact Or.inr (by simp [e])
    ·exact Or.inl ⟨a, by omega, m⟩
  ·rw [if_neg c]
   constructor
   ·rintro (⟨a, b, m⟩ | m)
    ·exact ⟨a, by omega, m⟩
    ·simp at m
   ·rintro ⟨a, b, m⟩
    by_cases e : v = (n : Int)
    ·subst e; exact absurd m c
    ·exact Or.inl ⟨a, by omega, m⟩
theorem stC_strict (C : List Int) : ∀ n, (stC C n).Pairwise (· < ·)
 | 0 => by simp [stC]
 | n + 1 => by
  rw [stC]
  refine List.pairwise_append.2 ⟨stC_strict C n, ?_, fun a ha b hb => ?_⟩
  ·unfold tlC; split <;> simp
  ·have h1 := (stC_mem C n a).1 ha
   unfold tlC at hb
   split at hb
   ·have : b = (n : Int) := by simpa using hb
    omega
   ·simp at hb
theorem stC_len (C : List Int) : ∀ n, (stC C n).length ≤ n
 | 0 => by simp [stC]
 | n + 1 => by
  have := stC_len C n
  rw [stC, List.length_append]
  unfold tlC
  split <;> simp <;> omega
theorem rd_last (X : List Int) (h : X ≠ []) (hn : X.length ≤ 1000) : rd X (wrap64 ((X.length : Int) - 1)) = X.getLast h := by
 have h0 : 0 < X.length := List.length_pos_iff.2 h
 have hw : wrap64 ((X.length : Int) - 1) = ((X.length - 1 : Nat) : Int) := by unfold wrap64; omega
 rw [hw, List.getLast_eq_getElem]
 simp [rd, List.getD_eq_getElem?_getD, show X.length - 1 < X.length by omega]
theorem co_inner (l : List S96) (hl : l.length ≤ 40) (n : Nat) (hn : n < 6) (A : List Int) (hA : ∀ v ∈ A, v < (n : Int)) (hAl : A.length ≤ n) : ∀ d i, l.length = i + d → ∀ k, spec_CallsOf.l1 (k + d + 1) l (A ++ tlC (callsL (l.take i)) n) (n : Int) (i : Int) = spec_CallsOf.l0 k l (A ++ tlC (callsL l) n) ((n + 1 : Nat) : Int) := by
 intro d
 have hwn : wrap64 ((n : Int) + 1) = ((n + 1 : Nat) : Int) := by unfold wrap64; omega
 induction d with
 | zero =>
  intro i hi k
  conv => lhs; unfold spec_CallsOf.l1
  rw [if_neg (by omega), hwn, List.take_of_length_le (by omega)]
 | succ d ih =>
  intro i hi k
  have h : i < l.length := by omega
  have hw : wrap64 ((i : Int) + 1) = ((i + 1 : Nat) : Int) := by unfold wrap64; omega
  have e : rd_T96 l (i : Int) = l[i] := by simp [rd_T96, List.getD_eq_getElem?_getD, h]
  have ht := callsL_take l i h
  have s := ih (i + 1) (by omega) k
  rw [ht] at s
  have tl_len : (tlC (callsL (l.take i)) n).length ≤ 1 := by unfold tlC; split <;> simp
  have hX : (A ++ tlC (callsL (l.take i)) n).length ≤ 7 := by rw [List.length_append]; omega
  rw [show k + (d + 1) + 1 = (k + d + 1) + 1 by omega]
  conv => lhs; unfold spec_CallsOf.l1
  rw [if_pos (show (i : Int) < (l.length : Int) by omega), if_pos (show (0 : Int) ≤ (i : Int) by omega), e, hw]
  by_cases c1 : l[i].f0 = 26
  ·rw [if_pos c1] at s ⊢
   by_cases c2 : l[i].f1 = (n : Int)
   ·rw [if_pos c2]
    have t1 : tlC (callsL (l.take i) ++ [l[i].f1]) n = [(n : Int)] := by unfold tlC; rw [if_pos (by simp [c2])]
    rw [t1] at s
    by_cases c3 : (n : Int) ∈ callsL (l.take i)
    ·have t2 : tlC (callsL (l.take i)) n = [(n : Int)] := by unfold tlC; rw [if_pos c3]
     rw [t2] at hX ⊢
     have hne : A ++ [(n : Int)] ≠ [] := by simp
     have hlen : (A ++ [(n : Int)]).length = A.length + 1 := by simp
     rw [if_neg (by omega), if_pos (by unfold wrap64; omega), if_pos (by unfold wrap64; omega), rd_last _ hne (by omega), if_pos (by simp)]
     exact s
    ·have t2 : tlC (callsL (l.take i)) n = [] := by unfold tlC; rw [if_neg c3]
     rw [t2] at hX ⊢
     rw [List.append_nil] at hX ⊢
     by_cases c4 : A = []
     ·subst c4
      rw [if_pos (by simp), if_pos (by simp)]
      exact s
     ·have h0 : 0 < A.length := List.length_pos_iff.2 c4
      have := hA _ (List.getLast_mem c4)
      rw [if_neg (by omega), if_pos (by unfold wrap64; omega), if_pos (by unfold wrap64; omega), rd_last _ c4 (by omega), if_neg (by omega), if_pos (by omega)]
      exact s
   ·rw [if_neg c2]
    have t1 : tlC (callsL (l.take i) ++ [l[i].f1]) n = tlC (callsL (l.take i)) n := by
     unfold tlC
     by_cases c3 : (n : Int) ∈ callsL (l.take i)
     ·rw [if_pos c3, if_pos (by simp [c3])]
     ·rw [if_neg c3, if_neg (by
       intro m
       rcases List.mem_append.1 m with m | m
       ·exact c3 m
       ·have : (n : Int) = l[i].f1 := by simpa using m
        exact c2 this.symm)]
    rw [t1] at s
    exact s
  ·rw [if_neg c1] at s ⊢
   rw [List.append_nil] at s
   exact s
theorem co_outer (l : List S96) (hl : l.length ≤ 40) (n : Nat) (hn : n < 6) (k : Nat) : spec_CallsOf.l0 (k + (l.length + 2)) l (stC (callsL l) n) (n : Int) = spec_CallsOf.l0 k l (stC (callsL l) (n + 1)) ((n + 1 : Nat) : Int) := by
 have s := co_inner l hl n hn (stC (callsL l) n) (fun v hv => ((stC_mem _ n v).1 hv).2.1) (stC_len _ n) l.length 0 (by omega) k
 have t : tlC (callsL (l.take 0)) (n : Int) = [] := by simp [tlC, callsL]
 rw [t, List.append_nil] at s
 rw [show k + (l.length + 2) = (k + l.length + 1) + 1 by omega]
 conv => lhs; unfold spec_CallsOf.l0
 rw [if_pos (by omega)]
 exact s
theorem co_spec (l : List S96) (hl : l.length ≤ 40) (k : Nat) (hk : 300 < k) : spec_CallsOf.l0 k l [] 0 = some (stC (callsL l) 6, 0) := by
 obtain ⟨m, rfl⟩ : ∃ m, k = m + 1 + (l.length + 2) + (l.length + 2) + (l.length + 2) + (l.length + 2) + (l.length + 2) + (l.length + 2) := ⟨k - 1 - 6 * (l.length + 2), by omega⟩
 have s0 := co_outer l hl 0 (by decide) (m + 1 + (l.length + 2) + (l.length + 2) + (l.length + 2) + (l.length + 2) + (l.length + 2))
 rw [show stC (callsL l) 0 = [] from rfl, show ((0 : Nat) : Int) = 0 from rfl] at s0
 rw [s0, co_outer l hl 1 (by decide), co_outer l hl 2 (by decide), co_outer l hl 3 (by decide), co_outer l hl 4 (by decide), co_outer l hl 5 (by decide)]
 conv => lhs; unfold spec_CallsOf.l0
 rw [if_neg (by decide)]
theorem ins_calls (l : List S96) (h : l.all insB = true) : ∀ v ∈ callsL l, 0 ≤ v ∧ v < 6 := by
 induction l with
 | nil => simp [callsL]
 | cons x l ih =>
  have h' : insB x = true ∧ l.all insB = true := by simpa using h
  intro v hv
  simp only [callsL] at hv
  by_cases c : x.f0 = 26
  ·rw [if_pos c] at hv
   rcases List.mem_cons.1 hv with e | m
   ·subst e
    have hb := h'.1
    unfold insB instrb at hb
    rw [c] at hb
    have hb' := of_decide_eq_true hb
    have e26 : rng 26 = (0, 5, true) := by rfl
    rw [e26] at hb'
    have h2 : 0 ≤ x.f1 ∧ x.f1 ≤ 5 := hb'.2
    omega
   ·exact ih h'.2 v m
  ·rw [if_neg c] at hv
   exact ih h'.2 v hv
theorem co_same (l0 : List S96) (h0 : l0.length ≤ 1048576) :
 ∃ r : List Int × Int, r.1.length ≤ 6 ∧ ∀ k, l0.length + 400 < k → spec_CallsOf.f k l0 = some r ∧ impl_CallsOf.f k l0 = some r := by
 have hall : ∀ k, l0.length + 400 < k → impl_all_Instr_InstrOK.f k l0 = some (l0.all insB) := fun k hk => impl_all_Instr_InstrOK_eq insB 3 (fun k x hk => impl_instr k hk x.f0 x.f1) l0 h0 k (by omega)
 have pre : ∀ k, l0.length + 400 < k → impl_CallsOf.f k l0 = (if fnz [if decide (4096 < l0.length) then 2 else 0, if decide (40 < l0.length) then 6 else 0, if !(l0.all insB) then 1 else 0] = 0 then (impl_callsOf.f l0).bind fun t170 => (some (t170, 0)) else some ([], fnz [if decide (4096 < l0.length) then 2 else 0, if decide (40 < l0.length) then 6 else 0, if !(l0.all insB) then 1 else 0])) := by
  intro k hk
  unfold impl_CallsOf.f impl_Instr_71.f
  simp only [when_eq, Option.bind_some]
  rw [hall k hk]
  simp only [Option.bind_some]
  rw [first_eq _ (by simp) _ (by simp; omega)]
  simp only [Option.bind_some, gt_iff_lt, show ((4096 : Int) < (l0.length : Int)) = (4096 < l0.length) from propext (by omega), show ((40 : Int) < (l0.length : Int)) = (40 < l0.length) from propext (by omega)]
 by_cases c0 : 4096 < l0.length
 ·refine ⟨([], 2), by simp, fun k hk => ⟨?_, ?_⟩⟩
  ·unfold spec_CallsOf.f; rw [if_pos (by omega)]
  ·rw [pre k hk, decide_eq_true c0]; rfl
 by_cases c1 : 40 < l0.length
 ·refine ⟨([], 6), by simp, fun k hk => ⟨?_, ?_⟩⟩
  ·unfold spec_CallsOf.f; rw [if_neg (by omega), if_pos (by omega)]
  ·rw [pre k hk, decide_eq_false c0, decide_eq_true c1]; rfl
 cases hb : l0.all insB
 ·refine ⟨([], 1), by simp, fun k hk => ⟨?_, ?_⟩⟩
  ·unfold spec_CallsOf.f
   rw [if_neg (by omega), if_neg (by omega), l02All_eq l0 h0 k (by omega), hb]; rfl
  ·rw [pre k hk, decide_eq_false c0, decide_eq_false c1, hb]; rfl
 ·have hr := ins_calls l0 hb
  have he : stC (callsL l0) 6 = Lib.compact (sortI (callsL l0)) := by
   obtain ⟨p1, p2⟩ := compact_sorted (callsL l0)
   refine strict_ext _ _ (stC_strict _ 6) p1 (fun v => ?_)
   rw [stC_mem, p2 v]
   exact ⟨fun h => h.2.2, fun h => ⟨(hr v h).1, by have := (hr v h).2; omega, h⟩⟩
  refine ⟨(stC (callsL l0) 6, 0), stC_len _ 6, fun k hk => ⟨?_, ?_⟩⟩
  ·unfold spec_CallsOf.f
   rw [if_neg (by omega), if_neg (by omega), l02All_eq l0 h0 k (by omega), hb]
   simp only [Option.bind_some, if_true]
   exact co_spec l0 (by omega) k (by omega)
  ·rw [pre k hk, decide_eq_false c0, decide_eq_false c1, hb]
   unfold impl_callsOf.f
   rw [if_pos (show l0.length ≤ 4096 by omega), he]
   rfl
theorem FnExactCallsOf : laws_FnExactCallsOf.Pure := by
 intro l0 h0
 obtain ⟨h0, _⟩ := h0
 obtain ⟨K, hK⟩ : ∃ K, K = l0.length + 1000 := ⟨_, rfl⟩
 refine ⟨K + 1 + 1 + 1, ?_⟩
 unfold laws_FnExactCallsOf.f
 rw [szInstr_eq l0 h0]
 simp only [Option.bind_some]
 by_cases c0 : (l0.length : Int) ≤ 1048576
 case neg => rw [if_neg c0]; rfl
 have n0 : (l0.map cvI).length = l0.length := by simp
 rw [if_pos c0, if_neg (by omega), toInstrS_eq l0 (by omega) _ (by omega)]
 obtain ⟨r, rl, hr⟩ := co_same (l0.map cvI) (by omega)
 simp only [Option.bind_some]
 rw [(hr (K + 1 + 1 + 1) (by omega)).1, (hr (K + 1 + 1 + 1) (by omega)).2]
 simp only [Option.bind_some, bne_self_eq_false]
 rw [eqIntS_same r.1 (by omega) _ (by omega)]
 simp only [Option.bind_some, if_true]
 simp only [laws_FnExactCallsOf.j0, Bool.false_eq_true, if_false]
 rw [toInstrS_eq l0 (by omega) _ (by omega)]
 simp only [Option.bind_some]
 rw [eqInstrS_eq _ (by omega) _ (by omega)]
 simp only [Option.bind_some, if_true]
 obtain ⟨m, hm⟩ := markInstrS_eq (l0.map cvI) 1 (by omega) (by omega) (K + 1 + 1) (by omega)
 rw [hm]
 simp only [Option.bind_some]
 rw [if_neg (by omega), eqIntS_same r.1 (by omega) _ (by omega)]
 simp only [Option.bind_some, if_true, bne_self_eq_false]
 simp only [laws_FnExactCallsOf.j1, Bool.false_eq_true, if_false]
 obtain ⟨l', e1, e2, e3⟩ := markIntS_eq r.1 (by omega) 1 (by omega) (by omega) (K + 1) (by omega)
 rw [e1]
 simp only [Option.bind_some]
 have hh := fun k (hk : r.1.length < k) => heldIntS_eq l' (by omega) 1 (by omega) (by omega) (fun j hj => e3 j (by omega)) k (by omega)
 rw [hh (K + 1) (by omega)]
 simp only [Option.bind_some]
 rw [if_neg (by omega), if_pos (by rw [e2]), toInstrS_eq l0 (by omega) _ (by omega)]
 simp only [Option.bind_some]
 rw [(hr (K + 1) (by omega)).2]
 simp only [Option.bind_some]
 rw [eqIntS_same r.1 (by omega) _ (by omega)]
 simp only [Option.bind_some, if_true, bne_self_eq_false]
 simp only [laws_FnExactCallsOf.j2, Bool.false_eq_true, if_false]
 rw [hh K (by omega)]
 simp only [Option.bind_some]
 rw [if_neg (by omega), if_pos (by rw [e2])]
end Go.Proofs.Ytkegjmkdnfpfdaa.Pure

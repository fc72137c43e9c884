/- Proved: the pure statement behind the law FnBusy of the given program: for every input that the row lets in, the program's answer and the reference's agree and the law returns true. Conditions: none beyond the row's own. -/
import Derived.Test.YtohnenadkilaiaaPFnBusyx3
set_option linter.unusedVariables false
set_option linter.unusedSimpArgs false
namespace Go.Proofs.Ytohnenadkilaiaa.Pure
open Go.RowKit Go.Proofs.Ytohnenadkilaiaa.PFnBusy Go.Proofs.YtohnenadkilaiaaW.PrintWords Go.Proofs.YtohnenadkilaiaaW.PrintLast

theorem within_eq (a lo hi : Int) : impl_within.f a lo hi = some (decide (lo ≤ a ∧ a ≤ hi)) := by
  unfold impl_within.f
  by_cases h : a ≥ lo
  · have h' : lo ≤ a := h
    simp [h, h']
  · have h' : ¬ lo ≤ a := h
    simp [h, h']

theorem l01In_eq (a lo hi : Int) : spec_l01In.f a lo hi = some (decide (lo ≤ a ∧ a ≤ hi)) := by
  unfold spec_l01In.f
  by_cases h : a ≥ lo
  · have h' : lo ≤ a := h
    simp [h, h']
  · have h' : ¬ lo ≤ a := h
    simp [h, h']

theorem when_eq (b : Bool) (c : Int) : impl_when.f b c = some (if b = true then c else 0) := by
  unfold impl_when.f
  split <;> rfl

/-- The first number of a list that is not 0; else 0. -/
def fnz : List Int → Int
  | [] => 0
  | a :: l => if a = 0 then fnz l else a

theorem first_from (l : List Int) (hl : l.length ≤ 1000) : ∀ (d k i : Nat), l.length - i ≤ d → d < k → i ≤ l.length → impl_first.l0 k l l.length (i : Int) = some (fnz (l.drop i)) := by
  intro d
  induction d with
  | zero =>
    intro k i hd hk hi
    obtain ⟨k, rfl⟩ : ∃ m, k = m + 1 := ⟨k - 1, by omega⟩
    simp only [impl_first.l0]
    rw [if_neg (by omega), List.drop_of_length_le (by omega)]
    rfl
  | succ d ih =>
    intro k i hd hk hi
    obtain ⟨k, rfl⟩ : ∃ m, k = m + 1 := ⟨k - 1, by omega⟩
    simp only [impl_first.l0]
    by_cases h : i < l.length
    · have hw : wrap64 ((i : Int) + 1) = ((i + 1 : Nat) : Int) := by unfold wrap64; omega
      rw [hw, ih k (i + 1) (by omega) (by omega) (by omega)]
      have e : rd l (i : Int) = l[i] := by simp [rd, List.getD_eq_getElem?_getD, h]
      rw [List.drop_eq_getElem_cons h, e]
      rw [if_pos (by omega), if_pos (by omega), if_pos (by omega)]
      simp only [fnz]
      split <;> rfl
    · rw [if_neg (by omega), List.drop_of_length_le (by omega)]
      rfl

theorem first_eq (l : List Int) (hl : l.length ≤ 1000) (k : Nat) (hk : l.length < k) : impl_first.f k l = some (fnz l) := by
  unfold impl_first.f
  have h := first_from l hl l.length k 0 (by omega) hk (by omega)
  simpa using h

theorem wrap_id {x : Int} (h1 : -9223372036854775808 ≤ x) (h2 : x ≤ 9223372036854775807) : wrap64 x = x := by unfold wrap64; omega

theorem u8_bounds {x : Int} (h : (Lit.int .u8 x).wf = true) : 0 ≤ x ∧ x ≤ 255 := by
  simp only [Lit.wf, IntKind.min, IntKind.max, IntKind.signed, IntKind.bits, Bool.and_eq_true, decide_eq_true_eq] at h
  simp at h
  omega
theorem rd_u8 {l : List Int} (hw : ∀ x ∈ l, (Lit.int .u8 x).wf = true) (i : Int) : 0 ≤ rd l i ∧ rd l i ≤ 255 := by
  unfold rd
  rw [List.getD_eq_getElem?_getD]
  by_cases h : i.toNat < l.length
  · rw [List.getElem?_eq_getElem h]
    exact u8_bounds (hw _ (List.getElem_mem h))
  · rw [List.getElem?_eq_none (by omega)]
    exact ⟨by decide, by decide⟩
theorem tmod_range {a b : Int} (ha : 0 ≤ a) (hb : 0 < b) : 0 ≤ Int.tmod a b ∧ Int.tmod a b < b := ⟨Int.tmod_nonneg _ ha, Int.tmod_lt_of_pos _ hb⟩
theorem tdiv_range {a b : Int} (ha : 0 ≤ a) (hb : 0 < b) : 0 ≤ Int.tdiv a b ∧ Int.tdiv a b ≤ a := by
  rw [Int.tdiv_eq_ediv_of_nonneg ha]
  exact ⟨Int.ediv_nonneg ha (by omega), Int.ediv_le_self _ ha⟩

theorem at_some {l : List Int} (hw : ∀ x ∈ l, (Lit.int .u8 x).wf = true) (a n : Int) (ha : 0 ≤ a) (ha2 : a ≤ 100000) (hn : 1 ≤ n) : ∃ r, laws_at.f l a n = some r ∧ 0 ≤ r ∧ r < n := by
  unfold laws_at.f
  by_cases h1 : n ≤ 1
  · exact ⟨0, by rw [if_pos h1], by omega, by omega⟩
  · rw [if_neg h1]
    have hn0 : ¬ n = 0 := by omega
    by_cases h2 : (l.length : Int) = 0
    · rw [if_pos h2, if_neg hn0]
      have e : wrap64 (a * 7) = a * 7 := wrap_id (by omega) (by omega)
      rw [e]
      have := tmod_range (a := a * 7) (b := n) (by omega) (by omega)
      exact ⟨_, rfl, this.1, this.2⟩
    · rw [if_neg h2, if_neg hn0]
      have hL : 0 < (l.length : Int) := by omega
      have e1 : wrap64 (a + 1) = a + 1 := wrap_id (by omega) (by omega)
      rw [e1]
      have t1 := tmod_range ha hL
      have t2 := tmod_range (a := a + 1) (by omega) hL
      rw [if_pos t1.1, if_pos t1.2, if_pos t2.1, if_pos t2.2]
      have r1 := rd_u8 hw (Int.tmod a (l.length : Int))
      have r2 := rd_u8 hw (Int.tmod (a + 1) (l.length : Int))
      have d := tdiv_range ha hL
      generalize rd l (Int.tmod a (l.length : Int)) = x at *
      generalize rd l (Int.tmod (a + 1) (l.length : Int)) = y at *
      generalize Int.tdiv a (l.length : Int) = z at *
      have e : wrap64 ((wrap64 ((wrap64 ((wrap64 x) * 31)) + (wrap64 y))) + (wrap64 z)) = x * 31 + y + z := by
        unfold wrap64; omega
      rw [e]
      have t3 := tmod_range (a := x * 31 + y + z) (b := n) (by omega) (by omega)
      exact ⟨_, rfl, t3.1, t3.2⟩

/-- What comes up to a tick: the blocking, and each cost as often as its period begins. -/
def dem (cs ps : List Int) (b t : Int) : Int := (List.zip cs ps).foldl (fun a x => a + x.1 * ((t + x.2 - 1) / x.2)) b

def Fit (cs ps : List Int) : Prop := cs.length = ps.length ∧ cs.length ≤ 5 ∧ (∀ c ∈ cs, 0 ≤ c ∧ c ≤ 5000) ∧ (∀ p ∈ ps, 1 ≤ p ∧ p ≤ 5000)

def demL (l : List (Int × Int)) (b t : Int) : Int := l.foldl (fun a x => a + x.1 * ((t + x.2 - 1) / x.2)) b

theorem term_bd {c p t : Int} (hc : 0 ≤ c ∧ c ≤ 5000) (hp : 1 ≤ p ∧ p ≤ 5000) (ht : 1 ≤ t ∧ t ≤ 5000) : 0 ≤ (t + p - 1) / p ∧ (t + p - 1) / p ≤ 5000 ∧ 0 ≤ c * ((t + p - 1) / p) ∧ c * ((t + p - 1) / p) ≤ 25000000 := by
  have h0 : 0 ≤ (t + p - 1) / p := Int.ediv_nonneg (by omega) (by omega)
  have h1 : (t + p - 1) / p ≤ 5000 := by
    have : (t + p - 1) / p < 5001 := by
      rw [Int.ediv_lt_iff_lt_mul (by omega)]
      have : 5001 * 1 ≤ 5001 * p := Int.mul_le_mul_of_nonneg_left hp.1 (by omega)
      have : 5000 * p = 5001 * p - p := by omega
      have h3 : 5000 * 1 ≤ 5000 * p := Int.mul_le_mul_of_nonneg_left hp.1 (by omega)
      omega
    omega
  refine ⟨h0, h1, Int.mul_nonneg hc.1 h0, ?_⟩
  have a := Int.mul_le_mul hc.2 h1 h0 (by omega)
  omega

theorem wrap_add {a q : Int} (h0 : 0 ≤ a) (h1 : a ≤ 200000000) (h2 : 0 ≤ q) (h3 : q ≤ 25000000) : wrap64 (a + wrap64 q) = a + q := by
  rw [wrap_id (x := q) (by omega) (by omega), wrap_id (by omega) (by omega)]

theorem wrap_tp {t p : Int} (ht : 1 ≤ t ∧ t ≤ 5000) (hp : 1 ≤ p ∧ p ≤ 5000) : wrap64 ((wrap64 (t + p)) - 1) = t + p - 1 := by
  rw [wrap_id (x := t + p) (by omega) (by omega), wrap_id (by omega) (by omega)]
theorem wrap_succ {i : Nat} (h : i ≤ 1048576) : wrap64 ((i : Int) + 1) = ((i + 1 : Nat) : Int) := by
  rw [wrap_id (by omega) (by omega)]; rfl

theorem ceil_tdiv {p t : Int} (hp : 1 ≤ p) (ht : 1 ≤ t) : Int.tdiv (t + p - 1) p = (t + p - 1) / p := Int.tdiv_eq_ediv_of_nonneg (by omega)

theorem demL_mono {l : List (Int × Int)} (h : ∀ x ∈ l, 0 ≤ x.1 ∧ 1 ≤ x.2) : ∀ {b b' t t' : Int}, b ≤ b' → t ≤ t' → demL l b t ≤ demL l b' t' := by
  induction l with
  | nil => intro b b' t t' hb _; exact hb
  | cons x l ih =>
    intro b b' t t' hb ht
    simp only [demL, List.foldl_cons]
    have hx := h x (by simp)
    refine ih (fun y hy => h y (by simp [hy])) ?_ ht
    have e : (t + x.2 - 1) / x.2 ≤ (t' + x.2 - 1) / x.2 := Int.ediv_le_ediv (by omega) (by omega)
    have := Int.mul_le_mul_of_nonneg_left e hx.1
    omega

theorem demL_ge {l : List (Int × Int)} (h : ∀ x ∈ l, 0 ≤ x.1 ∧ 1 ≤ x.2) {b t : Int} (ht : 0 ≤ t) : b ≤ demL l b t := by
  induction l generalizing b with
  | nil => exact Int.le_refl _
  | cons x l ih =>
    simp only [demL, List.foldl_cons]
    have hx := h x (by simp)
    have e : 0 ≤ (t + x.2 - 1) / x.2 := Int.ediv_nonneg (by omega) (by omega)
    have := Int.mul_nonneg hx.1 e
    have i := ih (fun y hy => h y (by simp [hy])) (b := b + x.1 * ((t + x.2 - 1) / x.2))
    unfold demL at i
    omega

theorem zip_fit {cs ps : List Int} (h : Fit cs ps) : ∀ x ∈ List.zip cs ps, (0 ≤ x.1 ∧ x.1 ≤ 5000) ∧ (1 ≤ x.2 ∧ x.2 ≤ 5000) := by
  intro x hx
  have := List.of_mem_zip (a := x.1) (b := x.2) hx
  exact ⟨h.2.2.1 _ this.1, h.2.2.2 _ this.2⟩

theorem rd_at {l : List Int} {i : Nat} (h : i < l.length) : rd l (i : Int) = l[i] := by
  simp [rd, List.getD_eq_getElem?_getD, h]

theorem wrap_term {c p t : Int} (hc : 0 ≤ c ∧ c ≤ 5000) (hp : 1 ≤ p ∧ p ≤ 5000) (ht : 1 ≤ t ∧ t ≤ 5000) : wrap64 ((t + p - 1) / p) = (t + p - 1) / p := by
  obtain ⟨b0, b1, _, _⟩ := term_bd hc hp ht
  generalize (t + p - 1) / p = q at *
  exact wrap_id (by omega) (by omega)
theorem wrap_acc {c p t a : Int} (hc : 0 ≤ c ∧ c ≤ 5000) (hp : 1 ≤ p ∧ p ≤ 5000) (ht : 1 ≤ t ∧ t ≤ 5000) (h0 : 0 ≤ a) (h1 : a ≤ 200000000) : wrap64 (a + wrap64 (c * ((t + p - 1) / p))) = a + c * ((t + p - 1) / p) := by
  obtain ⟨_, _, b2, b3⟩ := term_bd hc hp ht
  exact wrap_add h0 h1 b2 b3
theorem next_bd {c p t a : Int} {i : Nat} (hc : 0 ≤ c ∧ c ≤ 5000) (hp : 1 ≤ p ∧ p ≤ 5000) (ht : 1 ≤ t ∧ t ≤ 5000) (h0 : 0 ≤ a) (h1 : a ≤ 5000 + 25000000 * i) : 0 ≤ a + c * ((t + p - 1) / p) ∧ a + c * ((t + p - 1) / p) ≤ 5000 + 25000000 * ((i + 1 : Nat) : Int) := by
  obtain ⟨_, _, b2, b3⟩ := term_bd hc hp ht
  generalize c * ((t + p - 1) / p) = q at *
  exact ⟨by omega, by omega⟩

/-- The reference's sum, from an index on. -/
theorem spec_dem_from {cs ps : List Int} (hf : Fit cs ps) (t : Int) (ht : 1 ≤ t ∧ t ≤ 5000) : ∀ (d k i : Nat) (a : Int), cs.length - i ≤ d → d < k → i ≤ cs.length → 0 ≤ a → a ≤ 5000 + 25000000 * i →
    spec_l09Demand.l0 k cs ps t a i = some (demL ((List.zip cs ps).drop i) a t) := by
  intro d
  induction d with
  | zero =>
    intro k i a hd hk hi h0 h1
    obtain ⟨k, rfl⟩ : ∃ m, k = m + 1 := ⟨k - 1, by omega⟩
    simp only [spec_l09Demand.l0]
    rw [if_neg (by omega), List.drop_of_length_le (by rw [List.length_zip, ← hf.1]; omega)]
    rfl
  | succ d ih =>
    intro k i a hd hk hi h0 h1
    obtain ⟨k, rfl⟩ : ∃ m, k = m + 1 := ⟨k - 1, by omega⟩
    simp only [spec_l09Demand.l0]
    by_cases h : i < cs.length
    · have h' : i < ps.length := by rw [← hf.1]; exact h
      have hl5 := hf.2.1
      have hc := hf.2.2.1 _ (List.getElem_mem h)
      have hp := hf.2.2.2 _ (List.getElem_mem h')
      have hz : i < (List.zip cs ps).length := by rw [List.length_zip, ← hf.1]; omega
      have ha : a ≤ 200000000 := by omega
      rw [rd_at h, rd_at h', List.drop_eq_getElem_cons hz]
      rw [if_pos (by omega), if_pos (by omega), if_pos (by omega), if_neg (by omega)]
      rw [wrap_tp ht hp, ceil_tdiv hp.1 ht.1, wrap_term hc hp ht, Int.mul_comm ((t + ps[i] - 1) / ps[i]) cs[i], wrap_succ (by omega), wrap_acc hc hp ht h0 ha]
      have nx := next_bd hc hp ht h0 h1
      rw [ih k (i + 1) _ (by omega) (by omega) (by omega) nx.1 nx.2]
      simp only [demL, List.foldl_cons, List.getElem_zip]
    · rw [if_neg (by omega), List.drop_of_length_le (by rw [List.length_zip, ← hf.1]; omega)]
      rfl

theorem spec_dem {cs ps : List Int} (hf : Fit cs ps) (b t : Int) (hb : 0 ≤ b ∧ b ≤ 5000) (ht : 1 ≤ t ∧ t ≤ 5000) (k : Nat) (hk : 10 ≤ k) : spec_l09Demand.f k cs ps b t = some (dem cs ps b t) := by
  unfold spec_l09Demand.f
  have hl := hf.2.1
  have := spec_dem_from hf t ht cs.length k 0 b (by omega) (by omega) (by omega) hb.1 (by omega)
  simpa [dem, demL] using this

/-- The least time within which all that came is done. -/
def IsBusy (cs ps : List Int) (b : Int) (r : Int × Bool) : Prop :=
  (r.2 = true ∧ 1 ≤ r.1 ∧ r.1 ≤ 5000 ∧ dem cs ps b r.1 ≤ r.1 ∧ ∀ t, 1 ≤ t → t < r.1 → t < dem cs ps b t) ∨
  (r.2 = false ∧ r.1 = 0 ∧ ∀ t, 1 ≤ t → t ≤ 5000 → t < dem cs ps b t)

theorem IsBusy.eq {cs ps : List Int} {b : Int} {r q : Int × Bool} (h : IsBusy cs ps b r) (g : IsBusy cs ps b q) : r = q := by
  obtain ⟨r1, r2⟩ := r
  obtain ⟨q1, q2⟩ := q
  rcases h with ⟨rfl, a1, a2, a3, a4⟩ | ⟨rfl, rfl, a4⟩ <;> rcases g with ⟨rfl, b1, b2, b3, b4⟩ | ⟨rfl, rfl, b4⟩ <;> simp only at *
  · have : ¬ r1 < q1 := fun hh => by have := b4 r1 a1 hh; omega
    have : ¬ q1 < r1 := fun hh => by have := a4 q1 b1 hh; omega
    have : r1 = q1 := by omega
    subst this; rfl
  · exact absurd (b4 r1 a1 a2) (by omega)
  · exact absurd (a4 q1 b1 b2) (by omega)

theorem dem_mono {cs ps : List Int} (hf : Fit cs ps) {b b' t t' : Int} (hb : b ≤ b') (ht : t ≤ t') : dem cs ps b t ≤ dem cs ps b' t' :=
  demL_mono (l := List.zip cs ps) (fun x hx => by have := zip_fit hf x hx; omega) hb ht

theorem dem_pos {cs ps : List Int} (hf : Fit cs ps) {b t : Int} (hb : 0 ≤ b) (ht : 0 ≤ t) : 0 ≤ dem cs ps b t := by
  have := demL_ge (l := List.zip cs ps) (b := b) (t := t) (fun x hx => by have := zip_fit hf x hx; omega) ht
  unfold demL at this
  unfold dem
  omega

theorem spec_busy_from {cs ps : List Int} (hf : Fit cs ps) (b : Int) (hb : 0 ≤ b ∧ b ≤ 5000) : ∀ (d k : Nat) (x : Int), 1 ≤ x → 5001 - x ≤ d → d + 12 ≤ k → (∀ t, 1 ≤ t → t < x → t < dem cs ps b t) →
    ∃ r, spec_l09Busy.l0 k cs ps b x = some r ∧ IsBusy cs ps b r := by
  intro d
  induction d with
  | zero =>
    intro k x hx hd hk hA
    obtain ⟨k, rfl⟩ : ∃ m, k = m + 1 := ⟨k - 1, by omega⟩
    refine ⟨(0, false), ?_, Or.inr ⟨rfl, rfl, fun t h1 h2 => hA t h1 (by omega)⟩⟩
    simp only [spec_l09Busy.l0]
    rw [if_neg (by omega)]
  | succ d ih =>
    intro k x hx hd hk hA
    obtain ⟨k, rfl⟩ : ∃ m, k = m + 1 := ⟨k - 1, by omega⟩
    simp only [spec_l09Busy.l0]
    by_cases h5 : x ≤ 5000
    · rw [if_pos h5, spec_dem hf b x hb ⟨hx, h5⟩ k (by omega)]
      simp only [Option.bind_some]
      by_cases hle : dem cs ps b x ≤ x
      · rw [if_pos hle]
        exact ⟨_, rfl, Or.inl ⟨rfl, hx, h5, hle, hA⟩⟩
      · rw [if_neg hle]
        refine ih k _ (by omega) (by omega) (by omega) (fun t h1 h2 => ?_)
        by_cases ht : t < x
        · exact hA t h1 ht
        · have := dem_mono hf (b := b) (b' := b) (t := x) (t' := t) (by omega) (by omega)
          omega
    · rw [if_neg h5]
      exact ⟨_, rfl, Or.inr ⟨rfl, rfl, fun t h1 h2 => hA t h1 (by omega)⟩⟩

theorem spec_busy {cs ps : List Int} (hf : Fit cs ps) (b : Int) (hb : 0 ≤ b ∧ b ≤ 5000) (k : Nat) (hk : 5020 ≤ k) : ∃ r, spec_l09Busy.f k cs ps b = some r ∧ IsBusy cs ps b r := by
  unfold spec_l09Busy.f
  rw [spec_dem hf b 1 hb (by omega) k (by omega)]
  simp only [Option.bind_some]
  unfold mx
  by_cases h : dem cs ps b 1 < 1
  · rw [if_pos h]
    exact spec_busy_from hf b hb 5000 k 1 (by omega) (by omega) (by omega) (fun t h1 h2 => by omega)
  · rw [if_neg h]
    refine spec_busy_from hf b hb 5000 k _ (by omega) (by omega) (by omega) (fun t h1 h2 => ?_)
    have := dem_mono hf (b := b) (b' := b) (t := 1) (t' := t) (by omega) (by omega)
    omega

theorem ceil_eq {p t : Int} (hp : 1 ≤ p ∧ p ≤ 5000) (ht : 1 ≤ t ∧ t ≤ 5000) : impl_ceil.f t p = some ((t + p - 1) / p) := by
  unfold impl_ceil.f
  rw [if_neg (by omega)]
  rw [wrap_tp ht hp, ceil_tdiv hp.1 ht.1, wrap_term (c := 0) (by omega) hp ht]

/-- The program's sum, from an index on: it ends in the test that stands behind it. -/
theorem impl_dem_from {cs ps : List Int} (hf : Fit cs ps) (b t : Int) (ht : 1 ≤ t ∧ t ≤ 5000) : ∀ (d k i : Nat) (a : Int), cs.length - i = d → i ≤ cs.length → 0 ≤ a → a ≤ 5000 + 25000000 * i →
    impl_busy.l1 (k + d + 1) cs ps b t a cs cs.length i = (if demL ((List.zip cs ps).drop i) a t ≤ t then some (t, true) else impl_busy.l0 k cs ps b (demL ((List.zip cs ps).drop i) a t)) := by
  intro d
  induction d with
  | zero =>
    intro k i a hd hi h0 h1
    simp only [impl_busy.l1]
    rw [if_neg (show ¬ ((i : Int) < cs.length) by omega), List.drop_of_length_le (by rw [List.length_zip, ← hf.1]; omega)]
    rfl
  | succ d ih =>
    intro k i a hd hi h0 h1
    have h : i < cs.length := by omega
    have h' : i < ps.length := by rw [← hf.1]; exact h
    have hl5 := hf.2.1
    have hc := hf.2.2.1 _ (List.getElem_mem h)
    have hp := hf.2.2.2 _ (List.getElem_mem h')
    have hz : i < (List.zip cs ps).length := by rw [List.length_zip, ← hf.1]; omega
    have ek : k + (d + 1) + 1 = (k + d + 1) + 1 := by omega
    have ha : a ≤ 200000000 := by omega
    obtain ⟨K, hK⟩ : ∃ K, K = k + d + 1 := ⟨_, rfl⟩
    rw [ek, ← hK]
    simp only [impl_busy.l1]
    rw [rd_at h, rd_at h', List.drop_eq_getElem_cons hz]
    rw [if_pos (show (i : Int) < cs.length by omega), if_pos (show (0 : Int) ≤ i by omega), if_pos (show (i : Int) < cs.length by omega), if_pos (show (i : Int) < ps.length by omega), ceil_eq hp ht]
    simp only [Option.bind_some]
    have nx := next_bd hc hp ht h0 h1
    rw [wrap_acc hc hp ht h0 ha, wrap_succ (by omega), hK, ih k (i + 1) _ (by omega) (by omega) nx.1 nx.2]
    simp only [demL, List.foldl_cons, List.getElem_zip]
    rfl

theorem impl_busy_from {cs ps : List Int} (hf : Fit cs ps) (b : Int) (hb : 0 ≤ b ∧ b ≤ 5000) : ∀ (d k : Nat) (x : Int), 1 ≤ x → 5001 - x ≤ d → d * 10 + 1 ≤ k → (∀ t, 1 ≤ t → t < x → t < dem cs ps b t) →
    ∃ r, impl_busy.l0 k cs ps b x = some r ∧ IsBusy cs ps b r := by
  intro d
  induction d with
  | zero =>
    intro k x hx hd hk hA
    obtain ⟨k, rfl⟩ : ∃ m, k = m + 1 := ⟨k - 1, by omega⟩
    refine ⟨(0, false), ?_, Or.inr ⟨rfl, rfl, fun t h1 h2 => hA t h1 (by omega)⟩⟩
    simp only [impl_busy.l0]
    rw [if_neg (by omega)]
  | succ d ih =>
    intro k x hx hd hk hA
    have hl5 := hf.2.1
    obtain ⟨m, rfl⟩ : ∃ m, k = (m + cs.length + 1) + 1 := ⟨k - cs.length - 2, by omega⟩
    simp only [impl_busy.l0]
    by_cases h5 : x ≤ 5000
    · rw [if_pos h5]
      have e := impl_dem_from hf b x ⟨hx, h5⟩ cs.length m 0 b (by omega) (by omega) hb.1 (by omega)
      have e0 : demL ((List.zip cs ps).drop 0) b x = dem cs ps b x := rfl
      rw [e0] at e
      have e' : impl_busy.l1 (m + cs.length + 1) cs ps b x b cs cs.length 0 = (if dem cs ps b x ≤ x then some (x, true) else impl_busy.l0 m cs ps b (dem cs ps b x)) := e
      rw [e']
      by_cases hle : dem cs ps b x ≤ x
      · rw [if_pos hle]
        exact ⟨_, rfl, Or.inl ⟨rfl, hx, h5, hle, hA⟩⟩
      · rw [if_neg hle]
        refine ih m _ (by omega) (by omega) (by omega) (fun t h1 h2 => ?_)
        by_cases ht : t < x
        · exact hA t h1 ht
        · have := dem_mono hf (b := b) (b' := b) (t := x) (t' := t) (by omega) (by omega)
          omega
    · rw [if_neg h5]
      exact ⟨_, rfl, Or.inr ⟨rfl, rfl, fun t h1 h2 => hA t h1 (by omega)⟩⟩

theorem impl_busy_ {cs ps : List Int} (hf : Fit cs ps) (b : Int) (hb : 0 ≤ b ∧ b ≤ 5000) (k : Nat) (hk : 50011 ≤ k) : ∃ r, impl_busy.f k cs ps b = some r ∧ IsBusy cs ps b r := by
  unfold impl_busy.f
  exact impl_busy_from hf b hb 5000 k 1 (by omega) (by omega) (by omega) (fun t h1 h2 => by omega)

/-- The loops over the arguments: whether they are in range; behind it the busy period. -/
def InRange (cs ps : List Int) (i : Nat) : Prop := ∀ j, i ≤ j → j < cs.length → (0 ≤ rd cs j ∧ rd cs j ≤ 5000) ∧ (1 ≤ rd ps j ∧ rd ps j ≤ 5000)

def answer (r : Int × Bool) : Int × Int := if r.2 = true then (r.1, 0) else (0, 18)

theorem fit_of {cs ps : List Int} (hl : cs.length = ps.length) (h5 : cs.length ≤ 5) (h : InRange cs ps 0) : Fit cs ps := by
  refine ⟨hl, h5, fun c hc => ?_, fun p hp => ?_⟩
  · obtain ⟨i, hi, rfl⟩ := List.getElem_of_mem hc
    have := (h i (by omega) hi).1
    rw [rd_at hi] at this
    exact this
  · obtain ⟨i, hi, rfl⟩ := List.getElem_of_mem hp
    have := (h i (by omega) (by omega)).2
    rw [rd_at hi] at this
    exact this

def BPGood (cs ps : List Int) (b : Int) : Prop := InRange cs ps 0 ∧ 0 ≤ b ∧ b ≤ 5000
def BPR (cs ps : List Int) (b : Int) (r : Int × Int) : Prop := (BPGood cs ps b ∧ ∃ q, IsBusy cs ps b q ∧ r = answer q) ∨ (¬ BPGood cs ps b ∧ r = (0, 4))
theorem BPR.eq {cs ps : List Int} {b : Int} {r r' : Int × Int} (h : BPR cs ps b r) (h' : BPR cs ps b r') : r = r' := by
  rcases h with ⟨g, q, hq, rfl⟩ | ⟨g, rfl⟩ <;> rcases h' with ⟨g', q', hq', rfl⟩ | ⟨g', rfl⟩
  · rw [hq.eq hq']
  · exact absurd g g'
  · exact absurd g' g
  · rfl

theorem prefix_step {cs ps : List Int} {i : Nat} (hp : ∀ j : Nat, j < i → (0 ≤ rd cs j ∧ rd cs j ≤ 5000) ∧ (1 ≤ rd ps j ∧ rd ps j ≤ 5000)) (h : (0 ≤ rd cs i ∧ rd cs i ≤ 5000) ∧ (1 ≤ rd ps i ∧ rd ps i ≤ 5000)) :
    ∀ j : Nat, j < i + 1 → (0 ≤ rd cs j ∧ rd cs j ≤ 5000) ∧ (1 ≤ rd ps j ∧ rd ps j ≤ 5000) := by
  intro j hj
  by_cases e : j = i
  · subst e; exact h
  · exact hp j (by omega)

theorem spec_bp_from {cs ps : List Int} (hl : cs.length = ps.length) (h5 : cs.length ≤ 5) (b : Int) : ∀ (d k i : Nat), cs.length - i ≤ d → 50020 + d ≤ k → i ≤ cs.length →
    (∀ j : Nat, j < i → (0 ≤ rd cs j ∧ rd cs j ≤ 5000) ∧ (1 ≤ rd ps j ∧ rd ps j ≤ 5000)) → ∃ r, spec_BusyPeriod.l0 k cs ps b i = some r ∧ BPR cs ps b r := by
  intro d
  induction d with
  | zero =>
    intro k i hd hk hi hp
    obtain ⟨k, rfl⟩ : ∃ m, k = m + 1 := ⟨k - 1, by omega⟩
    have hr : InRange cs ps 0 := fun j _ hj => hp j (by omega)
    have hf := fit_of hl h5 hr
    simp only [spec_BusyPeriod.l0]
    rw [if_neg (by omega), l01In_eq]
    simp only [Option.bind_some]
    by_cases hb : 0 ≤ b ∧ b ≤ 5000
    · obtain ⟨q, e, hq⟩ := spec_busy hf b hb k (by omega)
      rw [if_pos (by simpa using hb), e]
      simp only [Option.bind_some]
      refine ⟨answer q, ?_, Or.inl ⟨⟨hr, hb⟩, q, hq, rfl⟩⟩
      unfold answer
      split <;> rfl
    · rw [if_neg (by simpa using hb)]
      exact ⟨_, rfl, Or.inr ⟨fun g => hb g.2, rfl⟩⟩
  | succ d ih =>
    intro k i hd hk hi hp
    by_cases h : i < cs.length
    · obtain ⟨k, rfl⟩ : ∃ m, k = m + 1 := ⟨k - 1, by omega⟩
      simp only [spec_BusyPeriod.l0]
      rw [if_pos (by omega), if_pos (by omega), l01In_eq, l01In_eq]
      simp only [Option.bind_some]
      by_cases h1 : 0 ≤ rd cs i ∧ rd cs i ≤ 5000
      · by_cases h2 : 1 ≤ rd ps i ∧ rd ps i ≤ 5000
        · have hw : wrap64 ((i : Int) + 1) = ((i + 1 : Nat) : Int) := by unfold wrap64; omega
          rw [if_pos (by simpa using h1), if_pos (by omega), if_pos (by simpa using h2), hw]
          exact ih k (i + 1) (by omega) (by omega) (by omega) (prefix_step hp ⟨h1, h2⟩)
        · rw [if_pos (by simpa using h1), if_pos (by omega), if_neg (by simpa using h2)]
          exact ⟨_, rfl, Or.inr ⟨fun g => h2 (g.1 i (by omega) h).2, rfl⟩⟩
      · rw [if_neg (by simpa using h1)]
        exact ⟨_, rfl, Or.inr ⟨fun g => h1 (g.1 i (by omega) h).1, rfl⟩⟩
    · exact ih k i (by omega) (by omega) hi hp

theorem impl_bp_from {cs ps : List Int} (hl : cs.length = ps.length) (h5 : cs.length ≤ 5) (b : Int) : ∀ (d k i : Nat), cs.length - i ≤ d → 50020 + d ≤ k → i ≤ cs.length →
    (∀ j : Nat, j < i → (0 ≤ rd cs j ∧ rd cs j ≤ 5000) ∧ (1 ≤ rd ps j ∧ rd ps j ≤ 5000)) → ∃ r, impl_BusyPeriod.l0 k cs ps b cs cs.length i = some r ∧ BPR cs ps b r := by
  intro d
  induction d with
  | zero =>
    intro k i hd hk hi hp
    obtain ⟨k, rfl⟩ : ∃ m, k = m + 1 := ⟨k - 1, by omega⟩
    have hr : InRange cs ps 0 := fun j _ hj => hp j (by omega)
    have hf := fit_of hl h5 hr
    simp only [impl_BusyPeriod.l0]
    rw [if_neg (by omega), within_eq]
    simp only [Option.bind_some]
    by_cases hb : 0 ≤ b ∧ b ≤ 5000
    · obtain ⟨q, e, hq⟩ := impl_busy_ hf b hb k (by omega)
      rw [if_pos (by simpa using hb), e]
      simp only [Option.bind_some]
      refine ⟨answer q, ?_, Or.inl ⟨⟨hr, hb⟩, q, hq, rfl⟩⟩
      unfold answer
      split <;> rfl
    · rw [if_neg (by simpa using hb)]
      exact ⟨_, rfl, Or.inr ⟨fun g => hb g.2, rfl⟩⟩
  | succ d ih =>
    intro k i hd hk hi hp
    by_cases h : i < cs.length
    · obtain ⟨k, rfl⟩ : ∃ m, k = m + 1 := ⟨k - 1, by omega⟩
      simp only [impl_BusyPeriod.l0]
      have c1 : (i : Int) < (cs.length : Int) := by omega
      have c2 : (i : Int) < (ps.length : Int) := by omega
      simp only [c1, c2, if_true, within_eq, Option.bind_some]
      rw [if_pos (by omega)]
      by_cases h1 : 0 ≤ rd cs i ∧ rd cs i ≤ 5000
      · by_cases h2 : 1 ≤ rd ps i ∧ rd ps i ≤ 5000
        · have hw : wrap64 ((i : Int) + 1) = ((i + 1 : Nat) : Int) := by unfold wrap64; omega
          rw [if_pos (by simpa using h1), if_pos (by simpa using h2), hw]
          exact ih k (i + 1) (by omega) (by omega) (by omega) (prefix_step hp ⟨h1, h2⟩)
        · rw [if_pos (by simpa using h1), if_neg (by simpa using h2)]
          exact ⟨_, rfl, Or.inr ⟨fun g => h2 (g.1 i (by omega) h).2, rfl⟩⟩
      · rw [if_neg (by simpa using h1)]
        exact ⟨_, rfl, Or.inr ⟨fun g => h1 (g.1 i (by omega) h).1, rfl⟩⟩
    · exact ih k i (by omega) (by omega) hi hp

theorem many_eq (l : List Int) : impl_many_int.f l = some (if (l.length : Int) > 4096 then 2 else 0) := by
  unfold impl_many_int.f
  rw [when_eq]
  simp

/-- What both of them answer. -/
def BPA (cs ps : List Int) (b : Int) (r : Int × Int) : Prop :=
  if cs.length > 4096 ∨ ps.length > 4096 then r = (0, 2) else if cs.length ≠ ps.length then r = (0, 8) else if cs.length > 5 then r = (0, 6) else BPR cs ps b r
theorem BPA.eq {cs ps : List Int} {b : Int} {r r' : Int × Int} (h : BPA cs ps b r) (h' : BPA cs ps b r') : r = r' := by
  unfold BPA at h h'
  split at h
  · rename_i c; rw [if_pos c] at h'; rw [h, h']
  · rename_i c; rw [if_neg c] at h'
    split at h
    · rename_i c; rw [if_pos c] at h'; rw [h, h']
    · rename_i c; rw [if_neg c] at h'
      split at h
      · rename_i c; rw [if_pos c] at h'; rw [h, h']
      · rename_i c; rw [if_neg c] at h'; exact h.eq h'

theorem BPA.long_ {cs ps : List Int} {b : Int} (h : cs.length > 4096 ∨ ps.length > 4096) : BPA cs ps b (0, 2) := by
  unfold BPA; rw [if_pos h]
theorem BPA.size_ {cs ps : List Int} {b : Int} (h : ¬ (cs.length > 4096 ∨ ps.length > 4096)) (h2 : cs.length ≠ ps.length) : BPA cs ps b (0, 8) := by
  unfold BPA; rw [if_neg h, if_pos h2]
theorem BPA.many_ {cs ps : List Int} {b : Int} (h : ¬ (cs.length > 4096 ∨ ps.length > 4096)) (h2 : cs.length = ps.length) (h3 : cs.length > 5) : BPA cs ps b (0, 6) := by
  unfold BPA; rw [if_neg h, if_neg (show ¬ (cs.length ≠ ps.length) by omega), if_pos h3]
theorem BPA.of_ {cs ps : List Int} {b : Int} {r : Int × Int} (h : ¬ (cs.length > 4096 ∨ ps.length > 4096)) (h2 : cs.length = ps.length) (h3 : ¬ cs.length > 5) (hr : BPR cs ps b r) : BPA cs ps b r := by
  unfold BPA; rw [if_neg h, if_neg (show ¬ (cs.length ≠ ps.length) by omega), if_neg h3]; exact hr

theorem spec_bp (cs ps : List Int) (b : Int) (k : Nat) (hk : 50030 ≤ k) : ∃ r, spec_BusyPeriod.f k cs ps b = some r ∧ BPA cs ps b r := by
  obtain ⟨k, rfl⟩ : ∃ m, k = m + 1 := ⟨k - 1, by omega⟩
  unfold spec_BusyPeriod.f
  by_cases h1 : cs.length > 4096
  · refine ⟨(0, 2), ?_, BPA.long_ (Or.inl h1)⟩
    rw [if_pos (by omega)]
    simp [spec_BusyPeriod.j0]
  · rw [if_neg (by omega)]
    simp only [spec_BusyPeriod.j0]
    by_cases h2 : ps.length > 4096
    · refine ⟨(0, 2), ?_, BPA.long_ (Or.inr h2)⟩
      rw [if_pos (by simp; omega)]
    · have hn : ¬ (cs.length > 4096 ∨ ps.length > 4096) := by omega
      rw [if_neg (by simp; omega)]
      by_cases h3 : cs.length = ps.length
      · rw [if_pos (by omega)]
        by_cases h4 : cs.length > 5
        · exact ⟨(0, 6), by rw [if_pos (by omega)], BPA.many_ hn h3 h4⟩
        · rw [if_neg (by omega)]
          obtain ⟨r, e, hr⟩ := spec_bp_from h3 (by omega) b cs.length k 0 (by omega) (by omega) (by omega) (fun j hj => by omega)
          exact ⟨r, e, BPA.of_ hn h3 h4 hr⟩
      · exact ⟨(0, 8), by rw [if_neg (by omega)], BPA.size_ hn h3⟩

theorem impl_bp (cs ps : List Int) (b : Int) (k : Nat) (hk : 50030 ≤ k) : ∃ r, impl_BusyPeriod.f k cs ps b = some r ∧ BPA cs ps b r := by
  unfold impl_BusyPeriod.f
  simp only [many_eq, when_eq, Option.bind_some]
  rw [first_eq _ (by simp) _ (by simp; omega)]
  simp only [Option.bind_some, fnz]
  by_cases h1 : cs.length > 4096
  · refine ⟨(0, 2), ?_, BPA.long_ (Or.inl h1)⟩
    have c : (cs.length : Int) > 4096 := by omega
    simp [c]
  · have c1 : ¬ (cs.length : Int) > 4096 := by omega
    by_cases h2 : ps.length > 4096
    · refine ⟨(0, 2), ?_, BPA.long_ (Or.inr h2)⟩
      have c : (ps.length : Int) > 4096 := by omega
      simp [c, c1]
    · have c2 : ¬ (ps.length : Int) > 4096 := by omega
      have hn : ¬ (cs.length > 4096 ∨ ps.length > 4096) := by omega
      by_cases h3 : cs.length = ps.length
      · have c3 : ((cs.length : Int) != (ps.length : Int)) = false := by simp; omega
        by_cases h4 : cs.length > 5
        · have c4 : (cs.length : Int) > 5 := by omega
          refine ⟨(0, 6), ?_, BPA.many_ hn h3 h4⟩
          simp only [c1, c2, c3, c4, if_false, decide_true, if_true, Bool.false_eq_true]
          simp
        · have c4 : ¬ (cs.length : Int) > 5 := by omega
          simp only [c1, c2, c3, c4, if_false, decide_false, if_true, Bool.false_eq_true]
          obtain ⟨r, e, hr⟩ := impl_bp_from h3 (by omega) b cs.length k 0 (by omega) (by omega) (by omega) (fun j hj => by omega)
          exact ⟨r, e, BPA.of_ hn h3 h4 hr⟩
      · have c3 : ((cs.length : Int) != (ps.length : Int)) = true := by simp; omega
        refine ⟨(0, 8), ?_, BPA.size_ hn h3⟩
        simp only [c1, c2, c3, if_false, if_true]
        simp

theorem dem_costs : ∀ (cs cs' ps : List Int) (b b' t : Int), cs.length = cs'.length → (∀ i : Nat, cs.getD i 0 ≤ cs'.getD i 0) → (∀ p ∈ ps, 1 ≤ p) → 0 ≤ t → b ≤ b' → dem cs ps b t ≤ dem cs' ps b' t := by
  intro cs
  induction cs with
  | nil =>
    intro cs' ps b b' t hl _ _ _ hb
    have : cs' = [] := List.eq_nil_of_length_eq_zero hl.symm
    subst this
    simpa [dem] using hb
  | cons c cs ih =>
    intro cs' ps b b' t hl hle hp ht hb
    cases cs' with
    | nil => simp at hl
    | cons c' cs' =>
      cases ps with
      | nil => simpa [dem] using hb
      | cons p ps =>
        have h0 := hle 0
        simp only [List.getD_cons_zero] at h0
        have hp1 := hp p (by simp)
        have hq : 0 ≤ (t + p - 1) / p := Int.ediv_nonneg (by omega) (by omega)
        have := Int.mul_le_mul_of_nonneg_right h0 hq
        have i := ih cs' ps (b + c * ((t + p - 1) / p)) (b' + c' * ((t + p - 1) / p)) t (by simpa using hl) (fun i => by have := hle (i + 1); simpa using this) (fun q hq => hp q (by simp [hq])) ht (by omega)
        simpa [dem] using i

def Small (cs ps : List Int) : Prop := cs.length = ps.length ∧ cs.length ≤ 4 ∧ (∀ c ∈ cs, 0 ≤ c ∧ c ≤ 31) ∧ (∀ p ∈ ps, 20 ≤ p ∧ p ≤ 119)
theorem Small.fit {cs ps : List Int} (h : Small cs ps) : Fit cs ps :=
  ⟨h.1, by have := h.2.1; omega, fun c hc => by have := h.2.2.1 c hc; omega, fun p hp => by have := h.2.2.2 p hp; omega⟩
theorem Small.range {cs ps : List Int} (h : Small cs ps) : InRange cs ps 0 := by
  intro j _ hj
  have hj' : j < ps.length := by rw [← h.1]; exact hj
  rw [rd_at hj, rd_at hj']
  have a := h.2.2.1 _ (List.getElem_mem hj)
  have b := h.2.2.2 _ (List.getElem_mem hj')
  omega
theorem Small.bp {cs ps : List Int} (h : Small cs ps) {b : Int} (hb : 0 ≤ b ∧ b ≤ 5000) {r : Int × Int} (hr : BPA cs ps b r) : ∃ q, IsBusy cs ps b q ∧ r = answer q := by
  unfold BPA at hr
  have h4 := h.2.1
  have h1 := h.1
  rw [if_neg (by omega), if_neg (by omega), if_neg (by omega)] at hr
  rcases hr with ⟨_, g⟩ | ⟨g, _⟩
  · exact g
  · exact absurd ⟨h.range, hb⟩ g

/-- The sum of one tick, in the law's own loop; behind it the test. -/
theorem law_dem_from {cs ps : List Int} (hf : Fit cs ps) (x1 : List Int) (b n t : Int) (ht : 1 ≤ t ∧ t ≤ 5000) : ∀ (d k i : Nat) (a : Int), cs.length - i = d → i ≤ cs.length → 0 ≤ a → a ≤ 5000 + 25000000 * i →
    laws_FnBusy.l2 (k + d + 1) x1 cs ps b n t a i = (if ((decide (demL ((List.zip cs ps).drop i) a t ≤ t)) != (t == n)) = true then some false else laws_FnBusy.l1 k x1 cs ps b n (wrap64 (t + 1))) := by
  intro d
  induction d with
  | zero =>
    intro k i a hd hi h0 h1
    simp only [laws_FnBusy.l2]
    rw [if_neg (show ¬ ((i : Int) < cs.length) by omega), List.drop_of_length_le (by rw [List.length_zip, ← hf.1]; omega)]
    rfl
  | succ d ih =>
    intro k i a hd hi h0 h1
    have h : i < cs.length := by omega
    have h' : i < ps.length := by rw [← hf.1]; exact h
    have hl5 := hf.2.1
    have hc := hf.2.2.1 _ (List.getElem_mem h)
    have hp := hf.2.2.2 _ (List.getElem_mem h')
    have hz : i < (List.zip cs ps).length := by rw [List.length_zip, ← hf.1]; omega
    have ek : k + (d + 1) + 1 = (k + d + 1) + 1 := by omega
    have ha : a ≤ 200000000 := by omega
    obtain ⟨K, hK⟩ : ∃ K, K = k + d + 1 := ⟨_, rfl⟩
    rw [ek, ← hK]
    simp only [laws_FnBusy.l2]
    rw [rd_at h, rd_at h', List.drop_eq_getElem_cons hz]
    rw [if_pos (show (i : Int) < cs.length by omega), if_pos (show (0 : Int) ≤ i by omega), if_pos (show (i : Int) < ps.length by omega), if_neg (show ¬ (ps[i] = 0) by omega)]
    have nx := next_bd hc hp ht h0 h1
    rw [wrap_tp ht hp, ceil_tdiv hp.1 ht.1, wrap_term hc hp ht, Int.mul_comm ((t + ps[i] - 1) / ps[i]) cs[i], wrap_acc hc hp ht h0 ha, wrap_succ (by omega), hK, ih k (i + 1) _ (by omega) (by omega) nx.1 nx.2]
    simp only [demL, List.foldl_cons, List.getElem_zip]
    rfl

/-- What stands behind the loop over the ticks. -/
theorem law_end {cs ps : List Int} (hs : Small cs ps) (hc29 : ∀ c ∈ cs, 0 ≤ c ∧ c ≤ 29) (hne : 0 < cs.length) {x1 : List Int} (hw : ∀ x ∈ x1, (Lit.int .u8 x).wf = true) (b n : Int) (hb : 0 ≤ b ∧ b ≤ 25) (hn1 : ∀ t, 1 ≤ t → t < n → t < dem cs ps b t) (k : Nat) (hk : 50040 ≤ k) (t : Int) (ht : ¬ t ≤ n) :
    laws_FnBusy.l1 k x1 cs ps b n t = some true := by
  obtain ⟨k, rfl⟩ : ∃ m, k = m + 1 := ⟨k - 1, by omega⟩
  simp only [laws_FnBusy.l1]
  rw [if_neg ht]
  have h4 := hs.2.1
  obtain ⟨j, hj, j0, j1⟩ := at_some hw 5 (cs.length : Int) (by omega) (by omega) (by omega)
  rw [hj]
  simp only [Option.bind_some]
  rw [if_pos j0, if_pos j1]
  obtain ⟨i, rfl⟩ := Int.eq_ofNat_of_zero_le j0
  have hi : i < cs.length := by omega
  rw [rd_at hi]
  have hci := hc29 _ (List.getElem_mem hi)
  have e1 : wrap64 (cs[i] + 1) = cs[i] + 1 := wrap_id (by omega) (by omega)
  have e2 : wrap64 (b + 1) = b + 1 := wrap_id (by omega) (by omega)
  rw [e1, e2, Int.toNat_natCast]
  have hs' : Small (cs.set i (cs[i] + 1)) ps := by
    refine ⟨by simp [hs.1], by simp; omega, fun c hc => ?_, hs.2.2.2⟩
    rcases List.mem_or_eq_of_mem_set hc with h | h
    · exact hs.2.2.1 c h
    · omega
  obtain ⟨r, hr, ha⟩ := spec_bp (cs.set i (cs[i] + 1)) ps (b + 1) k (by omega)
  obtain ⟨q, hq, hb'⟩ := impl_bp (cs.set i (cs[i] + 1)) ps (b + 1) k (by omega)
  have e := ha.eq hb'
  subst e
  simp only [hr, hq, Option.bind_some, if_true]
  obtain ⟨z, hz, rfl⟩ := hs'.bp (by omega) ha
  unfold answer
  rcases hz with ⟨z2, z1, z5, zd, zt⟩ | ⟨z2, z1, zt⟩
  · simp only [z2, if_true]
    have hlt : ¬ z.1 < n := by
      intro hh
      have h1 := hn1 z.1 z1 hh
      have h2 := dem_costs cs (cs.set i (cs[i] + 1)) ps b (b + 1) z.1 (by simp) (fun u => by
        rw [List.getD_eq_getElem?_getD, List.getD_eq_getElem?_getD, List.getElem?_set]
        by_cases hu : i = u
        · subst hu
          rw [if_pos rfl, if_pos hi, List.getElem?_eq_getElem hi]
          simp only [Option.getD_some]
          omega
        · rw [if_neg hu]
          exact Int.le_refl _) (fun p hp => by have := hs.2.2.2 p hp; omega) (by omega) (by omega)
      omega
    simp
    omega
  · simp [z2]

theorem law_ticks {cs ps : List Int} (hs : Small cs ps) (hc29 : ∀ c ∈ cs, 0 ≤ c ∧ c ≤ 29) (hne : 0 < cs.length) {x1 : List Int} (hw : ∀ x ∈ x1, (Lit.int .u8 x).wf = true) (b n : Int) (hb : 0 ≤ b ∧ b ≤ 25) (hn : 1 ≤ n ∧ n ≤ 5000) (hd : dem cs ps b n ≤ n) (hn1 : ∀ t, 1 ≤ t → t < n → t < dem cs ps b t) :
    ∀ (d k : Nat) (t : Int), 1 ≤ t → n + 1 - t ≤ d → d * 10 + 50050 ≤ k → laws_FnBusy.l1 k x1 cs ps b n t = some true := by
  intro d
  induction d with
  | zero => intro k t h1 h2 hk; exact law_end hs hc29 hne hw b n hb hn1 k (by omega) t (by omega)
  | succ d ih =>
    intro k t h1 h2 hk
    by_cases ht : t ≤ n
    · have h4 := hs.2.1
      obtain ⟨m, rfl⟩ : ∃ m, k = (m + cs.length + 1) + 1 := ⟨k - cs.length - 2, by omega⟩
      simp only [laws_FnBusy.l1]
      rw [if_pos ht]
      have e := law_dem_from hs.fit x1 b n t ⟨h1, by omega⟩ cs.length m 0 b (by omega) (by omega) hb.1 (by omega)
      have e' : laws_FnBusy.l2 (m + cs.length + 1) x1 cs ps b n t b 0 = (if ((decide (dem cs ps b t ≤ t)) != (t == n)) = true then some false else laws_FnBusy.l1 m x1 cs ps b n (wrap64 (t + 1))) := e
      rw [e']
      have ew : wrap64 (t + 1) = t + 1 := wrap_id (by omega) (by omega)
      rw [ew]
      by_cases htn : t = n
      · subst htn
        rw [if_neg (by simp [hd])]
        exact ih m _ (by omega) (by omega) (by omega)
      · have := hn1 t h1 (by omega)
        have hx : ¬ dem cs ps b t ≤ t := by omega
        rw [if_neg (by simp [hx, htn])]
        exact ih m _ (by omega) (by omega) (by omega)
    · exact law_end hs hc29 hne hw b n hb hn1 k (by omega) t ht

theorem law_from {x0 x1 : List Int} (hw0 : ∀ x ∈ x0, (Lit.int .u8 x).wf = true) (hw1 : ∀ x ∈ x1, (Lit.int .u8 x).wf = true) (q : Int) (hq : laws_at.f x1 0 4 = some q) (q0 : 0 ≤ q) (q1 : q < 4) :
    ∀ (d k i : Nat) (cs ps : List Int), (1 + q) - i = d → 200000 + d ≤ k → cs.length = i → ps.length = i → (∀ c ∈ cs, 0 ≤ c ∧ c ≤ 29) → (∀ p ∈ ps, 20 ≤ p ∧ p ≤ 119) → laws_FnBusy.l0 k x0 x1 cs ps i = some true := by
  intro d
  induction d with
  | zero =>
    intro k i cs ps hd hk hc hp hcr hpr
    obtain ⟨k, rfl⟩ : ∃ m, k = m + 1 := ⟨k - 1, by omega⟩
    simp only [laws_FnBusy.l0, hq, Option.bind_some]
    have ew : wrap64 (1 + q) = 1 + q := wrap_id (by omega) (by omega)
    rw [ew, if_neg (by omega)]
    obtain ⟨b, hb, b0, b1⟩ := at_some hw0 9 25 (by omega) (by omega) (by omega)
    rw [hb]
    simp only [Option.bind_some]
    have hs : Small cs ps := ⟨by omega, by omega, fun c hc => by have := hcr c hc; omega, hpr⟩
    obtain ⟨r, hr, ha⟩ := spec_bp cs ps b k (by omega)
    obtain ⟨r', hr', ha'⟩ := impl_bp cs ps b k (by omega)
    have e := ha.eq ha'
    subst e
    simp only [hr, hr', Option.bind_some, if_true, bne_self_eq_false]
    obtain ⟨k, rfl⟩ : ∃ m, k = m + 1 := ⟨k - 1, by omega⟩
    simp only [laws_FnBusy.j2]
    rw [if_neg (by decide)]
    obtain ⟨z, hz, rfl⟩ := hs.bp (by omega) ha
    unfold answer
    rcases hz with ⟨z2, z1, z5, zd, zt⟩ | ⟨z2, z1, zt⟩
    · simp only [z2, if_true]
      exact law_ticks hs hcr (by omega) hw1 b z.1 (by omega) ⟨z1, z5⟩ zd zt 5000 k 1 (by omega) (by omega) (by omega)
    · simp [z2]
  | succ d ih =>
    intro k i cs ps hd hk hc hp hcr hpr
    obtain ⟨k, rfl⟩ : ∃ m, k = m + 1 := ⟨k - 1, by omega⟩
    simp only [laws_FnBusy.l0, hq, Option.bind_some]
    have ew : wrap64 (1 + q) = 1 + q := wrap_id (by omega) (by omega)
    rw [ew, if_pos (by omega)]
    obtain ⟨c, hc1, c0, c1⟩ := at_some hw0 (i : Int) 30 (by omega) (by omega) (by omega)
    have ei : wrap64 ((i : Int) + 1) = ((i + 1 : Nat) : Int) := by unfold wrap64; omega
    rw [ei]
    obtain ⟨p, hp1, p0, p1⟩ := at_some hw1 ((i + 1 : Nat) : Int) 100 (by omega) (by omega) (by omega)
    rw [hc1, hp1]
    simp only [Option.bind_some]
    rw [if_pos (by omega), if_pos (by omega)]
    have ep : wrap64 (20 + p) = 20 + p := wrap_id (by omega) (by omega)
    rw [ep]
    refine ih k (i + 1) _ _ (by omega) (by omega) (by simp [hc]) (by simp [hp]) (fun x hx => ?_) (fun x hx => ?_)
    · rcases List.mem_append.1 hx with h | h
      · exact hcr x h
      · have : x = c := by simpa using h
        omega
    · rcases List.mem_append.1 hx with h | h
      · exact hpr x h
      · have : x = 20 + p := by simpa using h
        omega

theorem FnBusy : laws_FnBusy.Pure := by
  intro x0 x1 _ _ hw0 _ _ hw1
  refine ⟨200100 + 1, ?_⟩
  unfold laws_FnBusy.f
  by_cases h0 : (x0.length : Int) > 1048576
  · rw [if_pos h0]
    simp [laws_FnBusy.j0]
  · rw [if_neg h0]
    simp only [laws_FnBusy.j0]
    by_cases h1 : (x1.length : Int) > 1048576
    · rw [if_pos (by simpa using h1)]
    · rw [if_neg (by simpa using h1)]
      obtain ⟨q, hq, q0, q1⟩ := at_some hw1 0 4 (by omega) (by omega) (by omega)
      obtain ⟨d, hd⟩ := Int.eq_ofNat_of_zero_le (show 0 ≤ 1 + q by omega)
      exact law_from hw0 hw1 q hq q0 q1 d 200100 0 [] [] (by omega) (by omega) rfl rfl (by simp) (by simp)


end Go.Proofs.Ytohnenadkilaiaa.Pure

/- Proved: the pure statement behind the law FnChecked of the given program: for every input that the row lets in, the program's answer and the reference's agree and the law returns true. Conditions: none beyond the row's own. -/
import Derived.Test.YtohnenadkilaiaaMFnCheckedx3
set_option linter.unusedVariables false
set_option linter.unusedSimpArgs false
namespace Go.Proofs.Ytohnenadkilaiaa.Pure
open Go.RowKit Go.Proofs.Ytohnenadkilaiaa.MFnChecked Go.Proofs.YtohnenadkilaiaaW.PrintWords Go.Proofs.YtohnenadkilaiaaW.PrintLast

theorem within_eq (a lo hi : Int) : impl_within.f a lo hi = some (decide (lo ≤ a ∧ a ≤ hi)) := by
  unfold impl_within.f
  by_cases h : a ≥ lo
  · have h' : lo ≤ a := h
    simp [h, h']
  · have h' : ¬ lo ≤ a := h
    simp [h, h']

theorem isValue_eq (a : Int) : impl_isValue.f a = some (decide (-2147483648 ≤ a ∧ a ≤ 2147483647)) := by
  unfold impl_isValue.f; rw [within_eq]; rfl

theorem wrap_id {x : Int} (h1 : -9223372036854775808 ≤ x) (h2 : x ≤ 9223372036854775807) : wrap64 x = x := by unfold wrap64; omega

theorem u8_bounds {x : Int} (h : (Lit.int .u8 x).wf = true) : 0 ≤ x ∧ x ≤ 255 := by
  simp only [Lit.wf, IntKind.min, IntKind.max, IntKind.signed, IntKind.bits, Bool.and_eq_true, decide_eq_true_eq] at h
  simp at h
  omega
theorem rd_u8 {l : List Int} (hw : ∀ x ∈ l, (Lit.int .u8 x).wf = true) (i : Int) : 0 ≤ rd l i ∧ rd l i ≤ 255 := by
  unfold rd
  rw [List.getD_eq_getElem?_getD]
  by_cases h : i.toNat < l.length
  · rw [List.getElem?_eq_getElem h]
    exact u8_bounds (hw _ (List.getElem_mem h))
  · rw [List.getElem?_eq_none (by omega)]
    exact ⟨by decide, by decide⟩
theorem tmod_range {a b : Int} (ha : 0 ≤ a) (hb : 0 < b) : 0 ≤ Int.tmod a b ∧ Int.tmod a b < b := ⟨Int.tmod_nonneg _ ha, Int.tmod_lt_of_pos _ hb⟩
theorem tdiv_range {a b : Int} (ha : 0 ≤ a) (hb : 0 < b) : 0 ≤ Int.tdiv a b ∧ Int.tdiv a b ≤ a := by
  rw [Int.tdiv_eq_ediv_of_nonneg ha]
  exact ⟨Int.ediv_nonneg ha (by omega), Int.ediv_le_self _ ha⟩


theorem byte_some {l : List Int} (hw : ∀ x ∈ l, (Lit.int .u8 x).wf = true) (a s : Int) (ha : 0 ≤ a ∧ a ≤ 1000000) (hs : 0 ≤ s ∧ s ≤ 2147483647) :
    ∃ v s', spec_l00Src_byte.f l a s = some (v, a + 1, s') ∧ (0 ≤ v ∧ v ≤ 255) ∧ 0 ≤ s' ∧ s' ≤ 2147483647 := by
  have w1 : wrap64 (a + 1) = a + 1 := wrap_id (by omega) (by omega)
  have w2 : wrap64 ((a + 1) - 1) = a := by unfold wrap64; omega
  unfold spec_l00Src_byte.f
  rw [w1, w2]
  by_cases h : a + 1 ≤ (l.length : Int)
  · rw [if_pos h, if_pos ha.1, if_pos (by omega)]
    have hr := rd_u8 hw a
    generalize rd l a = x at *
    have w3 : wrap64 x = x := wrap_id (by omega) (by omega)
    have w4 : wrap64 ((wrap64 ((wrap64 (s * 31)) + x)) + 7) = s * 31 + x + 7 := by unfold wrap64; omega
    rw [w3, w4]
    have t := tmod_range (a := s * 31 + x + 7) (b := 2147483648) (by omega) (by omega)
    exact ⟨_, _, rfl, hr, t.1, by omega⟩
  · rw [if_neg h]
    by_cases h2 : a + 1 > 3000
    · rw [if_pos h2]
      exact ⟨_, _, rfl, ⟨by omega, by omega⟩, hs⟩
    · rw [if_neg h2]
      have w3 : wrap64 ((wrap64 (s * 1103515245)) + 12345) = s * 1103515245 + 12345 := by unfold wrap64; omega
      rw [w3]
      have t := tmod_range (a := s * 1103515245 + 12345) (b := 2147483648) (by omega) (by omega)
      generalize Int.tmod (s * 1103515245 + 12345) 2147483648 = y at *
      have t2 := tdiv_range (a := y) (b := 65536) t.1 (by omega)
      generalize Int.tdiv y 65536 = z at *
      have w4 : wrap64 z = z := wrap_id (by omega) (by omega)
      rw [w4]
      have t3 := tmod_range (a := z) (b := 256) t2.1 (by omega)
      exact ⟨_, _, rfl, ⟨t3.1, by omega⟩, t.1, by omega⟩
theorem next_some {l : List Int} (hw : ∀ x ∈ l, (Lit.int .u8 x).wf = true) (n a s : Int) (hn : 1 ≤ n) (ha : 0 ≤ a ∧ a ≤ 999990) (hs : 0 ≤ s ∧ s ≤ 2147483647) :
    ∃ v a' s', spec_l00Src_next.f l a s n = some (v, a', s') ∧ (0 ≤ v ∧ v < n) ∧ (a ≤ a' ∧ a' ≤ a + 3) ∧ 0 ≤ s' ∧ s' ≤ 2147483647 := by
  unfold spec_l00Src_next.f
  by_cases h1 : n ≤ 1
  · rw [if_pos h1]
    exact ⟨_, _, _, rfl, ⟨by omega, by omega⟩, ⟨by omega, by omega⟩, hs⟩
  · rw [if_neg h1]
    have hn0 : ¬ n = 0 := by omega
    obtain ⟨v1, s1, e1, b1, c1⟩ := byte_some hw a s (by omega) hs
    by_cases h2 : n ≤ 256
    · rw [if_pos h2, e1]
      simp only [Option.bind_some]
      rw [if_neg hn0]
      have t := tmod_range (a := v1) (b := n) b1.1 (by omega)
      exact ⟨_, _, _, rfl, t, ⟨by omega, by omega⟩, c1⟩
    · rw [if_neg h2, e1]
      obtain ⟨v2, s2, e2, b2, c2⟩ := byte_some hw (a + 1) s1 (by omega) c1
      obtain ⟨v3, s3, e3, b3, c3⟩ := byte_some hw (a + 1 + 1) s2 (by omega) c2
      simp only [Option.bind_some, e2, e3]
      rw [if_neg hn0]
      have w : wrap64 ((wrap64 ((wrap64 (v1 * 65536)) + (wrap64 (v2 * 256)))) + v3) = v1 * 65536 + v2 * 256 + v3 := by unfold wrap64; omega
      rw [w]
      have t := tmod_range (a := v1 * 65536 + v2 * 256 + v3) (b := n) (by omega) (by omega)
      exact ⟨_, _, _, rfl, t, ⟨by omega, by omega⟩, c3⟩

theorem value_some {l : List Int} (hw : ∀ x ∈ l, (Lit.int .u8 x).wf = true) (a s : Int) (ha : 0 ≤ a ∧ a ≤ 999900) (hs : 0 ≤ s ∧ s ≤ 2147483647) :
    ∃ v a' s', spec_l00Src_value.f l a s = some (v, a', s') ∧ (-2147483648 ≤ v ∧ v ≤ 2147483647) ∧ (a ≤ a' ∧ a' ≤ a + 7) ∧ 0 ≤ s' ∧ s' ≤ 2147483647 := by
  unfold spec_l00Src_value.f
  obtain ⟨v1, a1, s1, e1, b1, c1, d1⟩ := next_some hw 8 a s (by omega) (by omega) hs
  rw [e1]
  simp only [Option.bind_some]
  by_cases h0 : v1 = 0
  · rw [if_pos h0]
    obtain ⟨v2, a2, s2, e2, b2, c2, d2⟩ := next_some hw 3 a1 s1 (by omega) (by omega) d1
    simp only [e2, Option.bind_some]
    exact ⟨_, _, _, rfl, by unfold wrap64; omega, by omega, d2⟩
  · rw [if_neg h0]
    by_cases h1 : v1 = 1
    · rw [if_pos h1]
      obtain ⟨v2, a2, s2, e2, b2, c2, d2⟩ := next_some hw 3 a1 s1 (by omega) (by omega) d1
      simp only [e2, Option.bind_some]
      exact ⟨_, _, _, rfl, by unfold wrap64; omega, by omega, d2⟩
    · rw [if_neg h1]
      by_cases h2 : v1 = 2
      · rw [if_pos h2]
        obtain ⟨w1, s2, e2, b2, d2⟩ := byte_some hw a1 s1 (by omega) d1
        obtain ⟨w2, s3, e3, b3, d3⟩ := byte_some hw (a1 + 1) s2 (by omega) d2
        obtain ⟨w3, s4, e4, b4, d4⟩ := byte_some hw (a1 + 1 + 1) s3 (by omega) d3
        obtain ⟨w4, s5, e5, b5, d5⟩ := byte_some hw (a1 + 1 + 1 + 1) s4 (by omega) d4
        simp only [e2, e3, e4, e5, Option.bind_some]
        refine ⟨_, _, _, rfl, ?_, by omega, d5⟩
        have w : wrap64 ((wrap64 ((wrap64 ((wrap64 ((wrap64 ((wrap64 (w1 * 16777216)) + (wrap64 (w2 * 65536)))) + (wrap64 (w3 * 256)))) + w4)) - 2147483647)) - 1) = w1 * 16777216 + w2 * 65536 + w3 * 256 + w4 - 2147483648 := by unfold wrap64; omega
        rw [w]
        omega
      · rw [if_neg h2]
        by_cases h3 : v1 = 3
        · rw [if_pos h3]
          obtain ⟨v2, a2, s2, e2, b2, c2, d2⟩ := next_some hw 300 a1 s1 (by omega) (by omega) d1
          simp only [e2, Option.bind_some]
          exact ⟨_, _, _, rfl, by unfold wrap64; omega, by omega, d2⟩
        · rw [if_neg h3]
          obtain ⟨v2, a2, s2, e2, b2, c2, d2⟩ := next_some hw 200 a1 s1 (by omega) (by omega) d1
          simp only [e2, Option.bind_some]
          exact ⟨_, _, _, rfl, by omega, by omega, d2⟩
theorem drawn_some {l : List Int} (hw : ∀ x ∈ l, (Lit.int .u8 x).wf = true) (hl : l.length ≤ 1048576) : ∃ v, spec_ValueDrawn.f l = some v ∧ (-2147483648 ≤ v ∧ v ≤ 2147483647) := by
  unfold spec_ValueDrawn.f spec_l00Source.f
  obtain ⟨v1, a1, s1, e1, b1, c1, d1⟩ := value_some hw 0 ((l.length : Int) % 1000) (by omega) (by omega)
  simp only [Option.bind_some, e1]
  exact ⟨v1, rfl, b1⟩

def inV (x : Int) : Prop := -2147483648 ≤ x ∧ x ≤ 2147483647
theorem mul_bound {a b : Int} (ha : inV a) (hb : inV b) : -4611686018427387904 ≤ a * b ∧ a * b ≤ 4611686018427387904 := by
  have h1 : (a.natAbs : Int) ≤ 2147483648 := by unfold inV at ha; omega
  have h2 : (b.natAbs : Int) ≤ 2147483648 := by unfold inV at hb; omega
  have h3 : (a * b).natAbs = a.natAbs * b.natAbs := Int.natAbs_mul a b
  have h4 : a.natAbs * b.natAbs ≤ 2147483648 * 2147483648 := Nat.mul_le_mul (by omega) (by omega)
  have h5 : (a * b).natAbs ≤ 4611686018427387904 := by rw [h3]; exact h4
  generalize a * b = c at h5
  omega
theorem div_bound {a b : Int} (ha : inV a) : -2147483648 ≤ Int.tdiv a b ∧ Int.tdiv a b ≤ 2147483648 := by
  have h1 : a.natAbs ≤ 2147483648 := by unfold inV at ha; omega
  have h2 : (Int.tdiv a b).natAbs ≤ a.natAbs := by rw [Int.natAbs_tdiv]; exact Nat.div_le_self _ _
  generalize Int.tdiv a b = c at h2
  omega
theorem checked_ok (op a b y : Int) (ho : 0 ≤ op ∧ op ≤ 3) (ha : inV a) (hb : inV b) (hy : (op = 0 → y = a + b) ∧ (op = 1 → y = a - b) ∧ (op = 2 → y = a * b) ∧ (op = 3 → b ≠ 0 → y = Int.tdiv a b)) :
    impl_Checked.f op a b = some (if (-2147483648 ≤ y ∧ y ≤ 2147483647) ∧ (op < 3 ∨ b ≠ 0) then (y, false, 0) else (0, true, 0)) := by
  have wa : wrap64 (a + b) = a + b := by unfold inV at ha hb; exact wrap_id (by omega) (by omega)
  have ws : wrap64 (a - b) = a - b := by unfold inV at ha hb; exact wrap_id (by omega) (by omega)
  have mb := mul_bound ha hb
  have wm : wrap64 (a * b) = a * b := wrap_id (by omega) (by omega)
  have db := div_bound (b := b) ha
  have wd : wrap64 (Int.tdiv a b) = Int.tdiv a b := wrap_id (by omega) (by omega)
  unfold inV at ha hb
  unfold impl_Checked.f impl_checked.f
  simp only [within_eq, isValue_eq, Option.bind_some, decide_eq_true ho, decide_eq_true ha, decide_eq_true hb, if_true, wa, ws, wm, wd]
  obtain ⟨y0, y1, y2, y3⟩ := hy
  clear wa ws wm wd mb db
  have h : op = 0 ∨ op = 1 ∨ op = 2 ∨ op = 3 := by omega
  rcases h with h | h | h | h
  · subst h
    rw [← y0 rfl]
    by_cases f : -2147483648 ≤ y ∧ y ≤ 2147483647
    · simp [f]
    · simp [f]
  · subst h
    rw [← y1 rfl]
    by_cases f : -2147483648 ≤ y ∧ y ≤ 2147483647
    · simp [f]
    · simp [f]
  · subst h
    rw [← y2 rfl]
    by_cases f : -2147483648 ≤ y ∧ y ≤ 2147483647
    · simp [f]
    · simp [f]
  · subst h
    by_cases hb0 : b = 0
    · simp [hb0]
    · rw [← y3 rfl hb0]
      by_cases f : -2147483648 ≤ y ∧ y ≤ 2147483647
      · simp [f, hb0]
      · simp [f, hb0]
theorem checked_four (a b : Int) : impl_Checked.f 4 a b = some (0, false, 4) := by
  unfold impl_Checked.f
  simp only [within_eq, Option.bind_some]
  rfl
/-- One of the law's rounds. -/
theorem chk_round (k : Nat) (a b : Int) (ys : List Int) (op : Int) (ho : 0 ≤ op ∧ op ≤ 3) (hl : ys.length = 4) (ha : inV a) (hb : inV b)
    (hy : (op = 0 → rd ys op = a + b) ∧ (op = 1 → rd ys op = a - b) ∧ (op = 2 → rd ys op = a * b) ∧ (op = 3 → b ≠ 0 → rd ys op = Int.tdiv a b)) :
    laws_FnChecked.l0 (k + 1) a b ys op = laws_FnChecked.l0 k a b ys (op + 1) := by
  have w : wrap64 (op + 1) = op + 1 := wrap_id (by omega) (by omega)
  conv => lhs; unfold laws_FnChecked.l0
  rw [checked_ok op a b (rd ys op) ho ha hb hy, if_pos (by omega), w, hl]
  simp only [Option.bind_some]
  rw [if_pos (by omega), if_pos (by omega)]
  generalize rd ys op = y at *
  clear hy
  by_cases f1 : y ≥ -2147483648
  · rw [if_pos f1]
    by_cases f2 : y ≤ 2147483647
    · rw [if_pos f2]
      by_cases o3 : op < 3
      · rw [if_pos o3, if_pos (show (-2147483648 ≤ y ∧ y ≤ 2147483647) ∧ (op < 3 ∨ b ≠ 0) from ⟨⟨f1, f2⟩, .inl o3⟩)]
        simp
      · rw [if_neg o3]
        by_cases b0 : b = 0
        · have e : ¬ ((-2147483648 ≤ y ∧ y ≤ 2147483647) ∧ (op < 3 ∨ b ≠ 0)) := fun h => h.2.elim o3 (fun h => h b0)
          rw [if_neg e]
          simp [b0]
        · rw [if_pos (show (-2147483648 ≤ y ∧ y ≤ 2147483647) ∧ (op < 3 ∨ b ≠ 0) from ⟨⟨f1, f2⟩, .inr b0⟩)]
          have e : (b != 0) = true := by simpa using b0
          simp [e, b0]
    · rw [if_neg f2, if_neg (show ¬ ((-2147483648 ≤ y ∧ y ≤ 2147483647) ∧ (op < 3 ∨ b ≠ 0)) from fun h => f2 h.1.2)]
      simp
  · rw [if_neg f1, if_neg (show ¬ ((-2147483648 ≤ y ∧ y ≤ 2147483647) ∧ (op < 3 ∨ b ≠ 0)) from fun h => f1 h.1.1)]
    simp
theorem chk_end (k : Nat) (a b : Int) (ys : List Int) (ha : inV a) (hb : inV b) : laws_FnChecked.l0 (k + 1) a b ys 4 = some true := by
  conv => lhs; unfold laws_FnChecked.l0
  rw [if_neg (by omega), checked_four, checked_ok 3 a b (Int.tdiv a b) (by omega) ha hb ⟨fun h => by omega, fun h => by omega, fun h => by omega, fun _ _ => rfl⟩]
  simp only [Option.bind_some, if_true]
  have hm : a - Int.tdiv a b * b = Int.tmod a b := by have := Int.tmod_add_mul_tdiv a b; rw [Int.mul_comm] at this; omega
  by_cases f : (-2147483648 ≤ Int.tdiv a b ∧ Int.tdiv a b ≤ 2147483647) ∧ ((3 : Int) < 3 ∨ b ≠ 0)
  · rw [if_pos f]
    have mb := mul_bound (a := Int.tdiv a b) (b := b) f.1 hb
    have w1 : wrap64 (Int.tdiv a b * b) = Int.tdiv a b * b := wrap_id (by omega) (by omega)
    have w2 : wrap64 (a - Int.tdiv a b * b) = Int.tmod a b := by
      rw [hm]
      have hr : -2147483648 ≤ Int.tmod a b ∧ Int.tmod a b ≤ 2147483648 := by
        have h2 : (Int.tmod a b).natAbs ≤ a.natAbs := by rw [Int.natAbs_tmod]; exact Nat.mod_le _ _
        unfold inV at ha
        generalize Int.tmod a b = c at h2
        omega
      exact wrap_id (by omega) (by omega)
    simp only [Bool.false_eq_true, if_false, w1, w2]
    by_cases z : Int.tmod a b = 0
    · rw [if_pos z]
    · rw [if_neg z]
      congr 1
      by_cases n : a < 0
      · have : Int.tmod a b ≤ 0 := by
          have := Int.tmod_nonneg (a := -a) b (by omega)
          rw [Int.neg_tmod] at this
          omega
        have g : Int.tmod a b < 0 := by omega
        simp [n, g]
      · have : 0 ≤ Int.tmod a b := Int.tmod_nonneg b (by omega)
        have g : ¬ Int.tmod a b < 0 := by omega
        simp [n, g]
  · rw [if_neg f]
    simp
theorem chk_all (a b x : Int) (ha : inV a) (hb : inV b) (hx : b ≠ 0 → x = Int.tdiv a b) : laws_FnChecked.l0 5 a b [a + b, a - b, a * b, x] 0 = some true := by
  have g0 : rd [a + b, a - b, a * b, x] 0 = a + b := rfl
  have g1 : rd [a + b, a - b, a * b, x] 1 = a - b := rfl
  have g2 : rd [a + b, a - b, a * b, x] 2 = a * b := rfl
  have g3 : rd [a + b, a - b, a * b, x] 3 = x := rfl
  have r0 : laws_FnChecked.l0 5 a b [a + b, a - b, a * b, x] 0 = laws_FnChecked.l0 4 a b [a + b, a - b, a * b, x] 1 := chk_round 4 a b _ 0 (by omega) rfl ha hb ⟨fun _ => g0, fun h => by omega, fun h => by omega, fun h => by omega⟩
  have r1 : laws_FnChecked.l0 4 a b [a + b, a - b, a * b, x] 1 = laws_FnChecked.l0 3 a b [a + b, a - b, a * b, x] 2 := chk_round 3 a b _ 1 (by omega) rfl ha hb ⟨fun h => by omega, fun _ => g1, fun h => by omega, fun h => by omega⟩
  have r2 : laws_FnChecked.l0 3 a b [a + b, a - b, a * b, x] 2 = laws_FnChecked.l0 2 a b [a + b, a - b, a * b, x] 3 := chk_round 2 a b _ 2 (by omega) rfl ha hb ⟨fun h => by omega, fun h => by omega, fun _ => g2, fun h => by omega⟩
  have r3 : laws_FnChecked.l0 2 a b [a + b, a - b, a * b, x] 3 = laws_FnChecked.l0 1 a b [a + b, a - b, a * b, x] 4 := chk_round 1 a b _ 3 (by omega) rfl ha hb ⟨fun h => by omega, fun h => by omega, fun h => by omega, fun _ h => g3.trans (hx h)⟩
  rw [r0, r1, r2, r3]
  exact chk_end 0 a b _ ha hb
theorem FnChecked : laws_FnChecked.Pure := by
  intro x0 x1 _ _ h0 _ _ h1
  refine ⟨7, ?_⟩
  unfold laws_FnChecked.f
  by_cases l0 : (x0.length : Int) > 1048576
  · rw [if_pos l0]; rfl
  · rw [if_neg l0]
    by_cases l1 : (x1.length : Int) > 1048576
    · rw [decide_eq_true l1]; rfl
    · rw [decide_eq_false l1]
      obtain ⟨a, ea, ha⟩ := drawn_some h0 (by omega)
      obtain ⟨b, eb, hb⟩ := drawn_some h1 (by omega)
      have wa : wrap64 (a + b) = a + b := wrap_id (by omega) (by omega)
      have ws : wrap64 (a - b) = a - b := wrap_id (by omega) (by omega)
      have mb := mul_bound ha hb
      have wm : wrap64 (a * b) = a * b := wrap_id (by omega) (by omega)
      have db := div_bound (b := b) ha
      have wd : wrap64 (Int.tdiv a b) = Int.tdiv a b := wrap_id (by omega) (by omega)
      simp only [laws_FnChecked.j0, laws_FnChecked.j1, ea, eb, Option.bind_some, Bool.false_eq_true, if_false, wa, ws, wm, wd]
      by_cases b0 : b = 0
      · rw [if_pos b0]
        exact chk_all a b 0 ha hb (fun h => absurd b0 h)
      · rw [if_neg b0, if_pos (by simp)]
        exact chk_all a b (Int.tdiv a b) ha hb (fun _ => rfl)


end Go.Proofs.Ytohnenadkilaiaa.Pure

-- By a program of this session.
import Derived.Test.YtkegjmkdnfpfdaaMFnExactCostsOfx0
namespace Go.Proofs.Ytkegjmkdnfpfdaa.MFnExactCostsOf
open Go.RowKit Go.Proofs.YtkegjmkdnfpfdaaW.PrintWords Go.Proofs.YtkegjmkdnfpfdaaW.PrintLast Go.Proofs.YtkegjmkdnfpfdaaW.PrintMore
attribute [local go_sem] max2_int min2_int max_two min_two max_three min_three max_four min_four
set_option linter.unusedVariables false
set_option linter.unusedSimpArgs false
set_option maxHeartbeats 8000000
set_option maxRecDepth 100000

/-! ### spec_l02Cost: function 219 -/
def spec_l02Cost.j0 : Nat → Int → Bool → Option (Int)
 | 0, _, _ => none
 | k + 1, x3, x4 => if x4 = true then (some 2) else (if x3 = 12 then (some 4) else (if x3 = 19 then (some 3) else (some 1)))
def spec_l02Cost.f (k : Nat) (a0 : Int) : Option (Int) := if a0 = 7 then (spec_l02Cost.j0 k a0 (a0 == 7)) else (if a0 = 8 then (spec_l02Cost.j0 k a0 (a0 == 8)) else (if a0 = 11 then (spec_l02Cost.j0 k a0 (a0 == 11)) else (if a0 = 18 then (spec_l02Cost.j0 k a0 (a0 == 18)) else (spec_l02Cost.j0 k a0 (a0 == 26)))))
theorem spec_l02Cost.mono_l : ∀ k, (∀ y0 y1, LeO (spec_l02Cost.j0 k y0 y1) (spec_l02Cost.j0 (k + 1) y0 y1))
 | 0 => fun _ _ r h => by simp [spec_l02Cost.j0] at h
 | k + 1 => by
  have ih0 := spec_l02Cost.mono_l k
  ·intro y0 y1
   unfold spec_l02Cost.j0
   repeat' first
   | (with_reducible exact ih0 _ _)
   | (with_reducible exact LeO.refl _)
   | (with_reducible exact LeO.none _)
   | (with_reducible refine LeO.ite ?_ ?_)
   | (with_reducible refine LeO.bind ?_ (fun _ => ?_))
theorem spec_l02Cost.mono : ∀ a0 k, LeO (spec_l02Cost.f k a0) (spec_l02Cost.f (k + 1) a0) := by
 intro a0 k
 have ih0 := spec_l02Cost.mono_l k
 unfold spec_l02Cost.f
 repeat' first
  | (with_reducible exact ih0 _ _)
  | (with_reducible exact LeO.refl _)
  | (with_reducible exact LeO.none _)
  | (with_reducible refine LeO.ite ?_ ?_)
  | (with_reducible refine LeO.bind ?_ (fun _ => ?_))
theorem spec_l02Cost.calls (k : Nat) (a0 : Int) (r : Int) (w : World) (h : spec_l02Cost.f k a0 = some r) :
 Calls Try.prog 219 #[.int .i64 a0] w fun e w' => e = .returned (.int .i64 r) ∧ Drawn0 w w' := by
 have H : (if a0 = 7 then (spec_l02Cost.j0 k a0 (a0 == 7)) else (if a0 = 8 then (spec_l02Cost.j0 k a0 (a0 == 8)) else (if a0 = 11 then (spec_l02Cost.j0 k a0 (a0 == 11)) else (if a0 = 18 then (spec_l02Cost.j0 k a0 (a0 == 18)) else (spec_l02Cost.j0 k a0 (a0 == 26)))))) = some r := h
 clear h
 have HC2 := zQ H
 clear H
 go_enter Try.func219, Try.ntmps219
 go_upto_if 4 with (fail)
 go_cut [4] (fun v4 wc => ∃ (kq : Nat) (x4_1 : Bool), v4 = .bool x4_1 ∧ Aside0 (spec_l02Cost.j0 kq a0 x4_1 = some r) ∧ Aside0 (kq ≤ k) ∧ Drawn0 w wc)
 case first =>
  have H := HC2.out
  clear HC2
  by_cases c3 : a0 = 7
  ·rw [if_pos c3] at H
   have c3b0 : (a0 == 7) = true := beq_iff_eq.mpr c3
   have c3b1 : (a0 != 7) = false := bne_eq_false_iff_eq.mpr c3
   clear c3
   (first | rw [c3b0] | (simp only [i64_w, i32_w]; rw [c3b0]) | skip)
   have H' := zQ H
   clear H
   go_wp2
   (first | go_meet | (refine Met.intro ?_; go_step; (repeat apply Exists.intro); refine ⟨?rel, ?eqm_⟩; (case eqm_ => (simp only [c3b1, c3b0]; rfl))))
   case rel => exact ⟨_, ((a0 == 7)), (by first | rfl | (simp; done) | (simp [*]; done)), H', ⟨by first | omega | exact Nat.le_refl _⟩, zD⟩
  ·rw [if_neg c3] at H
   have c3b0 : (a0 == 7) = false := beq_eq_false_iff_ne.mpr c3
   have c3b1 : (a0 != 7) = true := bne_iff_ne.mpr c3
   (first | rw [c3b0] | (simp only [i64_w, i32_w]; rw [c3b0]) | skip)
   by_cases c4 : a0 = 8
   ·rw [if_pos c4] at H
    have c4b0 : (a0 == 8) = true := beq_iff_eq.mpr c4
    have c4b1 : (a0 != 8) = false := bne_eq_false_iff_eq.mpr c4
    clear c4
    have H' := zQ H
    clear H
    go_wp2
    (first | go_meet | (refine Met.intro ?_; go_step; (repeat apply Exists.intro); refine ⟨?rel, ?eqm_⟩; (case eqm_ => (simp only [c4b1, c4b0, c3b1, c3b0]; rfl))))
    case rel => exact ⟨_, ((a0 == 8)), (by first | rfl | (simp; done) | (simp [*]; done)), H', ⟨by first | omega | exact Nat.le_refl _⟩, zD⟩
   ·rw [if_neg c4] at H
    have c4b0 : (a0 == 8) = false := beq_eq_false_iff_ne.mpr c4
    have c4b1 : (a0 != 8) = true := bne_iff_ne.mpr c4
    by_cases c5 : a0 = 11
    ·rw [if_pos c5] at H
     have c5b0 : (a0 == 11) = true := beq_iff_eq.mpr c5
     have c5b1 : (a0 != 11) = false := bne_eq_false_iff_eq.mpr c5
     clear c5
     have H' := zQ H
     clear H
     go_wp2
     (first | go_meet | (refine Met.intro ?_; go_step; (repeat apply Exists.intro); refine ⟨?rel, ?eqm_⟩; (case eqm_ => (simp only [c5b1, c5b0, c4b1, c4b0, c3b1, c3b0]; rfl))))
     case rel => exact ⟨_, ((a0 == 11)), (by first | rfl | (simp; done) | (simp [*]; done)), H', ⟨by first | omega | exact Nat.le_refl _⟩, zD⟩
    ·rw [if_neg c5] at H
     have c5b0 : (a0 == 11) = false := beq_eq_false_iff_ne.mpr c5
     have c5b1 : (a0 != 11) = true := bne_iff_ne.mpr c5
     by_cases c6 : a0 = 18
     ·rw [if_pos c6] at H
      have c6b0 : (a0 == 18) = true := beq_iff_eq.mpr c6
      have c6b1 : (a0 != 18) = false := bne_eq_false_iff_eq.mpr c6
      clear c6
      have H' := zQ H
      clear H
      go_wp2
      (first | go_meet | (refine Met.intro ?_; go_step; (repeat apply Exists.intro); refine ⟨?rel, ?eqm_⟩; (case eqm_ => (simp only [c6b1, c6b0, c5b1, c5b0, c4b1, c4b0, c3b1, c3b0]; rfl))))
      case rel => exact ⟨_, ((a0 == 18)), (by first | rfl | (simp; done) | (simp [*]; done)), H', ⟨by first | omega | exact Nat.le_refl _⟩, zD⟩
     ·rw [if_neg c6] at H
      have c6b0 : (a0 == 18) = false := beq_eq_false_iff_ne.mpr c6
      have c6b1 : (a0 != 18) = true := bne_iff_ne.mpr c6
      have H' := zQ H
      clear H
      go_wp2
      (first | go_meet | (refine Met.intro ?_; go_step; (repeat apply Exists.intro); refine ⟨?rel, ?eqm_⟩; (case eqm_ => (simp only [c6b1, c6b0, c5b1, c5b0, c4b1, c4b0, c3b1, c3b0]; rfl))))
      case rel => exact ⟨_, ((a0 == 26)), (by first | rfl | (simp; done) | (simp [*]; done)), H', ⟨by first | omega | exact Nat.le_refl _⟩, zD⟩
 case rest =>
  clear HC2
  try clear c2
  try clear p2
  try clear c3
  try clear c3b0
  try clear c3b1
  try clear c4
  try clear c4b0
  try clear c4b1
  try clear c5
  try clear c5b0
  try clear c5b1
  try clear c6
  try clear c6b0
  try clear c6b1
  obtain ⟨kq, x4_1, rfl, HA, HJ1, ⟨mc1, rfl⟩⟩ := hcut
  cases kq with
  | zero => exact absurd HA.out (by simp [spec_l02Cost.j0])
  | succ kj1 =>
   have H := HA.out
   clear HA
   simp only [spec_l02Cost.j0] at H
   by_cases c7 : x4_1 = true
   ·subst c7
    have H1 : (some 2) = some r := by rw [if_pos rfl] at H; exact H
    clear H
    have H := H1
    clear H1
    obtain rfl := Option.some.inj H
    go_wp2
    go_ret
    exact ⟨by first | rfl | (simp; done) | (simp [*]; done), zD⟩
   ·replace c7 := Bool.eq_false_iff.mpr c7
    subst c7
    have H1 : (if a0 = 12 then (some 4) else (if a0 = 19 then (some 3) else (some 1))) = some r := by rw [if_neg (show ¬ (false = true) by decide)] at H; exact H
    clear H
    have H := H1
    clear H1
    by_cases c8 : a0 = 12
    ·rw [if_pos c8] at H
     have c8b0 : (a0 == 12) = true := beq_iff_eq.mpr c8
     have c8b1 : (a0 != 12) = false := bne_eq_false_iff_eq.mpr c8
     clear c8
     obtain rfl := Option.some.inj H
     go_wp2
     go_ret
     exact ⟨by first | rfl | (simp; done) | (simp [*]; done), zD⟩
    ·rw [if_neg c8] at H
     have c8b0 : (a0 == 12) = false := beq_eq_false_iff_ne.mpr c8
     have c8b1 : (a0 != 12) = true := bne_iff_ne.mpr c8
     by_cases c9 : a0 = 19
     ·rw [if_pos c9] at H
      have c9b0 : (a0 == 19) = true := beq_iff_eq.mpr c9
      have c9b1 : (a0 != 19) = false := bne_eq_false_iff_eq.mpr c9
      clear c9
      obtain rfl := Option.some.inj H
      go_wp2
      go_ret
      exact ⟨by first | rfl | (simp; done) | (simp [*]; done), zD⟩
     ·rw [if_neg c9] at H
      have c9b0 : (a0 == 19) = false := beq_eq_false_iff_ne.mpr c9
      have c9b1 : (a0 != 19) = true := bne_iff_ne.mpr c9
      obtain rfl := Option.some.inj H
      go_wp2
      go_ret
      exact ⟨by first | rfl | (simp; done) | (simp [*]; done), zD⟩

/-! ### spec_l05Plus: function 256 -/
def spec_l05Plus.f (a0 : Int) (a1 : Int) : Option (Int) := if a0 < 0 then (some (-1)) else (if a1 < 0 then (some (-1)) else (some (mn (wrap64 (a0 + a1)) 2147483647)))
theorem spec_l05Plus.calls (a0 : Int) (a1 : Int) (r : Int) (w : World) (h : spec_l05Plus.f a0 a1 = some r) :
 Calls Try.prog 256 #[.int .i64 a0, .int .i64 a1] w fun e w' => e = .returned (.int .i64 r) ∧ Below w.heap.size w w' := by
 have HB := zQ (Below.refl w.heap.size w)
 have H : (if a0 < 0 then (some (-1)) else (if a1 < 0 then (some (-1)) else (some (mn (wrap64 (a0 + a1)) 2147483647)))) = some r := h
 clear h
 by_cases c3 : a0 < 0
 ·rw [if_pos c3] at H
  have c3b0 : decide (a0 < 0) = true := decide_eq_true c3
  clear c3
  obtain rfl := Option.some.inj H
  go_enter Try.func256, Try.ntmps256
  go_wp2
  go_ret
  exact ⟨by first | rfl | (simp [errW_none, errW_some] <;> rfl) | (simp [*, errW_none, errW_some] <;> rfl), zB HB.out⟩
 ·rw [if_neg c3] at H
  have c3b0 : decide (a0 < 0) = false := decide_eq_false c3
  clear c3
  by_cases c4 : a1 < 0
  ·rw [if_pos c4] at H
   have c4b0 : decide (a1 < 0) = true := decide_eq_true c4
   clear c4
   obtain rfl := Option.some.inj H
   go_enter Try.func256, Try.ntmps256
   go_wp2
   go_ret
   exact ⟨by first | rfl | (simp [errW_none, errW_some] <;> rfl) | (simp [*, errW_none, errW_some] <;> rfl), zB HB.out⟩
  ·rw [if_neg c4] at H
   have c4b0 : decide (a1 < 0) = false := decide_eq_false c4
   clear c4
   obtain ⟨ji5, hji5⟩ : ∃ j_ : Int, (mn (wrap64 (a0 + a1)) 2147483647) = j_ := ⟨_, rfl⟩
   replace H : (some ji5) = some r := by first | (rw [hji5] at H; exact H) | (simp only [hji5] at H ⊢; exact H)
   (try (have hji5h : ji5 ≤ 2147483647 := by (rw [← hji5]; unfold mn; (repeat' split) <;> omega)))
   (try (have hji5g : ji5 ≤ 64 := by omega))
   have hji5_ : (if 2147483647 < (wrap64 (a0 + a1)) then 2147483647 else (wrap64 (a0 + a1))) = ji5 := hji5
   obtain rfl := Option.some.inj H
   go_enter Try.func256, Try.ntmps256
   go_wp2
   go_ret
   exact ⟨by first | rfl | (simp [errW_none, errW_some] <;> rfl) | (simp only [← hji5]; first | rfl | (simp [errW_none, errW_some] <;> rfl)) | (simp [*, errW_none, errW_some] <;> rfl), zB HB.out⟩

end Go.Proofs.Ytkegjmkdnfpfdaa.MFnExactCostsOf

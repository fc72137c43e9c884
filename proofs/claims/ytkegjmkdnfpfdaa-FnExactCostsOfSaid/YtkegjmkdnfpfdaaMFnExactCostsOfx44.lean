-- By a program of this session.
import Derived.Test.YtkegjmkdnfpfdaaMFnExactCostsOfx0
namespace Go.Proofs.Ytkegjmkdnfpfdaa.MFnExactCostsOf
open Go.RowKit Go.Proofs.YtkegjmkdnfpfdaaW.PrintWords Go.Proofs.YtkegjmkdnfpfdaaW.PrintLast Go.Proofs.YtkegjmkdnfpfdaaW.PrintMore
attribute [local go_sem] max2_int min2_int max_two min_two max_three min_three max_four min_four
set_option linter.unusedVariables false
set_option linter.unusedSimpArgs false
set_option maxHeartbeats 8000000
set_option maxRecDepth 100000

/-! ### laws_heldSummaryS: function 47 -/
def laws_heldSummaryS.l0 : Nat → List (S144) → Int → Int → Option (Int)
 | 0, _, _, _ => none
 | k + 1, x0, x1, x5 => if x5 < (x0.length : Int) then (if 0 ≤ x5 then (if ((rd_T144 x0 x5).f0) = x1 then (if ((rd_T144 x0 x5).f1) = (wrap64 (x1 + 1)) then (if ((rd_T144 x0 x5).f2) = (wrap64 ((wrap64 (x1 + 1)) + 1)) then (if ((rd_T144 x0 x5).f3) = (wrap64 ((wrap64 ((wrap64 (x1 + 1)) + 1)) + 1)) then (if ((rd_T144 x0 x5).f4) = (wrap64 ((wrap64 ((wrap64 ((wrap64 (x1 + 1)) + 1)) + 1)) + 1)) then (laws_heldSummaryS.l0 k x0 (wrap64 ((wrap64 ((wrap64 ((wrap64 ((wrap64 (x1 + 1)) + 1)) + 1)) + 1)) + 1)) (wrap64 (x5 + 1))) else (some (-1))) else (some (-1))) else (some (-1))) else (some (-1))) else (some (-1))) else (none)) else (some x1)
def laws_heldSummaryS.f (k : Nat) (l0 : List (S144)) (a1 : Int) : Option (Int) := laws_heldSummaryS.l0 k l0 a1 0
theorem laws_heldSummaryS.mono_l : ∀ k, (∀ y0 y1 y2, LeO (laws_heldSummaryS.l0 k y0 y1 y2) (laws_heldSummaryS.l0 (k + 1) y0 y1 y2))
 | 0 => fun _ _ _ r h => by simp [laws_heldSummaryS.l0] at h
 | k + 1 => by
  have ih0 := laws_heldSummaryS.mono_l k
  ·intro y0 y1 y2
   unfold laws_heldSummaryS.l0
   repeat' first
   | (with_reducible exact ih0 _ _ _)
   | (with_reducible exact LeO.refl _)
   | (with_reducible exact LeO.none _)
   | (with_reducible refine LeO.ite ?_ ?_)
   | (with_reducible refine LeO.bind ?_ (fun _ => ?_))
theorem laws_heldSummaryS.mono : ∀ a0 a1 k, LeO (laws_heldSummaryS.f k a0 a1) (laws_heldSummaryS.f (k + 1) a0 a1) := by
 intro a0 a1 k
 have ih0 := laws_heldSummaryS.mono_l k
 unfold laws_heldSummaryS.f
 repeat' first
  | (with_reducible exact ih0 _ _ _)
  | (with_reducible exact LeO.refl _)
  | (with_reducible exact LeO.none _)
  | (with_reducible refine LeO.ite ?_ ?_)
  | (with_reducible refine LeO.bind ?_ (fun _ => ?_))
theorem laws_heldSummaryS.calls (k : Nat) (A0 : Option Addr) (c0 : Nat) (l0 : List (S144)) (a1 : Int) (r : Int) (w : World) (hr0 : Kd.C k144 w A0 l0.length l0) (hc0 : l0.length ≤ c0) (h : laws_heldSummaryS.f k l0 a1 = some r) :
 Calls Try.prog 47 #[.slice A0 l0.length c0, .int .i64 a1] w fun e w' => e = .returned (.int .i64 r) ∧ Drawn0 w w' := by
 have HR0 := zQ hr0
 have HC0 := zQ hc0
 clear hr0 hc0
 have H : (laws_heldSummaryS.l0 k l0 a1 0) = some r := h
 clear h
 have H' := zQ H
 clear H
 go_enter Try.func47, Try.ntmps47
 go_wp2
 go_loopg [1, 5] k (fun kq v1 v5 w' => ∃ (x1_1 : Int) (x5_1 : Int), v1 = .int .i64 x1_1 ∧ v5 = .int .i64 x5_1 ∧ Aside0 (laws_heldSummaryS.l0 kq l0 x1_1 x5_1 = some r) ∧ Aside0 (kq ≤ k) ∧ Drawn0 w w')
 case atStart => exact ⟨(a1), (0), (by first | rfl | (simp; done) | (simp [*]; done)), (by first | rfl | (simp; done) | (simp [*]; done)), H', ⟨Nat.le_refl _⟩, zD⟩
 case round =>
  clear H'
  try clear p2
  obtain ⟨x1_1, x5_1, rfl, rfl, HA, HK1, ⟨m1, rfl⟩⟩ := hrel
  cases gk with
  | zero => exact absurd HA.out (by simp [laws_heldSummaryS.l0])
  | succ k1 =>
   have H := HA.out
   clear HA
   simp only [laws_heldSummaryS.l0] at H
   by_cases c3 : x5_1 < (l0.length : Int)
   ·rw [if_pos c3] at H
    have c3b0 : decide (x5_1 < (l0.length : Int)) = true := decide_eq_true c3
    clear c3
    by_cases c4 : 0 ≤ x5_1
    ·rw [if_pos c4] at H
     have c4b0 : decide (0 ≤ x5_1) = true := decide_eq_true c4
     clear c4
     by_cases c5 : ((rd_T144 l0 x5_1).f0) = x1_1
     ·rw [if_pos c5] at H
      have c5b0 : (((rd_T144 l0 x5_1).f0) == x1_1) = true := beq_iff_eq.mpr c5
      have c5b1 : (((rd_T144 l0 x5_1).f0) != x1_1) = false := bne_eq_false_iff_eq.mpr c5
      clear c5
      by_cases c6 : ((rd_T144 l0 x5_1).f1) = (wrap64 (x1_1 + 1))
      ·rw [if_pos c6] at H
       have c6b0 : (((rd_T144 l0 x5_1).f1) == (wrap64 (x1_1 + 1))) = true := beq_iff_eq.mpr c6
       have c6b1 : (((rd_T144 l0 x5_1).f1) != (wrap64 (x1_1 + 1))) = false := bne_eq_false_iff_eq.mpr c6
       clear c6
       by_cases c7 : ((rd_T144 l0 x5_1).f2) = (wrap64 ((wrap64 (x1_1 + 1)) + 1))
       ·rw [if_pos c7] at H
        have c7b0 : (((rd_T144 l0 x5_1).f2) == (wrap64 ((wrap64 (x1_1 + 1)) + 1))) = true := beq_iff_eq.mpr c7
        have c7b1 : (((rd_T144 l0 x5_1).f2) != (wrap64 ((wrap64 (x1_1 + 1)) + 1))) = false := bne_eq_false_iff_eq.mpr c7
        clear c7
        by_cases c8 : ((rd_T144 l0 x5_1).f3) = (wrap64 ((wrap64 ((wrap64 (x1_1 + 1)) + 1)) + 1))
        ·rw [if_pos c8] at H
         have c8b0 : (((rd_T144 l0 x5_1).f3) == (wrap64 ((wrap64 ((wrap64 (x1_1 + 1)) + 1)) + 1))) = true := beq_iff_eq.mpr c8
         have c8b1 : (((rd_T144 l0 x5_1).f3) != (wrap64 ((wrap64 ((wrap64 (x1_1 + 1)) + 1)) + 1))) = false := bne_eq_false_iff_eq.mpr c8
         clear c8
         by_cases c9 : ((rd_T144 l0 x5_1).f4) = (wrap64 ((wrap64 ((wrap64 ((wrap64 (x1_1 + 1)) + 1)) + 1)) + 1))
         ·rw [if_pos c9] at H
          have c9b0 : (((rd_T144 l0 x5_1).f4) == (wrap64 ((wrap64 ((wrap64 ((wrap64 (x1_1 + 1)) + 1)) + 1)) + 1))) = true := beq_iff_eq.mpr c9
          have c9b1 : (((rd_T144 l0 x5_1).f4) != (wrap64 ((wrap64 ((wrap64 ((wrap64 (x1_1 + 1)) + 1)) + 1)) + 1))) = false := bne_eq_false_iff_eq.mpr c9
          clear c9
          have H' := zQ H
          clear H
          have p601 : 0 ≤ (x5_1 : Int) := zA
          have q601 : x5_1 < (l0.length : Int) := zA
          obtain ⟨ad601, e601, hx601_0, hx601_1, hx601_2, hx601_3, hx601_4⟩ := at_T144 HR0.out x5_1 p601 q601
          cases e601
          replace p601 := eq_true p601
          replace q601 := eq_true q601
          have p602 : 0 ≤ (x5_1 : Int) := zA
          have q602 : x5_1 < (l0.length : Int) := zA
          obtain ⟨ad602, e602, hx602_0, hx602_1, hx602_2, hx602_3, hx602_4⟩ := at_T144 HR0.out x5_1 p602 q602
          obtain rfl : ad601 = ad602 := (by injection e602)
          replace p602 := eq_true p602
          replace q602 := eq_true q602
          have p603 : 0 ≤ (x5_1 : Int) := zA
          have q603 : x5_1 < (l0.length : Int) := zA
          obtain ⟨ad603, e603, hx603_0, hx603_1, hx603_2, hx603_3, hx603_4⟩ := at_T144 HR0.out x5_1 p603 q603
          obtain rfl : ad601 = ad603 := (by injection e603)
          replace p603 := eq_true p603
          replace q603 := eq_true q603
          have p604 : 0 ≤ (x5_1 : Int) := zA
          have q604 : x5_1 < (l0.length : Int) := zA
          obtain ⟨ad604, e604, hx604_0, hx604_1, hx604_2, hx604_3, hx604_4⟩ := at_T144 HR0.out x5_1 p604 q604
          obtain rfl : ad601 = ad604 := (by injection e604)
          replace p604 := eq_true p604
          replace q604 := eq_true q604
          have p605 : 0 ≤ (x5_1 : Int) := zA
          have q605 : x5_1 < (l0.length : Int) := zA
          obtain ⟨ad605, e605, hx605_0, hx605_1, hx605_2, hx605_3, hx605_4⟩ := at_T144 HR0.out x5_1 p605 q605
          obtain rfl : ad601 = ad605 := (by injection e605)
          replace p605 := eq_true p605
          replace q605 := eq_true q605
          go_wp2
          go_roundg k1
          case measure => have := HK1.out; omega
          case rel => exact ⟨(wrap64 ((wrap64 ((wrap64 ((wrap64 ((wrap64 (x1_1 + 1)) + 1)) + 1)) + 1)) + 1)), (wrap64 (x5_1 + 1)), (by first | rfl | (simp; done) | (simp [*]; done)), (by first | rfl | (simp; done) | (simp [*]; done)), H', ⟨by have := HK1.out; omega⟩, zD⟩
         ·rw [if_neg c9] at H
          have c9b0 : (((rd_T144 l0 x5_1).f4) == (wrap64 ((wrap64 ((wrap64 ((wrap64 (x1_1 + 1)) + 1)) + 1)) + 1))) = false := beq_eq_false_iff_ne.mpr c9
          have c9b1 : (((rd_T144 l0 x5_1).f4) != (wrap64 ((wrap64 ((wrap64 ((wrap64 (x1_1 + 1)) + 1)) + 1)) + 1))) = true := bne_iff_ne.mpr c9
          obtain rfl := Option.some.inj H
          have p601 : 0 ≤ (x5_1 : Int) := zA
          have q601 : x5_1 < (l0.length : Int) := zA
          obtain ⟨ad601, e601, hx601_0, hx601_1, hx601_2, hx601_3, hx601_4⟩ := at_T144 HR0.out x5_1 p601 q601
          cases e601
          replace p601 := eq_true p601
          replace q601 := eq_true q601
          have p602 : 0 ≤ (x5_1 : Int) := zA
          have q602 : x5_1 < (l0.length : Int) := zA
          obtain ⟨ad602, e602, hx602_0, hx602_1, hx602_2, hx602_3, hx602_4⟩ := at_T144 HR0.out x5_1 p602 q602
          obtain rfl : ad601 = ad602 := (by injection e602)
          replace p602 := eq_true p602
          replace q602 := eq_true q602
          have p603 : 0 ≤ (x5_1 : Int) := zA
          have q603 : x5_1 < (l0.length : Int) := zA
          obtain ⟨ad603, e603, hx603_0, hx603_1, hx603_2, hx603_3, hx603_4⟩ := at_T144 HR0.out x5_1 p603 q603
          obtain rfl : ad601 = ad603 := (by injection e603)
          replace p603 := eq_true p603
          replace q603 := eq_true q603
          have p604 : 0 ≤ (x5_1 : Int) := zA
          have q604 : x5_1 < (l0.length : Int) := zA
          obtain ⟨ad604, e604, hx604_0, hx604_1, hx604_2, hx604_3, hx604_4⟩ := at_T144 HR0.out x5_1 p604 q604
          obtain rfl : ad601 = ad604 := (by injection e604)
          replace p604 := eq_true p604
          replace q604 := eq_true q604
          have p605 : 0 ≤ (x5_1 : Int) := zA
          have q605 : x5_1 < (l0.length : Int) := zA
          obtain ⟨ad605, e605, hx605_0, hx605_1, hx605_2, hx605_3, hx605_4⟩ := at_T144 HR0.out x5_1 p605 q605
          obtain rfl : ad601 = ad605 := (by injection e605)
          replace p605 := eq_true p605
          replace q605 := eq_true q605
          go_wp2
          go_ret
          exact ⟨by first | rfl | (simp; done) | (simp [*]; done), zD⟩
        ·rw [if_neg c8] at H
         have c8b0 : (((rd_T144 l0 x5_1).f3) == (wrap64 ((wrap64 ((wrap64 (x1_1 + 1)) + 1)) + 1))) = false := beq_eq_false_iff_ne.mpr c8
         have c8b1 : (((rd_T144 l0 x5_1).f3) != (wrap64 ((wrap64 ((wrap64 (x1_1 + 1)) + 1)) + 1))) = true := bne_iff_ne.mpr c8
         obtain rfl := Option.some.inj H
         have p601 : 0 ≤ (x5_1 : Int) := zA
         have q601 : x5_1 < (l0.length : Int) := zA
         obtain ⟨ad601, e601, hx601_0, hx601_1, hx601_2, hx601_3, hx601_4⟩ := at_T144 HR0.out x5_1 p601 q601
         cases e601
         replace p601 := eq_true p601
         replace q601 := eq_true q601
         have p602 : 0 ≤ (x5_1 : Int) := zA
         have q602 : x5_1 < (l0.length : Int) := zA
         obtain ⟨ad602, e602, hx602_0, hx602_1, hx602_2, hx602_3, hx602_4⟩ := at_T144 HR0.out x5_1 p602 q602
         obtain rfl : ad601 = ad602 := (by injection e602)
         replace p602 := eq_true p602
         replace q602 := eq_true q602
         have p603 : 0 ≤ (x5_1 : Int) := zA
         have q603 : x5_1 < (l0.length : Int) := zA
         obtain ⟨ad603, e603, hx603_0, hx603_1, hx603_2, hx603_3, hx603_4⟩ := at_T144 HR0.out x5_1 p603 q603
         obtain rfl : ad601 = ad603 := (by injection e603)
         replace p603 := eq_true p603
         replace q603 := eq_true q603
         have p604 : 0 ≤ (x5_1 : Int) := zA
         have q604 : x5_1 < (l0.length : Int) := zA
         obtain ⟨ad604, e604, hx604_0, hx604_1, hx604_2, hx604_3, hx604_4⟩ := at_T144 HR0.out x5_1 p604 q604
         obtain rfl : ad601 = ad604 := (by injection e604)
         replace p604 := eq_true p604
         replace q604 := eq_true q604
         go_wp2
         go_ret
         exact ⟨by first | rfl | (simp; done) | (simp [*]; done), zD⟩
       ·rw [if_neg c7] at H
        have c7b0 : (((rd_T144 l0 x5_1).f2) == (wrap64 ((wrap64 (x1_1 + 1)) + 1))) = false := beq_eq_false_iff_ne.mpr c7
        have c7b1 : (((rd_T144 l0 x5_1).f2) != (wrap64 ((wrap64 (x1_1 + 1)) + 1))) = true := bne_iff_ne.mpr c7
        obtain rfl := Option.some.inj H
        have p601 : 0 ≤ (x5_1 : Int) := zA
        have q601 : x5_1 < (l0.length : Int) := zA
        obtain ⟨ad601, e601, hx601_0, hx601_1, hx601_2, hx601_3, hx601_4⟩ := at_T144 HR0.out x5_1 p601 q601
        cases e601
        replace p601 := eq_true p601
        replace q601 := eq_true q601
        have p602 : 0 ≤ (x5_1 : Int) := zA
        have q602 : x5_1 < (l0.length : Int) := zA
        obtain ⟨ad602, e602, hx602_0, hx602_1, hx602_2, hx602_3, hx602_4⟩ := at_T144 HR0.out x5_1 p602 q602
        obtain rfl : ad601 = ad602 := (by injection e602)
        replace p602 := eq_true p602
        replace q602 := eq_true q602
        have p603 : 0 ≤ (x5_1 : Int) := zA
        have q603 : x5_1 < (l0.length : Int) := zA
        obtain ⟨ad603, e603, hx603_0, hx603_1, hx603_2, hx603_3, hx603_4⟩ := at_T144 HR0.out x5_1 p603 q603
        obtain rfl : ad601 = ad603 := (by injection e603)
        replace p603 := eq_true p603
        replace q603 := eq_true q603
        go_wp2
        go_ret
        exact ⟨by first | rfl | (simp; done) | (simp [*]; done), zD⟩
      ·rw [if_neg c6] at H
       have c6b0 : (((rd_T144 l0 x5_1).f1) == (wrap64 (x1_1 + 1))) = false := beq_eq_false_iff_ne.mpr c6
       have c6b1 : (((rd_T144 l0 x5_1).f1) != (wrap64 (x1_1 + 1))) = true := bne_iff_ne.mpr c6
       obtain rfl := Option.some.inj H
       have p601 : 0 ≤ (x5_1 : Int) := zA
       have q601 : x5_1 < (l0.length : Int) := zA
       obtain ⟨ad601, e601, hx601_0, hx601_1, hx601_2, hx601_3, hx601_4⟩ := at_T144 HR0.out x5_1 p601 q601
       cases e601
       replace p601 := eq_true p601
       replace q601 := eq_true q601
       have p602 : 0 ≤ (x5_1 : Int) := zA
       have q602 : x5_1 < (l0.length : Int) := zA
       obtain ⟨ad602, e602, hx602_0, hx602_1, hx602_2, hx602_3, hx602_4⟩ := at_T144 HR0.out x5_1 p602 q602
       obtain rfl : ad601 = ad602 := (by injection e602)
       replace p602 := eq_true p602
       replace q602 := eq_true q602
       go_wp2
       go_ret
       exact ⟨by first | rfl | (simp; done) | (simp [*]; done), zD⟩
     ·rw [if_neg c5] at H
      have c5b0 : (((rd_T144 l0 x5_1).f0) == x1_1) = false := beq_eq_false_iff_ne.mpr c5
      have c5b1 : (((rd_T144 l0 x5_1).f0) != x1_1) = true := bne_iff_ne.mpr c5
      obtain rfl := Option.some.inj H
      have p601 : 0 ≤ (x5_1 : Int) := zA
      have q601 : x5_1 < (l0.length : Int) := zA
      obtain ⟨ad601, e601, hx601_0, hx601_1, hx601_2, hx601_3, hx601_4⟩ := at_T144 HR0.out x5_1 p601 q601
      cases e601
      replace p601 := eq_true p601
      replace q601 := eq_true q601
      go_wp2
      go_ret
      exact ⟨by first | rfl | (simp; done) | (simp [*]; done), zD⟩
    ·rw [if_neg c4] at H
     exact absurd H (by simp)
   ·rw [if_neg c3] at H
    have c3b0 : decide (x5_1 < (l0.length : Int)) = false := decide_eq_false c3
    clear c3
    obtain rfl := Option.some.inj H
    go_wp2
    go_ret
    exact ⟨by first | rfl | (simp; done) | (simp [*]; done), zD⟩

end Go.Proofs.Ytkegjmkdnfpfdaa.MFnExactCostsOf

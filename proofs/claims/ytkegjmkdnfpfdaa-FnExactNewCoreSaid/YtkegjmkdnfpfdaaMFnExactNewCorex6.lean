-- By a program of this session.
import Derived.Test.YtkegjmkdnfpfdaaMFnExactNewCorex0
import Derived.Test.YtkegjmkdnfpfdaaMFnExactNewCorex5
namespace Go.Proofs.Ytkegjmkdnfpfdaa.MFnExactNewCore
open Go.RowKit Go.Proofs.YtkegjmkdnfpfdaaW.PrintWords Go.Proofs.YtkegjmkdnfpfdaaW.PrintLast Go.Proofs.YtkegjmkdnfpfdaaW.PrintMore
attribute [local go_sem] max2_int min2_int max_two min_two max_three min_three max_four min_four
set_option linter.unusedVariables false
set_option linter.unusedSimpArgs false
set_option maxHeartbeats 8000000
set_option maxRecDepth 100000

/-! ### spec_l04Routines: function 148 -/
def spec_l04Routines.l0 : Nat → List (S124) → Int → Option (Bool)
 | 0, _, _ => none
 | k + 1, x0, x3 => if x3 < (x0.length : Int) then (if 0 ≤ x3 then (if (((rd_T124 x0 x3).f0).length : Int) > 40 then (some false) else ((spec_l02All.f k ((rd_T124 x0 x3).f0)).bind fun t127 => (if t127 = true then (spec_l04Routines.l0 k x0 (wrap64 (x3 + 1))) else (some false)))) else (none)) else (some true)
def spec_l04Routines.f (k : Nat) (l0 : List (S124)) : Option (Bool) := if (l0.length : Int) > 6 then (some false) else (spec_l04Routines.l0 k l0 0)
theorem spec_l04Routines.mono_l : ∀ k, (∀ y0 y1, LeO (spec_l04Routines.l0 k y0 y1) (spec_l04Routines.l0 (k + 1) y0 y1))
 | 0 => fun _ _ r h => by simp [spec_l04Routines.l0] at h
 | k + 1 => by
  have ih0 := spec_l04Routines.mono_l k
  ·intro y0 y1
   unfold spec_l04Routines.l0
   repeat' first
   | (with_reducible exact ih0 _ _)
   | (with_reducible exact spec_l02All.mono _ _)
   | (with_reducible exact LeO.refl _)
   | (with_reducible exact LeO.none _)
   | (with_reducible refine LeO.ite ?_ ?_)
   | (with_reducible refine LeO.bind ?_ (fun _ => ?_))
theorem spec_l04Routines.mono : ∀ a0 k, LeO (spec_l04Routines.f k a0) (spec_l04Routines.f (k + 1) a0) := by
 intro a0 k
 have ih0 := spec_l04Routines.mono_l k
 unfold spec_l04Routines.f
 repeat' first
  | (with_reducible exact ih0 _ _)
  | (with_reducible exact spec_l02All.mono _ _)
  | (with_reducible exact LeO.refl _)
  | (with_reducible exact LeO.none _)
  | (with_reducible refine LeO.ite ?_ ?_)
  | (with_reducible refine LeO.bind ?_ (fun _ => ?_))
theorem spec_l04Routines.calls (k : Nat) (A0 : Option Addr) (c0 : Nat) (l0 : List (S124)) (r : Bool) (w : World) (hr0 : Kd.C k124 w A0 l0.length l0) (hc0 : l0.length ≤ c0) (h : spec_l04Routines.f k l0 = some r) :
 Calls Try.prog 148 #[.slice A0 l0.length c0] w fun e w' => e = .returned (.bool r) ∧ Below w.heap.size w w' := by
 have HR0 := zQ hr0
 have HC0 := zQ hc0
 clear hr0 hc0
 have HB := zQ (Below.refl w.heap.size w)
 have H : (if (l0.length : Int) > 6 then (some false) else (spec_l04Routines.l0 k l0 0)) = some r := h
 clear h
 by_cases c2 : (l0.length : Int) > 6
 ·rw [if_pos c2] at H
  have c2b0 : decide (6 < (l0.length : Int)) = true := decide_eq_true c2
  have c2b1 : decide (6 < l0.length) = true := decide_eq_true (by omega)
  clear c2
  obtain rfl := Option.some.inj H
  go_enter Try.func148, Try.ntmps148
  go_wp2
  go_ret
  exact ⟨by first | rfl | (simp [errW_none, errW_some] <;> rfl) | (simp [*, errW_none, errW_some] <;> rfl), zB HB.out⟩
 ·rw [if_neg c2] at H
  have c2b0 : decide (6 < (l0.length : Int)) = false := decide_eq_false c2
  have c2b1 : decide (6 < l0.length) = false := decide_eq_false (by omega)
  clear c2
  have H' := zQ H
  clear H
  go_enter Try.func148, Try.ntmps148
  go_wp2
  go_loopg [3] k (fun kq v3 w' => ∃ (x3_1 : Int), v3 = .int .i64 x3_1 ∧ Aside0 (spec_l04Routines.l0 kq l0 x3_1 = some r) ∧ Aside0 (kq ≤ k) ∧ Aside0 (Below w.heap.size w w'))
  case atStart => exact ⟨(0), (by first | rfl | (simp; done) | (simp [*]; done)), H', ⟨Nat.le_refl _⟩, ⟨zB HB.out⟩⟩
  case round =>
   clear H'
   try clear c1
   try clear c2
   try clear c2b0
   try clear c2b1
   try clear p2
   obtain ⟨x3_1, rfl, HA, HK1, HB⟩ := hrel
   cases gk with
   | zero => exact absurd HA.out (by simp [spec_l04Routines.l0])
   | succ k1 =>
    have H := HA.out
    clear HA
    simp only [spec_l04Routines.l0] at H
    by_cases c3 : x3_1 < (l0.length : Int)
    ·rw [if_pos c3] at H
     have c3b0 : decide (x3_1 < (l0.length : Int)) = true := decide_eq_true c3
     clear c3
     by_cases c4 : 0 ≤ x3_1
     ·rw [if_pos c4] at H
      have c4b0 : decide (0 ≤ x3_1) = true := decide_eq_true c4
      clear c4
      by_cases c5 : (((rd_T124 l0 x3_1).f0).length : Int) > 40
      ·rw [if_pos c5] at H
       have c5b0 : decide (40 < (((rd_T124 l0 x3_1).f0).length : Int)) = true := decide_eq_true c5
       have c5b1 : decide (40 < ((rd_T124 l0 x3_1).f0).length) = true := decide_eq_true (by omega)
       clear c5
       obtain rfl := Option.some.inj H
       have p125 : 0 ≤ (x3_1 : Int) := zA
       have q125 : x3_1 < (l0.length : Int) := zA
       obtain ⟨ad125, A125_0, c125_0, e125, hx125_0, hl125_0, hi125_0⟩ := at_T124 HR0.out x3_1 p125 q125
       cases e125
       replace hx125_0 := zX HB.out hx125_0
       have HR125_0 := zQ hi125_0
       have HC125_0 := zQ hl125_0
       clear hi125_0 hl125_0
       replace p125 := eq_true p125
       replace q125 := eq_true q125
       go_wp2
       go_ret
       exact ⟨by first | rfl | (simp [errW_none, errW_some] <;> rfl) | (simp [*, errW_none, errW_some] <;> rfl), zB HB.out⟩
      ·rw [if_neg c5] at H
       have c5b0 : decide (40 < (((rd_T124 l0 x3_1).f0).length : Int)) = false := decide_eq_false c5
       have c5b1 : decide (40 < ((rd_T124 l0 x3_1).f0).length) = false := decide_eq_false (by omega)
       clear c5
       replace H := Option.bind_eq_some_iff.mp H
       obtain ⟨t127, A60, H⟩ := H
       replace H : (if t127 = true then (spec_l04Routines.l0 k1 l0 (wrap64 (x3_1 + 1))) else (some false)) = some r := H
       have A6 := zQ A60
       clear A60
       by_cases c7 : t127 = true
       ·subst c7
        have H1 : (spec_l04Routines.l0 k1 l0 (wrap64 (x3_1 + 1))) = some r := by rw [if_pos rfl] at H; exact H
        clear H
        have H := H1
        clear H1
        have H' := zQ H
        clear H
        have p125 : 0 ≤ (x3_1 : Int) := zA
        have q125 : x3_1 < (l0.length : Int) := zA
        obtain ⟨ad125, A125_0, c125_0, e125, hx125_0, hl125_0, hi125_0⟩ := at_T124 HR0.out x3_1 p125 q125
        cases e125
        replace hx125_0 := zX HB.out hx125_0
        have HR125_0 := zQ hi125_0
        have HC125_0 := zQ hl125_0
        clear hi125_0 hl125_0
        replace p125 := eq_true p125
        replace q125 := eq_true q125
        have p126 : 0 ≤ (x3_1 : Int) := zA
        have q126 : x3_1 < (l0.length : Int) := zA
        obtain ⟨ad126, A126_0, c126_0, e126, hx126_0, hl126_0, hi126_0⟩ := at_T124 HR0.out x3_1 p126 q126
        obtain rfl : ad125 = ad126 := (by injection e126)
        replace hx126_0 := zX HB.out hx126_0
        have HR126_0 := zQ hi126_0
        have HC126_0 := zQ hl126_0
        clear hi126_0 hl126_0
        replace p126 := eq_true p126
        replace q126 := eq_true q126
        have ea_ := Option.some.inj (hx125_0.symm.trans hx126_0)
        injection ea_ with ea_ en_ ec_
        subst ea_
        subst ec_
        clear en_
        go_wp2_with (first | (go_at_call 69; (with_reducible refine (spec_l02All.calls k1 _ _ ((rd_T124 l0 x3_1).f0) true _ ?side1 ?side2 A6.out).mono ?_); (case side1 => exact zE HR126_0 HB); (case side2 => exact HC126_0.out); rintro e w8 ⟨rfl, hb⟩; have n0_ := zQ (below_step (zB HB.out) hb); clear HB; have HB := n0_; clear n0_; (try clear hb); (try clear hb2); (try clear hk); (try clear hi)))
        go_roundg k1
        case measure => have := HK1.out; omega
        case rel => exact ⟨(wrap64 (x3_1 + 1)), (by first | rfl | (simp; done) | (simp [*]; done)), H', ⟨by have := HK1.out; omega⟩, ⟨zB HB.out⟩⟩
       ·replace c7 := Bool.eq_false_iff.mpr c7
        subst c7
        have H1 : (some false) = some r := by rw [if_neg (show ¬ (false = true) by decide)] at H; exact H
        clear H
        have H := H1
        clear H1
        obtain rfl := Option.some.inj H
        have p125 : 0 ≤ (x3_1 : Int) := zA
        have q125 : x3_1 < (l0.length : Int) := zA
        obtain ⟨ad125, A125_0, c125_0, e125, hx125_0, hl125_0, hi125_0⟩ := at_T124 HR0.out x3_1 p125 q125
        cases e125
        replace hx125_0 := zX HB.out hx125_0
        have HR125_0 := zQ hi125_0
        have HC125_0 := zQ hl125_0
        clear hi125_0 hl125_0
        replace p125 := eq_true p125
        replace q125 := eq_true q125
        have p126 : 0 ≤ (x3_1 : Int) := zA
        have q126 : x3_1 < (l0.length : Int) := zA
        obtain ⟨ad126, A126_0, c126_0, e126, hx126_0, hl126_0, hi126_0⟩ := at_T124 HR0.out x3_1 p126 q126
        obtain rfl : ad125 = ad126 := (by injection e126)
        replace hx126_0 := zX HB.out hx126_0
        have HR126_0 := zQ hi126_0
        have HC126_0 := zQ hl126_0
        clear hi126_0 hl126_0
        replace p126 := eq_true p126
        replace q126 := eq_true q126
        have ea_ := Option.some.inj (hx125_0.symm.trans hx126_0)
        injection ea_ with ea_ en_ ec_
        subst ea_
        subst ec_
        clear en_
        go_wp2_with (first | (go_at_call 69; (with_reducible refine (spec_l02All.calls k1 _ _ ((rd_T124 l0 x3_1).f0) false _ ?side1 ?side2 A6.out).mono ?_); (case side1 => exact zE HR126_0 HB); (case side2 => exact HC126_0.out); rintro e w9 ⟨rfl, hb⟩; have n0_ := zQ (below_step (zB HB.out) hb); clear HB; have HB := n0_; clear n0_; (try clear hb); (try clear hb2); (try clear hk); (try clear hi)))
        go_ret
        exact ⟨by first | rfl | (simp [errW_none, errW_some] <;> rfl) | (simp [*, errW_none, errW_some] <;> rfl), zB HB.out⟩
     ·rw [if_neg c4] at H
      exact absurd H (by simp)
    ·rw [if_neg c3] at H
     have c3b0 : decide (x3_1 < (l0.length : Int)) = false := decide_eq_false c3
     clear c3
     obtain rfl := Option.some.inj H
     go_wp2
     go_ret
     exact ⟨by first | rfl | (simp [errW_none, errW_some] <;> rfl) | (simp [*, errW_none, errW_some] <;> rfl), zB HB.out⟩

-- NOT PRINTED: function 232 (spec_l03Takes)

-- NOT PRINTED: function 187 (spec_l04Sign)

-- NOT PRINTED: function 207 (spec_l04Take)

-- NOT PRINTED: function 208 (spec_l04Walk_floor)

-- NOT PRINTED: function 209 (spec_l04Walk_nest)

-- NOT PRINTED: function 137 (spec_l04Walk_step)

end Go.Proofs.Ytkegjmkdnfpfdaa.MFnExactNewCore

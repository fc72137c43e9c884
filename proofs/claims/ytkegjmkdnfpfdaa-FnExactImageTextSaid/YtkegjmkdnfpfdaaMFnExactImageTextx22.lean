-- By a program of this session.
import Derived.Test.YtkegjmkdnfpfdaaMFnExactImageTextx0
import Derived.Test.YtkegjmkdnfpfdaaMFnExactImageTextx11
namespace Go.Proofs.Ytkegjmkdnfpfdaa.MFnExactImageText
open Go.RowKit Go.Proofs.YtkegjmkdnfpfdaaW.PrintWords Go.Proofs.YtkegjmkdnfpfdaaW.PrintLast Go.Proofs.YtkegjmkdnfpfdaaW.PrintMore
attribute [local go_sem] max2_int min2_int max_two min_two max_three min_three max_four min_four
set_option linter.unusedVariables false
set_option linter.unusedSimpArgs false
set_option maxHeartbeats 8000000
set_option maxRecDepth 100000

/-! ### spec_TaskOK: function 153 -/
def spec_TaskOK.j0 : Nat → Bool → Int → Int → Int → Int → Int → Int → Option (Bool)
 | 0, _, _, _, _, _, _, _ => none
 | k + 1, x24, x218000, x218001, x218002, x218003, x218004, x218005 => if x24 = true then (some false) else (if x218000 = 1 then (if x218003 = 0 then (if x218004 = 1 then (some (decide (x218002 ≤ x218001))) else (some false)) else (some false)) else (if x218000 = 2 then ((spec_l01In.f x218003 0 7).bind fun t222 => (some t222)) else (some false)))
def spec_TaskOK.f (k : Nat) (a0_0 : Int) (a0_1 : Int) (a0_2 : Int) (a0_3 : Int) (a0_4 : Int) (a0_5 : Int) : Option (Bool) := (spec_l01In.f a0_1 1 5000).bind fun t218 => (if t218 = true then ((spec_l01In.f a0_2 1 5000).bind fun t219 => (if t219 = true then ((spec_l01In.f a0_4 1 4).bind fun t220 => (if t220 = true then ((spec_l01In.f a0_5 0 5).bind fun t221 => (spec_TaskOK.j0 k (!t221) a0_0 a0_1 a0_2 a0_3 a0_4 a0_5)) else (spec_TaskOK.j0 k true a0_0 a0_1 a0_2 a0_3 a0_4 a0_5))) else (spec_TaskOK.j0 k true a0_0 a0_1 a0_2 a0_3 a0_4 a0_5))) else (spec_TaskOK.j0 k true a0_0 a0_1 a0_2 a0_3 a0_4 a0_5))
theorem spec_TaskOK.mono_l : ∀ k, (∀ y0 y1 y2 y3 y4 y5 y6, LeO (spec_TaskOK.j0 k y0 y1 y2 y3 y4 y5 y6) (spec_TaskOK.j0 (k + 1) y0 y1 y2 y3 y4 y5 y6))
 | 0 => fun _ _ _ _ _ _ _ r h => by simp [spec_TaskOK.j0] at h
 | k + 1 => by
  have ih0 := spec_TaskOK.mono_l k
  ·intro y0 y1 y2 y3 y4 y5 y6
   unfold spec_TaskOK.j0
   repeat' first
   | (with_reducible exact ih0 _ _ _ _ _ _ _)
   | (with_reducible exact LeO.refl _)
   | (with_reducible exact LeO.none _)
   | (with_reducible refine LeO.ite ?_ ?_)
   | (with_reducible refine LeO.bind ?_ (fun _ => ?_))
theorem spec_TaskOK.mono : ∀ a0 a1 a2 a3 a4 a5 k, LeO (spec_TaskOK.f k a0 a1 a2 a3 a4 a5) (spec_TaskOK.f (k + 1) a0 a1 a2 a3 a4 a5) := by
 intro a0 a1 a2 a3 a4 a5 k
 have ih0 := spec_TaskOK.mono_l k
 unfold spec_TaskOK.f
 repeat' first
  | (with_reducible exact ih0 _ _ _ _ _ _ _)
  | (with_reducible exact LeO.refl _)
  | (with_reducible exact LeO.none _)
  | (with_reducible refine LeO.ite ?_ ?_)
  | (with_reducible refine LeO.bind ?_ (fun _ => ?_))
theorem spec_TaskOK.calls (k : Nat) (a0_0 : Int) (a0_1 : Int) (a0_2 : Int) (a0_3 : Int) (a0_4 : Int) (a0_5 : Int) (r : Bool) (w : World) (h : spec_TaskOK.f k a0_0 a0_1 a0_2 a0_3 a0_4 a0_5 = some r) :
 Calls Try.prog 153 #[.agg #[.int .i64 a0_0, .int .i64 a0_1, .int .i64 a0_2, .int .i64 a0_3, .int .i64 a0_4, .int .i64 a0_5]] w fun e w' => e = .returned (.bool r) ∧ Below w.heap.size w w' := by
 have hu135 := Try.underlying135
 have HB := zQ (Below.refl w.heap.size w)
 have H : ((spec_l01In.f a0_1 1 5000).bind fun t218 => (if t218 = true then ((spec_l01In.f a0_2 1 5000).bind fun t219 => (if t219 = true then ((spec_l01In.f a0_4 1 4).bind fun t220 => (if t220 = true then ((spec_l01In.f a0_5 0 5).bind fun t221 => (spec_TaskOK.j0 k (!t221) a0_0 a0_1 a0_2 a0_3 a0_4 a0_5)) else (spec_TaskOK.j0 k true a0_0 a0_1 a0_2 a0_3 a0_4 a0_5))) else (spec_TaskOK.j0 k true a0_0 a0_1 a0_2 a0_3 a0_4 a0_5))) else (spec_TaskOK.j0 k true a0_0 a0_1 a0_2 a0_3 a0_4 a0_5))) = some r := h
 clear h
 have HC2 := zQ H
 clear H
 go_enter Try.func153, Try.ntmps153
 go_upto_region 1 with (first | ((with_reducible refine gate_dst (N := 1) rfl ?_); refine box_event ?hg (N := 1) ?hd (cs := #[.int .i64 a0_0, .int .i64 a0_1, .int .i64 a0_2, .int .i64 a0_3, .int .i64 a0_4, .int .i64 a0_5]) (t := 135) ?hr ?_; (case hd => rfl); (case hg => rfl); (case hr => first | (go_simp; done) | (go_simp; rfl)); intro gb217 hg w3 hbox hb; have n0_ := zQ (below_step (zB HB.out) hb); have n1_ := zQ (hbox); have n2_ := zQ ((zG hg HB.out)); have n3_ := zQ ((zG hg HB.out)); clear HB; have HB := n0_; have BK217 := n1_; have GW217 := n2_; have GE217 := n3_; clear n0_ n1_ n2_ n3_; clear hb hbox hg))
 (try simp only [Act.put, List.setIfInBounds_toArray, List.set_cons_zero, List.set_cons_succ])
 go_cut [24] (fun v24 wc => ∃ (kq : Nat) (x24_1 : Bool), v24 = .bool x24_1 ∧ Aside0 (spec_TaskOK.j0 kq x24_1 a0_0 a0_1 a0_2 a0_3 a0_4 a0_5 = some r) ∧ Aside0 (kq ≤ k) ∧ Aside0 (wc.heap[gb217]? = some (.cells #[.int .i64 a0_0, .int .i64 a0_1, .int .i64 a0_2, .int .i64 a0_3, .int .i64 a0_4, .int .i64 a0_5] 135 (0, 0))) ∧ Aside0 (Below w.heap.size w wc))
 case first =>
  have H := HC2.out
  clear HC2
  replace H := Option.bind_eq_some_iff.mp H
  obtain ⟨t218, A40, H⟩ := H
  replace H : (if t218 = true then ((spec_l01In.f a0_2 1 5000).bind fun t219 => (if t219 = true then ((spec_l01In.f a0_4 1 4).bind fun t220 => (if t220 = true then ((spec_l01In.f a0_5 0 5).bind fun t221 => (spec_TaskOK.j0 k (!t221) a0_0 a0_1 a0_2 a0_3 a0_4 a0_5)) else (spec_TaskOK.j0 k true a0_0 a0_1 a0_2 a0_3 a0_4 a0_5))) else (spec_TaskOK.j0 k true a0_0 a0_1 a0_2 a0_3 a0_4 a0_5))) else (spec_TaskOK.j0 k true a0_0 a0_1 a0_2 a0_3 a0_4 a0_5)) = some r := H
  have A4 := zQ A40
  clear A40
  by_cases c5 : t218 = true
  ·subst c5
   have H1 : ((spec_l01In.f a0_2 1 5000).bind fun t219 => (if t219 = true then ((spec_l01In.f a0_4 1 4).bind fun t220 => (if t220 = true then ((spec_l01In.f a0_5 0 5).bind fun t221 => (spec_TaskOK.j0 k (!t221) a0_0 a0_1 a0_2 a0_3 a0_4 a0_5)) else (spec_TaskOK.j0 k true a0_0 a0_1 a0_2 a0_3 a0_4 a0_5))) else (spec_TaskOK.j0 k true a0_0 a0_1 a0_2 a0_3 a0_4 a0_5))) = some r := by rw [if_pos rfl] at H; exact H
   clear H
   have H := H1
   clear H1
   replace H := Option.bind_eq_some_iff.mp H
   obtain ⟨t219, A60, H⟩ := H
   replace H : (if t219 = true then ((spec_l01In.f a0_4 1 4).bind fun t220 => (if t220 = true then ((spec_l01In.f a0_5 0 5).bind fun t221 => (spec_TaskOK.j0 k (!t221) a0_0 a0_1 a0_2 a0_3 a0_4 a0_5)) else (spec_TaskOK.j0 k true a0_0 a0_1 a0_2 a0_3 a0_4 a0_5))) else (spec_TaskOK.j0 k true a0_0 a0_1 a0_2 a0_3 a0_4 a0_5)) = some r := H
   have A6 := zQ A60
   clear A60
   by_cases c7 : t219 = true
   ·subst c7
    have H1 : ((spec_l01In.f a0_4 1 4).bind fun t220 => (if t220 = true then ((spec_l01In.f a0_5 0 5).bind fun t221 => (spec_TaskOK.j0 k (!t221) a0_0 a0_1 a0_2 a0_3 a0_4 a0_5)) else (spec_TaskOK.j0 k true a0_0 a0_1 a0_2 a0_3 a0_4 a0_5))) = some r := by rw [if_pos rfl] at H; exact H
    clear H
    have H := H1
    clear H1
    replace H := Option.bind_eq_some_iff.mp H
    obtain ⟨t220, A80, H⟩ := H
    replace H : (if t220 = true then ((spec_l01In.f a0_5 0 5).bind fun t221 => (spec_TaskOK.j0 k (!t221) a0_0 a0_1 a0_2 a0_3 a0_4 a0_5)) else (spec_TaskOK.j0 k true a0_0 a0_1 a0_2 a0_3 a0_4 a0_5)) = some r := H
    have A8 := zQ A80
    clear A80
    by_cases c9 : t220 = true
    ·subst c9
     have H1 : ((spec_l01In.f a0_5 0 5).bind fun t221 => (spec_TaskOK.j0 k (!t221) a0_0 a0_1 a0_2 a0_3 a0_4 a0_5)) = some r := by rw [if_pos rfl] at H; exact H
     clear H
     have H := H1
     clear H1
     replace H := Option.bind_eq_some_iff.mp H
     obtain ⟨t221, A100, H⟩ := H
     replace H : (spec_TaskOK.j0 k (!t221) a0_0 a0_1 a0_2 a0_3 a0_4 a0_5) = some r := H
     have A10 := zQ A100
     clear A100
     have H' := zQ H
     clear H
     obtain ⟨hcz11_0, hcz11_1, hcz11_2, hcz11_3, hcz11_4, hcz11_5, hfz11_0, hfz11_1, hfz11_2, hfz11_3, hfz11_4, hfz11_5⟩ := zc6 BK217.out
     go_wp2_with (first | ((with_reducible refine gate_callee (f := 78) rfl ?_); refine goesL_ (some 5) rfl rfl Try.func78 (by kernel_rfl) rfl #[.int .i64 a0_1, .int .i64 1, .int .i64 5000] rfl zS ?_; (with_reducible refine (spec_l01In.calls a0_1 1 5000 true _ A4.out).mono ?_); rintro e w' ⟨rfl, ⟨nd, rfl⟩⟩; refine ⟨_, rfl, ?_⟩) | (go_at_call 78; (with_reducible refine (spec_l01In.calls a0_2 1 5000 true _ A6.out).mono ?_); rintro e w' ⟨rfl, ⟨nd, rfl⟩⟩) | (go_at_call 78; (with_reducible refine (spec_l01In.calls a0_4 1 4 true _ A8.out).mono ?_); rintro e w' ⟨rfl, ⟨nd, rfl⟩⟩) | (go_at_call 78; (with_reducible refine (spec_l01In.calls a0_5 0 5 t221 _ A10.out).mono ?_); rintro e w' ⟨rfl, ⟨nd, rfl⟩⟩))
     go_meet
     case rel => exact ⟨_, (!t221), (by first | rfl | (simp; done) | (simp [*]; done)), H', ⟨by first | omega | exact Nat.le_refl _⟩, ⟨by (with_reducible repeat (first | refine blk_drewN ?_ _ | refine blk_drew ?_ | refine blk_alloc ?_ _)); exact BK217.out⟩, ⟨zB HB.out⟩⟩
    ·replace c9 := Bool.eq_false_iff.mpr c9
     subst c9
     have H1 : (spec_TaskOK.j0 k true a0_0 a0_1 a0_2 a0_3 a0_4 a0_5) = some r := by rw [if_neg (show ¬ (false = true) by decide)] at H; exact H
     clear H
     have H := H1
     clear H1
     have H' := zQ H
     clear H
     obtain ⟨hcz12_0, hcz12_1, hcz12_2, hcz12_3, hcz12_4, hcz12_5, hfz12_0, hfz12_1, hfz12_2, hfz12_3, hfz12_4, hfz12_5⟩ := zc6 BK217.out
     go_wp2_with (first | ((with_reducible refine gate_callee (f := 78) rfl ?_); refine goesL_ (some 5) rfl rfl Try.func78 (by kernel_rfl) rfl #[.int .i64 a0_1, .int .i64 1, .int .i64 5000] rfl zS ?_; (with_reducible refine (spec_l01In.calls a0_1 1 5000 true _ A4.out).mono ?_); rintro e w' ⟨rfl, ⟨nd, rfl⟩⟩; refine ⟨_, rfl, ?_⟩) | (go_at_call 78; (with_reducible refine (spec_l01In.calls a0_2 1 5000 true _ A6.out).mono ?_); rintro e w' ⟨rfl, ⟨nd, rfl⟩⟩) | (go_at_call 78; (with_reducible refine (spec_l01In.calls a0_4 1 4 false _ A8.out).mono ?_); rintro e w' ⟨rfl, ⟨nd, rfl⟩⟩))
     go_meet
     case rel => exact ⟨_, (true), (by first | rfl | (simp; done) | (simp [*]; done)), H', ⟨by first | omega | exact Nat.le_refl _⟩, ⟨by (with_reducible repeat (first | refine blk_drewN ?_ _ | refine blk_drew ?_ | refine blk_alloc ?_ _)); exact BK217.out⟩, ⟨zB HB.out⟩⟩
   ·replace c7 := Bool.eq_false_iff.mpr c7
    subst c7
    have H1 : (spec_TaskOK.j0 k true a0_0 a0_1 a0_2 a0_3 a0_4 a0_5) = some r := by rw [if_neg (show ¬ (false = true) by decide)] at H; exact H
    clear H
    have H := H1
    clear H1
    have H' := zQ H
    clear H
    obtain ⟨hcz13_0, hcz13_1, hcz13_2, hcz13_3, hcz13_4, hcz13_5, hfz13_0, hfz13_1, hfz13_2, hfz13_3, hfz13_4, hfz13_5⟩ := zc6 BK217.out
    go_wp2_with (first | ((with_reducible refine gate_callee (f := 78) rfl ?_); refine goesL_ (some 5) rfl rfl Try.func78 (by kernel_rfl) rfl #[.int .i64 a0_1, .int .i64 1, .int .i64 5000] rfl zS ?_; (with_reducible refine (spec_l01In.calls a0_1 1 5000 true _ A4.out).mono ?_); rintro e w' ⟨rfl, ⟨nd, rfl⟩⟩; refine ⟨_, rfl, ?_⟩) | (go_at_call 78; (with_reducible refine (spec_l01In.calls a0_2 1 5000 false _ A6.out).mono ?_); rintro e w' ⟨rfl, ⟨nd, rfl⟩⟩))
    go_meet
    case rel => exact ⟨_, (true), (by first | rfl | (simp; done) | (simp [*]; done)), H', ⟨by first | omega | exact Nat.le_refl _⟩, ⟨by (with_reducible repeat (first | refine blk_drewN ?_ _ | refine blk_drew ?_ | refine blk_alloc ?_ _)); exact BK217.out⟩, ⟨zB HB.out⟩⟩
  ·replace c5 := Bool.eq_false_iff.mpr c5
   subst c5
   have H1 : (spec_TaskOK.j0 k true a0_0 a0_1 a0_2 a0_3 a0_4 a0_5) = some r := by rw [if_neg (show ¬ (false = true) by decide)] at H; exact H
   clear H
   have H := H1
   clear H1
   have H' := zQ H
   clear H
   obtain ⟨hcz14_0, hcz14_1, hcz14_2, hcz14_3, hcz14_4, hcz14_5, hfz14_0, hfz14_1, hfz14_2, hfz14_3, hfz14_4, hfz14_5⟩ := zc6 BK217.out
   go_wp2_with (first | ((with_reducible refine gate_callee (f := 78) rfl ?_); refine goesL_ (some 5) rfl rfl Try.func78 (by kernel_rfl) rfl #[.int .i64 a0_1, .int .i64 1, .int .i64 5000] rfl zS ?_; (with_reducible refine (spec_l01In.calls a0_1 1 5000 false _ A4.out).mono ?_); rintro e w' ⟨rfl, ⟨nd, rfl⟩⟩; refine ⟨_, rfl, ?_⟩))
   go_meet
   case rel => exact ⟨_, (true), (by first | rfl | (simp; done) | (simp [*]; done)), H', ⟨by first | omega | exact Nat.le_refl _⟩, ⟨by (with_reducible repeat (first | refine blk_drewN ?_ _ | refine blk_drew ?_ | refine blk_alloc ?_ _)); exact BK217.out⟩, ⟨zB HB.out⟩⟩
 case rest =>
  clear HC2
  try clear c1
  try clear p2
  try clear c5
  try clear c7
  try clear c9
  try clear hcz11_0
  try clear hcz11_1
  try clear hcz11_2
  try clear hcz11_3
  try clear hcz11_4
  try clear hcz11_5
  try clear hcz12_0
  try clear hcz12_1
  try clear hcz12_2
  try clear hcz12_3
  try clear hcz12_4
  try clear hcz12_5
  try clear hcz13_0
  try clear hcz13_1
  try clear hcz13_2
  try clear hcz13_3
  try clear hcz13_4
  try clear hcz13_5
  try clear hcz14_0
  try clear hcz14_1
  try clear hcz14_2
  try clear hcz14_3
  try clear hcz14_4
  try clear hcz14_5
  try clear hfz11_0
  try clear hfz11_1
  try clear hfz11_2
  try clear hfz11_3
  try clear hfz11_4
  try clear hfz11_5
  try clear hfz12_0
  try clear hfz12_1
  try clear hfz12_2
  try clear hfz12_3
  try clear hfz12_4
  try clear hfz12_5
  try clear hfz13_0
  try clear hfz13_1
  try clear hfz13_2
  try clear hfz13_3
  try clear hfz13_4
  try clear hfz13_5
  try clear hfz14_0
  try clear hfz14_1
  try clear hfz14_2
  try clear hfz14_3
  try clear hfz14_4
  try clear hfz14_5
  obtain ⟨kq, x24_1, rfl, HA, HJ1, BK217, HB⟩ := hcut
  cases kq with
  | zero => exact absurd HA.out (by simp [spec_TaskOK.j0])
  | succ kj1 =>
   have H := HA.out
   clear HA
   simp only [spec_TaskOK.j0] at H
   by_cases c15 : x24_1 = true
   ·subst c15
    have H1 : (some false) = some r := by rw [if_pos rfl] at H; exact H
    clear H
    have H := H1
    clear H1
    obtain rfl := Option.some.inj H
    go_wp2
    go_ret
    exact ⟨by first | rfl | (simp [errW_none, errW_some] <;> rfl) | (simp [*, errW_none, errW_some] <;> rfl), zB HB.out⟩
   ·replace c15 := Bool.eq_false_iff.mpr c15
    subst c15
    have H1 : (if a0_0 = 1 then (if a0_3 = 0 then (if a0_4 = 1 then (some (decide (a0_2 ≤ a0_1))) else (some false)) else (some false)) else (if a0_0 = 2 then ((spec_l01In.f a0_3 0 7).bind fun t222 => (some t222)) else (some false))) = some r := by rw [if_neg (show ¬ (false = true) by decide)] at H; exact H
    clear H
    have H := H1
    clear H1
    by_cases c16 : a0_0 = 1
    ·rw [if_pos c16] at H
     have c16b0 : (a0_0 == 1) = true := beq_iff_eq.mpr c16
     have c16b1 : (a0_0 != 1) = false := bne_eq_false_iff_eq.mpr c16
     clear c16
     by_cases c17 : a0_3 = 0
     ·rw [if_pos c17] at H
      have c17b0 : (a0_3 == 0) = true := beq_iff_eq.mpr c17
      have c17b1 : (a0_3 != 0) = false := bne_eq_false_iff_eq.mpr c17
      clear c17
      by_cases c18 : a0_4 = 1
      ·rw [if_pos c18] at H
       have c18b0 : (a0_4 == 1) = true := beq_iff_eq.mpr c18
       have c18b1 : (a0_4 != 1) = false := bne_eq_false_iff_eq.mpr c18
       clear c18
       obtain rfl := Option.some.inj H
       obtain ⟨hcz19_0, hcz19_1, hcz19_2, hcz19_3, hcz19_4, hcz19_5, hfz19_0, hfz19_1, hfz19_2, hfz19_3, hfz19_4, hfz19_5⟩ := zc6 BK217.out
       go_wp2
       go_ret
       exact ⟨by first | rfl | (simp [errW_none, errW_some] <;> rfl) | (simp [*, errW_none, errW_some] <;> rfl), zB HB.out⟩
      ·rw [if_neg c18] at H
       have c18b0 : (a0_4 == 1) = false := beq_eq_false_iff_ne.mpr c18
       have c18b1 : (a0_4 != 1) = true := bne_iff_ne.mpr c18
       obtain rfl := Option.some.inj H
       obtain ⟨hcz20_0, hcz20_1, hcz20_2, hcz20_3, hcz20_4, hcz20_5, hfz20_0, hfz20_1, hfz20_2, hfz20_3, hfz20_4, hfz20_5⟩ := zc6 BK217.out
       go_wp2
       go_ret
       exact ⟨by first | rfl | (simp [errW_none, errW_some] <;> rfl) | (simp [*, errW_none, errW_some] <;> rfl), zB HB.out⟩
     ·rw [if_neg c17] at H
      have c17b0 : (a0_3 == 0) = false := beq_eq_false_iff_ne.mpr c17
      have c17b1 : (a0_3 != 0) = true := bne_iff_ne.mpr c17
      obtain rfl := Option.some.inj H
      obtain ⟨hcz21_0, hcz21_1, hcz21_2, hcz21_3, hcz21_4, hcz21_5, hfz21_0, hfz21_1, hfz21_2, hfz21_3, hfz21_4, hfz21_5⟩ := zc6 BK217.out
      go_wp2
      go_ret
      exact ⟨by first | rfl | (simp [errW_none, errW_some] <;> rfl) | (simp [*, errW_none, errW_some] <;> rfl), zB HB.out⟩
    ·rw [if_neg c16] at H
     have c16b0 : (a0_0 == 1) = false := beq_eq_false_iff_ne.mpr c16
     have c16b1 : (a0_0 != 1) = true := bne_iff_ne.mpr c16
     by_cases c22 : a0_0 = 2
     ·rw [if_pos c22] at H
      have c22b0 : (a0_0 == 2) = true := beq_iff_eq.mpr c22
      have c22b1 : (a0_0 != 2) = false := bne_eq_false_iff_eq.mpr c22
      clear c22
      replace H := Option.bind_eq_some_iff.mp H
      obtain ⟨t222, A230, H⟩ := H
      replace H : (some t222) = some r := H
      have A23 := zQ A230
      clear A230
      obtain rfl := Option.some.inj H
      obtain ⟨hcz24_0, hcz24_1, hcz24_2, hcz24_3, hcz24_4, hcz24_5, hfz24_0, hfz24_1, hfz24_2, hfz24_3, hfz24_4, hfz24_5⟩ := zc6 BK217.out
      go_wp2_with (first | (go_at_call 78; (with_reducible refine (spec_l01In.calls a0_3 0 7 t222 _ A23.out).mono ?_); rintro e w' ⟨rfl, ⟨nd, rfl⟩⟩))
      go_ret
      exact ⟨by first | rfl | (simp [errW_none, errW_some] <;> rfl) | (simp [*, errW_none, errW_some] <;> rfl), zB HB.out⟩
     ·rw [if_neg c22] at H
      have c22b0 : (a0_0 == 2) = false := beq_eq_false_iff_ne.mpr c22
      have c22b1 : (a0_0 != 2) = true := bne_iff_ne.mpr c22
      obtain rfl := Option.some.inj H
      obtain ⟨hcz25_0, hcz25_1, hcz25_2, hcz25_3, hcz25_4, hcz25_5, hfz25_0, hfz25_1, hfz25_2, hfz25_3, hfz25_4, hfz25_5⟩ := zc6 BK217.out
      go_wp2
      go_ret
      exact ⟨by first | rfl | (simp [errW_none, errW_some] <;> rfl) | (simp [*, errW_none, errW_some] <;> rfl), zB HB.out⟩

end Go.Proofs.Ytkegjmkdnfpfdaa.MFnExactImageText

-- By a program of this session.
import Derived.Test.YtkegjmkdnfpfdaaMFnExactCostsOfx0
import Derived.Test.YtkegjmkdnfpfdaaMFnExactCostsOfx1
import Derived.Test.YtkegjmkdnfpfdaaMFnExactCostsOfx2
import Derived.Test.YtkegjmkdnfpfdaaMFnExactCostsOfx3
import Derived.Test.YtkegjmkdnfpfdaaMFnExactCostsOfx7
import Derived.Test.YtkegjmkdnfpfdaaMFnExactCostsOfx8
import Derived.Test.YtkegjmkdnfpfdaaMFnExactCostsOfx26
import Derived.Test.YtkegjmkdnfpfdaaMFnExactCostsOfx41
import Derived.Test.YtkegjmkdnfpfdaaMFnExactCostsOfx42
import Derived.Test.YtkegjmkdnfpfdaaMFnExactCostsOfx43
import Derived.Test.YtkegjmkdnfpfdaaMFnExactCostsOfx44
namespace Go.Proofs.Ytkegjmkdnfpfdaa.MFnExactCostsOf
open Go.RowKit Go.Proofs.YtkegjmkdnfpfdaaW.PrintWords Go.Proofs.YtkegjmkdnfpfdaaW.PrintLast Go.Proofs.YtkegjmkdnfpfdaaW.PrintMore
attribute [local go_sem] max2_int min2_int max_two min_two max_three min_three max_four min_four
set_option linter.unusedVariables false
set_option linter.unusedSimpArgs false
set_option maxHeartbeats 8000000
set_option maxRecDepth 100000

/-! ### laws_FnExactCostsOf: function 8 -/
mutual
def laws_FnExactCostsOf.j0 : Nat → List (S117) → List Int → List (S144) → Int → List (S124) → List Int → List (S144) → Int → Bool → Option (Bool)
 | 0, _, _, _, _, _, _, _, _, _ => none
 | k + 1, x0, x1, x6, x7, x8, x9, x10, x11, x51 => if x51 = true then (some false) else ((laws_toRoutineS.f k x0).bind fun t628 => ((laws_eqRoutineS.f k x8 t628).bind fun t631 => (if t631 = true then ((laws_toIntS.f k x1).bind fun t632 => ((laws_eqIntS.f k x9 t632).bind fun t635 => (if t635 = true then ((laws_markRoutineS.f x8 1).bind fun t636 => ((laws_markIntS.f k x9 t636).bind fun bt637 => (if bt637.1 < 0 then (laws_FnExactCostsOf.j1 k x0 x1 x6 x7 x10 true) else ((laws_eqSummaryS.f k x10 x6).bind fun t639 => (if t639 = true then (laws_FnExactCostsOf.j1 k x0 x1 x6 x7 x10 (x11 != x7)) else (laws_FnExactCostsOf.j1 k x0 x1 x6 x7 x10 true)))))) else (some false)))) else (some false))))
def laws_FnExactCostsOf.j1 : Nat → List (S117) → List Int → List (S144) → Int → List (S144) → Bool → Option (Bool)
 | 0, _, _, _, _, _, _ => none
 | k + 1, x0, x1, x6, x7, x10, x80 => if x80 = true then (some false) else ((laws_markSummaryS.f k x10 1).bind fun bt640 => ((laws_heldSummaryS.f k bt640.2 1).bind fun t642 => (if t642 < 0 then (some false) else (if t642 = bt640.1 then ((laws_toRoutineS.f k x0).bind fun t643 => ((laws_toIntS.f k x1).bind fun t646 => ((impl_CostsOf.f k t643 t646).bind fun bt649 => ((laws_eqSummaryS.f k bt649.1 x6).bind fun t653 => (if t653 = true then (laws_FnExactCostsOf.j2 k bt640.2 bt640.1 (bt649.2 != x7)) else (laws_FnExactCostsOf.j2 k bt640.2 bt640.1 true)))))) else (some false)))))
def laws_FnExactCostsOf.j2 : Nat → List (S144) → Int → Bool → Option (Bool)
 | 0, _, _, _ => none
 | k + 1, x10, x13, x108 => if x108 = true then (some false) else ((laws_heldSummaryS.f k x10 1).bind fun t654 => (if t654 < 0 then (some false) else (if t654 = x13 then (some true) else (some false))))
end
def laws_FnExactCostsOf.f (k : Nat) (l0 : List (S117)) (l1 : List Int) : Option (Bool) := if (l1.length : Int) > 1048576 then (some true) else ((laws_szRoutineS.f k l0 1048576).bind fun t606 => (if t606 < 0 then (some true) else ((laws_toRoutineS.f k l0).bind fun t607 => ((laws_toIntS.f k l1).bind fun t610 => ((spec_CostsOf.f k t607 t610).bind fun bt613 => ((laws_toRoutineS.f k l0).bind fun t617 => ((laws_toIntS.f k l1).bind fun t620 => ((impl_CostsOf.f k t617 t620).bind fun bt623 => ((laws_eqSummaryS.f k bt623.1 bt613.1).bind fun t627 => (if t627 = true then (laws_FnExactCostsOf.j0 k l0 l1 bt613.1 bt613.2 t617 t620 bt623.1 bt623.2 (bt623.2 != bt613.2)) else (laws_FnExactCostsOf.j0 k l0 l1 bt613.1 bt613.2 t617 t620 bt623.1 bt623.2 true)))))))))))
theorem laws_FnExactCostsOf.mono_l : ∀ k, (∀ y0 y1 y2 y3 y4 y5 y6 y7 y8, LeO (laws_FnExactCostsOf.j0 k y0 y1 y2 y3 y4 y5 y6 y7 y8) (laws_FnExactCostsOf.j0 (k + 1) y0 y1 y2 y3 y4 y5 y6 y7 y8)) ∧ (∀ y0 y1 y2 y3 y4 y5, LeO (laws_FnExactCostsOf.j1 k y0 y1 y2 y3 y4 y5) (laws_FnExactCostsOf.j1 (k + 1) y0 y1 y2 y3 y4 y5)) ∧ (∀ y0 y1 y2, LeO (laws_FnExactCostsOf.j2 k y0 y1 y2) (laws_FnExactCostsOf.j2 (k + 1) y0 y1 y2))
 | 0 => ⟨fun _ _ _ _ _ _ _ _ _ r h => by simp [laws_FnExactCostsOf.j0] at h, fun _ _ _ _ _ _ r h => by simp [laws_FnExactCostsOf.j1] at h, fun _ _ _ r h => by simp [laws_FnExactCostsOf.j2] at h⟩
 | k + 1 => by
  obtain ⟨ih0, ih1, ih2⟩ := laws_FnExactCostsOf.mono_l k
  refine ⟨?_, ?_, ?_⟩
  ·intro y0 y1 y2 y3 y4 y5 y6 y7 y8
   unfold laws_FnExactCostsOf.j0
   repeat' first
   | (with_reducible exact ih0 _ _ _ _ _ _ _ _ _)
   | (with_reducible exact ih1 _ _ _ _ _ _)
   | (with_reducible exact ih2 _ _ _)
   | (with_reducible exact impl_CostsOf.mono _ _ _)
   | (with_reducible exact laws_eqIntS.mono _ _ _)
   | (with_reducible exact laws_eqRoutineS.mono _ _ _)
   | (with_reducible exact laws_eqSummaryS.mono _ _ _)
   | (with_reducible exact laws_heldSummaryS.mono _ _ _)
   | (with_reducible exact laws_markIntS.mono _ _ _)
   | (with_reducible exact laws_markSummaryS.mono _ _ _)
   | (with_reducible exact laws_szRoutineS.mono _ _ _)
   | (with_reducible exact laws_toIntS.mono _ _)
   | (with_reducible exact laws_toRoutineS.mono _ _)
   | (with_reducible exact spec_CostsOf.mono _ _ _)
   | (with_reducible exact LeO.refl _)
   | (with_reducible exact LeO.none _)
   | (with_reducible refine LeO.ite ?_ ?_)
   | (with_reducible refine LeO.bind ?_ (fun _ => ?_))
  ·intro y0 y1 y2 y3 y4 y5
   unfold laws_FnExactCostsOf.j1
   repeat' first
   | (with_reducible exact ih0 _ _ _ _ _ _ _ _ _)
   | (with_reducible exact ih1 _ _ _ _ _ _)
   | (with_reducible exact ih2 _ _ _)
   | (with_reducible exact impl_CostsOf.mono _ _ _)
   | (with_reducible exact laws_eqIntS.mono _ _ _)
   | (with_reducible exact laws_eqRoutineS.mono _ _ _)
   | (with_reducible exact laws_eqSummaryS.mono _ _ _)
   | (with_reducible exact laws_heldSummaryS.mono _ _ _)
   | (with_reducible exact laws_markIntS.mono _ _ _)
   | (with_reducible exact laws_markSummaryS.mono _ _ _)
   | (with_reducible exact laws_szRoutineS.mono _ _ _)
   | (with_reducible exact laws_toIntS.mono _ _)
   | (with_reducible exact laws_toRoutineS.mono _ _)
   | (with_reducible exact spec_CostsOf.mono _ _ _)
   | (with_reducible exact LeO.refl _)
   | (with_reducible exact LeO.none _)
   | (with_reducible refine LeO.ite ?_ ?_)
   | (with_reducible refine LeO.bind ?_ (fun _ => ?_))
  ·intro y0 y1 y2
   unfold laws_FnExactCostsOf.j2
   repeat' first
   | (with_reducible exact ih0 _ _ _ _ _ _ _ _ _)
   | (with_reducible exact ih1 _ _ _ _ _ _)
   | (with_reducible exact ih2 _ _ _)
   | (with_reducible exact impl_CostsOf.mono _ _ _)
   | (with_reducible exact laws_eqIntS.mono _ _ _)
   | (with_reducible exact laws_eqRoutineS.mono _ _ _)
   | (with_reducible exact laws_eqSummaryS.mono _ _ _)
   | (with_reducible exact laws_heldSummaryS.mono _ _ _)
   | (with_reducible exact laws_markIntS.mono _ _ _)
   | (with_reducible exact laws_markSummaryS.mono _ _ _)
   | (with_reducible exact laws_szRoutineS.mono _ _ _)
   | (with_reducible exact laws_toIntS.mono _ _)
   | (with_reducible exact laws_toRoutineS.mono _ _)
   | (with_reducible exact spec_CostsOf.mono _ _ _)
   | (with_reducible exact LeO.refl _)
   | (with_reducible exact LeO.none _)
   | (with_reducible refine LeO.ite ?_ ?_)
   | (with_reducible refine LeO.bind ?_ (fun _ => ?_))
theorem laws_FnExactCostsOf.mono : ∀ a0 a1 k, LeO (laws_FnExactCostsOf.f k a0 a1) (laws_FnExactCostsOf.f (k + 1) a0 a1) := by
 intro a0 a1 k
 obtain ⟨ih0, ih1, ih2⟩ := laws_FnExactCostsOf.mono_l k
 unfold laws_FnExactCostsOf.f
 repeat' first
  | (with_reducible exact ih0 _ _ _ _ _ _ _ _ _)
  | (with_reducible exact ih1 _ _ _ _ _ _)
  | (with_reducible exact ih2 _ _ _)
  | (with_reducible exact impl_CostsOf.mono _ _ _)
  | (with_reducible exact laws_eqIntS.mono _ _ _)
  | (with_reducible exact laws_eqRoutineS.mono _ _ _)
  | (with_reducible exact laws_eqSummaryS.mono _ _ _)
  | (with_reducible exact laws_heldSummaryS.mono _ _ _)
  | (with_reducible exact laws_markIntS.mono _ _ _)
  | (with_reducible exact laws_markSummaryS.mono _ _ _)
  | (with_reducible exact laws_szRoutineS.mono _ _ _)
  | (with_reducible exact laws_toIntS.mono _ _)
  | (with_reducible exact laws_toRoutineS.mono _ _)
  | (with_reducible exact spec_CostsOf.mono _ _ _)
  | (with_reducible exact LeO.refl _)
  | (with_reducible exact LeO.none _)
  | (with_reducible refine LeO.ite ?_ ?_)
  | (with_reducible refine LeO.bind ?_ (fun _ => ?_))
theorem laws_FnExactCostsOf.calls (k : Nat) (A0 : Option Addr) (c0 : Nat) (l0 : List (S117)) (A1 : Option Addr) (c1 : Nat) (l1 : List Int) (r : Bool) (w : World) (hr0 : Kd.C k117 w A0 l0.length l0) (hc0 : l0.length ≤ c0) (hr1 : Kd.C (Kd.int .i64) w A1 l1.length l1) (hc1 : l1.length ≤ c1) (h : laws_FnExactCostsOf.f k l0 l1 = some r) (hlaw0 : r = true) :
 Calls Try.prog 8 #[.slice A0 l0.length c0, .slice A1 l1.length c1] w fun e w' => e = .returned (.bool r) ∧ Below w.heap.size w w' := by
 have HR0 := zQ hr0
 have HC0 := zQ hc0
 clear hr0 hc0
 have HR1 := zQ hr1
 have HC1 := zQ hc1
 clear hr1 hc1
 have HB := zQ (Below.refl w.heap.size w)
 have hlaw_ := zQ hlaw0
 clear hlaw0
 have H : (if (l1.length : Int) > 1048576 then (some true) else ((laws_szRoutineS.f k l0 1048576).bind fun t606 => (if t606 < 0 then (some true) else ((laws_toRoutineS.f k l0).bind fun t607 => ((laws_toIntS.f k l1).bind fun t610 => ((spec_CostsOf.f k t607 t610).bind fun bt613 => ((laws_toRoutineS.f k l0).bind fun t617 => ((laws_toIntS.f k l1).bind fun t620 => ((impl_CostsOf.f k t617 t620).bind fun bt623 => ((laws_eqSummaryS.f k bt623.1 bt613.1).bind fun t627 => (if t627 = true then (laws_FnExactCostsOf.j0 k l0 l1 bt613.1 bt613.2 t617 t620 bt623.1 bt623.2 (bt623.2 != bt613.2)) else (laws_FnExactCostsOf.j0 k l0 l1 bt613.1 bt613.2 t617 t620 bt623.1 bt623.2 true)))))))))))) = some r := h
 clear h
 by_cases c3 : (l1.length : Int) > 1048576
 ·rw [if_pos c3] at H
  have c3b0 : decide (1048576 < (l1.length : Int)) = true := decide_eq_true c3
  have c3b1 : decide (1048576 < l1.length) = true := decide_eq_true (by omega)
  clear c3
  obtain rfl := Option.some.inj H
  go_enter Try.func8, Try.ntmps8
  go_wp2
  go_ret
  exact ⟨by first | rfl | (simp [errW_none, errW_some] <;> rfl) | (simp [*, errW_none, errW_some] <;> rfl), zB HB.out⟩
 ·rw [if_neg c3] at H
  have c3b0 : decide (1048576 < (l1.length : Int)) = false := decide_eq_false c3
  have c3b1 : decide (1048576 < l1.length) = false := decide_eq_false (by omega)
  clear c3
  replace H := Option.bind_eq_some_iff.mp H
  obtain ⟨t606, A40, H⟩ := H
  replace H : (if t606 < 0 then (some true) else ((laws_toRoutineS.f k l0).bind fun t607 => ((laws_toIntS.f k l1).bind fun t610 => ((spec_CostsOf.f k t607 t610).bind fun bt613 => ((laws_toRoutineS.f k l0).bind fun t617 => ((laws_toIntS.f k l1).bind fun t620 => ((impl_CostsOf.f k t617 t620).bind fun bt623 => ((laws_eqSummaryS.f k bt623.1 bt613.1).bind fun t627 => (if t627 = true then (laws_FnExactCostsOf.j0 k l0 l1 bt613.1 bt613.2 t617 t620 bt623.1 bt623.2 (bt623.2 != bt613.2)) else (laws_FnExactCostsOf.j0 k l0 l1 bt613.1 bt613.2 t617 t620 bt623.1 bt623.2 true)))))))))) = some r := H
  have A4 := zQ A40
  clear A40
  by_cases c5 : t606 < 0
  ·rw [if_pos c5] at H
   have c5b0 : decide (t606 < 0) = true := decide_eq_true c5
   clear c5
   obtain rfl := Option.some.inj H
   go_enter Try.func8, Try.ntmps8
   go_wp2_with (first | ((with_reducible refine gate_callee (f := 27) rfl ?_); refine goesL_ (some 22) rfl rfl Try.func27 (by kernel_rfl) rfl #[.slice A0 l0.length c0, .int .i64 1048576] rfl zS ?_; (with_reducible refine (laws_szRoutineS.calls k _ _ l0 1048576 t606 _ ?side1 ?side2 A4.out).mono ?_); (case side1 => repeat (first | exact HR0.out | (with_reducible refine Kd.C_alloc ?_ _) | (with_reducible refine Kd.C_drewN ?_ _) | (with_reducible refine Kd.C_drew ?_))); (case side2 => exact HC0.out); rintro e w6 ⟨rfl, hb⟩; refine ⟨_, rfl, ?_⟩; have n0_ := zQ (below_step (zB HB.out) hb); clear HB; have HB := n0_; clear n0_; (try clear hb); (try clear hb2); (try clear hk); (try clear hi)))
   go_ret
   exact ⟨by first | rfl | (simp [errW_none, errW_some] <;> rfl) | (simp [*, errW_none, errW_some] <;> rfl), zB HB.out⟩
  ·rw [if_neg c5] at H
   have c5b0 : decide (t606 < 0) = false := decide_eq_false c5
   clear c5
   replace H := Option.bind_eq_some_iff.mp H
   obtain ⟨t607, A70, H⟩ := H
   replace H : ((laws_toIntS.f k l1).bind fun t610 => ((spec_CostsOf.f k t607 t610).bind fun bt613 => ((laws_toRoutineS.f k l0).bind fun t617 => ((laws_toIntS.f k l1).bind fun t620 => ((impl_CostsOf.f k t617 t620).bind fun bt623 => ((laws_eqSummaryS.f k bt623.1 bt613.1).bind fun t627 => (if t627 = true then (laws_FnExactCostsOf.j0 k l0 l1 bt613.1 bt613.2 t617 t620 bt623.1 bt623.2 (bt623.2 != bt613.2)) else (laws_FnExactCostsOf.j0 k l0 l1 bt613.1 bt613.2 t617 t620 bt623.1 bt623.2 true)))))))) = some r := H
   have A7 := zQ A70
   clear A70
   replace H := Option.bind_eq_some_iff.mp H
   obtain ⟨t610, A80, H⟩ := H
   replace H : ((spec_CostsOf.f k t607 t610).bind fun bt613 => ((laws_toRoutineS.f k l0).bind fun t617 => ((laws_toIntS.f k l1).bind fun t620 => ((impl_CostsOf.f k t617 t620).bind fun bt623 => ((laws_eqSummaryS.f k bt623.1 bt613.1).bind fun t627 => (if t627 = true then (laws_FnExactCostsOf.j0 k l0 l1 bt613.1 bt613.2 t617 t620 bt623.1 bt623.2 (bt623.2 != bt613.2)) else (laws_FnExactCostsOf.j0 k l0 l1 bt613.1 bt613.2 t617 t620 bt623.1 bt623.2 true))))))) = some r := H
   have A8 := zQ A80
   clear A80
   replace H := Option.bind_eq_some_iff.mp H
   obtain ⟨⟨t613, t614⟩, A90, H⟩ := H
   replace H : ((laws_toRoutineS.f k l0).bind fun t617 => ((laws_toIntS.f k l1).bind fun t620 => ((impl_CostsOf.f k t617 t620).bind fun bt623 => ((laws_eqSummaryS.f k bt623.1 t613).bind fun t627 => (if t627 = true then (laws_FnExactCostsOf.j0 k l0 l1 t613 t614 t617 t620 bt623.1 bt623.2 (bt623.2 != t614)) else (laws_FnExactCostsOf.j0 k l0 l1 t613 t614 t617 t620 bt623.1 bt623.2 true)))))) = some r := H
   have A9 := zQ A90
   clear A90
   replace H := Option.bind_eq_some_iff.mp H
   obtain ⟨t617, A100, H⟩ := H
   replace H : ((laws_toIntS.f k l1).bind fun t620 => ((impl_CostsOf.f k t617 t620).bind fun bt623 => ((laws_eqSummaryS.f k bt623.1 t613).bind fun t627 => (if t627 = true then (laws_FnExactCostsOf.j0 k l0 l1 t613 t614 t617 t620 bt623.1 bt623.2 (bt623.2 != t614)) else (laws_FnExactCostsOf.j0 k l0 l1 t613 t614 t617 t620 bt623.1 bt623.2 true))))) = some r := H
   have A10 := zQ A100
   clear A100
   replace H := Option.bind_eq_some_iff.mp H
   obtain ⟨t620, A110, H⟩ := H
   replace H : ((impl_CostsOf.f k t617 t620).bind fun bt623 => ((laws_eqSummaryS.f k bt623.1 t613).bind fun t627 => (if t627 = true then (laws_FnExactCostsOf.j0 k l0 l1 t613 t614 t617 t620 bt623.1 bt623.2 (bt623.2 != t614)) else (laws_FnExactCostsOf.j0 k l0 l1 t613 t614 t617 t620 bt623.1 bt623.2 true)))) = some r := H
   have A11 := zQ A110
   clear A110
   replace H := Option.bind_eq_some_iff.mp H
   obtain ⟨⟨t623, t624⟩, A120, H⟩ := H
   replace H : ((laws_eqSummaryS.f k t623 t613).bind fun t627 => (if t627 = true then (laws_FnExactCostsOf.j0 k l0 l1 t613 t614 t617 t620 t623 t624 (t624 != t614)) else (laws_FnExactCostsOf.j0 k l0 l1 t613 t614 t617 t620 t623 t624 true))) = some r := H
   have A12 := zQ A120
   clear A120
   have HC13 := zQ H
   clear H
   go_enter Try.func8, Try.ntmps8
   go_upto_region 11 with (first | ((with_reducible refine gate_callee (f := 27) rfl ?_); refine goesL_ (some 22) rfl rfl Try.func27 (by kernel_rfl) rfl #[.slice A0 l0.length c0, .int .i64 1048576] rfl zS ?_; (with_reducible refine (laws_szRoutineS.calls k _ _ l0 1048576 t606 _ ?side1 ?side2 A4.out).mono ?_); (case side1 => repeat (first | exact HR0.out | (with_reducible refine Kd.C_alloc ?_ _) | (with_reducible refine Kd.C_drewN ?_ _) | (with_reducible refine Kd.C_drew ?_))); (case side2 => exact HC0.out); rintro e w14 ⟨rfl, hb⟩; refine ⟨_, rfl, ?_⟩; have n0_ := zQ (below_step (zB HB.out) hb); clear HB; have HB := n0_; clear n0_; (try clear hb); (try clear hb2); (try clear hk); (try clear hi)) | ((with_reducible refine gate_callee (f := 29) rfl ?_); refine goesL_ (some 27) rfl rfl Try.func29 (by kernel_rfl) rfl #[.slice A0 l0.length c0] rfl zS ?_; (with_reducible refine (laws_toRoutineS.calls k _ _ l0 t607 _ ?side1 ?side2 A7.out).mono ?_); (case side1 => exact zE HR0 HB); (case side2 => exact HC0.out); rintro e w15 ⟨v608, rfl, ho0, hb⟩; refine ⟨_, rfl, ?_⟩; have n0_ := zQ (Kd.S_lower ho0 (below_size (zB HB.out))); have n1_ := zQ (below_step (zB HB.out) hb); clear HB; have HO609 := n0_; have HB := n1_; clear n0_ n1_; (try clear hb); (try clear hb2); (try clear hk); (try clear hi); (try clear ho0)) | ((with_reducible refine gate_callee (f := 15) rfl ?_); refine goesL_ (some 29) rfl rfl Try.func15 (by kernel_rfl) rfl #[.slice A1 l1.length c1] rfl zS ?_; (with_reducible refine (laws_toIntS.calls k _ _ l1 t610 _ ?side1 ?side2 A8.out).mono ?_); (case side1 => exact zE HR1 HB); (case side2 => exact HC1.out); rintro e w16 ⟨v611, rfl, ho0, hb⟩; refine ⟨_, rfl, ?_⟩; have n0_ := zQ (Kd.S_below (by (with_reducible repeat (first | apply Kd.S_alloc | apply Kd.S_drewN | apply Kd.S_drew)); exact HO609.out) hb); have n1_ := zQ (Kd.R_lower ho0 (below_size (zB HB.out))); have n2_ := zQ (below_step (zB HB.out) hb); clear HO609; clear HB; have HO609 := n0_; have HO612 := n1_; have HB := n2_; clear n0_ n1_ n2_; (try clear hb); (try clear hb2); (try clear hk); (try clear hi); (try clear ho0); obtain ⟨Ao17, co17, eo17⟩ := Kd.S_slice HO609.out; subst eo17; obtain ⟨Ao18, co18, eo18⟩ := Kd.R_slice HO612.out; subst eo18) | ((with_reducible refine gate_callee (f := 43) rfl ?_); refine goesL_ (some 30) rfl rfl Try.func43 (by kernel_rfl) rfl #[.slice Ao17 t607.length co17, .slice Ao18 t610.length co18] rfl zS ?_; (with_reducible refine (spec_CostsOf.calls k _ _ t607 _ _ t610 t613 t614 _ ?side1 ?side2 ?side3 ?side4 A9.out).mono ?_); (case side1 => repeat (first | exact (Kd.S_reads' HO609.out).2.2 | (with_reducible refine Kd.C_alloc ?_ _) | (with_reducible refine Kd.C_drewN ?_ _) | (with_reducible refine Kd.C_drew ?_))); (case side2 => exact (Kd.S_reads' HO609.out).2.1); (case side3 => exact zC (Kd.R_reads' HO612.out).2.2); (case side4 => exact (Kd.R_reads' HO612.out).2.1); rintro e w19 ⟨v615, rfl, ho0, hb⟩; refine ⟨_, rfl, ?_⟩; have n0_ := zQ (Kd.S_below (by (with_reducible repeat (first | apply Kd.S_alloc | apply Kd.S_drewN | apply Kd.S_drew)); exact HO609.out) hb); have n1_ := zQ (Kd.R_below (zR HO612.out) hb); have n2_ := zQ (Kd.R_lower ho0 (below_size (zB HB.out))); have n3_ := zQ (below_step (zB HB.out) hb); clear HO609; clear HO612; clear HB; have HO609 := n0_; have HO612 := n1_; have HO616 := n2_; have HB := n3_; clear n0_ n1_ n2_ n3_; (try clear hb); (try clear hb2); (try clear hk); (try clear hi); (try clear ho0)) | ((with_reducible refine gate_callee (f := 29) rfl ?_); refine goesL_ (some 34) rfl rfl Try.func29 (by kernel_rfl) rfl #[.slice A0 l0.length c0] rfl zS ?_; (with_reducible refine (laws_toRoutineS.calls k _ _ l0 t617 _ ?side1 ?side2 A10.out).mono ?_); (case side1 => exact zE HR0 HB); (case side2 => exact HC0.out); rintro e w20 ⟨v618, rfl, ho0, hb⟩; refine ⟨_, rfl, ?_⟩; have n0_ := zQ (Kd.S_elder' (by (with_reducible repeat (first | apply Kd.S_alloc | apply Kd.S_drewN | apply Kd.S_drew)); exact HO609.out) (Kd.S_base ho0) hb); have n1_ := zQ (Kd.R_below (zR HO612.out) hb); have n2_ := zQ (Kd.R_below (zR HO616.out) hb); have n3_ := zQ (Kd.S_lower (Kd.S_new' ho0 (Kd.S_lt (by (with_reducible repeat (first | apply Kd.S_alloc | apply Kd.S_drewN | apply Kd.S_drew)); exact HO609.out))) (below_size (zB HB.out))); have n4_ := zQ (below_step (zB HB.out) hb); clear HO609; clear HO612; clear HO616; clear HB; have HO609 := n0_; have HO612 := n1_; have HO616 := n2_; have HO619 := n3_; have HB := n4_; clear n0_ n1_ n2_ n3_ n4_; (try clear hb); (try clear hb2); (try clear hk); (try clear hi); (try clear ho0)) | ((with_reducible refine gate_callee (f := 15) rfl ?_); refine goesL_ (some 36) rfl rfl Try.func15 (by kernel_rfl) rfl #[.slice A1 l1.length c1] rfl zS ?_; (with_reducible refine (laws_toIntS.calls k _ _ l1 t620 _ ?side1 ?side2 A11.out).mono ?_); (case side1 => exact zE HR1 HB); (case side2 => exact HC1.out); rintro e w21 ⟨v621, rfl, ho0, hb⟩; refine ⟨_, rfl, ?_⟩; have n0_ := zQ (Kd.S_below (by (with_reducible repeat (first | apply Kd.S_alloc | apply Kd.S_drewN | apply Kd.S_drew)); exact HO609.out) hb); have n1_ := zQ (Kd.R_elder' (zR HO612.out) (Kd.R_base ho0) hb); have n2_ := zQ (Kd.R_below (zR HO616.out) hb); have n3_ := zQ (Kd.S_below (by (with_reducible repeat (first | apply Kd.S_alloc | apply Kd.S_drewN | apply Kd.S_drew)); exact HO619.out) hb); have n4_ := zQ (Kd.R_lower (Kd.R_new' ho0 (Kd.R_lt (zR HO612.out))) (below_size (zB HB.out))); have n5_ := zQ (below_step (zB HB.out) hb); clear HO609; clear HO612; clear HO616; clear HO619; clear HB; have HO609 := n0_; have HO612 := n1_; have HO616 := n2_; have HO619 := n3_; have HO622 := n4_; have HB := n5_; clear n0_ n1_ n2_ n3_ n4_ n5_; (try clear hb); (try clear hb2); (try clear hk); (try clear hi); (try clear ho0); obtain ⟨Ao22, co22, eo22⟩ := Kd.S_slice HO619.out; subst eo22; obtain ⟨Ao23, co23, eo23⟩ := Kd.R_slice HO622.out; subst eo23) | ((with_reducible refine gate_callee (f := 44) rfl ?_); refine goesL_ (some 40) rfl rfl Try.func44 (by kernel_rfl) rfl #[.slice Ao22 t617.length co22, .slice Ao23 t620.length co23] rfl zS ?_; (with_reducible refine (impl_CostsOf.calls k _ _ t617 _ _ t620 t623 t624 _ ?side1 ?side2 ?side3 ?side4 A12.out).mono ?_); (case side1 => repeat (first | exact (Kd.S_reads' HO619.out).2.2 | (with_reducible refine Kd.C_alloc ?_ _) | (with_reducible refine Kd.C_drewN ?_ _) | (with_reducible refine Kd.C_drew ?_))); (case side2 => exact (Kd.S_reads' HO619.out).2.1); (case side3 => exact zC (Kd.R_reads' HO622.out).2.2); (case side4 => exact (Kd.R_reads' HO622.out).2.1); rintro e w24 ⟨v625, rfl, ho0, hb⟩; refine ⟨_, rfl, ?_⟩; have n0_ := zQ (Kd.S_below (by (with_reducible repeat (first | apply Kd.S_alloc | apply Kd.S_drewN | apply Kd.S_drew)); exact HO609.out) hb); have n1_ := zQ (Kd.R_below (zR HO612.out) hb); have n2_ := zQ (Kd.R_elder' (zR HO616.out) (Kd.R_base ho0) hb); have n3_ := zQ (Kd.S_below (by (with_reducible repeat (first | apply Kd.S_alloc | apply Kd.S_drewN | apply Kd.S_drew)); exact HO619.out) hb); have n4_ := zQ (Kd.R_below (zR HO622.out) hb); have n5_ := zQ (Kd.R_lower (Kd.R_new' ho0 (Kd.R_lt (zR HO616.out))) (below_size (zB HB.out))); have n6_ := zQ (below_step (zB HB.out) hb); clear HO609; clear HO612; clear HO616; clear HO619; clear HO622; clear HB; have HO609 := n0_; have HO612 := n1_; have HO616 := n2_; have HO619 := n3_; have HO622 := n4_; have HO626 := n5_; have HB := n6_; clear n0_ n1_ n2_ n3_ n4_ n5_ n6_; (try clear hb); (try clear hb2); (try clear hk); (try clear hi); (try clear ho0)))
   (try simp only [Act.put, List.setIfInBounds_toArray, List.set_cons_zero, List.set_cons_succ])
   go_cut [51] (fun v51 wc => ∃ (kq : Nat) (x51_12 : Bool), v51 = .bool x51_12 ∧ Aside0 (laws_FnExactCostsOf.j0 kq l0 l1 t613 t614 t617 t620 t623 t624 x51_12 = some r) ∧ Aside0 (kq ≤ k) ∧ Aside0 (Kd.R k144 144 wc w.heap.size (fun k_ => some k_ ≠ (v625 : Value).ownBlock) v615 t613) ∧ Aside0 (Kd.S k124 124 wc w.heap.size (fun _ => True) (.slice Ao22 t617.length co22) t617) ∧ Aside0 (Kd.R (Kd.int .i64) 3 wc w.heap.size (fun _ => True) (.slice Ao23 t620.length co23) t620) ∧ Aside0 (Kd.R k144 144 wc w.heap.size (fun k_ => some k_ ≠ (v615 : Value).ownBlock) v625 t623) ∧ Aside0 (Below w.heap.size w wc))
   case first =>
    have H := HC13.out
    clear HC13
    replace H := Option.bind_eq_some_iff.mp H
    obtain ⟨t627, A250, H⟩ := H
    replace H : (if t627 = true then (laws_FnExactCostsOf.j0 k l0 l1 t613 t614 t617 t620 t623 t624 (t624 != t614)) else (laws_FnExactCostsOf.j0 k l0 l1 t613 t614 t617 t620 t623 t624 true)) = some r := H
    have A25 := zQ A250
    clear A250
    by_cases c26 : t627 = true
    ·subst c26
     have H1 : (laws_FnExactCostsOf.j0 k l0 l1 t613 t614 t617 t620 t623 t624 (t624 != t614)) = some r := by rw [if_pos rfl] at H; exact H
     clear H
     have H := H1
     clear H1
     have H' := zQ H
     clear H
     obtain ⟨Ao27, co27, eo27⟩ := Kd.R_slice HO626.out
     subst eo27
     obtain ⟨Ao28, co28, eo28⟩ := Kd.R_slice HO616.out
     subst eo28
     go_wp2_with (first | ((with_reducible refine gate_callee (f := 45) rfl ?_); refine goesL_ (some 45) rfl rfl Try.func45 (by kernel_rfl) rfl #[.slice Ao27 t623.length co27, .slice Ao28 t613.length co28] rfl zS ?_; (with_reducible refine (laws_eqSummaryS.calls k _ _ t623 _ _ t613 true _ ?side1 ?side2 ?side3 ?side4 A25.out).mono ?_); (case side1 => exact zC (Kd.R_reads' HO626.out).2.2); (case side2 => exact (Kd.R_reads' HO626.out).2.1); (case side3 => exact zC (Kd.R_reads' HO616.out).2.2); (case side4 => exact (Kd.R_reads' HO616.out).2.1); rintro e w29 ⟨rfl, hb⟩; refine ⟨_, rfl, ?_⟩; have n0_ := zQ (Kd.S_below (by (with_reducible repeat (first | apply Kd.S_alloc | apply Kd.S_drewN | apply Kd.S_drew)); exact HO609.out) hb); have n1_ := zQ (Kd.R_below (zR HO612.out) hb); have n2_ := zQ (Kd.R_below (zR HO616.out) hb); have n3_ := zQ (Kd.S_below (by (with_reducible repeat (first | apply Kd.S_alloc | apply Kd.S_drewN | apply Kd.S_drew)); exact HO619.out) hb); have n4_ := zQ (Kd.R_below (zR HO622.out) hb); have n5_ := zQ (Kd.R_below (zR HO626.out) hb); have n6_ := zQ (below_step (zB HB.out) hb); clear HO609; clear HO612; clear HO616; clear HO619; clear HO622; clear HO626; clear HB; have HO609 := n0_; have HO612 := n1_; have HO616 := n2_; have HO619 := n3_; have HO622 := n4_; have HO626 := n5_; have HB := n6_; clear n0_ n1_ n2_ n3_ n4_ n5_ n6_; (try clear hb); (try clear hb2); (try clear hk); (try clear hi)))
     go_meet
     case rel => exact ⟨_, ((t624 != t614)), (by first | rfl | (simp; done) | (simp [*]; done)), H', ⟨by first | omega | exact Nat.le_refl _⟩, ⟨by (with_reducible repeat (first | apply Kd.R_alloc | apply Kd.R_drewN | apply Kd.R_drew)); exact Kd.R_mono HO616.out (fun _ hk => hk.2)⟩, ⟨by (with_reducible repeat (first | apply Kd.S_alloc | apply Kd.S_drewN | apply Kd.S_drew)); exact Kd.S_mono HO619.out (fun _ hk => trivial)⟩, ⟨by (with_reducible repeat (first | apply Kd.R_alloc | apply Kd.R_drewN | apply Kd.R_drew)); exact Kd.R_mono HO622.out (fun _ hk => trivial)⟩, ⟨by (with_reducible repeat (first | apply Kd.R_alloc | apply Kd.R_drewN | apply Kd.R_drew)); exact Kd.R_mono HO626.out (fun _ hk => hk.2)⟩, ⟨zB HB.out⟩⟩
    ·replace c26 := Bool.eq_false_iff.mpr c26
     subst c26
     have H1 : (laws_FnExactCostsOf.j0 k l0 l1 t613 t614 t617 t620 t623 t624 true) = some r := by rw [if_neg (show ¬ (false = true) by decide)] at H; exact H
     clear H
     have H := H1
     clear H1
     have H' := zQ H
     clear H
     obtain ⟨Ao30, co30, eo30⟩ := Kd.R_slice HO626.out
     subst eo30
     obtain ⟨Ao31, co31, eo31⟩ := Kd.R_slice HO616.out
     subst eo31
     go_wp2_with (first | ((with_reducible refine gate_callee (f := 45) rfl ?_); refine goesL_ (some 45) rfl rfl Try.func45 (by kernel_rfl) rfl #[.slice Ao30 t623.length co30, .slice Ao31 t613.length co31] rfl zS ?_; (with_reducible refine (laws_eqSummaryS.calls k _ _ t623 _ _ t613 false _ ?side1 ?side2 ?side3 ?side4 A25.out).mono ?_); (case side1 => exact zC (Kd.R_reads' HO626.out).2.2); (case side2 => exact (Kd.R_reads' HO626.out).2.1); (case side3 => exact zC (Kd.R_reads' HO616.out).2.2); (case side4 => exact (Kd.R_reads' HO616.out).2.1); rintro e w32 ⟨rfl, hb⟩; refine ⟨_, rfl, ?_⟩; have n0_ := zQ (Kd.S_below (by (with_reducible repeat (first | apply Kd.S_alloc | apply Kd.S_drewN | apply Kd.S_drew)); exact HO609.out) hb); have n1_ := zQ (Kd.R_below (zR HO612.out) hb); have n2_ := zQ (Kd.R_below (zR HO616.out) hb); have n3_ := zQ (Kd.S_below (by (with_reducible repeat (first | apply Kd.S_alloc | apply Kd.S_drewN | apply Kd.S_drew)); exact HO619.out) hb); have n4_ := zQ (Kd.R_below (zR HO622.out) hb); have n5_ := zQ (Kd.R_below (zR HO626.out) hb); have n6_ := zQ (below_step (zB HB.out) hb); clear HO609; clear HO612; clear HO616; clear HO619; clear HO622; clear HO626; clear HB; have HO609 := n0_; have HO612 := n1_; have HO616 := n2_; have HO619 := n3_; have HO622 := n4_; have HO626 := n5_; have HB := n6_; clear n0_ n1_ n2_ n3_ n4_ n5_ n6_; (try clear hb); (try clear hb2); (try clear hk); (try clear hi)))
     go_meet
     case rel => exact ⟨_, (true), (by first | rfl | (simp; done) | (simp [*]; done)), H', ⟨by first | omega | exact Nat.le_refl _⟩, ⟨by (with_reducible repeat (first | apply Kd.R_alloc | apply Kd.R_drewN | apply Kd.R_drew)); exact Kd.R_mono HO616.out (fun _ hk => hk.2)⟩, ⟨by (with_reducible repeat (first | apply Kd.S_alloc | apply Kd.S_drewN | apply Kd.S_drew)); exact Kd.S_mono HO619.out (fun _ hk => trivial)⟩, ⟨by (with_reducible repeat (first | apply Kd.R_alloc | apply Kd.R_drewN | apply Kd.R_drew)); exact Kd.R_mono HO622.out (fun _ hk => trivial)⟩, ⟨by (with_reducible repeat (first | apply Kd.R_alloc | apply Kd.R_drewN | apply Kd.R_drew)); exact Kd.R_mono HO626.out (fun _ hk => hk.2)⟩, ⟨zB HB.out⟩⟩
   case rest =>
    clear HC13
    try clear c1
    try clear c2
    try clear p2
    try clear c3
    try clear c3b0
    try clear c3b1
    try clear c4
    try clear c5
    try clear c5b0
    try clear c8
    try clear c15
    try clear c26
    try clear c27
    try clear c29
    obtain ⟨kq, x51_12, rfl, HA, HJ12, HO_6, HO_8, HO_9, HO_10, HB⟩ := hcut
    cases kq with
    | zero => exact absurd HA.out (by simp [laws_FnExactCostsOf.j0])
    | succ kj12 =>
     have H := HA.out
     clear HA
     simp only [laws_FnExactCostsOf.j0] at H
     by_cases c33 : x51_12 = true
     ·subst c33
      have H1 : (some false) = some r := by rw [if_pos rfl] at H; exact H
      clear H
      have H := H1
      clear H1
      exact absurd ((Option.some.inj H).trans hlaw_.out) (by decide)
     ·replace c33 := Bool.eq_false_iff.mpr c33
      subst c33
      have H1 : ((laws_toRoutineS.f kj12 l0).bind fun t628 => ((laws_eqRoutineS.f kj12 t617 t628).bind fun t631 => (if t631 = true then ((laws_toIntS.f kj12 l1).bind fun t632 => ((laws_eqIntS.f kj12 t620 t632).bind fun t635 => (if t635 = true then ((laws_markRoutineS.f t617 1).bind fun t636 => ((laws_markIntS.f kj12 t620 t636).bind fun bt637 => (if bt637.1 < 0 then (laws_FnExactCostsOf.j1 kj12 l0 l1 t613 t614 t623 true) else ((laws_eqSummaryS.f kj12 t623 t613).bind fun t639 => (if t639 = true then (laws_FnExactCostsOf.j1 kj12 l0 l1 t613 t614 t623 (t624 != t614)) else (laws_FnExactCostsOf.j1 kj12 l0 l1 t613 t614 t623 true)))))) else (some false)))) else (some false)))) = some r := by rw [if_neg (show ¬ (false = true) by decide)] at H; exact H
      clear H
      have H := H1
      clear H1
      replace H := Option.bind_eq_some_iff.mp H
      obtain ⟨t628, A340, H⟩ := H
      replace H : ((laws_eqRoutineS.f kj12 t617 t628).bind fun t631 => (if t631 = true then ((laws_toIntS.f kj12 l1).bind fun t632 => ((laws_eqIntS.f kj12 t620 t632).bind fun t635 => (if t635 = true then ((laws_markRoutineS.f t617 1).bind fun t636 => ((laws_markIntS.f kj12 t620 t636).bind fun bt637 => (if bt637.1 < 0 then (laws_FnExactCostsOf.j1 kj12 l0 l1 t613 t614 t623 true) else ((laws_eqSummaryS.f kj12 t623 t613).bind fun t639 => (if t639 = true then (laws_FnExactCostsOf.j1 kj12 l0 l1 t613 t614 t623 (t624 != t614)) else (laws_FnExactCostsOf.j1 kj12 l0 l1 t613 t614 t623 true)))))) else (some false)))) else (some false))) = some r := H
      have A34 := zQ A340
      clear A340
      replace H := Option.bind_eq_some_iff.mp H
      obtain ⟨t631, A350, H⟩ := H
      replace H : (if t631 = true then ((laws_toIntS.f kj12 l1).bind fun t632 => ((laws_eqIntS.f kj12 t620 t632).bind fun t635 => (if t635 = true then ((laws_markRoutineS.f t617 1).bind fun t636 => ((laws_markIntS.f kj12 t620 t636).bind fun bt637 => (if bt637.1 < 0 then (laws_FnExactCostsOf.j1 kj12 l0 l1 t613 t614 t623 true) else ((laws_eqSummaryS.f kj12 t623 t613).bind fun t639 => (if t639 = true then (laws_FnExactCostsOf.j1 kj12 l0 l1 t613 t614 t623 (t624 != t614)) else (laws_FnExactCostsOf.j1 kj12 l0 l1 t613 t614 t623 true)))))) else (some false)))) else (some false)) = some r := H
      have A35 := zQ A350
      clear A350
      by_cases c36 : t631 = true
      ·subst c36
       have H1 : ((laws_toIntS.f kj12 l1).bind fun t632 => ((laws_eqIntS.f kj12 t620 t632).bind fun t635 => (if t635 = true then ((laws_markRoutineS.f t617 1).bind fun t636 => ((laws_markIntS.f kj12 t620 t636).bind fun bt637 => (if bt637.1 < 0 then (laws_FnExactCostsOf.j1 kj12 l0 l1 t613 t614 t623 true) else ((laws_eqSummaryS.f kj12 t623 t613).bind fun t639 => (if t639 = true then (laws_FnExactCostsOf.j1 kj12 l0 l1 t613 t614 t623 (t624 != t614)) else (laws_FnExactCostsOf.j1 kj12 l0 l1 t613 t614 t623 true)))))) else (some false)))) = some r := by rw [if_pos rfl] at H; exact H
       clear H
       have H := H1
       clear H1
       replace H := Option.bind_eq_some_iff.mp H
       obtain ⟨t632, A370, H⟩ := H
       replace H : ((laws_eqIntS.f kj12 t620 t632).bind fun t635 => (if t635 = true then ((laws_markRoutineS.f t617 1).bind fun t636 => ((laws_markIntS.f kj12 t620 t636).bind fun bt637 => (if bt637.1 < 0 then (laws_FnExactCostsOf.j1 kj12 l0 l1 t613 t614 t623 true) else ((laws_eqSummaryS.f kj12 t623 t613).bind fun t639 => (if t639 = true then (laws_FnExactCostsOf.j1 kj12 l0 l1 t613 t614 t623 (t624 != t614)) else (laws_FnExactCostsOf.j1 kj12 l0 l1 t613 t614 t623 true)))))) else (some false))) = some r := H
       have A37 := zQ A370
       clear A370
       replace H := Option.bind_eq_some_iff.mp H
       obtain ⟨t635, A380, H⟩ := H
       replace H : (if t635 = true then ((laws_markRoutineS.f t617 1).bind fun t636 => ((laws_markIntS.f kj12 t620 t636).bind fun bt637 => (if bt637.1 < 0 then (laws_FnExactCostsOf.j1 kj12 l0 l1 t613 t614 t623 true) else ((laws_eqSummaryS.f kj12 t623 t613).bind fun t639 => (if t639 = true then (laws_FnExactCostsOf.j1 kj12 l0 l1 t613 t614 t623 (t624 != t614)) else (laws_FnExactCostsOf.j1 kj12 l0 l1 t613 t614 t623 true)))))) else (some false)) = some r := H
       have A38 := zQ A380
       clear A380
       by_cases c39 : t635 = true
       ·subst c39
        have H1 : ((laws_markRoutineS.f t617 1).bind fun t636 => ((laws_markIntS.f kj12 t620 t636).bind fun bt637 => (if bt637.1 < 0 then (laws_FnExactCostsOf.j1 kj12 l0 l1 t613 t614 t623 true) else ((laws_eqSummaryS.f kj12 t623 t613).bind fun t639 => (if t639 = true then (laws_FnExactCostsOf.j1 kj12 l0 l1 t613 t614 t623 (t624 != t614)) else (laws_FnExactCostsOf.j1 kj12 l0 l1 t613 t614 t623 true)))))) = some r := by rw [if_pos rfl] at H; exact H
        clear H
        have H := H1
        clear H1
        replace H := Option.bind_eq_some_iff.mp H
        obtain ⟨t636, A400, H⟩ := H
        replace H : ((laws_markIntS.f kj12 t620 t636).bind fun bt637 => (if bt637.1 < 0 then (laws_FnExactCostsOf.j1 kj12 l0 l1 t613 t614 t623 true) else ((laws_eqSummaryS.f kj12 t623 t613).bind fun t639 => (if t639 = true then (laws_FnExactCostsOf.j1 kj12 l0 l1 t613 t614 t623 (t624 != t614)) else (laws_FnExactCostsOf.j1 kj12 l0 l1 t613 t614 t623 true))))) = some r := H
        have A40 := zQ A400
        clear A400
        replace H := Option.bind_eq_some_iff.mp H
        obtain ⟨⟨t637, t638⟩, A410, H⟩ := H
        replace H : (if t637 < 0 then (laws_FnExactCostsOf.j1 kj12 l0 l1 t613 t614 t623 true) else ((laws_eqSummaryS.f kj12 t623 t613).bind fun t639 => (if t639 = true then (laws_FnExactCostsOf.j1 kj12 l0 l1 t613 t614 t623 (t624 != t614)) else (laws_FnExactCostsOf.j1 kj12 l0 l1 t613 t614 t623 true)))) = some r := H
        have A41 := zQ A410
        clear A410
        have HC42 := zQ H
        clear H
        go_upto_region 20 with (first | ((with_reducible refine gate_callee (f := 29) rfl ?_); refine goesL_ (some 54) rfl rfl Try.func29 (by kernel_rfl) rfl #[.slice A0 l0.length c0] rfl zS ?_; (with_reducible refine (laws_toRoutineS.calls kj12 _ _ l0 t628 _ ?side1 ?side2 A34.out).mono ?_); (case side1 => exact zE HR0 HB); (case side2 => exact HC0.out); rintro e w43 ⟨v629, rfl, ho0, hb⟩; refine ⟨_, rfl, ?_⟩; have n0_ := zQ (Kd.R_below (zR HO_6.out) hb); have n1_ := zQ (Kd.S_elder' (by (with_reducible repeat (first | apply Kd.S_alloc | apply Kd.S_drewN | apply Kd.S_drew)); exact HO_8.out) (Kd.S_base ho0) hb); have n2_ := zQ (Kd.R_below (zR HO_9.out) hb); have n3_ := zQ (Kd.R_below (zR HO_10.out) hb); have n4_ := zQ (Kd.S_lower (Kd.S_new' ho0 (Kd.S_lt (by (with_reducible repeat (first | apply Kd.S_alloc | apply Kd.S_drewN | apply Kd.S_drew)); exact HO_8.out))) (below_size (zB HB.out))); have n5_ := zQ (below_step (zB HB.out) hb); clear HO_6; clear HO_8; clear HO_9; clear HO_10; clear HB; have HO_6 := n0_; have HO_8 := n1_; have HO_9 := n2_; have HO_10 := n3_; have HO630 := n4_; have HB := n5_; clear n0_ n1_ n2_ n3_ n4_ n5_; (try clear hb); (try clear hb2); (try clear hk); (try clear hi); (try clear ho0); obtain ⟨Ao44, co44, eo44⟩ := Kd.S_slice HO630.out; subst eo44) | ((with_reducible refine gate_callee (f := 32) rfl ?_); refine goesL_ (some 55) rfl rfl Try.func32 (by kernel_rfl) rfl #[.slice Ao22 t617.length co22, .slice Ao44 t628.length co44] rfl zS ?_; (with_reducible refine (laws_eqRoutineS.calls kj12 _ _ t617 _ _ t628 true _ ?side1 ?side2 ?side3 ?side4 A35.out).mono ?_); (case side1 => repeat (first | exact (Kd.S_reads' HO_8.out).2.2 | (with_reducible refine Kd.C_alloc ?_ _) | (with_reducible refine Kd.C_drewN ?_ _) | (with_reducible refine Kd.C_drew ?_))); (case side2 => exact (Kd.S_reads' HO_8.out).2.1); (case side3 => repeat (first | exact (Kd.S_reads' HO630.out).2.2 | (with_reducible refine Kd.C_alloc ?_ _) | (with_reducible refine Kd.C_drewN ?_ _) | (with_reducible refine Kd.C_drew ?_))); (case side4 => exact (Kd.S_reads' HO630.out).2.1); rintro e w45 ⟨rfl, hb⟩; refine ⟨_, rfl, ?_⟩; have n0_ := zQ (Kd.R_below (zR HO_6.out) hb); have n1_ := zQ (Kd.S_below (by (with_reducible repeat (first | apply Kd.S_alloc | apply Kd.S_drewN | apply Kd.S_drew)); exact HO_8.out) hb); have n2_ := zQ (Kd.R_below (zR HO_9.out) hb); have n3_ := zQ (Kd.R_below (zR HO_10.out) hb); have n4_ := trivial; have n5_ := zQ (below_step (zB HB.out) hb); clear HO_6; clear HO_8; clear HO_9; clear HO_10; clear HO630; clear HB; have HO_6 := n0_; have HO_8 := n1_; have HO_9 := n2_; have HO_10 := n3_; have HO630 := n4_; have HB := n5_; clear n0_ n1_ n2_ n3_ n4_ n5_; (try clear hb); (try clear hb2); (try clear hk); (try clear hi)) | ((with_reducible refine gate_callee (f := 15) rfl ?_); refine goesL_ (some 59) rfl rfl Try.func15 (by kernel_rfl) rfl #[.slice A1 l1.length c1] rfl zS ?_; (with_reducible refine (laws_toIntS.calls kj12 _ _ l1 t632 _ ?side1 ?side2 A37.out).mono ?_); (case side1 => exact zE HR1 HB); (case side2 => exact HC1.out); rintro e w46 ⟨v633, rfl, ho0, hb⟩; refine ⟨_, rfl, ?_⟩; have n0_ := zQ (Kd.R_below (zR HO_6.out) hb); have n1_ := zQ (Kd.S_below (by (with_reducible repeat (first | apply Kd.S_alloc | apply Kd.S_drewN | apply Kd.S_drew)); exact HO_8.out) hb); have n2_ := zQ (Kd.R_elder' (zR HO_9.out) (Kd.R_base ho0) hb); have n3_ := zQ (Kd.R_below (zR HO_10.out) hb); have n4_ := trivial; have n5_ := zQ (Kd.R_lower (Kd.R_new' ho0 (Kd.R_lt (zR HO_9.out))) (below_size (zB HB.out))); have n6_ := zQ (below_step (zB HB.out) hb); clear HO_6; clear HO_8; clear HO_9; clear HO_10; clear HO630; clear HB; have HO_6 := n0_; have HO_8 := n1_; have HO_9 := n2_; have HO_10 := n3_; have HO630 := n4_; have HO634 := n5_; have HB := n6_; clear n0_ n1_ n2_ n3_ n4_ n5_ n6_; (try clear hb); (try clear hb2); (try clear hk); (try clear hi); (try clear ho0); obtain ⟨Ao47, co47, eo47⟩ := Kd.R_slice HO634.out; subst eo47) | ((with_reducible refine gate_callee (f := 19) rfl ?_); refine goesL_ (some 60) rfl rfl Try.func19 (by kernel_rfl) rfl #[.slice Ao23 t620.length co23, .slice Ao47 t632.length co47] rfl zS ?_; (with_reducible refine (laws_eqIntS.calls kj12 _ _ t620 _ _ t632 true _ ?side1 ?side2 ?side3 ?side4 A38.out).mono ?_); (case side1 => exact zC (Kd.R_reads' HO_9.out).2.2); (case side2 => exact (Kd.R_reads' HO_9.out).2.1); (case side3 => exact zC (Kd.R_reads' HO634.out).2.2); (case side4 => exact (Kd.R_reads' HO634.out).2.1); rintro e w' ⟨rfl, ⟨nd, rfl⟩⟩; refine ⟨_, rfl, ?_⟩) | ((with_reducible refine gate_callee (f := 33) rfl ?_); refine goesL_ (some 64) rfl rfl Try.func33 (by kernel_rfl) rfl #[.slice Ao22 t617.length co22, .int .i64 1] rfl zS ?_; (with_reducible refine (laws_markRoutineS.calls (fun k_ => (True ∧ some k_ ≠ (.slice Ao44 t628.length co44 : Value).ownBlock)) (.slice Ao22 t617.length co22) t617 1 t636 w _ ?side1 ?side2 A40.out).mono ?_); (case side1 => repeat (first | (with_reducible first | exact HB.out | apply below_alloc | apply pw_below_drewN | apply below_drew1) | exact HB.out)); (case side2 => exact HO_8.out); rintro e w48 ⟨rfl, hb, hkp⟩; refine ⟨_, rfl, ?_⟩; have n0_ := zQ (Kd.R_mono (ok' := fun k_ => some k_ ≠ (v625 : Value).ownBlock) (Kd.R_keptB ((ty_R HO_6.out)) hkp (fun k_ hk_ hs_ => (fun e_ => TyIn.no hk_.2 e_.2 (by decide)) hs_)) (fun k_ hk_ => hk_.1.1)); have n1_ := zQ (Kd.R_mono (ok' := fun k_ => some k_ ≠ (.slice Ao47 t632.length co47 : Value).ownBlock) (Kd.R_keptB ((ty_R HO_9.out)) hkp (fun k_ hk_ hs_ => (fun e_ => TyIn.no hk_.2 e_.2 (by decide)) hs_)) (fun k_ hk_ => hk_.1.1.2)); have n2_ := zQ (Kd.R_mono (ok' := fun k_ => some k_ ≠ (v615 : Value).ownBlock) (Kd.R_keptB ((ty_R HO_10.out)) hkp (fun k_ hk_ hs_ => (fun e_ => TyIn.no hk_.2 e_.2 (by decide)) hs_)) (fun k_ hk_ => hk_.1.1)); have n3_ := trivial; have n4_ := zQ (Kd.R_mono (ok' := fun k_ => some k_ ≠ (.slice Ao23 t620.length co23 : Value).ownBlock) (Kd.R_keptB ((ty_R HO634.out)) hkp (fun k_ hk_ hs_ => (fun e_ => TyIn.no hk_.2 e_.2 (by decide)) hs_)) (fun k_ hk_ => hk_.1.1.2)); have n5_ := zQ (hb); clear HO_6; clear HO_9; clear HO_10; clear HO630; clear HO634; clear HB; clear HO_8; have HO_6 := n0_; have HO_9 := n1_; have HO_10 := n2_; have HO630 := n3_; have HO634 := n4_; have HB := n5_; clear n0_ n1_ n2_ n3_ n4_ n5_; (try clear hb); (try clear hkp)) | ((with_reducible refine gate_callee (f := 21) rfl ?_); refine goesL_ (some 67) rfl rfl Try.func21 (by kernel_rfl) rfl #[.slice Ao23 t620.length co23, .int .i64 t636] rfl zS ?_; (with_reducible refine (laws_markIntS.calls kj12 (fun k_ => some k_ = (.slice Ao23 t620.length co23 : Value).ownBlock) (.slice Ao23 t620.length co23) t620 t636 t637 t638 w _ ?side1 ?side2 A41.out).mono ?_); (case side1 => repeat (first | (with_reducible first | exact HB.out | apply below_alloc | apply pw_below_drewN | apply below_drew1) | exact HB.out)); (case side2 => exact Kd.R_tight rfl HO_9.out); rintro e w49 ⟨rfl, hy0, hb, hkp⟩; refine ⟨_, rfl, ?_⟩; have n0_ := zQ (Kd.R_mono (ok' := fun k_ => some k_ ≠ (v625 : Value).ownBlock) (Kd.R_keptB ((Kd.R_apart' HO_6.out (Kd.R_typed HO_9.out) (by decide))) hkp (fun k_ hk_ hs_ => (hk_.2) hs_)) (fun k_ hk_ => hk_.1.1)); have n1_ := zQ (Kd.R_reok rfl hy0 (fun k_ e_ => HO_9.out.1 k_ e_)); have n2_ := zQ (Kd.R_mono (ok' := fun k_ => some k_ ≠ (v615 : Value).ownBlock) (Kd.R_keptB ((Kd.R_apart' HO_10.out (Kd.R_typed HO_9.out) (by decide))) hkp (fun k_ hk_ hs_ => (hk_.2) hs_)) (fun k_ hk_ => hk_.1.1)); have n3_ := trivial; have n4_ := zQ (Kd.R_mono (ok' := fun k_ => some k_ ≠ (.slice Ao23 t620.length co23 : Value).ownBlock) (Kd.R_keptB (HO634.out) hkp (fun k_ hk_ hs_ => (hk_) hs_)) (fun k_ hk_ => hk_.1)); have n5_ := zQ (hb); clear HO_6; clear HO_9; clear HO_10; clear HO630; clear HO634; clear HB; have HO_6 := n0_; have HO_9 := n1_; have HO_10 := n2_; have HO630 := n3_; have HO634 := n4_; have HB := n5_; clear n0_ n1_ n2_ n3_ n4_ n5_; (try clear hb); (try clear hkp); (try clear hy0)))
        (try simp only [Act.put, List.setIfInBounds_toArray, List.set_cons_zero, List.set_cons_succ])
        go_cut [80] (fun v80 wc => ∃ (kq : Nat) (x80_41 : Bool), v80 = .bool x80_41 ∧ Aside0 (laws_FnExactCostsOf.j1 kq l0 l1 t613 t614 t623 x80_41 = some r) ∧ Aside0 (kq ≤ kj12) ∧ Aside0 (Kd.R k144 144 wc w.heap.size (fun k_ => some k_ ≠ (v625 : Value).ownBlock) v615 t613) ∧ Aside0 (Kd.R k144 144 wc w.heap.size (fun k_ => some k_ ≠ (v615 : Value).ownBlock) v625 t623) ∧ Aside0 (Below w.heap.size w wc))
        case first =>
         have H := HC42.out
         clear HC42
         by_cases c50 : t637 < 0
         ·rw [if_pos c50] at H
          have c50b0 : decide (t637 < 0) = true := decide_eq_true c50
          clear c50
          (first | rw [c50b0] | (simp only [i64_w, i32_w]; rw [c50b0]) | skip)
          have H' := zQ H
          clear H
          go_wp2
          (first | go_meet | (refine Met.intro ?_; go_step; (repeat apply Exists.intro); refine ⟨?rel, ?eqm_⟩; (case eqm_ => (simp only [c50b0]; rfl))))
          case rel => exact ⟨_, (true), (by first | rfl | (simp; done) | (simp [*]; done)), H', ⟨by have := HJ12.out; first | omega | exact Nat.le_refl _⟩, ⟨by (with_reducible repeat (first | apply Kd.R_alloc | apply Kd.R_drewN | apply Kd.R_drew)); exact HO_6.out⟩, ⟨by (with_reducible repeat (first | apply Kd.R_alloc | apply Kd.R_drewN | apply Kd.R_drew)); exact HO_10.out⟩, ⟨zB HB.out⟩⟩
         ·rw [if_neg c50] at H
          have c50b0 : decide (t637 < 0) = false := decide_eq_false c50
          clear c50
          (first | rw [c50b0] | (simp only [i64_w, i32_w]; rw [c50b0]) | skip)
          replace H := Option.bind_eq_some_iff.mp H
          obtain ⟨t639, A510, H⟩ := H
          replace H : (if t639 = true then (laws_FnExactCostsOf.j1 kj12 l0 l1 t613 t614 t623 (t624 != t614)) else (laws_FnExactCostsOf.j1 kj12 l0 l1 t613 t614 t623 true)) = some r := H
          have A51 := zQ A510
          clear A510
          by_cases c52 : t639 = true
          ·subst c52
           have H1 : (laws_FnExactCostsOf.j1 kj12 l0 l1 t613 t614 t623 (t624 != t614)) = some r := by rw [if_pos rfl] at H; exact H
           clear H
           have H := H1
           clear H1
           have H' := zQ H
           clear H
           obtain ⟨Ao53, co53, eo53⟩ := Kd.R_slice HO_10.out
           subst eo53
           obtain ⟨Ao54, co54, eo54⟩ := Kd.R_slice HO_6.out
           subst eo54
           go_wp2_with (first | (go_at_call 45; (with_reducible refine (laws_eqSummaryS.calls kj12 _ _ t623 _ _ t613 true _ ?side1 ?side2 ?side3 ?side4 A51.out).mono ?_); (case side1 => exact zC (Kd.R_reads' HO_10.out).2.2); (case side2 => exact (Kd.R_reads' HO_10.out).2.1); (case side3 => exact zC (Kd.R_reads' HO_6.out).2.2); (case side4 => exact (Kd.R_reads' HO_6.out).2.1); rintro e w55 ⟨rfl, hb⟩; have n0_ := zQ (Kd.R_below (zR HO_6.out) hb); have n1_ := zQ (Kd.R_below (zR HO_9.out) hb); have n2_ := zQ (Kd.R_below (zR HO_10.out) hb); have n3_ := trivial; have n4_ := zQ (Kd.R_below (zR HO634.out) hb); have n5_ := zQ (below_step (zB HB.out) hb); clear HO_6; clear HO_9; clear HO_10; clear HO630; clear HO634; clear HB; have HO_6 := n0_; have HO_9 := n1_; have HO_10 := n2_; have HO630 := n3_; have HO634 := n4_; have HB := n5_; clear n0_ n1_ n2_ n3_ n4_ n5_; (try clear hb); (try clear hb2); (try clear hk); (try clear hi)))
           (first | go_meet | (refine Met.intro ?_; go_step; (repeat apply Exists.intro); refine ⟨?rel, ?eqm_⟩; (case eqm_ => (simp only [c50b0]; rfl))))
           case rel => exact ⟨_, ((t624 != t614)), (by first | rfl | (simp; done) | (simp [*]; done)), H', ⟨by have := HJ12.out; first | omega | exact Nat.le_refl _⟩, ⟨by (with_reducible repeat (first | apply Kd.R_alloc | apply Kd.R_drewN | apply Kd.R_drew)); exact HO_6.out⟩, ⟨by (with_reducible repeat (first | apply Kd.R_alloc | apply Kd.R_drewN | apply Kd.R_drew)); exact HO_10.out⟩, ⟨zB HB.out⟩⟩
          ·replace c52 := Bool.eq_false_iff.mpr c52
           subst c52
           have H1 : (laws_FnExactCostsOf.j1 kj12 l0 l1 t613 t614 t623 true) = some r := by rw [if_neg (show ¬ (false = true) by decide)] at H; exact H
           clear H
           have H := H1
           clear H1
           have H' := zQ H
           clear H
           obtain ⟨Ao56, co56, eo56⟩ := Kd.R_slice HO_10.out
           subst eo56
           obtain ⟨Ao57, co57, eo57⟩ := Kd.R_slice HO_6.out
           subst eo57
           go_wp2_with (first | (go_at_call 45; (with_reducible refine (laws_eqSummaryS.calls kj12 _ _ t623 _ _ t613 false _ ?side1 ?side2 ?side3 ?side4 A51.out).mono ?_); (case side1 => exact zC (Kd.R_reads' HO_10.out).2.2); (case side2 => exact (Kd.R_reads' HO_10.out).2.1); (case side3 => exact zC (Kd.R_reads' HO_6.out).2.2); (case side4 => exact (Kd.R_reads' HO_6.out).2.1); rintro e w58 ⟨rfl, hb⟩; have n0_ := zQ (Kd.R_below (zR HO_6.out) hb); have n1_ := zQ (Kd.R_below (zR HO_9.out) hb); have n2_ := zQ (Kd.R_below (zR HO_10.out) hb); have n3_ := trivial; have n4_ := zQ (Kd.R_below (zR HO634.out) hb); have n5_ := zQ (below_step (zB HB.out) hb); clear HO_6; clear HO_9; clear HO_10; clear HO630; clear HO634; clear HB; have HO_6 := n0_; have HO_9 := n1_; have HO_10 := n2_; have HO630 := n3_; have HO634 := n4_; have HB := n5_; clear n0_ n1_ n2_ n3_ n4_ n5_; (try clear hb); (try clear hb2); (try clear hk); (try clear hi)))
           (first | go_meet | (refine Met.intro ?_; go_step; (repeat apply Exists.intro); refine ⟨?rel, ?eqm_⟩; (case eqm_ => (simp only [c50b0]; rfl))))
           case rel => exact ⟨_, (true), (by first | rfl | (simp; done) | (simp [*]; done)), H', ⟨by have := HJ12.out; first | omega | exact Nat.le_refl _⟩, ⟨by (with_reducible repeat (first | apply Kd.R_alloc | apply Kd.R_drewN | apply Kd.R_drew)); exact HO_6.out⟩, ⟨by (with_reducible repeat (first | apply Kd.R_alloc | apply Kd.R_drewN | apply Kd.R_drew)); exact HO_10.out⟩, ⟨zB HB.out⟩⟩
        case rest =>
         clear HC42
         try clear c1
         try clear c2
         try clear p2
         try clear c3
         try clear c3b0
         try clear c3b1
         try clear c4
         try clear c5
         try clear c5b0
         try clear c8
         try clear c15
         try clear c19
         try clear c21
         try clear c26
         try clear c27
         try clear c29
         try clear c32
         try clear c33
         try clear c36
         try clear c39
         try clear c43
         try clear c44
         try clear c45
         try clear c50
         try clear c50b0
         try clear c52
         try clear p2
         obtain ⟨kq, x80_41, rfl, HA, HJ41, HO_6, HO_10, HB⟩ := hcut
         cases kq with
         | zero => exact absurd HA.out (by simp [laws_FnExactCostsOf.j1])
         | succ kj41 =>
          have H := HA.out
          clear HA
          simp only [laws_FnExactCostsOf.j1] at H
          by_cases c59 : x80_41 = true
          ·subst c59
           have H1 : (some false) = some r := by rw [if_pos rfl] at H; exact H
           clear H
           have H := H1
           clear H1
           exact absurd ((Option.some.inj H).trans hlaw_.out) (by decide)
          ·replace c59 := Bool.eq_false_iff.mpr c59
           subst c59
           have H1 : ((laws_markSummaryS.f kj41 t623 1).bind fun bt640 => ((laws_heldSummaryS.f kj41 bt640.2 1).bind fun t642 => (if t642 < 0 then (some false) else (if t642 = bt640.1 then ((laws_toRoutineS.f kj41 l0).bind fun t643 => ((laws_toIntS.f kj41 l1).bind fun t646 => ((impl_CostsOf.f kj41 t643 t646).bind fun bt649 => ((laws_eqSummaryS.f kj41 bt649.1 t613).bind fun t653 => (if t653 = true then (laws_FnExactCostsOf.j2 kj41 bt640.2 bt640.1 (bt649.2 != t614)) else (laws_FnExactCostsOf.j2 kj41 bt640.2 bt640.1 true)))))) else (some false))))) = some r := by rw [if_neg (show ¬ (false = true) by decide)] at H; exact H
           clear H
           have H := H1
           clear H1
           replace H := Option.bind_eq_some_iff.mp H
           obtain ⟨⟨t640, t641⟩, A600, H⟩ := H
           replace H : ((laws_heldSummaryS.f kj41 t641 1).bind fun t642 => (if t642 < 0 then (some false) else (if t642 = t640 then ((laws_toRoutineS.f kj41 l0).bind fun t643 => ((laws_toIntS.f kj41 l1).bind fun t646 => ((impl_CostsOf.f kj41 t643 t646).bind fun bt649 => ((laws_eqSummaryS.f kj41 bt649.1 t613).bind fun t653 => (if t653 = true then (laws_FnExactCostsOf.j2 kj41 t641 t640 (bt649.2 != t614)) else (laws_FnExactCostsOf.j2 kj41 t641 t640 true)))))) else (some false)))) = some r := H
           have A60 := zQ A600
           clear A600
           replace H := Option.bind_eq_some_iff.mp H
           obtain ⟨t642, A610, H⟩ := H
           replace H : (if t642 < 0 then (some false) else (if t642 = t640 then ((laws_toRoutineS.f kj41 l0).bind fun t643 => ((laws_toIntS.f kj41 l1).bind fun t646 => ((impl_CostsOf.f kj41 t643 t646).bind fun bt649 => ((laws_eqSummaryS.f kj41 bt649.1 t613).bind fun t653 => (if t653 = true then (laws_FnExactCostsOf.j2 kj41 t641 t640 (bt649.2 != t614)) else (laws_FnExactCostsOf.j2 kj41 t641 t640 true)))))) else (some false))) = some r := H
           have A61 := zQ A610
           clear A610
           by_cases c62 : t642 < 0
           ·rw [if_pos c62] at H
            have c62b0 : decide (t642 < 0) = true := decide_eq_true c62
            clear c62
            exact absurd ((Option.some.inj H).trans hlaw_.out) (by decide)
           ·rw [if_neg c62] at H
            have c62b0 : decide (t642 < 0) = false := decide_eq_false c62
            clear c62
            by_cases c63 : t642 = t640
            ·rw [if_pos c63] at H
             have c63b0 : (t642 == t640) = true := beq_iff_eq.mpr c63
             have c63b1 : (t642 != t640) = false := bne_eq_false_iff_eq.mpr c63
             clear c63
             replace H := Option.bind_eq_some_iff.mp H
             obtain ⟨t643, A640, H⟩ := H
             replace H : ((laws_toIntS.f kj41 l1).bind fun t646 => ((impl_CostsOf.f kj41 t643 t646).bind fun bt649 => ((laws_eqSummaryS.f kj41 bt649.1 t613).bind fun t653 => (if t653 = true then (laws_FnExactCostsOf.j2 kj41 t641 t640 (bt649.2 != t614)) else (laws_FnExactCostsOf.j2 kj41 t641 t640 true))))) = some r := H
             have A64 := zQ A640
             clear A640
             replace H := Option.bind_eq_some_iff.mp H
             obtain ⟨t646, A650, H⟩ := H
             replace H : ((impl_CostsOf.f kj41 t643 t646).bind fun bt649 => ((laws_eqSummaryS.f kj41 bt649.1 t613).bind fun t653 => (if t653 = true then (laws_FnExactCostsOf.j2 kj41 t641 t640 (bt649.2 != t614)) else (laws_FnExactCostsOf.j2 kj41 t641 t640 true)))) = some r := H
             have A65 := zQ A650
             clear A650
             replace H := Option.bind_eq_some_iff.mp H
             obtain ⟨⟨t649, t650⟩, A660, H⟩ := H
             replace H : ((laws_eqSummaryS.f kj41 t649 t613).bind fun t653 => (if t653 = true then (laws_FnExactCostsOf.j2 kj41 t641 t640 (t650 != t614)) else (laws_FnExactCostsOf.j2 kj41 t641 t640 true))) = some r := H
             have A66 := zQ A660
             clear A660
             have HC67 := zQ H
             clear H
             obtain ⟨Ao68, co68, eo68⟩ := Kd.R_slice HO_10.out
             subst eo68
             go_upto_region 31 with (first | ((with_reducible refine gate_callee (f := 46) rfl ?_); refine goesL_ (some 83) rfl rfl Try.func46 (by kernel_rfl) rfl #[.slice Ao68 t623.length co68, .int .i64 1] rfl zS ?_; (with_reducible refine (laws_markSummaryS.calls kj41 (fun k_ => some k_ = (.slice Ao68 t623.length co68 : Value).ownBlock) (.slice Ao68 t623.length co68) t623 1 t640 t641 w _ ?side1 ?side2 A60.out).mono ?_); (case side1 => repeat (first | (with_reducible first | exact HB.out | apply below_alloc | apply pw_below_drewN | apply below_drew1) | exact HB.out)); (case side2 => exact Kd.R_tight rfl HO_10.out); rintro e w69 ⟨rfl, hy0, hb, hkp⟩; refine ⟨_, rfl, ?_⟩; have n0_ := zQ (Kd.R_mono (ok' := fun k_ => some k_ ≠ (.slice Ao68 t623.length co68 : Value).ownBlock) (Kd.R_keptB (HO_6.out) hkp (fun k_ hk_ hs_ => (hk_) hs_)) (fun k_ hk_ => hk_.1)); have n1_ := zQ (Kd.R_reok rfl hy0 (fun k_ e_ => HO_10.out.1 k_ e_)); have n2_ := zQ (hb); clear HO_6; clear HO_10; clear HB; have HO_6 := n0_; have HO_10 := n1_; have HB := n2_; clear n0_ n1_ n2_; (try clear hb); (try clear hkp); (try clear hy0)) | ((with_reducible refine gate_callee (f := 47) rfl ?_); refine goesL_ (some 86) rfl rfl Try.func47 (by kernel_rfl) rfl #[.slice Ao68 t641.length co68, .int .i64 1] rfl (by (try simp only [List.map_toArray, List.map_cons, List.map_nil]); first | done | (rw [show t641.length = t623.length from (Kd.R_reads' HO_10.out).1.symm] <;> rfl) | rfl | (simp only [List.length_drop, List.length_take]; rfl)) ?_; (with_reducible refine (laws_heldSummaryS.calls kj41 _ _ t641 1 t642 _ ?side1 ?side2 A61.out).mono ?_); (case side1 => exact zC (Kd.R_reads' HO_10.out).2.2); (case side2 => rw [show t641.length = t623.length from (Kd.R_reads' HO_10.out).1.symm]; exact (Kd.R_reads' HO_10.out).2.1); rintro e w' ⟨rfl, ⟨nd, rfl⟩⟩; refine ⟨_, rfl, ?_⟩) | ((with_reducible refine gate_callee (f := 29) rfl ?_); refine goesL_ (some 94) rfl rfl Try.func29 (by kernel_rfl) rfl #[.slice A0 l0.length c0] rfl zS ?_; (with_reducible refine (laws_toRoutineS.calls kj41 _ _ l0 t643 _ ?side1 ?side2 A64.out).mono ?_); (case side1 => exact zC (Kd.C_below HR0.out (zB HB.out))); (case side2 => exact HC0.out); rintro e w70 ⟨v644, rfl, ho0, hb⟩; refine ⟨_, rfl, ?_⟩; have n0_ := zQ (Kd.R_below (zR HO_6.out) hb); have n1_ := zQ (Kd.R_below (zR HO_10.out) hb); have n2_ := zQ (Kd.S_lower ho0 (below_size (zB HB.out))); have n3_ := zQ (below_step (zB HB.out) hb); clear HO_6; clear HO_10; clear HB; have HO_6 := n0_; have HO_10 := n1_; have HO645 := n2_; have HB := n3_; clear n0_ n1_ n2_ n3_; (try clear hb); (try clear hb2); (try clear hk); (try clear hi); (try clear ho0)) | ((with_reducible refine gate_callee (f := 15) rfl ?_); refine goesL_ (some 96) rfl rfl Try.func15 (by kernel_rfl) rfl #[.slice A1 l1.length c1] rfl zS ?_; (with_reducible refine (laws_toIntS.calls kj41 _ _ l1 t646 _ ?side1 ?side2 A65.out).mono ?_); (case side1 => exact zE HR1 HB); (case side2 => exact HC1.out); rintro e w71 ⟨v647, rfl, ho0, hb⟩; refine ⟨_, rfl, ?_⟩; have n0_ := zQ (Kd.R_below (zR HO_6.out) hb); have n1_ := zQ (Kd.R_below (zR HO_10.out) hb); have n2_ := zQ (Kd.S_below (by (with_reducible repeat (first | apply Kd.S_alloc | apply Kd.S_drewN | apply Kd.S_drew)); exact HO645.out) hb); have n3_ := zQ (Kd.R_lower ho0 (below_size (zB HB.out))); have n4_ := zQ (below_step (zB HB.out) hb); clear HO_6; clear HO_10; clear HO645; clear HB; have HO_6 := n0_; have HO_10 := n1_; have HO645 := n2_; have HO648 := n3_; have HB := n4_; clear n0_ n1_ n2_ n3_ n4_; (try clear hb); (try clear hb2); (try clear hk); (try clear hi); (try clear ho0); obtain ⟨Ao72, co72, eo72⟩ := Kd.S_slice HO645.out; subst eo72; obtain ⟨Ao73, co73, eo73⟩ := Kd.R_slice HO648.out; subst eo73) | ((with_reducible refine gate_callee (f := 44) rfl ?_); refine goesL_ (some 97) rfl rfl Try.func44 (by kernel_rfl) rfl #[.slice Ao72 t643.length co72, .slice Ao73 t646.length co73] rfl zS ?_; (with_reducible refine (impl_CostsOf.calls kj41 _ _ t643 _ _ t646 t649 t650 _ ?side1 ?side2 ?side3 ?side4 A66.out).mono ?_); (case side1 => repeat (first | exact (Kd.S_reads' HO645.out).2.2 | (with_reducible refine Kd.C_alloc ?_ _) | (with_reducible refine Kd.C_drewN ?_ _) | (with_reducible refine Kd.C_drew ?_))); (case side2 => exact (Kd.S_reads' HO645.out).2.1); (case side3 => exact zC (Kd.R_reads' HO648.out).2.2); (case side4 => exact (Kd.R_reads' HO648.out).2.1); rintro e w74 ⟨v651, rfl, ho0, hb⟩; refine ⟨_, rfl, ?_⟩; have n0_ := zQ (Kd.R_elder' (zR HO_6.out) (Kd.R_base ho0) hb); have n1_ := zQ (Kd.R_elder' (zR HO_10.out) (Kd.R_base ho0) hb); have n2_ := zQ (Kd.S_below (by (with_reducible repeat (first | apply Kd.S_alloc | apply Kd.S_drewN | apply Kd.S_drew)); exact HO645.out) hb); have n3_ := zQ (Kd.R_below (zR HO648.out) hb); have n4_ := zQ (Kd.R_lower (Kd.R_new' (Kd.R_new' ho0 (Kd.R_lt (zR HO_6.out))) (Kd.R_lt (zR HO_10.out))) (below_size (zB HB.out))); have n5_ := zQ (below_step (zB HB.out) hb); clear HO_6; clear HO_10; clear HO645; clear HO648; clear HB; have HO_6 := n0_; have HO_10 := n1_; have HO645 := n2_; have HO648 := n3_; have HO652 := n4_; have HB := n5_; clear n0_ n1_ n2_ n3_ n4_ n5_; (try clear hb); (try clear hb2); (try clear hk); (try clear hi); (try clear ho0)))
             (try simp only [Act.put, List.setIfInBounds_toArray, List.set_cons_zero, List.set_cons_succ])
             go_cut [108] (fun v108 wc => ∃ (kq : Nat) (x108_66 : Bool), v108 = .bool x108_66 ∧ Aside0 (laws_FnExactCostsOf.j2 kq t641 t640 x108_66 = some r) ∧ Aside0 (kq ≤ kj41) ∧ Aside0 (Kd.R k144 144 wc w.heap.size (fun _ => True) (.slice Ao68 t623.length co68) t641) ∧ Aside0 (Below w.heap.size w wc))
             case first =>
              have H := HC67.out
              clear HC67
              replace H := Option.bind_eq_some_iff.mp H
              obtain ⟨t653, A750, H⟩ := H
              replace H : (if t653 = true then (laws_FnExactCostsOf.j2 kj41 t641 t640 (t650 != t614)) else (laws_FnExactCostsOf.j2 kj41 t641 t640 true)) = some r := H
              have A75 := zQ A750
              clear A750
              by_cases c76 : t653 = true
              ·subst c76
               have H1 : (laws_FnExactCostsOf.j2 kj41 t641 t640 (t650 != t614)) = some r := by rw [if_pos rfl] at H; exact H
               clear H
               have H := H1
               clear H1
               have H' := zQ H
               clear H
               obtain ⟨Ao77, co77, eo77⟩ := Kd.R_slice HO652.out
               subst eo77
               obtain ⟨Ao78, co78, eo78⟩ := Kd.R_slice HO_6.out
               subst eo78
               go_wp2_with (first | ((with_reducible refine gate_callee (f := 45) rfl ?_); refine goesL_ (some 102) rfl rfl Try.func45 (by kernel_rfl) rfl #[.slice Ao77 t649.length co77, .slice Ao78 t613.length co78] rfl zS ?_; (with_reducible refine (laws_eqSummaryS.calls kj41 _ _ t649 _ _ t613 true _ ?side1 ?side2 ?side3 ?side4 A75.out).mono ?_); (case side1 => exact zC (Kd.R_reads' HO652.out).2.2); (case side2 => exact (Kd.R_reads' HO652.out).2.1); (case side3 => exact zC (Kd.R_reads' HO_6.out).2.2); (case side4 => exact (Kd.R_reads' HO_6.out).2.1); rintro e w79 ⟨rfl, hb⟩; refine ⟨_, rfl, ?_⟩; have n0_ := zQ (Kd.R_below (zR HO_6.out) hb); have n1_ := zQ (Kd.R_below (zR HO_10.out) hb); have n2_ := zQ (Kd.S_below (by (with_reducible repeat (first | apply Kd.S_alloc | apply Kd.S_drewN | apply Kd.S_drew)); exact HO645.out) hb); have n3_ := zQ (Kd.R_below (zR HO648.out) hb); have n4_ := zQ (Kd.R_below (zR HO652.out) hb); have n5_ := zQ (below_step (zB HB.out) hb); clear HO_6; clear HO_10; clear HO645; clear HO648; clear HO652; clear HB; have HO_6 := n0_; have HO_10 := n1_; have HO645 := n2_; have HO648 := n3_; have HO652 := n4_; have HB := n5_; clear n0_ n1_ n2_ n3_ n4_ n5_; (try clear hb); (try clear hb2); (try clear hk); (try clear hi)))
               go_meet
               case rel => exact ⟨_, ((t650 != t614)), (by first | rfl | (simp; done) | (simp [*]; done)), H', ⟨by have := HJ12.out; have := HJ41.out; first | omega | exact Nat.le_refl _⟩, ⟨by (with_reducible repeat (first | apply Kd.R_alloc | apply Kd.R_drewN | apply Kd.R_drew)); exact Kd.R_mono HO_10.out (fun _ hk => trivial)⟩, ⟨zB HB.out⟩⟩
              ·replace c76 := Bool.eq_false_iff.mpr c76
               subst c76
               have H1 : (laws_FnExactCostsOf.j2 kj41 t641 t640 true) = some r := by rw [if_neg (show ¬ (false = true) by decide)] at H; exact H
               clear H
               have H := H1
               clear H1
               have H' := zQ H
               clear H
               obtain ⟨Ao80, co80, eo80⟩ := Kd.R_slice HO652.out
               subst eo80
               obtain ⟨Ao81, co81, eo81⟩ := Kd.R_slice HO_6.out
               subst eo81
               go_wp2_with (first | ((with_reducible refine gate_callee (f := 45) rfl ?_); refine goesL_ (some 102) rfl rfl Try.func45 (by kernel_rfl) rfl #[.slice Ao80 t649.length co80, .slice Ao81 t613.length co81] rfl zS ?_; (with_reducible refine (laws_eqSummaryS.calls kj41 _ _ t649 _ _ t613 false _ ?side1 ?side2 ?side3 ?side4 A75.out).mono ?_); (case side1 => exact zC (Kd.R_reads' HO652.out).2.2); (case side2 => exact (Kd.R_reads' HO652.out).2.1); (case side3 => exact zC (Kd.R_reads' HO_6.out).2.2); (case side4 => exact (Kd.R_reads' HO_6.out).2.1); rintro e w82 ⟨rfl, hb⟩; refine ⟨_, rfl, ?_⟩; have n0_ := zQ (Kd.R_below (zR HO_6.out) hb); have n1_ := zQ (Kd.R_below (zR HO_10.out) hb); have n2_ := zQ (Kd.S_below (by (with_reducible repeat (first | apply Kd.S_alloc | apply Kd.S_drewN | apply Kd.S_drew)); exact HO645.out) hb); have n3_ := zQ (Kd.R_below (zR HO648.out) hb); have n4_ := zQ (Kd.R_below (zR HO652.out) hb); have n5_ := zQ (below_step (zB HB.out) hb); clear HO_6; clear HO_10; clear HO645; clear HO648; clear HO652; clear HB; have HO_6 := n0_; have HO_10 := n1_; have HO645 := n2_; have HO648 := n3_; have HO652 := n4_; have HB := n5_; clear n0_ n1_ n2_ n3_ n4_ n5_; (try clear hb); (try clear hb2); (try clear hk); (try clear hi)))
               go_meet
               case rel => exact ⟨_, (true), (by first | rfl | (simp; done) | (simp [*]; done)), H', ⟨by have := HJ12.out; have := HJ41.out; first | omega | exact Nat.le_refl _⟩, ⟨by (with_reducible repeat (first | apply Kd.R_alloc | apply Kd.R_drewN | apply Kd.R_drew)); exact Kd.R_mono HO_10.out (fun _ hk => trivial)⟩, ⟨zB HB.out⟩⟩
             case rest =>
              clear HC67
              try clear c1
              try clear c2
              try clear p2
              try clear c3
              try clear c3b0
              try clear c3b1
              try clear c4
              try clear c5
              try clear c5b0
              try clear c6
              try clear c7
              try clear c8
              try clear c15
              try clear c19
              try clear c21
              try clear c26
              try clear c27
              try clear c29
              try clear c32
              try clear c33
              try clear c36
              try clear c39
              try clear c43
              try clear c44
              try clear c45
              try clear c46
              try clear c47
              try clear c50
              try clear c50b0
              try clear c52
              try clear c59
              try clear c62
              try clear c62b0
              try clear c63
              try clear c63b0
              try clear c63b1
              try clear c76
              try clear p2
              obtain ⟨kq, x108_66, rfl, HA, HJ66, HO_10, HB⟩ := hcut
              have hl10_66 := (Kd.R_reads' HO_10.out).1
              rw [hl10_66] at HO_10
              (try simp only [hl10_66])
              cases kq with
              | zero => exact absurd HA.out (by simp [laws_FnExactCostsOf.j2])
              | succ kj66 =>
               have H := HA.out
               clear HA
               simp only [laws_FnExactCostsOf.j2] at H
               by_cases c83 : x108_66 = true
               ·subst c83
                have H1 : (some false) = some r := by rw [if_pos rfl] at H; exact H
                clear H
                have H := H1
                clear H1
                exact absurd ((Option.some.inj H).trans hlaw_.out) (by decide)
               ·replace c83 := Bool.eq_false_iff.mpr c83
                subst c83
                have H1 : ((laws_heldSummaryS.f kj66 t641 1).bind fun t654 => (if t654 < 0 then (some false) else (if t654 = t640 then (some true) else (some false)))) = some r := by rw [if_neg (show ¬ (false = true) by decide)] at H; exact H
                clear H
                have H := H1
                clear H1
                replace H := Option.bind_eq_some_iff.mp H
                obtain ⟨t654, A840, H⟩ := H
                replace H : (if t654 < 0 then (some false) else (if t654 = t640 then (some true) else (some false))) = some r := H
                have A84 := zQ A840
                clear A840
                by_cases c85 : t654 < 0
                ·rw [if_pos c85] at H
                 have c85b0 : decide (t654 < 0) = true := decide_eq_true c85
                 clear c85
                 exact absurd ((Option.some.inj H).trans hlaw_.out) (by decide)
                ·rw [if_neg c85] at H
                 have c85b0 : decide (t654 < 0) = false := decide_eq_false c85
                 clear c85
                 by_cases c86 : t654 = t640
                 ·rw [if_pos c86] at H
                  have c86b0 : (t654 == t640) = true := beq_iff_eq.mpr c86
                  have c86b1 : (t654 != t640) = false := bne_eq_false_iff_eq.mpr c86
                  clear c86
                  obtain rfl := Option.some.inj H
                  go_wp2_with (first | ((with_reducible refine gate_callee (f := 47) rfl ?_); refine goesL_ (some 111) rfl rfl Try.func47 (by kernel_rfl) rfl #[.slice Ao68 t641.length co68, .int .i64 1] rfl zS ?_; (with_reducible refine (laws_heldSummaryS.calls kj66 _ _ t641 1 t654 _ ?side1 ?side2 A84.out).mono ?_); (case side1 => exact zC (Kd.R_reads' HO_10.out).2.2); (case side2 => exact (Kd.R_reads' HO_10.out).2.1); rintro e w' ⟨rfl, ⟨nd, rfl⟩⟩; refine ⟨_, rfl, ?_⟩))
                  go_ret
                  exact ⟨by first | rfl | (simp [errW_none, errW_some] <;> rfl) | (simp [*, errW_none, errW_some] <;> rfl), zB HB.out⟩
                 ·rw [if_neg c86] at H
                  have c86b0 : (t654 == t640) = false := beq_eq_false_iff_ne.mpr c86
                  have c86b1 : (t654 != t640) = true := bne_iff_ne.mpr c86
                  exact absurd ((Option.some.inj H).trans hlaw_.out) (by decide)
            ·rw [if_neg c63] at H
             have c63b0 : (t642 == t640) = false := beq_eq_false_iff_ne.mpr c63
             have c63b1 : (t642 != t640) = true := bne_iff_ne.mpr c63
             exact absurd ((Option.some.inj H).trans hlaw_.out) (by decide)
       ·replace c39 := Bool.eq_false_iff.mpr c39
        subst c39
        have H1 : (some false) = some r := by rw [if_neg (show ¬ (false = true) by decide)] at H; exact H
        clear H
        have H := H1
        clear H1
        exact absurd ((Option.some.inj H).trans hlaw_.out) (by decide)
      ·replace c36 := Bool.eq_false_iff.mpr c36
       subst c36
       have H1 : (some false) = some r := by rw [if_neg (show ¬ (false = true) by decide)] at H; exact H
       clear H
       have H := H1
       clear H1
       exact absurd ((Option.some.inj H).trans hlaw_.out) (by decide)

def wf88 (x : S88) : Prop := (fun a => (Lit.int .i64 a).wf = true) x.f0 ∧ (fun a => (Lit.int .i64 a).wf = true) x.f1
def wf117 (x : S117) : Prop := (fun l => l.length ≤ maxLen ∧ ∀ a ∈ l, wf88 a) x.f0
/-- THE ONE PURE STATEMENT of laws_FnExactCostsOf: mine. -/
def laws_FnExactCostsOf.Pure : Prop := ∀ (l0 : List (S117)) (l1 : List Int), (fun l => l.length ≤ maxLen ∧ ∀ a ∈ l, wf117 a) l0 → (fun l => l.length ≤ maxLen ∧ ∀ a ∈ l, (fun a => (Lit.int .i64 a).wf = true) a) l1 → ∃ k, laws_FnExactCostsOf.f k l0 l1 = some true

end Go.Proofs.Ytkegjmkdnfpfdaa.MFnExactCostsOf

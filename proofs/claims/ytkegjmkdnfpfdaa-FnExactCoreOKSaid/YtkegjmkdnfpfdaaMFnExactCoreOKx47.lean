-- Text written by a program of this session (wip/tools: the kit's printer with additions of ours).
import Derived.Test.YtkegjmkdnfpfdaaMFnExactCoreOKx0
import Derived.Test.YtkegjmkdnfpfdaaMFnExactCoreOKx2
import Derived.Test.YtkegjmkdnfpfdaaMFnExactCoreOKx3
import Derived.Test.YtkegjmkdnfpfdaaMFnExactCoreOKx4
import Derived.Test.YtkegjmkdnfpfdaaMFnExactCoreOKx6
import Derived.Test.YtkegjmkdnfpfdaaMFnExactCoreOKx9
import Derived.Test.YtkegjmkdnfpfdaaMFnExactCoreOKx10
import Derived.Test.YtkegjmkdnfpfdaaMFnExactCoreOKx30
import Derived.Test.YtkegjmkdnfpfdaaMFnExactCoreOKx31
import Derived.Test.YtkegjmkdnfpfdaaMFnExactCoreOKx46
namespace Go.Proofs.Ytkegjmkdnfpfdaa.MFnExactCoreOK
open Go.RowKit Go.Proofs.YtkegjmkdnfpfdaaW.PrintWords Go.Proofs.YtkegjmkdnfpfdaaW.PrintLast Go.Proofs.YtkegjmkdnfpfdaaW.PrintMore
attribute [local go_sem] max2_int min2_int max_two min_two max_three min_three max_four min_four
set_option linter.unusedVariables false
set_option linter.unusedSimpArgs false

/-! ### laws_FnExactCoreOK: function 9 -/
def laws_FnExactCoreOK.f (k : Nat) (l0 : List (S117)) (l1 : List Int) (l2_0 : List (S199)) (l2_1 : List Int) : Option (Bool) := if (l1.length : Int) > 1048576 then (some true) else ((laws_szRoutineS.f k l0 1048576).bind fun t355 => (if t355 < 0 then (some true) else ((laws_szCore.f k l2_0 l2_1 t355).bind fun t356 => (if t356 < 0 then (some true) else ((laws_toRoutineS.f k l0).bind fun t357 => ((laws_toIntS.f k l1).bind fun t360 => ((laws_toCore.f k l2_0 l2_1).bind fun bt363 => ((spec_CoreOK.f k t357 t360 bt363.1 bt363.2).bind fun t369 => ((laws_toRoutineS.f k l0).bind fun t370 => ((laws_toIntS.f k l1).bind fun t373 => ((laws_toCore.f k l2_0 l2_1).bind fun bt376 => ((impl_CoreOK.f k t370 t373 bt376.1 bt376.2).bind fun t383 => (if (t383 != t369) = true then (some false) else ((laws_toRoutineS.f k l0).bind fun t384 => ((laws_eqRoutineS.f k t370 t384).bind fun t387 => (if t387 = true then ((laws_toIntS.f k l1).bind fun t388 => ((laws_eqIntS.f k t373 t388).bind fun t391 => (if t391 = true then ((laws_toCore.f k l2_0 l2_1).bind fun bt392 => ((laws_eqCore.f k bt376.1 bt376.2 bt392.1 bt392.2).bind fun t398 => (if t398 = true then (some true) else (some false)))) else (some false)))) else (some false)))))))))))))))))
theorem laws_FnExactCoreOK.mono : ∀ a0 a1 a2 a3 k, LeO (laws_FnExactCoreOK.f k a0 a1 a2 a3) (laws_FnExactCoreOK.f (k + 1) a0 a1 a2 a3) := by
 intro a0 a1 a2 a3 k
 unfold laws_FnExactCoreOK.f
 repeat' first
  | (with_reducible exact impl_CoreOK.mono _ _ _ _ _)
  | (with_reducible exact laws_eqCore.mono _ _ _ _ _)
  | (with_reducible exact laws_eqIntS.mono _ _ _)
  | (with_reducible exact laws_eqRoutineS.mono _ _ _)
  | (with_reducible exact laws_szCore.mono _ _ _ _)
  | (with_reducible exact laws_szRoutineS.mono _ _ _)
  | (with_reducible exact laws_toCore.mono _ _ _)
  | (with_reducible exact laws_toIntS.mono _ _)
  | (with_reducible exact laws_toRoutineS.mono _ _)
  | (with_reducible exact spec_CoreOK.mono _ _ _ _ _)
  | (with_reducible exact LeO.refl _)
  | (with_reducible exact LeO.none _)
  | (with_reducible refine LeO.ite ?_ ?_)
  | (with_reducible refine LeO.bind ?_ (fun _ => ?_))
  | exact impl_CoreOK.mono _ _ _ _ _
  | exact laws_eqCore.mono _ _ _ _ _
  | exact laws_eqIntS.mono _ _ _
  | exact laws_eqRoutineS.mono _ _ _
  | exact laws_szCore.mono _ _ _ _
  | exact laws_szRoutineS.mono _ _ _
  | exact laws_toCore.mono _ _ _
  | exact laws_toIntS.mono _ _
  | exact laws_toRoutineS.mono _ _
  | exact spec_CoreOK.mono _ _ _ _ _
  | exact LeO.none _
  | refine LeO.ite ?_ ?_
  | refine LeO.bind ?_ (fun _ => ?_)
def laws_FnExactCoreOK.T10 : Bool × List (List Nat × List Nat) := (true, [([], []), ([0], [0]), ([], []), ([2, 1], [2]), ([], []), ([4, 3], [4]), ([1, 3, 5, 5], [1, 3, 5]), ([6, 6, 0, 1, 2, 3, 4, 5, 6], [6])])
def laws_FnExactCoreOK.B10 : List Nat := [0, 1, 0, 7, 0, 31, 63, 127]
theorem laws_FnExactCoreOK.tab10 : rtab .any (opsOf Try.f9 10) = laws_FnExactCoreOK.T10 := by kernel_rfl
theorem laws_FnExactCoreOK.bits10 : waitsOk laws_FnExactCoreOK.T10.2 laws_FnExactCoreOK.B10 = true := by kernel_rfl
set_option maxHeartbeats 8000000 in
set_option maxRecDepth 100000 in
theorem laws_FnExactCoreOK.calls (k : Nat) (A0 : Option Addr) (c0 : Nat) (l0 : List (S117)) (A1 : Option Addr) (c1 : Nat) (l1 : List Int) (A2_0 : Option Addr) (c2_0 : Nat) (l2_0 : List (S199)) (A2_1 : Option Addr) (c2_1 : Nat) (l2_1 : List Int) (r : Bool) (w : World) (hr0 : Kd.C k117 w A0 l0.length l0) (hc0 : l0.length ≤ c0) (hr1 : Kd.C (Kd.int .i64) w A1 l1.length l1) (hc1 : l1.length ≤ c1) (hr2_0 : Kd.C k199 w A2_0 l2_0.length l2_0) (hc2_0 : l2_0.length ≤ c2_0) (hr2_1 : Kd.C (Kd.int .i64) w A2_1 l2_1.length l2_1) (hc2_1 : l2_1.length ≤ c2_1) (h : laws_FnExactCoreOK.f k l0 l1 l2_0 l2_1 = some r) (hlaw0 : r = true) :
 Calls Try.prog 9 #[.slice A0 l0.length c0, .slice A1 l1.length c1, .agg #[.slice A2_0 l2_0.length c2_0, .slice A2_1 l2_1.length c2_1]] w fun e w' => e = .returned (.bool r) ∧ Below w.heap.size w w' := by
 have hu77 := Try.underlying77
 have hu45 := Try.underlying45
 have HR0 := zQ hr0
 have HC0 := zQ hc0
 clear hr0 hc0
 have HR1 := zQ hr1
 have HC1 := zQ hc1
 clear hr1 hc1
 have HR2_0 := zQ hr2_0
 have HC2_0 := zQ hc2_0
 clear hr2_0 hc2_0
 have HR2_1 := zQ hr2_1
 have HC2_1 := zQ hc2_1
 clear hr2_1 hc2_1
 have HB := zQ (Below.refl w.heap.size w)
 have hlaw_ := zQ hlaw0
 clear hlaw0
 have H : (if (l1.length : Int) > 1048576 then (some true) else ((laws_szRoutineS.f k l0 1048576).bind fun t355 => (if t355 < 0 then (some true) else ((laws_szCore.f k l2_0 l2_1 t355).bind fun t356 => (if t356 < 0 then (some true) else ((laws_toRoutineS.f k l0).bind fun t357 => ((laws_toIntS.f k l1).bind fun t360 => ((laws_toCore.f k l2_0 l2_1).bind fun bt363 => ((spec_CoreOK.f k t357 t360 bt363.1 bt363.2).bind fun t369 => ((laws_toRoutineS.f k l0).bind fun t370 => ((laws_toIntS.f k l1).bind fun t373 => ((laws_toCore.f k l2_0 l2_1).bind fun bt376 => ((impl_CoreOK.f k t370 t373 bt376.1 bt376.2).bind fun t383 => (if (t383 != t369) = true then (some false) else ((laws_toRoutineS.f k l0).bind fun t384 => ((laws_eqRoutineS.f k t370 t384).bind fun t387 => (if t387 = true then ((laws_toIntS.f k l1).bind fun t388 => ((laws_eqIntS.f k t373 t388).bind fun t391 => (if t391 = true then ((laws_toCore.f k l2_0 l2_1).bind fun bt392 => ((laws_eqCore.f k bt376.1 bt376.2 bt392.1 bt392.2).bind fun t398 => (if t398 = true then (some true) else (some false)))) else (some false)))) else (some false)))))))))))))))))) = some r := h
 clear h
 by_cases c4 : (l1.length : Int) > 1048576
 ·rw [if_pos c4] at H
  have c4b0 : decide (1048576 < (l1.length : Int)) = true := decide_eq_true c4
  have c4b1 : decide (1048576 < l1.length) = true := decide_eq_true (by omega)
  clear c4
  obtain rfl := Option.some.inj H
  go_enter Try.func9, Try.ntmps9
  go_wp2_with (first | ((with_reducible refine gate_dst (N := 5) rfl ?_); refine box_event ?hg (N := 5) ?hd (cs := #[.slice A2_0 l2_0.length c2_0, .slice A2_1 l2_1.length c2_1]) (t := 77) ?hr ?_; (case hd => rfl); (case hg => rfl); (case hr => first | (go_simp; done) | (go_simp; rfl)); intro gb354 hg w5 hbox hb; have n0_ := zQ (below_step (zB HB.out) hb); have n1_ := zQ (hbox); have n2_ := zQ ((zG hg HB.out)); have n3_ := zQ ((zG hg HB.out)); clear HB; have HB := n0_; have BK354 := n1_; have GW354 := n2_; have GE354 := n3_; clear n0_ n1_ n2_ n3_; clear hb hbox hg))
  go_ret
  exact ⟨by first | rfl | (simp [errW_none, errW_some] <;> rfl) | (simp [*, errW_none, errW_some] <;> rfl), zB HB.out⟩
 ·rw [if_neg c4] at H
  have c4b0 : decide (1048576 < (l1.length : Int)) = false := decide_eq_false c4
  have c4b1 : decide (1048576 < l1.length) = false := decide_eq_false (by omega)
  clear c4
  replace H := Option.bind_eq_some_iff.mp H
  obtain ⟨t355, A60, H⟩ := H
  replace H : (if t355 < 0 then (some true) else ((laws_szCore.f k l2_0 l2_1 t355).bind fun t356 => (if t356 < 0 then (some true) else ((laws_toRoutineS.f k l0).bind fun t357 => ((laws_toIntS.f k l1).bind fun t360 => ((laws_toCore.f k l2_0 l2_1).bind fun bt363 => ((spec_CoreOK.f k t357 t360 bt363.1 bt363.2).bind fun t369 => ((laws_toRoutineS.f k l0).bind fun t370 => ((laws_toIntS.f k l1).bind fun t373 => ((laws_toCore.f k l2_0 l2_1).bind fun bt376 => ((impl_CoreOK.f k t370 t373 bt376.1 bt376.2).bind fun t383 => (if (t383 != t369) = true then (some false) else ((laws_toRoutineS.f k l0).bind fun t384 => ((laws_eqRoutineS.f k t370 t384).bind fun t387 => (if t387 = true then ((laws_toIntS.f k l1).bind fun t388 => ((laws_eqIntS.f k t373 t388).bind fun t391 => (if t391 = true then ((laws_toCore.f k l2_0 l2_1).bind fun bt392 => ((laws_eqCore.f k bt376.1 bt376.2 bt392.1 bt392.2).bind fun t398 => (if t398 = true then (some true) else (some false)))) else (some false)))) else (some false)))))))))))))))) = some r := H
  have A6 := zQ A60
  clear A60
  by_cases c7 : t355 < 0
  ·rw [if_pos c7] at H
   have c7b0 : decide (t355 < 0) = true := decide_eq_true c7
   clear c7
   obtain rfl := Option.some.inj H
   go_enter Try.func9, Try.ntmps9
   go_wp2_with (first | ((with_reducible refine gate_dst (N := 5) rfl ?_); refine box_event ?hg (N := 5) ?hd (cs := #[.slice A2_0 l2_0.length c2_0, .slice A2_1 l2_1.length c2_1]) (t := 77) ?hr ?_; (case hd => rfl); (case hg => rfl); (case hr => first | (go_simp; done) | (go_simp; rfl)); intro gb354 hg w8 hbox hb; have n0_ := zQ (below_step (zB HB.out) hb); have n1_ := zQ (hbox); have n2_ := zQ ((zG hg HB.out)); have n3_ := zQ ((zG hg HB.out)); clear HB; have HB := n0_; have BK354 := n1_; have GW354 := n2_; have GE354 := n3_; clear n0_ n1_ n2_ n3_; clear hb hbox hg) | ((with_reducible refine gate_callee (f := 27) rfl ?_); refine goesL_ (some 18) rfl rfl Try.func27 (by kernel_rfl) rfl #[.slice A0 l0.length c0, .int .i64 1048576] rfl (by (try simp only [List.map_toArray, List.map_cons, List.map_nil]); first | done | rfl | (simp only [List.length_drop, List.length_take]; rfl)) ?_; (with_reducible refine (laws_szRoutineS.calls k _ _ l0 1048576 t355 _ ?side1 ?side2 A6.out).mono ?_); (case side1 => exact zC (Kd.C_below HR0.out HB.out)); (case side2 => exact HC0.out); rintro e w9 ⟨rfl, hb⟩; refine ⟨_, rfl, ?_⟩; have n0_ := zQ (zL BK354.out hb); have n1_ := zQ (below_step (zB HB.out) hb); clear BK354; clear HB; have BK354 := n0_; have HB := n1_; clear n0_ n1_; (try clear hb); (try clear hb2); (try clear hk); (try clear hi)))
   go_ret
   exact ⟨by first | rfl | (simp [errW_none, errW_some] <;> rfl) | (simp [*, errW_none, errW_some] <;> rfl), zB HB.out⟩
  ·rw [if_neg c7] at H
   have c7b0 : decide (t355 < 0) = false := decide_eq_false c7
   clear c7
   replace H := Option.bind_eq_some_iff.mp H
   obtain ⟨t356, A100, H⟩ := H
   replace H : (if t356 < 0 then (some true) else ((laws_toRoutineS.f k l0).bind fun t357 => ((laws_toIntS.f k l1).bind fun t360 => ((laws_toCore.f k l2_0 l2_1).bind fun bt363 => ((spec_CoreOK.f k t357 t360 bt363.1 bt363.2).bind fun t369 => ((laws_toRoutineS.f k l0).bind fun t370 => ((laws_toIntS.f k l1).bind fun t373 => ((laws_toCore.f k l2_0 l2_1).bind fun bt376 => ((impl_CoreOK.f k t370 t373 bt376.1 bt376.2).bind fun t383 => (if (t383 != t369) = true then (some false) else ((laws_toRoutineS.f k l0).bind fun t384 => ((laws_eqRoutineS.f k t370 t384).bind fun t387 => (if t387 = true then ((laws_toIntS.f k l1).bind fun t388 => ((laws_eqIntS.f k t373 t388).bind fun t391 => (if t391 = true then ((laws_toCore.f k l2_0 l2_1).bind fun bt392 => ((laws_eqCore.f k bt376.1 bt376.2 bt392.1 bt392.2).bind fun t398 => (if t398 = true then (some true) else (some false)))) else (some false)))) else (some false)))))))))))))) = some r := H
   have A10 := zQ A100
   clear A100
   by_cases c11 : t356 < 0
   ·rw [if_pos c11] at H
    have c11b0 : decide (t356 < 0) = true := decide_eq_true c11
    clear c11
    obtain rfl := Option.some.inj H
    go_enter Try.func9, Try.ntmps9
    go_wp2_with (first | ((with_reducible refine gate_dst (N := 5) rfl ?_); refine box_event ?hg (N := 5) ?hd (cs := #[.slice A2_0 l2_0.length c2_0, .slice A2_1 l2_1.length c2_1]) (t := 77) ?hr ?_; (case hd => rfl); (case hg => rfl); (case hr => first | (go_simp; done) | (go_simp; rfl)); intro gb354 hg w12 hbox hb; have n0_ := zQ (below_step (zB HB.out) hb); have n1_ := zQ (hbox); have n2_ := zQ ((zG hg HB.out)); have n3_ := zQ ((zG hg HB.out)); clear HB; have HB := n0_; have BK354 := n1_; have GW354 := n2_; have GE354 := n3_; clear n0_ n1_ n2_ n3_; clear hb hbox hg) | ((with_reducible refine gate_callee (f := 27) rfl ?_); refine goesL_ (some 18) rfl rfl Try.func27 (by kernel_rfl) rfl #[.slice A0 l0.length c0, .int .i64 1048576] rfl (by (try simp only [List.map_toArray, List.map_cons, List.map_nil]); first | done | rfl | (simp only [List.length_drop, List.length_take]; rfl)) ?_; (with_reducible refine (laws_szRoutineS.calls k _ _ l0 1048576 t355 _ ?side1 ?side2 A6.out).mono ?_); (case side1 => exact zC (Kd.C_below HR0.out HB.out)); (case side2 => exact HC0.out); rintro e w13 ⟨rfl, hb⟩; refine ⟨_, rfl, ?_⟩; have n0_ := zQ (zL BK354.out hb); have n1_ := zQ (below_step (zB HB.out) hb); clear BK354; clear HB; have BK354 := n0_; have HB := n1_; clear n0_ n1_; (try clear hb); (try clear hb2); (try clear hk); (try clear hi); obtain ⟨hcz14_0, hcz14_1, hfz14_0, hfz14_1⟩ := zc2 BK354.out) | ((with_reducible refine gate_callee (f := 48) rfl ?_); refine goesL_ (some 23) rfl rfl Try.func48 (by kernel_rfl) rfl #[.agg #[.slice A2_0 l2_0.length c2_0, .slice A2_1 l2_1.length c2_1], .int .i64 t355] rfl (by (try simp only [List.map_toArray, List.map_cons, List.map_nil]); first | done | rfl | (simp only [List.length_drop, List.length_take]; rfl)) ?_; (with_reducible refine (laws_szCore.calls k _ _ l2_0 _ _ l2_1 t355 t356 _ ?side1 ?side2 ?side3 ?side4 A10.out).mono ?_); (case side1 => exact zC (Kd.C_below HR2_0.out HB.out)); (case side2 => exact HC2_0.out); (case side3 => exact zC (Kd.C_below HR2_1.out HB.out)); (case side4 => exact HC2_1.out); rintro e w15 ⟨rfl, hb⟩; refine ⟨_, rfl, ?_⟩; have n0_ := zQ (zL BK354.out hb); have n1_ := zQ (below_step (zB HB.out) hb); clear BK354; clear HB; have BK354 := n0_; have HB := n1_; clear n0_ n1_; (try clear hb); (try clear hb2); (try clear hk); (try clear hi)))
    go_ret
    exact ⟨by first | rfl | (simp [errW_none, errW_some] <;> rfl) | (simp [*, errW_none, errW_some] <;> rfl), zB HB.out⟩
   ·rw [if_neg c11] at H
    have c11b0 : decide (t356 < 0) = false := decide_eq_false c11
    clear c11
    replace H := Option.bind_eq_some_iff.mp H
    obtain ⟨t357, A160, H⟩ := H
    replace H : ((laws_toIntS.f k l1).bind fun t360 => ((laws_toCore.f k l2_0 l2_1).bind fun bt363 => ((spec_CoreOK.f k t357 t360 bt363.1 bt363.2).bind fun t369 => ((laws_toRoutineS.f k l0).bind fun t370 => ((laws_toIntS.f k l1).bind fun t373 => ((laws_toCore.f k l2_0 l2_1).bind fun bt376 => ((impl_CoreOK.f k t370 t373 bt376.1 bt376.2).bind fun t383 => (if (t383 != t369) = true then (some false) else ((laws_toRoutineS.f k l0).bind fun t384 => ((laws_eqRoutineS.f k t370 t384).bind fun t387 => (if t387 = true then ((laws_toIntS.f k l1).bind fun t388 => ((laws_eqIntS.f k t373 t388).bind fun t391 => (if t391 = true then ((laws_toCore.f k l2_0 l2_1).bind fun bt392 => ((laws_eqCore.f k bt376.1 bt376.2 bt392.1 bt392.2).bind fun t398 => (if t398 = true then (some true) else (some false)))) else (some false)))) else (some false)))))))))))) = some r := H
    have A16 := zQ A160
    clear A160
    replace H := Option.bind_eq_some_iff.mp H
    obtain ⟨t360, A170, H⟩ := H
    replace H : ((laws_toCore.f k l2_0 l2_1).bind fun bt363 => ((spec_CoreOK.f k t357 t360 bt363.1 bt363.2).bind fun t369 => ((laws_toRoutineS.f k l0).bind fun t370 => ((laws_toIntS.f k l1).bind fun t373 => ((laws_toCore.f k l2_0 l2_1).bind fun bt376 => ((impl_CoreOK.f k t370 t373 bt376.1 bt376.2).bind fun t383 => (if (t383 != t369) = true then (some false) else ((laws_toRoutineS.f k l0).bind fun t384 => ((laws_eqRoutineS.f k t370 t384).bind fun t387 => (if t387 = true then ((laws_toIntS.f k l1).bind fun t388 => ((laws_eqIntS.f k t373 t388).bind fun t391 => (if t391 = true then ((laws_toCore.f k l2_0 l2_1).bind fun bt392 => ((laws_eqCore.f k bt376.1 bt376.2 bt392.1 bt392.2).bind fun t398 => (if t398 = true then (some true) else (some false)))) else (some false)))) else (some false))))))))))) = some r := H
    have A17 := zQ A170
    clear A170
    replace H := Option.bind_eq_some_iff.mp H
    obtain ⟨⟨t363, t366⟩, A180, H⟩ := H
    replace H : ((spec_CoreOK.f k t357 t360 t363 t366).bind fun t369 => ((laws_toRoutineS.f k l0).bind fun t370 => ((laws_toIntS.f k l1).bind fun t373 => ((laws_toCore.f k l2_0 l2_1).bind fun bt376 => ((impl_CoreOK.f k t370 t373 bt376.1 bt376.2).bind fun t383 => (if (t383 != t369) = true then (some false) else ((laws_toRoutineS.f k l0).bind fun t384 => ((laws_eqRoutineS.f k t370 t384).bind fun t387 => (if t387 = true then ((laws_toIntS.f k l1).bind fun t388 => ((laws_eqIntS.f k t373 t388).bind fun t391 => (if t391 = true then ((laws_toCore.f k l2_0 l2_1).bind fun bt392 => ((laws_eqCore.f k bt376.1 bt376.2 bt392.1 bt392.2).bind fun t398 => (if t398 = true then (some true) else (some false)))) else (some false)))) else (some false)))))))))) = some r := H
    have A18 := zQ A180
    clear A180
    replace H := Option.bind_eq_some_iff.mp H
    obtain ⟨t369, A190, H⟩ := H
    replace H : ((laws_toRoutineS.f k l0).bind fun t370 => ((laws_toIntS.f k l1).bind fun t373 => ((laws_toCore.f k l2_0 l2_1).bind fun bt376 => ((impl_CoreOK.f k t370 t373 bt376.1 bt376.2).bind fun t383 => (if (t383 != t369) = true then (some false) else ((laws_toRoutineS.f k l0).bind fun t384 => ((laws_eqRoutineS.f k t370 t384).bind fun t387 => (if t387 = true then ((laws_toIntS.f k l1).bind fun t388 => ((laws_eqIntS.f k t373 t388).bind fun t391 => (if t391 = true then ((laws_toCore.f k l2_0 l2_1).bind fun bt392 => ((laws_eqCore.f k bt376.1 bt376.2 bt392.1 bt392.2).bind fun t398 => (if t398 = true then (some true) else (some false)))) else (some false)))) else (some false))))))))) = some r := H
    have A19 := zQ A190
    clear A190
    replace H := Option.bind_eq_some_iff.mp H
    obtain ⟨t370, A200, H⟩ := H
    replace H : ((laws_toIntS.f k l1).bind fun t373 => ((laws_toCore.f k l2_0 l2_1).bind fun bt376 => ((impl_CoreOK.f k t370 t373 bt376.1 bt376.2).bind fun t383 => (if (t383 != t369) = true then (some false) else ((laws_toRoutineS.f k l0).bind fun t384 => ((laws_eqRoutineS.f k t370 t384).bind fun t387 => (if t387 = true then ((laws_toIntS.f k l1).bind fun t388 => ((laws_eqIntS.f k t373 t388).bind fun t391 => (if t391 = true then ((laws_toCore.f k l2_0 l2_1).bind fun bt392 => ((laws_eqCore.f k bt376.1 bt376.2 bt392.1 bt392.2).bind fun t398 => (if t398 = true then (some true) else (some false)))) else (some false)))) else (some false)))))))) = some r := H
    have A20 := zQ A200
    clear A200
    replace H := Option.bind_eq_some_iff.mp H
    obtain ⟨t373, A210, H⟩ := H
    replace H : ((laws_toCore.f k l2_0 l2_1).bind fun bt376 => ((impl_CoreOK.f k t370 t373 bt376.1 bt376.2).bind fun t383 => (if (t383 != t369) = true then (some false) else ((laws_toRoutineS.f k l0).bind fun t384 => ((laws_eqRoutineS.f k t370 t384).bind fun t387 => (if t387 = true then ((laws_toIntS.f k l1).bind fun t388 => ((laws_eqIntS.f k t373 t388).bind fun t391 => (if t391 = true then ((laws_toCore.f k l2_0 l2_1).bind fun bt392 => ((laws_eqCore.f k bt376.1 bt376.2 bt392.1 bt392.2).bind fun t398 => (if t398 = true then (some true) else (some false)))) else (some false)))) else (some false))))))) = some r := H
    have A21 := zQ A210
    clear A210
    replace H := Option.bind_eq_some_iff.mp H
    obtain ⟨⟨t376, t379⟩, A220, H⟩ := H
    replace H : ((impl_CoreOK.f k t370 t373 t376 t379).bind fun t383 => (if (t383 != t369) = true then (some false) else ((laws_toRoutineS.f k l0).bind fun t384 => ((laws_eqRoutineS.f k t370 t384).bind fun t387 => (if t387 = true then ((laws_toIntS.f k l1).bind fun t388 => ((laws_eqIntS.f k t373 t388).bind fun t391 => (if t391 = true then ((laws_toCore.f k l2_0 l2_1).bind fun bt392 => ((laws_eqCore.f k t376 t379 bt392.1 bt392.2).bind fun t398 => (if t398 = true then (some true) else (some false)))) else (some false)))) else (some false)))))) = some r := H
    have A22 := zQ A220
    clear A220
    replace H := Option.bind_eq_some_iff.mp H
    obtain ⟨t383, A230, H⟩ := H
    replace H : (if (t383 != t369) = true then (some false) else ((laws_toRoutineS.f k l0).bind fun t384 => ((laws_eqRoutineS.f k t370 t384).bind fun t387 => (if t387 = true then ((laws_toIntS.f k l1).bind fun t388 => ((laws_eqIntS.f k t373 t388).bind fun t391 => (if t391 = true then ((laws_toCore.f k l2_0 l2_1).bind fun bt392 => ((laws_eqCore.f k t376 t379 bt392.1 bt392.2).bind fun t398 => (if t398 = true then (some true) else (some false)))) else (some false)))) else (some false))))) = some r := H
    have A23 := zQ A230
    clear A230
    by_cases c24 : (t383 != t369) = true
    ·rw [if_pos c24] at H
     have c24b0 : (t383 != t369) = true := c24
     (try (have c24b1 : decide (t383 = t369) = false := by simpa using c24))
     (try (have c24b2 : (t383 == t369) = false := by simpa using c24))
     (try (have c24b3 : ¬ (t383 = t369) := by simpa using c24))
     clear c24
     exact absurd ((Option.some.inj H).trans hlaw_.out) (by decide)
    ·rw [if_neg c24] at H
     have c24b0 : (t383 != t369) = false := by simpa using c24
     (try (have c24b1 : decide (t383 = t369) = true := by simpa using c24))
     (try (have c24b2 : (t383 == t369) = true := by simpa using c24))
     clear c24
     replace H := Option.bind_eq_some_iff.mp H
     obtain ⟨t384, A250, H⟩ := H
     replace H : ((laws_eqRoutineS.f k t370 t384).bind fun t387 => (if t387 = true then ((laws_toIntS.f k l1).bind fun t388 => ((laws_eqIntS.f k t373 t388).bind fun t391 => (if t391 = true then ((laws_toCore.f k l2_0 l2_1).bind fun bt392 => ((laws_eqCore.f k t376 t379 bt392.1 bt392.2).bind fun t398 => (if t398 = true then (some true) else (some false)))) else (some false)))) else (some false))) = some r := H
     have A25 := zQ A250
     clear A250
     replace H := Option.bind_eq_some_iff.mp H
     obtain ⟨t387, A260, H⟩ := H
     replace H : (if t387 = true then ((laws_toIntS.f k l1).bind fun t388 => ((laws_eqIntS.f k t373 t388).bind fun t391 => (if t391 = true then ((laws_toCore.f k l2_0 l2_1).bind fun bt392 => ((laws_eqCore.f k t376 t379 bt392.1 bt392.2).bind fun t398 => (if t398 = true then (some true) else (some false)))) else (some false)))) else (some false)) = some r := H
     have A26 := zQ A260
     clear A260
     by_cases c27 : t387 = true
     ·subst c27
      have H1 : ((laws_toIntS.f k l1).bind fun t388 => ((laws_eqIntS.f k t373 t388).bind fun t391 => (if t391 = true then ((laws_toCore.f k l2_0 l2_1).bind fun bt392 => ((laws_eqCore.f k t376 t379 bt392.1 bt392.2).bind fun t398 => (if t398 = true then (some true) else (some false)))) else (some false)))) = some r := by rw [if_pos rfl] at H; exact H
      clear H
      have H := H1
      clear H1
      replace H := Option.bind_eq_some_iff.mp H
      obtain ⟨t388, A280, H⟩ := H
      replace H : ((laws_eqIntS.f k t373 t388).bind fun t391 => (if t391 = true then ((laws_toCore.f k l2_0 l2_1).bind fun bt392 => ((laws_eqCore.f k t376 t379 bt392.1 bt392.2).bind fun t398 => (if t398 = true then (some true) else (some false)))) else (some false))) = some r := H
      have A28 := zQ A280
      clear A280
      replace H := Option.bind_eq_some_iff.mp H
      obtain ⟨t391, A290, H⟩ := H
      replace H : (if t391 = true then ((laws_toCore.f k l2_0 l2_1).bind fun bt392 => ((laws_eqCore.f k t376 t379 bt392.1 bt392.2).bind fun t398 => (if t398 = true then (some true) else (some false)))) else (some false)) = some r := H
      have A29 := zQ A290
      clear A290
      by_cases c30 : t391 = true
      ·subst c30
       have H1 : ((laws_toCore.f k l2_0 l2_1).bind fun bt392 => ((laws_eqCore.f k t376 t379 bt392.1 bt392.2).bind fun t398 => (if t398 = true then (some true) else (some false)))) = some r := by rw [if_pos rfl] at H; exact H
       clear H
       have H := H1
       clear H1
       replace H := Option.bind_eq_some_iff.mp H
       obtain ⟨⟨t392, t395⟩, A310, H⟩ := H
       replace H : ((laws_eqCore.f k t376 t379 t392 t395).bind fun t398 => (if t398 = true then (some true) else (some false))) = some r := H
       have A31 := zQ A310
       clear A310
       replace H := Option.bind_eq_some_iff.mp H
       obtain ⟨t398, A320, H⟩ := H
       replace H : (if t398 = true then (some true) else (some false)) = some r := H
       have A32 := zQ A320
       clear A320
       by_cases c33 : t398 = true
       ·subst c33
        have H1 : (some true) = some r := by rw [if_pos rfl] at H; exact H
        clear H
        have H := H1
        clear H1
        obtain rfl := Option.some.inj H
        go_enter Try.func9, Try.ntmps9
        try go_wp2_with (first | ((with_reducible refine gate_dst (N := 5) rfl ?_); refine box_event ?hg (N := 5) ?hd (cs := #[.slice A2_0 l2_0.length c2_0, .slice A2_1 l2_1.length c2_1]) (t := 77) ?hr ?_; (case hd => rfl); (case hg => rfl); (case hr => first | (go_simp; done) | (go_simp; rfl)); intro gb354 hg w34 hbox hb; have n0_ := zQ (below_step (zB HB.out) hb); have n1_ := zQ (hbox); have n2_ := zQ ((zG hg HB.out)); have n3_ := zQ ((zG hg HB.out)); clear HB; have HB := n0_; have BK354 := n1_; have GW354 := n2_; have GE354 := n3_; clear n0_ n1_ n2_ n3_; clear hb hbox hg) | ((with_reducible refine gate_callee (f := 27) rfl ?_); refine goesL_ (some 18) rfl rfl Try.func27 (by kernel_rfl) rfl #[.slice A0 l0.length c0, .int .i64 1048576] rfl (by (try simp only [List.map_toArray, List.map_cons, List.map_nil]); first | done | rfl | (simp only [List.length_drop, List.length_take]; rfl)) ?_; (with_reducible refine (laws_szRoutineS.calls k _ _ l0 1048576 t355 _ ?side1 ?side2 A6.out).mono ?_); (case side1 => exact zC (Kd.C_below HR0.out HB.out)); (case side2 => exact HC0.out); rintro e w35 ⟨rfl, hb⟩; refine ⟨_, rfl, ?_⟩; have n0_ := zQ (zL BK354.out hb); have n1_ := zQ (below_step (zB HB.out) hb); clear BK354; clear HB; have BK354 := n0_; have HB := n1_; clear n0_ n1_; (try clear hb); (try clear hb2); (try clear hk); (try clear hi); obtain ⟨hcz36_0, hcz36_1, hfz36_0, hfz36_1⟩ := zc2 BK354.out) | ((with_reducible refine gate_callee (f := 48) rfl ?_); refine goesL_ (some 23) rfl rfl Try.func48 (by kernel_rfl) rfl #[.agg #[.slice A2_0 l2_0.length c2_0, .slice A2_1 l2_1.length c2_1], .int .i64 t355] rfl (by (try simp only [List.map_toArray, List.map_cons, List.map_nil]); first | done | rfl | (simp only [List.length_drop, List.length_take]; rfl)) ?_; (with_reducible refine (laws_szCore.calls k _ _ l2_0 _ _ l2_1 t355 t356 _ ?side1 ?side2 ?side3 ?side4 A10.out).mono ?_); (case side1 => exact zC (Kd.C_below HR2_0.out HB.out)); (case side2 => exact HC2_0.out); (case side3 => exact zC (Kd.C_below HR2_1.out HB.out)); (case side4 => exact HC2_1.out); rintro e w37 ⟨rfl, hb⟩; refine ⟨_, rfl, ?_⟩; have n0_ := zQ (zL BK354.out hb); have n1_ := zQ (below_step (zB HB.out) hb); clear BK354; clear HB; have BK354 := n0_; have HB := n1_; clear n0_ n1_; (try clear hb); (try clear hb2); (try clear hk); (try clear hi)))
        have n0_ := zQ (blk_drew BK354.out)
        have n1_ := zQ (below_drew1 HB.out)
        clear BK354
        clear HB
        have BK354 := n0_
        have HB := n1_
        clear n0_ n1_
        refine start_ (n := 8) (S := fun w' => w'.cell? ⟨gb354, 0, none⟩ = some (.slice A2_0 l2_0.length c2_0) ∧ w'.cell? ⟨gb354, 1, none⟩ = some (.slice A2_1 l2_1.length c2_1)) (ds := []) #[false, false, false, false, false, false, false, false] (by kernel_rfl) rfl rfl ⟨(blk_cell BK354.out 0).trans rfl, (blk_cell BK354.out 1).trans rfl⟩ (fun hHeld => ?_); refine with_tabW laws_FnExactCoreOK.tab10 laws_FnExactCoreOK.bits10 (fun HT_ HW_ => ?_)
        generalize w37.drew = w38 at BK354 HB hHeld ⊢
        refine pure_ (i := 0) (N := some 26) (v := ?_) (a' := ?_) #[true, false, false, false, false, false, false, false] rfl rfl (any_of HT_.out (by kernel_rfl)) (fun _ _ _ h => h) (Or.inl ⟨by rfl, ?_⟩) ?_ ?_
        rotate_left
        ·intro w'
         go_simp
         with_reducible rfl
        rotate_left
        ·simp only [Act.put, List.setIfInBounds_toArray, List.set_cons_zero, List.set_cons_succ, i64_w, i32_w]
         rfl
        refine pure_ (i := 2) (N := some 28) (v := ?_) (a' := ?_) #[true, false, true, false, false, false, false, false] rfl rfl (any_of HT_.out (by kernel_rfl)) (fun _ _ _ h => h) (Or.inl ⟨by rfl, ?_⟩) ?_ ?_
        rotate_left
        ·intro w'
         go_simp
         with_reducible rfl
        rotate_left
        ·simp only [Act.put, List.setIfInBounds_toArray, List.set_cons_zero, List.set_cons_succ, i64_w, i32_w]
         rfl
        refine take_ (i := 4) (N := some 30) (v := ?_) (a' := ?_) #[true, false, true, false, true, false, false, false] rfl rfl (take_ofW HT_.out HW_.out (by kernel_rfl)) (fun _ _ _ h => h) (Or.inl ⟨by rfl, ?_⟩) hHeld ?_ ?_
        rotate_left
        ·rintro w' ⟨s0, s1⟩
         go_simp
         with_reducible rfl
        rotate_left
        ·simp only [Act.put, List.setIfInBounds_toArray, List.set_cons_zero, List.set_cons_succ, i64_w, i32_w]
         rfl
        refine one_ (i := 1) (N := some 27) #[true, true, true, false, true, false, false, false] rfl rfl (one_of HT_.out (by kernel_rfl)) (by decide) (fun K hK => ?_)
        refine goes_ Try.func29 (by kernel_rfl) rfl #[.slice A0 l0.length c0] (by rfl) rfl rfl (by (try simp only [List.map_toArray, List.map_cons, List.map_nil]); first | done | rfl | (simp only [List.length_drop, List.length_take]; rfl)) ?_
        with_reducible refine (laws_toRoutineS.calls k _ _ l0 t357 _ ?side1 ?side2 A16.out).mono ?_
        (case side1 => exact zC (Kd.C_below HR0.out HB.out))
        (case side2 => exact HC0.out)
        rintro e w39 ⟨v358, rfl, ho0, hb⟩
        refine ⟨_, rfl, ?_⟩
        have n0_ := zQ (Kd.S_lower ho0 (below_size (zB HB.out)))
        have n1_ := zQ (zL BK354.out hb)
        have n2_ := zQ (below_step (zB HB.out) hb)
        clear BK354
        clear HB
        have HO359 := n0_
        have BK354 := n1_
        have HB := n2_
        clear n0_ n1_ n2_
        (try clear hb)
        (try clear hb2)
        (try clear hk)
        (try clear hi)
        (try clear ho0)
        refine hK.out _ _ ⟨(blk_cell BK354.out 0).trans rfl, (blk_cell BK354.out 1).trans rfl⟩ (fun hHeld => ?_)
        clear hK K
        refine norm_ (a' := ?_) ?_ ?_
        rotate_left
        ·show Act.put _ (some 27) _ = _
         simp only [Act.put, List.setIfInBounds_toArray, List.set_cons_zero, List.set_cons_succ, i64_w, i32_w]
         rfl
        refine one_ (i := 3) (N := some 29) #[true, true, true, true, true, false, false, false] rfl rfl (one_of HT_.out (by kernel_rfl)) (by decide) (fun K hK => ?_)
        refine goes_ Try.func15 (by kernel_rfl) rfl #[.slice A1 l1.length c1] (by rfl) rfl rfl (by (try simp only [List.map_toArray, List.map_cons, List.map_nil]); first | done | rfl | (simp only [List.length_drop, List.length_take]; rfl)) ?_
        with_reducible refine (laws_toIntS.calls k _ _ l1 t360 _ ?side1 ?side2 A17.out).mono ?_
        (case side1 => exact zC (Kd.C_below HR1.out HB.out))
        (case side2 => exact HC1.out)
        rintro e w40 ⟨v361, rfl, ho0, hb⟩
        refine ⟨_, rfl, ?_⟩
        have n0_ := zQ (Kd.S_below (by (with_reducible repeat (first | apply Kd.S_alloc | apply Kd.S_drewN | apply Kd.S_drew)); exact HO359.out) hb)
        have n1_ := zQ (Kd.R_lower ho0 (below_size (zB HB.out)))
        have n2_ := zQ (zL BK354.out hb)
        have n3_ := zQ (below_step (zB HB.out) hb)
        clear HO359
        clear BK354
        clear HB
        have HO359 := n0_
        have HO362 := n1_
        have BK354 := n2_
        have HB := n3_
        clear n0_ n1_ n2_ n3_
        (try clear hb)
        (try clear hb2)
        (try clear hk)
        (try clear hi)
        (try clear ho0)
        refine hK.out _ _ ⟨(blk_cell BK354.out 0).trans rfl, (blk_cell BK354.out 1).trans rfl⟩ (fun hHeld => ?_)
        clear hK K
        refine norm_ (a' := ?_) ?_ ?_
        rotate_left
        ·show Act.put _ (some 29) _ = _
         simp only [Act.put, List.setIfInBounds_toArray, List.set_cons_zero, List.set_cons_succ, i64_w, i32_w]
         rfl
        refine one_ (i := 5) (N := some 31) #[true, true, true, true, true, true, false, false] rfl rfl (one_of HT_.out (by kernel_rfl)) (by decide) (fun K hK => ?_)
        refine goes_ Try.func50 (by kernel_rfl) rfl #[.agg #[.slice A2_0 l2_0.length c2_0, .slice A2_1 l2_1.length c2_1]] (by rfl) rfl rfl (by (try simp only [List.map_toArray, List.map_cons, List.map_nil]); first | done | rfl | (simp only [List.length_drop, List.length_take]; rfl)) ?_
        with_reducible refine (laws_toCore.calls k _ _ l2_0 _ _ l2_1 t363 t366 _ ?side1 ?side2 ?side3 ?side4 A18.out).mono ?_
        (case side1 => exact zC (Kd.C_below HR2_0.out HB.out))
        (case side2 => exact HC2_0.out)
        (case side3 => exact zC (Kd.C_below HR2_1.out HB.out))
        (case side4 => exact HC2_1.out)
        rintro e w41 ⟨v364, v367, rfl, ho0, ho1, hb⟩
        refine ⟨_, rfl, ?_⟩
        have n0_ := zQ (Kd.S_below (by (with_reducible repeat (first | apply Kd.S_alloc | apply Kd.S_drewN | apply Kd.S_drew)); exact HO359.out) hb)
        have n1_ := zQ (Kd.R_elder' (zR HO362.out) (Kd.R_base ho1) hb)
        have n2_ := zQ (Kd.S_lower (Kd.S_new' ho0 (Kd.R_lt (zR HO362.out))) (below_size (zB HB.out)))
        have n3_ := zQ (Kd.R_lower (Kd.R_new' ho1 (Kd.R_lt (zR HO362.out))) (below_size (zB HB.out)))
        have n4_ := zQ (zL BK354.out hb)
        have n5_ := zQ (below_step (zB HB.out) hb)
        clear HO359
        clear HO362
        clear BK354
        clear HB
        have HO359 := n0_
        have HO362 := n1_
        have HO365 := n2_
        have HO368 := n3_
        have BK354 := n4_
        have HB := n5_
        clear n0_ n1_ n2_ n3_ n4_ n5_
        (try clear hb)
        (try clear hb2)
        (try clear hk)
        (try clear hi)
        (try clear ho0)
        (try clear ho1)
        obtain ⟨Ao42, co42, eo42⟩ := Kd.S_slice HO359.out
        (first | subst eo42 | (injection eo42 with f1_ f2_ f3_; have f4_ := f1_.symm; have f5_ := f3_.symm; clear f1_ f2_ f3_; subst f4_; subst f5_))
        obtain ⟨Ao43, co43, eo43⟩ := Kd.R_slice HO362.out
        (first | subst eo43 | (injection eo43 with f1_ f2_ f3_; have f4_ := f1_.symm; have f5_ := f3_.symm; clear f1_ f2_ f3_; subst f4_; subst f5_))
        obtain ⟨Ao44, co44, eo44⟩ := Kd.S_slice HO365.out
        (first | subst eo44 | (injection eo44 with f1_ f2_ f3_; have f4_ := f1_.symm; have f5_ := f3_.symm; clear f1_ f2_ f3_; subst f4_; subst f5_))
        obtain ⟨Ao45, co45, eo45⟩ := Kd.R_slice HO368.out
        (first | subst eo45 | (injection eo45 with f1_ f2_ f3_; have f4_ := f1_.symm; have f5_ := f3_.symm; clear f1_ f2_ f3_; subst f4_; subst f5_))
        refine hK.out _ _ ⟨(blk_cell BK354.out 0).trans rfl, (blk_cell BK354.out 1).trans rfl⟩ (fun hHeld => ?_)
        clear hK K
        refine norm_ (a' := ?_) ?_ ?_
        rotate_left
        ·show Act.put _ (some 31) _ = _
         simp only [Act.put, List.setIfInBounds_toArray, List.set_cons_zero, List.set_cons_succ, i64_w, i32_w]
         rfl
        refine one_ (i := 6) (N := some 32) #[true, true, true, true, true, true, true, false] rfl rfl (one_of HT_.out (by kernel_rfl)) (by decide) (fun K hK => ?_)
        refine goes_ Try.func49 (by kernel_rfl) rfl #[.slice Ao42 t357.length co42, .slice Ao43 t360.length co43, .agg #[.slice Ao44 t363.length co44, .slice Ao45 t366.length co45]] (by rfl) rfl rfl (by (try simp only [List.map_toArray, List.map_cons, List.map_nil]); first | done | rfl | (simp only [List.length_drop, List.length_take]; rfl)) ?_
        with_reducible refine (spec_CoreOK.calls k _ _ t357 _ _ t360 _ _ t363 _ _ t366 t369 _ ?side1 ?side2 ?side3 ?side4 ?side5 ?side6 ?side7 ?side8 A19.out).mono ?_
        (case side1 => repeat (first | exact (Kd.S_reads' HO359.out).2.2 | (with_reducible refine Kd.C_alloc ?_ _) | (with_reducible refine Kd.C_drewN ?_ _) | (with_reducible refine Kd.C_drew ?_)))
        (case side2 => exact (Kd.S_reads' HO359.out).2.1)
        (case side3 => repeat (first | exact (Kd.R_reads' HO362.out).2.2 | (with_reducible refine Kd.C_alloc ?_ _) | (with_reducible refine Kd.C_drewN ?_ _) | (with_reducible refine Kd.C_drew ?_)))
        (case side4 => exact (Kd.R_reads' HO362.out).2.1)
        (case side5 => repeat (first | exact (Kd.S_reads' HO365.out).2.2 | (with_reducible refine Kd.C_alloc ?_ _) | (with_reducible refine Kd.C_drewN ?_ _) | (with_reducible refine Kd.C_drew ?_)))
        (case side6 => exact (Kd.S_reads' HO365.out).2.1)
        (case side7 => repeat (first | exact (Kd.R_reads' HO368.out).2.2 | (with_reducible refine Kd.C_alloc ?_ _) | (with_reducible refine Kd.C_drewN ?_ _) | (with_reducible refine Kd.C_drew ?_)))
        (case side8 => exact (Kd.R_reads' HO368.out).2.1)
        rintro e w46 ⟨rfl, hb⟩
        refine ⟨_, rfl, ?_⟩
        have n0_ := zQ (Kd.S_below (by (with_reducible repeat (first | apply Kd.S_alloc | apply Kd.S_drewN | apply Kd.S_drew)); exact HO359.out) hb)
        have n1_ := zQ (Kd.R_below (zR HO362.out) hb)
        have n2_ := zQ (Kd.S_below (by (with_reducible repeat (first | apply Kd.S_alloc | apply Kd.S_drewN | apply Kd.S_drew)); exact HO365.out) hb)
        have n3_ := zQ (Kd.R_below (zR HO368.out) hb)
        have n4_ := zQ (zL BK354.out hb)
        have n5_ := zQ (below_step (zB HB.out) hb)
        clear HO359
        clear HO362
        clear HO365
        clear HO368
        clear BK354
        clear HB
        have HO359 := n0_
        have HO362 := n1_
        have HO365 := n2_
        have HO368 := n3_
        have BK354 := n4_
        have HB := n5_
        clear n0_ n1_ n2_ n3_ n4_ n5_
        (try clear hb)
        (try clear hb2)
        (try clear hk)
        (try clear hi)
        refine hK.out _ _ ⟨(blk_cell BK354.out 0).trans rfl, (blk_cell BK354.out 1).trans rfl⟩ (fun hHeld => ?_)
        clear hK K
        refine norm_ (a' := ?_) ?_ ?_
        rotate_left
        ·show Act.put _ (some 32) _ = _
         simp only [Act.put, List.setIfInBounds_toArray, List.set_cons_zero, List.set_cons_succ, i64_w, i32_w]
         rfl
        refine pure_ (i := 7) (N := some 8) (v := ?_) (a' := ?_) #[true, true, true, true, true, true, true, true] rfl rfl (any_of HT_.out (by kernel_rfl)) (fun _ _ _ h => h) (Or.inl ⟨by rfl, ?_⟩) ?_ ?_
        rotate_left
        ·intro w'
         go_simp
         with_reducible rfl
        rotate_left
        ·simp only [Act.put, List.setIfInBounds_toArray, List.set_cons_zero, List.set_cons_succ, i64_w, i32_w]
         rfl
        refine done_ (done_of HT_.out (by kernel_rfl)) ?_
        try go_wp2_with (first | ((with_reducible refine gate_callee (f := 29) rfl ?_); refine goesL_ (some 34) rfl rfl Try.func29 (by kernel_rfl) rfl #[.slice A0 l0.length c0] rfl (by (try simp only [List.map_toArray, List.map_cons, List.map_nil]); first | done | rfl | (simp only [List.length_drop, List.length_take]; rfl)) ?_; (with_reducible refine (laws_toRoutineS.calls k _ _ l0 t370 _ ?side1 ?side2 A20.out).mono ?_); (case side1 => exact zC (Kd.C_below HR0.out HB.out)); (case side2 => exact HC0.out); rintro e w47 ⟨v371, rfl, ho0, hb⟩; refine ⟨_, rfl, ?_⟩; have n0_ := zQ (Kd.S_elder' (by (with_reducible repeat (first | apply Kd.S_alloc | apply Kd.S_drewN | apply Kd.S_drew)); exact HO359.out) (Kd.S_base ho0) hb); have n1_ := zQ (Kd.R_below (zR HO362.out) hb); have n2_ := zQ (Kd.S_below (by (with_reducible repeat (first | apply Kd.S_alloc | apply Kd.S_drewN | apply Kd.S_drew)); exact HO365.out) hb); have n3_ := zQ (Kd.R_below (zR HO368.out) hb); have n4_ := zQ (Kd.S_lower (Kd.S_new' ho0 (Kd.S_lt (by (with_reducible repeat (first | apply Kd.S_alloc | apply Kd.S_drewN | apply Kd.S_drew)); exact HO359.out))) (below_size (zB HB.out))); have n5_ := zQ (zL BK354.out hb); have n6_ := zQ (below_step (zB HB.out) hb); clear HO359; clear HO362; clear HO365; clear HO368; clear BK354; clear HB; have HO359 := n0_; have HO362 := n1_; have HO365 := n2_; have HO368 := n3_; have HO372 := n4_; have BK354 := n5_; have HB := n6_; clear n0_ n1_ n2_ n3_ n4_ n5_ n6_; (try clear hb); (try clear hb2); (try clear hk); (try clear hi); (try clear ho0)) | ((with_reducible refine gate_callee (f := 15) rfl ?_); refine goesL_ (some 36) rfl rfl Try.func15 (by kernel_rfl) rfl #[.slice A1 l1.length c1] rfl (by (try simp only [List.map_toArray, List.map_cons, List.map_nil]); first | done | rfl | (simp only [List.length_drop, List.length_take]; rfl)) ?_; (with_reducible refine (laws_toIntS.calls k _ _ l1 t373 _ ?side1 ?side2 A21.out).mono ?_); (case side1 => exact zC (Kd.C_below HR1.out HB.out)); (case side2 => exact HC1.out); rintro e w48 ⟨v374, rfl, ho0, hb⟩; refine ⟨_, rfl, ?_⟩; have n0_ := zQ (Kd.S_below (by (with_reducible repeat (first | apply Kd.S_alloc | apply Kd.S_drewN | apply Kd.S_drew)); exact HO359.out) hb); have n1_ := zQ (Kd.R_elder' (zR HO362.out) (Kd.R_base ho0) hb); have n2_ := zQ (Kd.S_elder' (by (with_reducible repeat (first | apply Kd.S_alloc | apply Kd.S_drewN | apply Kd.S_drew)); exact HO365.out) (Kd.R_base ho0) hb); have n3_ := zQ (Kd.R_elder' (zR HO368.out) (Kd.R_base ho0) hb); have n4_ := zQ (Kd.S_below (by (with_reducible repeat (first | apply Kd.S_alloc | apply Kd.S_drewN | apply Kd.S_drew)); exact HO372.out) hb); have n5_ := zQ (Kd.R_lower (Kd.R_new' (Kd.R_new' ho0 (Kd.R_lt (zR HO362.out))) (Kd.R_lt (zR HO368.out))) (below_size (zB HB.out))); have n6_ := zQ (zL BK354.out hb); have n7_ := zQ (below_step (zB HB.out) hb); clear HO359; clear HO362; clear HO365; clear HO368; clear HO372; clear BK354; clear HB; have HO359 := n0_; have HO362 := n1_; have HO365 := n2_; have HO368 := n3_; have HO372 := n4_; have HO375 := n5_; have BK354 := n6_; have HB := n7_; clear n0_ n1_ n2_ n3_ n4_ n5_ n6_ n7_; (try clear hb); (try clear hb2); (try clear hk); (try clear hi); (try clear ho0); obtain ⟨hcz49_0, hcz49_1, hfz49_0, hfz49_1⟩ := zc2 BK354.out) | ((with_reducible refine gate_callee (f := 50) rfl ?_); refine goesL_ (some 38) rfl rfl Try.func50 (by kernel_rfl) rfl #[.agg #[.slice A2_0 l2_0.length c2_0, .slice A2_1 l2_1.length c2_1]] rfl (by (try simp only [List.map_toArray, List.map_cons, List.map_nil]); first | done | rfl | (simp only [List.length_drop, List.length_take]; rfl)) ?_; (with_reducible refine (laws_toCore.calls k _ _ l2_0 _ _ l2_1 t376 t379 _ ?side1 ?side2 ?side3 ?side4 A22.out).mono ?_); (case side1 => exact zC (Kd.C_below HR2_0.out HB.out)); (case side2 => exact HC2_0.out); (case side3 => exact zC (Kd.C_below HR2_1.out HB.out)); (case side4 => exact HC2_1.out); rintro e w50 ⟨v377, v380, rfl, ho0, ho1, hb⟩; refine ⟨_, rfl, ?_⟩; have n0_ := zQ (Kd.S_below (by (with_reducible repeat (first | apply Kd.S_alloc | apply Kd.S_drewN | apply Kd.S_drew)); exact HO359.out) hb); have n1_ := zQ (Kd.R_elder' (zR HO362.out) (Kd.R_base ho1) hb); have n2_ := zQ (Kd.S_mono (Kd.S_told (Kd.S_told (Kd.S_old (by (with_reducible repeat (first | apply Kd.S_alloc | apply Kd.S_drewN | apply Kd.S_drew)); exact HO365.out) hb) (Kd.S_base ho0)) (Kd.R_base ho1)) (fun _ h_ => h_.1)); have n3_ := zQ (Kd.R_elder' (zR HO368.out) (Kd.R_base ho1) hb); have n4_ := zQ (Kd.S_below (by (with_reducible repeat (first | apply Kd.S_alloc | apply Kd.S_drewN | apply Kd.S_drew)); exact HO372.out) hb); have n5_ := zQ (Kd.R_elder' (zR HO375.out) (Kd.R_base ho1) hb); have n6_ := zQ (Kd.S_lower (Kd.S_new' (Kd.S_new' (Kd.S_new' (Kd.S_new' ho0 (Kd.R_lt (zR HO362.out))) (Kd.S_lt (by (with_reducible repeat (first | apply Kd.S_alloc | apply Kd.S_drewN | apply Kd.S_drew)); exact HO365.out))) (Kd.R_lt (zR HO368.out))) (Kd.R_lt (zR HO375.out))) (below_size (zB HB.out))); have n7_ := zQ (Kd.R_lower (Kd.R_new' (Kd.R_new' (Kd.R_new' ho1 (Kd.R_lt (zR HO362.out))) (Kd.R_lt (zR HO368.out))) (Kd.R_lt (zR HO375.out))) (below_size (zB HB.out))); have n8_ := zQ (zL BK354.out hb); have n9_ := zQ (below_step (zB HB.out) hb); clear HO359; clear HO362; clear HO365; clear HO368; clear HO372; clear HO375; clear BK354; clear HB; have HO359 := n0_; have HO362 := n1_; have HO365 := n2_; have HO368 := n3_; have HO372 := n4_; have HO375 := n5_; have HO378 := n6_; have HO381 := n7_; have BK354 := n8_; have HB := n9_; clear n0_ n1_ n2_ n3_ n4_ n5_ n6_ n7_ n8_ n9_; (try clear hb); (try clear hb2); (try clear hk); (try clear hi); (try clear ho0); (try clear ho1)) | ((with_reducible refine gate_dst (N := 11) rfl ?_); refine box_event ?hg (N := 11) ?hd (cs := #[.slice none 0 0, .slice none 0 0]) (t := 45) ?hr ?_; (case hd => rfl); (case hg => rfl); (case hr => first | (go_simp; done) | (go_simp; rfl)); intro gb382 hg w51 hbox hb; have n0_ := zQ (Kd.S_below (by (with_reducible repeat (first | apply Kd.S_alloc | apply Kd.S_drewN | apply Kd.S_drew)); exact HO359.out) hb); have n1_ := zQ (Kd.R_below (zR HO362.out) hb); have n2_ := zQ (Kd.S_below (by (with_reducible repeat (first | apply Kd.S_alloc | apply Kd.S_drewN | apply Kd.S_drew)); exact HO365.out) hb); have n3_ := zQ (Kd.R_below (zR HO368.out) hb); have n4_ := zQ (Kd.S_below (by (with_reducible repeat (first | apply Kd.S_alloc | apply Kd.S_drewN | apply Kd.S_drew)); exact HO372.out) hb); have n5_ := zQ (Kd.R_below (zR HO375.out) hb); have n6_ := zQ (Kd.S_below (by (with_reducible repeat (first | apply Kd.S_alloc | apply Kd.S_drewN | apply Kd.S_drew)); exact HO378.out) hb); have n7_ := zQ (Kd.R_below (zR HO381.out) hb); have n8_ := zQ (zL BK354.out hb); have n9_ := zQ (below_step (zB HB.out) hb); have n10_ := zQ (hbox); have n11_ := zQ ((zG hg HB.out)); have n12_ := zQ ((zG hg HB.out)); have n13_ := zQ ((zN hg BK354.out)); have n14_ := zQ ((zM hg BK354.out)); clear HO359; clear HO362; clear HO365; clear HO368; clear HO372; clear HO375; clear HO378; clear HO381; clear BK354; clear HB; have HO359 := n0_; have HO362 := n1_; have HO365 := n2_; have HO368 := n3_; have HO372 := n4_; have HO375 := n5_; have HO378 := n6_; have HO381 := n7_; have BK354 := n8_; have HB := n9_; have BK382 := n10_; have GW382 := n11_; have GE382 := n12_; have NB354_382 := n13_; have NB382_354 := n14_; clear n0_ n1_ n2_ n3_ n4_ n5_ n6_ n7_ n8_ n9_ n10_ n11_ n12_ n13_ n14_; clear hb hbox hg; obtain ⟨Ao52, co52, eo52⟩ := Kd.S_slice HO378.out; subst eo52; have hnb53 := NB382_354.out; have hnc53 := NB354_382.out; obtain ⟨hcz54_0, hcz54_1, hfz54_0, hfz54_1⟩ := zc2 BK382.out; obtain ⟨Ao55, co55, eo55⟩ := Kd.R_slice HO381.out; subst eo55; obtain ⟨Ao56, co56, eo56⟩ := Kd.S_slice HO372.out; subst eo56; obtain ⟨Ao57, co57, eo57⟩ := Kd.R_slice HO375.out; subst eo57) | ((with_reducible refine gate_callee (f := 51) rfl ?_); refine goesL_ (some 42) rfl rfl Try.func51 (by kernel_rfl) rfl #[.slice Ao56 t370.length co56, .slice Ao57 t373.length co57, .agg #[.slice Ao52 t376.length co52, .slice Ao55 t379.length co55]] rfl (by (try simp only [List.map_toArray, List.map_cons, List.map_nil]); first | done | rfl | (simp only [List.length_drop, List.length_take]; rfl)) ?_; (with_reducible refine (impl_CoreOK.calls k _ _ t370 _ _ t373 _ _ t376 _ _ t379 t383 _ ?side1 ?side2 ?side3 ?side4 ?side5 ?side6 ?side7 ?side8 A23.out).mono ?_); (case side1 => refine (Kd.S_reads' (e := 124) (base := w.heap.size) (ok := fun k_ => (True ∧ some k_ ≠ (.slice Ao42 t357.length co42 : Value).ownBlock)) (n := t370.length) (c := co56) ?_).2.2; exact (by (with_reducible repeat (first | apply Kd.S_alloc | apply Kd.S_drewN | apply Kd.S_drew)); exact (Kd.S_mono (Kd.S_far (p := ⟨gb382, 1, none⟩) (Kd.S_far (p := ⟨gb382, 0, none⟩) (Kd.S_types HO372.out BK382.out (by decide)) (fun _ hk => hk.2) (.slice Ao52 t376.length co52)) (fun _ hk => hk.2) (.slice Ao55 t379.length co55)) (fun _ h_ => h_.1)))); (case side2 => exact (Kd.S_reads' HO372.out).2.1); (case side3 => refine (Kd.R_reads' (e := 3) (base := w.heap.size) (ok := fun k_ => (((True ∧ some k_ ≠ (.slice Ao43 t360.length co43 : Value).ownBlock) ∧ some k_ ≠ (.slice Ao45 t366.length co45 : Value).ownBlock) ∧ some k_ ≠ (.slice Ao55 t379.length co55 : Value).ownBlock)) (n := t373.length) (c := co57) ?_).2.2; exact (by (with_reducible repeat (first | apply Kd.R_alloc | apply Kd.R_drewN | apply Kd.R_drew)); exact (Kd.R_mono (Kd.R_far (p := ⟨gb382, 1, none⟩) (Kd.R_far (p := ⟨gb382, 0, none⟩) (Kd.R_types HO375.out BK382.out (by decide)) (fun _ hk => hk.2) (.slice Ao52 t376.length co52)) (fun _ hk => hk.2) (.slice Ao55 t379.length co55)) (fun _ h_ => h_.1)))); (case side4 => exact (Kd.R_reads' HO375.out).2.1); (case side5 => refine (Kd.S_reads' (e := 184) (base := w.heap.size) (ok := fun k_ => ((((some k_ ≠ (.slice Ao55 t379.length co55 : Value).ownBlock ∧ some k_ ≠ (.slice Ao43 t360.length co43 : Value).ownBlock) ∧ some k_ ≠ (.slice Ao44 t363.length co44 : Value).ownBlock) ∧ some k_ ≠ (.slice Ao45 t366.length co45 : Value).ownBlock) ∧ some k_ ≠ (.slice Ao57 t373.length co57 : Value).ownBlock)) (n := t376.length) (c := co52) ?_).2.2; exact (by (with_reducible repeat (first | apply Kd.S_alloc | apply Kd.S_drewN | apply Kd.S_drew)); exact (Kd.S_mono (Kd.S_far (p := ⟨gb382, 1, none⟩) (Kd.S_far (p := ⟨gb382, 0, none⟩) (Kd.S_types HO378.out BK382.out (by decide)) (fun _ hk => hk.2) (.slice Ao52 t376.length co52)) (fun _ hk => hk.2) (.slice Ao55 t379.length co55)) (fun _ h_ => h_.1)))); (case side6 => exact (Kd.S_reads' HO378.out).2.1); (case side7 => refine (Kd.R_reads' (e := 3) (base := w.heap.size) (ok := fun k_ => (((True ∧ some k_ ≠ (.slice Ao43 t360.length co43 : Value).ownBlock) ∧ some k_ ≠ (.slice Ao45 t366.length co45 : Value).ownBlock) ∧ some k_ ≠ (.slice Ao57 t373.length co57 : Value).ownBlock)) (n := t379.length) (c := co55) ?_).2.2; exact (by (with_reducible repeat (first | apply Kd.R_alloc | apply Kd.R_drewN | apply Kd.R_drew)); exact (Kd.R_mono (Kd.R_far (p := ⟨gb382, 1, none⟩) (Kd.R_far (p := ⟨gb382, 0, none⟩) (Kd.R_types HO381.out BK382.out (by decide)) (fun _ hk => hk.2) (.slice Ao52 t376.length co52)) (fun _ hk => hk.2) (.slice Ao55 t379.length co55)) (fun _ h_ => h_.1)))); (case side8 => exact (Kd.R_reads' HO381.out).2.1); rintro e w58 ⟨rfl, hb⟩; refine ⟨_, rfl, ?_⟩; have n0_ := zQ (Kd.S_below (by (with_reducible repeat (first | apply Kd.S_alloc | apply Kd.S_drewN | apply Kd.S_drew)); exact (Kd.S_mono (Kd.S_far (p := ⟨gb382, 1, none⟩) (Kd.S_far (p := ⟨gb382, 0, none⟩) (Kd.S_types HO359.out BK382.out (by decide)) (fun _ hk => hk.2) (.slice Ao52 t376.length co52)) (fun _ hk => hk.2) (.slice Ao55 t379.length co55)) (fun _ h_ => h_.1))) hb); have n1_ := zQ (Kd.R_below (by (with_reducible repeat (first | apply Kd.R_alloc | apply Kd.R_drewN | apply Kd.R_drew)); exact (Kd.R_mono (Kd.R_far (p := ⟨gb382, 1, none⟩) (Kd.R_far (p := ⟨gb382, 0, none⟩) (Kd.R_types HO362.out BK382.out (by decide)) (fun _ hk => hk.2) (.slice Ao52 t376.length co52)) (fun _ hk => hk.2) (.slice Ao55 t379.length co55)) (fun _ h_ => h_.1))) hb); have n2_ := zQ (Kd.S_below (by (with_reducible repeat (first | apply Kd.S_alloc | apply Kd.S_drewN | apply Kd.S_drew)); exact (Kd.S_mono (Kd.S_far (p := ⟨gb382, 1, none⟩) (Kd.S_far (p := ⟨gb382, 0, none⟩) (Kd.S_types HO365.out BK382.out (by decide)) (fun _ hk => hk.2) (.slice Ao52 t376.length co52)) (fun _ hk => hk.2) (.slice Ao55 t379.length co55)) (fun _ h_ => h_.1))) hb); have n3_ := zQ (Kd.R_below (by (with_reducible repeat (first | apply Kd.R_alloc | apply Kd.R_drewN | apply Kd.R_drew)); exact (Kd.R_mono (Kd.R_far (p := ⟨gb382, 1, none⟩) (Kd.R_far (p := ⟨gb382, 0, none⟩) (Kd.R_types HO368.out BK382.out (by decide)) (fun _ hk => hk.2) (.slice Ao52 t376.length co52)) (fun _ hk => hk.2) (.slice Ao55 t379.length co55)) (fun _ h_ => h_.1))) hb); have n4_ := zQ (Kd.S_below (by (with_reducible repeat (first | apply Kd.S_alloc | apply Kd.S_drewN | apply Kd.S_drew)); exact (Kd.S_mono (Kd.S_far (p := ⟨gb382, 1, none⟩) (Kd.S_far (p := ⟨gb382, 0, none⟩) (Kd.S_types HO372.out BK382.out (by decide)) (fun _ hk => hk.2) (.slice Ao52 t376.length co52)) (fun _ hk => hk.2) (.slice Ao55 t379.length co55)) (fun _ h_ => h_.1))) hb); have n5_ := zQ (Kd.R_below (by (with_reducible repeat (first | apply Kd.R_alloc | apply Kd.R_drewN | apply Kd.R_drew)); exact (Kd.R_mono (Kd.R_far (p := ⟨gb382, 1, none⟩) (Kd.R_far (p := ⟨gb382, 0, none⟩) (Kd.R_types HO375.out BK382.out (by decide)) (fun _ hk => hk.2) (.slice Ao52 t376.length co52)) (fun _ hk => hk.2) (.slice Ao55 t379.length co55)) (fun _ h_ => h_.1))) hb); have n6_ := zQ (Kd.S_below (by (with_reducible repeat (first | apply Kd.S_alloc | apply Kd.S_drewN | apply Kd.S_drew)); exact (Kd.S_mono (Kd.S_far (p := ⟨gb382, 1, none⟩) (Kd.S_far (p := ⟨gb382, 0, none⟩) (Kd.S_types HO378.out BK382.out (by decide)) (fun _ hk => hk.2) (.slice Ao52 t376.length co52)) (fun _ hk => hk.2) (.slice Ao55 t379.length co55)) (fun _ h_ => h_.1))) hb); have n7_ := zQ (Kd.R_below (by (with_reducible repeat (first | apply Kd.R_alloc | apply Kd.R_drewN | apply Kd.R_drew)); exact (Kd.R_mono (Kd.R_far (p := ⟨gb382, 1, none⟩) (Kd.R_far (p := ⟨gb382, 0, none⟩) (Kd.R_types HO381.out BK382.out (by decide)) (fun _ hk => hk.2) (.slice Ao52 t376.length co52)) (fun _ hk => hk.2) (.slice Ao55 t379.length co55)) (fun _ h_ => h_.1))) hb); have n8_ := zQ (zL BK354.out hb); have n9_ := zQ (blk_below (g := gb382) (o := .cells #[.slice Ao52 t376.length co52, .slice Ao55 t379.length co55] 45 (0, 0)) (by (with_reducible repeat (first | refine blk_drewN ?_ _ | refine blk_drew ?_ | refine blk_alloc ?_ _)); refine blk_put (cs := #[.slice Ao52 t376.length co52, .slice none 0 0]) ?_ 1 _ rfl; (with_reducible repeat (first | refine blk_drewN ?_ _ | refine blk_drew ?_ | refine blk_alloc ?_ _)); refine blk_put (cs := #[.slice none 0 0, .slice none 0 0]) ?_ 0 _ rfl; (with_reducible repeat (first | refine blk_drewN ?_ _ | refine blk_drew ?_ | refine blk_alloc ?_ _)); exact BK382.out) hb); have n10_ := zQ (below_step (zB HB.out) hb); clear HO359; clear HO362; clear HO365; clear HO368; clear HO372; clear HO375; clear HO378; clear HO381; clear BK354; clear BK382; clear HB; have HO359 := n0_; have HO362 := n1_; have HO365 := n2_; have HO368 := n3_; have HO372 := n4_; have HO375 := n5_; have HO378 := n6_; have HO381 := n7_; have BK354 := n8_; have BK382 := n9_; have HB := n10_; clear n0_ n1_ n2_ n3_ n4_ n5_ n6_ n7_ n8_ n9_ n10_; (try clear hb); (try clear hb2); (try clear hk); (try clear hi)) | ((with_reducible refine gate_callee (f := 29) rfl ?_); refine goesL_ (some 48) rfl rfl Try.func29 (by kernel_rfl) rfl #[.slice A0 l0.length c0] rfl (by (try simp only [List.map_toArray, List.map_cons, List.map_nil]); first | done | rfl | (simp only [List.length_drop, List.length_take]; rfl)) ?_; (with_reducible refine (laws_toRoutineS.calls k _ _ l0 t384 _ ?side1 ?side2 A25.out).mono ?_); (case side1 => exact zC (Kd.C_below HR0.out HB.out)); (case side2 => exact HC0.out); rintro e w59 ⟨v385, rfl, ho0, hb⟩; refine ⟨_, rfl, ?_⟩; have n0_ := zQ (Kd.S_elder' (by (with_reducible repeat (first | apply Kd.S_alloc | apply Kd.S_drewN | apply Kd.S_drew)); exact HO359.out) (Kd.S_base ho0) hb); have n1_ := zQ (Kd.R_below (zR HO362.out) hb); have n2_ := zQ (Kd.S_below (by (with_reducible repeat (first | apply Kd.S_alloc | apply Kd.S_drewN | apply Kd.S_drew)); exact HO365.out) hb); have n3_ := zQ (Kd.R_below (zR HO368.out) hb); have n4_ := zQ (Kd.S_elder' (by (with_reducible repeat (first | apply Kd.S_alloc | apply Kd.S_drewN | apply Kd.S_drew)); exact HO372.out) (Kd.S_base ho0) hb); have n5_ := zQ (Kd.R_below (zR HO375.out) hb); have n6_ := zQ (Kd.S_below (by (with_reducible repeat (first | apply Kd.S_alloc | apply Kd.S_drewN | apply Kd.S_drew)); exact HO378.out) hb); have n7_ := zQ (Kd.R_below (zR HO381.out) hb); have n8_ := zQ (Kd.S_lower (Kd.S_new' (Kd.S_new' ho0 (Kd.S_lt (by (with_reducible repeat (first | apply Kd.S_alloc | apply Kd.S_drewN | apply Kd.S_drew)); exact HO359.out))) (Kd.S_lt (by (with_reducible repeat (first | apply Kd.S_alloc | apply Kd.S_drewN | apply Kd.S_drew)); exact HO372.out))) (below_size (zB HB.out))); have n9_ := zQ (zL BK354.out hb); have n10_ := zQ (zL BK382.out hb); have n11_ := zQ (below_step (zB HB.out) hb); clear HO359; clear HO362; clear HO365; clear HO368; clear HO372; clear HO375; clear HO378; clear HO381; clear BK354; clear BK382; clear HB; have HO359 := n0_; have HO362 := n1_; have HO365 := n2_; have HO368 := n3_; have HO372 := n4_; have HO375 := n5_; have HO378 := n6_; have HO381 := n7_; have HO386 := n8_; have BK354 := n9_; have BK382 := n10_; have HB := n11_; clear n0_ n1_ n2_ n3_ n4_ n5_ n6_ n7_ n8_ n9_ n10_ n11_; (try clear hb); (try clear hb2); (try clear hk); (try clear hi); (try clear ho0); obtain ⟨Ao60, co60, eo60⟩ := Kd.S_slice HO386.out; subst eo60) | ((with_reducible refine gate_callee (f := 32) rfl ?_); refine goesL_ (some 49) rfl rfl Try.func32 (by kernel_rfl) rfl #[.slice Ao56 t370.length co56, .slice Ao60 t384.length co60] rfl (by (try simp only [List.map_toArray, List.map_cons, List.map_nil]); first | done | rfl | (simp only [List.length_drop, List.length_take]; rfl)) ?_; (with_reducible refine (laws_eqRoutineS.calls k _ _ t370 _ _ t384 true _ ?side1 ?side2 ?side3 ?side4 A26.out).mono ?_); (case side1 => repeat (first | exact (Kd.S_reads' HO372.out).2.2 | (with_reducible refine Kd.C_alloc ?_ _) | (with_reducible refine Kd.C_drewN ?_ _) | (with_reducible refine Kd.C_drew ?_))); (case side2 => exact (Kd.S_reads' HO372.out).2.1); (case side3 => repeat (first | exact (Kd.S_reads' HO386.out).2.2 | (with_reducible refine Kd.C_alloc ?_ _) | (with_reducible refine Kd.C_drewN ?_ _) | (with_reducible refine Kd.C_drew ?_))); (case side4 => exact (Kd.S_reads' HO386.out).2.1); rintro e w61 ⟨rfl, hb⟩; refine ⟨_, rfl, ?_⟩; have n0_ := zQ (Kd.S_below (by (with_reducible repeat (first | apply Kd.S_alloc | apply Kd.S_drewN | apply Kd.S_drew)); exact HO359.out) hb); have n1_ := zQ (Kd.R_below (zR HO362.out) hb); have n2_ := zQ (Kd.S_below (by (with_reducible repeat (first | apply Kd.S_alloc | apply Kd.S_drewN | apply Kd.S_drew)); exact HO365.out) hb); have n3_ := zQ (Kd.R_below (zR HO368.out) hb); have n4_ := zQ (Kd.S_below (by (with_reducible repeat (first | apply Kd.S_alloc | apply Kd.S_drewN | apply Kd.S_drew)); exact HO372.out) hb); have n5_ := zQ (Kd.R_below (zR HO375.out) hb); have n6_ := zQ (Kd.S_below (by (with_reducible repeat (first | apply Kd.S_alloc | apply Kd.S_drewN | apply Kd.S_drew)); exact HO378.out) hb); have n7_ := zQ (Kd.R_below (zR HO381.out) hb); have n8_ := zQ (Kd.S_below (by (with_reducible repeat (first | apply Kd.S_alloc | apply Kd.S_drewN | apply Kd.S_drew)); exact HO386.out) hb); have n9_ := zQ (zL BK354.out hb); have n10_ := zQ (zL BK382.out hb); have n11_ := zQ (below_step (zB HB.out) hb); clear HO359; clear HO362; clear HO365; clear HO368; clear HO372; clear HO375; clear HO378; clear HO381; clear HO386; clear BK354; clear BK382; clear HB; have HO359 := n0_; have HO362 := n1_; have HO365 := n2_; have HO368 := n3_; have HO372 := n4_; have HO375 := n5_; have HO378 := n6_; have HO381 := n7_; have HO386 := n8_; have BK354 := n9_; have BK382 := n10_; have HB := n11_; clear n0_ n1_ n2_ n3_ n4_ n5_ n6_ n7_ n8_ n9_ n10_ n11_; (try clear hb); (try clear hb2); (try clear hk); (try clear hi)) | ((with_reducible refine gate_callee (f := 15) rfl ?_); refine goesL_ (some 53) rfl rfl Try.func15 (by kernel_rfl) rfl #[.slice A1 l1.length c1] rfl (by (try simp only [List.map_toArray, List.map_cons, List.map_nil]); first | done | rfl | (simp only [List.length_drop, List.length_take]; rfl)) ?_; (with_reducible refine (laws_toIntS.calls k _ _ l1 t388 _ ?side1 ?side2 A28.out).mono ?_); (case side1 => exact zC (Kd.C_below HR1.out HB.out)); (case side2 => exact HC1.out); rintro e w62 ⟨v389, rfl, ho0, hb⟩; refine ⟨_, rfl, ?_⟩; have n0_ := zQ (Kd.S_below (by (with_reducible repeat (first | apply Kd.S_alloc | apply Kd.S_drewN | apply Kd.S_drew)); exact HO359.out) hb); have n1_ := zQ (Kd.R_elder' (zR HO362.out) (Kd.R_base ho0) hb); have n2_ := zQ (Kd.S_elder' (by (with_reducible repeat (first | apply Kd.S_alloc | apply Kd.S_drewN | apply Kd.S_drew)); exact HO365.out) (Kd.R_base ho0) hb); have n3_ := zQ (Kd.R_elder' (zR HO368.out) (Kd.R_base ho0) hb); have n4_ := zQ (Kd.S_below (by (with_reducible repeat (first | apply Kd.S_alloc | apply Kd.S_drewN | apply Kd.S_drew)); exact HO372.out) hb); have n5_ := zQ (Kd.R_elder' (zR HO375.out) (Kd.R_base ho0) hb); have n6_ := zQ (Kd.S_elder' (by (with_reducible repeat (first | apply Kd.S_alloc | apply Kd.S_drewN | apply Kd.S_drew)); exact HO378.out) (Kd.R_base ho0) hb); have n7_ := zQ (Kd.R_elder' (zR HO381.out) (Kd.R_base ho0) hb); have n8_ := zQ (Kd.S_below (by (with_reducible repeat (first | apply Kd.S_alloc | apply Kd.S_drewN | apply Kd.S_drew)); exact HO386.out) hb); have n9_ := zQ (Kd.R_lower (Kd.R_new' (Kd.R_new' (Kd.R_new' (Kd.R_new' ho0 (Kd.R_lt (zR HO362.out))) (Kd.R_lt (zR HO368.out))) (Kd.R_lt (zR HO375.out))) (Kd.R_lt (zR HO381.out))) (below_size (zB HB.out))); have n10_ := zQ (zL BK354.out hb); have n11_ := zQ (zL BK382.out hb); have n12_ := zQ (below_step (zB HB.out) hb); clear HO359; clear HO362; clear HO365; clear HO368; clear HO372; clear HO375; clear HO378; clear HO381; clear HO386; clear BK354; clear BK382; clear HB; have HO359 := n0_; have HO362 := n1_; have HO365 := n2_; have HO368 := n3_; have HO372 := n4_; have HO375 := n5_; have HO378 := n6_; have HO381 := n7_; have HO386 := n8_; have HO390 := n9_; have BK354 := n10_; have BK382 := n11_; have HB := n12_; clear n0_ n1_ n2_ n3_ n4_ n5_ n6_ n7_ n8_ n9_ n10_ n11_ n12_; (try clear hb); (try clear hb2); (try clear hk); (try clear hi); (try clear ho0); obtain ⟨Ao63, co63, eo63⟩ := Kd.R_slice HO390.out; subst eo63) | ((with_reducible refine gate_callee (f := 19) rfl ?_); refine goesL_ (some 54) rfl rfl Try.func19 (by kernel_rfl) rfl #[.slice Ao57 t373.length co57, .slice Ao63 t388.length co63] rfl (by (try simp only [List.map_toArray, List.map_cons, List.map_nil]); first | done | rfl | (simp only [List.length_drop, List.length_take]; rfl)) ?_; (with_reducible refine (laws_eqIntS.calls k _ _ t373 _ _ t388 true _ ?side1 ?side2 ?side3 ?side4 A29.out).mono ?_); (case side1 => repeat (first | exact (Kd.R_reads' HO375.out).2.2 | (with_reducible refine Kd.C_alloc ?_ _) | (with_reducible refine Kd.C_drewN ?_ _) | (with_reducible refine Kd.C_drew ?_))); (case side2 => exact (Kd.R_reads' HO375.out).2.1); (case side3 => repeat (first | exact (Kd.R_reads' HO390.out).2.2 | (with_reducible refine Kd.C_alloc ?_ _) | (with_reducible refine Kd.C_drewN ?_ _) | (with_reducible refine Kd.C_drew ?_))); (case side4 => exact (Kd.R_reads' HO390.out).2.1); rintro e w' ⟨rfl, ⟨nd, rfl⟩⟩; refine ⟨_, rfl, ?_⟩))
        (try (rw [drewN_self w62]; generalize hq_ : World.drewN w62 _ = w62; have n0_ : Aside0 (Kd.S k124 124 w62 w.heap.size (fun k_ => some k_ ≠ (.slice Ao56 t370.length co56 : Value).ownBlock ∧ some k_ ≠ (.slice Ao60 t384.length co60 : Value).ownBlock) (.slice Ao42 t357.length co42) t357) := ⟨by rw [← hq_]; exact (by (with_reducible repeat (first | apply Kd.S_alloc | apply Kd.S_drewN | apply Kd.S_drew)); exact Kd.S_mono HO359.out (fun _ hk => ⟨hk.1.2, hk.2⟩))⟩; have n1_ : Aside0 (Kd.R (Kd.int .i64) 3 w62 w.heap.size (fun k_ => some k_ ≠ (.slice Ao45 t366.length co45 : Value).ownBlock ∧ some k_ ≠ (.slice Ao57 t373.length co57 : Value).ownBlock ∧ some k_ ≠ (.slice Ao55 t379.length co55 : Value).ownBlock ∧ some k_ ≠ (.slice Ao63 t388.length co63 : Value).ownBlock) (.slice Ao43 t360.length co43) t360) := ⟨by rw [← hq_]; exact (by (with_reducible repeat (first | apply Kd.R_alloc | apply Kd.R_drewN | apply Kd.R_drew)); exact Kd.R_mono HO362.out (fun _ hk => ⟨hk.1.1.1.2, ⟨hk.1.1.2, ⟨hk.1.2, hk.2⟩⟩⟩))⟩; have n2_ : Aside0 (Kd.S k184 184 w62 w.heap.size (fun k_ => some k_ ≠ (.slice Ao43 t360.length co43 : Value).ownBlock ∧ some k_ ≠ (.slice Ao45 t366.length co45 : Value).ownBlock ∧ some k_ ≠ (.slice Ao57 t373.length co57 : Value).ownBlock ∧ some k_ ≠ (.slice Ao52 t376.length co52 : Value).ownBlock ∧ some k_ ≠ (.slice Ao55 t379.length co55 : Value).ownBlock ∧ some k_ ≠ (.slice Ao63 t388.length co63 : Value).ownBlock) (.slice Ao44 t363.length co44) t363) := ⟨by rw [← hq_]; exact (by (with_reducible repeat (first | apply Kd.S_alloc | apply Kd.S_drewN | apply Kd.S_drew)); exact Kd.S_mono HO365.out (fun _ hk => ⟨hk.1.1.1.1.2, ⟨hk.1.1.1.1.1, ⟨hk.1.1.1.2, ⟨hk.1.1.2, ⟨hk.1.2, hk.2⟩⟩⟩⟩⟩))⟩; have n3_ : Aside0 (Kd.R (Kd.int .i64) 3 w62 w.heap.size (fun k_ => some k_ ≠ (.slice Ao43 t360.length co43 : Value).ownBlock ∧ some k_ ≠ (.slice Ao57 t373.length co57 : Value).ownBlock ∧ some k_ ≠ (.slice Ao55 t379.length co55 : Value).ownBlock ∧ some k_ ≠ (.slice Ao63 t388.length co63 : Value).ownBlock) (.slice Ao45 t366.length co45) t366) := ⟨by rw [← hq_]; exact (by (with_reducible repeat (first | apply Kd.R_alloc | apply Kd.R_drewN | apply Kd.R_drew)); exact Kd.R_mono HO368.out (fun _ hk => ⟨hk.1.1.1.2, ⟨hk.1.1.2, ⟨hk.1.2, hk.2⟩⟩⟩))⟩; have n4_ : Aside0 (Kd.S k124 124 w62 w.heap.size (fun k_ => some k_ ≠ (.slice Ao42 t357.length co42 : Value).ownBlock ∧ some k_ ≠ (.slice Ao60 t384.length co60 : Value).ownBlock) (.slice Ao56 t370.length co56) t370) := ⟨by rw [← hq_]; exact (by (with_reducible repeat (first | apply Kd.S_alloc | apply Kd.S_drewN | apply Kd.S_drew)); exact Kd.S_mono HO372.out (fun _ hk => ⟨hk.1.2, hk.2⟩))⟩; have n5_ : Aside0 (Kd.R (Kd.int .i64) 3 w62 w.heap.size (fun k_ => some k_ ≠ (.slice Ao43 t360.length co43 : Value).ownBlock ∧ some k_ ≠ (.slice Ao45 t366.length co45 : Value).ownBlock ∧ some k_ ≠ (.slice Ao55 t379.length co55 : Value).ownBlock ∧ some k_ ≠ (.slice Ao63 t388.length co63 : Value).ownBlock) (.slice Ao57 t373.length co57) t373) := ⟨by rw [← hq_]; exact (by (with_reducible repeat (first | apply Kd.R_alloc | apply Kd.R_drewN | apply Kd.R_drew)); exact Kd.R_mono HO375.out (fun _ hk => ⟨hk.1.1.1.2, ⟨hk.1.1.2, ⟨hk.1.2, hk.2⟩⟩⟩))⟩; have n6_ : Aside0 (Kd.S k184 184 w62 w.heap.size (fun k_ => some k_ ≠ (.slice Ao43 t360.length co43 : Value).ownBlock ∧ some k_ ≠ (.slice Ao44 t363.length co44 : Value).ownBlock ∧ some k_ ≠ (.slice Ao45 t366.length co45 : Value).ownBlock ∧ some k_ ≠ (.slice Ao57 t373.length co57 : Value).ownBlock ∧ some k_ ≠ (.slice Ao55 t379.length co55 : Value).ownBlock ∧ some k_ ≠ (.slice Ao63 t388.length co63 : Value).ownBlock) (.slice Ao52 t376.length co52) t376) := ⟨by rw [← hq_]; exact (by (with_reducible repeat (first | apply Kd.S_alloc | apply Kd.S_drewN | apply Kd.S_drew)); exact Kd.S_mono HO378.out (fun _ hk => ⟨hk.1.1.1.1.2, ⟨hk.1.1.1.2, ⟨hk.1.1.2, ⟨hk.1.2, ⟨hk.1.1.1.1.1, hk.2⟩⟩⟩⟩⟩))⟩; have n7_ : Aside0 (Kd.R (Kd.int .i64) 3 w62 w.heap.size (fun k_ => some k_ ≠ (.slice Ao43 t360.length co43 : Value).ownBlock ∧ some k_ ≠ (.slice Ao45 t366.length co45 : Value).ownBlock ∧ some k_ ≠ (.slice Ao57 t373.length co57 : Value).ownBlock ∧ some k_ ≠ (.slice Ao63 t388.length co63 : Value).ownBlock) (.slice Ao55 t379.length co55) t379) := ⟨by rw [← hq_]; exact (by (with_reducible repeat (first | apply Kd.R_alloc | apply Kd.R_drewN | apply Kd.R_drew)); exact Kd.R_mono HO381.out (fun _ hk => ⟨hk.1.1.1.2, ⟨hk.1.1.2, ⟨hk.1.2, hk.2⟩⟩⟩))⟩; have n8_ : Aside0 (Kd.S k124 124 w62 w.heap.size (fun k_ => some k_ ≠ (.slice Ao42 t357.length co42 : Value).ownBlock ∧ some k_ ≠ (.slice Ao56 t370.length co56 : Value).ownBlock) (.slice Ao60 t384.length co60) t384) := ⟨by rw [← hq_]; exact (by (with_reducible repeat (first | apply Kd.S_alloc | apply Kd.S_drewN | apply Kd.S_drew)); exact Kd.S_mono HO386.out (fun _ hk => ⟨hk.1.2, hk.2⟩))⟩; have n9_ : Aside0 (Kd.R (Kd.int .i64) 3 w62 w.heap.size (fun k_ => some k_ ≠ (.slice Ao43 t360.length co43 : Value).ownBlock ∧ some k_ ≠ (.slice Ao45 t366.length co45 : Value).ownBlock ∧ some k_ ≠ (.slice Ao57 t373.length co57 : Value).ownBlock ∧ some k_ ≠ (.slice Ao55 t379.length co55 : Value).ownBlock) (.slice Ao63 t388.length co63) t388) := ⟨by rw [← hq_]; exact (by (with_reducible repeat (first | apply Kd.R_alloc | apply Kd.R_drewN | apply Kd.R_drew)); exact Kd.R_mono HO390.out (fun _ hk => ⟨hk.1.1.1.2, ⟨hk.1.1.2, ⟨hk.1.2, hk.2⟩⟩⟩))⟩; have n10_ : Aside0 (w62.heap[gb354]? = some (.cells #[.slice A2_0 l2_0.length c2_0, .slice A2_1 l2_1.length c2_1] 77 (0, 0))) := ⟨by rw [← hq_]; exact (zK BK354.out)⟩; have n11_ : Aside0 (w62.heap[gb382]? = some (.cells #[.slice Ao52 t376.length co52, .slice Ao55 t379.length co55] 45 (0, 0))) := ⟨by rw [← hq_]; exact (zK BK382.out)⟩; have n12_ : Aside0 (Below w.heap.size w w62) := ⟨by rw [← hq_]; exact (zB HB.out)⟩; clear HO359 HO362 HO365 HO368 HO372 HO375 HO378 HO381 HO386 HO390 BK354 BK382 HB hq_; have HO359 := n0_; have HO362 := n1_; have HO365 := n2_; have HO368 := n3_; have HO372 := n4_; have HO375 := n5_; have HO378 := n6_; have HO381 := n7_; have HO386 := n8_; have HO390 := n9_; have BK354 := n10_; have BK382 := n11_; have HB := n12_; clear n0_ n1_ n2_ n3_ n4_ n5_ n6_ n7_ n8_ n9_ n10_ n11_ n12_))
        have n0_ := zQ (Kd.S_drew HO359.out)
        have n1_ := zQ (Kd.R_drew HO362.out)
        have n2_ := zQ (Kd.S_drew HO365.out)
        have n3_ := zQ (Kd.R_drew HO368.out)
        have n4_ := zQ (Kd.S_drew HO372.out)
        have n5_ := zQ (Kd.R_drew HO375.out)
        have n6_ := zQ (Kd.S_drew HO378.out)
        have n7_ := zQ (Kd.R_drew HO381.out)
        have n8_ := zQ (Kd.S_drew HO386.out)
        have n9_ := zQ (Kd.R_drew HO390.out)
        have n10_ := zQ (blk_drew BK354.out)
        have n11_ := zQ (blk_drew BK382.out)
        have n12_ := zQ (below_drew1 HB.out)
        clear HO359
        clear HO362
        clear HO365
        clear HO368
        clear HO372
        clear HO375
        clear HO378
        clear HO381
        clear HO386
        clear HO390
        clear BK354
        clear BK382
        clear HB
        have HO359 := n0_
        have HO362 := n1_
        have HO365 := n2_
        have HO368 := n3_
        have HO372 := n4_
        have HO375 := n5_
        have HO378 := n6_
        have HO381 := n7_
        have HO386 := n8_
        have HO390 := n9_
        have BK354 := n10_
        have BK382 := n11_
        have HB := n12_
        clear n0_ n1_ n2_ n3_ n4_ n5_ n6_ n7_ n8_ n9_ n10_ n11_ n12_
        refine start_ (n := 5) (S := fun w' => w'.cell? ⟨gb382, 0, none⟩ = some (.slice Ao52 t376.length co52) ∧ w'.cell? ⟨gb382, 1, none⟩ = some (.slice Ao55 t379.length co55) ∧ w'.cell? ⟨gb354, 0, none⟩ = some (.slice A2_0 l2_0.length c2_0) ∧ w'.cell? ⟨gb354, 1, none⟩ = some (.slice A2_1 l2_1.length c2_1)) (ds := []) #[false, false, false, false, false] (by kernel_rfl) rfl rfl ⟨(blk_cell BK382.out 0).trans rfl, (blk_cell BK382.out 1).trans rfl, (blk_cell BK354.out 0).trans rfl, (blk_cell BK354.out 1).trans rfl⟩ (fun hHeld => ?_)
        generalize w62.drew = w64 at HO359 HO362 HO365 HO368 HO372 HO375 HO378 HO381 HO386 HO390 BK354 BK382 HB hHeld ⊢
        refine take_ (i := 0) (N := some 56) (v := ?_) (a' := ?_) #[true, false, false, false, false] rfl rfl (by kernel_rfl) (fun _ _ _ h => h) (Or.inl ⟨by rfl, ?_⟩) hHeld ?_ ?_
        rotate_left
        ·rintro w' ⟨s0, s1, s2, s3⟩
         go_simp
         with_reducible rfl
        rotate_left
        ·simp only [Act.put, List.setIfInBounds_toArray, List.set_cons_zero, List.set_cons_succ, i64_w, i32_w]
         rfl
        refine take_ (i := 1) (N := some 57) (v := ?_) (a' := ?_) #[true, true, false, false, false] rfl rfl (by kernel_rfl) (fun _ _ _ h => h) (Or.inl ⟨by rfl, ?_⟩) hHeld ?_ ?_
        rotate_left
        ·rintro w' ⟨s0, s1, s2, s3⟩
         go_simp
         with_reducible rfl
        rotate_left
        ·simp only [Act.put, List.setIfInBounds_toArray, List.set_cons_zero, List.set_cons_succ, i64_w, i32_w]
         rfl
        refine one_ (i := 2) (N := some 58) #[true, true, true, false, false] rfl rfl (by kernel_rfl) (by decide) (fun K hK => ?_)
        refine goes_ Try.func50 (by kernel_rfl) rfl #[.agg #[.slice A2_0 l2_0.length c2_0, .slice A2_1 l2_1.length c2_1]] (by rfl) rfl rfl (by (try simp only [List.map_toArray, List.map_cons, List.map_nil]); first | done | rfl | (simp only [List.length_drop, List.length_take]; rfl)) ?_
        with_reducible refine (laws_toCore.calls k _ _ l2_0 _ _ l2_1 t392 t395 _ ?side1 ?side2 ?side3 ?side4 A31.out).mono ?_
        (case side1 => exact zC (Kd.C_below HR2_0.out HB.out))
        (case side2 => exact HC2_0.out)
        (case side3 => exact zC (Kd.C_below HR2_1.out HB.out))
        (case side4 => exact HC2_1.out)
        rintro e w65 ⟨v393, v396, rfl, ho0, ho1, hb⟩
        refine ⟨_, rfl, ?_⟩
        have n0_ := zQ (Kd.S_below (by (with_reducible repeat (first | apply Kd.S_alloc | apply Kd.S_drewN | apply Kd.S_drew)); exact HO359.out) hb)
        have n1_ := zQ (Kd.R_elder' (zR HO362.out) (Kd.R_base ho1) hb)
        have n2_ := zQ (Kd.S_mono (Kd.S_told (Kd.S_told (Kd.S_old (by (with_reducible repeat (first | apply Kd.S_alloc | apply Kd.S_drewN | apply Kd.S_drew)); exact HO365.out) hb) (Kd.S_base ho0)) (Kd.R_base ho1)) (fun _ h_ => h_.1))
        have n3_ := zQ (Kd.R_elder' (zR HO368.out) (Kd.R_base ho1) hb)
        have n4_ := zQ (Kd.S_below (by (with_reducible repeat (first | apply Kd.S_alloc | apply Kd.S_drewN | apply Kd.S_drew)); exact HO372.out) hb)
        have n5_ := zQ (Kd.R_elder' (zR HO375.out) (Kd.R_base ho1) hb)
        have n6_ := zQ (Kd.S_mono (Kd.S_told (Kd.S_told (Kd.S_old (by (with_reducible repeat (first | apply Kd.S_alloc | apply Kd.S_drewN | apply Kd.S_drew)); exact HO378.out) hb) (Kd.S_base ho0)) (Kd.R_base ho1)) (fun _ h_ => h_.1))
        have n7_ := zQ (Kd.R_elder' (zR HO381.out) (Kd.R_base ho1) hb)
        have n8_ := zQ (Kd.S_below (by (with_reducible repeat (first | apply Kd.S_alloc | apply Kd.S_drewN | apply Kd.S_drew)); exact HO386.out) hb)
        have n9_ := zQ (Kd.R_elder' (zR HO390.out) (Kd.R_base ho1) hb)
        have n10_ := zQ (Kd.S_lower (Kd.S_new' (Kd.S_new' (Kd.S_new' (Kd.S_new' (Kd.S_new' (Kd.S_new' (Kd.S_new' ho0 (Kd.R_lt (zR HO362.out))) (Kd.S_lt (by (with_reducible repeat (first | apply Kd.S_alloc | apply Kd.S_drewN | apply Kd.S_drew)); exact HO365.out))) (Kd.R_lt (zR HO368.out))) (Kd.R_lt (zR HO375.out))) (Kd.S_lt (by (with_reducible repeat (first | apply Kd.S_alloc | apply Kd.S_drewN | apply Kd.S_drew)); exact HO378.out))) (Kd.R_lt (zR HO381.out))) (Kd.R_lt (zR HO390.out))) (below_size (zB HB.out)))
        have n11_ := zQ (Kd.R_lower (Kd.R_new' (Kd.R_new' (Kd.R_new' (Kd.R_new' (Kd.R_new' ho1 (Kd.R_lt (zR HO362.out))) (Kd.R_lt (zR HO368.out))) (Kd.R_lt (zR HO375.out))) (Kd.R_lt (zR HO381.out))) (Kd.R_lt (zR HO390.out))) (below_size (zB HB.out)))
        have n12_ := zQ (zL BK354.out hb)
        have n13_ := zQ (zL BK382.out hb)
        have n14_ := zQ (below_step (zB HB.out) hb)
        clear HO359
        clear HO362
        clear HO365
        clear HO368
        clear HO372
        clear HO375
        clear HO378
        clear HO381
        clear HO386
        clear HO390
        clear BK354
        clear BK382
        clear HB
        have HO359 := n0_
        have HO362 := n1_
        have HO365 := n2_
        have HO368 := n3_
        have HO372 := n4_
        have HO375 := n5_
        have HO378 := n6_
        have HO381 := n7_
        have HO386 := n8_
        have HO390 := n9_
        have HO394 := n10_
        have HO397 := n11_
        have BK354 := n12_
        have BK382 := n13_
        have HB := n14_
        clear n0_ n1_ n2_ n3_ n4_ n5_ n6_ n7_ n8_ n9_ n10_ n11_ n12_ n13_ n14_
        (try clear hb)
        (try clear hb2)
        (try clear hk)
        (try clear hi)
        (try clear ho0)
        (try clear ho1)
        obtain ⟨Ao66, co66, eo66⟩ := Kd.S_slice HO394.out
        (first | subst eo66 | (injection eo66 with f1_ f2_ f3_; have f4_ := f1_.symm; have f5_ := f3_.symm; clear f1_ f2_ f3_; subst f4_; subst f5_))
        obtain ⟨Ao67, co67, eo67⟩ := Kd.R_slice HO397.out
        (first | subst eo67 | (injection eo67 with f1_ f2_ f3_; have f4_ := f1_.symm; have f5_ := f3_.symm; clear f1_ f2_ f3_; subst f4_; subst f5_))
        refine hK.out _ _ ⟨(blk_cell BK382.out 0).trans rfl, (blk_cell BK382.out 1).trans rfl, (blk_cell BK354.out 0).trans rfl, (blk_cell BK354.out 1).trans rfl⟩ (fun hHeld => ?_)
        clear hK K
        refine norm_ (a' := ?_) ?_ ?_
        rotate_left
        ·show Act.put _ (some 58) _ = _
         simp only [Act.put, List.setIfInBounds_toArray, List.set_cons_zero, List.set_cons_succ, i64_w, i32_w]
         rfl
        refine one_ (i := 3) (N := some 59) #[true, true, true, true, false] rfl rfl (by kernel_rfl) (by decide) (fun K hK => ?_)
        refine goes_ Try.func31 (by kernel_rfl) rfl #[.agg #[.slice Ao52 t376.length co52, .slice Ao55 t379.length co55], .agg #[.slice Ao66 t392.length co66, .slice Ao67 t395.length co67]] (by rfl) rfl rfl (by (try simp only [List.map_toArray, List.map_cons, List.map_nil]); first | done | rfl | (simp only [List.length_drop, List.length_take]; rfl)) ?_
        with_reducible refine (laws_eqCore.calls k _ _ t376 _ _ t379 _ _ t392 _ _ t395 true _ ?side1 ?side2 ?side3 ?side4 ?side5 ?side6 ?side7 ?side8 A32.out).mono ?_
        (case side1 => repeat (first | exact (Kd.S_reads' HO378.out).2.2 | (with_reducible refine Kd.C_alloc ?_ _) | (with_reducible refine Kd.C_drewN ?_ _) | (with_reducible refine Kd.C_drew ?_)))
        (case side2 => exact (Kd.S_reads' HO378.out).2.1)
        (case side3 => repeat (first | exact (Kd.R_reads' HO381.out).2.2 | (with_reducible refine Kd.C_alloc ?_ _) | (with_reducible refine Kd.C_drewN ?_ _) | (with_reducible refine Kd.C_drew ?_)))
        (case side4 => exact (Kd.R_reads' HO381.out).2.1)
        (case side5 => repeat (first | exact (Kd.S_reads' HO394.out).2.2 | (with_reducible refine Kd.C_alloc ?_ _) | (with_reducible refine Kd.C_drewN ?_ _) | (with_reducible refine Kd.C_drew ?_)))
        (case side6 => exact (Kd.S_reads' HO394.out).2.1)
        (case side7 => repeat (first | exact (Kd.R_reads' HO397.out).2.2 | (with_reducible refine Kd.C_alloc ?_ _) | (with_reducible refine Kd.C_drewN ?_ _) | (with_reducible refine Kd.C_drew ?_)))
        (case side8 => exact (Kd.R_reads' HO397.out).2.1)
        rintro e w68 ⟨rfl, hb⟩
        refine ⟨_, rfl, ?_⟩
        have n0_ := zQ (Kd.S_below (by (with_reducible repeat (first | apply Kd.S_alloc | apply Kd.S_drewN | apply Kd.S_drew)); exact HO359.out) hb)
        have n1_ := zQ (Kd.R_below (zR HO362.out) hb)
        have n2_ := zQ (Kd.S_below (by (with_reducible repeat (first | apply Kd.S_alloc | apply Kd.S_drewN | apply Kd.S_drew)); exact HO365.out) hb)
        have n3_ := zQ (Kd.R_below (zR HO368.out) hb)
        have n4_ := zQ (Kd.S_below (by (with_reducible repeat (first | apply Kd.S_alloc | apply Kd.S_drewN | apply Kd.S_drew)); exact HO372.out) hb)
        have n5_ := zQ (Kd.R_below (zR HO375.out) hb)
        have n6_ := zQ (Kd.S_below (by (with_reducible repeat (first | apply Kd.S_alloc | apply Kd.S_drewN | apply Kd.S_drew)); exact HO378.out) hb)
        have n7_ := zQ (Kd.R_below (zR HO381.out) hb)
        have n8_ := zQ (Kd.S_below (by (with_reducible repeat (first | apply Kd.S_alloc | apply Kd.S_drewN | apply Kd.S_drew)); exact HO386.out) hb)
        have n9_ := zQ (Kd.R_below (zR HO390.out) hb)
        have n10_ := zQ (Kd.S_below (by (with_reducible repeat (first | apply Kd.S_alloc | apply Kd.S_drewN | apply Kd.S_drew)); exact HO394.out) hb)
        have n11_ := zQ (Kd.R_below (zR HO397.out) hb)
        have n12_ := zQ (zL BK354.out hb)
        have n13_ := zQ (zL BK382.out hb)
        have n14_ := zQ (below_step (zB HB.out) hb)
        clear HO359
        clear HO362
        clear HO365
        clear HO368
        clear HO372
        clear HO375
        clear HO378
        clear HO381
        clear HO386
        clear HO390
        clear HO394
        clear HO397
        clear BK354
        clear BK382
        clear HB
        have HO359 := n0_
        have HO362 := n1_
        have HO365 := n2_
        have HO368 := n3_
        have HO372 := n4_
        have HO375 := n5_
        have HO378 := n6_
        have HO381 := n7_
        have HO386 := n8_
        have HO390 := n9_
        have HO394 := n10_
        have HO397 := n11_
        have BK354 := n12_
        have BK382 := n13_
        have HB := n14_
        clear n0_ n1_ n2_ n3_ n4_ n5_ n6_ n7_ n8_ n9_ n10_ n11_ n12_ n13_ n14_
        (try clear hb)
        (try clear hb2)
        (try clear hk)
        (try clear hi)
        refine hK.out _ _ ⟨(blk_cell BK382.out 0).trans rfl, (blk_cell BK382.out 1).trans rfl, (blk_cell BK354.out 0).trans rfl, (blk_cell BK354.out 1).trans rfl⟩ (fun hHeld => ?_)
        clear hK K
        refine norm_ (a' := ?_) ?_ ?_
        rotate_left
        ·show Act.put _ (some 59) _ = _
         simp only [Act.put, List.setIfInBounds_toArray, List.set_cons_zero, List.set_cons_succ, i64_w, i32_w]
         rfl
        refine pure_ (i := 4) (N := some 60) (v := ?_) (a' := ?_) #[true, true, true, true, true] rfl rfl (by kernel_rfl) (fun _ _ _ h => h) (Or.inl ⟨by rfl, ?_⟩) ?_ ?_
        rotate_left
        ·intro w'
         go_simp
         with_reducible rfl
        rotate_left
        ·simp only [Act.put, List.setIfInBounds_toArray, List.set_cons_zero, List.set_cons_succ, i64_w, i32_w]
         rfl
        refine done_ (by kernel_rfl) ?_
        try go_wp2
        go_ret
        exact ⟨by first | rfl | (simp [errW_none, errW_some] <;> rfl) | (simp [*, errW_none, errW_some] <;> rfl), zB HB.out⟩
       ·replace c33 := Bool.eq_false_iff.mpr c33
        subst c33
        have H1 : (some false) = some r := by rw [if_neg (show ¬ (false = true) by decide)] at H; exact H
        clear H
        have H := H1
        clear H1
        exact absurd ((Option.some.inj H).trans hlaw_.out) (by decide)
      ·replace c30 := Bool.eq_false_iff.mpr c30
       subst c30
       have H1 : (some false) = some r := by rw [if_neg (show ¬ (false = true) by decide)] at H; exact H
       clear H
       have H := H1
       clear H1
       exact absurd ((Option.some.inj H).trans hlaw_.out) (by decide)
     ·replace c27 := Bool.eq_false_iff.mpr c27
      subst c27
      have H1 : (some false) = some r := by rw [if_neg (show ¬ (false = true) by decide)] at H; exact H
      clear H
      have H := H1
      clear H1
      exact absurd ((Option.some.inj H).trans hlaw_.out) (by decide)

def wf88 (x : S88) : Prop := (fun a => (Lit.int .i64 a).wf = true) x.f0 ∧ (fun a => (Lit.int .i64 a).wf = true) x.f1
def wf117 (x : S117) : Prop := (fun l => l.length ≤ maxLen ∧ ∀ a ∈ l, wf88 a) x.f0
def wf199 (x : S199) : Prop := (fun a => (Lit.int .i64 a).wf = true) x.f0 ∧ (fun a => (Lit.int .i64 a).wf = true) x.f1 ∧ (fun l => l.length ≤ maxLen ∧ ∀ a ∈ l, (fun a => (Lit.int .i64 a).wf = true) a) x.f2
def wf77 (x : S77) : Prop := (fun l => l.length ≤ maxLen ∧ ∀ a ∈ l, wf199 a) x.f0 ∧ (fun l => l.length ≤ maxLen ∧ ∀ a ∈ l, (fun a => (Lit.int .i64 a).wf = true) a) x.f1
/-- THE ONE PURE STATEMENT of laws_FnExactCoreOK: mine. -/
def laws_FnExactCoreOK.Pure : Prop := ∀ (l0 : List (S117)) (l1 : List Int) (x2 : S77), (fun l => l.length ≤ maxLen ∧ ∀ a ∈ l, wf117 a) l0 → (fun l => l.length ≤ maxLen ∧ ∀ a ∈ l, (fun a => (Lit.int .i64 a).wf = true) a) l1 → wf77 x2 → ∃ k, laws_FnExactCoreOK.f k l0 l1 x2.f0 x2.f1 = some true

end Go.Proofs.Ytkegjmkdnfpfdaa.MFnExactCoreOK

-- By a program of this session.
import Derived.Test.YtkegjmkdnfpfdaaMFnExactNewCorex0
import Derived.Test.YtkegjmkdnfpfdaaMFnExactNewCorex1
import Derived.Test.YtkegjmkdnfpfdaaMFnExactNewCorex2
import Derived.Test.YtkegjmkdnfpfdaaMFnExactNewCorex15
import Derived.Test.YtkegjmkdnfpfdaaMFnExactNewCorex16
import Derived.Test.YtkegjmkdnfpfdaaMFnExactNewCorex26
import Derived.Test.YtkegjmkdnfpfdaaMFnExactNewCorex28
import Derived.Test.YtkegjmkdnfpfdaaMFnExactNewCorex31
import Derived.Test.YtkegjmkdnfpfdaaMFnExactNewCorex32
import Derived.Test.YtkegjmkdnfpfdaaMFnExactNewCorex33
import Derived.Test.YtkegjmkdnfpfdaaMFnExactNewCorex35
namespace Go.Proofs.Ytkegjmkdnfpfdaa.MFnExactNewCore
open Go.RowKit Go.Proofs.YtkegjmkdnfpfdaaW.PrintWords Go.Proofs.YtkegjmkdnfpfdaaW.PrintLast Go.Proofs.YtkegjmkdnfpfdaaW.PrintMore
attribute [local go_sem] max2_int min2_int max_two min_two max_three min_three max_four min_four
set_option linter.unusedVariables false
set_option linter.unusedSimpArgs false
set_option maxHeartbeats 8000000
set_option maxRecDepth 100000

/-! ### laws_FnExactNewCore: function 5 -/
mutual
def laws_FnExactNewCore.j0 : Nat → List (S117) → List Int → Int → Int → List (S124) → List Int → Int → Bool → List (S184) → List Int → List (S184) → List Int → Option (Bool)
 | 0, _, _, _, _, _, _, _, _, _, _, _, _ => none
 | k + 1, x0, x1, x2, x9, x10, x11, x13, x55, x324000, x324001, x338000, x338001 => if x55 = true then (some false) else ((laws_toRoutineS.f k x0).bind fun t339 => ((laws_eqRoutineS.f k x10 t339).bind fun t342 => (if t342 = true then ((laws_toIntS.f k x1).bind fun t343 => ((laws_eqIntS.f k x11 t343).bind fun t346 => (if t346 = true then ((laws_markRoutineS.f x10 1).bind fun t347 => ((laws_markIntS.f k x11 t347).bind fun bt348 => (if bt348.1 < 0 then (laws_FnExactNewCore.j1 k x0 x1 x2 x9 true x324000 x324001 x338000 x338001) else ((laws_eqCore.f k x338000 x338001 x324000 x324001).bind fun t350 => (if t350 = true then (laws_FnExactNewCore.j1 k x0 x1 x2 x9 (x13 != x9) x324000 x324001 x338000 x338001) else (laws_FnExactNewCore.j1 k x0 x1 x2 x9 true x324000 x324001 x338000 x338001)))))) else (some false)))) else (some false))))
def laws_FnExactNewCore.j1 : Nat → List (S117) → List Int → Int → Int → Bool → List (S184) → List Int → List (S184) → List Int → Option (Bool)
 | 0, _, _, _, _, _, _, _, _, _ => none
 | k + 1, x0, x1, x2, x9, x84, x324000, x324001, x338000, x338001 => if x84 = true then (some false) else ((laws_markCore.f k x338000 x338001 1).bind fun bt351 => ((laws_heldCore.f k bt351.2.1 bt351.2.2 1).bind fun t354 => (if t354 < 0 then (some false) else (if t354 = bt351.1 then ((laws_toRoutineS.f k x0).bind fun t355 => ((laws_toIntS.f k x1).bind fun t358 => ((impl_NewCore.f k t355 t358 x2).bind fun bt361 => ((laws_eqCore.f k bt361.1 bt361.2.1 x324000 x324001).bind fun t369 => (if t369 = true then (laws_FnExactNewCore.j2 k bt351.1 (bt361.2.2 != x9) bt351.2.1 bt351.2.2) else (laws_FnExactNewCore.j2 k bt351.1 true bt351.2.1 bt351.2.2)))))) else (some false)))))
def laws_FnExactNewCore.j2 : Nat → Int → Bool → List (S184) → List Int → Option (Bool)
 | 0, _, _, _, _ => none
 | k + 1, x15, x113, x338000, x338001 => if x113 = true then (some false) else ((laws_heldCore.f k x338000 x338001 1).bind fun t370 => (if t370 < 0 then (some false) else (if t370 = x15 then (some true) else (some false))))
end
def laws_FnExactNewCore.f (k : Nat) (l0 : List (S117)) (l1 : List Int) (a2 : Int) : Option (Bool) := if (l1.length : Int) > 1048576 then (some true) else ((laws_szRoutineS.f k l0 1048576).bind fun t309 => (if t309 < 0 then (some true) else ((laws_toRoutineS.f k l0).bind fun t310 => ((laws_toIntS.f k l1).bind fun t313 => ((spec_NewCore.f k t310 t313 a2).bind fun bt316 => ((laws_toRoutineS.f k l0).bind fun t324 => ((laws_toIntS.f k l1).bind fun t327 => ((impl_NewCore.f k t324 t327 a2).bind fun bt330 => ((laws_eqCore.f k bt330.1 bt330.2.1 bt316.1 bt316.2.1).bind fun t338 => (if t338 = true then (laws_FnExactNewCore.j0 k l0 l1 a2 bt316.2.2 t324 t327 bt330.2.2 (bt330.2.2 != bt316.2.2) bt316.1 bt316.2.1 bt330.1 bt330.2.1) else (laws_FnExactNewCore.j0 k l0 l1 a2 bt316.2.2 t324 t327 bt330.2.2 true bt316.1 bt316.2.1 bt330.1 bt330.2.1)))))))))))
theorem laws_FnExactNewCore.mono_l : ∀ k, (∀ y0 y1 y2 y3 y4 y5 y6 y7 y8 y9 y10 y11, LeO (laws_FnExactNewCore.j0 k y0 y1 y2 y3 y4 y5 y6 y7 y8 y9 y10 y11) (laws_FnExactNewCore.j0 (k + 1) y0 y1 y2 y3 y4 y5 y6 y7 y8 y9 y10 y11)) ∧ (∀ y0 y1 y2 y3 y4 y5 y6 y7 y8, LeO (laws_FnExactNewCore.j1 k y0 y1 y2 y3 y4 y5 y6 y7 y8) (laws_FnExactNewCore.j1 (k + 1) y0 y1 y2 y3 y4 y5 y6 y7 y8)) ∧ (∀ y0 y1 y2 y3, LeO (laws_FnExactNewCore.j2 k y0 y1 y2 y3) (laws_FnExactNewCore.j2 (k + 1) y0 y1 y2 y3))
 | 0 => ⟨fun _ _ _ _ _ _ _ _ _ _ _ _ r h => by simp [laws_FnExactNewCore.j0] at h, fun _ _ _ _ _ _ _ _ _ r h => by simp [laws_FnExactNewCore.j1] at h, fun _ _ _ _ r h => by simp [laws_FnExactNewCore.j2] at h⟩
 | k + 1 => by
  obtain ⟨ih0, ih1, ih2⟩ := laws_FnExactNewCore.mono_l k
  refine ⟨?_, ?_, ?_⟩
  ·intro y0 y1 y2 y3 y4 y5 y6 y7 y8 y9 y10 y11
   unfold laws_FnExactNewCore.j0
   repeat' first
   | (with_reducible exact ih0 _ _ _ _ _ _ _ _ _ _ _ _)
   | (with_reducible exact ih1 _ _ _ _ _ _ _ _ _)
   | (with_reducible exact ih2 _ _ _ _)
   | (with_reducible exact impl_NewCore.mono _ _ _ _)
   | (with_reducible exact laws_eqCore.mono _ _ _ _ _)
   | (with_reducible exact laws_eqIntS.mono _ _ _)
   | (with_reducible exact laws_eqRoutineS.mono _ _ _)
   | (with_reducible exact laws_heldCore.mono _ _ _ _)
   | (with_reducible exact laws_markCore.mono _ _ _ _)
   | (with_reducible exact laws_markIntS.mono _ _ _)
   | (with_reducible exact laws_szRoutineS.mono _ _ _)
   | (with_reducible exact laws_toIntS.mono _ _)
   | (with_reducible exact laws_toRoutineS.mono _ _)
   | (with_reducible exact spec_NewCore.mono _ _ _ _)
   | (with_reducible exact LeO.refl _)
   | (with_reducible exact LeO.none _)
   | (with_reducible refine LeO.ite ?_ ?_)
   | (with_reducible refine LeO.bind ?_ (fun _ => ?_))
  ·intro y0 y1 y2 y3 y4 y5 y6 y7 y8
   unfold laws_FnExactNewCore.j1
   repeat' first
   | (with_reducible exact ih0 _ _ _ _ _ _ _ _ _ _ _ _)
   | (with_reducible exact ih1 _ _ _ _ _ _ _ _ _)
   | (with_reducible exact ih2 _ _ _ _)
   | (with_reducible exact impl_NewCore.mono _ _ _ _)
   | (with_reducible exact laws_eqCore.mono _ _ _ _ _)
   | (with_reducible exact laws_eqIntS.mono _ _ _)
   | (with_reducible exact laws_eqRoutineS.mono _ _ _)
   | (with_reducible exact laws_heldCore.mono _ _ _ _)
   | (with_reducible exact laws_markCore.mono _ _ _ _)
   | (with_reducible exact laws_markIntS.mono _ _ _)
   | (with_reducible exact laws_szRoutineS.mono _ _ _)
   | (with_reducible exact laws_toIntS.mono _ _)
   | (with_reducible exact laws_toRoutineS.mono _ _)
   | (with_reducible exact spec_NewCore.mono _ _ _ _)
   | (with_reducible exact LeO.refl _)
   | (with_reducible exact LeO.none _)
   | (with_reducible refine LeO.ite ?_ ?_)
   | (with_reducible refine LeO.bind ?_ (fun _ => ?_))
  ·intro y0 y1 y2 y3
   unfold laws_FnExactNewCore.j2
   repeat' first
   | (with_reducible exact ih0 _ _ _ _ _ _ _ _ _ _ _ _)
   | (with_reducible exact ih1 _ _ _ _ _ _ _ _ _)
   | (with_reducible exact ih2 _ _ _ _)
   | (with_reducible exact impl_NewCore.mono _ _ _ _)
   | (with_reducible exact laws_eqCore.mono _ _ _ _ _)
   | (with_reducible exact laws_eqIntS.mono _ _ _)
   | (with_reducible exact laws_eqRoutineS.mono _ _ _)
   | (with_reducible exact laws_heldCore.mono _ _ _ _)
   | (with_reducible exact laws_markCore.mono _ _ _ _)
   | (with_reducible exact laws_markIntS.mono _ _ _)
   | (with_reducible exact laws_szRoutineS.mono _ _ _)
   | (with_reducible exact laws_toIntS.mono _ _)
   | (with_reducible exact laws_toRoutineS.mono _ _)
   | (with_reducible exact spec_NewCore.mono _ _ _ _)
   | (with_reducible exact LeO.refl _)
   | (with_reducible exact LeO.none _)
   | (with_reducible refine LeO.ite ?_ ?_)
   | (with_reducible refine LeO.bind ?_ (fun _ => ?_))
theorem laws_FnExactNewCore.mono : ∀ a0 a1 a2 k, LeO (laws_FnExactNewCore.f k a0 a1 a2) (laws_FnExactNewCore.f (k + 1) a0 a1 a2) := by
 intro a0 a1 a2 k
 obtain ⟨ih0, ih1, ih2⟩ := laws_FnExactNewCore.mono_l k
 unfold laws_FnExactNewCore.f
 repeat' first
  | (with_reducible exact ih0 _ _ _ _ _ _ _ _ _ _ _ _)
  | (with_reducible exact ih1 _ _ _ _ _ _ _ _ _)
  | (with_reducible exact ih2 _ _ _ _)
  | (with_reducible exact impl_NewCore.mono _ _ _ _)
  | (with_reducible exact laws_eqCore.mono _ _ _ _ _)
  | (with_reducible exact laws_eqIntS.mono _ _ _)
  | (with_reducible exact laws_eqRoutineS.mono _ _ _)
  | (with_reducible exact laws_heldCore.mono _ _ _ _)
  | (with_reducible exact laws_markCore.mono _ _ _ _)
  | (with_reducible exact laws_markIntS.mono _ _ _)
  | (with_reducible exact laws_szRoutineS.mono _ _ _)
  | (with_reducible exact laws_toIntS.mono _ _)
  | (with_reducible exact laws_toRoutineS.mono _ _)
  | (with_reducible exact spec_NewCore.mono _ _ _ _)
  | (with_reducible exact LeO.refl _)
  | (with_reducible exact LeO.none _)
  | (with_reducible refine LeO.ite ?_ ?_)
  | (with_reducible refine LeO.bind ?_ (fun _ => ?_))
theorem laws_FnExactNewCore.calls (k : Nat) (A0 : Option Addr) (c0 : Nat) (l0 : List (S117)) (A1 : Option Addr) (c1 : Nat) (l1 : List Int) (a2 : Int) (r : Bool) (w : World) (hr0 : Kd.C k117 w A0 l0.length l0) (hc0 : l0.length ≤ c0) (hr1 : Kd.C (Kd.int .i64) w A1 l1.length l1) (hc1 : l1.length ≤ c1) (h : laws_FnExactNewCore.f k l0 l1 a2 = some r) (hlaw0 : r = true) :
 Calls Try.prog 5 #[.slice A0 l0.length c0, .slice A1 l1.length c1, .int .i64 a2] w fun e w' => e = .returned (.bool r) ∧ Below w.heap.size w w' := by
 have hu45 := Try.underlying45
 have HR0 := zQ hr0
 have HC0 := zQ hc0
 clear hr0 hc0
 have HR1 := zQ hr1
 have HC1 := zQ hc1
 clear hr1 hc1
 have HB := zQ (Below.refl w.heap.size w)
 have hlaw_ := zQ hlaw0
 clear hlaw0
 have H : (if (l1.length : Int) > 1048576 then (some true) else ((laws_szRoutineS.f k l0 1048576).bind fun t309 => (if t309 < 0 then (some true) else ((laws_toRoutineS.f k l0).bind fun t310 => ((laws_toIntS.f k l1).bind fun t313 => ((spec_NewCore.f k t310 t313 a2).bind fun bt316 => ((laws_toRoutineS.f k l0).bind fun t324 => ((laws_toIntS.f k l1).bind fun t327 => ((impl_NewCore.f k t324 t327 a2).bind fun bt330 => ((laws_eqCore.f k bt330.1 bt330.2.1 bt316.1 bt316.2.1).bind fun t338 => (if t338 = true then (laws_FnExactNewCore.j0 k l0 l1 a2 bt316.2.2 t324 t327 bt330.2.2 (bt330.2.2 != bt316.2.2) bt316.1 bt316.2.1 bt330.1 bt330.2.1) else (laws_FnExactNewCore.j0 k l0 l1 a2 bt316.2.2 t324 t327 bt330.2.2 true bt316.1 bt316.2.1 bt330.1 bt330.2.1)))))))))))) = some r := h
 clear h
 by_cases c4 : (l1.length : Int) > 1048576
 ·rw [if_pos c4] at H
  have c4b0 : decide (1048576 < (l1.length : Int)) = true := decide_eq_true c4
  have c4b1 : decide (1048576 < l1.length) = true := decide_eq_true (by omega)
  clear c4
  obtain rfl := Option.some.inj H
  go_enter Try.func5, Try.ntmps5
  go_wp2
  go_ret
  exact ⟨by first | rfl | (simp [errW_none, errW_some] <;> rfl) | (simp [*, errW_none, errW_some] <;> rfl), zB HB.out⟩
 ·rw [if_neg c4] at H
  have c4b0 : decide (1048576 < (l1.length : Int)) = false := decide_eq_false c4
  have c4b1 : decide (1048576 < l1.length) = false := decide_eq_false (by omega)
  clear c4
  replace H := Option.bind_eq_some_iff.mp H
  obtain ⟨t309, A50, H⟩ := H
  replace H : (if t309 < 0 then (some true) else ((laws_toRoutineS.f k l0).bind fun t310 => ((laws_toIntS.f k l1).bind fun t313 => ((spec_NewCore.f k t310 t313 a2).bind fun bt316 => ((laws_toRoutineS.f k l0).bind fun t324 => ((laws_toIntS.f k l1).bind fun t327 => ((impl_NewCore.f k t324 t327 a2).bind fun bt330 => ((laws_eqCore.f k bt330.1 bt330.2.1 bt316.1 bt316.2.1).bind fun t338 => (if t338 = true then (laws_FnExactNewCore.j0 k l0 l1 a2 bt316.2.2 t324 t327 bt330.2.2 (bt330.2.2 != bt316.2.2) bt316.1 bt316.2.1 bt330.1 bt330.2.1) else (laws_FnExactNewCore.j0 k l0 l1 a2 bt316.2.2 t324 t327 bt330.2.2 true bt316.1 bt316.2.1 bt330.1 bt330.2.1)))))))))) = some r := H
  have A5 := zQ A50
  clear A50
  by_cases c6 : t309 < 0
  ·rw [if_pos c6] at H
   have c6b0 : decide (t309 < 0) = true := decide_eq_true c6
   clear c6
   obtain rfl := Option.some.inj H
   go_enter Try.func5, Try.ntmps5
   go_wp2_with (first | ((with_reducible refine gate_callee (f := 27) rfl ?_); refine goesL_ (some 24) rfl rfl Try.func27 (by kernel_rfl) rfl #[.slice A0 l0.length c0, .int .i64 1048576] rfl zS ?_; (with_reducible refine (laws_szRoutineS.calls k _ _ l0 1048576 t309 _ ?side1 ?side2 A5.out).mono ?_); (case side1 => repeat (first | exact HR0.out | (with_reducible refine Kd.C_alloc ?_ _) | (with_reducible refine Kd.C_drewN ?_ _) | (with_reducible refine Kd.C_drew ?_))); (case side2 => exact HC0.out); rintro e w7 ⟨rfl, hb⟩; refine ⟨_, rfl, ?_⟩; have n0_ := zQ (below_step (zB HB.out) hb); clear HB; have HB := n0_; clear n0_; (try clear hb); (try clear hb2); (try clear hk); (try clear hi)))
   go_ret
   exact ⟨by first | rfl | (simp [errW_none, errW_some] <;> rfl) | (simp [*, errW_none, errW_some] <;> rfl), zB HB.out⟩
  ·rw [if_neg c6] at H
   have c6b0 : decide (t309 < 0) = false := decide_eq_false c6
   clear c6
   replace H := Option.bind_eq_some_iff.mp H
   obtain ⟨t310, A80, H⟩ := H
   replace H : ((laws_toIntS.f k l1).bind fun t313 => ((spec_NewCore.f k t310 t313 a2).bind fun bt316 => ((laws_toRoutineS.f k l0).bind fun t324 => ((laws_toIntS.f k l1).bind fun t327 => ((impl_NewCore.f k t324 t327 a2).bind fun bt330 => ((laws_eqCore.f k bt330.1 bt330.2.1 bt316.1 bt316.2.1).bind fun t338 => (if t338 = true then (laws_FnExactNewCore.j0 k l0 l1 a2 bt316.2.2 t324 t327 bt330.2.2 (bt330.2.2 != bt316.2.2) bt316.1 bt316.2.1 bt330.1 bt330.2.1) else (laws_FnExactNewCore.j0 k l0 l1 a2 bt316.2.2 t324 t327 bt330.2.2 true bt316.1 bt316.2.1 bt330.1 bt330.2.1)))))))) = some r := H
   have A8 := zQ A80
   clear A80
   replace H := Option.bind_eq_some_iff.mp H
   obtain ⟨t313, A90, H⟩ := H
   replace H : ((spec_NewCore.f k t310 t313 a2).bind fun bt316 => ((laws_toRoutineS.f k l0).bind fun t324 => ((laws_toIntS.f k l1).bind fun t327 => ((impl_NewCore.f k t324 t327 a2).bind fun bt330 => ((laws_eqCore.f k bt330.1 bt330.2.1 bt316.1 bt316.2.1).bind fun t338 => (if t338 = true then (laws_FnExactNewCore.j0 k l0 l1 a2 bt316.2.2 t324 t327 bt330.2.2 (bt330.2.2 != bt316.2.2) bt316.1 bt316.2.1 bt330.1 bt330.2.1) else (laws_FnExactNewCore.j0 k l0 l1 a2 bt316.2.2 t324 t327 bt330.2.2 true bt316.1 bt316.2.1 bt330.1 bt330.2.1))))))) = some r := H
   have A9 := zQ A90
   clear A90
   replace H := Option.bind_eq_some_iff.mp H
   obtain ⟨⟨t316, t319, t322⟩, A100, H⟩ := H
   replace H : ((laws_toRoutineS.f k l0).bind fun t324 => ((laws_toIntS.f k l1).bind fun t327 => ((impl_NewCore.f k t324 t327 a2).bind fun bt330 => ((laws_eqCore.f k bt330.1 bt330.2.1 t316 t319).bind fun t338 => (if t338 = true then (laws_FnExactNewCore.j0 k l0 l1 a2 t322 t324 t327 bt330.2.2 (bt330.2.2 != t322) t316 t319 bt330.1 bt330.2.1) else (laws_FnExactNewCore.j0 k l0 l1 a2 t322 t324 t327 bt330.2.2 true t316 t319 bt330.1 bt330.2.1)))))) = some r := H
   have A10 := zQ A100
   clear A100
   replace H := Option.bind_eq_some_iff.mp H
   obtain ⟨t324, A110, H⟩ := H
   replace H : ((laws_toIntS.f k l1).bind fun t327 => ((impl_NewCore.f k t324 t327 a2).bind fun bt330 => ((laws_eqCore.f k bt330.1 bt330.2.1 t316 t319).bind fun t338 => (if t338 = true then (laws_FnExactNewCore.j0 k l0 l1 a2 t322 t324 t327 bt330.2.2 (bt330.2.2 != t322) t316 t319 bt330.1 bt330.2.1) else (laws_FnExactNewCore.j0 k l0 l1 a2 t322 t324 t327 bt330.2.2 true t316 t319 bt330.1 bt330.2.1))))) = some r := H
   have A11 := zQ A110
   clear A110
   replace H := Option.bind_eq_some_iff.mp H
   obtain ⟨t327, A120, H⟩ := H
   replace H : ((impl_NewCore.f k t324 t327 a2).bind fun bt330 => ((laws_eqCore.f k bt330.1 bt330.2.1 t316 t319).bind fun t338 => (if t338 = true then (laws_FnExactNewCore.j0 k l0 l1 a2 t322 t324 t327 bt330.2.2 (bt330.2.2 != t322) t316 t319 bt330.1 bt330.2.1) else (laws_FnExactNewCore.j0 k l0 l1 a2 t322 t324 t327 bt330.2.2 true t316 t319 bt330.1 bt330.2.1)))) = some r := H
   have A12 := zQ A120
   clear A120
   replace H := Option.bind_eq_some_iff.mp H
   obtain ⟨⟨t330, t333, t336⟩, A130, H⟩ := H
   replace H : ((laws_eqCore.f k t330 t333 t316 t319).bind fun t338 => (if t338 = true then (laws_FnExactNewCore.j0 k l0 l1 a2 t322 t324 t327 t336 (t336 != t322) t316 t319 t330 t333) else (laws_FnExactNewCore.j0 k l0 l1 a2 t322 t324 t327 t336 true t316 t319 t330 t333))) = some r := H
   have A13 := zQ A130
   clear A130
   have HC14 := zQ H
   clear H
   go_enter Try.func5, Try.ntmps5
   go_upto_region 11 with (first | ((with_reducible refine gate_callee (f := 27) rfl ?_); refine goesL_ (some 24) rfl rfl Try.func27 (by kernel_rfl) rfl #[.slice A0 l0.length c0, .int .i64 1048576] rfl zS ?_; (with_reducible refine (laws_szRoutineS.calls k _ _ l0 1048576 t309 _ ?side1 ?side2 A5.out).mono ?_); (case side1 => repeat (first | exact HR0.out | (with_reducible refine Kd.C_alloc ?_ _) | (with_reducible refine Kd.C_drewN ?_ _) | (with_reducible refine Kd.C_drew ?_))); (case side2 => exact HC0.out); rintro e w15 ⟨rfl, hb⟩; refine ⟨_, rfl, ?_⟩; have n0_ := zQ (below_step (zB HB.out) hb); clear HB; have HB := n0_; clear n0_; (try clear hb); (try clear hb2); (try clear hk); (try clear hi)) | ((with_reducible refine gate_callee (f := 29) rfl ?_); refine goesL_ (some 29) rfl rfl Try.func29 (by kernel_rfl) rfl #[.slice A0 l0.length c0] rfl zS ?_; (with_reducible refine (laws_toRoutineS.calls k _ _ l0 t310 _ ?side1 ?side2 A8.out).mono ?_); (case side1 => exact zE HR0 HB); (case side2 => exact HC0.out); rintro e w16 ⟨v311, rfl, ho0, hb⟩; refine ⟨_, rfl, ?_⟩; have n0_ := zQ (Kd.S_lower ho0 (below_size (zB HB.out))); have n1_ := zQ (below_step (zB HB.out) hb); clear HB; have HO312 := n0_; have HB := n1_; clear n0_ n1_; (try clear hb); (try clear hb2); (try clear hk); (try clear hi); (try clear ho0)) | ((with_reducible refine gate_callee (f := 15) rfl ?_); refine goesL_ (some 31) rfl rfl Try.func15 (by kernel_rfl) rfl #[.slice A1 l1.length c1] rfl zS ?_; (with_reducible refine (laws_toIntS.calls k _ _ l1 t313 _ ?side1 ?side2 A9.out).mono ?_); (case side1 => exact zE HR1 HB); (case side2 => exact HC1.out); rintro e w17 ⟨v314, rfl, ho0, hb⟩; refine ⟨_, rfl, ?_⟩; have n0_ := zQ (Kd.S_below (by (with_reducible repeat (first | apply Kd.S_alloc | apply Kd.S_drewN | apply Kd.S_drew)); exact HO312.out) hb); have n1_ := zQ (Kd.R_lower ho0 (below_size (zB HB.out))); have n2_ := zQ (below_step (zB HB.out) hb); clear HO312; clear HB; have HO312 := n0_; have HO315 := n1_; have HB := n2_; clear n0_ n1_ n2_; (try clear hb); (try clear hb2); (try clear hk); (try clear hi); (try clear ho0); obtain ⟨Ao18, co18, eo18⟩ := Kd.S_slice HO312.out; subst eo18; obtain ⟨Ao19, co19, eo19⟩ := Kd.R_slice HO315.out; subst eo19) | ((with_reducible refine gate_callee (f := 28) rfl ?_); refine goesL_ (some 33) rfl rfl Try.func28 (by kernel_rfl) rfl #[.slice Ao18 t310.length co18, .slice Ao19 t313.length co19, .int .i64 a2] rfl zS ?_; (with_reducible refine (spec_NewCore.calls k _ _ t310 _ _ t313 a2 t316 t319 t322 _ ?side1 ?side2 ?side3 ?side4 A10.out).mono ?_); (case side1 => repeat (first | exact (Kd.S_reads' HO312.out).2.2 | (with_reducible refine Kd.C_alloc ?_ _) | (with_reducible refine Kd.C_drewN ?_ _) | (with_reducible refine Kd.C_drew ?_))); (case side2 => exact (Kd.S_reads' HO312.out).2.1); (case side3 => exact zC (Kd.R_reads' HO315.out).2.2); (case side4 => exact (Kd.R_reads' HO315.out).2.1); rintro e w20 ⟨v317, v320, rfl, ho0, ho1, hb⟩; refine ⟨_, rfl, ?_⟩; have n0_ := zQ (Kd.S_below (by (with_reducible repeat (first | apply Kd.S_alloc | apply Kd.S_drewN | apply Kd.S_drew)); exact HO312.out) hb); have n1_ := zQ (Kd.R_elder' (zR HO315.out) (Kd.R_base ho1) hb); have n2_ := zQ (Kd.S_lower (Kd.S_new' ho0 (Kd.R_lt (zR HO315.out))) (below_size (zB HB.out))); have n3_ := zQ (Kd.R_lower (Kd.R_new' ho1 (Kd.R_lt (zR HO315.out))) (below_size (zB HB.out))); have n4_ := zQ (below_step (zB HB.out) hb); clear HO312; clear HO315; clear HB; have HO312 := n0_; have HO315 := n1_; have HO318 := n2_; have HO321 := n3_; have HB := n4_; clear n0_ n1_ n2_ n3_ n4_; (try clear hb); (try clear hb2); (try clear hk); (try clear hi); (try clear ho0); (try clear ho1)) | ((with_reducible refine gate_dst (N := 8) rfl ?_); refine box_event ?hg (N := 8) ?hd (cs := #[.slice none 0 0, .slice none 0 0]) (t := 45) ?hr ?_; (case hd => rfl); (case hg => rfl); (case hr => first | (go_simp; done) | (go_simp; rfl)); intro gb323 hg w21 hbox hb; have n0_ := zQ (Kd.S_below (by (with_reducible repeat (first | apply Kd.S_alloc | apply Kd.S_drewN | apply Kd.S_drew)); exact HO312.out) hb); have n1_ := zQ (Kd.R_below (zR HO315.out) hb); have n2_ := zQ (Kd.S_below (by (with_reducible repeat (first | apply Kd.S_alloc | apply Kd.S_drewN | apply Kd.S_drew)); exact HO318.out) hb); have n3_ := zQ (Kd.R_below (zR HO321.out) hb); have n4_ := zQ (below_step (zB HB.out) hb); have n5_ := zQ (hbox); have n6_ := zQ ((zG hg HB.out)); have n7_ := zQ ((zG hg HB.out)); clear HO312; clear HO315; clear HO318; clear HO321; clear HB; have HO312 := n0_; have HO315 := n1_; have HO318 := n2_; have HO321 := n3_; have HB := n4_; have BK323 := n5_; have GW323 := n6_; have GE323 := n7_; clear n0_ n1_ n2_ n3_ n4_ n5_ n6_ n7_; clear hb hbox hg; obtain ⟨Ao22, co22, eo22⟩ := Kd.S_slice HO318.out; subst eo22; obtain ⟨hcz23_0, hcz23_1, hfz23_0, hfz23_1⟩ := zc2 BK323.out; obtain ⟨Ao24, co24, eo24⟩ := Kd.R_slice HO321.out; subst eo24) | ((with_reducible refine gate_callee (f := 29) rfl ?_); refine goesL_ (some 37) rfl rfl Try.func29 (by kernel_rfl) rfl #[.slice A0 l0.length c0] rfl zS ?_; (with_reducible refine (laws_toRoutineS.calls k _ _ l0 t324 _ ?side1 ?side2 A11.out).mono ?_); (case side1 => exact Kd.C_below HR0.out (zB HB.out)); (case side2 => exact HC0.out); rintro e w25 ⟨v325, rfl, ho0, hb⟩; refine ⟨_, rfl, ?_⟩; have n0_ := zQ (Kd.S_elder' (by (with_reducible repeat (first | apply Kd.S_alloc | apply Kd.S_drewN | apply Kd.S_drew)); exact (zSf2 HO312.out BK323.out (by decide))) (Kd.S_base ho0) hb); have n1_ := zQ (Kd.R_below (by (with_reducible repeat (first | apply Kd.R_alloc | apply Kd.R_drewN | apply Kd.R_drew)); exact (zRf2 HO315.out BK323.out (by decide))) hb); have n2_ := zQ (Kd.S_below (by (with_reducible repeat (first | apply Kd.S_alloc | apply Kd.S_drewN | apply Kd.S_drew)); exact (zSf2 HO318.out BK323.out (by decide))) hb); have n3_ := zQ (Kd.R_below (by (with_reducible repeat (first | apply Kd.R_alloc | apply Kd.R_drewN | apply Kd.R_drew)); exact (zRf2 HO321.out BK323.out (by decide))) hb); have n4_ := zQ (Kd.S_lower (Kd.S_new' ho0 (Kd.S_lt (by (with_reducible repeat (first | apply Kd.S_alloc | apply Kd.S_drewN | apply Kd.S_drew)); exact (zSf2 HO312.out BK323.out (by decide))))) (below_size (zB HB.out))); have n5_ := zQ (blk_below (g := gb323) (o := .cells #[.slice Ao22 t316.length co22, .slice Ao24 t319.length co24] 45 (0, 0)) (zP BK323.out) hb); have n6_ := zQ (below_step (zB HB.out) hb); clear HO312; clear HO315; clear HO318; clear HO321; clear BK323; clear HB; have HO312 := n0_; have HO315 := n1_; have HO318 := n2_; have HO321 := n3_; have HO326 := n4_; have BK323 := n5_; have HB := n6_; clear n0_ n1_ n2_ n3_ n4_ n5_ n6_; (try clear hb); (try clear hb2); (try clear hk); (try clear hi); (try clear ho0)) | ((with_reducible refine gate_callee (f := 15) rfl ?_); refine goesL_ (some 39) rfl rfl Try.func15 (by kernel_rfl) rfl #[.slice A1 l1.length c1] rfl zS ?_; (with_reducible refine (laws_toIntS.calls k _ _ l1 t327 _ ?side1 ?side2 A12.out).mono ?_); (case side1 => exact zE HR1 HB); (case side2 => exact HC1.out); rintro e w26 ⟨v328, rfl, ho0, hb⟩; refine ⟨_, rfl, ?_⟩; have n0_ := zQ (Kd.S_below (by (with_reducible repeat (first | apply Kd.S_alloc | apply Kd.S_drewN | apply Kd.S_drew)); exact HO312.out) hb); have n1_ := zQ (Kd.R_elder' (zR HO315.out) (Kd.R_base ho0) hb); have n2_ := zQ (Kd.S_elder' (by (with_reducible repeat (first | apply Kd.S_alloc | apply Kd.S_drewN | apply Kd.S_drew)); exact HO318.out) (Kd.R_base ho0) hb); have n3_ := zQ (Kd.R_elder' (zR HO321.out) (Kd.R_base ho0) hb); have n4_ := zQ (Kd.S_below (by (with_reducible repeat (first | apply Kd.S_alloc | apply Kd.S_drewN | apply Kd.S_drew)); exact HO326.out) hb); have n5_ := zQ (Kd.R_lower (Kd.R_new' (Kd.R_new' ho0 (Kd.R_lt (zR HO315.out))) (Kd.R_lt (zR HO321.out))) (below_size (zB HB.out))); have n6_ := zQ (zL BK323.out hb); have n7_ := zQ (below_step (zB HB.out) hb); clear HO312; clear HO315; clear HO318; clear HO321; clear HO326; clear BK323; clear HB; have HO312 := n0_; have HO315 := n1_; have HO318 := n2_; have HO321 := n3_; have HO326 := n4_; have HO329 := n5_; have BK323 := n6_; have HB := n7_; clear n0_ n1_ n2_ n3_ n4_ n5_ n6_ n7_; (try clear hb); (try clear hb2); (try clear hk); (try clear hi); (try clear ho0); obtain ⟨Ao27, co27, eo27⟩ := Kd.S_slice HO326.out; subst eo27; obtain ⟨Ao28, co28, eo28⟩ := Kd.R_slice HO329.out; subst eo28) | ((with_reducible refine gate_callee (f := 30) rfl ?_); refine goesL_ (some 44) rfl rfl Try.func30 (by kernel_rfl) rfl #[.slice Ao27 t324.length co27, .slice Ao28 t327.length co28, .int .i64 a2] rfl zS ?_; (with_reducible refine (impl_NewCore.calls k _ _ t324 _ _ t327 a2 t330 t333 t336 _ ?side1 ?side2 ?side3 ?side4 A13.out).mono ?_); (case side1 => repeat (first | exact (Kd.S_reads' HO326.out).2.2 | (with_reducible refine Kd.C_alloc ?_ _) | (with_reducible refine Kd.C_drewN ?_ _) | (with_reducible refine Kd.C_drew ?_))); (case side2 => exact (Kd.S_reads' HO326.out).2.1); (case side3 => exact zC (Kd.R_reads' HO329.out).2.2); (case side4 => exact (Kd.R_reads' HO329.out).2.1); rintro e w29 ⟨v331, v334, rfl, ho0, ho1, hb⟩; refine ⟨_, rfl, ?_⟩; have n0_ := zQ (Kd.S_below (by (with_reducible repeat (first | apply Kd.S_alloc | apply Kd.S_drewN | apply Kd.S_drew)); exact HO312.out) hb); have n1_ := zQ (Kd.R_elder' (zR HO315.out) (Kd.R_base ho1) hb); have n2_ := zQ (Kd.S_mono (Kd.S_told (Kd.S_told (Kd.S_old (by (with_reducible repeat (first | apply Kd.S_alloc | apply Kd.S_drewN | apply Kd.S_drew)); exact HO318.out) hb) (Kd.S_base ho0)) (Kd.R_base ho1)) (fun _ h_ => h_.1)); have n3_ := zQ (Kd.R_elder' (zR HO321.out) (Kd.R_base ho1) hb); have n4_ := zQ (Kd.S_below (by (with_reducible repeat (first | apply Kd.S_alloc | apply Kd.S_drewN | apply Kd.S_drew)); exact HO326.out) hb); have n5_ := zQ (Kd.R_elder' (zR HO329.out) (Kd.R_base ho1) hb); have n6_ := zQ (Kd.S_lower (Kd.S_new' (Kd.S_new' (Kd.S_new' (Kd.S_new' ho0 (Kd.R_lt (zR HO315.out))) (Kd.S_lt (by (with_reducible repeat (first | apply Kd.S_alloc | apply Kd.S_drewN | apply Kd.S_drew)); exact HO318.out))) (Kd.R_lt (zR HO321.out))) (Kd.R_lt (zR HO329.out))) (below_size (zB HB.out))); have n7_ := zQ (Kd.R_lower (Kd.R_new' (Kd.R_new' (Kd.R_new' ho1 (Kd.R_lt (zR HO315.out))) (Kd.R_lt (zR HO321.out))) (Kd.R_lt (zR HO329.out))) (below_size (zB HB.out))); have n8_ := zQ (zL BK323.out hb); have n9_ := zQ (below_step (zB HB.out) hb); clear HO312; clear HO315; clear HO318; clear HO321; clear HO326; clear HO329; clear BK323; clear HB; have HO312 := n0_; have HO315 := n1_; have HO318 := n2_; have HO321 := n3_; have HO326 := n4_; have HO329 := n5_; have HO332 := n6_; have HO335 := n7_; have BK323 := n8_; have HB := n9_; clear n0_ n1_ n2_ n3_ n4_ n5_ n6_ n7_ n8_ n9_; (try clear hb); (try clear hb2); (try clear hk); (try clear hi); (try clear ho0); (try clear ho1)) | ((with_reducible refine gate_dst (N := 12) rfl ?_); refine box_event ?hg (N := 12) ?hd (cs := #[.slice none 0 0, .slice none 0 0]) (t := 45) ?hr ?_; (case hd => rfl); (case hg => rfl); (case hr => first | (go_simp; done) | (go_simp; rfl)); intro gb337 hg w30 hbox hb; have n0_ := zQ (Kd.S_below (by (with_reducible repeat (first | apply Kd.S_alloc | apply Kd.S_drewN | apply Kd.S_drew)); exact HO312.out) hb); have n1_ := zQ (Kd.R_below (zR HO315.out) hb); have n2_ := zQ (Kd.S_below (by (with_reducible repeat (first | apply Kd.S_alloc | apply Kd.S_drewN | apply Kd.S_drew)); exact HO318.out) hb); have n3_ := zQ (Kd.R_below (zR HO321.out) hb); have n4_ := zQ (Kd.S_below (by (with_reducible repeat (first | apply Kd.S_alloc | apply Kd.S_drewN | apply Kd.S_drew)); exact HO326.out) hb); have n5_ := zQ (Kd.R_below (zR HO329.out) hb); have n6_ := zQ (Kd.S_below (by (with_reducible repeat (first | apply Kd.S_alloc | apply Kd.S_drewN | apply Kd.S_drew)); exact HO332.out) hb); have n7_ := zQ (Kd.R_below (zR HO335.out) hb); have n8_ := zQ (zL BK323.out hb); have n9_ := zQ (below_step (zB HB.out) hb); have n10_ := zQ (hbox); have n11_ := zQ ((zG hg HB.out)); have n12_ := zQ ((zG hg HB.out)); have n13_ := zQ ((zN hg BK323.out)); have n14_ := zQ ((zM hg BK323.out)); clear HO312; clear HO315; clear HO318; clear HO321; clear HO326; clear HO329; clear HO332; clear HO335; clear BK323; clear HB; have HO312 := n0_; have HO315 := n1_; have HO318 := n2_; have HO321 := n3_; have HO326 := n4_; have HO329 := n5_; have HO332 := n6_; have HO335 := n7_; have BK323 := n8_; have HB := n9_; have BK337 := n10_; have GW337 := n11_; have GE337 := n12_; have NB323_337 := n13_; have NB337_323 := n14_; clear n0_ n1_ n2_ n3_ n4_ n5_ n6_ n7_ n8_ n9_ n10_ n11_ n12_ n13_ n14_; clear hb hbox hg; obtain ⟨Ao31, co31, eo31⟩ := Kd.S_slice HO332.out; subst eo31; have hnb32 := NB337_323.out; have hnc32 := NB323_337.out; obtain ⟨hcz33_0, hcz33_1, hfz33_0, hfz33_1⟩ := zc2 BK337.out; obtain ⟨Ao34, co34, eo34⟩ := Kd.R_slice HO335.out; subst eo34))
   (try simp only [Act.put, List.setIfInBounds_toArray, List.set_cons_zero, List.set_cons_succ])
   go_cut [55] (fun v55 wc => ∃ (kq : Nat) (x55_13 : Bool), v55 = .bool x55_13 ∧ Aside0 (laws_FnExactNewCore.j0 kq l0 l1 a2 t322 t324 t327 t336 x55_13 t316 t319 t330 t333 = some r) ∧ Aside0 (kq ≤ k) ∧ Aside0 (Kd.S k124 124 wc w.heap.size (fun _ => True) (.slice Ao27 t324.length co27) t324) ∧ Aside0 (Kd.R (Kd.int .i64) 3 wc w.heap.size (fun k_ => some k_ ≠ ((.slice Ao24 t319.length co24) : Value).ownBlock ∧ some k_ ≠ ((.slice Ao34 t333.length co34) : Value).ownBlock) (.slice Ao28 t327.length co28) t327) ∧ Aside0 (Kd.S k184 184 wc w.heap.size (fun k_ => some k_ ≠ ((.slice Ao28 t327.length co28) : Value).ownBlock ∧ some k_ ≠ ((.slice Ao24 t319.length co24) : Value).ownBlock ∧ some k_ ≠ ((.slice Ao31 t330.length co31) : Value).ownBlock ∧ some k_ ≠ ((.slice Ao34 t333.length co34) : Value).ownBlock) (.slice Ao22 t316.length co22) t316) ∧ Aside0 (Kd.R (Kd.int .i64) 3 wc w.heap.size (fun k_ => some k_ ≠ ((.slice Ao28 t327.length co28) : Value).ownBlock ∧ some k_ ≠ ((.slice Ao34 t333.length co34) : Value).ownBlock) (.slice Ao24 t319.length co24) t319) ∧ Aside0 (Kd.S k184 184 wc w.heap.size (fun k_ => some k_ ≠ ((.slice Ao28 t327.length co28) : Value).ownBlock ∧ some k_ ≠ ((.slice Ao22 t316.length co22) : Value).ownBlock ∧ some k_ ≠ ((.slice Ao24 t319.length co24) : Value).ownBlock ∧ some k_ ≠ ((.slice Ao34 t333.length co34) : Value).ownBlock) (.slice Ao31 t330.length co31) t330) ∧ Aside0 (Kd.R (Kd.int .i64) 3 wc w.heap.size (fun k_ => some k_ ≠ ((.slice Ao28 t327.length co28) : Value).ownBlock ∧ some k_ ≠ ((.slice Ao24 t319.length co24) : Value).ownBlock) (.slice Ao34 t333.length co34) t333) ∧ Aside0 (wc.heap[gb323]? = some (.cells #[(.slice Ao22 t316.length co22), (.slice Ao24 t319.length co24)] 45 (0, 0))) ∧ Aside0 (wc.heap[gb337]? = some (.cells #[(.slice Ao31 t330.length co31), (.slice Ao34 t333.length co34)] 45 (0, 0))) ∧ Aside0 (Below w.heap.size w wc))
   case first =>
    have H := HC14.out
    clear HC14
    replace H := Option.bind_eq_some_iff.mp H
    obtain ⟨t338, A350, H⟩ := H
    replace H : (if t338 = true then (laws_FnExactNewCore.j0 k l0 l1 a2 t322 t324 t327 t336 (t336 != t322) t316 t319 t330 t333) else (laws_FnExactNewCore.j0 k l0 l1 a2 t322 t324 t327 t336 true t316 t319 t330 t333)) = some r := H
    have A35 := zQ A350
    clear A350
    by_cases c36 : t338 = true
    ·subst c36
     have H1 : (laws_FnExactNewCore.j0 k l0 l1 a2 t322 t324 t327 t336 (t336 != t322) t316 t319 t330 t333) = some r := by rw [if_pos rfl] at H; exact H
     clear H
     have H := H1
     clear H1
     have H' := zQ H
     clear H
     have hnb37 := NB337_323.out
     have hnc37 := NB323_337.out
     obtain ⟨hcz38_0, hcz38_1, hfz38_0, hfz38_1⟩ := zc2 BK337.out
     obtain ⟨hcz39_0, hcz39_1, hfz39_0, hfz39_1⟩ := zc2 BK323.out
     go_wp2_with (first | ((with_reducible refine gate_callee (f := 31) rfl ?_); refine goesL_ (some 49) rfl rfl Try.func31 (by kernel_rfl) rfl #[.agg #[.slice Ao31 t330.length co31, .slice Ao34 t333.length co34], .agg #[.slice Ao22 t316.length co22, .slice Ao24 t319.length co24]] rfl zS ?_; (with_reducible refine (laws_eqCore.calls k _ _ t330 _ _ t333 _ _ t316 _ _ t319 true _ ?side1 ?side2 ?side3 ?side4 ?side5 ?side6 ?side7 ?side8 A35.out).mono ?_); (case side1 => refine (Kd.S_reads' (e := 184) (base := w.heap.size) (ok := fun k_ => ((((some k_ ≠ (.slice Ao34 t333.length co34 : Value).ownBlock ∧ some k_ ≠ (.slice Ao19 t313.length co19 : Value).ownBlock) ∧ some k_ ≠ (.slice Ao22 t316.length co22 : Value).ownBlock) ∧ some k_ ≠ (.slice Ao24 t319.length co24 : Value).ownBlock) ∧ some k_ ≠ (.slice Ao28 t327.length co28 : Value).ownBlock)) (n := t330.length) (c := co31) ?_).2.2; exact (by (with_reducible repeat (first | apply Kd.S_alloc | apply Kd.S_drewN | apply Kd.S_drew)); exact (zSf2 HO332.out BK337.out (by decide)))); (case side2 => exact (Kd.S_reads' HO332.out).2.1); (case side3 => refine (Kd.R_reads' (e := 3) (base := w.heap.size) (ok := fun k_ => (((True ∧ some k_ ≠ (.slice Ao19 t313.length co19 : Value).ownBlock) ∧ some k_ ≠ (.slice Ao24 t319.length co24 : Value).ownBlock) ∧ some k_ ≠ (.slice Ao28 t327.length co28 : Value).ownBlock)) (n := t333.length) (c := co34) ?_).2.2; exact (by (with_reducible repeat (first | apply Kd.R_alloc | apply Kd.R_drewN | apply Kd.R_drew)); exact (zRf2 HO335.out BK337.out (by decide)))); (case side4 => exact (Kd.R_reads' HO335.out).2.1); (case side5 => refine (Kd.S_reads' (e := 184) (base := w.heap.size) (ok := fun k_ => ((((some k_ ≠ (.slice Ao24 t319.length co24 : Value).ownBlock ∧ some k_ ≠ (.slice Ao19 t313.length co19 : Value).ownBlock) ∧ some k_ ≠ (.slice Ao28 t327.length co28 : Value).ownBlock) ∧ some k_ ≠ (.slice Ao31 t330.length co31 : Value).ownBlock) ∧ some k_ ≠ (.slice Ao34 t333.length co34 : Value).ownBlock)) (n := t316.length) (c := co22) ?_).2.2; exact (by (with_reducible repeat (first | apply Kd.S_alloc | apply Kd.S_drewN | apply Kd.S_drew)); exact (zSf2 HO318.out BK337.out (by decide)))); (case side6 => exact (Kd.S_reads' HO318.out).2.1); (case side7 => refine (Kd.R_reads' (e := 3) (base := w.heap.size) (ok := fun k_ => (((True ∧ some k_ ≠ (.slice Ao19 t313.length co19 : Value).ownBlock) ∧ some k_ ≠ (.slice Ao28 t327.length co28 : Value).ownBlock) ∧ some k_ ≠ (.slice Ao34 t333.length co34 : Value).ownBlock)) (n := t319.length) (c := co24) ?_).2.2; exact (by (with_reducible repeat (first | apply Kd.R_alloc | apply Kd.R_drewN | apply Kd.R_drew)); exact (zRf2 HO321.out BK337.out (by decide)))); (case side8 => exact (Kd.R_reads' HO321.out).2.1); rintro e w40 ⟨rfl, hb⟩; refine ⟨_, rfl, ?_⟩; have n0_ := zQ (Kd.S_below (by (with_reducible repeat (first | apply Kd.S_alloc | apply Kd.S_drewN | apply Kd.S_drew)); exact (zSf2 HO312.out BK337.out (by decide))) hb); have n1_ := zQ (Kd.R_below (by (with_reducible repeat (first | apply Kd.R_alloc | apply Kd.R_drewN | apply Kd.R_drew)); exact (zRf2 HO315.out BK337.out (by decide))) hb); have n2_ := zQ (Kd.S_below (by (with_reducible repeat (first | apply Kd.S_alloc | apply Kd.S_drewN | apply Kd.S_drew)); exact (zSf2 HO318.out BK337.out (by decide))) hb); have n3_ := zQ (Kd.R_below (by (with_reducible repeat (first | apply Kd.R_alloc | apply Kd.R_drewN | apply Kd.R_drew)); exact (zRf2 HO321.out BK337.out (by decide))) hb); have n4_ := zQ (Kd.S_below (by (with_reducible repeat (first | apply Kd.S_alloc | apply Kd.S_drewN | apply Kd.S_drew)); exact (zSf2 HO326.out BK337.out (by decide))) hb); have n5_ := zQ (Kd.R_below (by (with_reducible repeat (first | apply Kd.R_alloc | apply Kd.R_drewN | apply Kd.R_drew)); exact (zRf2 HO329.out BK337.out (by decide))) hb); have n6_ := zQ (Kd.S_below (by (with_reducible repeat (first | apply Kd.S_alloc | apply Kd.S_drewN | apply Kd.S_drew)); exact (zSf2 HO332.out BK337.out (by decide))) hb); have n7_ := zQ (Kd.R_below (by (with_reducible repeat (first | apply Kd.R_alloc | apply Kd.R_drewN | apply Kd.R_drew)); exact (zRf2 HO335.out BK337.out (by decide))) hb); have n8_ := zQ (zL BK323.out hb); have n9_ := zQ (blk_below (g := gb337) (o := .cells #[.slice Ao31 t330.length co31, .slice Ao34 t333.length co34] 45 (0, 0)) (zP BK337.out) hb); have n10_ := zQ (below_step (zB HB.out) hb); clear HO312; clear HO315; clear HO318; clear HO321; clear HO326; clear HO329; clear HO332; clear HO335; clear BK323; clear BK337; clear HB; have HO312 := n0_; have HO315 := n1_; have HO318 := n2_; have HO321 := n3_; have HO326 := n4_; have HO329 := n5_; have HO332 := n6_; have HO335 := n7_; have BK323 := n8_; have BK337 := n9_; have HB := n10_; clear n0_ n1_ n2_ n3_ n4_ n5_ n6_ n7_ n8_ n9_ n10_; (try clear hb); (try clear hb2); (try clear hk); (try clear hi)))
     go_meet
     case rel => exact ⟨_, ((t336 != t322)), (by first | rfl | (simp; done) | (simp [*]; done)), H', ⟨by first | omega | exact Nat.le_refl _⟩, ⟨by (with_reducible repeat (first | apply Kd.S_alloc | apply Kd.S_drewN | apply Kd.S_drew)); exact Kd.S_mono HO326.out (fun _ hk => trivial)⟩, ⟨by (with_reducible repeat (first | apply Kd.R_alloc | apply Kd.R_drewN | apply Kd.R_drew)); exact Kd.R_mono HO329.out (fun _ hk => ⟨hk.1.2, hk.2⟩)⟩, ⟨by (with_reducible repeat (first | apply Kd.S_alloc | apply Kd.S_drewN | apply Kd.S_drew)); exact Kd.S_mono HO318.out (fun _ hk => ⟨hk.1.1.2, ⟨hk.1.1.1.1, ⟨hk.1.2, hk.2⟩⟩⟩)⟩, ⟨by (with_reducible repeat (first | apply Kd.R_alloc | apply Kd.R_drewN | apply Kd.R_drew)); exact Kd.R_mono HO321.out (fun _ hk => ⟨hk.1.2, hk.2⟩)⟩, ⟨by (with_reducible repeat (first | apply Kd.S_alloc | apply Kd.S_drewN | apply Kd.S_drew)); exact Kd.S_mono HO332.out (fun _ hk => ⟨hk.2, ⟨hk.1.1.2, ⟨hk.1.2, hk.1.1.1.1⟩⟩⟩)⟩, ⟨by (with_reducible repeat (first | apply Kd.R_alloc | apply Kd.R_drewN | apply Kd.R_drew)); exact Kd.R_mono HO335.out (fun _ hk => ⟨hk.2, hk.1.2⟩)⟩, ⟨by (with_reducible repeat (first | refine blk_drewN ?_ _ | refine blk_drew ?_ | refine blk_alloc ?_ _)); exact BK323.out⟩, ⟨by (with_reducible repeat (first | refine blk_drewN ?_ _ | refine blk_drew ?_ | refine blk_alloc ?_ _)); exact BK337.out⟩, ⟨zB HB.out⟩⟩
    ·replace c36 := Bool.eq_false_iff.mpr c36
     subst c36
     have H1 : (laws_FnExactNewCore.j0 k l0 l1 a2 t322 t324 t327 t336 true t316 t319 t330 t333) = some r := by rw [if_neg (show ¬ (false = true) by decide)] at H; exact H
     clear H
     have H := H1
     clear H1
     have H' := zQ H
     clear H
     have hnb41 := NB337_323.out
     have hnc41 := NB323_337.out
     obtain ⟨hcz42_0, hcz42_1, hfz42_0, hfz42_1⟩ := zc2 BK337.out
     obtain ⟨hcz43_0, hcz43_1, hfz43_0, hfz43_1⟩ := zc2 BK323.out
     go_wp2_with (first | ((with_reducible refine gate_callee (f := 31) rfl ?_); refine goesL_ (some 49) rfl rfl Try.func31 (by kernel_rfl) rfl #[.agg #[.slice Ao31 t330.length co31, .slice Ao34 t333.length co34], .agg #[.slice Ao22 t316.length co22, .slice Ao24 t319.length co24]] rfl zS ?_; (with_reducible refine (laws_eqCore.calls k _ _ t330 _ _ t333 _ _ t316 _ _ t319 false _ ?side1 ?side2 ?side3 ?side4 ?side5 ?side6 ?side7 ?side8 A35.out).mono ?_); (case side1 => refine (Kd.S_reads' (e := 184) (base := w.heap.size) (ok := fun k_ => ((((some k_ ≠ (.slice Ao34 t333.length co34 : Value).ownBlock ∧ some k_ ≠ (.slice Ao19 t313.length co19 : Value).ownBlock) ∧ some k_ ≠ (.slice Ao22 t316.length co22 : Value).ownBlock) ∧ some k_ ≠ (.slice Ao24 t319.length co24 : Value).ownBlock) ∧ some k_ ≠ (.slice Ao28 t327.length co28 : Value).ownBlock)) (n := t330.length) (c := co31) ?_).2.2; exact (by (with_reducible repeat (first | apply Kd.S_alloc | apply Kd.S_drewN | apply Kd.S_drew)); exact (zSf2 HO332.out BK337.out (by decide)))); (case side2 => exact (Kd.S_reads' HO332.out).2.1); (case side3 => refine (Kd.R_reads' (e := 3) (base := w.heap.size) (ok := fun k_ => (((True ∧ some k_ ≠ (.slice Ao19 t313.length co19 : Value).ownBlock) ∧ some k_ ≠ (.slice Ao24 t319.length co24 : Value).ownBlock) ∧ some k_ ≠ (.slice Ao28 t327.length co28 : Value).ownBlock)) (n := t333.length) (c := co34) ?_).2.2; exact (by (with_reducible repeat (first | apply Kd.R_alloc | apply Kd.R_drewN | apply Kd.R_drew)); exact (zRf2 HO335.out BK337.out (by decide)))); (case side4 => exact (Kd.R_reads' HO335.out).2.1); (case side5 => refine (Kd.S_reads' (e := 184) (base := w.heap.size) (ok := fun k_ => ((((some k_ ≠ (.slice Ao24 t319.length co24 : Value).ownBlock ∧ some k_ ≠ (.slice Ao19 t313.length co19 : Value).ownBlock) ∧ some k_ ≠ (.slice Ao28 t327.length co28 : Value).ownBlock) ∧ some k_ ≠ (.slice Ao31 t330.length co31 : Value).ownBlock) ∧ some k_ ≠ (.slice Ao34 t333.length co34 : Value).ownBlock)) (n := t316.length) (c := co22) ?_).2.2; exact (by (with_reducible repeat (first | apply Kd.S_alloc | apply Kd.S_drewN | apply Kd.S_drew)); exact (zSf2 HO318.out BK337.out (by decide)))); (case side6 => exact (Kd.S_reads' HO318.out).2.1); (case side7 => refine (Kd.R_reads' (e := 3) (base := w.heap.size) (ok := fun k_ => (((True ∧ some k_ ≠ (.slice Ao19 t313.length co19 : Value).ownBlock) ∧ some k_ ≠ (.slice Ao28 t327.length co28 : Value).ownBlock) ∧ some k_ ≠ (.slice Ao34 t333.length co34 : Value).ownBlock)) (n := t319.length) (c := co24) ?_).2.2; exact (by (with_reducible repeat (first | apply Kd.R_alloc | apply Kd.R_drewN | apply Kd.R_drew)); exact (zRf2 HO321.out BK337.out (by decide)))); (case side8 => exact (Kd.R_reads' HO321.out).2.1); rintro e w44 ⟨rfl, hb⟩; refine ⟨_, rfl, ?_⟩; have n0_ := zQ (Kd.S_below (by (with_reducible repeat (first | apply Kd.S_alloc | apply Kd.S_drewN | apply Kd.S_drew)); exact (zSf2 HO312.out BK337.out (by decide))) hb); have n1_ := zQ (Kd.R_below (by (with_reducible repeat (first | apply Kd.R_alloc | apply Kd.R_drewN | apply Kd.R_drew)); exact (zRf2 HO315.out BK337.out (by decide))) hb); have n2_ := zQ (Kd.S_below (by (with_reducible repeat (first | apply Kd.S_alloc | apply Kd.S_drewN | apply Kd.S_drew)); exact (zSf2 HO318.out BK337.out (by decide))) hb); have n3_ := zQ (Kd.R_below (by (with_reducible repeat (first | apply Kd.R_alloc | apply Kd.R_drewN | apply Kd.R_drew)); exact (zRf2 HO321.out BK337.out (by decide))) hb); have n4_ := zQ (Kd.S_below (by (with_reducible repeat (first | apply Kd.S_alloc | apply Kd.S_drewN | apply Kd.S_drew)); exact (zSf2 HO326.out BK337.out (by decide))) hb); have n5_ := zQ (Kd.R_below (by (with_reducible repeat (first | apply Kd.R_alloc | apply Kd.R_drewN | apply Kd.R_drew)); exact (zRf2 HO329.out BK337.out (by decide))) hb); have n6_ := zQ (Kd.S_below (by (with_reducible repeat (first | apply Kd.S_alloc | apply Kd.S_drewN | apply Kd.S_drew)); exact (zSf2 HO332.out BK337.out (by decide))) hb); have n7_ := zQ (Kd.R_below (by (with_reducible repeat (first | apply Kd.R_alloc | apply Kd.R_drewN | apply Kd.R_drew)); exact (zRf2 HO335.out BK337.out (by decide))) hb); have n8_ := zQ (zL BK323.out hb); have n9_ := zQ (blk_below (g := gb337) (o := .cells #[.slice Ao31 t330.length co31, .slice Ao34 t333.length co34] 45 (0, 0)) (zP BK337.out) hb); have n10_ := zQ (below_step (zB HB.out) hb); clear HO312; clear HO315; clear HO318; clear HO321; clear HO326; clear HO329; clear HO332; clear HO335; clear BK323; clear BK337; clear HB; have HO312 := n0_; have HO315 := n1_; have HO318 := n2_; have HO321 := n3_; have HO326 := n4_; have HO329 := n5_; have HO332 := n6_; have HO335 := n7_; have BK323 := n8_; have BK337 := n9_; have HB := n10_; clear n0_ n1_ n2_ n3_ n4_ n5_ n6_ n7_ n8_ n9_ n10_; (try clear hb); (try clear hb2); (try clear hk); (try clear hi)))
     go_meet
     case rel => exact ⟨_, (true), (by first | rfl | (simp; done) | (simp [*]; done)), H', ⟨by first | omega | exact Nat.le_refl _⟩, ⟨by (with_reducible repeat (first | apply Kd.S_alloc | apply Kd.S_drewN | apply Kd.S_drew)); exact Kd.S_mono HO326.out (fun _ hk => trivial)⟩, ⟨by (with_reducible repeat (first | apply Kd.R_alloc | apply Kd.R_drewN | apply Kd.R_drew)); exact Kd.R_mono HO329.out (fun _ hk => ⟨hk.1.2, hk.2⟩)⟩, ⟨by (with_reducible repeat (first | apply Kd.S_alloc | apply Kd.S_drewN | apply Kd.S_drew)); exact Kd.S_mono HO318.out (fun _ hk => ⟨hk.1.1.2, ⟨hk.1.1.1.1, ⟨hk.1.2, hk.2⟩⟩⟩)⟩, ⟨by (with_reducible repeat (first | apply Kd.R_alloc | apply Kd.R_drewN | apply Kd.R_drew)); exact Kd.R_mono HO321.out (fun _ hk => ⟨hk.1.2, hk.2⟩)⟩, ⟨by (with_reducible repeat (first | apply Kd.S_alloc | apply Kd.S_drewN | apply Kd.S_drew)); exact Kd.S_mono HO332.out (fun _ hk => ⟨hk.2, ⟨hk.1.1.2, ⟨hk.1.2, hk.1.1.1.1⟩⟩⟩)⟩, ⟨by (with_reducible repeat (first | apply Kd.R_alloc | apply Kd.R_drewN | apply Kd.R_drew)); exact Kd.R_mono HO335.out (fun _ hk => ⟨hk.2, hk.1.2⟩)⟩, ⟨by (with_reducible repeat (first | refine blk_drewN ?_ _ | refine blk_drew ?_ | refine blk_alloc ?_ _)); exact BK323.out⟩, ⟨by (with_reducible repeat (first | refine blk_drewN ?_ _ | refine blk_drew ?_ | refine blk_alloc ?_ _)); exact BK337.out⟩, ⟨zB HB.out⟩⟩
   case rest =>
    clear HC14
    try clear c1
    try clear c2
    try clear p2
    try clear c3
    try clear c4
    try clear c4b0
    try clear c4b1
    try clear c5
    try clear c6
    try clear c6b0
    try clear c15
    try clear c27
    try clear c28
    try clear c29
    try clear c30
    try clear c31
    try clear c32
    try clear c36
    try clear c37
    try clear c41
    try clear hcz23_0
    try clear hcz23_1
    try clear hcz33_0
    try clear hcz33_1
    try clear hcz38_0
    try clear hcz38_1
    try clear hcz39_0
    try clear hcz39_1
    try clear hcz42_0
    try clear hcz42_1
    try clear hcz43_0
    try clear hcz43_1
    try clear hfz23_0
    try clear hfz23_1
    try clear hfz33_0
    try clear hfz33_1
    try clear hfz38_0
    try clear hfz38_1
    try clear hfz39_0
    try clear hfz39_1
    try clear hfz42_0
    try clear hfz42_1
    try clear hfz43_0
    try clear hfz43_1
    obtain ⟨kq, x55_13, rfl, HA, HJ13, HO_10, HO_11, HO_324000, HO_324001, HO_338000, HO_338001, BK323, BK337, HB⟩ := hcut
    cases kq with
    | zero => exact absurd HA.out (by simp [laws_FnExactNewCore.j0])
    | succ kj13 =>
     have H := HA.out
     clear HA
     simp only [laws_FnExactNewCore.j0] at H
     by_cases c45 : x55_13 = true
     ·subst c45
      have H1 : (some false) = some r := by rw [if_pos rfl] at H; exact H
      clear H
      have H := H1
      clear H1
      exact absurd ((Option.some.inj H).trans hlaw_.out) (by decide)
     ·replace c45 := Bool.eq_false_iff.mpr c45
      subst c45
      have H1 : ((laws_toRoutineS.f kj13 l0).bind fun t339 => ((laws_eqRoutineS.f kj13 t324 t339).bind fun t342 => (if t342 = true then ((laws_toIntS.f kj13 l1).bind fun t343 => ((laws_eqIntS.f kj13 t327 t343).bind fun t346 => (if t346 = true then ((laws_markRoutineS.f t324 1).bind fun t347 => ((laws_markIntS.f kj13 t327 t347).bind fun bt348 => (if bt348.1 < 0 then (laws_FnExactNewCore.j1 kj13 l0 l1 a2 t322 true t316 t319 t330 t333) else ((laws_eqCore.f kj13 t330 t333 t316 t319).bind fun t350 => (if t350 = true then (laws_FnExactNewCore.j1 kj13 l0 l1 a2 t322 (t336 != t322) t316 t319 t330 t333) else (laws_FnExactNewCore.j1 kj13 l0 l1 a2 t322 true t316 t319 t330 t333)))))) else (some false)))) else (some false)))) = some r := by rw [if_neg (show ¬ (false = true) by decide)] at H; exact H
      clear H
      have H := H1
      clear H1
      replace H := Option.bind_eq_some_iff.mp H
      obtain ⟨t339, A460, H⟩ := H
      replace H : ((laws_eqRoutineS.f kj13 t324 t339).bind fun t342 => (if t342 = true then ((laws_toIntS.f kj13 l1).bind fun t343 => ((laws_eqIntS.f kj13 t327 t343).bind fun t346 => (if t346 = true then ((laws_markRoutineS.f t324 1).bind fun t347 => ((laws_markIntS.f kj13 t327 t347).bind fun bt348 => (if bt348.1 < 0 then (laws_FnExactNewCore.j1 kj13 l0 l1 a2 t322 true t316 t319 t330 t333) else ((laws_eqCore.f kj13 t330 t333 t316 t319).bind fun t350 => (if t350 = true then (laws_FnExactNewCore.j1 kj13 l0 l1 a2 t322 (t336 != t322) t316 t319 t330 t333) else (laws_FnExactNewCore.j1 kj13 l0 l1 a2 t322 true t316 t319 t330 t333)))))) else (some false)))) else (some false))) = some r := H
      have A46 := zQ A460
      clear A460
      replace H := Option.bind_eq_some_iff.mp H
      obtain ⟨t342, A470, H⟩ := H
      replace H : (if t342 = true then ((laws_toIntS.f kj13 l1).bind fun t343 => ((laws_eqIntS.f kj13 t327 t343).bind fun t346 => (if t346 = true then ((laws_markRoutineS.f t324 1).bind fun t347 => ((laws_markIntS.f kj13 t327 t347).bind fun bt348 => (if bt348.1 < 0 then (laws_FnExactNewCore.j1 kj13 l0 l1 a2 t322 true t316 t319 t330 t333) else ((laws_eqCore.f kj13 t330 t333 t316 t319).bind fun t350 => (if t350 = true then (laws_FnExactNewCore.j1 kj13 l0 l1 a2 t322 (t336 != t322) t316 t319 t330 t333) else (laws_FnExactNewCore.j1 kj13 l0 l1 a2 t322 true t316 t319 t330 t333)))))) else (some false)))) else (some false)) = some r := H
      have A47 := zQ A470
      clear A470
      by_cases c48 : t342 = true
      ·subst c48
       have H1 : ((laws_toIntS.f kj13 l1).bind fun t343 => ((laws_eqIntS.f kj13 t327 t343).bind fun t346 => (if t346 = true then ((laws_markRoutineS.f t324 1).bind fun t347 => ((laws_markIntS.f kj13 t327 t347).bind fun bt348 => (if bt348.1 < 0 then (laws_FnExactNewCore.j1 kj13 l0 l1 a2 t322 true t316 t319 t330 t333) else ((laws_eqCore.f kj13 t330 t333 t316 t319).bind fun t350 => (if t350 = true then (laws_FnExactNewCore.j1 kj13 l0 l1 a2 t322 (t336 != t322) t316 t319 t330 t333) else (laws_FnExactNewCore.j1 kj13 l0 l1 a2 t322 true t316 t319 t330 t333)))))) else (some false)))) = some r := by rw [if_pos rfl] at H; exact H
       clear H
       have H := H1
       clear H1
       replace H := Option.bind_eq_some_iff.mp H
       obtain ⟨t343, A490, H⟩ := H
       replace H : ((laws_eqIntS.f kj13 t327 t343).bind fun t346 => (if t346 = true then ((laws_markRoutineS.f t324 1).bind fun t347 => ((laws_markIntS.f kj13 t327 t347).bind fun bt348 => (if bt348.1 < 0 then (laws_FnExactNewCore.j1 kj13 l0 l1 a2 t322 true t316 t319 t330 t333) else ((laws_eqCore.f kj13 t330 t333 t316 t319).bind fun t350 => (if t350 = true then (laws_FnExactNewCore.j1 kj13 l0 l1 a2 t322 (t336 != t322) t316 t319 t330 t333) else (laws_FnExactNewCore.j1 kj13 l0 l1 a2 t322 true t316 t319 t330 t333)))))) else (some false))) = some r := H
       have A49 := zQ A490
       clear A490
       replace H := Option.bind_eq_some_iff.mp H
       obtain ⟨t346, A500, H⟩ := H
       replace H : (if t346 = true then ((laws_markRoutineS.f t324 1).bind fun t347 => ((laws_markIntS.f kj13 t327 t347).bind fun bt348 => (if bt348.1 < 0 then (laws_FnExactNewCore.j1 kj13 l0 l1 a2 t322 true t316 t319 t330 t333) else ((laws_eqCore.f kj13 t330 t333 t316 t319).bind fun t350 => (if t350 = true then (laws_FnExactNewCore.j1 kj13 l0 l1 a2 t322 (t336 != t322) t316 t319 t330 t333) else (laws_FnExactNewCore.j1 kj13 l0 l1 a2 t322 true t316 t319 t330 t333)))))) else (some false)) = some r := H
       have A50 := zQ A500
       clear A500
       by_cases c51 : t346 = true
       ·subst c51
        have H1 : ((laws_markRoutineS.f t324 1).bind fun t347 => ((laws_markIntS.f kj13 t327 t347).bind fun bt348 => (if bt348.1 < 0 then (laws_FnExactNewCore.j1 kj13 l0 l1 a2 t322 true t316 t319 t330 t333) else ((laws_eqCore.f kj13 t330 t333 t316 t319).bind fun t350 => (if t350 = true then (laws_FnExactNewCore.j1 kj13 l0 l1 a2 t322 (t336 != t322) t316 t319 t330 t333) else (laws_FnExactNewCore.j1 kj13 l0 l1 a2 t322 true t316 t319 t330 t333)))))) = some r := by rw [if_pos rfl] at H; exact H
        clear H
        have H := H1
        clear H1
        replace H := Option.bind_eq_some_iff.mp H
        obtain ⟨t347, A520, H⟩ := H
        replace H : ((laws_markIntS.f kj13 t327 t347).bind fun bt348 => (if bt348.1 < 0 then (laws_FnExactNewCore.j1 kj13 l0 l1 a2 t322 true t316 t319 t330 t333) else ((laws_eqCore.f kj13 t330 t333 t316 t319).bind fun t350 => (if t350 = true then (laws_FnExactNewCore.j1 kj13 l0 l1 a2 t322 (t336 != t322) t316 t319 t330 t333) else (laws_FnExactNewCore.j1 kj13 l0 l1 a2 t322 true t316 t319 t330 t333))))) = some r := H
        have A52 := zQ A520
        clear A520
        replace H := Option.bind_eq_some_iff.mp H
        obtain ⟨⟨t348, t349⟩, A530, H⟩ := H
        replace H : (if t348 < 0 then (laws_FnExactNewCore.j1 kj13 l0 l1 a2 t322 true t316 t319 t330 t333) else ((laws_eqCore.f kj13 t330 t333 t316 t319).bind fun t350 => (if t350 = true then (laws_FnExactNewCore.j1 kj13 l0 l1 a2 t322 (t336 != t322) t316 t319 t330 t333) else (laws_FnExactNewCore.j1 kj13 l0 l1 a2 t322 true t316 t319 t330 t333)))) = some r := H
        have A53 := zQ A530
        clear A530
        have HC54 := zQ H
        clear H
        go_upto_region 20 with (first | ((with_reducible refine gate_callee (f := 29) rfl ?_); refine goesL_ (some 58) rfl rfl Try.func29 (by kernel_rfl) rfl #[.slice A0 l0.length c0] rfl zS ?_; (with_reducible refine (laws_toRoutineS.calls kj13 _ _ l0 t339 _ ?side1 ?side2 A46.out).mono ?_); (case side1 => exact zE HR0 HB); (case side2 => exact HC0.out); rintro e w55 ⟨v340, rfl, ho0, hb⟩; refine ⟨_, rfl, ?_⟩; have n0_ := zQ (Kd.S_elder' (by (with_reducible repeat (first | apply Kd.S_alloc | apply Kd.S_drewN | apply Kd.S_drew)); exact HO_10.out) (Kd.S_base ho0) hb); have n1_ := zQ (Kd.R_below (zR HO_11.out) hb); have n2_ := zQ (Kd.S_below (by (with_reducible repeat (first | apply Kd.S_alloc | apply Kd.S_drewN | apply Kd.S_drew)); exact HO_324000.out) hb); have n3_ := zQ (Kd.R_below (zR HO_324001.out) hb); have n4_ := zQ (Kd.S_below (by (with_reducible repeat (first | apply Kd.S_alloc | apply Kd.S_drewN | apply Kd.S_drew)); exact HO_338000.out) hb); have n5_ := zQ (Kd.R_below (zR HO_338001.out) hb); have n6_ := zQ (Kd.S_lower (Kd.S_new' ho0 (Kd.S_lt (by (with_reducible repeat (first | apply Kd.S_alloc | apply Kd.S_drewN | apply Kd.S_drew)); exact HO_10.out))) (below_size (zB HB.out))); have n7_ := zQ (zL BK323.out hb); have n8_ := zQ (zL BK337.out hb); have n9_ := zQ (below_step (zB HB.out) hb); clear HO_10; clear HO_11; clear HO_324000; clear HO_324001; clear HO_338000; clear HO_338001; clear BK323; clear BK337; clear HB; have HO_10 := n0_; have HO_11 := n1_; have HO_324000 := n2_; have HO_324001 := n3_; have HO_338000 := n4_; have HO_338001 := n5_; have HO341 := n6_; have BK323 := n7_; have BK337 := n8_; have HB := n9_; clear n0_ n1_ n2_ n3_ n4_ n5_ n6_ n7_ n8_ n9_; (try clear hb); (try clear hb2); (try clear hk); (try clear hi); (try clear ho0); obtain ⟨Ao56, co56, eo56⟩ := Kd.S_slice HO341.out; subst eo56) | ((with_reducible refine gate_callee (f := 32) rfl ?_); refine goesL_ (some 59) rfl rfl Try.func32 (by kernel_rfl) rfl #[.slice Ao27 t324.length co27, .slice Ao56 t339.length co56] rfl zS ?_; (with_reducible refine (laws_eqRoutineS.calls kj13 _ _ t324 _ _ t339 true _ ?side1 ?side2 ?side3 ?side4 A47.out).mono ?_); (case side1 => repeat (first | exact (Kd.S_reads' HO_10.out).2.2 | (with_reducible refine Kd.C_alloc ?_ _) | (with_reducible refine Kd.C_drewN ?_ _) | (with_reducible refine Kd.C_drew ?_))); (case side2 => exact (Kd.S_reads' HO_10.out).2.1); (case side3 => repeat (first | exact (Kd.S_reads' HO341.out).2.2 | (with_reducible refine Kd.C_alloc ?_ _) | (with_reducible refine Kd.C_drewN ?_ _) | (with_reducible refine Kd.C_drew ?_))); (case side4 => exact (Kd.S_reads' HO341.out).2.1); rintro e w57 ⟨rfl, hb⟩; refine ⟨_, rfl, ?_⟩; have n0_ := zQ (Kd.S_below (by (with_reducible repeat (first | apply Kd.S_alloc | apply Kd.S_drewN | apply Kd.S_drew)); exact HO_10.out) hb); have n1_ := zQ (Kd.R_below (zR HO_11.out) hb); have n2_ := zQ (Kd.S_below (by (with_reducible repeat (first | apply Kd.S_alloc | apply Kd.S_drewN | apply Kd.S_drew)); exact HO_324000.out) hb); have n3_ := zQ (Kd.R_below (zR HO_324001.out) hb); have n4_ := zQ (Kd.S_below (by (with_reducible repeat (first | apply Kd.S_alloc | apply Kd.S_drewN | apply Kd.S_drew)); exact HO_338000.out) hb); have n5_ := zQ (Kd.R_below (zR HO_338001.out) hb); have n6_ := trivial; have n7_ := zQ (zL BK323.out hb); have n8_ := zQ (zL BK337.out hb); have n9_ := zQ (below_step (zB HB.out) hb); clear HO_10; clear HO_11; clear HO_324000; clear HO_324001; clear HO_338000; clear HO_338001; clear HO341; clear BK323; clear BK337; clear HB; have HO_10 := n0_; have HO_11 := n1_; have HO_324000 := n2_; have HO_324001 := n3_; have HO_338000 := n4_; have HO_338001 := n5_; have HO341 := n6_; have BK323 := n7_; have BK337 := n8_; have HB := n9_; clear n0_ n1_ n2_ n3_ n4_ n5_ n6_ n7_ n8_ n9_; (try clear hb); (try clear hb2); (try clear hk); (try clear hi)) | ((with_reducible refine gate_callee (f := 15) rfl ?_); refine goesL_ (some 63) rfl rfl Try.func15 (by kernel_rfl) rfl #[.slice A1 l1.length c1] rfl zS ?_; (with_reducible refine (laws_toIntS.calls kj13 _ _ l1 t343 _ ?side1 ?side2 A49.out).mono ?_); (case side1 => exact zE HR1 HB); (case side2 => exact HC1.out); rintro e w58 ⟨v344, rfl, ho0, hb⟩; refine ⟨_, rfl, ?_⟩; have n0_ := zQ (Kd.S_below (by (with_reducible repeat (first | apply Kd.S_alloc | apply Kd.S_drewN | apply Kd.S_drew)); exact HO_10.out) hb); have n1_ := zQ (Kd.R_elder' (zR HO_11.out) (Kd.R_base ho0) hb); have n2_ := zQ (Kd.S_elder' (by (with_reducible repeat (first | apply Kd.S_alloc | apply Kd.S_drewN | apply Kd.S_drew)); exact HO_324000.out) (Kd.R_base ho0) hb); have n3_ := zQ (Kd.R_elder' (zR HO_324001.out) (Kd.R_base ho0) hb); have n4_ := zQ (Kd.S_elder' (by (with_reducible repeat (first | apply Kd.S_alloc | apply Kd.S_drewN | apply Kd.S_drew)); exact HO_338000.out) (Kd.R_base ho0) hb); have n5_ := zQ (Kd.R_elder' (zR HO_338001.out) (Kd.R_base ho0) hb); have n6_ := trivial; have n7_ := zQ (Kd.R_lower (Kd.R_new' (Kd.R_new' (Kd.R_new' ho0 (Kd.R_lt (zR HO_11.out))) (Kd.R_lt (zR HO_324001.out))) (Kd.R_lt (zR HO_338001.out))) (below_size (zB HB.out))); have n8_ := zQ (zL BK323.out hb); have n9_ := zQ (zL BK337.out hb); have n10_ := zQ (below_step (zB HB.out) hb); clear HO_10; clear HO_11; clear HO_324000; clear HO_324001; clear HO_338000; clear HO_338001; clear HO341; clear BK323; clear BK337; clear HB; have HO_10 := n0_; have HO_11 := n1_; have HO_324000 := n2_; have HO_324001 := n3_; have HO_338000 := n4_; have HO_338001 := n5_; have HO341 := n6_; have HO345 := n7_; have BK323 := n8_; have BK337 := n9_; have HB := n10_; clear n0_ n1_ n2_ n3_ n4_ n5_ n6_ n7_ n8_ n9_ n10_; (try clear hb); (try clear hb2); (try clear hk); (try clear hi); (try clear ho0); obtain ⟨Ao59, co59, eo59⟩ := Kd.R_slice HO345.out; subst eo59) | ((with_reducible refine gate_callee (f := 19) rfl ?_); refine goesL_ (some 64) rfl rfl Try.func19 (by kernel_rfl) rfl #[.slice Ao28 t327.length co28, .slice Ao59 t343.length co59] rfl zS ?_; (with_reducible refine (laws_eqIntS.calls kj13 _ _ t327 _ _ t343 true _ ?side1 ?side2 ?side3 ?side4 A50.out).mono ?_); (case side1 => exact zC (Kd.R_reads' HO_11.out).2.2); (case side2 => exact (Kd.R_reads' HO_11.out).2.1); (case side3 => exact zC (Kd.R_reads' HO345.out).2.2); (case side4 => exact (Kd.R_reads' HO345.out).2.1); rintro e w' ⟨rfl, ⟨nd, rfl⟩⟩; refine ⟨_, rfl, ?_⟩) | ((with_reducible refine gate_callee (f := 33) rfl ?_); refine goesL_ (some 68) rfl rfl Try.func33 (by kernel_rfl) rfl #[.slice Ao27 t324.length co27, .int .i64 1] rfl zS ?_; (with_reducible refine (laws_markRoutineS.calls (fun k_ => (True ∧ some k_ ≠ (.slice Ao56 t339.length co56 : Value).ownBlock)) (.slice Ao27 t324.length co27) t324 1 t347 w _ ?side1 ?side2 A52.out).mono ?_); (case side1 => repeat (first | (with_reducible first | exact HB.out | apply below_alloc | apply pw_below_drewN | apply below_drew1 | refine below_set ?_ GE323.out | refine below_set ?_ GE337.out) | exact HB.out)); (case side2 => exact HO_10.out); rintro e w60 ⟨rfl, hb, hkp⟩; refine ⟨_, rfl, ?_⟩; have n0_ := zQ (Kd.R_mono (ok' := fun k_ => some k_ ≠ (.slice Ao24 t319.length co24 : Value).ownBlock ∧ some k_ ≠ (.slice Ao34 t333.length co34 : Value).ownBlock ∧ some k_ ≠ (.slice Ao59 t343.length co59 : Value).ownBlock) (Kd.R_keptB ((ty_R HO_11.out)) hkp (fun k_ hk_ hs_ => (fun e_ => TyIn.no hk_.2 e_.2 (by decide)) hs_)) (fun k_ hk_ => ⟨hk_.1.1.1.1, hk_.1.1.1.2, hk_.1.1.2⟩)); have n1_ := zQ (Kd.S_mono (ok' := fun k_ => some k_ ≠ (.slice Ao28 t327.length co28 : Value).ownBlock ∧ some k_ ≠ (.slice Ao24 t319.length co24 : Value).ownBlock ∧ some k_ ≠ (.slice Ao31 t330.length co31 : Value).ownBlock ∧ some k_ ≠ (.slice Ao34 t333.length co34 : Value).ownBlock ∧ some k_ ≠ (.slice Ao59 t343.length co59 : Value).ownBlock) (Kd.S_keptB ((ty_S HO_324000.out)) hkp (fun k_ hk_ hs_ => (fun e_ => TyIn.no hk_.2 e_.2 (by decide)) hs_)) (fun k_ hk_ => ⟨hk_.1.1.1.1, hk_.1.1.1.2.1, hk_.1.1.1.2.2.1, hk_.1.1.1.2.2.2, hk_.1.1.2⟩)); have n2_ := zQ (Kd.R_mono (ok' := fun k_ => some k_ ≠ (.slice Ao28 t327.length co28 : Value).ownBlock ∧ some k_ ≠ (.slice Ao34 t333.length co34 : Value).ownBlock ∧ some k_ ≠ (.slice Ao59 t343.length co59 : Value).ownBlock) (Kd.R_keptB ((ty_R HO_324001.out)) hkp (fun k_ hk_ hs_ => (fun e_ => TyIn.no hk_.2 e_.2 (by decide)) hs_)) (fun k_ hk_ => ⟨hk_.1.1.1.1, hk_.1.1.1.2, hk_.1.1.2⟩)); have n3_ := zQ (Kd.S_mono (ok' := fun k_ => some k_ ≠ (.slice Ao28 t327.length co28 : Value).ownBlock ∧ some k_ ≠ (.slice Ao22 t316.length co22 : Value).ownBlock ∧ some k_ ≠ (.slice Ao24 t319.length co24 : Value).ownBlock ∧ some k_ ≠ (.slice Ao34 t333.length co34 : Value).ownBlock ∧ some k_ ≠ (.slice Ao59 t343.length co59 : Value).ownBlock) (Kd.S_keptB ((ty_S HO_338000.out)) hkp (fun k_ hk_ hs_ => (fun e_ => TyIn.no hk_.2 e_.2 (by decide)) hs_)) (fun k_ hk_ => ⟨hk_.1.1.1.1, hk_.1.1.1.2.1, hk_.1.1.1.2.2.1, hk_.1.1.1.2.2.2, hk_.1.1.2⟩)); have n4_ := zQ (Kd.R_mono (ok' := fun k_ => some k_ ≠ (.slice Ao28 t327.length co28 : Value).ownBlock ∧ some k_ ≠ (.slice Ao24 t319.length co24 : Value).ownBlock ∧ some k_ ≠ (.slice Ao59 t343.length co59 : Value).ownBlock) (Kd.R_keptB ((ty_R HO_338001.out)) hkp (fun k_ hk_ hs_ => (fun e_ => TyIn.no hk_.2 e_.2 (by decide)) hs_)) (fun k_ hk_ => ⟨hk_.1.1.1.1, hk_.1.1.1.2, hk_.1.1.2⟩)); have n5_ := zQ (blk_kept (zK BK323.out) hkp (fun hs_ => (fun e_ => TyIn.no (TyIn.blk (zK BK323.out)) e_.2 (by decide)) hs_)); have n6_ := zQ (blk_kept (zK BK337.out) hkp (fun hs_ => (fun e_ => TyIn.no (TyIn.blk (zK BK337.out)) e_.2 (by decide)) hs_)); have n7_ := trivial; have n8_ := zQ (Kd.R_mono (ok' := fun k_ => some k_ ≠ (.slice Ao28 t327.length co28 : Value).ownBlock ∧ some k_ ≠ (.slice Ao24 t319.length co24 : Value).ownBlock ∧ some k_ ≠ (.slice Ao34 t333.length co34 : Value).ownBlock) (Kd.R_keptB ((ty_R HO345.out)) hkp (fun k_ hk_ hs_ => (fun e_ => TyIn.no hk_.2 e_.2 (by decide)) hs_)) (fun k_ hk_ => ⟨hk_.1.1.1.1.2, hk_.1.1.1.2, hk_.1.1.2⟩)); have n9_ := zQ (hb); clear HO_11; clear HO_324000; clear HO_324001; clear HO_338000; clear HO_338001; clear BK323; clear BK337; clear HO341; clear HO345; clear HB; clear HO_10; have HO_11 := n0_; have HO_324000 := n1_; have HO_324001 := n2_; have HO_338000 := n3_; have HO_338001 := n4_; have BK323 := n5_; have BK337 := n6_; have HO341 := n7_; have HO345 := n8_; have HB := n9_; clear n0_ n1_ n2_ n3_ n4_ n5_ n6_ n7_ n8_ n9_; (try clear hb); (try clear hkp)) | ((with_reducible refine gate_callee (f := 21) rfl ?_); refine goesL_ (some 71) rfl rfl Try.func21 (by kernel_rfl) rfl #[.slice Ao28 t327.length co28, .int .i64 t347] rfl zS ?_; (with_reducible refine (laws_markIntS.calls kj13 (fun k_ => some k_ = (.slice Ao28 t327.length co28 : Value).ownBlock) (.slice Ao28 t327.length co28) t327 t347 t348 t349 w _ ?side1 ?side2 A53.out).mono ?_); (case side1 => repeat (first | (with_reducible first | exact HB.out | apply below_alloc | apply pw_below_drewN | apply below_drew1 | refine below_set ?_ GE323.out | refine below_set ?_ GE337.out) | exact HB.out)); (case side2 => exact Kd.R_tight rfl HO_11.out); rintro e w61 ⟨rfl, hy0, hb, hkp⟩; refine ⟨_, rfl, ?_⟩; have n0_ := zQ (Kd.R_reok rfl hy0 (fun k_ e_ => HO_11.out.1 k_ e_)); have n1_ := zQ (Kd.S_mono (ok' := fun k_ => some k_ ≠ (.slice Ao28 t327.length co28 : Value).ownBlock ∧ some k_ ≠ (.slice Ao24 t319.length co24 : Value).ownBlock ∧ some k_ ≠ (.slice Ao31 t330.length co31 : Value).ownBlock ∧ some k_ ≠ (.slice Ao34 t333.length co34 : Value).ownBlock ∧ some k_ ≠ (.slice Ao59 t343.length co59 : Value).ownBlock) (Kd.S_keptB (HO_324000.out) hkp (fun k_ hk_ hs_ => (hk_.1) hs_)) (fun k_ hk_ => ⟨hk_.1.1, hk_.1.2.1, hk_.1.2.2.1, hk_.1.2.2.2.1, hk_.1.2.2.2.2⟩)); have n2_ := zQ (Kd.R_mono (ok' := fun k_ => some k_ ≠ (.slice Ao28 t327.length co28 : Value).ownBlock ∧ some k_ ≠ (.slice Ao34 t333.length co34 : Value).ownBlock ∧ some k_ ≠ (.slice Ao59 t343.length co59 : Value).ownBlock) (Kd.R_keptB (HO_324001.out) hkp (fun k_ hk_ hs_ => (hk_.1) hs_)) (fun k_ hk_ => ⟨hk_.1.1, hk_.1.2.1, hk_.1.2.2⟩)); have n3_ := zQ (Kd.S_mono (ok' := fun k_ => some k_ ≠ (.slice Ao28 t327.length co28 : Value).ownBlock ∧ some k_ ≠ (.slice Ao22 t316.length co22 : Value).ownBlock ∧ some k_ ≠ (.slice Ao24 t319.length co24 : Value).ownBlock ∧ some k_ ≠ (.slice Ao34 t333.length co34 : Value).ownBlock ∧ some k_ ≠ (.slice Ao59 t343.length co59 : Value).ownBlock) (Kd.S_keptB (HO_338000.out) hkp (fun k_ hk_ hs_ => (hk_.1) hs_)) (fun k_ hk_ => ⟨hk_.1.1, hk_.1.2.1, hk_.1.2.2.1, hk_.1.2.2.2.1, hk_.1.2.2.2.2⟩)); have n4_ := zQ (Kd.R_mono (ok' := fun k_ => some k_ ≠ (.slice Ao28 t327.length co28 : Value).ownBlock ∧ some k_ ≠ (.slice Ao24 t319.length co24 : Value).ownBlock ∧ some k_ ≠ (.slice Ao59 t343.length co59 : Value).ownBlock) (Kd.R_keptB (HO_338001.out) hkp (fun k_ hk_ hs_ => (hk_.1) hs_)) (fun k_ hk_ => ⟨hk_.1.1, hk_.1.2.1, hk_.1.2.2⟩)); have n5_ := zQ (blk_kept (zK BK323.out) hkp (fun hs_ => (fun e_ => (Kd.R_ne HO_11.out BK323.out (by decide)) e_) hs_)); have n6_ := zQ (blk_kept (zK BK337.out) hkp (fun hs_ => (fun e_ => (Kd.R_ne HO_11.out BK337.out (by decide)) e_) hs_)); have n7_ := trivial; have n8_ := zQ (Kd.R_mono (ok' := fun k_ => some k_ ≠ (.slice Ao28 t327.length co28 : Value).ownBlock ∧ some k_ ≠ (.slice Ao24 t319.length co24 : Value).ownBlock ∧ some k_ ≠ (.slice Ao34 t333.length co34 : Value).ownBlock) (Kd.R_keptB (HO345.out) hkp (fun k_ hk_ hs_ => (hk_.1) hs_)) (fun k_ hk_ => ⟨hk_.1.1, hk_.1.2.1, hk_.1.2.2⟩)); have n9_ := zQ (hb); clear HO_11; clear HO_324000; clear HO_324001; clear HO_338000; clear HO_338001; clear BK323; clear BK337; clear HO341; clear HO345; clear HB; have HO_11 := n0_; have HO_324000 := n1_; have HO_324001 := n2_; have HO_338000 := n3_; have HO_338001 := n4_; have BK323 := n5_; have BK337 := n6_; have HO341 := n7_; have HO345 := n8_; have HB := n9_; clear n0_ n1_ n2_ n3_ n4_ n5_ n6_ n7_ n8_ n9_; (try clear hb); (try clear hkp); (try clear hy0)))
        (try simp only [Act.put, List.setIfInBounds_toArray, List.set_cons_zero, List.set_cons_succ])
        go_cut [84] (fun v84 wc => ∃ (kq : Nat) (x84_53 : Bool), v84 = .bool x84_53 ∧ Aside0 (laws_FnExactNewCore.j1 kq l0 l1 a2 t322 x84_53 t316 t319 t330 t333 = some r) ∧ Aside0 (kq ≤ kj13) ∧ Aside0 (Kd.S k184 184 wc w.heap.size (fun k_ => some k_ ≠ ((.slice Ao24 t319.length co24) : Value).ownBlock ∧ some k_ ≠ ((.slice Ao31 t330.length co31) : Value).ownBlock ∧ some k_ ≠ ((.slice Ao34 t333.length co34) : Value).ownBlock) (.slice Ao22 t316.length co22) t316) ∧ Aside0 (Kd.R (Kd.int .i64) 3 wc w.heap.size (fun k_ => some k_ ≠ ((.slice Ao34 t333.length co34) : Value).ownBlock) (.slice Ao24 t319.length co24) t319) ∧ Aside0 (Kd.S k184 184 wc w.heap.size (fun k_ => some k_ ≠ ((.slice Ao22 t316.length co22) : Value).ownBlock ∧ some k_ ≠ ((.slice Ao24 t319.length co24) : Value).ownBlock ∧ some k_ ≠ ((.slice Ao34 t333.length co34) : Value).ownBlock) (.slice Ao31 t330.length co31) t330) ∧ Aside0 (Kd.R (Kd.int .i64) 3 wc w.heap.size (fun k_ => some k_ ≠ ((.slice Ao24 t319.length co24) : Value).ownBlock) (.slice Ao34 t333.length co34) t333) ∧ Aside0 (wc.heap[gb323]? = some (.cells #[(.slice Ao22 t316.length co22), (.slice Ao24 t319.length co24)] 45 (0, 0))) ∧ Aside0 (wc.heap[gb337]? = some (.cells #[(.slice Ao31 t330.length co31), (.slice Ao34 t333.length co34)] 45 (0, 0))) ∧ Aside0 (Below w.heap.size w wc))
        case first =>
         have H := HC54.out
         clear HC54
         by_cases c62 : t348 < 0
         ·rw [if_pos c62] at H
          have c62b0 : decide (t348 < 0) = true := decide_eq_true c62
          clear c62
          (first | rw [c62b0] | (simp only [i64_w, i32_w]; rw [c62b0]) | skip)
          have H' := zQ H
          clear H
          go_wp2
          (first | go_meet | (refine Met.intro ?_; go_step; (repeat apply Exists.intro); refine ⟨?rel, ?eqm_⟩; (case eqm_ => (simp only [c62b0]; rfl))))
          case rel => exact ⟨_, (true), (by first | rfl | (simp; done) | (simp [*]; done)), H', ⟨by have := HJ13.out; first | omega | exact Nat.le_refl _⟩, ⟨by (with_reducible repeat (first | apply Kd.S_alloc | apply Kd.S_drewN | apply Kd.S_drew)); exact Kd.S_mono HO_324000.out (fun _ hk => ⟨hk.2.1, ⟨hk.2.2.1, hk.2.2.2.1⟩⟩)⟩, ⟨by (with_reducible repeat (first | apply Kd.R_alloc | apply Kd.R_drewN | apply Kd.R_drew)); exact Kd.R_mono HO_324001.out (fun _ hk => hk.2.1)⟩, ⟨by (with_reducible repeat (first | apply Kd.S_alloc | apply Kd.S_drewN | apply Kd.S_drew)); exact Kd.S_mono HO_338000.out (fun _ hk => ⟨hk.2.1, ⟨hk.2.2.1, hk.2.2.2.1⟩⟩)⟩, ⟨by (with_reducible repeat (first | apply Kd.R_alloc | apply Kd.R_drewN | apply Kd.R_drew)); exact Kd.R_mono HO_338001.out (fun _ hk => hk.2.1)⟩, ⟨by (with_reducible repeat (first | refine blk_drewN ?_ _ | refine blk_drew ?_ | refine blk_alloc ?_ _)); exact BK323.out⟩, ⟨by (with_reducible repeat (first | refine blk_drewN ?_ _ | refine blk_drew ?_ | refine blk_alloc ?_ _)); exact BK337.out⟩, ⟨zB HB.out⟩⟩
         ·rw [if_neg c62] at H
          have c62b0 : decide (t348 < 0) = false := decide_eq_false c62
          clear c62
          (first | rw [c62b0] | (simp only [i64_w, i32_w]; rw [c62b0]) | skip)
          replace H := Option.bind_eq_some_iff.mp H
          obtain ⟨t350, A630, H⟩ := H
          replace H : (if t350 = true then (laws_FnExactNewCore.j1 kj13 l0 l1 a2 t322 (t336 != t322) t316 t319 t330 t333) else (laws_FnExactNewCore.j1 kj13 l0 l1 a2 t322 true t316 t319 t330 t333)) = some r := H
          have A63 := zQ A630
          clear A630
          by_cases c64 : t350 = true
          ·subst c64
           have H1 : (laws_FnExactNewCore.j1 kj13 l0 l1 a2 t322 (t336 != t322) t316 t319 t330 t333) = some r := by rw [if_pos rfl] at H; exact H
           clear H
           have H := H1
           clear H1
           have H' := zQ H
           clear H
           have hnb65 := NB337_323.out
           have hnc65 := NB323_337.out
           obtain ⟨hcz66_0, hcz66_1, hfz66_0, hfz66_1⟩ := zc2 BK337.out
           obtain ⟨hcz67_0, hcz67_1, hfz67_0, hfz67_1⟩ := zc2 BK323.out
           go_wp2_with (first | (go_at_call 31; (with_reducible refine (laws_eqCore.calls kj13 _ _ t330 _ _ t333 _ _ t316 _ _ t319 true _ ?side1 ?side2 ?side3 ?side4 ?side5 ?side6 ?side7 ?side8 A63.out).mono ?_); (case side1 => repeat (first | exact (Kd.S_reads' HO_338000.out).2.2 | (with_reducible refine Kd.C_alloc ?_ _) | (with_reducible refine Kd.C_drewN ?_ _) | (with_reducible refine Kd.C_drew ?_))); (case side2 => exact (Kd.S_reads' HO_338000.out).2.1); (case side3 => exact zC (Kd.R_reads' HO_338001.out).2.2); (case side4 => exact (Kd.R_reads' HO_338001.out).2.1); (case side5 => repeat (first | exact (Kd.S_reads' HO_324000.out).2.2 | (with_reducible refine Kd.C_alloc ?_ _) | (with_reducible refine Kd.C_drewN ?_ _) | (with_reducible refine Kd.C_drew ?_))); (case side6 => exact (Kd.S_reads' HO_324000.out).2.1); (case side7 => exact zC (Kd.R_reads' HO_324001.out).2.2); (case side8 => exact (Kd.R_reads' HO_324001.out).2.1); rintro e w68 ⟨rfl, hb⟩; have n0_ := zQ (Kd.R_below (zR HO_11.out) hb); have n1_ := zQ (Kd.S_below (by (with_reducible repeat (first | apply Kd.S_alloc | apply Kd.S_drewN | apply Kd.S_drew)); exact HO_324000.out) hb); have n2_ := zQ (Kd.R_below (zR HO_324001.out) hb); have n3_ := zQ (Kd.S_below (by (with_reducible repeat (first | apply Kd.S_alloc | apply Kd.S_drewN | apply Kd.S_drew)); exact HO_338000.out) hb); have n4_ := zQ (Kd.R_below (zR HO_338001.out) hb); have n5_ := trivial; have n6_ := zQ (Kd.R_below (zR HO345.out) hb); have n7_ := zQ (zL BK323.out hb); have n8_ := zQ (zL BK337.out hb); have n9_ := zQ (below_step (zB HB.out) hb); clear HO_11; clear HO_324000; clear HO_324001; clear HO_338000; clear HO_338001; clear HO341; clear HO345; clear BK323; clear BK337; clear HB; have HO_11 := n0_; have HO_324000 := n1_; have HO_324001 := n2_; have HO_338000 := n3_; have HO_338001 := n4_; have HO341 := n5_; have HO345 := n6_; have BK323 := n7_; have BK337 := n8_; have HB := n9_; clear n0_ n1_ n2_ n3_ n4_ n5_ n6_ n7_ n8_ n9_; (try clear hb); (try clear hb2); (try clear hk); (try clear hi)))
           (first | go_meet | (refine Met.intro ?_; go_step; (repeat apply Exists.intro); refine ⟨?rel, ?eqm_⟩; (case eqm_ => (simp only [c62b0]; rfl))))
           case rel => exact ⟨_, ((t336 != t322)), (by first | rfl | (simp; done) | (simp [*]; done)), H', ⟨by have := HJ13.out; first | omega | exact Nat.le_refl _⟩, ⟨by (with_reducible repeat (first | apply Kd.S_alloc | apply Kd.S_drewN | apply Kd.S_drew)); exact Kd.S_mono HO_324000.out (fun _ hk => ⟨hk.2.1, ⟨hk.2.2.1, hk.2.2.2.1⟩⟩)⟩, ⟨by (with_reducible repeat (first | apply Kd.R_alloc | apply Kd.R_drewN | apply Kd.R_drew)); exact Kd.R_mono HO_324001.out (fun _ hk => hk.2.1)⟩, ⟨by (with_reducible repeat (first | apply Kd.S_alloc | apply Kd.S_drewN | apply Kd.S_drew)); exact Kd.S_mono HO_338000.out (fun _ hk => ⟨hk.2.1, ⟨hk.2.2.1, hk.2.2.2.1⟩⟩)⟩, ⟨by (with_reducible repeat (first | apply Kd.R_alloc | apply Kd.R_drewN | apply Kd.R_drew)); exact Kd.R_mono HO_338001.out (fun _ hk => hk.2.1)⟩, ⟨by (with_reducible repeat (first | refine blk_drewN ?_ _ | refine blk_drew ?_ | refine blk_alloc ?_ _)); exact BK323.out⟩, ⟨by (with_reducible repeat (first | refine blk_drewN ?_ _ | refine blk_drew ?_ | refine blk_alloc ?_ _)); exact BK337.out⟩, ⟨zB HB.out⟩⟩
          ·replace c64 := Bool.eq_false_iff.mpr c64
           subst c64
           have H1 : (laws_FnExactNewCore.j1 kj13 l0 l1 a2 t322 true t316 t319 t330 t333) = some r := by rw [if_neg (show ¬ (false = true) by decide)] at H; exact H
           clear H
           have H := H1
           clear H1
           have H' := zQ H
           clear H
           have hnb69 := NB337_323.out
           have hnc69 := NB323_337.out
           obtain ⟨hcz70_0, hcz70_1, hfz70_0, hfz70_1⟩ := zc2 BK337.out
           obtain ⟨hcz71_0, hcz71_1, hfz71_0, hfz71_1⟩ := zc2 BK323.out
           go_wp2_with (first | (go_at_call 31; (with_reducible refine (laws_eqCore.calls kj13 _ _ t330 _ _ t333 _ _ t316 _ _ t319 false _ ?side1 ?side2 ?side3 ?side4 ?side5 ?side6 ?side7 ?side8 A63.out).mono ?_); (case side1 => repeat (first | exact (Kd.S_reads' HO_338000.out).2.2 | (with_reducible refine Kd.C_alloc ?_ _) | (with_reducible refine Kd.C_drewN ?_ _) | (with_reducible refine Kd.C_drew ?_))); (case side2 => exact (Kd.S_reads' HO_338000.out).2.1); (case side3 => exact zC (Kd.R_reads' HO_338001.out).2.2); (case side4 => exact (Kd.R_reads' HO_338001.out).2.1); (case side5 => repeat (first | exact (Kd.S_reads' HO_324000.out).2.2 | (with_reducible refine Kd.C_alloc ?_ _) | (with_reducible refine Kd.C_drewN ?_ _) | (with_reducible refine Kd.C_drew ?_))); (case side6 => exact (Kd.S_reads' HO_324000.out).2.1); (case side7 => exact zC (Kd.R_reads' HO_324001.out).2.2); (case side8 => exact (Kd.R_reads' HO_324001.out).2.1); rintro e w72 ⟨rfl, hb⟩; have n0_ := zQ (Kd.R_below (zR HO_11.out) hb); have n1_ := zQ (Kd.S_below (by (with_reducible repeat (first | apply Kd.S_alloc | apply Kd.S_drewN | apply Kd.S_drew)); exact HO_324000.out) hb); have n2_ := zQ (Kd.R_below (zR HO_324001.out) hb); have n3_ := zQ (Kd.S_below (by (with_reducible repeat (first | apply Kd.S_alloc | apply Kd.S_drewN | apply Kd.S_drew)); exact HO_338000.out) hb); have n4_ := zQ (Kd.R_below (zR HO_338001.out) hb); have n5_ := trivial; have n6_ := zQ (Kd.R_below (zR HO345.out) hb); have n7_ := zQ (zL BK323.out hb); have n8_ := zQ (zL BK337.out hb); have n9_ := zQ (below_step (zB HB.out) hb); clear HO_11; clear HO_324000; clear HO_324001; clear HO_338000; clear HO_338001; clear HO341; clear HO345; clear BK323; clear BK337; clear HB; have HO_11 := n0_; have HO_324000 := n1_; have HO_324001 := n2_; have HO_338000 := n3_; have HO_338001 := n4_; have HO341 := n5_; have HO345 := n6_; have BK323 := n7_; have BK337 := n8_; have HB := n9_; clear n0_ n1_ n2_ n3_ n4_ n5_ n6_ n7_ n8_ n9_; (try clear hb); (try clear hb2); (try clear hk); (try clear hi)))
           (first | go_meet | (refine Met.intro ?_; go_step; (repeat apply Exists.intro); refine ⟨?rel, ?eqm_⟩; (case eqm_ => (simp only [c62b0]; rfl))))
           case rel => exact ⟨_, (true), (by first | rfl | (simp; done) | (simp [*]; done)), H', ⟨by have := HJ13.out; first | omega | exact Nat.le_refl _⟩, ⟨by (with_reducible repeat (first | apply Kd.S_alloc | apply Kd.S_drewN | apply Kd.S_drew)); exact Kd.S_mono HO_324000.out (fun _ hk => ⟨hk.2.1, ⟨hk.2.2.1, hk.2.2.2.1⟩⟩)⟩, ⟨by (with_reducible repeat (first | apply Kd.R_alloc | apply Kd.R_drewN | apply Kd.R_drew)); exact Kd.R_mono HO_324001.out (fun _ hk => hk.2.1)⟩, ⟨by (with_reducible repeat (first | apply Kd.S_alloc | apply Kd.S_drewN | apply Kd.S_drew)); exact Kd.S_mono HO_338000.out (fun _ hk => ⟨hk.2.1, ⟨hk.2.2.1, hk.2.2.2.1⟩⟩)⟩, ⟨by (with_reducible repeat (first | apply Kd.R_alloc | apply Kd.R_drewN | apply Kd.R_drew)); exact Kd.R_mono HO_338001.out (fun _ hk => hk.2.1)⟩, ⟨by (with_reducible repeat (first | refine blk_drewN ?_ _ | refine blk_drew ?_ | refine blk_alloc ?_ _)); exact BK323.out⟩, ⟨by (with_reducible repeat (first | refine blk_drewN ?_ _ | refine blk_drew ?_ | refine blk_alloc ?_ _)); exact BK337.out⟩, ⟨zB HB.out⟩⟩
        case rest =>
         clear HC54
         try clear c1
         try clear c2
         try clear p2
         try clear c3
         try clear c4
         try clear c4b0
         try clear c4b1
         try clear c5
         try clear c6
         try clear c6b0
         try clear c15
         try clear c19
         try clear c21
         try clear c27
         try clear c28
         try clear c29
         try clear c30
         try clear c31
         try clear c32
         try clear c33
         try clear c36
         try clear c37
         try clear c41
         try clear c45
         try clear c48
         try clear c51
         try clear c62
         try clear c62b0
         try clear c64
         try clear c65
         try clear c69
         try clear hcz23_0
         try clear hcz23_1
         try clear hcz33_0
         try clear hcz33_1
         try clear hcz38_0
         try clear hcz38_1
         try clear hcz39_0
         try clear hcz39_1
         try clear hcz42_0
         try clear hcz42_1
         try clear hcz43_0
         try clear hcz43_1
         try clear hcz66_0
         try clear hcz66_1
         try clear hcz67_0
         try clear hcz67_1
         try clear hcz70_0
         try clear hcz70_1
         try clear hcz71_0
         try clear hcz71_1
         try clear hfz23_0
         try clear hfz23_1
         try clear hfz33_0
         try clear hfz33_1
         try clear hfz38_0
         try clear hfz38_1
         try clear hfz39_0
         try clear hfz39_1
         try clear hfz42_0
         try clear hfz42_1
         try clear hfz43_0
         try clear hfz43_1
         try clear hfz66_0
         try clear hfz66_1
         try clear hfz67_0
         try clear hfz67_1
         try clear hfz70_0
         try clear hfz70_1
         try clear hfz71_0
         try clear hfz71_1
         try clear p2
         obtain ⟨kq, x84_53, rfl, HA, HJ53, HO_324000, HO_324001, HO_338000, HO_338001, BK323, BK337, HB⟩ := hcut
         cases kq with
         | zero => exact absurd HA.out (by simp [laws_FnExactNewCore.j1])
         | succ kj53 =>
          have H := HA.out
          clear HA
          simp only [laws_FnExactNewCore.j1] at H
          by_cases c73 : x84_53 = true
          ·subst c73
           have H1 : (some false) = some r := by rw [if_pos rfl] at H; exact H
           clear H
           have H := H1
           clear H1
           exact absurd ((Option.some.inj H).trans hlaw_.out) (by decide)
          ·replace c73 := Bool.eq_false_iff.mpr c73
           subst c73
           have H1 : ((laws_markCore.f kj53 t330 t333 1).bind fun bt351 => ((laws_heldCore.f kj53 bt351.2.1 bt351.2.2 1).bind fun t354 => (if t354 < 0 then (some false) else (if t354 = bt351.1 then ((laws_toRoutineS.f kj53 l0).bind fun t355 => ((laws_toIntS.f kj53 l1).bind fun t358 => ((impl_NewCore.f kj53 t355 t358 a2).bind fun bt361 => ((laws_eqCore.f kj53 bt361.1 bt361.2.1 t316 t319).bind fun t369 => (if t369 = true then (laws_FnExactNewCore.j2 kj53 bt351.1 (bt361.2.2 != t322) bt351.2.1 bt351.2.2) else (laws_FnExactNewCore.j2 kj53 bt351.1 true bt351.2.1 bt351.2.2)))))) else (some false))))) = some r := by rw [if_neg (show ¬ (false = true) by decide)] at H; exact H
           clear H
           have H := H1
           clear H1
           replace H := Option.bind_eq_some_iff.mp H
           obtain ⟨⟨t351, t352, t353⟩, A740, H⟩ := H
           replace H : ((laws_heldCore.f kj53 t352 t353 1).bind fun t354 => (if t354 < 0 then (some false) else (if t354 = t351 then ((laws_toRoutineS.f kj53 l0).bind fun t355 => ((laws_toIntS.f kj53 l1).bind fun t358 => ((impl_NewCore.f kj53 t355 t358 a2).bind fun bt361 => ((laws_eqCore.f kj53 bt361.1 bt361.2.1 t316 t319).bind fun t369 => (if t369 = true then (laws_FnExactNewCore.j2 kj53 t351 (bt361.2.2 != t322) t352 t353) else (laws_FnExactNewCore.j2 kj53 t351 true t352 t353)))))) else (some false)))) = some r := H
           have A74 := zQ A740
           clear A740
           replace H := Option.bind_eq_some_iff.mp H
           obtain ⟨t354, A750, H⟩ := H
           replace H : (if t354 < 0 then (some false) else (if t354 = t351 then ((laws_toRoutineS.f kj53 l0).bind fun t355 => ((laws_toIntS.f kj53 l1).bind fun t358 => ((impl_NewCore.f kj53 t355 t358 a2).bind fun bt361 => ((laws_eqCore.f kj53 bt361.1 bt361.2.1 t316 t319).bind fun t369 => (if t369 = true then (laws_FnExactNewCore.j2 kj53 t351 (bt361.2.2 != t322) t352 t353) else (laws_FnExactNewCore.j2 kj53 t351 true t352 t353)))))) else (some false))) = some r := H
           have A75 := zQ A750
           clear A750
           by_cases c76 : t354 < 0
           ·rw [if_pos c76] at H
            have c76b0 : decide (t354 < 0) = true := decide_eq_true c76
            clear c76
            exact absurd ((Option.some.inj H).trans hlaw_.out) (by decide)
           ·rw [if_neg c76] at H
            have c76b0 : decide (t354 < 0) = false := decide_eq_false c76
            clear c76
            by_cases c77 : t354 = t351
            ·rw [if_pos c77] at H
             have c77b0 : (t354 == t351) = true := beq_iff_eq.mpr c77
             have c77b1 : (t354 != t351) = false := bne_eq_false_iff_eq.mpr c77
             clear c77
             replace H := Option.bind_eq_some_iff.mp H
             obtain ⟨t355, A780, H⟩ := H
             replace H : ((laws_toIntS.f kj53 l1).bind fun t358 => ((impl_NewCore.f kj53 t355 t358 a2).bind fun bt361 => ((laws_eqCore.f kj53 bt361.1 bt361.2.1 t316 t319).bind fun t369 => (if t369 = true then (laws_FnExactNewCore.j2 kj53 t351 (bt361.2.2 != t322) t352 t353) else (laws_FnExactNewCore.j2 kj53 t351 true t352 t353))))) = some r := H
             have A78 := zQ A780
             clear A780
             replace H := Option.bind_eq_some_iff.mp H
             obtain ⟨t358, A790, H⟩ := H
             replace H : ((impl_NewCore.f kj53 t355 t358 a2).bind fun bt361 => ((laws_eqCore.f kj53 bt361.1 bt361.2.1 t316 t319).bind fun t369 => (if t369 = true then (laws_FnExactNewCore.j2 kj53 t351 (bt361.2.2 != t322) t352 t353) else (laws_FnExactNewCore.j2 kj53 t351 true t352 t353)))) = some r := H
             have A79 := zQ A790
             clear A790
             replace H := Option.bind_eq_some_iff.mp H
             obtain ⟨⟨t361, t364, t367⟩, A800, H⟩ := H
             replace H : ((laws_eqCore.f kj53 t361 t364 t316 t319).bind fun t369 => (if t369 = true then (laws_FnExactNewCore.j2 kj53 t351 (t367 != t322) t352 t353) else (laws_FnExactNewCore.j2 kj53 t351 true t352 t353))) = some r := H
             have A80 := zQ A800
             clear A800
             have HC81 := zQ H
             clear H
             have hnb82 := NB337_323.out
             have hnc82 := NB323_337.out
             obtain ⟨hcz83_0, hcz83_1, hfz83_0, hfz83_1⟩ := zc2 BK337.out
             go_upto_region 31 with (first | ((with_reducible refine gate_callee (f := 34) rfl ?_); refine goesL_ (some 87) rfl rfl Try.func34 (by kernel_rfl) rfl #[.agg #[.slice Ao31 t330.length co31, .slice Ao34 t333.length co34], .int .i64 1] rfl zS ?_; (with_reducible refine (laws_markCore.callsE kj53 (fun k_ => (some k_ ≠ (.slice Ao22 t316.length co22 : Value).ownBlock ∧ (some k_ ≠ (.slice Ao24 t319.length co24 : Value).ownBlock ∧ some k_ ≠ (.slice Ao34 t333.length co34 : Value).ownBlock))) (.slice Ao31 t330.length co31) t330 (fun k_ => some k_ = (.slice Ao34 t333.length co34 : Value).ownBlock) (.slice Ao34 t333.length co34) t333 1 t351 t352 t353 w _ ?side1 ?side2 (by intro k_ h_; first | exact h_ | exact h_.2 | exact h_.2.2 | exact h_.2.2.2 | exact h_.1 | exact h_.2.1) ?side3 A74.out).mono ?_); (case side1 => repeat (first | (with_reducible first | exact HB.out | apply below_alloc | apply pw_below_drewN | apply below_drew1 | refine below_set ?_ GE323.out | refine below_set ?_ GE337.out) | exact HB.out)); (case side2 => exact HO_338000.out); (case side3 => exact Kd.R_tight rfl HO_338001.out); rintro e w84 ⟨rfl, hy0, hy1, hb, hkp⟩; refine ⟨_, rfl, ?_⟩; have n0_ := zQ (Kd.S_mono (ok' := fun k_ => some k_ ≠ (.slice Ao24 t319.length co24 : Value).ownBlock ∧ some k_ ≠ (.slice Ao31 t330.length co31 : Value).ownBlock ∧ some k_ ≠ (.slice Ao34 t333.length co34 : Value).ownBlock) (Kd.S_keptB ((ty_S HO_324000.out)) hkp (fun k_ hk_ hs_ => Or.elim hs_ (fun e_ => by first | exact absurd e_ hk_.1.1 | exact absurd e_ hk_.1.2.1 | exact absurd e_ hk_.1.2.2.1 | exact absurd e_ hk_.1.2 | exact TyIn.no hk_.2 (L' := [184]) ⟨184, by simp, Kd.S_typed HO_338000.out _ e_.symm⟩ (by decide)) (fun e_ => (hk_.1.2.2) e_))) (fun k_ hk_ => ⟨hk_.1.1.1, hk_.1.1.2.1, hk_.1.1.2.2⟩)); have n1_ := zQ (Kd.R_mono (ok' := fun k_ => some k_ ≠ (.slice Ao34 t333.length co34 : Value).ownBlock) (Kd.R_keptB ((ty_R HO_324001.out)) hkp (fun k_ hk_ hs_ => Or.elim hs_ (fun e_ => by first | exact absurd e_ hk_.1.1 | exact absurd e_ hk_.1.2.1 | exact absurd e_ hk_.1.2.2.1 | exact absurd e_ hk_.1.2 | exact TyIn.no hk_.2 (L' := [184]) ⟨184, by simp, Kd.S_typed HO_338000.out _ e_.symm⟩ (by decide)) (fun e_ => (hk_.1) e_))) (fun k_ hk_ => hk_.1.1)); have n2_ := zQ hy0; have n3_ := zQ (Kd.R_reok rfl hy1 (fun k_ e_ => HO_338001.out.1 k_ e_)); have n4_ := zQ (blk_kept (zK BK323.out) hkp (fun hs_ => Or.elim hs_ (fun e_ => (fun e_ => TyIn.no (TyIn.blk (zK BK323.out)) (L' := [184]) ⟨184, by simp, Kd.S_typed HO_338000.out _ e_.symm⟩ (by decide)) e_) (fun e_ => (fun e_ => (Kd.R_ne HO_338001.out BK323.out (by decide)) e_) e_))); have n5_ := zQ (blk_kept (zK BK337.out) hkp (fun hs_ => Or.elim hs_ (fun e_ => (fun e_ => TyIn.no (TyIn.blk (zK BK337.out)) (L' := [184]) ⟨184, by simp, Kd.S_typed HO_338000.out _ e_.symm⟩ (by decide)) e_) (fun e_ => (fun e_ => (Kd.R_ne HO_338001.out BK337.out (by decide)) e_) e_))); have n6_ := zQ (hb); clear HO_324000; clear HO_324001; clear HO_338000; clear HO_338001; clear BK323; clear BK337; clear HB; have HO_324000 := n0_; have HO_324001 := n1_; have HO_338000 := n2_; have HO_338001 := n3_; have BK323 := n4_; have BK337 := n5_; have HB := n6_; clear n0_ n1_ n2_ n3_ n4_ n5_ n6_; (try clear hb); (try clear hkp); (try clear hy0); (try clear hy1); obtain ⟨hcz85_0, hcz85_1, hfz85_0, hfz85_1⟩ := zc2 BK337.out) | ((with_reducible refine gate_callee (f := 35) rfl ?_); refine goesL_ (some 90) rfl rfl Try.func35 (by kernel_rfl) rfl #[.agg #[.slice Ao31 t352.length co31, .slice Ao34 t353.length co34], .int .i64 1] rfl (by (try simp only [List.map_toArray, List.map_cons, List.map_nil]); first | done | (rw [show t352.length = t330.length from (Kd.S_reads' HO_338000.out).1.symm, show t353.length = t333.length from (Kd.R_reads' HO_338001.out).1.symm] <;> rfl) | rfl | (simp only [List.length_drop, List.length_take]; rfl)) ?_; (with_reducible refine (laws_heldCore.calls kj53 _ _ t352 _ _ t353 1 t354 _ ?side1 ?side2 ?side3 ?side4 A75.out).mono ?_); (case side1 => repeat (first | exact (Kd.S_reads' HO_338000.out).2.2 | (with_reducible refine Kd.C_alloc ?_ _) | (with_reducible refine Kd.C_drewN ?_ _) | (with_reducible refine Kd.C_drew ?_))); (case side2 => rw [show t352.length = t330.length from (Kd.S_reads' HO_338000.out).1.symm]; exact (Kd.S_reads' HO_338000.out).2.1); (case side3 => exact zC (Kd.R_reads' HO_338001.out).2.2); (case side4 => rw [show t353.length = t333.length from (Kd.R_reads' HO_338001.out).1.symm]; exact (Kd.R_reads' HO_338001.out).2.1); rintro e w86 ⟨rfl, hb⟩; refine ⟨_, rfl, ?_⟩; have n0_ := zQ (Kd.S_below (by (with_reducible repeat (first | apply Kd.S_alloc | apply Kd.S_drewN | apply Kd.S_drew)); exact HO_324000.out) hb); have n1_ := zQ (Kd.R_below (zR HO_324001.out) hb); have n2_ := zQ (Kd.S_below (by (with_reducible repeat (first | apply Kd.S_alloc | apply Kd.S_drewN | apply Kd.S_drew)); exact HO_338000.out) hb); have n3_ := zQ (Kd.R_below (zR HO_338001.out) hb); have n4_ := zQ (zL BK323.out hb); have n5_ := zQ (zL BK337.out hb); have n6_ := zQ (below_step (zB HB.out) hb); clear HO_324000; clear HO_324001; clear HO_338000; clear HO_338001; clear BK323; clear BK337; clear HB; have HO_324000 := n0_; have HO_324001 := n1_; have HO_338000 := n2_; have HO_338001 := n3_; have BK323 := n4_; have BK337 := n5_; have HB := n6_; clear n0_ n1_ n2_ n3_ n4_ n5_ n6_; (try clear hb); (try clear hb2); (try clear hk); (try clear hi)) | ((with_reducible refine gate_callee (f := 29) rfl ?_); refine goesL_ (some 98) rfl rfl Try.func29 (by kernel_rfl) rfl #[.slice A0 l0.length c0] rfl zS ?_; (with_reducible refine (laws_toRoutineS.calls kj53 _ _ l0 t355 _ ?side1 ?side2 A78.out).mono ?_); (case side1 => exact zE HR0 HB); (case side2 => exact HC0.out); rintro e w87 ⟨v356, rfl, ho0, hb⟩; refine ⟨_, rfl, ?_⟩; have n0_ := zQ (Kd.S_below (by (with_reducible repeat (first | apply Kd.S_alloc | apply Kd.S_drewN | apply Kd.S_drew)); exact HO_324000.out) hb); have n1_ := zQ (Kd.R_below (zR HO_324001.out) hb); have n2_ := zQ (Kd.S_below (by (with_reducible repeat (first | apply Kd.S_alloc | apply Kd.S_drewN | apply Kd.S_drew)); exact HO_338000.out) hb); have n3_ := zQ (Kd.R_below (zR HO_338001.out) hb); have n4_ := zQ (Kd.S_lower ho0 (below_size (zB HB.out))); have n5_ := zQ (zL BK323.out hb); have n6_ := zQ (zL BK337.out hb); have n7_ := zQ (below_step (zB HB.out) hb); clear HO_324000; clear HO_324001; clear HO_338000; clear HO_338001; clear BK323; clear BK337; clear HB; have HO_324000 := n0_; have HO_324001 := n1_; have HO_338000 := n2_; have HO_338001 := n3_; have HO357 := n4_; have BK323 := n5_; have BK337 := n6_; have HB := n7_; clear n0_ n1_ n2_ n3_ n4_ n5_ n6_ n7_; (try clear hb); (try clear hb2); (try clear hk); (try clear hi); (try clear ho0)) | ((with_reducible refine gate_callee (f := 15) rfl ?_); refine goesL_ (some 100) rfl rfl Try.func15 (by kernel_rfl) rfl #[.slice A1 l1.length c1] rfl zS ?_; (with_reducible refine (laws_toIntS.calls kj53 _ _ l1 t358 _ ?side1 ?side2 A79.out).mono ?_); (case side1 => exact zE HR1 HB); (case side2 => exact HC1.out); rintro e w88 ⟨v359, rfl, ho0, hb⟩; refine ⟨_, rfl, ?_⟩; have n0_ := zQ (Kd.S_elder' (by (with_reducible repeat (first | apply Kd.S_alloc | apply Kd.S_drewN | apply Kd.S_drew)); exact HO_324000.out) (Kd.R_base ho0) hb); have n1_ := zQ (Kd.R_elder' (zR HO_324001.out) (Kd.R_base ho0) hb); have n2_ := zQ (Kd.S_elder' (by (with_reducible repeat (first | apply Kd.S_alloc | apply Kd.S_drewN | apply Kd.S_drew)); exact HO_338000.out) (Kd.R_base ho0) hb); have n3_ := zQ (Kd.R_elder' (zR HO_338001.out) (Kd.R_base ho0) hb); have n4_ := zQ (Kd.S_below (by (with_reducible repeat (first | apply Kd.S_alloc | apply Kd.S_drewN | apply Kd.S_drew)); exact HO357.out) hb); have n5_ := zQ (Kd.R_lower (Kd.R_new' (Kd.R_new' ho0 (Kd.R_lt (zR HO_324001.out))) (Kd.R_lt (zR HO_338001.out))) (below_size (zB HB.out))); have n6_ := zQ (zL BK323.out hb); have n7_ := zQ (zL BK337.out hb); have n8_ := zQ (below_step (zB HB.out) hb); clear HO_324000; clear HO_324001; clear HO_338000; clear HO_338001; clear HO357; clear BK323; clear BK337; clear HB; have HO_324000 := n0_; have HO_324001 := n1_; have HO_338000 := n2_; have HO_338001 := n3_; have HO357 := n4_; have HO360 := n5_; have BK323 := n6_; have BK337 := n7_; have HB := n8_; clear n0_ n1_ n2_ n3_ n4_ n5_ n6_ n7_ n8_; (try clear hb); (try clear hb2); (try clear hk); (try clear hi); (try clear ho0); obtain ⟨Ao89, co89, eo89⟩ := Kd.S_slice HO357.out; subst eo89; obtain ⟨Ao90, co90, eo90⟩ := Kd.R_slice HO360.out; subst eo90) | ((with_reducible refine gate_callee (f := 30) rfl ?_); refine goesL_ (some 102) rfl rfl Try.func30 (by kernel_rfl) rfl #[.slice Ao89 t355.length co89, .slice Ao90 t358.length co90, .int .i64 a2] rfl zS ?_; (with_reducible refine (impl_NewCore.calls kj53 _ _ t355 _ _ t358 a2 t361 t364 t367 _ ?side1 ?side2 ?side3 ?side4 A80.out).mono ?_); (case side1 => repeat (first | exact (Kd.S_reads' HO357.out).2.2 | (with_reducible refine Kd.C_alloc ?_ _) | (with_reducible refine Kd.C_drewN ?_ _) | (with_reducible refine Kd.C_drew ?_))); (case side2 => exact (Kd.S_reads' HO357.out).2.1); (case side3 => exact zC (Kd.R_reads' HO360.out).2.2); (case side4 => exact (Kd.R_reads' HO360.out).2.1); rintro e w91 ⟨v362, v365, rfl, ho0, ho1, hb⟩; refine ⟨_, rfl, ?_⟩; have n0_ := zQ (Kd.S_mono (Kd.S_told (Kd.S_told (Kd.S_old (by (with_reducible repeat (first | apply Kd.S_alloc | apply Kd.S_drewN | apply Kd.S_drew)); exact HO_324000.out) hb) (Kd.S_base ho0)) (Kd.R_base ho1)) (fun _ h_ => h_.1)); have n1_ := zQ (Kd.R_elder' (zR HO_324001.out) (Kd.R_base ho1) hb); have n2_ := zQ (Kd.S_mono (Kd.S_told (Kd.S_told (Kd.S_old (by (with_reducible repeat (first | apply Kd.S_alloc | apply Kd.S_drewN | apply Kd.S_drew)); exact HO_338000.out) hb) (Kd.S_base ho0)) (Kd.R_base ho1)) (fun _ h_ => h_.1)); have n3_ := zQ (Kd.R_elder' (zR HO_338001.out) (Kd.R_base ho1) hb); have n4_ := zQ (Kd.S_below (by (with_reducible repeat (first | apply Kd.S_alloc | apply Kd.S_drewN | apply Kd.S_drew)); exact HO357.out) hb); have n5_ := zQ (Kd.R_elder' (zR HO360.out) (Kd.R_base ho1) hb); have n6_ := zQ (Kd.S_lower (Kd.S_new' (Kd.S_new' (Kd.S_new' (Kd.S_new' (Kd.S_new' ho0 (Kd.S_lt (by (with_reducible repeat (first | apply Kd.S_alloc | apply Kd.S_drewN | apply Kd.S_drew)); exact HO_324000.out))) (Kd.R_lt (zR HO_324001.out))) (Kd.S_lt (by (with_reducible repeat (first | apply Kd.S_alloc | apply Kd.S_drewN | apply Kd.S_drew)); exact HO_338000.out))) (Kd.R_lt (zR HO_338001.out))) (Kd.R_lt (zR HO360.out))) (below_size (zB HB.out))); have n7_ := zQ (Kd.R_lower (Kd.R_new' (Kd.R_new' (Kd.R_new' ho1 (Kd.R_lt (zR HO_324001.out))) (Kd.R_lt (zR HO_338001.out))) (Kd.R_lt (zR HO360.out))) (below_size (zB HB.out))); have n8_ := zQ (zL BK323.out hb); have n9_ := zQ (zL BK337.out hb); have n10_ := zQ (below_step (zB HB.out) hb); clear HO_324000; clear HO_324001; clear HO_338000; clear HO_338001; clear HO357; clear HO360; clear BK323; clear BK337; clear HB; have HO_324000 := n0_; have HO_324001 := n1_; have HO_338000 := n2_; have HO_338001 := n3_; have HO357 := n4_; have HO360 := n5_; have HO363 := n6_; have HO366 := n7_; have BK323 := n8_; have BK337 := n9_; have HB := n10_; clear n0_ n1_ n2_ n3_ n4_ n5_ n6_ n7_ n8_ n9_ n10_; (try clear hb); (try clear hb2); (try clear hk); (try clear hi); (try clear ho0); (try clear ho1)) | ((with_reducible refine gate_dst (N := 17) rfl ?_); refine box_event ?hg (N := 17) ?hd (cs := #[.slice none 0 0, .slice none 0 0]) (t := 45) ?hr ?_; (case hd => rfl); (case hg => rfl); (case hr => first | (go_simp; done) | (go_simp; rfl)); intro gb368 hg w92 hbox hb; have n0_ := zQ (Kd.S_below (by (with_reducible repeat (first | apply Kd.S_alloc | apply Kd.S_drewN | apply Kd.S_drew)); exact HO_324000.out) hb); have n1_ := zQ (Kd.R_below (zR HO_324001.out) hb); have n2_ := zQ (Kd.S_below (by (with_reducible repeat (first | apply Kd.S_alloc | apply Kd.S_drewN | apply Kd.S_drew)); exact HO_338000.out) hb); have n3_ := zQ (Kd.R_below (zR HO_338001.out) hb); have n4_ := zQ (Kd.S_below (by (with_reducible repeat (first | apply Kd.S_alloc | apply Kd.S_drewN | apply Kd.S_drew)); exact HO357.out) hb); have n5_ := zQ (Kd.R_below (zR HO360.out) hb); have n6_ := zQ (Kd.S_below (by (with_reducible repeat (first | apply Kd.S_alloc | apply Kd.S_drewN | apply Kd.S_drew)); exact HO363.out) hb); have n7_ := zQ (Kd.R_below (zR HO366.out) hb); have n8_ := zQ (zL BK323.out hb); have n9_ := zQ (zL BK337.out hb); have n10_ := zQ (below_step (zB HB.out) hb); have n11_ := zQ (hbox); have n12_ := zQ ((zG hg HB.out)); have n13_ := zQ ((zG hg HB.out)); have n14_ := zQ ((zN hg BK323.out)); have n15_ := zQ ((zM hg BK323.out)); have n16_ := zQ ((zN hg BK337.out)); have n17_ := zQ ((zM hg BK337.out)); clear HO_324000; clear HO_324001; clear HO_338000; clear HO_338001; clear HO357; clear HO360; clear HO363; clear HO366; clear BK323; clear BK337; clear HB; have HO_324000 := n0_; have HO_324001 := n1_; have HO_338000 := n2_; have HO_338001 := n3_; have HO357 := n4_; have HO360 := n5_; have HO363 := n6_; have HO366 := n7_; have BK323 := n8_; have BK337 := n9_; have HB := n10_; have BK368 := n11_; have GW368 := n12_; have GE368 := n13_; have NB323_368 := n14_; have NB368_323 := n15_; have NB337_368 := n16_; have NB368_337 := n17_; clear n0_ n1_ n2_ n3_ n4_ n5_ n6_ n7_ n8_ n9_ n10_ n11_ n12_ n13_ n14_ n15_ n16_ n17_; clear hb hbox hg; obtain ⟨Ao93, co93, eo93⟩ := Kd.S_slice HO363.out; subst eo93; have hnb94 := NB368_323.out; have hnc94 := NB323_368.out; have hnb95 := NB368_337.out; have hnc95 := NB337_368.out; obtain ⟨hcz96_0, hcz96_1, hfz96_0, hfz96_1⟩ := zc2 BK368.out; obtain ⟨Ao97, co97, eo97⟩ := Kd.R_slice HO366.out; subst eo97))
             (try simp only [Act.put, List.setIfInBounds_toArray, List.set_cons_zero, List.set_cons_succ])
             go_cut [113] (fun v113 wc => ∃ (kq : Nat) (x113_80 : Bool), v113 = .bool x113_80 ∧ Aside0 (laws_FnExactNewCore.j2 kq t351 x113_80 t352 t353 = some r) ∧ Aside0 (kq ≤ kj53) ∧ Aside0 (Kd.S k184 184 wc w.heap.size (fun k_ => some k_ ≠ ((.slice Ao24 t319.length co24) : Value).ownBlock ∧ some k_ ≠ ((.slice Ao31 t330.length co31) : Value).ownBlock ∧ some k_ ≠ ((.slice Ao34 t333.length co34) : Value).ownBlock ∧ some k_ ≠ ((.slice Ao93 t361.length co93) : Value).ownBlock ∧ some k_ ≠ ((.slice Ao97 t364.length co97) : Value).ownBlock) (.slice Ao22 t316.length co22) t316) ∧ Aside0 (Kd.R (Kd.int .i64) 3 wc w.heap.size (fun k_ => some k_ ≠ ((.slice Ao34 t333.length co34) : Value).ownBlock ∧ some k_ ≠ ((.slice Ao97 t364.length co97) : Value).ownBlock) (.slice Ao24 t319.length co24) t319) ∧ Aside0 (Kd.S k184 184 wc w.heap.size (fun k_ => some k_ ≠ ((.slice Ao22 t316.length co22) : Value).ownBlock ∧ some k_ ≠ ((.slice Ao24 t319.length co24) : Value).ownBlock ∧ some k_ ≠ ((.slice Ao34 t333.length co34) : Value).ownBlock ∧ some k_ ≠ ((.slice Ao93 t361.length co93) : Value).ownBlock ∧ some k_ ≠ ((.slice Ao97 t364.length co97) : Value).ownBlock) (.slice Ao31 t330.length co31) t352) ∧ Aside0 (Kd.R (Kd.int .i64) 3 wc w.heap.size (fun k_ => some k_ ≠ ((.slice Ao24 t319.length co24) : Value).ownBlock ∧ some k_ ≠ ((.slice Ao97 t364.length co97) : Value).ownBlock) (.slice Ao34 t333.length co34) t353) ∧ Aside0 (Kd.S k184 184 wc w.heap.size (fun k_ => some k_ ≠ ((.slice Ao22 t316.length co22) : Value).ownBlock ∧ some k_ ≠ ((.slice Ao24 t319.length co24) : Value).ownBlock ∧ some k_ ≠ ((.slice Ao31 t330.length co31) : Value).ownBlock ∧ some k_ ≠ ((.slice Ao34 t333.length co34) : Value).ownBlock ∧ some k_ ≠ ((.slice Ao97 t364.length co97) : Value).ownBlock) (.slice Ao93 t361.length co93) t361) ∧ Aside0 (Kd.R (Kd.int .i64) 3 wc w.heap.size (fun k_ => some k_ ≠ ((.slice Ao24 t319.length co24) : Value).ownBlock ∧ some k_ ≠ ((.slice Ao34 t333.length co34) : Value).ownBlock) (.slice Ao97 t364.length co97) t364) ∧ Aside0 (wc.heap[gb323]? = some (.cells #[(.slice Ao22 t316.length co22), (.slice Ao24 t319.length co24)] 45 (0, 0))) ∧ Aside0 (wc.heap[gb337]? = some (.cells #[(.slice Ao31 t330.length co31), (.slice Ao34 t333.length co34)] 45 (0, 0))) ∧ Aside0 (wc.heap[gb368]? = some (.cells #[(.slice Ao93 t361.length co93), (.slice Ao97 t364.length co97)] 45 (0, 0))) ∧ Aside0 (Below w.heap.size w wc))
             case first =>
              have H := HC81.out
              clear HC81
              replace H := Option.bind_eq_some_iff.mp H
              obtain ⟨t369, A980, H⟩ := H
              replace H : (if t369 = true then (laws_FnExactNewCore.j2 kj53 t351 (t367 != t322) t352 t353) else (laws_FnExactNewCore.j2 kj53 t351 true t352 t353)) = some r := H
              have A98 := zQ A980
              clear A980
              by_cases c99 : t369 = true
              ·subst c99
               have H1 : (laws_FnExactNewCore.j2 kj53 t351 (t367 != t322) t352 t353) = some r := by rw [if_pos rfl] at H; exact H
               clear H
               have H := H1
               clear H1
               have H' := zQ H
               clear H
               have hnb100 := NB368_323.out
               have hnc100 := NB323_368.out
               have hnb101 := NB368_337.out
               have hnc101 := NB337_368.out
               obtain ⟨hcz102_0, hcz102_1, hfz102_0, hfz102_1⟩ := zc2 BK368.out
               have hnb103 := NB323_337.out
               have hnc103 := NB337_323.out
               obtain ⟨hcz104_0, hcz104_1, hfz104_0, hfz104_1⟩ := zc2 BK323.out
               go_wp2_with (first | ((with_reducible refine gate_callee (f := 31) rfl ?_); refine goesL_ (some 107) rfl rfl Try.func31 (by kernel_rfl) rfl #[.agg #[.slice Ao93 t361.length co93, .slice Ao97 t364.length co97], .agg #[.slice Ao22 t316.length co22, .slice Ao24 t319.length co24]] rfl zS ?_; (with_reducible refine (laws_eqCore.calls kj53 _ _ t361 _ _ t364 _ _ t316 _ _ t319 true _ ?side1 ?side2 ?side3 ?side4 ?side5 ?side6 ?side7 ?side8 A98.out).mono ?_); (case side1 => refine (Kd.S_reads' (e := 184) (base := w.heap.size) (ok := fun k_ => (((((some k_ ≠ (.slice Ao97 t364.length co97 : Value).ownBlock ∧ some k_ ≠ (.slice Ao22 t316.length co22 : Value).ownBlock) ∧ some k_ ≠ (.slice Ao24 t319.length co24 : Value).ownBlock) ∧ some k_ ≠ (.slice Ao31 t330.length co31 : Value).ownBlock) ∧ some k_ ≠ (.slice Ao34 t333.length co34 : Value).ownBlock) ∧ some k_ ≠ (.slice Ao90 t358.length co90 : Value).ownBlock)) (n := t361.length) (c := co93) ?_).2.2; exact (by (with_reducible repeat (first | apply Kd.S_alloc | apply Kd.S_drewN | apply Kd.S_drew)); exact (zSf2 HO363.out BK368.out (by decide)))); (case side2 => exact (Kd.S_reads' HO363.out).2.1); (case side3 => refine (Kd.R_reads' (e := 3) (base := w.heap.size) (ok := fun k_ => (((True ∧ some k_ ≠ (.slice Ao24 t319.length co24 : Value).ownBlock) ∧ some k_ ≠ (.slice Ao34 t333.length co34 : Value).ownBlock) ∧ some k_ ≠ (.slice Ao90 t358.length co90 : Value).ownBlock)) (n := t364.length) (c := co97) ?_).2.2; exact (by (with_reducible repeat (first | apply Kd.R_alloc | apply Kd.R_drewN | apply Kd.R_drew)); exact (zRf2 HO366.out BK368.out (by decide)))); (case side4 => exact (Kd.R_reads' HO366.out).2.1); (case side5 => refine (Kd.S_reads' (e := 184) (base := w.heap.size) (ok := fun k_ => ((((some k_ ≠ (.slice Ao24 t319.length co24 : Value).ownBlock ∧ (some k_ ≠ (.slice Ao31 t330.length co31 : Value).ownBlock ∧ some k_ ≠ (.slice Ao34 t333.length co34 : Value).ownBlock)) ∧ some k_ ≠ (.slice Ao90 t358.length co90 : Value).ownBlock) ∧ some k_ ≠ (.slice Ao93 t361.length co93 : Value).ownBlock) ∧ some k_ ≠ (.slice Ao97 t364.length co97 : Value).ownBlock)) (n := t316.length) (c := co22) ?_).2.2; exact (by (with_reducible repeat (first | apply Kd.S_alloc | apply Kd.S_drewN | apply Kd.S_drew)); exact (zSf2 HO_324000.out BK368.out (by decide)))); (case side6 => exact (Kd.S_reads' HO_324000.out).2.1); (case side7 => refine (Kd.R_reads' (e := 3) (base := w.heap.size) (ok := fun k_ => ((some k_ ≠ (.slice Ao34 t333.length co34 : Value).ownBlock ∧ some k_ ≠ (.slice Ao90 t358.length co90 : Value).ownBlock) ∧ some k_ ≠ (.slice Ao97 t364.length co97 : Value).ownBlock)) (n := t319.length) (c := co24) ?_).2.2; exact (by (with_reducible repeat (first | apply Kd.R_alloc | apply Kd.R_drewN | apply Kd.R_drew)); exact (zRf2 HO_324001.out BK368.out (by decide)))); (case side8 => exact (Kd.R_reads' HO_324001.out).2.1); rintro e w105 ⟨rfl, hb⟩; refine ⟨_, rfl, ?_⟩; have n0_ := zQ (Kd.S_below (by (with_reducible repeat (first | apply Kd.S_alloc | apply Kd.S_drewN | apply Kd.S_drew)); exact (zSf2 HO_324000.out BK368.out (by decide))) hb); have n1_ := zQ (Kd.R_below (by (with_reducible repeat (first | apply Kd.R_alloc | apply Kd.R_drewN | apply Kd.R_drew)); exact (zRf2 HO_324001.out BK368.out (by decide))) hb); have n2_ := zQ (Kd.S_below (by (with_reducible repeat (first | apply Kd.S_alloc | apply Kd.S_drewN | apply Kd.S_drew)); exact (zSf2 HO_338000.out BK368.out (by decide))) hb); have n3_ := zQ (Kd.R_below (by (with_reducible repeat (first | apply Kd.R_alloc | apply Kd.R_drewN | apply Kd.R_drew)); exact (zRf2 HO_338001.out BK368.out (by decide))) hb); have n4_ := zQ (Kd.S_below (by (with_reducible repeat (first | apply Kd.S_alloc | apply Kd.S_drewN | apply Kd.S_drew)); exact (zSf2 HO357.out BK368.out (by decide))) hb); have n5_ := zQ (Kd.R_below (by (with_reducible repeat (first | apply Kd.R_alloc | apply Kd.R_drewN | apply Kd.R_drew)); exact (zRf2 HO360.out BK368.out (by decide))) hb); have n6_ := zQ (Kd.S_below (by (with_reducible repeat (first | apply Kd.S_alloc | apply Kd.S_drewN | apply Kd.S_drew)); exact (zSf2 HO363.out BK368.out (by decide))) hb); have n7_ := zQ (Kd.R_below (by (with_reducible repeat (first | apply Kd.R_alloc | apply Kd.R_drewN | apply Kd.R_drew)); exact (zRf2 HO366.out BK368.out (by decide))) hb); have n8_ := zQ (zL BK323.out hb); have n9_ := zQ (zL BK337.out hb); have n10_ := zQ (blk_below (g := gb368) (o := .cells #[.slice Ao93 t361.length co93, .slice Ao97 t364.length co97] 45 (0, 0)) (zP BK368.out) hb); have n11_ := zQ (below_step (zB HB.out) hb); clear HO_324000; clear HO_324001; clear HO_338000; clear HO_338001; clear HO357; clear HO360; clear HO363; clear HO366; clear BK323; clear BK337; clear BK368; clear HB; have HO_324000 := n0_; have HO_324001 := n1_; have HO_338000 := n2_; have HO_338001 := n3_; have HO357 := n4_; have HO360 := n5_; have HO363 := n6_; have HO366 := n7_; have BK323 := n8_; have BK337 := n9_; have BK368 := n10_; have HB := n11_; clear n0_ n1_ n2_ n3_ n4_ n5_ n6_ n7_ n8_ n9_ n10_ n11_; (try clear hb); (try clear hb2); (try clear hk); (try clear hi)))
               go_meet
               case rel => exact ⟨_, ((t367 != t322)), (by first | rfl | (simp; done) | (simp [*]; done)), H', ⟨by have := HJ13.out; have := HJ53.out; first | omega | exact Nat.le_refl _⟩, ⟨by (with_reducible repeat (first | apply Kd.S_alloc | apply Kd.S_drewN | apply Kd.S_drew)); exact Kd.S_mono HO_324000.out (fun _ hk => ⟨hk.1.1.1.1, ⟨hk.1.1.1.2.1, ⟨hk.1.1.1.2.2, ⟨hk.1.2, hk.2⟩⟩⟩⟩)⟩, ⟨by (with_reducible repeat (first | apply Kd.R_alloc | apply Kd.R_drewN | apply Kd.R_drew)); exact Kd.R_mono HO_324001.out (fun _ hk => ⟨hk.1.1, hk.2⟩)⟩, ⟨by (with_reducible repeat (first | apply Kd.S_alloc | apply Kd.S_drewN | apply Kd.S_drew)); exact Kd.S_mono HO_338000.out (fun _ hk => ⟨hk.1.1.1.1, ⟨hk.1.1.1.2.1, ⟨hk.1.1.1.2.2, ⟨hk.1.2, hk.2⟩⟩⟩⟩)⟩, ⟨by (with_reducible repeat (first | apply Kd.R_alloc | apply Kd.R_drewN | apply Kd.R_drew)); exact Kd.R_mono HO_338001.out (fun _ hk => ⟨hk.1.1, hk.2⟩)⟩, ⟨by (with_reducible repeat (first | apply Kd.S_alloc | apply Kd.S_drewN | apply Kd.S_drew)); exact Kd.S_mono HO363.out (fun _ hk => ⟨hk.1.1.1.1.2, ⟨hk.1.1.1.2, ⟨hk.1.1.2, ⟨hk.1.2, hk.1.1.1.1.1⟩⟩⟩⟩)⟩, ⟨by (with_reducible repeat (first | apply Kd.R_alloc | apply Kd.R_drewN | apply Kd.R_drew)); exact Kd.R_mono HO366.out (fun _ hk => ⟨hk.1.1.2, hk.1.2⟩)⟩, ⟨by (with_reducible repeat (first | refine blk_drewN ?_ _ | refine blk_drew ?_ | refine blk_alloc ?_ _)); exact BK323.out⟩, ⟨by (with_reducible repeat (first | refine blk_drewN ?_ _ | refine blk_drew ?_ | refine blk_alloc ?_ _)); exact BK337.out⟩, ⟨by (with_reducible repeat (first | refine blk_drewN ?_ _ | refine blk_drew ?_ | refine blk_alloc ?_ _)); exact BK368.out⟩, ⟨zB HB.out⟩⟩
              ·replace c99 := Bool.eq_false_iff.mpr c99
               subst c99
               have H1 : (laws_FnExactNewCore.j2 kj53 t351 true t352 t353) = some r := by rw [if_neg (show ¬ (false = true) by decide)] at H; exact H
               clear H
               have H := H1
               clear H1
               have H' := zQ H
               clear H
               have hnb106 := NB368_323.out
               have hnc106 := NB323_368.out
               have hnb107 := NB368_337.out
               have hnc107 := NB337_368.out
               obtain ⟨hcz108_0, hcz108_1, hfz108_0, hfz108_1⟩ := zc2 BK368.out
               have hnb109 := NB323_337.out
               have hnc109 := NB337_323.out
               obtain ⟨hcz110_0, hcz110_1, hfz110_0, hfz110_1⟩ := zc2 BK323.out
               go_wp2_with (first | ((with_reducible refine gate_callee (f := 31) rfl ?_); refine goesL_ (some 107) rfl rfl Try.func31 (by kernel_rfl) rfl #[.agg #[.slice Ao93 t361.length co93, .slice Ao97 t364.length co97], .agg #[.slice Ao22 t316.length co22, .slice Ao24 t319.length co24]] rfl zS ?_; (with_reducible refine (laws_eqCore.calls kj53 _ _ t361 _ _ t364 _ _ t316 _ _ t319 false _ ?side1 ?side2 ?side3 ?side4 ?side5 ?side6 ?side7 ?side8 A98.out).mono ?_); (case side1 => refine (Kd.S_reads' (e := 184) (base := w.heap.size) (ok := fun k_ => (((((some k_ ≠ (.slice Ao97 t364.length co97 : Value).ownBlock ∧ some k_ ≠ (.slice Ao22 t316.length co22 : Value).ownBlock) ∧ some k_ ≠ (.slice Ao24 t319.length co24 : Value).ownBlock) ∧ some k_ ≠ (.slice Ao31 t330.length co31 : Value).ownBlock) ∧ some k_ ≠ (.slice Ao34 t333.length co34 : Value).ownBlock) ∧ some k_ ≠ (.slice Ao90 t358.length co90 : Value).ownBlock)) (n := t361.length) (c := co93) ?_).2.2; exact (by (with_reducible repeat (first | apply Kd.S_alloc | apply Kd.S_drewN | apply Kd.S_drew)); exact (zSf2 HO363.out BK368.out (by decide)))); (case side2 => exact (Kd.S_reads' HO363.out).2.1); (case side3 => refine (Kd.R_reads' (e := 3) (base := w.heap.size) (ok := fun k_ => (((True ∧ some k_ ≠ (.slice Ao24 t319.length co24 : Value).ownBlock) ∧ some k_ ≠ (.slice Ao34 t333.length co34 : Value).ownBlock) ∧ some k_ ≠ (.slice Ao90 t358.length co90 : Value).ownBlock)) (n := t364.length) (c := co97) ?_).2.2; exact (by (with_reducible repeat (first | apply Kd.R_alloc | apply Kd.R_drewN | apply Kd.R_drew)); exact (zRf2 HO366.out BK368.out (by decide)))); (case side4 => exact (Kd.R_reads' HO366.out).2.1); (case side5 => refine (Kd.S_reads' (e := 184) (base := w.heap.size) (ok := fun k_ => ((((some k_ ≠ (.slice Ao24 t319.length co24 : Value).ownBlock ∧ (some k_ ≠ (.slice Ao31 t330.length co31 : Value).ownBlock ∧ some k_ ≠ (.slice Ao34 t333.length co34 : Value).ownBlock)) ∧ some k_ ≠ (.slice Ao90 t358.length co90 : Value).ownBlock) ∧ some k_ ≠ (.slice Ao93 t361.length co93 : Value).ownBlock) ∧ some k_ ≠ (.slice Ao97 t364.length co97 : Value).ownBlock)) (n := t316.length) (c := co22) ?_).2.2; exact (by (with_reducible repeat (first | apply Kd.S_alloc | apply Kd.S_drewN | apply Kd.S_drew)); exact (zSf2 HO_324000.out BK368.out (by decide)))); (case side6 => exact (Kd.S_reads' HO_324000.out).2.1); (case side7 => refine (Kd.R_reads' (e := 3) (base := w.heap.size) (ok := fun k_ => ((some k_ ≠ (.slice Ao34 t333.length co34 : Value).ownBlock ∧ some k_ ≠ (.slice Ao90 t358.length co90 : Value).ownBlock) ∧ some k_ ≠ (.slice Ao97 t364.length co97 : Value).ownBlock)) (n := t319.length) (c := co24) ?_).2.2; exact (by (with_reducible repeat (first | apply Kd.R_alloc | apply Kd.R_drewN | apply Kd.R_drew)); exact (zRf2 HO_324001.out BK368.out (by decide)))); (case side8 => exact (Kd.R_reads' HO_324001.out).2.1); rintro e w111 ⟨rfl, hb⟩; refine ⟨_, rfl, ?_⟩; have n0_ := zQ (Kd.S_below (by (with_reducible repeat (first | apply Kd.S_alloc | apply Kd.S_drewN | apply Kd.S_drew)); exact (zSf2 HO_324000.out BK368.out (by decide))) hb); have n1_ := zQ (Kd.R_below (by (with_reducible repeat (first | apply Kd.R_alloc | apply Kd.R_drewN | apply Kd.R_drew)); exact (zRf2 HO_324001.out BK368.out (by decide))) hb); have n2_ := zQ (Kd.S_below (by (with_reducible repeat (first | apply Kd.S_alloc | apply Kd.S_drewN | apply Kd.S_drew)); exact (zSf2 HO_338000.out BK368.out (by decide))) hb); have n3_ := zQ (Kd.R_below (by (with_reducible repeat (first | apply Kd.R_alloc | apply Kd.R_drewN | apply Kd.R_drew)); exact (zRf2 HO_338001.out BK368.out (by decide))) hb); have n4_ := zQ (Kd.S_below (by (with_reducible repeat (first | apply Kd.S_alloc | apply Kd.S_drewN | apply Kd.S_drew)); exact (zSf2 HO357.out BK368.out (by decide))) hb); have n5_ := zQ (Kd.R_below (by (with_reducible repeat (first | apply Kd.R_alloc | apply Kd.R_drewN | apply Kd.R_drew)); exact (zRf2 HO360.out BK368.out (by decide))) hb); have n6_ := zQ (Kd.S_below (by (with_reducible repeat (first | apply Kd.S_alloc | apply Kd.S_drewN | apply Kd.S_drew)); exact (zSf2 HO363.out BK368.out (by decide))) hb); have n7_ := zQ (Kd.R_below (by (with_reducible repeat (first | apply Kd.R_alloc | apply Kd.R_drewN | apply Kd.R_drew)); exact (zRf2 HO366.out BK368.out (by decide))) hb); have n8_ := zQ (zL BK323.out hb); have n9_ := zQ (zL BK337.out hb); have n10_ := zQ (blk_below (g := gb368) (o := .cells #[.slice Ao93 t361.length co93, .slice Ao97 t364.length co97] 45 (0, 0)) (zP BK368.out) hb); have n11_ := zQ (below_step (zB HB.out) hb); clear HO_324000; clear HO_324001; clear HO_338000; clear HO_338001; clear HO357; clear HO360; clear HO363; clear HO366; clear BK323; clear BK337; clear BK368; clear HB; have HO_324000 := n0_; have HO_324001 := n1_; have HO_338000 := n2_; have HO_338001 := n3_; have HO357 := n4_; have HO360 := n5_; have HO363 := n6_; have HO366 := n7_; have BK323 := n8_; have BK337 := n9_; have BK368 := n10_; have HB := n11_; clear n0_ n1_ n2_ n3_ n4_ n5_ n6_ n7_ n8_ n9_ n10_ n11_; (try clear hb); (try clear hb2); (try clear hk); (try clear hi)))
               go_meet
               case rel => exact ⟨_, (true), (by first | rfl | (simp; done) | (simp [*]; done)), H', ⟨by have := HJ13.out; have := HJ53.out; first | omega | exact Nat.le_refl _⟩, ⟨by (with_reducible repeat (first | apply Kd.S_alloc | apply Kd.S_drewN | apply Kd.S_drew)); exact Kd.S_mono HO_324000.out (fun _ hk => ⟨hk.1.1.1.1, ⟨hk.1.1.1.2.1, ⟨hk.1.1.1.2.2, ⟨hk.1.2, hk.2⟩⟩⟩⟩)⟩, ⟨by (with_reducible repeat (first | apply Kd.R_alloc | apply Kd.R_drewN | apply Kd.R_drew)); exact Kd.R_mono HO_324001.out (fun _ hk => ⟨hk.1.1, hk.2⟩)⟩, ⟨by (with_reducible repeat (first | apply Kd.S_alloc | apply Kd.S_drewN | apply Kd.S_drew)); exact Kd.S_mono HO_338000.out (fun _ hk => ⟨hk.1.1.1.1, ⟨hk.1.1.1.2.1, ⟨hk.1.1.1.2.2, ⟨hk.1.2, hk.2⟩⟩⟩⟩)⟩, ⟨by (with_reducible repeat (first | apply Kd.R_alloc | apply Kd.R_drewN | apply Kd.R_drew)); exact Kd.R_mono HO_338001.out (fun _ hk => ⟨hk.1.1, hk.2⟩)⟩, ⟨by (with_reducible repeat (first | apply Kd.S_alloc | apply Kd.S_drewN | apply Kd.S_drew)); exact Kd.S_mono HO363.out (fun _ hk => ⟨hk.1.1.1.1.2, ⟨hk.1.1.1.2, ⟨hk.1.1.2, ⟨hk.1.2, hk.1.1.1.1.1⟩⟩⟩⟩)⟩, ⟨by (with_reducible repeat (first | apply Kd.R_alloc | apply Kd.R_drewN | apply Kd.R_drew)); exact Kd.R_mono HO366.out (fun _ hk => ⟨hk.1.1.2, hk.1.2⟩)⟩, ⟨by (with_reducible repeat (first | refine blk_drewN ?_ _ | refine blk_drew ?_ | refine blk_alloc ?_ _)); exact BK323.out⟩, ⟨by (with_reducible repeat (first | refine blk_drewN ?_ _ | refine blk_drew ?_ | refine blk_alloc ?_ _)); exact BK337.out⟩, ⟨by (with_reducible repeat (first | refine blk_drewN ?_ _ | refine blk_drew ?_ | refine blk_alloc ?_ _)); exact BK368.out⟩, ⟨zB HB.out⟩⟩
             case rest =>
              clear HC81
              try clear c1
              try clear c2
              try clear p2
              try clear c3
              try clear c4
              try clear c4b0
              try clear c4b1
              try clear c5
              try clear c6
              try clear c6b0
              try clear c7
              try clear c8
              try clear c9
              try clear c10
              try clear c15
              try clear c19
              try clear c21
              try clear c27
              try clear c28
              try clear c29
              try clear c30
              try clear c31
              try clear c32
              try clear c33
              try clear c34
              try clear c35
              try clear c36
              try clear c37
              try clear c41
              try clear c45
              try clear c48
              try clear c51
              try clear c62
              try clear c62b0
              try clear c64
              try clear c65
              try clear c69
              try clear c73
              try clear c76
              try clear c76b0
              try clear c77
              try clear c77b0
              try clear c77b1
              try clear c82
              try clear c94
              try clear c95
              try clear c99
              try clear c100
              try clear c101
              try clear c103
              try clear c106
              try clear c107
              try clear c109
              try clear hcz102_0
              try clear hcz102_1
              try clear hcz104_0
              try clear hcz104_1
              try clear hcz108_0
              try clear hcz108_1
              try clear hcz110_0
              try clear hcz110_1
              try clear hcz23_0
              try clear hcz23_1
              try clear hcz33_0
              try clear hcz33_1
              try clear hcz38_0
              try clear hcz38_1
              try clear hcz39_0
              try clear hcz39_1
              try clear hcz42_0
              try clear hcz42_1
              try clear hcz43_0
              try clear hcz43_1
              try clear hcz66_0
              try clear hcz66_1
              try clear hcz67_0
              try clear hcz67_1
              try clear hcz70_0
              try clear hcz70_1
              try clear hcz71_0
              try clear hcz71_1
              try clear hcz83_0
              try clear hcz83_1
              try clear hcz85_0
              try clear hcz85_1
              try clear hcz96_0
              try clear hcz96_1
              try clear hfz102_0
              try clear hfz102_1
              try clear hfz104_0
              try clear hfz104_1
              try clear hfz108_0
              try clear hfz108_1
              try clear hfz110_0
              try clear hfz110_1
              try clear hfz23_0
              try clear hfz23_1
              try clear hfz33_0
              try clear hfz33_1
              try clear hfz38_0
              try clear hfz38_1
              try clear hfz39_0
              try clear hfz39_1
              try clear hfz42_0
              try clear hfz42_1
              try clear hfz43_0
              try clear hfz43_1
              try clear hfz66_0
              try clear hfz66_1
              try clear hfz67_0
              try clear hfz67_1
              try clear hfz70_0
              try clear hfz70_1
              try clear hfz71_0
              try clear hfz71_1
              try clear hfz83_0
              try clear hfz83_1
              try clear hfz85_0
              try clear hfz85_1
              try clear hfz96_0
              try clear hfz96_1
              try clear p2
              obtain ⟨kq, x113_80, rfl, HA, HJ80, HO_324000, HO_324001, HO_338000, HO_338001, HO_369000, HO_369001, BK323, BK337, BK368, HB⟩ := hcut
              have hl338000_80 := (Kd.S_reads' HO_338000.out).1
              rw [hl338000_80] at HO_338000
              (try simp only [hl338000_80])
              (try simp only [hl338000_80] at BK323)
              (try simp only [hl338000_80] at BK337)
              (try simp only [hl338000_80] at BK368)
              (try simp only [hl338000_80] at HO_324000)
              (try simp only [hl338000_80] at HO_324001)
              (try simp only [hl338000_80] at HO_338001)
              (try simp only [hl338000_80] at HO_369000)
              (try simp only [hl338000_80] at HO_369001)
              have hl338001_80 := (Kd.R_reads' HO_338001.out).1
              rw [hl338001_80] at HO_338001
              (try simp only [hl338001_80])
              (try simp only [hl338001_80] at BK323)
              (try simp only [hl338001_80] at BK337)
              (try simp only [hl338001_80] at BK368)
              (try simp only [hl338001_80] at HO_324000)
              (try simp only [hl338001_80] at HO_324001)
              (try simp only [hl338001_80] at HO_338000)
              (try simp only [hl338001_80] at HO_369000)
              (try simp only [hl338001_80] at HO_369001)
              cases kq with
              | zero => exact absurd HA.out (by simp [laws_FnExactNewCore.j2])
              | succ kj80 =>
               have H := HA.out
               clear HA
               simp only [laws_FnExactNewCore.j2] at H
               by_cases c112 : x113_80 = true
               ·subst c112
                have H1 : (some false) = some r := by rw [if_pos rfl] at H; exact H
                clear H
                have H := H1
                clear H1
                exact absurd ((Option.some.inj H).trans hlaw_.out) (by decide)
               ·replace c112 := Bool.eq_false_iff.mpr c112
                subst c112
                have H1 : ((laws_heldCore.f kj80 t352 t353 1).bind fun t370 => (if t370 < 0 then (some false) else (if t370 = t351 then (some true) else (some false)))) = some r := by rw [if_neg (show ¬ (false = true) by decide)] at H; exact H
                clear H
                have H := H1
                clear H1
                replace H := Option.bind_eq_some_iff.mp H
                obtain ⟨t370, A1130, H⟩ := H
                replace H : (if t370 < 0 then (some false) else (if t370 = t351 then (some true) else (some false))) = some r := H
                have A113 := zQ A1130
                clear A1130
                by_cases c114 : t370 < 0
                ·rw [if_pos c114] at H
                 have c114b0 : decide (t370 < 0) = true := decide_eq_true c114
                 clear c114
                 exact absurd ((Option.some.inj H).trans hlaw_.out) (by decide)
                ·rw [if_neg c114] at H
                 have c114b0 : decide (t370 < 0) = false := decide_eq_false c114
                 clear c114
                 by_cases c115 : t370 = t351
                 ·rw [if_pos c115] at H
                  have c115b0 : (t370 == t351) = true := beq_iff_eq.mpr c115
                  have c115b1 : (t370 != t351) = false := bne_eq_false_iff_eq.mpr c115
                  clear c115
                  obtain rfl := Option.some.inj H
                  have hnb116 := NB337_323.out
                  have hnc116 := NB323_337.out
                  have hnb117 := NB337_368.out
                  have hnc117 := NB368_337.out
                  obtain ⟨hcz118_0, hcz118_1, hfz118_0, hfz118_1⟩ := zc2 BK337.out
                  go_wp2_with (first | ((with_reducible refine gate_callee (f := 35) rfl ?_); refine goesL_ (some 116) rfl rfl Try.func35 (by kernel_rfl) rfl #[.agg #[.slice Ao31 t352.length co31, .slice Ao34 t353.length co34], .int .i64 1] rfl zS ?_; (with_reducible refine (laws_heldCore.calls kj80 _ _ t352 _ _ t353 1 t370 _ ?side1 ?side2 ?side3 ?side4 A113.out).mono ?_); (case side1 => repeat (first | exact (Kd.S_reads' HO_338000.out).2.2 | (with_reducible refine Kd.C_alloc ?_ _) | (with_reducible refine Kd.C_drewN ?_ _) | (with_reducible refine Kd.C_drew ?_))); (case side2 => exact (Kd.S_reads' HO_338000.out).2.1); (case side3 => exact zC (Kd.R_reads' HO_338001.out).2.2); (case side4 => exact (Kd.R_reads' HO_338001.out).2.1); rintro e w119 ⟨rfl, hb⟩; refine ⟨_, rfl, ?_⟩; have n0_ := zQ (Kd.S_below (by (with_reducible repeat (first | apply Kd.S_alloc | apply Kd.S_drewN | apply Kd.S_drew)); exact HO_324000.out) hb); have n1_ := zQ (Kd.R_below (zR HO_324001.out) hb); have n2_ := zQ (Kd.S_below (by (with_reducible repeat (first | apply Kd.S_alloc | apply Kd.S_drewN | apply Kd.S_drew)); exact HO_338000.out) hb); have n3_ := zQ (Kd.R_below (zR HO_338001.out) hb); have n4_ := zQ (Kd.S_below (by (with_reducible repeat (first | apply Kd.S_alloc | apply Kd.S_drewN | apply Kd.S_drew)); exact HO_369000.out) hb); have n5_ := zQ (Kd.R_below (zR HO_369001.out) hb); have n6_ := zQ (zL BK323.out hb); have n7_ := zQ (zL BK337.out hb); have n8_ := zQ (zL BK368.out hb); have n9_ := zQ (below_step (zB HB.out) hb); clear HO_324000; clear HO_324001; clear HO_338000; clear HO_338001; clear HO_369000; clear HO_369001; clear BK323; clear BK337; clear BK368; clear HB; have HO_324000 := n0_; have HO_324001 := n1_; have HO_338000 := n2_; have HO_338001 := n3_; have HO_369000 := n4_; have HO_369001 := n5_; have BK323 := n6_; have BK337 := n7_; have BK368 := n8_; have HB := n9_; clear n0_ n1_ n2_ n3_ n4_ n5_ n6_ n7_ n8_ n9_; (try clear hb); (try clear hb2); (try clear hk); (try clear hi)))
                  go_ret
                  exact ⟨by first | rfl | (simp [errW_none, errW_some] <;> rfl) | (simp [*, errW_none, errW_some] <;> rfl), zB HB.out⟩
                 ·rw [if_neg c115] at H
                  have c115b0 : (t370 == t351) = false := beq_eq_false_iff_ne.mpr c115
                  have c115b1 : (t370 != t351) = true := bne_iff_ne.mpr c115
                  exact absurd ((Option.some.inj H).trans hlaw_.out) (by decide)
            ·rw [if_neg c77] at H
             have c77b0 : (t354 == t351) = false := beq_eq_false_iff_ne.mpr c77
             have c77b1 : (t354 != t351) = true := bne_iff_ne.mpr c77
             exact absurd ((Option.some.inj H).trans hlaw_.out) (by decide)
       ·replace c51 := Bool.eq_false_iff.mpr c51
        subst c51
        have H1 : (some false) = some r := by rw [if_neg (show ¬ (false = true) by decide)] at H; exact H
        clear H
        have H := H1
        clear H1
        exact absurd ((Option.some.inj H).trans hlaw_.out) (by decide)
      ·replace c48 := Bool.eq_false_iff.mpr c48
       subst c48
       have H1 : (some false) = some r := by rw [if_neg (show ¬ (false = true) by decide)] at H; exact H
       clear H
       have H := H1
       clear H1
       exact absurd ((Option.some.inj H).trans hlaw_.out) (by decide)

def wf88 (x : S88) : Prop := (fun a => (Lit.int .i64 a).wf = true) x.f0 ∧ (fun a => (Lit.int .i64 a).wf = true) x.f1
def wf117 (x : S117) : Prop := (fun l => l.length ≤ maxLen ∧ ∀ a ∈ l, wf88 a) x.f0
/-- THE ONE PURE STATEMENT of laws_FnExactNewCore: mine. -/
def laws_FnExactNewCore.Pure : Prop := ∀ (l0 : List (S117)) (l1 : List Int) (a2 : Int), (fun l => l.length ≤ maxLen ∧ ∀ a ∈ l, wf117 a) l0 → (fun l => l.length ≤ maxLen ∧ ∀ a ∈ l, (fun a => (Lit.int .i64 a).wf = true) a) l1 → (fun a => (Lit.int .i64 a).wf = true) a2 → ∃ k, laws_FnExactNewCore.f k l0 l1 a2 = some true

end Go.Proofs.Ytkegjmkdnfpfdaa.MFnExactNewCore

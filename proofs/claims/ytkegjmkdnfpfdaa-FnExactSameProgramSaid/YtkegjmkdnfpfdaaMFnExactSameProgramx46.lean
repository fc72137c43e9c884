-- By a program of this session.
import Derived.Test.YtkegjmkdnfpfdaaMFnExactSameProgramx0
import Derived.Test.YtkegjmkdnfpfdaaMFnExactSameProgramx4
import Derived.Test.YtkegjmkdnfpfdaaMFnExactSameProgramx6
import Derived.Test.YtkegjmkdnfpfdaaMFnExactSameProgramx13
import Derived.Test.YtkegjmkdnfpfdaaMFnExactSameProgramx29
import Derived.Test.YtkegjmkdnfpfdaaMFnExactSameProgramx45
namespace Go.Proofs.Ytkegjmkdnfpfdaa.MFnExactSameProgram
open Go.RowKit Go.Proofs.YtkegjmkdnfpfdaaW.PrintWords Go.Proofs.YtkegjmkdnfpfdaaW.PrintLast Go.Proofs.YtkegjmkdnfpfdaaW.PrintMore
attribute [local go_sem] max2_int min2_int max_two min_two max_three min_three max_four min_four
set_option linter.unusedVariables false
set_option linter.unusedSimpArgs false
set_option maxHeartbeats 8000000
set_option maxRecDepth 100000

/-! ### laws_FnExactSameProgram: function 7 -/
def laws_FnExactSameProgram.f (k : Nat) (l0_0 : List Int) (l0_1 : List (S117)) (l0_2 : List (S189)) (l0_3 : List Bool) (l1_0 : List Int) (l1_1 : List (S117)) (l1_2 : List (S189)) (l1_3 : List Bool) : Option (Bool) := (laws_szProgram.f k l0_0 l0_1 l0_2 l0_3 1048576).bind fun t359 => (if t359 < 0 then (some true) else ((laws_szProgram.f k l1_0 l1_1 l1_2 l1_3 t359).bind fun t360 => (if t360 < 0 then (some true) else ((laws_toProgram.f k l0_0 l0_1 l0_2 l0_3).bind fun bt361 => ((laws_toProgram.f k l1_0 l1_1 l1_2 l1_3).bind fun bt373 => ((spec_SameProgram.f k bt361.1 bt361.2.1 bt361.2.2.1 bt361.2.2.2 bt373.1 bt373.2.1 bt373.2.2.1 bt373.2.2.2).bind fun t385 => ((laws_toProgram.f k l0_0 l0_1 l0_2 l0_3).bind fun bt386 => ((laws_toProgram.f k l1_0 l1_1 l1_2 l1_3).bind fun bt399 => ((impl_SameProgram.f k bt386.1 bt386.2.1 bt386.2.2.1 bt386.2.2.2 bt399.1 bt399.2.1 bt399.2.2.1 bt399.2.2.2).bind fun t412 => (if (t412 != t385) = true then (some false) else ((laws_toProgram.f k l0_0 l0_1 l0_2 l0_3).bind fun bt413 => ((laws_eqProgram.f k bt386.1 bt386.2.1 bt386.2.2.1 bt386.2.2.2 bt413.1 bt413.2.1 bt413.2.2.1 bt413.2.2.2).bind fun t425 => (if t425 = true then ((laws_toProgram.f k l1_0 l1_1 l1_2 l1_3).bind fun bt426 => ((laws_eqProgram.f k bt399.1 bt399.2.1 bt399.2.2.1 bt399.2.2.2 bt426.1 bt426.2.1 bt426.2.2.1 bt426.2.2.2).bind fun t438 => (if t438 = true then (some true) else (some false)))) else (some false))))))))))))))
theorem laws_FnExactSameProgram.mono : ∀ a0 a1 a2 a3 a4 a5 a6 a7 k, LeO (laws_FnExactSameProgram.f k a0 a1 a2 a3 a4 a5 a6 a7) (laws_FnExactSameProgram.f (k + 1) a0 a1 a2 a3 a4 a5 a6 a7) := by
 intro a0 a1 a2 a3 a4 a5 a6 a7 k
 unfold laws_FnExactSameProgram.f
 repeat' first
  | (with_reducible exact impl_SameProgram.mono _ _ _ _ _ _ _ _ _)
  | (with_reducible exact laws_eqProgram.mono _ _ _ _ _ _ _ _ _)
  | (with_reducible exact laws_szProgram.mono _ _ _ _ _ _)
  | (with_reducible exact laws_toProgram.mono _ _ _ _ _)
  | (with_reducible exact spec_SameProgram.mono _ _ _ _ _ _ _ _ _)
  | (with_reducible exact LeO.refl _)
  | (with_reducible exact LeO.none _)
  | (with_reducible refine LeO.ite ?_ ?_)
  | (with_reducible refine LeO.bind ?_ (fun _ => ?_))
theorem laws_FnExactSameProgram.calls (k : Nat) (A0_0 : Option Addr) (c0_0 : Nat) (l0_0 : List Int) (A0_1 : Option Addr) (c0_1 : Nat) (l0_1 : List (S117)) (A0_2 : Option Addr) (c0_2 : Nat) (l0_2 : List (S189)) (A0_3 : Option Addr) (c0_3 : Nat) (l0_3 : List Bool) (A1_0 : Option Addr) (c1_0 : Nat) (l1_0 : List Int) (A1_1 : Option Addr) (c1_1 : Nat) (l1_1 : List (S117)) (A1_2 : Option Addr) (c1_2 : Nat) (l1_2 : List (S189)) (A1_3 : Option Addr) (c1_3 : Nat) (l1_3 : List Bool) (r : Bool) (w : World) (hr0_0 : Kd.C (Kd.int .i64) w A0_0 l0_0.length l0_0) (hc0_0 : l0_0.length ≤ c0_0) (hr0_1 : Kd.C k117 w A0_1 l0_1.length l0_1) (hc0_1 : l0_1.length ≤ c0_1) (hr0_2 : Kd.C k189 w A0_2 l0_2.length l0_2) (hc0_2 : l0_2.length ≤ c0_2) (hr0_3 : Kd.C Kd.bool w A0_3 l0_3.length l0_3) (hc0_3 : l0_3.length ≤ c0_3) (hr1_0 : Kd.C (Kd.int .i64) w A1_0 l1_0.length l1_0) (hc1_0 : l1_0.length ≤ c1_0) (hr1_1 : Kd.C k117 w A1_1 l1_1.length l1_1) (hc1_1 : l1_1.length ≤ c1_1) (hr1_2 : Kd.C k189 w A1_2 l1_2.length l1_2) (hc1_2 : l1_2.length ≤ c1_2) (hr1_3 : Kd.C Kd.bool w A1_3 l1_3.length l1_3) (hc1_3 : l1_3.length ≤ c1_3) (h : laws_FnExactSameProgram.f k l0_0 l0_1 l0_2 l0_3 l1_0 l1_1 l1_2 l1_3 = some r) (hlaw0 : r = true) :
 Calls Try.prog 7 #[.agg #[.slice A0_0 l0_0.length c0_0, .slice A0_1 l0_1.length c0_1, .slice A0_2 l0_2.length c0_2, .slice A0_3 l0_3.length c0_3], .agg #[.slice A1_0 l1_0.length c1_0, .slice A1_1 l1_1.length c1_1, .slice A1_2 l1_2.length c1_2, .slice A1_3 l1_3.length c1_3]] w fun e w' => e = .returned (.bool r) ∧ Below w.heap.size w w' := by
 have hu58 := Try.underlying58
 have hu64 := Try.underlying64
 have HR0_0 := zQ hr0_0
 have HC0_0 := zQ hc0_0
 clear hr0_0 hc0_0
 have HR0_1 := zQ hr0_1
 have HC0_1 := zQ hc0_1
 clear hr0_1 hc0_1
 have HR0_2 := zQ hr0_2
 have HC0_2 := zQ hc0_2
 clear hr0_2 hc0_2
 have HR0_3 := zQ hr0_3
 have HC0_3 := zQ hc0_3
 clear hr0_3 hc0_3
 have HR1_0 := zQ hr1_0
 have HC1_0 := zQ hc1_0
 clear hr1_0 hc1_0
 have HR1_1 := zQ hr1_1
 have HC1_1 := zQ hc1_1
 clear hr1_1 hc1_1
 have HR1_2 := zQ hr1_2
 have HC1_2 := zQ hc1_2
 clear hr1_2 hc1_2
 have HR1_3 := zQ hr1_3
 have HC1_3 := zQ hc1_3
 clear hr1_3 hc1_3
 have HB := zQ (Below.refl w.heap.size w)
 have hlaw_ := zQ hlaw0
 clear hlaw0
 have H : ((laws_szProgram.f k l0_0 l0_1 l0_2 l0_3 1048576).bind fun t359 => (if t359 < 0 then (some true) else ((laws_szProgram.f k l1_0 l1_1 l1_2 l1_3 t359).bind fun t360 => (if t360 < 0 then (some true) else ((laws_toProgram.f k l0_0 l0_1 l0_2 l0_3).bind fun bt361 => ((laws_toProgram.f k l1_0 l1_1 l1_2 l1_3).bind fun bt373 => ((spec_SameProgram.f k bt361.1 bt361.2.1 bt361.2.2.1 bt361.2.2.2 bt373.1 bt373.2.1 bt373.2.2.1 bt373.2.2.2).bind fun t385 => ((laws_toProgram.f k l0_0 l0_1 l0_2 l0_3).bind fun bt386 => ((laws_toProgram.f k l1_0 l1_1 l1_2 l1_3).bind fun bt399 => ((impl_SameProgram.f k bt386.1 bt386.2.1 bt386.2.2.1 bt386.2.2.2 bt399.1 bt399.2.1 bt399.2.2.1 bt399.2.2.2).bind fun t412 => (if (t412 != t385) = true then (some false) else ((laws_toProgram.f k l0_0 l0_1 l0_2 l0_3).bind fun bt413 => ((laws_eqProgram.f k bt386.1 bt386.2.1 bt386.2.2.1 bt386.2.2.2 bt413.1 bt413.2.1 bt413.2.2.1 bt413.2.2.2).bind fun t425 => (if t425 = true then ((laws_toProgram.f k l1_0 l1_1 l1_2 l1_3).bind fun bt426 => ((laws_eqProgram.f k bt399.1 bt399.2.1 bt399.2.2.1 bt399.2.2.2 bt426.1 bt426.2.1 bt426.2.2.1 bt426.2.2.2).bind fun t438 => (if t438 = true then (some true) else (some false)))) else (some false))))))))))))))) = some r := h
 clear h
 replace H := Option.bind_eq_some_iff.mp H
 obtain ⟨t359, A30, H⟩ := H
 replace H : (if t359 < 0 then (some true) else ((laws_szProgram.f k l1_0 l1_1 l1_2 l1_3 t359).bind fun t360 => (if t360 < 0 then (some true) else ((laws_toProgram.f k l0_0 l0_1 l0_2 l0_3).bind fun bt361 => ((laws_toProgram.f k l1_0 l1_1 l1_2 l1_3).bind fun bt373 => ((spec_SameProgram.f k bt361.1 bt361.2.1 bt361.2.2.1 bt361.2.2.2 bt373.1 bt373.2.1 bt373.2.2.1 bt373.2.2.2).bind fun t385 => ((laws_toProgram.f k l0_0 l0_1 l0_2 l0_3).bind fun bt386 => ((laws_toProgram.f k l1_0 l1_1 l1_2 l1_3).bind fun bt399 => ((impl_SameProgram.f k bt386.1 bt386.2.1 bt386.2.2.1 bt386.2.2.2 bt399.1 bt399.2.1 bt399.2.2.1 bt399.2.2.2).bind fun t412 => (if (t412 != t385) = true then (some false) else ((laws_toProgram.f k l0_0 l0_1 l0_2 l0_3).bind fun bt413 => ((laws_eqProgram.f k bt386.1 bt386.2.1 bt386.2.2.1 bt386.2.2.2 bt413.1 bt413.2.1 bt413.2.2.1 bt413.2.2.2).bind fun t425 => (if t425 = true then ((laws_toProgram.f k l1_0 l1_1 l1_2 l1_3).bind fun bt426 => ((laws_eqProgram.f k bt399.1 bt399.2.1 bt399.2.2.1 bt399.2.2.2 bt426.1 bt426.2.1 bt426.2.2.1 bt426.2.2.2).bind fun t438 => (if t438 = true then (some true) else (some false)))) else (some false)))))))))))))) = some r := H
 have A3 := zQ A30
 clear A30
 by_cases c4 : t359 < 0
 ·rw [if_pos c4] at H
  have c4b0 : decide (t359 < 0) = true := decide_eq_true c4
  clear c4
  obtain rfl := Option.some.inj H
  go_enter Try.func7, Try.ntmps7
  go_wp2_with (first | ((with_reducible refine gate_dst (N := 2) rfl ?_); refine box_event ?hg (N := 2) ?hd (cs := #[.slice A0_0 l0_0.length c0_0, .slice A0_1 l0_1.length c0_1, .slice A0_2 l0_2.length c0_2, .slice A0_3 l0_3.length c0_3]) (t := 58) ?hr ?_; (case hd => rfl); (case hg => rfl); (case hr => first | (go_simp; done) | (go_simp; rfl)); intro gb357 hg w5 hbox hb; have n0_ := zQ (below_step (zB HB.out) hb); have n1_ := zQ (hbox); have n2_ := zQ ((zG hg HB.out)); have n3_ := zQ ((zG hg HB.out)); clear HB; have HB := n0_; have BK357 := n1_; have GW357 := n2_; have GE357 := n3_; clear n0_ n1_ n2_ n3_; clear hb hbox hg) | ((with_reducible refine gate_dst (N := 3) rfl ?_); refine box_event ?hg (N := 3) ?hd (cs := #[.slice A1_0 l1_0.length c1_0, .slice A1_1 l1_1.length c1_1, .slice A1_2 l1_2.length c1_2, .slice A1_3 l1_3.length c1_3]) (t := 58) ?hr ?_; (case hd => rfl); (case hg => rfl); (case hr => first | (go_simp; done) | (go_simp; rfl)); intro gb358 hg w6 hbox hb; have n0_ := zQ (zL BK357.out hb); have n1_ := zQ (below_step (zB HB.out) hb); have n2_ := zQ (hbox); have n3_ := zQ ((zG hg HB.out)); have n4_ := zQ ((zG hg HB.out)); have n5_ := zQ ((zN hg BK357.out)); have n6_ := zQ ((zM hg BK357.out)); clear BK357; clear HB; have BK357 := n0_; have HB := n1_; have BK358 := n2_; have GW358 := n3_; have GE358 := n4_; have NB357_358 := n5_; have NB358_357 := n6_; clear n0_ n1_ n2_ n3_ n4_ n5_ n6_; clear hb hbox hg; have hnb7 := NB357_358.out; have hnc7 := NB358_357.out; obtain ⟨hcz8_0, hcz8_1, hcz8_2, hcz8_3, hfz8_0, hfz8_1, hfz8_2, hfz8_3⟩ := zc4 BK357.out) | ((with_reducible refine gate_callee (f := 36) rfl ?_); refine goesL_ (some 12) rfl rfl Try.func36 (by kernel_rfl) rfl #[.agg #[.slice A0_0 l0_0.length c0_0, .slice A0_1 l0_1.length c0_1, .slice A0_2 l0_2.length c0_2, .slice A0_3 l0_3.length c0_3], .int .i64 1048576] rfl zS ?_; (with_reducible refine (laws_szProgram.calls k _ _ l0_0 _ _ l0_1 _ _ l0_2 _ _ l0_3 1048576 t359 _ ?side1 ?side2 ?side3 ?side4 ?side5 ?side6 ?side7 ?side8 A3.out).mono ?_); (case side1 => exact zE HR0_0 HB); (case side2 => exact HC0_0.out); (case side3 => exact zE HR0_1 HB); (case side4 => exact HC0_1.out); (case side5 => exact zE HR0_2 HB); (case side6 => exact HC0_2.out); (case side7 => exact zE HR0_3 HB); (case side8 => exact HC0_3.out); rintro e w9 ⟨rfl, hb⟩; refine ⟨_, rfl, ?_⟩; have n0_ := zQ (zL BK357.out hb); have n1_ := zQ (zL BK358.out hb); have n2_ := zQ (below_step (zB HB.out) hb); clear BK357; clear BK358; clear HB; have BK357 := n0_; have BK358 := n1_; have HB := n2_; clear n0_ n1_ n2_; (try clear hb); (try clear hb2); (try clear hk); (try clear hi)))
  go_ret
  exact ⟨by first | rfl | (simp [errW_none, errW_some] <;> rfl) | (simp [*, errW_none, errW_some] <;> rfl), zB HB.out⟩
 ·rw [if_neg c4] at H
  have c4b0 : decide (t359 < 0) = false := decide_eq_false c4
  clear c4
  replace H := Option.bind_eq_some_iff.mp H
  obtain ⟨t360, A100, H⟩ := H
  replace H : (if t360 < 0 then (some true) else ((laws_toProgram.f k l0_0 l0_1 l0_2 l0_3).bind fun bt361 => ((laws_toProgram.f k l1_0 l1_1 l1_2 l1_3).bind fun bt373 => ((spec_SameProgram.f k bt361.1 bt361.2.1 bt361.2.2.1 bt361.2.2.2 bt373.1 bt373.2.1 bt373.2.2.1 bt373.2.2.2).bind fun t385 => ((laws_toProgram.f k l0_0 l0_1 l0_2 l0_3).bind fun bt386 => ((laws_toProgram.f k l1_0 l1_1 l1_2 l1_3).bind fun bt399 => ((impl_SameProgram.f k bt386.1 bt386.2.1 bt386.2.2.1 bt386.2.2.2 bt399.1 bt399.2.1 bt399.2.2.1 bt399.2.2.2).bind fun t412 => (if (t412 != t385) = true then (some false) else ((laws_toProgram.f k l0_0 l0_1 l0_2 l0_3).bind fun bt413 => ((laws_eqProgram.f k bt386.1 bt386.2.1 bt386.2.2.1 bt386.2.2.2 bt413.1 bt413.2.1 bt413.2.2.1 bt413.2.2.2).bind fun t425 => (if t425 = true then ((laws_toProgram.f k l1_0 l1_1 l1_2 l1_3).bind fun bt426 => ((laws_eqProgram.f k bt399.1 bt399.2.1 bt399.2.2.1 bt399.2.2.2 bt426.1 bt426.2.1 bt426.2.2.1 bt426.2.2.2).bind fun t438 => (if t438 = true then (some true) else (some false)))) else (some false)))))))))))) = some r := H
  have A10 := zQ A100
  clear A100
  by_cases c11 : t360 < 0
  ·rw [if_pos c11] at H
   have c11b0 : decide (t360 < 0) = true := decide_eq_true c11
   clear c11
   obtain rfl := Option.some.inj H
   go_enter Try.func7, Try.ntmps7
   go_wp2_with (first | ((with_reducible refine gate_dst (N := 2) rfl ?_); refine box_event ?hg (N := 2) ?hd (cs := #[.slice A0_0 l0_0.length c0_0, .slice A0_1 l0_1.length c0_1, .slice A0_2 l0_2.length c0_2, .slice A0_3 l0_3.length c0_3]) (t := 58) ?hr ?_; (case hd => rfl); (case hg => rfl); (case hr => first | (go_simp; done) | (go_simp; rfl)); intro gb357 hg w12 hbox hb; have n0_ := zQ (below_step (zB HB.out) hb); have n1_ := zQ (hbox); have n2_ := zQ ((zG hg HB.out)); have n3_ := zQ ((zG hg HB.out)); clear HB; have HB := n0_; have BK357 := n1_; have GW357 := n2_; have GE357 := n3_; clear n0_ n1_ n2_ n3_; clear hb hbox hg) | ((with_reducible refine gate_dst (N := 3) rfl ?_); refine box_event ?hg (N := 3) ?hd (cs := #[.slice A1_0 l1_0.length c1_0, .slice A1_1 l1_1.length c1_1, .slice A1_2 l1_2.length c1_2, .slice A1_3 l1_3.length c1_3]) (t := 58) ?hr ?_; (case hd => rfl); (case hg => rfl); (case hr => first | (go_simp; done) | (go_simp; rfl)); intro gb358 hg w13 hbox hb; have n0_ := zQ (zL BK357.out hb); have n1_ := zQ (below_step (zB HB.out) hb); have n2_ := zQ (hbox); have n3_ := zQ ((zG hg HB.out)); have n4_ := zQ ((zG hg HB.out)); have n5_ := zQ ((zN hg BK357.out)); have n6_ := zQ ((zM hg BK357.out)); clear BK357; clear HB; have BK357 := n0_; have HB := n1_; have BK358 := n2_; have GW358 := n3_; have GE358 := n4_; have NB357_358 := n5_; have NB358_357 := n6_; clear n0_ n1_ n2_ n3_ n4_ n5_ n6_; clear hb hbox hg; have hnb14 := NB357_358.out; have hnc14 := NB358_357.out; obtain ⟨hcz15_0, hcz15_1, hcz15_2, hcz15_3, hfz15_0, hfz15_1, hfz15_2, hfz15_3⟩ := zc4 BK357.out) | ((with_reducible refine gate_callee (f := 36) rfl ?_); refine goesL_ (some 12) rfl rfl Try.func36 (by kernel_rfl) rfl #[.agg #[.slice A0_0 l0_0.length c0_0, .slice A0_1 l0_1.length c0_1, .slice A0_2 l0_2.length c0_2, .slice A0_3 l0_3.length c0_3], .int .i64 1048576] rfl zS ?_; (with_reducible refine (laws_szProgram.calls k _ _ l0_0 _ _ l0_1 _ _ l0_2 _ _ l0_3 1048576 t359 _ ?side1 ?side2 ?side3 ?side4 ?side5 ?side6 ?side7 ?side8 A3.out).mono ?_); (case side1 => exact zE HR0_0 HB); (case side2 => exact HC0_0.out); (case side3 => exact zE HR0_1 HB); (case side4 => exact HC0_1.out); (case side5 => exact zE HR0_2 HB); (case side6 => exact HC0_2.out); (case side7 => exact zE HR0_3 HB); (case side8 => exact HC0_3.out); rintro e w16 ⟨rfl, hb⟩; refine ⟨_, rfl, ?_⟩; have n0_ := zQ (zL BK357.out hb); have n1_ := zQ (zL BK358.out hb); have n2_ := zQ (below_step (zB HB.out) hb); clear BK357; clear BK358; clear HB; have BK357 := n0_; have BK358 := n1_; have HB := n2_; clear n0_ n1_ n2_; (try clear hb); (try clear hb2); (try clear hk); (try clear hi); obtain ⟨hcz17_0, hcz17_1, hcz17_2, hcz17_3, hfz17_0, hfz17_1, hfz17_2, hfz17_3⟩ := zc4 BK358.out) | ((with_reducible refine gate_callee (f := 36) rfl ?_); refine goesL_ (some 17) rfl rfl Try.func36 (by kernel_rfl) rfl #[.agg #[.slice A1_0 l1_0.length c1_0, .slice A1_1 l1_1.length c1_1, .slice A1_2 l1_2.length c1_2, .slice A1_3 l1_3.length c1_3], .int .i64 t359] rfl zS ?_; (with_reducible refine (laws_szProgram.calls k _ _ l1_0 _ _ l1_1 _ _ l1_2 _ _ l1_3 t359 t360 _ ?side1 ?side2 ?side3 ?side4 ?side5 ?side6 ?side7 ?side8 A10.out).mono ?_); (case side1 => exact zE HR1_0 HB); (case side2 => exact HC1_0.out); (case side3 => exact zE HR1_1 HB); (case side4 => exact HC1_1.out); (case side5 => exact zE HR1_2 HB); (case side6 => exact HC1_2.out); (case side7 => exact zE HR1_3 HB); (case side8 => exact HC1_3.out); rintro e w18 ⟨rfl, hb⟩; refine ⟨_, rfl, ?_⟩; have n0_ := zQ (zL BK357.out hb); have n1_ := zQ (zL BK358.out hb); have n2_ := zQ (below_step (zB HB.out) hb); clear BK357; clear BK358; clear HB; have BK357 := n0_; have BK358 := n1_; have HB := n2_; clear n0_ n1_ n2_; (try clear hb); (try clear hb2); (try clear hk); (try clear hi)))
   go_ret
   exact ⟨by first | rfl | (simp [errW_none, errW_some] <;> rfl) | (simp [*, errW_none, errW_some] <;> rfl), zB HB.out⟩
  ·rw [if_neg c11] at H
   have c11b0 : decide (t360 < 0) = false := decide_eq_false c11
   clear c11
   replace H := Option.bind_eq_some_iff.mp H
   obtain ⟨⟨t361, t364, t367, t370⟩, A190, H⟩ := H
   replace H : ((laws_toProgram.f k l1_0 l1_1 l1_2 l1_3).bind fun bt373 => ((spec_SameProgram.f k t361 t364 t367 t370 bt373.1 bt373.2.1 bt373.2.2.1 bt373.2.2.2).bind fun t385 => ((laws_toProgram.f k l0_0 l0_1 l0_2 l0_3).bind fun bt386 => ((laws_toProgram.f k l1_0 l1_1 l1_2 l1_3).bind fun bt399 => ((impl_SameProgram.f k bt386.1 bt386.2.1 bt386.2.2.1 bt386.2.2.2 bt399.1 bt399.2.1 bt399.2.2.1 bt399.2.2.2).bind fun t412 => (if (t412 != t385) = true then (some false) else ((laws_toProgram.f k l0_0 l0_1 l0_2 l0_3).bind fun bt413 => ((laws_eqProgram.f k bt386.1 bt386.2.1 bt386.2.2.1 bt386.2.2.2 bt413.1 bt413.2.1 bt413.2.2.1 bt413.2.2.2).bind fun t425 => (if t425 = true then ((laws_toProgram.f k l1_0 l1_1 l1_2 l1_3).bind fun bt426 => ((laws_eqProgram.f k bt399.1 bt399.2.1 bt399.2.2.1 bt399.2.2.2 bt426.1 bt426.2.1 bt426.2.2.1 bt426.2.2.2).bind fun t438 => (if t438 = true then (some true) else (some false)))) else (some false)))))))))) = some r := H
   have A19 := zQ A190
   clear A190
   replace H := Option.bind_eq_some_iff.mp H
   obtain ⟨⟨t373, t376, t379, t382⟩, A200, H⟩ := H
   replace H : ((spec_SameProgram.f k t361 t364 t367 t370 t373 t376 t379 t382).bind fun t385 => ((laws_toProgram.f k l0_0 l0_1 l0_2 l0_3).bind fun bt386 => ((laws_toProgram.f k l1_0 l1_1 l1_2 l1_3).bind fun bt399 => ((impl_SameProgram.f k bt386.1 bt386.2.1 bt386.2.2.1 bt386.2.2.2 bt399.1 bt399.2.1 bt399.2.2.1 bt399.2.2.2).bind fun t412 => (if (t412 != t385) = true then (some false) else ((laws_toProgram.f k l0_0 l0_1 l0_2 l0_3).bind fun bt413 => ((laws_eqProgram.f k bt386.1 bt386.2.1 bt386.2.2.1 bt386.2.2.2 bt413.1 bt413.2.1 bt413.2.2.1 bt413.2.2.2).bind fun t425 => (if t425 = true then ((laws_toProgram.f k l1_0 l1_1 l1_2 l1_3).bind fun bt426 => ((laws_eqProgram.f k bt399.1 bt399.2.1 bt399.2.2.1 bt399.2.2.2 bt426.1 bt426.2.1 bt426.2.2.1 bt426.2.2.2).bind fun t438 => (if t438 = true then (some true) else (some false)))) else (some false))))))))) = some r := H
   have A20 := zQ A200
   clear A200
   replace H := Option.bind_eq_some_iff.mp H
   obtain ⟨t385, A210, H⟩ := H
   replace H : ((laws_toProgram.f k l0_0 l0_1 l0_2 l0_3).bind fun bt386 => ((laws_toProgram.f k l1_0 l1_1 l1_2 l1_3).bind fun bt399 => ((impl_SameProgram.f k bt386.1 bt386.2.1 bt386.2.2.1 bt386.2.2.2 bt399.1 bt399.2.1 bt399.2.2.1 bt399.2.2.2).bind fun t412 => (if (t412 != t385) = true then (some false) else ((laws_toProgram.f k l0_0 l0_1 l0_2 l0_3).bind fun bt413 => ((laws_eqProgram.f k bt386.1 bt386.2.1 bt386.2.2.1 bt386.2.2.2 bt413.1 bt413.2.1 bt413.2.2.1 bt413.2.2.2).bind fun t425 => (if t425 = true then ((laws_toProgram.f k l1_0 l1_1 l1_2 l1_3).bind fun bt426 => ((laws_eqProgram.f k bt399.1 bt399.2.1 bt399.2.2.1 bt399.2.2.2 bt426.1 bt426.2.1 bt426.2.2.1 bt426.2.2.2).bind fun t438 => (if t438 = true then (some true) else (some false)))) else (some false)))))))) = some r := H
   have A21 := zQ A210
   clear A210
   replace H := Option.bind_eq_some_iff.mp H
   obtain ⟨⟨t386, t389, t392, t395⟩, A220, H⟩ := H
   replace H : ((laws_toProgram.f k l1_0 l1_1 l1_2 l1_3).bind fun bt399 => ((impl_SameProgram.f k t386 t389 t392 t395 bt399.1 bt399.2.1 bt399.2.2.1 bt399.2.2.2).bind fun t412 => (if (t412 != t385) = true then (some false) else ((laws_toProgram.f k l0_0 l0_1 l0_2 l0_3).bind fun bt413 => ((laws_eqProgram.f k t386 t389 t392 t395 bt413.1 bt413.2.1 bt413.2.2.1 bt413.2.2.2).bind fun t425 => (if t425 = true then ((laws_toProgram.f k l1_0 l1_1 l1_2 l1_3).bind fun bt426 => ((laws_eqProgram.f k bt399.1 bt399.2.1 bt399.2.2.1 bt399.2.2.2 bt426.1 bt426.2.1 bt426.2.2.1 bt426.2.2.2).bind fun t438 => (if t438 = true then (some true) else (some false)))) else (some false))))))) = some r := H
   have A22 := zQ A220
   clear A220
   replace H := Option.bind_eq_some_iff.mp H
   obtain ⟨⟨t399, t402, t405, t408⟩, A230, H⟩ := H
   replace H : ((impl_SameProgram.f k t386 t389 t392 t395 t399 t402 t405 t408).bind fun t412 => (if (t412 != t385) = true then (some false) else ((laws_toProgram.f k l0_0 l0_1 l0_2 l0_3).bind fun bt413 => ((laws_eqProgram.f k t386 t389 t392 t395 bt413.1 bt413.2.1 bt413.2.2.1 bt413.2.2.2).bind fun t425 => (if t425 = true then ((laws_toProgram.f k l1_0 l1_1 l1_2 l1_3).bind fun bt426 => ((laws_eqProgram.f k t399 t402 t405 t408 bt426.1 bt426.2.1 bt426.2.2.1 bt426.2.2.2).bind fun t438 => (if t438 = true then (some true) else (some false)))) else (some false)))))) = some r := H
   have A23 := zQ A230
   clear A230
   replace H := Option.bind_eq_some_iff.mp H
   obtain ⟨t412, A240, H⟩ := H
   replace H : (if (t412 != t385) = true then (some false) else ((laws_toProgram.f k l0_0 l0_1 l0_2 l0_3).bind fun bt413 => ((laws_eqProgram.f k t386 t389 t392 t395 bt413.1 bt413.2.1 bt413.2.2.1 bt413.2.2.2).bind fun t425 => (if t425 = true then ((laws_toProgram.f k l1_0 l1_1 l1_2 l1_3).bind fun bt426 => ((laws_eqProgram.f k t399 t402 t405 t408 bt426.1 bt426.2.1 bt426.2.2.1 bt426.2.2.2).bind fun t438 => (if t438 = true then (some true) else (some false)))) else (some false))))) = some r := H
   have A24 := zQ A240
   clear A240
   by_cases c25 : (t412 != t385) = true
   ·rw [if_pos c25] at H
    have c25b0 : (t412 != t385) = true := c25
    (try (have c25b1 : decide (t412 = t385) = false := by simpa using c25))
    (try (have c25b2 : (t412 == t385) = false := by simpa using c25))
    (try (have c25b3 : ¬ (t412 = t385) := by simpa using c25))
    clear c25
    exact absurd ((Option.some.inj H).trans hlaw_.out) (by decide)
   ·rw [if_neg c25] at H
    have c25b0 : (t412 != t385) = false := by simpa using c25
    (try (have c25b1 : decide (t412 = t385) = true := by simpa using c25))
    (try (have c25b2 : (t412 == t385) = true := by simpa using c25))
    clear c25
    replace H := Option.bind_eq_some_iff.mp H
    obtain ⟨⟨t413, t416, t419, t422⟩, A260, H⟩ := H
    replace H : ((laws_eqProgram.f k t386 t389 t392 t395 t413 t416 t419 t422).bind fun t425 => (if t425 = true then ((laws_toProgram.f k l1_0 l1_1 l1_2 l1_3).bind fun bt426 => ((laws_eqProgram.f k t399 t402 t405 t408 bt426.1 bt426.2.1 bt426.2.2.1 bt426.2.2.2).bind fun t438 => (if t438 = true then (some true) else (some false)))) else (some false))) = some r := H
    have A26 := zQ A260
    clear A260
    replace H := Option.bind_eq_some_iff.mp H
    obtain ⟨t425, A270, H⟩ := H
    replace H : (if t425 = true then ((laws_toProgram.f k l1_0 l1_1 l1_2 l1_3).bind fun bt426 => ((laws_eqProgram.f k t399 t402 t405 t408 bt426.1 bt426.2.1 bt426.2.2.1 bt426.2.2.2).bind fun t438 => (if t438 = true then (some true) else (some false)))) else (some false)) = some r := H
    have A27 := zQ A270
    clear A270
    by_cases c28 : t425 = true
    ·subst c28
     have H1 : ((laws_toProgram.f k l1_0 l1_1 l1_2 l1_3).bind fun bt426 => ((laws_eqProgram.f k t399 t402 t405 t408 bt426.1 bt426.2.1 bt426.2.2.1 bt426.2.2.2).bind fun t438 => (if t438 = true then (some true) else (some false)))) = some r := by rw [if_pos rfl] at H; exact H
     clear H
     have H := H1
     clear H1
     replace H := Option.bind_eq_some_iff.mp H
     obtain ⟨⟨t426, t429, t432, t435⟩, A290, H⟩ := H
     replace H : ((laws_eqProgram.f k t399 t402 t405 t408 t426 t429 t432 t435).bind fun t438 => (if t438 = true then (some true) else (some false))) = some r := H
     have A29 := zQ A290
     clear A290
     replace H := Option.bind_eq_some_iff.mp H
     obtain ⟨t438, A300, H⟩ := H
     replace H : (if t438 = true then (some true) else (some false)) = some r := H
     have A30 := zQ A300
     clear A300
     by_cases c31 : t438 = true
     ·subst c31
      have H1 : (some true) = some r := by rw [if_pos rfl] at H; exact H
      clear H
      have H := H1
      clear H1
      obtain rfl := Option.some.inj H
      go_enter Try.func7, Try.ntmps7
      try go_wp2_with (first | ((with_reducible refine gate_dst (N := 2) rfl ?_); refine box_event ?hg (N := 2) ?hd (cs := #[.slice A0_0 l0_0.length c0_0, .slice A0_1 l0_1.length c0_1, .slice A0_2 l0_2.length c0_2, .slice A0_3 l0_3.length c0_3]) (t := 58) ?hr ?_; (case hd => rfl); (case hg => rfl); (case hr => first | (go_simp; done) | (go_simp; rfl)); intro gb357 hg w32 hbox hb; have n0_ := zQ (below_step (zB HB.out) hb); have n1_ := zQ (hbox); have n2_ := zQ ((zG hg HB.out)); have n3_ := zQ ((zG hg HB.out)); clear HB; have HB := n0_; have BK357 := n1_; have GW357 := n2_; have GE357 := n3_; clear n0_ n1_ n2_ n3_; clear hb hbox hg) | ((with_reducible refine gate_dst (N := 3) rfl ?_); refine box_event ?hg (N := 3) ?hd (cs := #[.slice A1_0 l1_0.length c1_0, .slice A1_1 l1_1.length c1_1, .slice A1_2 l1_2.length c1_2, .slice A1_3 l1_3.length c1_3]) (t := 58) ?hr ?_; (case hd => rfl); (case hg => rfl); (case hr => first | (go_simp; done) | (go_simp; rfl)); intro gb358 hg w33 hbox hb; have n0_ := zQ (zL BK357.out hb); have n1_ := zQ (below_step (zB HB.out) hb); have n2_ := zQ (hbox); have n3_ := zQ ((zG hg HB.out)); have n4_ := zQ ((zG hg HB.out)); have n5_ := zQ ((zN hg BK357.out)); have n6_ := zQ ((zM hg BK357.out)); clear BK357; clear HB; have BK357 := n0_; have HB := n1_; have BK358 := n2_; have GW358 := n3_; have GE358 := n4_; have NB357_358 := n5_; have NB358_357 := n6_; clear n0_ n1_ n2_ n3_ n4_ n5_ n6_; clear hb hbox hg; have hnb34 := NB357_358.out; have hnc34 := NB358_357.out; obtain ⟨hcz35_0, hcz35_1, hcz35_2, hcz35_3, hfz35_0, hfz35_1, hfz35_2, hfz35_3⟩ := zc4 BK357.out) | ((with_reducible refine gate_callee (f := 36) rfl ?_); refine goesL_ (some 12) rfl rfl Try.func36 (by kernel_rfl) rfl #[.agg #[.slice A0_0 l0_0.length c0_0, .slice A0_1 l0_1.length c0_1, .slice A0_2 l0_2.length c0_2, .slice A0_3 l0_3.length c0_3], .int .i64 1048576] rfl zS ?_; (with_reducible refine (laws_szProgram.calls k _ _ l0_0 _ _ l0_1 _ _ l0_2 _ _ l0_3 1048576 t359 _ ?side1 ?side2 ?side3 ?side4 ?side5 ?side6 ?side7 ?side8 A3.out).mono ?_); (case side1 => exact zE HR0_0 HB); (case side2 => exact HC0_0.out); (case side3 => exact zE HR0_1 HB); (case side4 => exact HC0_1.out); (case side5 => exact zE HR0_2 HB); (case side6 => exact HC0_2.out); (case side7 => exact zE HR0_3 HB); (case side8 => exact HC0_3.out); rintro e w36 ⟨rfl, hb⟩; refine ⟨_, rfl, ?_⟩; have n0_ := zQ (zL BK357.out hb); have n1_ := zQ (zL BK358.out hb); have n2_ := zQ (below_step (zB HB.out) hb); clear BK357; clear BK358; clear HB; have BK357 := n0_; have BK358 := n1_; have HB := n2_; clear n0_ n1_ n2_; (try clear hb); (try clear hb2); (try clear hk); (try clear hi); obtain ⟨hcz37_0, hcz37_1, hcz37_2, hcz37_3, hfz37_0, hfz37_1, hfz37_2, hfz37_3⟩ := zc4 BK358.out) | ((with_reducible refine gate_callee (f := 36) rfl ?_); refine goesL_ (some 17) rfl rfl Try.func36 (by kernel_rfl) rfl #[.agg #[.slice A1_0 l1_0.length c1_0, .slice A1_1 l1_1.length c1_1, .slice A1_2 l1_2.length c1_2, .slice A1_3 l1_3.length c1_3], .int .i64 t359] rfl zS ?_; (with_reducible refine (laws_szProgram.calls k _ _ l1_0 _ _ l1_1 _ _ l1_2 _ _ l1_3 t359 t360 _ ?side1 ?side2 ?side3 ?side4 ?side5 ?side6 ?side7 ?side8 A10.out).mono ?_); (case side1 => exact zE HR1_0 HB); (case side2 => exact HC1_0.out); (case side3 => exact zE HR1_1 HB); (case side4 => exact HC1_1.out); (case side5 => exact zE HR1_2 HB); (case side6 => exact HC1_2.out); (case side7 => exact zE HR1_3 HB); (case side8 => exact HC1_3.out); rintro e w38 ⟨rfl, hb⟩; refine ⟨_, rfl, ?_⟩; have n0_ := zQ (zL BK357.out hb); have n1_ := zQ (zL BK358.out hb); have n2_ := zQ (below_step (zB HB.out) hb); clear BK357; clear BK358; clear HB; have BK357 := n0_; have BK358 := n1_; have HB := n2_; clear n0_ n1_ n2_; (try clear hb); (try clear hb2); (try clear hk); (try clear hi)))
      have n0_ := zQ (blk_drew BK357.out)
      have n1_ := zQ (blk_drew BK358.out)
      have n2_ := zQ (below_drew1 HB.out)
      clear BK357
      clear BK358
      clear HB
      have BK357 := n0_
      have BK358 := n1_
      have HB := n2_
      clear n0_ n1_ n2_
      refine start_ (n := 6) (S := fun w' => w'.cell? ⟨gb357, 0, none⟩ = some (.slice A0_0 l0_0.length c0_0) ∧ w'.cell? ⟨gb357, 1, none⟩ = some (.slice A0_1 l0_1.length c0_1) ∧ w'.cell? ⟨gb357, 2, none⟩ = some (.slice A0_2 l0_2.length c0_2) ∧ w'.cell? ⟨gb357, 3, none⟩ = some (.slice A0_3 l0_3.length c0_3) ∧ w'.cell? ⟨gb358, 0, none⟩ = some (.slice A1_0 l1_0.length c1_0) ∧ w'.cell? ⟨gb358, 1, none⟩ = some (.slice A1_1 l1_1.length c1_1) ∧ w'.cell? ⟨gb358, 2, none⟩ = some (.slice A1_2 l1_2.length c1_2) ∧ w'.cell? ⟨gb358, 3, none⟩ = some (.slice A1_3 l1_3.length c1_3)) (ds := []) #[false, false, false, false, false, false] (by kernel_rfl) rfl rfl ⟨(blk_cell BK357.out 0).trans rfl, (blk_cell BK357.out 1).trans rfl, (blk_cell BK357.out 2).trans rfl, (blk_cell BK357.out 3).trans rfl, (blk_cell BK358.out 0).trans rfl, (blk_cell BK358.out 1).trans rfl, (blk_cell BK358.out 2).trans rfl, (blk_cell BK358.out 3).trans rfl⟩ (fun hHeld => ?_)
      generalize w38.drew = w39 at BK357 BK358 HB hHeld ⊢
      refine take_ (i := 0) (N := some 20) (v := ?_) (a' := ?_) #[true, false, false, false, false, false] rfl rfl (by kernel_rfl) (fun _ _ _ h => h) (Or.inl ⟨by rfl, ?_⟩) hHeld ?_ ?_
      rotate_left
      ·rintro w' ⟨s0, s1, s2, s3, s4, s5, s6, s7⟩
       go_simp
       with_reducible rfl
      rotate_left
      ·simp only [Act.put, List.setIfInBounds_toArray, List.set_cons_zero, List.set_cons_succ, i64_w, i32_w]
       rfl
      refine take_ (i := 2) (N := some 22) (v := ?_) (a' := ?_) #[true, false, true, false, false, false] rfl rfl (by kernel_rfl) (fun _ _ _ h => h) (Or.inl ⟨by rfl, ?_⟩) hHeld ?_ ?_
      rotate_left
      ·rintro w' ⟨s0, s1, s2, s3, s4, s5, s6, s7⟩
       go_simp
       with_reducible rfl
      rotate_left
      ·simp only [Act.put, List.setIfInBounds_toArray, List.set_cons_zero, List.set_cons_succ, i64_w, i32_w]
       rfl
      refine one_ (i := 1) (N := some 21) #[true, true, true, false, false, false] rfl rfl (by kernel_rfl) (by decide) (fun K hK => ?_)
      refine goes_ Try.func38 (by kernel_rfl) rfl #[.agg #[.slice A0_0 l0_0.length c0_0, .slice A0_1 l0_1.length c0_1, .slice A0_2 l0_2.length c0_2, .slice A0_3 l0_3.length c0_3]] (by rfl) rfl rfl zS ?_
      with_reducible refine (laws_toProgram.calls k _ _ l0_0 _ _ l0_1 _ _ l0_2 _ _ l0_3 t361 t364 t367 t370 _ ?side1 ?side2 ?side3 ?side4 ?side5 ?side6 ?side7 ?side8 A19.out).mono ?_
      (case side1 => exact zE HR0_0 HB)
      (case side2 => exact HC0_0.out)
      (case side3 => exact zE HR0_1 HB)
      (case side4 => exact HC0_1.out)
      (case side5 => exact zE HR0_2 HB)
      (case side6 => exact HC0_2.out)
      (case side7 => exact zE HR0_3 HB)
      (case side8 => exact HC0_3.out)
      rintro e w40 ⟨v362, v365, v368, v371, rfl, ho0, ho1, ho2, ho3, hb⟩
      refine ⟨_, rfl, ?_⟩
      have n0_ := zQ (Kd.R_lower ho0 (below_size (zB HB.out)))
      have n1_ := zQ (Kd.S_lower ho1 (below_size (zB HB.out)))
      have n2_ := zQ (Kd.R_lower ho2 (below_size (zB HB.out)))
      have n3_ := zQ (Kd.R_lower ho3 (below_size (zB HB.out)))
      have n4_ := zQ (zL BK357.out hb)
      have n5_ := zQ (zL BK358.out hb)
      have n6_ := zQ (below_step (zB HB.out) hb)
      clear BK357
      clear BK358
      clear HB
      have HO363 := n0_
      have HO366 := n1_
      have HO369 := n2_
      have HO372 := n3_
      have BK357 := n4_
      have BK358 := n5_
      have HB := n6_
      clear n0_ n1_ n2_ n3_ n4_ n5_ n6_
      (try clear hb)
      (try clear hb2)
      (try clear hk)
      (try clear hi)
      (try clear ho0)
      (try clear ho1)
      (try clear ho2)
      (try clear ho3)
      refine hK.out _ _ ⟨(blk_cell BK357.out 0).trans rfl, (blk_cell BK357.out 1).trans rfl, (blk_cell BK357.out 2).trans rfl, (blk_cell BK357.out 3).trans rfl, (blk_cell BK358.out 0).trans rfl, (blk_cell BK358.out 1).trans rfl, (blk_cell BK358.out 2).trans rfl, (blk_cell BK358.out 3).trans rfl⟩ (fun hHeld => ?_)
      clear hK K
      refine norm_ (a' := ?_) ?_ ?_
      rotate_left
      ·show Act.put _ (some 21) _ = _
       simp only [Act.put, List.setIfInBounds_toArray, List.set_cons_zero, List.set_cons_succ, i64_w, i32_w]
       rfl
      refine one_ (i := 3) (N := some 23) #[true, true, true, true, false, false] rfl rfl (by kernel_rfl) (by decide) (fun K hK => ?_)
      refine goes_ Try.func38 (by kernel_rfl) rfl #[.agg #[.slice A1_0 l1_0.length c1_0, .slice A1_1 l1_1.length c1_1, .slice A1_2 l1_2.length c1_2, .slice A1_3 l1_3.length c1_3]] (by rfl) rfl rfl zS ?_
      with_reducible refine (laws_toProgram.calls k _ _ l1_0 _ _ l1_1 _ _ l1_2 _ _ l1_3 t373 t376 t379 t382 _ ?side1 ?side2 ?side3 ?side4 ?side5 ?side6 ?side7 ?side8 A20.out).mono ?_
      (case side1 => exact zE HR1_0 HB)
      (case side2 => exact HC1_0.out)
      (case side3 => exact zE HR1_1 HB)
      (case side4 => exact HC1_1.out)
      (case side5 => exact zE HR1_2 HB)
      (case side6 => exact HC1_2.out)
      (case side7 => exact zE HR1_3 HB)
      (case side8 => exact HC1_3.out)
      rintro e w41 ⟨v374, v377, v380, v383, rfl, ho0, ho1, ho2, ho3, hb⟩
      refine ⟨_, rfl, ?_⟩
      have n0_ := zQ (Kd.R_elder' (zR HO363.out) (Kd.R_base ho0) hb)
      have n1_ := zQ (Kd.S_elder' (by (with_reducible repeat (first | apply Kd.S_alloc | apply Kd.S_drewN | apply Kd.S_drew)); exact HO366.out) (Kd.S_base ho1) hb)
      have n2_ := zQ (Kd.R_elder' (zR HO369.out) (Kd.R_base ho2) hb)
      have n3_ := zQ (Kd.R_elder' (zR HO372.out) (Kd.R_base ho3) hb)
      have n4_ := zQ (Kd.R_lower (Kd.R_new' ho0 (Kd.R_lt (zR HO363.out))) (below_size (zB HB.out)))
      have n5_ := zQ (Kd.S_lower (Kd.S_new' ho1 (Kd.S_lt (by (with_reducible repeat (first | apply Kd.S_alloc | apply Kd.S_drewN | apply Kd.S_drew)); exact HO366.out))) (below_size (zB HB.out)))
      have n6_ := zQ (Kd.R_lower (Kd.R_new' ho2 (Kd.R_lt (zR HO369.out))) (below_size (zB HB.out)))
      have n7_ := zQ (Kd.R_lower (Kd.R_new' ho3 (Kd.R_lt (zR HO372.out))) (below_size (zB HB.out)))
      have n8_ := zQ (zL BK357.out hb)
      have n9_ := zQ (zL BK358.out hb)
      have n10_ := zQ (below_step (zB HB.out) hb)
      clear HO363
      clear HO366
      clear HO369
      clear HO372
      clear BK357
      clear BK358
      clear HB
      have HO363 := n0_
      have HO366 := n1_
      have HO369 := n2_
      have HO372 := n3_
      have HO375 := n4_
      have HO378 := n5_
      have HO381 := n6_
      have HO384 := n7_
      have BK357 := n8_
      have BK358 := n9_
      have HB := n10_
      clear n0_ n1_ n2_ n3_ n4_ n5_ n6_ n7_ n8_ n9_ n10_
      (try clear hb)
      (try clear hb2)
      (try clear hk)
      (try clear hi)
      (try clear ho0)
      (try clear ho1)
      (try clear ho2)
      (try clear ho3)
      obtain ⟨Ao42, co42, eo42⟩ := Kd.R_slice HO363.out
      (first | subst eo42 | (injection eo42 with f1_ f2_ f3_; have f4_ := f1_.symm; have f5_ := f3_.symm; clear f1_ f2_ f3_; subst f4_; subst f5_))
      obtain ⟨Ao43, co43, eo43⟩ := Kd.S_slice HO366.out
      (first | subst eo43 | (injection eo43 with f1_ f2_ f3_; have f4_ := f1_.symm; have f5_ := f3_.symm; clear f1_ f2_ f3_; subst f4_; subst f5_))
      obtain ⟨Ao44, co44, eo44⟩ := Kd.R_slice HO369.out
      (first | subst eo44 | (injection eo44 with f1_ f2_ f3_; have f4_ := f1_.symm; have f5_ := f3_.symm; clear f1_ f2_ f3_; subst f4_; subst f5_))
      obtain ⟨Ao45, co45, eo45⟩ := Kd.R_slice HO372.out
      (first | subst eo45 | (injection eo45 with f1_ f2_ f3_; have f4_ := f1_.symm; have f5_ := f3_.symm; clear f1_ f2_ f3_; subst f4_; subst f5_))
      obtain ⟨Ao46, co46, eo46⟩ := Kd.R_slice HO375.out
      (first | subst eo46 | (injection eo46 with f1_ f2_ f3_; have f4_ := f1_.symm; have f5_ := f3_.symm; clear f1_ f2_ f3_; subst f4_; subst f5_))
      obtain ⟨Ao47, co47, eo47⟩ := Kd.S_slice HO378.out
      (first | subst eo47 | (injection eo47 with f1_ f2_ f3_; have f4_ := f1_.symm; have f5_ := f3_.symm; clear f1_ f2_ f3_; subst f4_; subst f5_))
      obtain ⟨Ao48, co48, eo48⟩ := Kd.R_slice HO381.out
      (first | subst eo48 | (injection eo48 with f1_ f2_ f3_; have f4_ := f1_.symm; have f5_ := f3_.symm; clear f1_ f2_ f3_; subst f4_; subst f5_))
      obtain ⟨Ao49, co49, eo49⟩ := Kd.R_slice HO384.out
      (first | subst eo49 | (injection eo49 with f1_ f2_ f3_; have f4_ := f1_.symm; have f5_ := f3_.symm; clear f1_ f2_ f3_; subst f4_; subst f5_))
      refine hK.out _ _ ⟨(blk_cell BK357.out 0).trans rfl, (blk_cell BK357.out 1).trans rfl, (blk_cell BK357.out 2).trans rfl, (blk_cell BK357.out 3).trans rfl, (blk_cell BK358.out 0).trans rfl, (blk_cell BK358.out 1).trans rfl, (blk_cell BK358.out 2).trans rfl, (blk_cell BK358.out 3).trans rfl⟩ (fun hHeld => ?_)
      clear hK K
      refine norm_ (a' := ?_) ?_ ?_
      rotate_left
      ·show Act.put _ (some 23) _ = _
       simp only [Act.put, List.setIfInBounds_toArray, List.set_cons_zero, List.set_cons_succ, i64_w, i32_w]
       rfl
      refine one_ (i := 4) (N := some 24) #[true, true, true, true, true, false] rfl rfl (by kernel_rfl) (by decide) (fun K hK => ?_)
      refine goes_ Try.func41 (by kernel_rfl) rfl #[.agg #[.slice Ao42 t361.length co42, .slice Ao43 t364.length co43, .slice Ao44 t367.length co44, .slice Ao45 t370.length co45], .agg #[.slice Ao46 t373.length co46, .slice Ao47 t376.length co47, .slice Ao48 t379.length co48, .slice Ao49 t382.length co49]] (by rfl) rfl rfl zS ?_
      with_reducible refine (spec_SameProgram.calls k _ _ t361 _ _ t364 _ _ t367 _ _ t370 _ _ t373 _ _ t376 _ _ t379 _ _ t382 t385 _ ?side1 ?side2 ?side3 ?side4 ?side5 ?side6 ?side7 ?side8 ?side9 ?side10 ?side11 ?side12 ?side13 ?side14 ?side15 ?side16 A21.out).mono ?_
      (case side1 => exact zC (Kd.R_reads' HO363.out).2.2)
      (case side2 => exact (Kd.R_reads' HO363.out).2.1)
      (case side3 => repeat (first | exact (Kd.S_reads' HO366.out).2.2 | (with_reducible refine Kd.C_alloc ?_ _) | (with_reducible refine Kd.C_drewN ?_ _) | (with_reducible refine Kd.C_drew ?_)))
      (case side4 => exact (Kd.S_reads' HO366.out).2.1)
      (case side5 => exact zC (Kd.R_reads' HO369.out).2.2)
      (case side6 => exact (Kd.R_reads' HO369.out).2.1)
      (case side7 => exact zC (Kd.R_reads' HO372.out).2.2)
      (case side8 => exact (Kd.R_reads' HO372.out).2.1)
      (case side9 => exact zC (Kd.R_reads' HO375.out).2.2)
      (case side10 => exact (Kd.R_reads' HO375.out).2.1)
      (case side11 => repeat (first | exact (Kd.S_reads' HO378.out).2.2 | (with_reducible refine Kd.C_alloc ?_ _) | (with_reducible refine Kd.C_drewN ?_ _) | (with_reducible refine Kd.C_drew ?_)))
      (case side12 => exact (Kd.S_reads' HO378.out).2.1)
      (case side13 => exact zC (Kd.R_reads' HO381.out).2.2)
      (case side14 => exact (Kd.R_reads' HO381.out).2.1)
      (case side15 => exact zC (Kd.R_reads' HO384.out).2.2)
      (case side16 => exact (Kd.R_reads' HO384.out).2.1)
      rintro e w50 ⟨rfl, hb⟩
      refine ⟨_, rfl, ?_⟩
      have n0_ := zQ (Kd.R_below (zR HO363.out) hb)
      have n1_ := zQ (Kd.S_below (by (with_reducible repeat (first | apply Kd.S_alloc | apply Kd.S_drewN | apply Kd.S_drew)); exact HO366.out) hb)
      have n2_ := zQ (Kd.R_below (zR HO369.out) hb)
      have n3_ := zQ (Kd.R_below (zR HO372.out) hb)
      have n4_ := zQ (Kd.R_below (zR HO375.out) hb)
      have n5_ := zQ (Kd.S_below (by (with_reducible repeat (first | apply Kd.S_alloc | apply Kd.S_drewN | apply Kd.S_drew)); exact HO378.out) hb)
      have n6_ := zQ (Kd.R_below (zR HO381.out) hb)
      have n7_ := zQ (Kd.R_below (zR HO384.out) hb)
      have n8_ := zQ (zL BK357.out hb)
      have n9_ := zQ (zL BK358.out hb)
      have n10_ := zQ (below_step (zB HB.out) hb)
      clear HO363
      clear HO366
      clear HO369
      clear HO372
      clear HO375
      clear HO378
      clear HO381
      clear HO384
      clear BK357
      clear BK358
      clear HB
      have HO363 := n0_
      have HO366 := n1_
      have HO369 := n2_
      have HO372 := n3_
      have HO375 := n4_
      have HO378 := n5_
      have HO381 := n6_
      have HO384 := n7_
      have BK357 := n8_
      have BK358 := n9_
      have HB := n10_
      clear n0_ n1_ n2_ n3_ n4_ n5_ n6_ n7_ n8_ n9_ n10_
      (try clear hb)
      (try clear hb2)
      (try clear hk)
      (try clear hi)
      refine hK.out _ _ ⟨(blk_cell BK357.out 0).trans rfl, (blk_cell BK357.out 1).trans rfl, (blk_cell BK357.out 2).trans rfl, (blk_cell BK357.out 3).trans rfl, (blk_cell BK358.out 0).trans rfl, (blk_cell BK358.out 1).trans rfl, (blk_cell BK358.out 2).trans rfl, (blk_cell BK358.out 3).trans rfl⟩ (fun hHeld => ?_)
      clear hK K
      refine norm_ (a' := ?_) ?_ ?_
      rotate_left
      ·show Act.put _ (some 24) _ = _
       simp only [Act.put, List.setIfInBounds_toArray, List.set_cons_zero, List.set_cons_succ, i64_w, i32_w]
       rfl
      refine pure_ (i := 5) (N := some 6) (v := ?_) (a' := ?_) #[true, true, true, true, true, true] rfl rfl (by kernel_rfl) (fun _ _ _ h => h) (Or.inl ⟨by rfl, ?_⟩) ?_ ?_
      rotate_left
      ·intro w'
       go_simp
       with_reducible rfl
      rotate_left
      ·simp only [Act.put, List.setIfInBounds_toArray, List.set_cons_zero, List.set_cons_succ, i64_w, i32_w]
       rfl
      refine done_ (by kernel_rfl) ?_
      obtain ⟨hcz51_0, hcz51_1, hcz51_2, hcz51_3, hfz51_0, hfz51_1, hfz51_2, hfz51_3⟩ := zc4 BK357.out
      try go_wp2_with (first | ((with_reducible refine gate_callee (f := 38) rfl ?_); refine goesL_ (some 26) rfl rfl Try.func38 (by kernel_rfl) rfl #[.agg #[.slice A0_0 l0_0.length c0_0, .slice A0_1 l0_1.length c0_1, .slice A0_2 l0_2.length c0_2, .slice A0_3 l0_3.length c0_3]] rfl zS ?_; (with_reducible refine (laws_toProgram.calls k _ _ l0_0 _ _ l0_1 _ _ l0_2 _ _ l0_3 t386 t389 t392 t395 _ ?side1 ?side2 ?side3 ?side4 ?side5 ?side6 ?side7 ?side8 A22.out).mono ?_); (case side1 => exact zE HR0_0 HB); (case side2 => exact HC0_0.out); (case side3 => exact zE HR0_1 HB); (case side4 => exact HC0_1.out); (case side5 => exact zE HR0_2 HB); (case side6 => exact HC0_2.out); (case side7 => exact zE HR0_3 HB); (case side8 => exact HC0_3.out); rintro e w52 ⟨v387, v390, v393, v396, rfl, ho0, ho1, ho2, ho3, hb⟩; refine ⟨_, rfl, ?_⟩; have n0_ := zQ (Kd.R_elder' (zR HO363.out) (Kd.R_base ho0) hb); have n1_ := zQ (Kd.S_elder' (by (with_reducible repeat (first | apply Kd.S_alloc | apply Kd.S_drewN | apply Kd.S_drew)); exact HO366.out) (Kd.S_base ho1) hb); have n2_ := zQ (Kd.R_elder' (zR HO369.out) (Kd.R_base ho2) hb); have n3_ := zQ (Kd.R_elder' (zR HO372.out) (Kd.R_base ho3) hb); have n4_ := zQ (Kd.R_elder' (zR HO375.out) (Kd.R_base ho0) hb); have n5_ := zQ (Kd.S_elder' (by (with_reducible repeat (first | apply Kd.S_alloc | apply Kd.S_drewN | apply Kd.S_drew)); exact HO378.out) (Kd.S_base ho1) hb); have n6_ := zQ (Kd.R_elder' (zR HO381.out) (Kd.R_base ho2) hb); have n7_ := zQ (Kd.R_elder' (zR HO384.out) (Kd.R_base ho3) hb); have n8_ := zQ (Kd.R_lower (Kd.R_new' (Kd.R_new' ho0 (Kd.R_lt (zR HO363.out))) (Kd.R_lt (zR HO375.out))) (below_size (zB HB.out))); have n9_ := zQ (Kd.S_lower (Kd.S_new' (Kd.S_new' ho1 (Kd.S_lt (by (with_reducible repeat (first | apply Kd.S_alloc | apply Kd.S_drewN | apply Kd.S_drew)); exact HO366.out))) (Kd.S_lt (by (with_reducible repeat (first | apply Kd.S_alloc | apply Kd.S_drewN | apply Kd.S_drew)); exact HO378.out))) (below_size (zB HB.out))); have n10_ := zQ (Kd.R_lower (Kd.R_new' (Kd.R_new' ho2 (Kd.R_lt (zR HO369.out))) (Kd.R_lt (zR HO381.out))) (below_size (zB HB.out))); have n11_ := zQ (Kd.R_lower (Kd.R_new' (Kd.R_new' ho3 (Kd.R_lt (zR HO372.out))) (Kd.R_lt (zR HO384.out))) (below_size (zB HB.out))); have n12_ := zQ (zL BK357.out hb); have n13_ := zQ (zL BK358.out hb); have n14_ := zQ (below_step (zB HB.out) hb); clear HO363; clear HO366; clear HO369; clear HO372; clear HO375; clear HO378; clear HO381; clear HO384; clear BK357; clear BK358; clear HB; have HO363 := n0_; have HO366 := n1_; have HO369 := n2_; have HO372 := n3_; have HO375 := n4_; have HO378 := n5_; have HO381 := n6_; have HO384 := n7_; have HO388 := n8_; have HO391 := n9_; have HO394 := n10_; have HO397 := n11_; have BK357 := n12_; have BK358 := n13_; have HB := n14_; clear n0_ n1_ n2_ n3_ n4_ n5_ n6_ n7_ n8_ n9_ n10_ n11_ n12_ n13_ n14_; (try clear hb); (try clear hb2); (try clear hk); (try clear hi); (try clear ho0); (try clear ho1); (try clear ho2); (try clear ho3)) | ((with_reducible refine gate_dst (N := 7) rfl ?_); refine box_event ?hg (N := 7) ?hd (cs := #[.slice none 0 0, .slice none 0 0, .slice none 0 0, .slice none 0 0]) (t := 64) ?hr ?_; (case hd => rfl); (case hg => rfl); (case hr => first | (go_simp; done) | (go_simp; rfl)); intro gb398 hg w53 hbox hb; have n0_ := zQ (Kd.R_below (zR HO363.out) hb); have n1_ := zQ (Kd.S_below (by (with_reducible repeat (first | apply Kd.S_alloc | apply Kd.S_drewN | apply Kd.S_drew)); exact HO366.out) hb); have n2_ := zQ (Kd.R_below (zR HO369.out) hb); have n3_ := zQ (Kd.R_below (zR HO372.out) hb); have n4_ := zQ (Kd.R_below (zR HO375.out) hb); have n5_ := zQ (Kd.S_below (by (with_reducible repeat (first | apply Kd.S_alloc | apply Kd.S_drewN | apply Kd.S_drew)); exact HO378.out) hb); have n6_ := zQ (Kd.R_below (zR HO381.out) hb); have n7_ := zQ (Kd.R_below (zR HO384.out) hb); have n8_ := zQ (Kd.R_below (zR HO388.out) hb); have n9_ := zQ (Kd.S_below (by (with_reducible repeat (first | apply Kd.S_alloc | apply Kd.S_drewN | apply Kd.S_drew)); exact HO391.out) hb); have n10_ := zQ (Kd.R_below (zR HO394.out) hb); have n11_ := zQ (Kd.R_below (zR HO397.out) hb); have n12_ := zQ (zL BK357.out hb); have n13_ := zQ (zL BK358.out hb); have n14_ := zQ (below_step (zB HB.out) hb); have n15_ := zQ (hbox); have n16_ := zQ ((zG hg HB.out)); have n17_ := zQ ((zG hg HB.out)); have n18_ := zQ ((zN hg BK357.out)); have n19_ := zQ ((zM hg BK357.out)); have n20_ := zQ ((zN hg BK358.out)); have n21_ := zQ ((zM hg BK358.out)); clear HO363; clear HO366; clear HO369; clear HO372; clear HO375; clear HO378; clear HO381; clear HO384; clear HO388; clear HO391; clear HO394; clear HO397; clear BK357; clear BK358; clear HB; have HO363 := n0_; have HO366 := n1_; have HO369 := n2_; have HO372 := n3_; have HO375 := n4_; have HO378 := n5_; have HO381 := n6_; have HO384 := n7_; have HO388 := n8_; have HO391 := n9_; have HO394 := n10_; have HO397 := n11_; have BK357 := n12_; have BK358 := n13_; have HB := n14_; have BK398 := n15_; have GW398 := n16_; have GE398 := n17_; have NB357_398 := n18_; have NB398_357 := n19_; have NB358_398 := n20_; have NB398_358 := n21_; clear n0_ n1_ n2_ n3_ n4_ n5_ n6_ n7_ n8_ n9_ n10_ n11_ n12_ n13_ n14_ n15_ n16_ n17_ n18_ n19_ n20_ n21_; clear hb hbox hg; obtain ⟨Ao54, co54, eo54⟩ := Kd.R_slice HO388.out; subst eo54; have hnb55 := NB398_357.out; have hnc55 := NB357_398.out; have hnb56 := NB398_358.out; have hnc56 := NB358_398.out; obtain ⟨hcz57_0, hcz57_1, hcz57_2, hcz57_3, hfz57_0, hfz57_1, hfz57_2, hfz57_3⟩ := zc4 BK398.out; obtain ⟨Ao58, co58, eo58⟩ := Kd.S_slice HO391.out; subst eo58; obtain ⟨Ao59, co59, eo59⟩ := Kd.R_slice HO394.out; subst eo59; obtain ⟨Ao60, co60, eo60⟩ := Kd.R_slice HO397.out; subst eo60; obtain ⟨hcz61_0, hcz61_1, hcz61_2, hcz61_3, hfz61_0, hfz61_1, hfz61_2, hfz61_3⟩ := zc4 BK358.out) | ((with_reducible refine gate_callee (f := 38) rfl ?_); refine goesL_ (some 28) rfl rfl Try.func38 (by kernel_rfl) rfl #[.agg #[.slice A1_0 l1_0.length c1_0, .slice A1_1 l1_1.length c1_1, .slice A1_2 l1_2.length c1_2, .slice A1_3 l1_3.length c1_3]] rfl zS ?_; (with_reducible refine (laws_toProgram.calls k _ _ l1_0 _ _ l1_1 _ _ l1_2 _ _ l1_3 t399 t402 t405 t408 _ ?side1 ?side2 ?side3 ?side4 ?side5 ?side6 ?side7 ?side8 A23.out).mono ?_); (case side1 => exact Kd.C_below HR1_0.out (zB HB.out)); (case side2 => exact HC1_0.out); (case side3 => exact Kd.C_below HR1_1.out (zB HB.out)); (case side4 => exact HC1_1.out); (case side5 => exact Kd.C_below HR1_2.out (zB HB.out)); (case side6 => exact HC1_2.out); (case side7 => exact Kd.C_below HR1_3.out (zB HB.out)); (case side8 => exact HC1_3.out); rintro e w62 ⟨v400, v403, v406, v409, rfl, ho0, ho1, ho2, ho3, hb⟩; refine ⟨_, rfl, ?_⟩; have n0_ := zQ (Kd.R_elder' (by (with_reducible repeat (first | apply Kd.R_alloc | apply Kd.R_drewN | apply Kd.R_drew)); exact (zRf4 HO363.out BK398.out (by decide))) (Kd.R_base ho0) hb); have n1_ := zQ (Kd.S_elder' (by (with_reducible repeat (first | apply Kd.S_alloc | apply Kd.S_drewN | apply Kd.S_drew)); exact (zSf4 HO366.out BK398.out (by decide))) (Kd.S_base ho1) hb); have n2_ := zQ (Kd.R_elder' (by (with_reducible repeat (first | apply Kd.R_alloc | apply Kd.R_drewN | apply Kd.R_drew)); exact (zRf4 HO369.out BK398.out (by decide))) (Kd.R_base ho2) hb); have n3_ := zQ (Kd.R_elder' (by (with_reducible repeat (first | apply Kd.R_alloc | apply Kd.R_drewN | apply Kd.R_drew)); exact (zRf4 HO372.out BK398.out (by decide))) (Kd.R_base ho3) hb); have n4_ := zQ (Kd.R_elder' (by (with_reducible repeat (first | apply Kd.R_alloc | apply Kd.R_drewN | apply Kd.R_drew)); exact (zRf4 HO375.out BK398.out (by decide))) (Kd.R_base ho0) hb); have n5_ := zQ (Kd.S_elder' (by (with_reducible repeat (first | apply Kd.S_alloc | apply Kd.S_drewN | apply Kd.S_drew)); exact (zSf4 HO378.out BK398.out (by decide))) (Kd.S_base ho1) hb); have n6_ := zQ (Kd.R_elder' (by (with_reducible repeat (first | apply Kd.R_alloc | apply Kd.R_drewN | apply Kd.R_drew)); exact (zRf4 HO381.out BK398.out (by decide))) (Kd.R_base ho2) hb); have n7_ := zQ (Kd.R_elder' (by (with_reducible repeat (first | apply Kd.R_alloc | apply Kd.R_drewN | apply Kd.R_drew)); exact (zRf4 HO384.out BK398.out (by decide))) (Kd.R_base ho3) hb); have n8_ := zQ (Kd.R_elder' (by (with_reducible repeat (first | apply Kd.R_alloc | apply Kd.R_drewN | apply Kd.R_drew)); exact (zRf4 HO388.out BK398.out (by decide))) (Kd.R_base ho0) hb); have n9_ := zQ (Kd.S_elder' (by (with_reducible repeat (first | apply Kd.S_alloc | apply Kd.S_drewN | apply Kd.S_drew)); exact (zSf4 HO391.out BK398.out (by decide))) (Kd.S_base ho1) hb); have n10_ := zQ (Kd.R_elder' (by (with_reducible repeat (first | apply Kd.R_alloc | apply Kd.R_drewN | apply Kd.R_drew)); exact (zRf4 HO394.out BK398.out (by decide))) (Kd.R_base ho2) hb); have n11_ := zQ (Kd.R_elder' (by (with_reducible repeat (first | apply Kd.R_alloc | apply Kd.R_drewN | apply Kd.R_drew)); exact (zRf4 HO397.out BK398.out (by decide))) (Kd.R_base ho3) hb); have n12_ := zQ (Kd.R_lower (Kd.R_new' (Kd.R_new' (Kd.R_new' ho0 (Kd.R_lt (by (with_reducible repeat (first | apply Kd.R_alloc | apply Kd.R_drewN | apply Kd.R_drew)); exact (zRf4 HO363.out BK398.out (by decide))))) (Kd.R_lt (by (with_reducible repeat (first | apply Kd.R_alloc | apply Kd.R_drewN | apply Kd.R_drew)); exact (zRf4 HO375.out BK398.out (by decide))))) (Kd.R_lt (by (with_reducible repeat (first | apply Kd.R_alloc | apply Kd.R_drewN | apply Kd.R_drew)); exact (zRf4 HO388.out BK398.out (by decide))))) (below_size (zB HB.out))); have n13_ := zQ (Kd.S_lower (Kd.S_new' (Kd.S_new' (Kd.S_new' ho1 (Kd.S_lt (by (with_reducible repeat (first | apply Kd.S_alloc | apply Kd.S_drewN | apply Kd.S_drew)); exact (zSf4 HO366.out BK398.out (by decide))))) (Kd.S_lt (by (with_reducible repeat (first | apply Kd.S_alloc | apply Kd.S_drewN | apply Kd.S_drew)); exact (zSf4 HO378.out BK398.out (by decide))))) (Kd.S_lt (by (with_reducible repeat (first | apply Kd.S_alloc | apply Kd.S_drewN | apply Kd.S_drew)); exact (zSf4 HO391.out BK398.out (by decide))))) (below_size (zB HB.out))); have n14_ := zQ (Kd.R_lower (Kd.R_new' (Kd.R_new' (Kd.R_new' ho2 (Kd.R_lt (by (with_reducible repeat (first | apply Kd.R_alloc | apply Kd.R_drewN | apply Kd.R_drew)); exact (zRf4 HO369.out BK398.out (by decide))))) (Kd.R_lt (by (with_reducible repeat (first | apply Kd.R_alloc | apply Kd.R_drewN | apply Kd.R_drew)); exact (zRf4 HO381.out BK398.out (by decide))))) (Kd.R_lt (by (with_reducible repeat (first | apply Kd.R_alloc | apply Kd.R_drewN | apply Kd.R_drew)); exact (zRf4 HO394.out BK398.out (by decide))))) (below_size (zB HB.out))); have n15_ := zQ (Kd.R_lower (Kd.R_new' (Kd.R_new' (Kd.R_new' ho3 (Kd.R_lt (by (with_reducible repeat (first | apply Kd.R_alloc | apply Kd.R_drewN | apply Kd.R_drew)); exact (zRf4 HO372.out BK398.out (by decide))))) (Kd.R_lt (by (with_reducible repeat (first | apply Kd.R_alloc | apply Kd.R_drewN | apply Kd.R_drew)); exact (zRf4 HO384.out BK398.out (by decide))))) (Kd.R_lt (by (with_reducible repeat (first | apply Kd.R_alloc | apply Kd.R_drewN | apply Kd.R_drew)); exact (zRf4 HO397.out BK398.out (by decide))))) (below_size (zB HB.out))); have n16_ := zQ (zL BK357.out hb); have n17_ := zQ (zL BK358.out hb); have n18_ := zQ (blk_below (g := gb398) (o := .cells #[.slice Ao54 t386.length co54, .slice Ao58 t389.length co58, .slice Ao59 t392.length co59, .slice Ao60 t395.length co60] 64 (0, 0)) (zP BK398.out) hb); have n19_ := zQ (below_step (zB HB.out) hb); clear HO363; clear HO366; clear HO369; clear HO372; clear HO375; clear HO378; clear HO381; clear HO384; clear HO388; clear HO391; clear HO394; clear HO397; clear BK357; clear BK358; clear BK398; clear HB; have HO363 := n0_; have HO366 := n1_; have HO369 := n2_; have HO372 := n3_; have HO375 := n4_; have HO378 := n5_; have HO381 := n6_; have HO384 := n7_; have HO388 := n8_; have HO391 := n9_; have HO394 := n10_; have HO397 := n11_; have HO401 := n12_; have HO404 := n13_; have HO407 := n14_; have HO410 := n15_; have BK357 := n16_; have BK358 := n17_; have BK398 := n18_; have HB := n19_; clear n0_ n1_ n2_ n3_ n4_ n5_ n6_ n7_ n8_ n9_ n10_ n11_ n12_ n13_ n14_ n15_ n16_ n17_ n18_ n19_; (try clear hb); (try clear hb2); (try clear hk); (try clear hi); (try clear ho0); (try clear ho1); (try clear ho2); (try clear ho3)) | ((with_reducible refine gate_dst (N := 8) rfl ?_); refine box_event ?hg (N := 8) ?hd (cs := #[.slice none 0 0, .slice none 0 0, .slice none 0 0, .slice none 0 0]) (t := 64) ?hr ?_; (case hd => rfl); (case hg => rfl); (case hr => first | (go_simp; done) | (go_simp; rfl)); intro gb411 hg w63 hbox hb; have n0_ := zQ (Kd.R_below (zR HO363.out) hb); have n1_ := zQ (Kd.S_below (by (with_reducible repeat (first | apply Kd.S_alloc | apply Kd.S_drewN | apply Kd.S_drew)); exact HO366.out) hb); have n2_ := zQ (Kd.R_below (zR HO369.out) hb); have n3_ := zQ (Kd.R_below (zR HO372.out) hb); have n4_ := zQ (Kd.R_below (zR HO375.out) hb); have n5_ := zQ (Kd.S_below (by (with_reducible repeat (first | apply Kd.S_alloc | apply Kd.S_drewN | apply Kd.S_drew)); exact HO378.out) hb); have n6_ := zQ (Kd.R_below (zR HO381.out) hb); have n7_ := zQ (Kd.R_below (zR HO384.out) hb); have n8_ := zQ (Kd.R_below (zR HO388.out) hb); have n9_ := zQ (Kd.S_below (by (with_reducible repeat (first | apply Kd.S_alloc | apply Kd.S_drewN | apply Kd.S_drew)); exact HO391.out) hb); have n10_ := zQ (Kd.R_below (zR HO394.out) hb); have n11_ := zQ (Kd.R_below (zR HO397.out) hb); have n12_ := zQ (Kd.R_below (zR HO401.out) hb); have n13_ := zQ (Kd.S_below (by (with_reducible repeat (first | apply Kd.S_alloc | apply Kd.S_drewN | apply Kd.S_drew)); exact HO404.out) hb); have n14_ := zQ (Kd.R_below (zR HO407.out) hb); have n15_ := zQ (Kd.R_below (zR HO410.out) hb); have n16_ := zQ (zL BK357.out hb); have n17_ := zQ (zL BK358.out hb); have n18_ := zQ (zL BK398.out hb); have n19_ := zQ (below_step (zB HB.out) hb); have n20_ := zQ (hbox); have n21_ := zQ ((zG hg HB.out)); have n22_ := zQ ((zG hg HB.out)); have n23_ := zQ ((zN hg BK357.out)); have n24_ := zQ ((zM hg BK357.out)); have n25_ := zQ ((zN hg BK358.out)); have n26_ := zQ ((zM hg BK358.out)); have n27_ := zQ ((zN hg BK398.out)); have n28_ := zQ ((zM hg BK398.out)); clear HO363; clear HO366; clear HO369; clear HO372; clear HO375; clear HO378; clear HO381; clear HO384; clear HO388; clear HO391; clear HO394; clear HO397; clear HO401; clear HO404; clear HO407; clear HO410; clear BK357; clear BK358; clear BK398; clear HB; have HO363 := n0_; have HO366 := n1_; have HO369 := n2_; have HO372 := n3_; have HO375 := n4_; have HO378 := n5_; have HO381 := n6_; have HO384 := n7_; have HO388 := n8_; have HO391 := n9_; have HO394 := n10_; have HO397 := n11_; have HO401 := n12_; have HO404 := n13_; have HO407 := n14_; have HO410 := n15_; have BK357 := n16_; have BK358 := n17_; have BK398 := n18_; have HB := n19_; have BK411 := n20_; have GW411 := n21_; have GE411 := n22_; have NB357_411 := n23_; have NB411_357 := n24_; have NB358_411 := n25_; have NB411_358 := n26_; have NB398_411 := n27_; have NB411_398 := n28_; clear n0_ n1_ n2_ n3_ n4_ n5_ n6_ n7_ n8_ n9_ n10_ n11_ n12_ n13_ n14_ n15_ n16_ n17_ n18_ n19_ n20_ n21_ n22_ n23_ n24_ n25_ n26_ n27_ n28_; clear hb hbox hg; obtain ⟨Ao64, co64, eo64⟩ := Kd.R_slice HO401.out; subst eo64; have hnb65 := NB411_357.out; have hnc65 := NB357_411.out; have hnb66 := NB411_358.out; have hnc66 := NB358_411.out; have hnb67 := NB411_398.out; have hnc67 := NB398_411.out; obtain ⟨hcz68_0, hcz68_1, hcz68_2, hcz68_3, hfz68_0, hfz68_1, hfz68_2, hfz68_3⟩ := zc4 BK411.out; obtain ⟨Ao69, co69, eo69⟩ := Kd.S_slice HO404.out; subst eo69; obtain ⟨Ao70, co70, eo70⟩ := Kd.R_slice HO407.out; subst eo70; obtain ⟨Ao71, co71, eo71⟩ := Kd.R_slice HO410.out; subst eo71; obtain ⟨hcz72_0, hcz72_1, hcz72_2, hcz72_3, hfz72_0, hfz72_1, hfz72_2, hfz72_3⟩ := zc4 BK398.out) | ((with_reducible refine gate_callee (f := 42) rfl ?_); refine goesL_ (some 31) rfl rfl Try.func42 (by kernel_rfl) rfl #[.agg #[.slice Ao54 t386.length co54, .slice Ao58 t389.length co58, .slice Ao59 t392.length co59, .slice Ao60 t395.length co60], .agg #[.slice Ao64 t399.length co64, .slice Ao69 t402.length co69, .slice Ao70 t405.length co70, .slice Ao71 t408.length co71]] rfl zS ?_; (with_reducible refine (impl_SameProgram.calls k _ _ t386 _ _ t389 _ _ t392 _ _ t395 _ _ t399 _ _ t402 _ _ t405 _ _ t408 t412 _ ?side1 ?side2 ?side3 ?side4 ?side5 ?side6 ?side7 ?side8 ?side9 ?side10 ?side11 ?side12 ?side13 ?side14 ?side15 ?side16 A24.out).mono ?_); (case side1 => refine (Kd.R_reads' (e := 3) (base := w.heap.size) (ok := fun k_ => (((True ∧ some k_ ≠ (.slice Ao42 t361.length co42 : Value).ownBlock) ∧ some k_ ≠ (.slice Ao46 t373.length co46 : Value).ownBlock) ∧ some k_ ≠ (.slice Ao64 t399.length co64 : Value).ownBlock)) (n := t386.length) (c := co54) ?_).2.2; exact (by (with_reducible repeat (first | apply Kd.R_alloc | apply Kd.R_drewN | apply Kd.R_drew)); exact (zRf4 HO388.out BK411.out (by decide)))); (case side2 => exact (Kd.R_reads' HO388.out).2.1); (case side3 => refine (Kd.S_reads' (e := 124) (base := w.heap.size) (ok := fun k_ => (((True ∧ some k_ ≠ (.slice Ao43 t364.length co43 : Value).ownBlock) ∧ some k_ ≠ (.slice Ao47 t376.length co47 : Value).ownBlock) ∧ some k_ ≠ (.slice Ao69 t402.length co69 : Value).ownBlock)) (n := t389.length) (c := co58) ?_).2.2; exact (by (with_reducible repeat (first | apply Kd.S_alloc | apply Kd.S_drewN | apply Kd.S_drew)); exact (zSf4 HO391.out BK411.out (by decide)))); (case side4 => exact (Kd.S_reads' HO391.out).2.1); (case side5 => refine (Kd.R_reads' (e := 135) (base := w.heap.size) (ok := fun k_ => (((True ∧ some k_ ≠ (.slice Ao44 t367.length co44 : Value).ownBlock) ∧ some k_ ≠ (.slice Ao48 t379.length co48 : Value).ownBlock) ∧ some k_ ≠ (.slice Ao70 t405.length co70 : Value).ownBlock)) (n := t392.length) (c := co59) ?_).2.2; exact (by (with_reducible repeat (first | apply Kd.R_alloc | apply Kd.R_drewN | apply Kd.R_drew)); exact (zRf4 HO394.out BK411.out (by decide)))); (case side6 => exact (Kd.R_reads' HO394.out).2.1); (case side7 => refine (Kd.R_reads' (e := 4) (base := w.heap.size) (ok := fun k_ => (((True ∧ some k_ ≠ (.slice Ao45 t370.length co45 : Value).ownBlock) ∧ some k_ ≠ (.slice Ao49 t382.length co49 : Value).ownBlock) ∧ some k_ ≠ (.slice Ao71 t408.length co71 : Value).ownBlock)) (n := t395.length) (c := co60) ?_).2.2; exact (by (with_reducible repeat (first | apply Kd.R_alloc | apply Kd.R_drewN | apply Kd.R_drew)); exact (zRf4 HO397.out BK411.out (by decide)))); (case side8 => exact (Kd.R_reads' HO397.out).2.1); (case side9 => refine (Kd.R_reads' (e := 3) (base := w.heap.size) (ok := fun k_ => (((True ∧ some k_ ≠ (.slice Ao42 t361.length co42 : Value).ownBlock) ∧ some k_ ≠ (.slice Ao46 t373.length co46 : Value).ownBlock) ∧ some k_ ≠ (.slice Ao54 t386.length co54 : Value).ownBlock)) (n := t399.length) (c := co64) ?_).2.2; exact (by (with_reducible repeat (first | apply Kd.R_alloc | apply Kd.R_drewN | apply Kd.R_drew)); exact (zRf4 HO401.out BK411.out (by decide)))); (case side10 => exact (Kd.R_reads' HO401.out).2.1); (case side11 => refine (Kd.S_reads' (e := 124) (base := w.heap.size) (ok := fun k_ => (((True ∧ some k_ ≠ (.slice Ao43 t364.length co43 : Value).ownBlock) ∧ some k_ ≠ (.slice Ao47 t376.length co47 : Value).ownBlock) ∧ some k_ ≠ (.slice Ao58 t389.length co58 : Value).ownBlock)) (n := t402.length) (c := co69) ?_).2.2; exact (by (with_reducible repeat (first | apply Kd.S_alloc | apply Kd.S_drewN | apply Kd.S_drew)); exact (zSf4 HO404.out BK411.out (by decide)))); (case side12 => exact (Kd.S_reads' HO404.out).2.1); (case side13 => refine (Kd.R_reads' (e := 135) (base := w.heap.size) (ok := fun k_ => (((True ∧ some k_ ≠ (.slice Ao44 t367.length co44 : Value).ownBlock) ∧ some k_ ≠ (.slice Ao48 t379.length co48 : Value).ownBlock) ∧ some k_ ≠ (.slice Ao59 t392.length co59 : Value).ownBlock)) (n := t405.length) (c := co70) ?_).2.2; exact (by (with_reducible repeat (first | apply Kd.R_alloc | apply Kd.R_drewN | apply Kd.R_drew)); exact (zRf4 HO407.out BK411.out (by decide)))); (case side14 => exact (Kd.R_reads' HO407.out).2.1); (case side15 => refine (Kd.R_reads' (e := 4) (base := w.heap.size) (ok := fun k_ => (((True ∧ some k_ ≠ (.slice Ao45 t370.length co45 : Value).ownBlock) ∧ some k_ ≠ (.slice Ao49 t382.length co49 : Value).ownBlock) ∧ some k_ ≠ (.slice Ao60 t395.length co60 : Value).ownBlock)) (n := t408.length) (c := co71) ?_).2.2; exact (by (with_reducible repeat (first | apply Kd.R_alloc | apply Kd.R_drewN | apply Kd.R_drew)); exact (zRf4 HO410.out BK411.out (by decide)))); (case side16 => exact (Kd.R_reads' HO410.out).2.1); rintro e w73 ⟨rfl, hb⟩; refine ⟨_, rfl, ?_⟩; have n0_ := zQ (Kd.R_below (by (with_reducible repeat (first | apply Kd.R_alloc | apply Kd.R_drewN | apply Kd.R_drew)); exact (zRf4 HO363.out BK411.out (by decide))) hb); have n1_ := zQ (Kd.S_below (by (with_reducible repeat (first | apply Kd.S_alloc | apply Kd.S_drewN | apply Kd.S_drew)); exact (zSf4 HO366.out BK411.out (by decide))) hb); have n2_ := zQ (Kd.R_below (by (with_reducible repeat (first | apply Kd.R_alloc | apply Kd.R_drewN | apply Kd.R_drew)); exact (zRf4 HO369.out BK411.out (by decide))) hb); have n3_ := zQ (Kd.R_below (by (with_reducible repeat (first | apply Kd.R_alloc | apply Kd.R_drewN | apply Kd.R_drew)); exact (zRf4 HO372.out BK411.out (by decide))) hb); have n4_ := zQ (Kd.R_below (by (with_reducible repeat (first | apply Kd.R_alloc | apply Kd.R_drewN | apply Kd.R_drew)); exact (zRf4 HO375.out BK411.out (by decide))) hb); have n5_ := zQ (Kd.S_below (by (with_reducible repeat (first | apply Kd.S_alloc | apply Kd.S_drewN | apply Kd.S_drew)); exact (zSf4 HO378.out BK411.out (by decide))) hb); have n6_ := zQ (Kd.R_below (by (with_reducible repeat (first | apply Kd.R_alloc | apply Kd.R_drewN | apply Kd.R_drew)); exact (zRf4 HO381.out BK411.out (by decide))) hb); have n7_ := zQ (Kd.R_below (by (with_reducible repeat (first | apply Kd.R_alloc | apply Kd.R_drewN | apply Kd.R_drew)); exact (zRf4 HO384.out BK411.out (by decide))) hb); have n8_ := zQ (Kd.R_below (by (with_reducible repeat (first | apply Kd.R_alloc | apply Kd.R_drewN | apply Kd.R_drew)); exact (zRf4 HO388.out BK411.out (by decide))) hb); have n9_ := zQ (Kd.S_below (by (with_reducible repeat (first | apply Kd.S_alloc | apply Kd.S_drewN | apply Kd.S_drew)); exact (zSf4 HO391.out BK411.out (by decide))) hb); have n10_ := zQ (Kd.R_below (by (with_reducible repeat (first | apply Kd.R_alloc | apply Kd.R_drewN | apply Kd.R_drew)); exact (zRf4 HO394.out BK411.out (by decide))) hb); have n11_ := zQ (Kd.R_below (by (with_reducible repeat (first | apply Kd.R_alloc | apply Kd.R_drewN | apply Kd.R_drew)); exact (zRf4 HO397.out BK411.out (by decide))) hb); have n12_ := zQ (Kd.R_below (by (with_reducible repeat (first | apply Kd.R_alloc | apply Kd.R_drewN | apply Kd.R_drew)); exact (zRf4 HO401.out BK411.out (by decide))) hb); have n13_ := zQ (Kd.S_below (by (with_reducible repeat (first | apply Kd.S_alloc | apply Kd.S_drewN | apply Kd.S_drew)); exact (zSf4 HO404.out BK411.out (by decide))) hb); have n14_ := zQ (Kd.R_below (by (with_reducible repeat (first | apply Kd.R_alloc | apply Kd.R_drewN | apply Kd.R_drew)); exact (zRf4 HO407.out BK411.out (by decide))) hb); have n15_ := zQ (Kd.R_below (by (with_reducible repeat (first | apply Kd.R_alloc | apply Kd.R_drewN | apply Kd.R_drew)); exact (zRf4 HO410.out BK411.out (by decide))) hb); have n16_ := zQ (zL BK357.out hb); have n17_ := zQ (zL BK358.out hb); have n18_ := zQ (zL BK398.out hb); have n19_ := zQ (blk_below (g := gb411) (o := .cells #[.slice Ao64 t399.length co64, .slice Ao69 t402.length co69, .slice Ao70 t405.length co70, .slice Ao71 t408.length co71] 64 (0, 0)) (zP BK411.out) hb); have n20_ := zQ (below_step (zB HB.out) hb); clear HO363; clear HO366; clear HO369; clear HO372; clear HO375; clear HO378; clear HO381; clear HO384; clear HO388; clear HO391; clear HO394; clear HO397; clear HO401; clear HO404; clear HO407; clear HO410; clear BK357; clear BK358; clear BK398; clear BK411; clear HB; have HO363 := n0_; have HO366 := n1_; have HO369 := n2_; have HO372 := n3_; have HO375 := n4_; have HO378 := n5_; have HO381 := n6_; have HO384 := n7_; have HO388 := n8_; have HO391 := n9_; have HO394 := n10_; have HO397 := n11_; have HO401 := n12_; have HO404 := n13_; have HO407 := n14_; have HO410 := n15_; have BK357 := n16_; have BK358 := n17_; have BK398 := n18_; have BK411 := n19_; have HB := n20_; clear n0_ n1_ n2_ n3_ n4_ n5_ n6_ n7_ n8_ n9_ n10_ n11_ n12_ n13_ n14_ n15_ n16_ n17_ n18_ n19_ n20_; (try clear hb); (try clear hb2); (try clear hk); (try clear hi)))
      have n0_ := zQ (Kd.R_drew HO363.out)
      have n1_ := zQ (Kd.S_drew HO366.out)
      have n2_ := zQ (Kd.R_drew HO369.out)
      have n3_ := zQ (Kd.R_drew HO372.out)
      have n4_ := zQ (Kd.R_drew HO375.out)
      have n5_ := zQ (Kd.S_drew HO378.out)
      have n6_ := zQ (Kd.R_drew HO381.out)
      have n7_ := zQ (Kd.R_drew HO384.out)
      have n8_ := zQ (Kd.R_drew HO388.out)
      have n9_ := zQ (Kd.S_drew HO391.out)
      have n10_ := zQ (Kd.R_drew HO394.out)
      have n11_ := zQ (Kd.R_drew HO397.out)
      have n12_ := zQ (Kd.R_drew HO401.out)
      have n13_ := zQ (Kd.S_drew HO404.out)
      have n14_ := zQ (Kd.R_drew HO407.out)
      have n15_ := zQ (Kd.R_drew HO410.out)
      have n16_ := zQ (blk_drew BK357.out)
      have n17_ := zQ (blk_drew BK358.out)
      have n18_ := zQ (blk_drew BK398.out)
      have n19_ := zQ (blk_drew BK411.out)
      have n20_ := zQ (below_drew1 HB.out)
      clear HO363
      clear HO366
      clear HO369
      clear HO372
      clear HO375
      clear HO378
      clear HO381
      clear HO384
      clear HO388
      clear HO391
      clear HO394
      clear HO397
      clear HO401
      clear HO404
      clear HO407
      clear HO410
      clear BK357
      clear BK358
      clear BK398
      clear BK411
      clear HB
      have HO363 := n0_
      have HO366 := n1_
      have HO369 := n2_
      have HO372 := n3_
      have HO375 := n4_
      have HO378 := n5_
      have HO381 := n6_
      have HO384 := n7_
      have HO388 := n8_
      have HO391 := n9_
      have HO394 := n10_
      have HO397 := n11_
      have HO401 := n12_
      have HO404 := n13_
      have HO407 := n14_
      have HO410 := n15_
      have BK357 := n16_
      have BK358 := n17_
      have BK398 := n18_
      have BK411 := n19_
      have HB := n20_
      clear n0_ n1_ n2_ n3_ n4_ n5_ n6_ n7_ n8_ n9_ n10_ n11_ n12_ n13_ n14_ n15_ n16_ n17_ n18_ n19_ n20_
      refine start_ (n := 5) (S := fun w' => w'.cell? ⟨gb398, 0, none⟩ = some (.slice Ao54 t386.length co54) ∧ w'.cell? ⟨gb398, 1, none⟩ = some (.slice Ao58 t389.length co58) ∧ w'.cell? ⟨gb398, 2, none⟩ = some (.slice Ao59 t392.length co59) ∧ w'.cell? ⟨gb398, 3, none⟩ = some (.slice Ao60 t395.length co60) ∧ w'.cell? ⟨gb357, 0, none⟩ = some (.slice A0_0 l0_0.length c0_0) ∧ w'.cell? ⟨gb357, 1, none⟩ = some (.slice A0_1 l0_1.length c0_1) ∧ w'.cell? ⟨gb357, 2, none⟩ = some (.slice A0_2 l0_2.length c0_2) ∧ w'.cell? ⟨gb357, 3, none⟩ = some (.slice A0_3 l0_3.length c0_3)) (ds := []) #[false, false, false, false, false] (by kernel_rfl) rfl rfl ⟨(blk_cell BK398.out 0).trans rfl, (blk_cell BK398.out 1).trans rfl, (blk_cell BK398.out 2).trans rfl, (blk_cell BK398.out 3).trans rfl, (blk_cell BK357.out 0).trans rfl, (blk_cell BK357.out 1).trans rfl, (blk_cell BK357.out 2).trans rfl, (blk_cell BK357.out 3).trans rfl⟩ (fun hHeld => ?_)
      generalize w73.drew = w74 at HO363 HO366 HO369 HO372 HO375 HO378 HO381 HO384 HO388 HO391 HO394 HO397 HO401 HO404 HO407 HO410 BK357 BK358 BK398 BK411 HB hHeld ⊢
      refine take_ (i := 0) (N := some 35) (v := ?_) (a' := ?_) #[true, false, false, false, false] rfl rfl (by kernel_rfl) (fun _ _ _ h => h) (Or.inl ⟨by rfl, ?_⟩) hHeld ?_ ?_
      rotate_left
      ·rintro w' ⟨s0, s1, s2, s3, s4, s5, s6, s7⟩
       go_simp
       with_reducible rfl
      rotate_left
      ·simp only [Act.put, List.setIfInBounds_toArray, List.set_cons_zero, List.set_cons_succ, i64_w, i32_w]
       rfl
      refine take_ (i := 1) (N := some 36) (v := ?_) (a' := ?_) #[true, true, false, false, false] rfl rfl (by kernel_rfl) (fun _ _ _ h => h) (Or.inl ⟨by rfl, ?_⟩) hHeld ?_ ?_
      rotate_left
      ·rintro w' ⟨s0, s1, s2, s3, s4, s5, s6, s7⟩
       go_simp
       with_reducible rfl
      rotate_left
      ·simp only [Act.put, List.setIfInBounds_toArray, List.set_cons_zero, List.set_cons_succ, i64_w, i32_w]
       rfl
      refine one_ (i := 2) (N := some 37) #[true, true, true, false, false] rfl rfl (by kernel_rfl) (by decide) (fun K hK => ?_)
      refine goes_ Try.func38 (by kernel_rfl) rfl #[.agg #[.slice A0_0 l0_0.length c0_0, .slice A0_1 l0_1.length c0_1, .slice A0_2 l0_2.length c0_2, .slice A0_3 l0_3.length c0_3]] (by rfl) rfl rfl zS ?_
      with_reducible refine (laws_toProgram.calls k _ _ l0_0 _ _ l0_1 _ _ l0_2 _ _ l0_3 t413 t416 t419 t422 _ ?side1 ?side2 ?side3 ?side4 ?side5 ?side6 ?side7 ?side8 A26.out).mono ?_
      (case side1 => exact zE HR0_0 HB)
      (case side2 => exact HC0_0.out)
      (case side3 => exact zE HR0_1 HB)
      (case side4 => exact HC0_1.out)
      (case side5 => exact zE HR0_2 HB)
      (case side6 => exact HC0_2.out)
      (case side7 => exact zE HR0_3 HB)
      (case side8 => exact HC0_3.out)
      rintro e w75 ⟨v414, v417, v420, v423, rfl, ho0, ho1, ho2, ho3, hb⟩
      refine ⟨_, rfl, ?_⟩
      have n0_ := zQ (Kd.R_elder' (zR HO363.out) (Kd.R_base ho0) hb)
      have n1_ := zQ (Kd.S_elder' (by (with_reducible repeat (first | apply Kd.S_alloc | apply Kd.S_drewN | apply Kd.S_drew)); exact HO366.out) (Kd.S_base ho1) hb)
      have n2_ := zQ (Kd.R_elder' (zR HO369.out) (Kd.R_base ho2) hb)
      have n3_ := zQ (Kd.R_elder' (zR HO372.out) (Kd.R_base ho3) hb)
      have n4_ := zQ (Kd.R_elder' (zR HO375.out) (Kd.R_base ho0) hb)
      have n5_ := zQ (Kd.S_elder' (by (with_reducible repeat (first | apply Kd.S_alloc | apply Kd.S_drewN | apply Kd.S_drew)); exact HO378.out) (Kd.S_base ho1) hb)
      have n6_ := zQ (Kd.R_elder' (zR HO381.out) (Kd.R_base ho2) hb)
      have n7_ := zQ (Kd.R_elder' (zR HO384.out) (Kd.R_base ho3) hb)
      have n8_ := zQ (Kd.R_elder' (zR HO388.out) (Kd.R_base ho0) hb)
      have n9_ := zQ (Kd.S_elder' (by (with_reducible repeat (first | apply Kd.S_alloc | apply Kd.S_drewN | apply Kd.S_drew)); exact HO391.out) (Kd.S_base ho1) hb)
      have n10_ := zQ (Kd.R_elder' (zR HO394.out) (Kd.R_base ho2) hb)
      have n11_ := zQ (Kd.R_elder' (zR HO397.out) (Kd.R_base ho3) hb)
      have n12_ := zQ (Kd.R_elder' (zR HO401.out) (Kd.R_base ho0) hb)
      have n13_ := zQ (Kd.S_elder' (by (with_reducible repeat (first | apply Kd.S_alloc | apply Kd.S_drewN | apply Kd.S_drew)); exact HO404.out) (Kd.S_base ho1) hb)
      have n14_ := zQ (Kd.R_elder' (zR HO407.out) (Kd.R_base ho2) hb)
      have n15_ := zQ (Kd.R_elder' (zR HO410.out) (Kd.R_base ho3) hb)
      have n16_ := zQ (Kd.R_lower (Kd.R_new' (Kd.R_new' (Kd.R_new' (Kd.R_new' ho0 (Kd.R_lt (zR HO363.out))) (Kd.R_lt (zR HO375.out))) (Kd.R_lt (zR HO388.out))) (Kd.R_lt (zR HO401.out))) (below_size (zB HB.out)))
      have n17_ := zQ (Kd.S_lower (Kd.S_new' (Kd.S_new' (Kd.S_new' (Kd.S_new' ho1 (Kd.S_lt (by (with_reducible repeat (first | apply Kd.S_alloc | apply Kd.S_drewN | apply Kd.S_drew)); exact HO366.out))) (Kd.S_lt (by (with_reducible repeat (first | apply Kd.S_alloc | apply Kd.S_drewN | apply Kd.S_drew)); exact HO378.out))) (Kd.S_lt (by (with_reducible repeat (first | apply Kd.S_alloc | apply Kd.S_drewN | apply Kd.S_drew)); exact HO391.out))) (Kd.S_lt (by (with_reducible repeat (first | apply Kd.S_alloc | apply Kd.S_drewN | apply Kd.S_drew)); exact HO404.out))) (below_size (zB HB.out)))
      have n18_ := zQ (Kd.R_lower (Kd.R_new' (Kd.R_new' (Kd.R_new' (Kd.R_new' ho2 (Kd.R_lt (zR HO369.out))) (Kd.R_lt (zR HO381.out))) (Kd.R_lt (zR HO394.out))) (Kd.R_lt (zR HO407.out))) (below_size (zB HB.out)))
      have n19_ := zQ (Kd.R_lower (Kd.R_new' (Kd.R_new' (Kd.R_new' (Kd.R_new' ho3 (Kd.R_lt (zR HO372.out))) (Kd.R_lt (zR HO384.out))) (Kd.R_lt (zR HO397.out))) (Kd.R_lt (zR HO410.out))) (below_size (zB HB.out)))
      have n20_ := zQ (zL BK357.out hb)
      have n21_ := zQ (zL BK358.out hb)
      have n22_ := zQ (zL BK398.out hb)
      have n23_ := zQ (zL BK411.out hb)
      have n24_ := zQ (below_step (zB HB.out) hb)
      clear HO363
      clear HO366
      clear HO369
      clear HO372
      clear HO375
      clear HO378
      clear HO381
      clear HO384
      clear HO388
      clear HO391
      clear HO394
      clear HO397
      clear HO401
      clear HO404
      clear HO407
      clear HO410
      clear BK357
      clear BK358
      clear BK398
      clear BK411
      clear HB
      have HO363 := n0_
      have HO366 := n1_
      have HO369 := n2_
      have HO372 := n3_
      have HO375 := n4_
      have HO378 := n5_
      have HO381 := n6_
      have HO384 := n7_
      have HO388 := n8_
      have HO391 := n9_
      have HO394 := n10_
      have HO397 := n11_
      have HO401 := n12_
      have HO404 := n13_
      have HO407 := n14_
      have HO410 := n15_
      have HO415 := n16_
      have HO418 := n17_
      have HO421 := n18_
      have HO424 := n19_
      have BK357 := n20_
      have BK358 := n21_
      have BK398 := n22_
      have BK411 := n23_
      have HB := n24_
      clear n0_ n1_ n2_ n3_ n4_ n5_ n6_ n7_ n8_ n9_ n10_ n11_ n12_ n13_ n14_ n15_ n16_ n17_ n18_ n19_ n20_ n21_ n22_ n23_ n24_
      (try clear hb)
      (try clear hb2)
      (try clear hk)
      (try clear hi)
      (try clear ho0)
      (try clear ho1)
      (try clear ho2)
      (try clear ho3)
      obtain ⟨Ao76, co76, eo76⟩ := Kd.R_slice HO415.out
      (first | subst eo76 | (injection eo76 with f1_ f2_ f3_; have f4_ := f1_.symm; have f5_ := f3_.symm; clear f1_ f2_ f3_; subst f4_; subst f5_))
      obtain ⟨Ao77, co77, eo77⟩ := Kd.S_slice HO418.out
      (first | subst eo77 | (injection eo77 with f1_ f2_ f3_; have f4_ := f1_.symm; have f5_ := f3_.symm; clear f1_ f2_ f3_; subst f4_; subst f5_))
      obtain ⟨Ao78, co78, eo78⟩ := Kd.R_slice HO421.out
      (first | subst eo78 | (injection eo78 with f1_ f2_ f3_; have f4_ := f1_.symm; have f5_ := f3_.symm; clear f1_ f2_ f3_; subst f4_; subst f5_))
      obtain ⟨Ao79, co79, eo79⟩ := Kd.R_slice HO424.out
      (first | subst eo79 | (injection eo79 with f1_ f2_ f3_; have f4_ := f1_.symm; have f5_ := f3_.symm; clear f1_ f2_ f3_; subst f4_; subst f5_))
      refine hK.out _ _ ⟨(blk_cell BK398.out 0).trans rfl, (blk_cell BK398.out 1).trans rfl, (blk_cell BK398.out 2).trans rfl, (blk_cell BK398.out 3).trans rfl, (blk_cell BK357.out 0).trans rfl, (blk_cell BK357.out 1).trans rfl, (blk_cell BK357.out 2).trans rfl, (blk_cell BK357.out 3).trans rfl⟩ (fun hHeld => ?_)
      clear hK K
      refine norm_ (a' := ?_) ?_ ?_
      rotate_left
      ·show Act.put _ (some 37) _ = _
       simp only [Act.put, List.setIfInBounds_toArray, List.set_cons_zero, List.set_cons_succ, i64_w, i32_w]
       rfl
      refine one_ (i := 3) (N := some 38) #[true, true, true, true, false] rfl rfl (by kernel_rfl) (by decide) (fun K hK => ?_)
      refine goes_ Try.func40 (by kernel_rfl) rfl #[.agg #[.slice Ao54 t386.length co54, .slice Ao58 t389.length co58, .slice Ao59 t392.length co59, .slice Ao60 t395.length co60], .agg #[.slice Ao76 t413.length co76, .slice Ao77 t416.length co77, .slice Ao78 t419.length co78, .slice Ao79 t422.length co79]] (by rfl) rfl rfl zS ?_
      with_reducible refine (laws_eqProgram.calls k _ _ t386 _ _ t389 _ _ t392 _ _ t395 _ _ t413 _ _ t416 _ _ t419 _ _ t422 true _ ?side1 ?side2 ?side3 ?side4 ?side5 ?side6 ?side7 ?side8 ?side9 ?side10 ?side11 ?side12 ?side13 ?side14 ?side15 ?side16 A27.out).mono ?_
      (case side1 => exact zC (Kd.R_reads' HO388.out).2.2)
      (case side2 => exact (Kd.R_reads' HO388.out).2.1)
      (case side3 => repeat (first | exact (Kd.S_reads' HO391.out).2.2 | (with_reducible refine Kd.C_alloc ?_ _) | (with_reducible refine Kd.C_drewN ?_ _) | (with_reducible refine Kd.C_drew ?_)))
      (case side4 => exact (Kd.S_reads' HO391.out).2.1)
      (case side5 => exact zC (Kd.R_reads' HO394.out).2.2)
      (case side6 => exact (Kd.R_reads' HO394.out).2.1)
      (case side7 => exact zC (Kd.R_reads' HO397.out).2.2)
      (case side8 => exact (Kd.R_reads' HO397.out).2.1)
      (case side9 => exact zC (Kd.R_reads' HO415.out).2.2)
      (case side10 => exact (Kd.R_reads' HO415.out).2.1)
      (case side11 => repeat (first | exact (Kd.S_reads' HO418.out).2.2 | (with_reducible refine Kd.C_alloc ?_ _) | (with_reducible refine Kd.C_drewN ?_ _) | (with_reducible refine Kd.C_drew ?_)))
      (case side12 => exact (Kd.S_reads' HO418.out).2.1)
      (case side13 => exact zC (Kd.R_reads' HO421.out).2.2)
      (case side14 => exact (Kd.R_reads' HO421.out).2.1)
      (case side15 => exact zC (Kd.R_reads' HO424.out).2.2)
      (case side16 => exact (Kd.R_reads' HO424.out).2.1)
      rintro e w80 ⟨rfl, hb⟩
      refine ⟨_, rfl, ?_⟩
      have n0_ := zQ (Kd.R_below (zR HO363.out) hb)
      have n1_ := zQ (Kd.S_below (by (with_reducible repeat (first | apply Kd.S_alloc | apply Kd.S_drewN | apply Kd.S_drew)); exact HO366.out) hb)
      have n2_ := zQ (Kd.R_below (zR HO369.out) hb)
      have n3_ := zQ (Kd.R_below (zR HO372.out) hb)
      have n4_ := zQ (Kd.R_below (zR HO375.out) hb)
      have n5_ := zQ (Kd.S_below (by (with_reducible repeat (first | apply Kd.S_alloc | apply Kd.S_drewN | apply Kd.S_drew)); exact HO378.out) hb)
      have n6_ := zQ (Kd.R_below (zR HO381.out) hb)
      have n7_ := zQ (Kd.R_below (zR HO384.out) hb)
      have n8_ := zQ (Kd.R_below (zR HO388.out) hb)
      have n9_ := zQ (Kd.S_below (by (with_reducible repeat (first | apply Kd.S_alloc | apply Kd.S_drewN | apply Kd.S_drew)); exact HO391.out) hb)
      have n10_ := zQ (Kd.R_below (zR HO394.out) hb)
      have n11_ := zQ (Kd.R_below (zR HO397.out) hb)
      have n12_ := zQ (Kd.R_below (zR HO401.out) hb)
      have n13_ := zQ (Kd.S_below (by (with_reducible repeat (first | apply Kd.S_alloc | apply Kd.S_drewN | apply Kd.S_drew)); exact HO404.out) hb)
      have n14_ := zQ (Kd.R_below (zR HO407.out) hb)
      have n15_ := zQ (Kd.R_below (zR HO410.out) hb)
      have n16_ := zQ (Kd.R_below (zR HO415.out) hb)
      have n17_ := zQ (Kd.S_below (by (with_reducible repeat (first | apply Kd.S_alloc | apply Kd.S_drewN | apply Kd.S_drew)); exact HO418.out) hb)
      have n18_ := zQ (Kd.R_below (zR HO421.out) hb)
      have n19_ := zQ (Kd.R_below (zR HO424.out) hb)
      have n20_ := zQ (zL BK357.out hb)
      have n21_ := zQ (zL BK358.out hb)
      have n22_ := zQ (zL BK398.out hb)
      have n23_ := zQ (zL BK411.out hb)
      have n24_ := zQ (below_step (zB HB.out) hb)
      clear HO363
      clear HO366
      clear HO369
      clear HO372
      clear HO375
      clear HO378
      clear HO381
      clear HO384
      clear HO388
      clear HO391
      clear HO394
      clear HO397
      clear HO401
      clear HO404
      clear HO407
      clear HO410
      clear HO415
      clear HO418
      clear HO421
      clear HO424
      clear BK357
      clear BK358
      clear BK398
      clear BK411
      clear HB
      have HO363 := n0_
      have HO366 := n1_
      have HO369 := n2_
      have HO372 := n3_
      have HO375 := n4_
      have HO378 := n5_
      have HO381 := n6_
      have HO384 := n7_
      have HO388 := n8_
      have HO391 := n9_
      have HO394 := n10_
      have HO397 := n11_
      have HO401 := n12_
      have HO404 := n13_
      have HO407 := n14_
      have HO410 := n15_
      have HO415 := n16_
      have HO418 := n17_
      have HO421 := n18_
      have HO424 := n19_
      have BK357 := n20_
      have BK358 := n21_
      have BK398 := n22_
      have BK411 := n23_
      have HB := n24_
      clear n0_ n1_ n2_ n3_ n4_ n5_ n6_ n7_ n8_ n9_ n10_ n11_ n12_ n13_ n14_ n15_ n16_ n17_ n18_ n19_ n20_ n21_ n22_ n23_ n24_
      (try clear hb)
      (try clear hb2)
      (try clear hk)
      (try clear hi)
      refine hK.out _ _ ⟨(blk_cell BK398.out 0).trans rfl, (blk_cell BK398.out 1).trans rfl, (blk_cell BK398.out 2).trans rfl, (blk_cell BK398.out 3).trans rfl, (blk_cell BK357.out 0).trans rfl, (blk_cell BK357.out 1).trans rfl, (blk_cell BK357.out 2).trans rfl, (blk_cell BK357.out 3).trans rfl⟩ (fun hHeld => ?_)
      clear hK K
      refine norm_ (a' := ?_) ?_ ?_
      rotate_left
      ·show Act.put _ (some 38) _ = _
       simp only [Act.put, List.setIfInBounds_toArray, List.set_cons_zero, List.set_cons_succ, i64_w, i32_w]
       rfl
      refine pure_ (i := 4) (N := some 39) (v := ?_) (a' := ?_) #[true, true, true, true, true] rfl rfl (by kernel_rfl) (fun _ _ _ h => h) (Or.inl ⟨by rfl, ?_⟩) ?_ ?_
      rotate_left
      ·intro w'
       go_simp
       with_reducible rfl
      rotate_left
      ·simp only [Act.put, List.setIfInBounds_toArray, List.set_cons_zero, List.set_cons_succ, i64_w, i32_w]
       rfl
      refine done_ (by kernel_rfl) ?_
      try go_wp2
      have n0_ := zQ (Kd.R_drew HO363.out)
      have n1_ := zQ (Kd.S_drew HO366.out)
      have n2_ := zQ (Kd.R_drew HO369.out)
      have n3_ := zQ (Kd.R_drew HO372.out)
      have n4_ := zQ (Kd.R_drew HO375.out)
      have n5_ := zQ (Kd.S_drew HO378.out)
      have n6_ := zQ (Kd.R_drew HO381.out)
      have n7_ := zQ (Kd.R_drew HO384.out)
      have n8_ := zQ (Kd.R_drew HO388.out)
      have n9_ := zQ (Kd.S_drew HO391.out)
      have n10_ := zQ (Kd.R_drew HO394.out)
      have n11_ := zQ (Kd.R_drew HO397.out)
      have n12_ := zQ (Kd.R_drew HO401.out)
      have n13_ := zQ (Kd.S_drew HO404.out)
      have n14_ := zQ (Kd.R_drew HO407.out)
      have n15_ := zQ (Kd.R_drew HO410.out)
      have n16_ := zQ (Kd.R_drew HO415.out)
      have n17_ := zQ (Kd.S_drew HO418.out)
      have n18_ := zQ (Kd.R_drew HO421.out)
      have n19_ := zQ (Kd.R_drew HO424.out)
      have n20_ := zQ (blk_drew BK357.out)
      have n21_ := zQ (blk_drew BK358.out)
      have n22_ := zQ (blk_drew BK398.out)
      have n23_ := zQ (blk_drew BK411.out)
      have n24_ := zQ (below_drew1 HB.out)
      clear HO363
      clear HO366
      clear HO369
      clear HO372
      clear HO375
      clear HO378
      clear HO381
      clear HO384
      clear HO388
      clear HO391
      clear HO394
      clear HO397
      clear HO401
      clear HO404
      clear HO407
      clear HO410
      clear HO415
      clear HO418
      clear HO421
      clear HO424
      clear BK357
      clear BK358
      clear BK398
      clear BK411
      clear HB
      have HO363 := n0_
      have HO366 := n1_
      have HO369 := n2_
      have HO372 := n3_
      have HO375 := n4_
      have HO378 := n5_
      have HO381 := n6_
      have HO384 := n7_
      have HO388 := n8_
      have HO391 := n9_
      have HO394 := n10_
      have HO397 := n11_
      have HO401 := n12_
      have HO404 := n13_
      have HO407 := n14_
      have HO410 := n15_
      have HO415 := n16_
      have HO418 := n17_
      have HO421 := n18_
      have HO424 := n19_
      have BK357 := n20_
      have BK358 := n21_
      have BK398 := n22_
      have BK411 := n23_
      have HB := n24_
      clear n0_ n1_ n2_ n3_ n4_ n5_ n6_ n7_ n8_ n9_ n10_ n11_ n12_ n13_ n14_ n15_ n16_ n17_ n18_ n19_ n20_ n21_ n22_ n23_ n24_
      refine start_ (n := 5) (S := fun w' => w'.cell? ⟨gb411, 0, none⟩ = some (.slice Ao64 t399.length co64) ∧ w'.cell? ⟨gb411, 1, none⟩ = some (.slice Ao69 t402.length co69) ∧ w'.cell? ⟨gb411, 2, none⟩ = some (.slice Ao70 t405.length co70) ∧ w'.cell? ⟨gb411, 3, none⟩ = some (.slice Ao71 t408.length co71) ∧ w'.cell? ⟨gb358, 0, none⟩ = some (.slice A1_0 l1_0.length c1_0) ∧ w'.cell? ⟨gb358, 1, none⟩ = some (.slice A1_1 l1_1.length c1_1) ∧ w'.cell? ⟨gb358, 2, none⟩ = some (.slice A1_2 l1_2.length c1_2) ∧ w'.cell? ⟨gb358, 3, none⟩ = some (.slice A1_3 l1_3.length c1_3)) (ds := []) #[false, false, false, false, false] (by kernel_rfl) rfl rfl ⟨(blk_cell BK411.out 0).trans rfl, (blk_cell BK411.out 1).trans rfl, (blk_cell BK411.out 2).trans rfl, (blk_cell BK411.out 3).trans rfl, (blk_cell BK358.out 0).trans rfl, (blk_cell BK358.out 1).trans rfl, (blk_cell BK358.out 2).trans rfl, (blk_cell BK358.out 3).trans rfl⟩ (fun hHeld => ?_)
      generalize w80.drew = w81 at HO363 HO366 HO369 HO372 HO375 HO378 HO381 HO384 HO388 HO391 HO394 HO397 HO401 HO404 HO407 HO410 HO415 HO418 HO421 HO424 BK357 BK358 BK398 BK411 HB hHeld ⊢
      refine take_ (i := 0) (N := some 40) (v := ?_) (a' := ?_) #[true, false, false, false, false] rfl rfl (by kernel_rfl) (fun _ _ _ h => h) (Or.inl ⟨by rfl, ?_⟩) hHeld ?_ ?_
      rotate_left
      ·rintro w' ⟨s0, s1, s2, s3, s4, s5, s6, s7⟩
       go_simp
       with_reducible rfl
      rotate_left
      ·simp only [Act.put, List.setIfInBounds_toArray, List.set_cons_zero, List.set_cons_succ, i64_w, i32_w]
       rfl
      refine take_ (i := 1) (N := some 41) (v := ?_) (a' := ?_) #[true, true, false, false, false] rfl rfl (by kernel_rfl) (fun _ _ _ h => h) (Or.inl ⟨by rfl, ?_⟩) hHeld ?_ ?_
      rotate_left
      ·rintro w' ⟨s0, s1, s2, s3, s4, s5, s6, s7⟩
       go_simp
       with_reducible rfl
      rotate_left
      ·simp only [Act.put, List.setIfInBounds_toArray, List.set_cons_zero, List.set_cons_succ, i64_w, i32_w]
       rfl
      refine one_ (i := 2) (N := some 42) #[true, true, true, false, false] rfl rfl (by kernel_rfl) (by decide) (fun K hK => ?_)
      refine goes_ Try.func38 (by kernel_rfl) rfl #[.agg #[.slice A1_0 l1_0.length c1_0, .slice A1_1 l1_1.length c1_1, .slice A1_2 l1_2.length c1_2, .slice A1_3 l1_3.length c1_3]] (by rfl) rfl rfl zS ?_
      with_reducible refine (laws_toProgram.calls k _ _ l1_0 _ _ l1_1 _ _ l1_2 _ _ l1_3 t426 t429 t432 t435 _ ?side1 ?side2 ?side3 ?side4 ?side5 ?side6 ?side7 ?side8 A29.out).mono ?_
      (case side1 => exact zE HR1_0 HB)
      (case side2 => exact HC1_0.out)
      (case side3 => exact zE HR1_1 HB)
      (case side4 => exact HC1_1.out)
      (case side5 => exact zE HR1_2 HB)
      (case side6 => exact HC1_2.out)
      (case side7 => exact zE HR1_3 HB)
      (case side8 => exact HC1_3.out)
      rintro e w82 ⟨v427, v430, v433, v436, rfl, ho0, ho1, ho2, ho3, hb⟩
      refine ⟨_, rfl, ?_⟩
      have n0_ := zQ (Kd.R_elder' (zR HO363.out) (Kd.R_base ho0) hb)
      have n1_ := zQ (Kd.S_elder' (by (with_reducible repeat (first | apply Kd.S_alloc | apply Kd.S_drewN | apply Kd.S_drew)); exact HO366.out) (Kd.S_base ho1) hb)
      have n2_ := zQ (Kd.R_elder' (zR HO369.out) (Kd.R_base ho2) hb)
      have n3_ := zQ (Kd.R_elder' (zR HO372.out) (Kd.R_base ho3) hb)
      have n4_ := zQ (Kd.R_elder' (zR HO375.out) (Kd.R_base ho0) hb)
      have n5_ := zQ (Kd.S_elder' (by (with_reducible repeat (first | apply Kd.S_alloc | apply Kd.S_drewN | apply Kd.S_drew)); exact HO378.out) (Kd.S_base ho1) hb)
      have n6_ := zQ (Kd.R_elder' (zR HO381.out) (Kd.R_base ho2) hb)
      have n7_ := zQ (Kd.R_elder' (zR HO384.out) (Kd.R_base ho3) hb)
      have n8_ := zQ (Kd.R_elder' (zR HO388.out) (Kd.R_base ho0) hb)
      have n9_ := zQ (Kd.S_elder' (by (with_reducible repeat (first | apply Kd.S_alloc | apply Kd.S_drewN | apply Kd.S_drew)); exact HO391.out) (Kd.S_base ho1) hb)
      have n10_ := zQ (Kd.R_elder' (zR HO394.out) (Kd.R_base ho2) hb)
      have n11_ := zQ (Kd.R_elder' (zR HO397.out) (Kd.R_base ho3) hb)
      have n12_ := zQ (Kd.R_elder' (zR HO401.out) (Kd.R_base ho0) hb)
      have n13_ := zQ (Kd.S_elder' (by (with_reducible repeat (first | apply Kd.S_alloc | apply Kd.S_drewN | apply Kd.S_drew)); exact HO404.out) (Kd.S_base ho1) hb)
      have n14_ := zQ (Kd.R_elder' (zR HO407.out) (Kd.R_base ho2) hb)
      have n15_ := zQ (Kd.R_elder' (zR HO410.out) (Kd.R_base ho3) hb)
      have n16_ := zQ (Kd.R_elder' (zR HO415.out) (Kd.R_base ho0) hb)
      have n17_ := zQ (Kd.S_elder' (by (with_reducible repeat (first | apply Kd.S_alloc | apply Kd.S_drewN | apply Kd.S_drew)); exact HO418.out) (Kd.S_base ho1) hb)
      have n18_ := zQ (Kd.R_elder' (zR HO421.out) (Kd.R_base ho2) hb)
      have n19_ := zQ (Kd.R_elder' (zR HO424.out) (Kd.R_base ho3) hb)
      have n20_ := zQ (Kd.R_lower (Kd.R_new' (Kd.R_new' (Kd.R_new' (Kd.R_new' (Kd.R_new' ho0 (Kd.R_lt (zR HO363.out))) (Kd.R_lt (zR HO375.out))) (Kd.R_lt (zR HO388.out))) (Kd.R_lt (zR HO401.out))) (Kd.R_lt (zR HO415.out))) (below_size (zB HB.out)))
      have n21_ := zQ (Kd.S_lower (Kd.S_new' (Kd.S_new' (Kd.S_new' (Kd.S_new' (Kd.S_new' ho1 (Kd.S_lt (by (with_reducible repeat (first | apply Kd.S_alloc | apply Kd.S_drewN | apply Kd.S_drew)); exact HO366.out))) (Kd.S_lt (by (with_reducible repeat (first | apply Kd.S_alloc | apply Kd.S_drewN | apply Kd.S_drew)); exact HO378.out))) (Kd.S_lt (by (with_reducible repeat (first | apply Kd.S_alloc | apply Kd.S_drewN | apply Kd.S_drew)); exact HO391.out))) (Kd.S_lt (by (with_reducible repeat (first | apply Kd.S_alloc | apply Kd.S_drewN | apply Kd.S_drew)); exact HO404.out))) (Kd.S_lt (by (with_reducible repeat (first | apply Kd.S_alloc | apply Kd.S_drewN | apply Kd.S_drew)); exact HO418.out))) (below_size (zB HB.out)))
      have n22_ := zQ (Kd.R_lower (Kd.R_new' (Kd.R_new' (Kd.R_new' (Kd.R_new' (Kd.R_new' ho2 (Kd.R_lt (zR HO369.out))) (Kd.R_lt (zR HO381.out))) (Kd.R_lt (zR HO394.out))) (Kd.R_lt (zR HO407.out))) (Kd.R_lt (zR HO421.out))) (below_size (zB HB.out)))
      have n23_ := zQ (Kd.R_lower (Kd.R_new' (Kd.R_new' (Kd.R_new' (Kd.R_new' (Kd.R_new' ho3 (Kd.R_lt (zR HO372.out))) (Kd.R_lt (zR HO384.out))) (Kd.R_lt (zR HO397.out))) (Kd.R_lt (zR HO410.out))) (Kd.R_lt (zR HO424.out))) (below_size (zB HB.out)))
      have n24_ := zQ (zL BK357.out hb)
      have n25_ := zQ (zL BK358.out hb)
      have n26_ := zQ (zL BK398.out hb)
      have n27_ := zQ (zL BK411.out hb)
      have n28_ := zQ (below_step (zB HB.out) hb)
      clear HO363
      clear HO366
      clear HO369
      clear HO372
      clear HO375
      clear HO378
      clear HO381
      clear HO384
      clear HO388
      clear HO391
      clear HO394
      clear HO397
      clear HO401
      clear HO404
      clear HO407
      clear HO410
      clear HO415
      clear HO418
      clear HO421
      clear HO424
      clear BK357
      clear BK358
      clear BK398
      clear BK411
      clear HB
      have HO363 := n0_
      have HO366 := n1_
      have HO369 := n2_
      have HO372 := n3_
      have HO375 := n4_
      have HO378 := n5_
      have HO381 := n6_
      have HO384 := n7_
      have HO388 := n8_
      have HO391 := n9_
      have HO394 := n10_
      have HO397 := n11_
      have HO401 := n12_
      have HO404 := n13_
      have HO407 := n14_
      have HO410 := n15_
      have HO415 := n16_
      have HO418 := n17_
      have HO421 := n18_
      have HO424 := n19_
      have HO428 := n20_
      have HO431 := n21_
      have HO434 := n22_
      have HO437 := n23_
      have BK357 := n24_
      have BK358 := n25_
      have BK398 := n26_
      have BK411 := n27_
      have HB := n28_
      clear n0_ n1_ n2_ n3_ n4_ n5_ n6_ n7_ n8_ n9_ n10_ n11_ n12_ n13_ n14_ n15_ n16_ n17_ n18_ n19_ n20_ n21_ n22_ n23_ n24_ n25_ n26_ n27_ n28_
      (try clear hb)
      (try clear hb2)
      (try clear hk)
      (try clear hi)
      (try clear ho0)
      (try clear ho1)
      (try clear ho2)
      (try clear ho3)
      obtain ⟨Ao83, co83, eo83⟩ := Kd.R_slice HO428.out
      (first | subst eo83 | (injection eo83 with f1_ f2_ f3_; have f4_ := f1_.symm; have f5_ := f3_.symm; clear f1_ f2_ f3_; subst f4_; subst f5_))
      obtain ⟨Ao84, co84, eo84⟩ := Kd.S_slice HO431.out
      (first | subst eo84 | (injection eo84 with f1_ f2_ f3_; have f4_ := f1_.symm; have f5_ := f3_.symm; clear f1_ f2_ f3_; subst f4_; subst f5_))
      obtain ⟨Ao85, co85, eo85⟩ := Kd.R_slice HO434.out
      (first | subst eo85 | (injection eo85 with f1_ f2_ f3_; have f4_ := f1_.symm; have f5_ := f3_.symm; clear f1_ f2_ f3_; subst f4_; subst f5_))
      obtain ⟨Ao86, co86, eo86⟩ := Kd.R_slice HO437.out
      (first | subst eo86 | (injection eo86 with f1_ f2_ f3_; have f4_ := f1_.symm; have f5_ := f3_.symm; clear f1_ f2_ f3_; subst f4_; subst f5_))
      refine hK.out _ _ ⟨(blk_cell BK411.out 0).trans rfl, (blk_cell BK411.out 1).trans rfl, (blk_cell BK411.out 2).trans rfl, (blk_cell BK411.out 3).trans rfl, (blk_cell BK358.out 0).trans rfl, (blk_cell BK358.out 1).trans rfl, (blk_cell BK358.out 2).trans rfl, (blk_cell BK358.out 3).trans rfl⟩ (fun hHeld => ?_)
      clear hK K
      refine norm_ (a' := ?_) ?_ ?_
      rotate_left
      ·show Act.put _ (some 42) _ = _
       simp only [Act.put, List.setIfInBounds_toArray, List.set_cons_zero, List.set_cons_succ, i64_w, i32_w]
       rfl
      refine one_ (i := 3) (N := some 43) #[true, true, true, true, false] rfl rfl (by kernel_rfl) (by decide) (fun K hK => ?_)
      refine goes_ Try.func40 (by kernel_rfl) rfl #[.agg #[.slice Ao64 t399.length co64, .slice Ao69 t402.length co69, .slice Ao70 t405.length co70, .slice Ao71 t408.length co71], .agg #[.slice Ao83 t426.length co83, .slice Ao84 t429.length co84, .slice Ao85 t432.length co85, .slice Ao86 t435.length co86]] (by rfl) rfl rfl zS ?_
      with_reducible refine (laws_eqProgram.calls k _ _ t399 _ _ t402 _ _ t405 _ _ t408 _ _ t426 _ _ t429 _ _ t432 _ _ t435 true _ ?side1 ?side2 ?side3 ?side4 ?side5 ?side6 ?side7 ?side8 ?side9 ?side10 ?side11 ?side12 ?side13 ?side14 ?side15 ?side16 A30.out).mono ?_
      (case side1 => exact zC (Kd.R_reads' HO401.out).2.2)
      (case side2 => exact (Kd.R_reads' HO401.out).2.1)
      (case side3 => repeat (first | exact (Kd.S_reads' HO404.out).2.2 | (with_reducible refine Kd.C_alloc ?_ _) | (with_reducible refine Kd.C_drewN ?_ _) | (with_reducible refine Kd.C_drew ?_)))
      (case side4 => exact (Kd.S_reads' HO404.out).2.1)
      (case side5 => exact zC (Kd.R_reads' HO407.out).2.2)
      (case side6 => exact (Kd.R_reads' HO407.out).2.1)
      (case side7 => exact zC (Kd.R_reads' HO410.out).2.2)
      (case side8 => exact (Kd.R_reads' HO410.out).2.1)
      (case side9 => exact zC (Kd.R_reads' HO428.out).2.2)
      (case side10 => exact (Kd.R_reads' HO428.out).2.1)
      (case side11 => repeat (first | exact (Kd.S_reads' HO431.out).2.2 | (with_reducible refine Kd.C_alloc ?_ _) | (with_reducible refine Kd.C_drewN ?_ _) | (with_reducible refine Kd.C_drew ?_)))
      (case side12 => exact (Kd.S_reads' HO431.out).2.1)
      (case side13 => exact zC (Kd.R_reads' HO434.out).2.2)
      (case side14 => exact (Kd.R_reads' HO434.out).2.1)
      (case side15 => exact zC (Kd.R_reads' HO437.out).2.2)
      (case side16 => exact (Kd.R_reads' HO437.out).2.1)
      rintro e w87 ⟨rfl, hb⟩
      refine ⟨_, rfl, ?_⟩
      have n0_ := zQ (Kd.R_below (zR HO363.out) hb)
      have n1_ := zQ (Kd.S_below (by (with_reducible repeat (first | apply Kd.S_alloc | apply Kd.S_drewN | apply Kd.S_drew)); exact HO366.out) hb)
      have n2_ := zQ (Kd.R_below (zR HO369.out) hb)
      have n3_ := zQ (Kd.R_below (zR HO372.out) hb)
      have n4_ := zQ (Kd.R_below (zR HO375.out) hb)
      have n5_ := zQ (Kd.S_below (by (with_reducible repeat (first | apply Kd.S_alloc | apply Kd.S_drewN | apply Kd.S_drew)); exact HO378.out) hb)
      have n6_ := zQ (Kd.R_below (zR HO381.out) hb)
      have n7_ := zQ (Kd.R_below (zR HO384.out) hb)
      have n8_ := zQ (Kd.R_below (zR HO388.out) hb)
      have n9_ := zQ (Kd.S_below (by (with_reducible repeat (first | apply Kd.S_alloc | apply Kd.S_drewN | apply Kd.S_drew)); exact HO391.out) hb)
      have n10_ := zQ (Kd.R_below (zR HO394.out) hb)
      have n11_ := zQ (Kd.R_below (zR HO397.out) hb)
      have n12_ := zQ (Kd.R_below (zR HO401.out) hb)
      have n13_ := zQ (Kd.S_below (by (with_reducible repeat (first | apply Kd.S_alloc | apply Kd.S_drewN | apply Kd.S_drew)); exact HO404.out) hb)
      have n14_ := zQ (Kd.R_below (zR HO407.out) hb)
      have n15_ := zQ (Kd.R_below (zR HO410.out) hb)
      have n16_ := zQ (Kd.R_below (zR HO415.out) hb)
      have n17_ := zQ (Kd.S_below (by (with_reducible repeat (first | apply Kd.S_alloc | apply Kd.S_drewN | apply Kd.S_drew)); exact HO418.out) hb)
      have n18_ := zQ (Kd.R_below (zR HO421.out) hb)
      have n19_ := zQ (Kd.R_below (zR HO424.out) hb)
      have n20_ := zQ (Kd.R_below (zR HO428.out) hb)
      have n21_ := zQ (Kd.S_below (by (with_reducible repeat (first | apply Kd.S_alloc | apply Kd.S_drewN | apply Kd.S_drew)); exact HO431.out) hb)
      have n22_ := zQ (Kd.R_below (zR HO434.out) hb)
      have n23_ := zQ (Kd.R_below (zR HO437.out) hb)
      have n24_ := zQ (zL BK357.out hb)
      have n25_ := zQ (zL BK358.out hb)
      have n26_ := zQ (zL BK398.out hb)
      have n27_ := zQ (zL BK411.out hb)
      have n28_ := zQ (below_step (zB HB.out) hb)
      clear HO363
      clear HO366
      clear HO369
      clear HO372
      clear HO375
      clear HO378
      clear HO381
      clear HO384
      clear HO388
      clear HO391
      clear HO394
      clear HO397
      clear HO401
      clear HO404
      clear HO407
      clear HO410
      clear HO415
      clear HO418
      clear HO421
      clear HO424
      clear HO428
      clear HO431
      clear HO434
      clear HO437
      clear BK357
      clear BK358
      clear BK398
      clear BK411
      clear HB
      have HO363 := n0_
      have HO366 := n1_
      have HO369 := n2_
      have HO372 := n3_
      have HO375 := n4_
      have HO378 := n5_
      have HO381 := n6_
      have HO384 := n7_
      have HO388 := n8_
      have HO391 := n9_
      have HO394 := n10_
      have HO397 := n11_
      have HO401 := n12_
      have HO404 := n13_
      have HO407 := n14_
      have HO410 := n15_
      have HO415 := n16_
      have HO418 := n17_
      have HO421 := n18_
      have HO424 := n19_
      have HO428 := n20_
      have HO431 := n21_
      have HO434 := n22_
      have HO437 := n23_
      have BK357 := n24_
      have BK358 := n25_
      have BK398 := n26_
      have BK411 := n27_
      have HB := n28_
      clear n0_ n1_ n2_ n3_ n4_ n5_ n6_ n7_ n8_ n9_ n10_ n11_ n12_ n13_ n14_ n15_ n16_ n17_ n18_ n19_ n20_ n21_ n22_ n23_ n24_ n25_ n26_ n27_ n28_
      (try clear hb)
      (try clear hb2)
      (try clear hk)
      (try clear hi)
      refine hK.out _ _ ⟨(blk_cell BK411.out 0).trans rfl, (blk_cell BK411.out 1).trans rfl, (blk_cell BK411.out 2).trans rfl, (blk_cell BK411.out 3).trans rfl, (blk_cell BK358.out 0).trans rfl, (blk_cell BK358.out 1).trans rfl, (blk_cell BK358.out 2).trans rfl, (blk_cell BK358.out 3).trans rfl⟩ (fun hHeld => ?_)
      clear hK K
      refine norm_ (a' := ?_) ?_ ?_
      rotate_left
      ·show Act.put _ (some 43) _ = _
       simp only [Act.put, List.setIfInBounds_toArray, List.set_cons_zero, List.set_cons_succ, i64_w, i32_w]
       rfl
      refine pure_ (i := 4) (N := some 44) (v := ?_) (a' := ?_) #[true, true, true, true, true] rfl rfl (by kernel_rfl) (fun _ _ _ h => h) (Or.inl ⟨by rfl, ?_⟩) ?_ ?_
      rotate_left
      ·intro w'
       go_simp
       with_reducible rfl
      rotate_left
      ·simp only [Act.put, List.setIfInBounds_toArray, List.set_cons_zero, List.set_cons_succ, i64_w, i32_w]
       rfl
      refine done_ (by kernel_rfl) ?_
      try go_wp2
      go_ret
      exact ⟨by first | rfl | (simp [errW_none, errW_some] <;> rfl) | (simp [*, errW_none, errW_some] <;> rfl), zB HB.out⟩
     ·replace c31 := Bool.eq_false_iff.mpr c31
      subst c31
      have H1 : (some false) = some r := by rw [if_neg (show ¬ (false = true) by decide)] at H; exact H
      clear H
      have H := H1
      clear H1
      exact absurd ((Option.some.inj H).trans hlaw_.out) (by decide)
    ·replace c28 := Bool.eq_false_iff.mpr c28
     subst c28
     have H1 : (some false) = some r := by rw [if_neg (show ¬ (false = true) by decide)] at H; exact H
     clear H
     have H := H1
     clear H1
     exact absurd ((Option.some.inj H).trans hlaw_.out) (by decide)

def wf88 (x : S88) : Prop := (fun a => (Lit.int .i64 a).wf = true) x.f0 ∧ (fun a => (Lit.int .i64 a).wf = true) x.f1
def wf117 (x : S117) : Prop := (fun l => l.length ≤ maxLen ∧ ∀ a ∈ l, wf88 a) x.f0
def wf189 (x : S189) : Prop := (fun a => (Lit.int .i64 a).wf = true) x.f0 ∧ (fun a => (Lit.int .i64 a).wf = true) x.f1 ∧ (fun a => (Lit.int .i64 a).wf = true) x.f2 ∧ (fun a => (Lit.int .i64 a).wf = true) x.f3 ∧ (fun a => (Lit.int .i64 a).wf = true) x.f4 ∧ (fun a => (Lit.int .i64 a).wf = true) x.f5
def wf58 (x : S58) : Prop := (fun l => l.length ≤ maxLen ∧ ∀ a ∈ l, (fun a => (Lit.int .i64 a).wf = true) a) x.f0 ∧ (fun l => l.length ≤ maxLen ∧ ∀ a ∈ l, wf117 a) x.f1 ∧ (fun l => l.length ≤ maxLen ∧ ∀ a ∈ l, wf189 a) x.f2 ∧ (fun l => l.length ≤ maxLen ∧ ∀ a ∈ l, (fun _ => True) a) x.f3
/-- THE ONE PURE STATEMENT of laws_FnExactSameProgram: mine. -/
def laws_FnExactSameProgram.Pure : Prop := ∀ (x0 : S58) (x1 : S58), wf58 x0 → wf58 x1 → ∃ k, laws_FnExactSameProgram.f k x0.f0 x0.f1 x0.f2 x0.f3 x1.f0 x1.f1 x1.f2 x1.f3 = some true

end Go.Proofs.Ytkegjmkdnfpfdaa.MFnExactSameProgram

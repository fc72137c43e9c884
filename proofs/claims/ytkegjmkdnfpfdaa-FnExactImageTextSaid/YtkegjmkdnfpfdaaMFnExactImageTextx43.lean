-- By a program of this session.
import Derived.Test.YtkegjmkdnfpfdaaMFnExactImageTextx0
import Derived.Test.YtkegjmkdnfpfdaaMFnExactImageTextx2
import Derived.Test.YtkegjmkdnfpfdaaMFnExactImageTextx4
import Derived.Test.YtkegjmkdnfpfdaaMFnExactImageTextx11
import Derived.Test.YtkegjmkdnfpfdaaMFnExactImageTextx27
import Derived.Test.YtkegjmkdnfpfdaaMFnExactImageTextx42
namespace Go.Proofs.Ytkegjmkdnfpfdaa.MFnExactImageText
open Go.RowKit Go.Proofs.YtkegjmkdnfpfdaaW.PrintWords Go.Proofs.YtkegjmkdnfpfdaaW.PrintLast Go.Proofs.YtkegjmkdnfpfdaaW.PrintMore
attribute [local go_sem] max2_int min2_int max_two min_two max_three min_three max_four min_four
set_option linter.unusedVariables false
set_option linter.unusedSimpArgs false
set_option maxHeartbeats 8000000
set_option maxRecDepth 100000

/-! ### laws_FnExactImageText: function 10 -/
def laws_FnExactImageText.j0 : Nat → Bool → List Int → List (S117) → List (S189) → List Bool → List Int → List (S124) → List (S135) → List Bool → Option (Bool)
 | 0, _, _, _, _, _, _, _, _, _ => none
 | k + 1, x34, x374000, x374001, x374002, x374003, x402000, x402001, x402002, x402003 => if x34 = true then (some false) else ((laws_toProgram.f k x374000 x374001 x374002 x374003).bind fun bt404 => ((laws_eqProgram.f k x402000 x402001 x402002 x402003 bt404.1 bt404.2.1 bt404.2.2.1 bt404.2.2.2).bind fun t416 => (if t416 = true then (some true) else (some false))))
def laws_FnExactImageText.f (k : Nat) (l0_0 : List Int) (l0_1 : List (S117)) (l0_2 : List (S189)) (l0_3 : List Bool) : Option (Bool) := (laws_szProgram.f k l0_0 l0_1 l0_2 l0_3 1048576).bind fun t374 => (if t374 < 0 then (some true) else ((laws_toProgram.f k l0_0 l0_1 l0_2 l0_3).bind fun bt375 => ((spec_ImageText.f k bt375.1 bt375.2.1 bt375.2.2.1 bt375.2.2.2).bind fun bt387 => ((laws_toProgram.f k l0_0 l0_1 l0_2 l0_3).bind fun bt389 => ((impl_ImageText.f k bt389.1 bt389.2.1 bt389.2.2.1 bt389.2.2.2).bind fun bt402 => (if bt402.1.toList = bt387.1.toList then (laws_FnExactImageText.j0 k (bt402.2 != bt387.2) l0_0 l0_1 l0_2 l0_3 bt389.1 bt389.2.1 bt389.2.2.1 bt389.2.2.2) else (laws_FnExactImageText.j0 k true l0_0 l0_1 l0_2 l0_3 bt389.1 bt389.2.1 bt389.2.2.1 bt389.2.2.2)))))))
theorem laws_FnExactImageText.mono_l : ∀ k, (∀ y0 y1 y2 y3 y4 y5 y6 y7 y8, LeO (laws_FnExactImageText.j0 k y0 y1 y2 y3 y4 y5 y6 y7 y8) (laws_FnExactImageText.j0 (k + 1) y0 y1 y2 y3 y4 y5 y6 y7 y8))
 | 0 => fun _ _ _ _ _ _ _ _ _ r h => by simp [laws_FnExactImageText.j0] at h
 | k + 1 => by
  have ih0 := laws_FnExactImageText.mono_l k
  ·intro y0 y1 y2 y3 y4 y5 y6 y7 y8
   unfold laws_FnExactImageText.j0
   repeat' first
   | (with_reducible exact ih0 _ _ _ _ _ _ _ _ _)
   | (with_reducible exact impl_ImageText.mono _ _ _ _ _)
   | (with_reducible exact laws_eqProgram.mono _ _ _ _ _ _ _ _ _)
   | (with_reducible exact laws_szProgram.mono _ _ _ _ _ _)
   | (with_reducible exact laws_toProgram.mono _ _ _ _ _)
   | (with_reducible exact spec_ImageText.mono _ _ _ _ _)
   | (with_reducible exact LeO.refl _)
   | (with_reducible exact LeO.none _)
   | (with_reducible refine LeO.ite ?_ ?_)
   | (with_reducible refine LeO.bind ?_ (fun _ => ?_))
theorem laws_FnExactImageText.mono : ∀ a0 a1 a2 a3 k, LeO (laws_FnExactImageText.f k a0 a1 a2 a3) (laws_FnExactImageText.f (k + 1) a0 a1 a2 a3) := by
 intro a0 a1 a2 a3 k
 have ih0 := laws_FnExactImageText.mono_l k
 unfold laws_FnExactImageText.f
 repeat' first
  | (with_reducible exact ih0 _ _ _ _ _ _ _ _ _)
  | (with_reducible exact impl_ImageText.mono _ _ _ _ _)
  | (with_reducible exact laws_eqProgram.mono _ _ _ _ _ _ _ _ _)
  | (with_reducible exact laws_szProgram.mono _ _ _ _ _ _)
  | (with_reducible exact laws_toProgram.mono _ _ _ _ _)
  | (with_reducible exact spec_ImageText.mono _ _ _ _ _)
  | (with_reducible exact LeO.refl _)
  | (with_reducible exact LeO.none _)
  | (with_reducible refine LeO.ite ?_ ?_)
  | (with_reducible refine LeO.bind ?_ (fun _ => ?_))
theorem laws_FnExactImageText.calls (k : Nat) (A0_0 : Option Addr) (c0_0 : Nat) (l0_0 : List Int) (A0_1 : Option Addr) (c0_1 : Nat) (l0_1 : List (S117)) (A0_2 : Option Addr) (c0_2 : Nat) (l0_2 : List (S189)) (A0_3 : Option Addr) (c0_3 : Nat) (l0_3 : List Bool) (r : Bool) (w : World) (hr0_0 : Kd.C (Kd.int .i64) w A0_0 l0_0.length l0_0) (hc0_0 : l0_0.length ≤ c0_0) (hr0_1 : Kd.C k117 w A0_1 l0_1.length l0_1) (hc0_1 : l0_1.length ≤ c0_1) (hr0_2 : Kd.C k189 w A0_2 l0_2.length l0_2) (hc0_2 : l0_2.length ≤ c0_2) (hr0_3 : Kd.C Kd.bool w A0_3 l0_3.length l0_3) (hc0_3 : l0_3.length ≤ c0_3) (h : laws_FnExactImageText.f k l0_0 l0_1 l0_2 l0_3 = some r) (hlaw0 : r = true) :
 Calls Try.prog 10 #[.agg #[.slice A0_0 l0_0.length c0_0, .slice A0_1 l0_1.length c0_1, .slice A0_2 l0_2.length c0_2, .slice A0_3 l0_3.length c0_3]] w fun e w' => e = .returned (.bool r) ∧ Below w.heap.size w w' := by
 have hu58 := Try.underlying58
 have hu64 := Try.underlying64
 have HR0_0 := zQ hr0_0
 have HC0_0 := zQ hc0_0
 clear hr0_0 hc0_0
 have HR0_1 := zQ hr0_1
 have HC0_1 := zQ hc0_1
 clear hr0_1 hc0_1
 have HR0_2 := zQ hr0_2
 have HC0_2 := zQ hc0_2
 clear hr0_2 hc0_2
 have HR0_3 := zQ hr0_3
 have HC0_3 := zQ hc0_3
 clear hr0_3 hc0_3
 have HB := zQ (Below.refl w.heap.size w)
 have hlaw_ := zQ hlaw0
 clear hlaw0
 have H : ((laws_szProgram.f k l0_0 l0_1 l0_2 l0_3 1048576).bind fun t374 => (if t374 < 0 then (some true) else ((laws_toProgram.f k l0_0 l0_1 l0_2 l0_3).bind fun bt375 => ((spec_ImageText.f k bt375.1 bt375.2.1 bt375.2.2.1 bt375.2.2.2).bind fun bt387 => ((laws_toProgram.f k l0_0 l0_1 l0_2 l0_3).bind fun bt389 => ((impl_ImageText.f k bt389.1 bt389.2.1 bt389.2.2.1 bt389.2.2.2).bind fun bt402 => (if bt402.1.toList = bt387.1.toList then (laws_FnExactImageText.j0 k (bt402.2 != bt387.2) l0_0 l0_1 l0_2 l0_3 bt389.1 bt389.2.1 bt389.2.2.1 bt389.2.2.2) else (laws_FnExactImageText.j0 k true l0_0 l0_1 l0_2 l0_3 bt389.1 bt389.2.1 bt389.2.2.1 bt389.2.2.2)))))))) = some r := h
 clear h
 replace H := Option.bind_eq_some_iff.mp H
 obtain ⟨t374, A20, H⟩ := H
 replace H : (if t374 < 0 then (some true) else ((laws_toProgram.f k l0_0 l0_1 l0_2 l0_3).bind fun bt375 => ((spec_ImageText.f k bt375.1 bt375.2.1 bt375.2.2.1 bt375.2.2.2).bind fun bt387 => ((laws_toProgram.f k l0_0 l0_1 l0_2 l0_3).bind fun bt389 => ((impl_ImageText.f k bt389.1 bt389.2.1 bt389.2.2.1 bt389.2.2.2).bind fun bt402 => (if bt402.1.toList = bt387.1.toList then (laws_FnExactImageText.j0 k (bt402.2 != bt387.2) l0_0 l0_1 l0_2 l0_3 bt389.1 bt389.2.1 bt389.2.2.1 bt389.2.2.2) else (laws_FnExactImageText.j0 k true l0_0 l0_1 l0_2 l0_3 bt389.1 bt389.2.1 bt389.2.2.1 bt389.2.2.2))))))) = some r := H
 have A2 := zQ A20
 clear A20
 by_cases c3 : t374 < 0
 ·rw [if_pos c3] at H
  have c3b0 : decide (t374 < 0) = true := decide_eq_true c3
  clear c3
  obtain rfl := Option.some.inj H
  go_enter Try.func10, Try.ntmps10
  go_wp2_with (first | ((with_reducible refine gate_dst (N := 1) rfl ?_); refine box_event ?hg (N := 1) ?hd (cs := #[.slice A0_0 l0_0.length c0_0, .slice A0_1 l0_1.length c0_1, .slice A0_2 l0_2.length c0_2, .slice A0_3 l0_3.length c0_3]) (t := 58) ?hr ?_; (case hd => rfl); (case hg => rfl); (case hr => first | (go_simp; done) | (go_simp; rfl)); intro gb373 hg w4 hbox hb; have n0_ := zQ (below_step (zB HB.out) hb); have n1_ := zQ (hbox); have n2_ := zQ ((zG hg HB.out)); have n3_ := zQ ((zG hg HB.out)); clear HB; have HB := n0_; have BK373 := n1_; have GW373 := n2_; have GE373 := n3_; clear n0_ n1_ n2_ n3_; clear hb hbox hg; obtain ⟨hcz5_0, hcz5_1, hcz5_2, hcz5_3, hfz5_0, hfz5_1, hfz5_2, hfz5_3⟩ := zc4 BK373.out) | ((with_reducible refine gate_callee (f := 36) rfl ?_); refine goesL_ (some 11) rfl rfl Try.func36 (by kernel_rfl) rfl #[.agg #[.slice A0_0 l0_0.length c0_0, .slice A0_1 l0_1.length c0_1, .slice A0_2 l0_2.length c0_2, .slice A0_3 l0_3.length c0_3], .int .i64 1048576] rfl zS ?_; (with_reducible refine (laws_szProgram.calls k _ _ l0_0 _ _ l0_1 _ _ l0_2 _ _ l0_3 1048576 t374 _ ?side1 ?side2 ?side3 ?side4 ?side5 ?side6 ?side7 ?side8 A2.out).mono ?_); (case side1 => exact zE HR0_0 HB); (case side2 => exact HC0_0.out); (case side3 => exact zE HR0_1 HB); (case side4 => exact HC0_1.out); (case side5 => exact zE HR0_2 HB); (case side6 => exact HC0_2.out); (case side7 => exact zE HR0_3 HB); (case side8 => exact HC0_3.out); rintro e w6 ⟨rfl, hb⟩; refine ⟨_, rfl, ?_⟩; have n0_ := zQ (zL BK373.out hb); have n1_ := zQ (below_step (zB HB.out) hb); clear BK373; clear HB; have BK373 := n0_; have HB := n1_; clear n0_ n1_; (try clear hb); (try clear hb2); (try clear hk); (try clear hi)))
  go_ret
  exact ⟨by first | rfl | (simp [errW_none, errW_some] <;> rfl) | (simp [*, errW_none, errW_some] <;> rfl), zB HB.out⟩
 ·rw [if_neg c3] at H
  have c3b0 : decide (t374 < 0) = false := decide_eq_false c3
  clear c3
  replace H := Option.bind_eq_some_iff.mp H
  obtain ⟨⟨t375, t378, t381, t384⟩, A70, H⟩ := H
  replace H : ((spec_ImageText.f k t375 t378 t381 t384).bind fun bt387 => ((laws_toProgram.f k l0_0 l0_1 l0_2 l0_3).bind fun bt389 => ((impl_ImageText.f k bt389.1 bt389.2.1 bt389.2.2.1 bt389.2.2.2).bind fun bt402 => (if bt402.1.toList = bt387.1.toList then (laws_FnExactImageText.j0 k (bt402.2 != bt387.2) l0_0 l0_1 l0_2 l0_3 bt389.1 bt389.2.1 bt389.2.2.1 bt389.2.2.2) else (laws_FnExactImageText.j0 k true l0_0 l0_1 l0_2 l0_3 bt389.1 bt389.2.1 bt389.2.2.1 bt389.2.2.2))))) = some r := H
  have A7 := zQ A70
  clear A70
  replace H := Option.bind_eq_some_iff.mp H
  obtain ⟨⟨t387, t388⟩, A80, H⟩ := H
  replace H : ((laws_toProgram.f k l0_0 l0_1 l0_2 l0_3).bind fun bt389 => ((impl_ImageText.f k bt389.1 bt389.2.1 bt389.2.2.1 bt389.2.2.2).bind fun bt402 => (if bt402.1.toList = t387.toList then (laws_FnExactImageText.j0 k (bt402.2 != t388) l0_0 l0_1 l0_2 l0_3 bt389.1 bt389.2.1 bt389.2.2.1 bt389.2.2.2) else (laws_FnExactImageText.j0 k true l0_0 l0_1 l0_2 l0_3 bt389.1 bt389.2.1 bt389.2.2.1 bt389.2.2.2)))) = some r := H
  have A8 := zQ A80
  clear A80
  replace H := Option.bind_eq_some_iff.mp H
  obtain ⟨⟨t389, t392, t395, t398⟩, A90, H⟩ := H
  replace H : ((impl_ImageText.f k t389 t392 t395 t398).bind fun bt402 => (if bt402.1.toList = t387.toList then (laws_FnExactImageText.j0 k (bt402.2 != t388) l0_0 l0_1 l0_2 l0_3 t389 t392 t395 t398) else (laws_FnExactImageText.j0 k true l0_0 l0_1 l0_2 l0_3 t389 t392 t395 t398))) = some r := H
  have A9 := zQ A90
  clear A90
  replace H := Option.bind_eq_some_iff.mp H
  obtain ⟨⟨t402, t403⟩, A100, H⟩ := H
  replace H : (if t402.toList = t387.toList then (laws_FnExactImageText.j0 k (t403 != t388) l0_0 l0_1 l0_2 l0_3 t389 t392 t395 t398) else (laws_FnExactImageText.j0 k true l0_0 l0_1 l0_2 l0_3 t389 t392 t395 t398)) = some r := H
  have A10 := zQ A100
  clear A100
  have HC11 := zQ H
  clear H
  go_enter Try.func10, Try.ntmps10
  go_upto_region 8 with (first | ((with_reducible refine gate_dst (N := 1) rfl ?_); refine box_event ?hg (N := 1) ?hd (cs := #[.slice A0_0 l0_0.length c0_0, .slice A0_1 l0_1.length c0_1, .slice A0_2 l0_2.length c0_2, .slice A0_3 l0_3.length c0_3]) (t := 58) ?hr ?_; (case hd => rfl); (case hg => rfl); (case hr => first | (go_simp; done) | (go_simp; rfl)); intro gb373 hg w12 hbox hb; have n0_ := zQ (below_step (zB HB.out) hb); have n1_ := zQ (hbox); have n2_ := zQ ((zG hg HB.out)); have n3_ := zQ ((zG hg HB.out)); clear HB; have HB := n0_; have BK373 := n1_; have GW373 := n2_; have GE373 := n3_; clear n0_ n1_ n2_ n3_; clear hb hbox hg; obtain ⟨hcz13_0, hcz13_1, hcz13_2, hcz13_3, hfz13_0, hfz13_1, hfz13_2, hfz13_3⟩ := zc4 BK373.out) | ((with_reducible refine gate_callee (f := 36) rfl ?_); refine goesL_ (some 11) rfl rfl Try.func36 (by kernel_rfl) rfl #[.agg #[.slice A0_0 l0_0.length c0_0, .slice A0_1 l0_1.length c0_1, .slice A0_2 l0_2.length c0_2, .slice A0_3 l0_3.length c0_3], .int .i64 1048576] rfl zS ?_; (with_reducible refine (laws_szProgram.calls k _ _ l0_0 _ _ l0_1 _ _ l0_2 _ _ l0_3 1048576 t374 _ ?side1 ?side2 ?side3 ?side4 ?side5 ?side6 ?side7 ?side8 A2.out).mono ?_); (case side1 => exact zE HR0_0 HB); (case side2 => exact HC0_0.out); (case side3 => exact zE HR0_1 HB); (case side4 => exact HC0_1.out); (case side5 => exact zE HR0_2 HB); (case side6 => exact HC0_2.out); (case side7 => exact zE HR0_3 HB); (case side8 => exact HC0_3.out); rintro e w14 ⟨rfl, hb⟩; refine ⟨_, rfl, ?_⟩; have n0_ := zQ (zL BK373.out hb); have n1_ := zQ (below_step (zB HB.out) hb); clear BK373; clear HB; have BK373 := n0_; have HB := n1_; clear n0_ n1_; (try clear hb); (try clear hb2); (try clear hk); (try clear hi); obtain ⟨hcz15_0, hcz15_1, hcz15_2, hcz15_3, hfz15_0, hfz15_1, hfz15_2, hfz15_3⟩ := zc4 BK373.out) | ((with_reducible refine gate_callee (f := 38) rfl ?_); refine goesL_ (some 16) rfl rfl Try.func38 (by kernel_rfl) rfl #[.agg #[.slice A0_0 l0_0.length c0_0, .slice A0_1 l0_1.length c0_1, .slice A0_2 l0_2.length c0_2, .slice A0_3 l0_3.length c0_3]] rfl zS ?_; (with_reducible refine (laws_toProgram.calls k _ _ l0_0 _ _ l0_1 _ _ l0_2 _ _ l0_3 t375 t378 t381 t384 _ ?side1 ?side2 ?side3 ?side4 ?side5 ?side6 ?side7 ?side8 A7.out).mono ?_); (case side1 => exact zE HR0_0 HB); (case side2 => exact HC0_0.out); (case side3 => exact zE HR0_1 HB); (case side4 => exact HC0_1.out); (case side5 => exact zE HR0_2 HB); (case side6 => exact HC0_2.out); (case side7 => exact zE HR0_3 HB); (case side8 => exact HC0_3.out); rintro e w16 ⟨v376, v379, v382, v385, rfl, ho0, ho1, ho2, ho3, hb⟩; refine ⟨_, rfl, ?_⟩; have n0_ := zQ (Kd.R_lower ho0 (below_size (zB HB.out))); have n1_ := zQ (Kd.S_lower ho1 (below_size (zB HB.out))); have n2_ := zQ (Kd.R_lower ho2 (below_size (zB HB.out))); have n3_ := zQ (Kd.R_lower ho3 (below_size (zB HB.out))); have n4_ := zQ (zL BK373.out hb); have n5_ := zQ (below_step (zB HB.out) hb); clear BK373; clear HB; have HO377 := n0_; have HO380 := n1_; have HO383 := n2_; have HO386 := n3_; have BK373 := n4_; have HB := n5_; clear n0_ n1_ n2_ n3_ n4_ n5_; (try clear hb); (try clear hb2); (try clear hk); (try clear hi); (try clear ho0); (try clear ho1); (try clear ho2); (try clear ho3); obtain ⟨Ao17, co17, eo17⟩ := Kd.R_slice HO377.out; subst eo17; obtain ⟨Ao18, co18, eo18⟩ := Kd.S_slice HO380.out; subst eo18; obtain ⟨Ao19, co19, eo19⟩ := Kd.R_slice HO383.out; subst eo19; obtain ⟨Ao20, co20, eo20⟩ := Kd.R_slice HO386.out; subst eo20) | ((with_reducible refine gate_callee (f := 52) rfl ?_); refine goesL_ (some 17) rfl rfl Try.func52 (by kernel_rfl) rfl #[.agg #[.slice Ao17 t375.length co17, .slice Ao18 t378.length co18, .slice Ao19 t381.length co19, .slice Ao20 t384.length co20]] rfl zS ?_; (with_reducible refine (spec_ImageText.calls k _ _ t375 _ _ t378 _ _ t381 _ _ t384 t387 t388 _ ?side1 ?side2 ?side3 ?side4 ?side5 ?side6 ?side7 ?side8 A8.out).mono ?_); (case side1 => exact zC (Kd.R_reads' HO377.out).2.2); (case side2 => exact (Kd.R_reads' HO377.out).2.1); (case side3 => repeat (first | exact (Kd.S_reads' HO380.out).2.2 | (with_reducible refine Kd.C_alloc ?_ _) | (with_reducible refine Kd.C_drewN ?_ _) | (with_reducible refine Kd.C_drew ?_))); (case side4 => exact (Kd.S_reads' HO380.out).2.1); (case side5 => exact zC (Kd.R_reads' HO383.out).2.2); (case side6 => exact (Kd.R_reads' HO383.out).2.1); (case side7 => exact zC (Kd.R_reads' HO386.out).2.2); (case side8 => exact (Kd.R_reads' HO386.out).2.1); rintro e w21 ⟨rfl, hb⟩; refine ⟨_, rfl, ?_⟩; have n0_ := zQ (Kd.R_below (zR HO377.out) hb); have n1_ := zQ (Kd.S_below (by (with_reducible repeat (first | apply Kd.S_alloc | apply Kd.S_drewN | apply Kd.S_drew)); exact HO380.out) hb); have n2_ := zQ (Kd.R_below (zR HO383.out) hb); have n3_ := zQ (Kd.R_below (zR HO386.out) hb); have n4_ := zQ (zL BK373.out hb); have n5_ := zQ (below_step (zB HB.out) hb); clear HO377; clear HO380; clear HO383; clear HO386; clear BK373; clear HB; have HO377 := n0_; have HO380 := n1_; have HO383 := n2_; have HO386 := n3_; have BK373 := n4_; have HB := n5_; clear n0_ n1_ n2_ n3_ n4_ n5_; (try clear hb); (try clear hb2); (try clear hk); (try clear hi); obtain ⟨hcz22_0, hcz22_1, hcz22_2, hcz22_3, hfz22_0, hfz22_1, hfz22_2, hfz22_3⟩ := zc4 BK373.out) | ((with_reducible refine gate_callee (f := 38) rfl ?_); refine goesL_ (some 21) rfl rfl Try.func38 (by kernel_rfl) rfl #[.agg #[.slice A0_0 l0_0.length c0_0, .slice A0_1 l0_1.length c0_1, .slice A0_2 l0_2.length c0_2, .slice A0_3 l0_3.length c0_3]] rfl zS ?_; (with_reducible refine (laws_toProgram.calls k _ _ l0_0 _ _ l0_1 _ _ l0_2 _ _ l0_3 t389 t392 t395 t398 _ ?side1 ?side2 ?side3 ?side4 ?side5 ?side6 ?side7 ?side8 A9.out).mono ?_); (case side1 => exact zE HR0_0 HB); (case side2 => exact HC0_0.out); (case side3 => exact zE HR0_1 HB); (case side4 => exact HC0_1.out); (case side5 => exact zE HR0_2 HB); (case side6 => exact HC0_2.out); (case side7 => exact zE HR0_3 HB); (case side8 => exact HC0_3.out); rintro e w23 ⟨v390, v393, v396, v399, rfl, ho0, ho1, ho2, ho3, hb⟩; refine ⟨_, rfl, ?_⟩; have n0_ := zQ (Kd.R_elder' (zR HO377.out) (Kd.R_base ho0) hb); have n1_ := zQ (Kd.S_elder' (by (with_reducible repeat (first | apply Kd.S_alloc | apply Kd.S_drewN | apply Kd.S_drew)); exact HO380.out) (Kd.S_base ho1) hb); have n2_ := zQ (Kd.R_elder' (zR HO383.out) (Kd.R_base ho2) hb); have n3_ := zQ (Kd.R_elder' (zR HO386.out) (Kd.R_base ho3) hb); have n4_ := zQ (Kd.R_lower (Kd.R_new' ho0 (Kd.R_lt (zR HO377.out))) (below_size (zB HB.out))); have n5_ := zQ (Kd.S_lower (Kd.S_new' ho1 (Kd.S_lt (by (with_reducible repeat (first | apply Kd.S_alloc | apply Kd.S_drewN | apply Kd.S_drew)); exact HO380.out))) (below_size (zB HB.out))); have n6_ := zQ (Kd.R_lower (Kd.R_new' ho2 (Kd.R_lt (zR HO383.out))) (below_size (zB HB.out))); have n7_ := zQ (Kd.R_lower (Kd.R_new' ho3 (Kd.R_lt (zR HO386.out))) (below_size (zB HB.out))); have n8_ := zQ (zL BK373.out hb); have n9_ := zQ (below_step (zB HB.out) hb); clear HO377; clear HO380; clear HO383; clear HO386; clear BK373; clear HB; have HO377 := n0_; have HO380 := n1_; have HO383 := n2_; have HO386 := n3_; have HO391 := n4_; have HO394 := n5_; have HO397 := n6_; have HO400 := n7_; have BK373 := n8_; have HB := n9_; clear n0_ n1_ n2_ n3_ n4_ n5_ n6_ n7_ n8_ n9_; (try clear hb); (try clear hb2); (try clear hk); (try clear hi); (try clear ho0); (try clear ho1); (try clear ho2); (try clear ho3)) | ((with_reducible refine gate_dst (N := 6) rfl ?_); refine box_event ?hg (N := 6) ?hd (cs := #[.slice none 0 0, .slice none 0 0, .slice none 0 0, .slice none 0 0]) (t := 64) ?hr ?_; (case hd => rfl); (case hg => rfl); (case hr => first | (go_simp; done) | (go_simp; rfl)); intro gb401 hg w24 hbox hb; have n0_ := zQ (Kd.R_below (zR HO377.out) hb); have n1_ := zQ (Kd.S_below (by (with_reducible repeat (first | apply Kd.S_alloc | apply Kd.S_drewN | apply Kd.S_drew)); exact HO380.out) hb); have n2_ := zQ (Kd.R_below (zR HO383.out) hb); have n3_ := zQ (Kd.R_below (zR HO386.out) hb); have n4_ := zQ (Kd.R_below (zR HO391.out) hb); have n5_ := zQ (Kd.S_below (by (with_reducible repeat (first | apply Kd.S_alloc | apply Kd.S_drewN | apply Kd.S_drew)); exact HO394.out) hb); have n6_ := zQ (Kd.R_below (zR HO397.out) hb); have n7_ := zQ (Kd.R_below (zR HO400.out) hb); have n8_ := zQ (zL BK373.out hb); have n9_ := zQ (below_step (zB HB.out) hb); have n10_ := zQ (hbox); have n11_ := zQ ((zG hg HB.out)); have n12_ := zQ ((zG hg HB.out)); have n13_ := zQ ((zN hg BK373.out)); have n14_ := zQ ((zM hg BK373.out)); clear HO377; clear HO380; clear HO383; clear HO386; clear HO391; clear HO394; clear HO397; clear HO400; clear BK373; clear HB; have HO377 := n0_; have HO380 := n1_; have HO383 := n2_; have HO386 := n3_; have HO391 := n4_; have HO394 := n5_; have HO397 := n6_; have HO400 := n7_; have BK373 := n8_; have HB := n9_; have BK401 := n10_; have GW401 := n11_; have GE401 := n12_; have NB373_401 := n13_; have NB401_373 := n14_; clear n0_ n1_ n2_ n3_ n4_ n5_ n6_ n7_ n8_ n9_ n10_ n11_ n12_ n13_ n14_; clear hb hbox hg; obtain ⟨Ao25, co25, eo25⟩ := Kd.R_slice HO391.out; subst eo25; have hnb26 := NB401_373.out; have hnc26 := NB373_401.out; obtain ⟨hcz27_0, hcz27_1, hcz27_2, hcz27_3, hfz27_0, hfz27_1, hfz27_2, hfz27_3⟩ := zc4 BK401.out; obtain ⟨Ao28, co28, eo28⟩ := Kd.S_slice HO394.out; subst eo28; obtain ⟨Ao29, co29, eo29⟩ := Kd.R_slice HO397.out; subst eo29; obtain ⟨Ao30, co30, eo30⟩ := Kd.R_slice HO400.out; subst eo30) | ((with_reducible refine gate_callee (f := 53) rfl ?_); refine goesL_ (some 24) rfl rfl Try.func53 (by kernel_rfl) rfl #[.agg #[.slice Ao25 t389.length co25, .slice Ao28 t392.length co28, .slice Ao29 t395.length co29, .slice Ao30 t398.length co30]] rfl zS ?_; (with_reducible refine (impl_ImageText.calls k _ _ t389 _ _ t392 _ _ t395 _ _ t398 t402 t403 _ ?side1 ?side2 ?side3 ?side4 ?side5 ?side6 ?side7 ?side8 A10.out).mono ?_); (case side1 => refine (Kd.R_reads' (e := 3) (base := w.heap.size) (ok := fun k_ => (True ∧ some k_ ≠ (.slice Ao17 t375.length co17 : Value).ownBlock)) (n := t389.length) (c := co25) ?_).2.2; exact (by (with_reducible repeat (first | apply Kd.R_alloc | apply Kd.R_drewN | apply Kd.R_drew)); exact (zRf4 HO391.out BK401.out (by decide)))); (case side2 => exact (Kd.R_reads' HO391.out).2.1); (case side3 => refine (Kd.S_reads' (e := 124) (base := w.heap.size) (ok := fun k_ => (True ∧ some k_ ≠ (.slice Ao18 t378.length co18 : Value).ownBlock)) (n := t392.length) (c := co28) ?_).2.2; exact (by (with_reducible repeat (first | apply Kd.S_alloc | apply Kd.S_drewN | apply Kd.S_drew)); exact (zSf4 HO394.out BK401.out (by decide)))); (case side4 => exact (Kd.S_reads' HO394.out).2.1); (case side5 => refine (Kd.R_reads' (e := 135) (base := w.heap.size) (ok := fun k_ => (True ∧ some k_ ≠ (.slice Ao19 t381.length co19 : Value).ownBlock)) (n := t395.length) (c := co29) ?_).2.2; exact (by (with_reducible repeat (first | apply Kd.R_alloc | apply Kd.R_drewN | apply Kd.R_drew)); exact (zRf4 HO397.out BK401.out (by decide)))); (case side6 => exact (Kd.R_reads' HO397.out).2.1); (case side7 => refine (Kd.R_reads' (e := 4) (base := w.heap.size) (ok := fun k_ => (True ∧ some k_ ≠ (.slice Ao20 t384.length co20 : Value).ownBlock)) (n := t398.length) (c := co30) ?_).2.2; exact (by (with_reducible repeat (first | apply Kd.R_alloc | apply Kd.R_drewN | apply Kd.R_drew)); exact (zRf4 HO400.out BK401.out (by decide)))); (case side8 => exact (Kd.R_reads' HO400.out).2.1); rintro e w31 ⟨rfl, hb⟩; refine ⟨_, rfl, ?_⟩; have n0_ := zQ (Kd.R_below (by (with_reducible repeat (first | apply Kd.R_alloc | apply Kd.R_drewN | apply Kd.R_drew)); exact (zRf4 HO377.out BK401.out (by decide))) hb); have n1_ := zQ (Kd.S_below (by (with_reducible repeat (first | apply Kd.S_alloc | apply Kd.S_drewN | apply Kd.S_drew)); exact (zSf4 HO380.out BK401.out (by decide))) hb); have n2_ := zQ (Kd.R_below (by (with_reducible repeat (first | apply Kd.R_alloc | apply Kd.R_drewN | apply Kd.R_drew)); exact (zRf4 HO383.out BK401.out (by decide))) hb); have n3_ := zQ (Kd.R_below (by (with_reducible repeat (first | apply Kd.R_alloc | apply Kd.R_drewN | apply Kd.R_drew)); exact (zRf4 HO386.out BK401.out (by decide))) hb); have n4_ := zQ (Kd.R_below (by (with_reducible repeat (first | apply Kd.R_alloc | apply Kd.R_drewN | apply Kd.R_drew)); exact (zRf4 HO391.out BK401.out (by decide))) hb); have n5_ := zQ (Kd.S_below (by (with_reducible repeat (first | apply Kd.S_alloc | apply Kd.S_drewN | apply Kd.S_drew)); exact (zSf4 HO394.out BK401.out (by decide))) hb); have n6_ := zQ (Kd.R_below (by (with_reducible repeat (first | apply Kd.R_alloc | apply Kd.R_drewN | apply Kd.R_drew)); exact (zRf4 HO397.out BK401.out (by decide))) hb); have n7_ := zQ (Kd.R_below (by (with_reducible repeat (first | apply Kd.R_alloc | apply Kd.R_drewN | apply Kd.R_drew)); exact (zRf4 HO400.out BK401.out (by decide))) hb); have n8_ := zQ (zL BK373.out hb); have n9_ := zQ (blk_below (g := gb401) (o := .cells #[.slice Ao25 t389.length co25, .slice Ao28 t392.length co28, .slice Ao29 t395.length co29, .slice Ao30 t398.length co30] 64 (0, 0)) (zP BK401.out) hb); have n10_ := zQ (below_step (zB HB.out) hb); clear HO377; clear HO380; clear HO383; clear HO386; clear HO391; clear HO394; clear HO397; clear HO400; clear BK373; clear BK401; clear HB; have HO377 := n0_; have HO380 := n1_; have HO383 := n2_; have HO386 := n3_; have HO391 := n4_; have HO394 := n5_; have HO397 := n6_; have HO400 := n7_; have BK373 := n8_; have BK401 := n9_; have HB := n10_; clear n0_ n1_ n2_ n3_ n4_ n5_ n6_ n7_ n8_ n9_ n10_; (try clear hb); (try clear hb2); (try clear hk); (try clear hi)))
  (try simp only [Act.put, List.setIfInBounds_toArray, List.set_cons_zero, List.set_cons_succ])
  go_cut [34] (fun v34 wc => ∃ (kq : Nat) (x34_10 : Bool), v34 = .bool x34_10 ∧ Aside0 (laws_FnExactImageText.j0 kq x34_10 l0_0 l0_1 l0_2 l0_3 t389 t392 t395 t398 = some r) ∧ Aside0 (kq ≤ k) ∧ Aside0 (Kd.R (Kd.int .i64) 3 wc w.heap.size (fun _ => True) (.slice Ao25 t389.length co25) t389) ∧ Aside0 (Kd.S k124 124 wc w.heap.size (fun _ => True) (.slice Ao28 t392.length co28) t392) ∧ Aside0 (Kd.R k135 135 wc w.heap.size (fun _ => True) (.slice Ao29 t395.length co29) t395) ∧ Aside0 (Kd.R Kd.bool 4 wc w.heap.size (fun _ => True) (.slice Ao30 t398.length co30) t398) ∧ Aside0 (wc.heap[gb373]? = some (.cells #[(.slice A0_0 l0_0.length c0_0), (.slice A0_1 l0_1.length c0_1), (.slice A0_2 l0_2.length c0_2), (.slice A0_3 l0_3.length c0_3)] 58 (0, 0))) ∧ Aside0 (wc.heap[gb401]? = some (.cells #[(.slice Ao25 t389.length co25), (.slice Ao28 t392.length co28), (.slice Ao29 t395.length co29), (.slice Ao30 t398.length co30)] 64 (0, 0))) ∧ Aside0 (Below w.heap.size w wc))
  case first =>
   have H := HC11.out
   clear HC11
   by_cases c32 : t402.toList = t387.toList
   ·rw [if_pos c32] at H
    have c32b0 : (t402.toList == t387.toList) = true := beq_iff_eq.mpr c32
    have c32b1 : (t402.toList != t387.toList) = false := bne_eq_false_iff_eq.mpr c32
    clear c32
    (first | rw [c32b0] | (simp only [i64_w, i32_w]; rw [c32b0]) | skip)
    have H' := zQ H
    clear H
    go_wp2
    (first | go_meet | (refine Met.intro ?_; go_step; (repeat apply Exists.intro); refine ⟨?rel, ?eqm_⟩; (case eqm_ => (simp only [c32b1, c32b0]; rfl))))
    case rel => exact ⟨_, ((t403 != t388)), (by first | rfl | (simp; done) | (simp [*]; done)), H', ⟨by first | omega | exact Nat.le_refl _⟩, ⟨by (with_reducible repeat (first | apply Kd.R_alloc | apply Kd.R_drewN | apply Kd.R_drew)); exact Kd.R_mono HO391.out (fun _ hk => trivial)⟩, ⟨by (with_reducible repeat (first | apply Kd.S_alloc | apply Kd.S_drewN | apply Kd.S_drew)); exact Kd.S_mono HO394.out (fun _ hk => trivial)⟩, ⟨by (with_reducible repeat (first | apply Kd.R_alloc | apply Kd.R_drewN | apply Kd.R_drew)); exact Kd.R_mono HO397.out (fun _ hk => trivial)⟩, ⟨by (with_reducible repeat (first | apply Kd.R_alloc | apply Kd.R_drewN | apply Kd.R_drew)); exact Kd.R_mono HO400.out (fun _ hk => trivial)⟩, ⟨by (with_reducible repeat (first | refine blk_drewN ?_ _ | refine blk_drew ?_ | refine blk_alloc ?_ _)); exact BK373.out⟩, ⟨by (with_reducible repeat (first | refine blk_drewN ?_ _ | refine blk_drew ?_ | refine blk_alloc ?_ _)); exact BK401.out⟩, ⟨zB HB.out⟩⟩
   ·rw [if_neg c32] at H
    have c32b0 : (t402.toList == t387.toList) = false := beq_eq_false_iff_ne.mpr c32
    have c32b1 : (t402.toList != t387.toList) = true := bne_iff_ne.mpr c32
    (first | rw [c32b0] | (simp only [i64_w, i32_w]; rw [c32b0]) | skip)
    have H' := zQ H
    clear H
    go_wp2
    (first | go_meet | (refine Met.intro ?_; go_step; (repeat apply Exists.intro); refine ⟨?rel, ?eqm_⟩; (case eqm_ => (simp only [c32b1, c32b0]; rfl))))
    case rel => exact ⟨_, (true), (by first | rfl | (simp; done) | (simp [*]; done)), H', ⟨by first | omega | exact Nat.le_refl _⟩, ⟨by (with_reducible repeat (first | apply Kd.R_alloc | apply Kd.R_drewN | apply Kd.R_drew)); exact Kd.R_mono HO391.out (fun _ hk => trivial)⟩, ⟨by (with_reducible repeat (first | apply Kd.S_alloc | apply Kd.S_drewN | apply Kd.S_drew)); exact Kd.S_mono HO394.out (fun _ hk => trivial)⟩, ⟨by (with_reducible repeat (first | apply Kd.R_alloc | apply Kd.R_drewN | apply Kd.R_drew)); exact Kd.R_mono HO397.out (fun _ hk => trivial)⟩, ⟨by (with_reducible repeat (first | apply Kd.R_alloc | apply Kd.R_drewN | apply Kd.R_drew)); exact Kd.R_mono HO400.out (fun _ hk => trivial)⟩, ⟨by (with_reducible repeat (first | refine blk_drewN ?_ _ | refine blk_drew ?_ | refine blk_alloc ?_ _)); exact BK373.out⟩, ⟨by (with_reducible repeat (first | refine blk_drewN ?_ _ | refine blk_drew ?_ | refine blk_alloc ?_ _)); exact BK401.out⟩, ⟨zB HB.out⟩⟩
  case rest =>
   clear HC11
   try clear c1
   try clear c2
   try clear p2
   try clear c3
   try clear c3b0
   try clear c5
   try clear c10
   try clear c26
   try clear c32
   try clear c32b0
   try clear c32b1
   try clear hcz13_0
   try clear hcz13_1
   try clear hcz13_2
   try clear hcz13_3
   try clear hcz15_0
   try clear hcz15_1
   try clear hcz15_2
   try clear hcz15_3
   try clear hcz22_0
   try clear hcz22_1
   try clear hcz22_2
   try clear hcz22_3
   try clear hcz27_0
   try clear hcz27_1
   try clear hcz27_2
   try clear hcz27_3
   try clear hcz5_0
   try clear hcz5_1
   try clear hcz5_2
   try clear hcz5_3
   try clear hfz13_0
   try clear hfz13_1
   try clear hfz13_2
   try clear hfz13_3
   try clear hfz15_0
   try clear hfz15_1
   try clear hfz15_2
   try clear hfz15_3
   try clear hfz22_0
   try clear hfz22_1
   try clear hfz22_2
   try clear hfz22_3
   try clear hfz27_0
   try clear hfz27_1
   try clear hfz27_2
   try clear hfz27_3
   try clear hfz5_0
   try clear hfz5_1
   try clear hfz5_2
   try clear hfz5_3
   obtain ⟨kq, x34_10, rfl, HA, HJ10, HO_402000, HO_402001, HO_402002, HO_402003, BK373, BK401, HB⟩ := hcut
   cases kq with
   | zero => exact absurd HA.out (by simp [laws_FnExactImageText.j0])
   | succ kj10 =>
    have H := HA.out
    clear HA
    simp only [laws_FnExactImageText.j0] at H
    by_cases c33 : x34_10 = true
    ·subst c33
     have H1 : (some false) = some r := by rw [if_pos rfl] at H; exact H
     clear H
     have H := H1
     clear H1
     exact absurd ((Option.some.inj H).trans hlaw_.out) (by decide)
    ·replace c33 := Bool.eq_false_iff.mpr c33
     subst c33
     have H1 : ((laws_toProgram.f kj10 l0_0 l0_1 l0_2 l0_3).bind fun bt404 => ((laws_eqProgram.f kj10 t389 t392 t395 t398 bt404.1 bt404.2.1 bt404.2.2.1 bt404.2.2.2).bind fun t416 => (if t416 = true then (some true) else (some false)))) = some r := by rw [if_neg (show ¬ (false = true) by decide)] at H; exact H
     clear H
     have H := H1
     clear H1
     replace H := Option.bind_eq_some_iff.mp H
     obtain ⟨⟨t404, t407, t410, t413⟩, A340, H⟩ := H
     replace H : ((laws_eqProgram.f kj10 t389 t392 t395 t398 t404 t407 t410 t413).bind fun t416 => (if t416 = true then (some true) else (some false))) = some r := H
     have A34 := zQ A340
     clear A340
     replace H := Option.bind_eq_some_iff.mp H
     obtain ⟨t416, A350, H⟩ := H
     replace H : (if t416 = true then (some true) else (some false)) = some r := H
     have A35 := zQ A350
     clear A350
     by_cases c36 : t416 = true
     ·subst c36
      have H1 : (some true) = some r := by rw [if_pos rfl] at H; exact H
      clear H
      have H := H1
      clear H1
      obtain rfl := Option.some.inj H
      try go_wp2
      have n0_ := zQ (Kd.R_drew HO_402000.out)
      have n1_ := zQ (Kd.S_drew HO_402001.out)
      have n2_ := zQ (Kd.R_drew HO_402002.out)
      have n3_ := zQ (Kd.R_drew HO_402003.out)
      have n4_ := zQ (blk_drew BK373.out)
      have n5_ := zQ (blk_drew BK401.out)
      have n6_ := zQ (below_drew1 HB.out)
      clear HO_402000
      clear HO_402001
      clear HO_402002
      clear HO_402003
      clear BK373
      clear BK401
      clear HB
      have HO_402000 := n0_
      have HO_402001 := n1_
      have HO_402002 := n2_
      have HO_402003 := n3_
      have BK373 := n4_
      have BK401 := n5_
      have HB := n6_
      clear n0_ n1_ n2_ n3_ n4_ n5_ n6_
      refine start_ (n := 5) (S := fun w' => w'.cell? ⟨gb401, 0, none⟩ = some (.slice Ao25 t389.length co25) ∧ w'.cell? ⟨gb401, 1, none⟩ = some (.slice Ao28 t392.length co28) ∧ w'.cell? ⟨gb401, 2, none⟩ = some (.slice Ao29 t395.length co29) ∧ w'.cell? ⟨gb401, 3, none⟩ = some (.slice Ao30 t398.length co30) ∧ w'.cell? ⟨gb373, 0, none⟩ = some (.slice A0_0 l0_0.length c0_0) ∧ w'.cell? ⟨gb373, 1, none⟩ = some (.slice A0_1 l0_1.length c0_1) ∧ w'.cell? ⟨gb373, 2, none⟩ = some (.slice A0_2 l0_2.length c0_2) ∧ w'.cell? ⟨gb373, 3, none⟩ = some (.slice A0_3 l0_3.length c0_3)) (ds := []) #[false, false, false, false, false] (by kernel_rfl) rfl rfl ⟨(blk_cell BK401.out 0).trans rfl, (blk_cell BK401.out 1).trans rfl, (blk_cell BK401.out 2).trans rfl, (blk_cell BK401.out 3).trans rfl, (blk_cell BK373.out 0).trans rfl, (blk_cell BK373.out 1).trans rfl, (blk_cell BK373.out 2).trans rfl, (blk_cell BK373.out 3).trans rfl⟩ (fun hHeld => ?_)
      generalize wc.drew = w37 at HO_402000 HO_402001 HO_402002 HO_402003 BK373 BK401 HB hHeld ⊢
      refine take_ (i := 0) (N := some 35) (v := ?_) (a' := ?_) #[true, false, false, false, false] rfl rfl (by kernel_rfl) (fun _ _ _ h => h) (Or.inl ⟨by rfl, ?_⟩) hHeld ?_ ?_
      rotate_left
      ·rintro w' ⟨s0, s1, s2, s3, s4, s5, s6, s7⟩
       go_simp
       with_reducible rfl
      rotate_left
      ·simp only [Act.put, List.setIfInBounds_toArray, List.set_cons_zero, List.set_cons_succ, i64_w, i32_w]
       rfl
      refine take_ (i := 1) (N := some 36) (v := ?_) (a' := ?_) #[true, true, false, false, false] rfl rfl (by kernel_rfl) (fun _ _ _ h => h) (Or.inl ⟨by rfl, ?_⟩) hHeld ?_ ?_
      rotate_left
      ·rintro w' ⟨s0, s1, s2, s3, s4, s5, s6, s7⟩
       go_simp
       with_reducible rfl
      rotate_left
      ·simp only [Act.put, List.setIfInBounds_toArray, List.set_cons_zero, List.set_cons_succ, i64_w, i32_w]
       rfl
      refine one_ (i := 2) (N := some 37) #[true, true, true, false, false] rfl rfl (by kernel_rfl) (by decide) (fun K hK => ?_)
      refine goes_ Try.func38 (by kernel_rfl) rfl #[.agg #[.slice A0_0 l0_0.length c0_0, .slice A0_1 l0_1.length c0_1, .slice A0_2 l0_2.length c0_2, .slice A0_3 l0_3.length c0_3]] (by rfl) rfl rfl zS ?_
      with_reducible refine (laws_toProgram.calls kj10 _ _ l0_0 _ _ l0_1 _ _ l0_2 _ _ l0_3 t404 t407 t410 t413 _ ?side1 ?side2 ?side3 ?side4 ?side5 ?side6 ?side7 ?side8 A34.out).mono ?_
      (case side1 => exact zE HR0_0 HB)
      (case side2 => exact HC0_0.out)
      (case side3 => exact zE HR0_1 HB)
      (case side4 => exact HC0_1.out)
      (case side5 => exact zE HR0_2 HB)
      (case side6 => exact HC0_2.out)
      (case side7 => exact zE HR0_3 HB)
      (case side8 => exact HC0_3.out)
      rintro e w38 ⟨v405, v408, v411, v414, rfl, ho0, ho1, ho2, ho3, hb⟩
      refine ⟨_, rfl, ?_⟩
      have n0_ := zQ (Kd.R_elder' (zR HO_402000.out) (Kd.R_base ho0) hb)
      have n1_ := zQ (Kd.S_elder' (by (with_reducible repeat (first | apply Kd.S_alloc | apply Kd.S_drewN | apply Kd.S_drew)); exact HO_402001.out) (Kd.S_base ho1) hb)
      have n2_ := zQ (Kd.R_elder' (zR HO_402002.out) (Kd.R_base ho2) hb)
      have n3_ := zQ (Kd.R_elder' (zR HO_402003.out) (Kd.R_base ho3) hb)
      have n4_ := zQ (Kd.R_lower (Kd.R_new' ho0 (Kd.R_lt (zR HO_402000.out))) (below_size (zB HB.out)))
      have n5_ := zQ (Kd.S_lower (Kd.S_new' ho1 (Kd.S_lt (by (with_reducible repeat (first | apply Kd.S_alloc | apply Kd.S_drewN | apply Kd.S_drew)); exact HO_402001.out))) (below_size (zB HB.out)))
      have n6_ := zQ (Kd.R_lower (Kd.R_new' ho2 (Kd.R_lt (zR HO_402002.out))) (below_size (zB HB.out)))
      have n7_ := zQ (Kd.R_lower (Kd.R_new' ho3 (Kd.R_lt (zR HO_402003.out))) (below_size (zB HB.out)))
      have n8_ := zQ (zL BK373.out hb)
      have n9_ := zQ (zL BK401.out hb)
      have n10_ := zQ (below_step (zB HB.out) hb)
      clear HO_402000
      clear HO_402001
      clear HO_402002
      clear HO_402003
      clear BK373
      clear BK401
      clear HB
      have HO_402000 := n0_
      have HO_402001 := n1_
      have HO_402002 := n2_
      have HO_402003 := n3_
      have HO406 := n4_
      have HO409 := n5_
      have HO412 := n6_
      have HO415 := n7_
      have BK373 := n8_
      have BK401 := n9_
      have HB := n10_
      clear n0_ n1_ n2_ n3_ n4_ n5_ n6_ n7_ n8_ n9_ n10_
      (try clear hb)
      (try clear hb2)
      (try clear hk)
      (try clear hi)
      (try clear ho0)
      (try clear ho1)
      (try clear ho2)
      (try clear ho3)
      obtain ⟨Ao39, co39, eo39⟩ := Kd.R_slice HO406.out
      (first | subst eo39 | (injection eo39 with f1_ f2_ f3_; have f4_ := f1_.symm; have f5_ := f3_.symm; clear f1_ f2_ f3_; subst f4_; subst f5_))
      obtain ⟨Ao40, co40, eo40⟩ := Kd.S_slice HO409.out
      (first | subst eo40 | (injection eo40 with f1_ f2_ f3_; have f4_ := f1_.symm; have f5_ := f3_.symm; clear f1_ f2_ f3_; subst f4_; subst f5_))
      obtain ⟨Ao41, co41, eo41⟩ := Kd.R_slice HO412.out
      (first | subst eo41 | (injection eo41 with f1_ f2_ f3_; have f4_ := f1_.symm; have f5_ := f3_.symm; clear f1_ f2_ f3_; subst f4_; subst f5_))
      obtain ⟨Ao42, co42, eo42⟩ := Kd.R_slice HO415.out
      (first | subst eo42 | (injection eo42 with f1_ f2_ f3_; have f4_ := f1_.symm; have f5_ := f3_.symm; clear f1_ f2_ f3_; subst f4_; subst f5_))
      refine hK.out _ _ ⟨(blk_cell BK401.out 0).trans rfl, (blk_cell BK401.out 1).trans rfl, (blk_cell BK401.out 2).trans rfl, (blk_cell BK401.out 3).trans rfl, (blk_cell BK373.out 0).trans rfl, (blk_cell BK373.out 1).trans rfl, (blk_cell BK373.out 2).trans rfl, (blk_cell BK373.out 3).trans rfl⟩ (fun hHeld => ?_)
      clear hK K
      refine norm_ (a' := ?_) ?_ ?_
      rotate_left
      ·show Act.put _ (some 37) _ = _
       simp only [Act.put, List.setIfInBounds_toArray, List.set_cons_zero, List.set_cons_succ, i64_w, i32_w]
       rfl
      refine one_ (i := 3) (N := some 38) #[true, true, true, true, false] rfl rfl (by kernel_rfl) (by decide) (fun K hK => ?_)
      refine goes_ Try.func40 (by kernel_rfl) rfl #[.agg #[.slice Ao25 t389.length co25, .slice Ao28 t392.length co28, .slice Ao29 t395.length co29, .slice Ao30 t398.length co30], .agg #[.slice Ao39 t404.length co39, .slice Ao40 t407.length co40, .slice Ao41 t410.length co41, .slice Ao42 t413.length co42]] (by rfl) rfl rfl zS ?_
      with_reducible refine (laws_eqProgram.calls kj10 _ _ t389 _ _ t392 _ _ t395 _ _ t398 _ _ t404 _ _ t407 _ _ t410 _ _ t413 true _ ?side1 ?side2 ?side3 ?side4 ?side5 ?side6 ?side7 ?side8 ?side9 ?side10 ?side11 ?side12 ?side13 ?side14 ?side15 ?side16 A35.out).mono ?_
      (case side1 => exact zC (Kd.R_reads' HO_402000.out).2.2)
      (case side2 => exact (Kd.R_reads' HO_402000.out).2.1)
      (case side3 => repeat (first | exact (Kd.S_reads' HO_402001.out).2.2 | (with_reducible refine Kd.C_alloc ?_ _) | (with_reducible refine Kd.C_drewN ?_ _) | (with_reducible refine Kd.C_drew ?_)))
      (case side4 => exact (Kd.S_reads' HO_402001.out).2.1)
      (case side5 => exact zC (Kd.R_reads' HO_402002.out).2.2)
      (case side6 => exact (Kd.R_reads' HO_402002.out).2.1)
      (case side7 => exact zC (Kd.R_reads' HO_402003.out).2.2)
      (case side8 => exact (Kd.R_reads' HO_402003.out).2.1)
      (case side9 => exact zC (Kd.R_reads' HO406.out).2.2)
      (case side10 => exact (Kd.R_reads' HO406.out).2.1)
      (case side11 => repeat (first | exact (Kd.S_reads' HO409.out).2.2 | (with_reducible refine Kd.C_alloc ?_ _) | (with_reducible refine Kd.C_drewN ?_ _) | (with_reducible refine Kd.C_drew ?_)))
      (case side12 => exact (Kd.S_reads' HO409.out).2.1)
      (case side13 => exact zC (Kd.R_reads' HO412.out).2.2)
      (case side14 => exact (Kd.R_reads' HO412.out).2.1)
      (case side15 => exact zC (Kd.R_reads' HO415.out).2.2)
      (case side16 => exact (Kd.R_reads' HO415.out).2.1)
      rintro e w43 ⟨rfl, hb⟩
      refine ⟨_, rfl, ?_⟩
      have n0_ := zQ (Kd.R_below (zR HO_402000.out) hb)
      have n1_ := zQ (Kd.S_below (by (with_reducible repeat (first | apply Kd.S_alloc | apply Kd.S_drewN | apply Kd.S_drew)); exact HO_402001.out) hb)
      have n2_ := zQ (Kd.R_below (zR HO_402002.out) hb)
      have n3_ := zQ (Kd.R_below (zR HO_402003.out) hb)
      have n4_ := zQ (Kd.R_below (zR HO406.out) hb)
      have n5_ := zQ (Kd.S_below (by (with_reducible repeat (first | apply Kd.S_alloc | apply Kd.S_drewN | apply Kd.S_drew)); exact HO409.out) hb)
      have n6_ := zQ (Kd.R_below (zR HO412.out) hb)
      have n7_ := zQ (Kd.R_below (zR HO415.out) hb)
      have n8_ := zQ (zL BK373.out hb)
      have n9_ := zQ (zL BK401.out hb)
      have n10_ := zQ (below_step (zB HB.out) hb)
      clear HO_402000
      clear HO_402001
      clear HO_402002
      clear HO_402003
      clear HO406
      clear HO409
      clear HO412
      clear HO415
      clear BK373
      clear BK401
      clear HB
      have HO_402000 := n0_
      have HO_402001 := n1_
      have HO_402002 := n2_
      have HO_402003 := n3_
      have HO406 := n4_
      have HO409 := n5_
      have HO412 := n6_
      have HO415 := n7_
      have BK373 := n8_
      have BK401 := n9_
      have HB := n10_
      clear n0_ n1_ n2_ n3_ n4_ n5_ n6_ n7_ n8_ n9_ n10_
      (try clear hb)
      (try clear hb2)
      (try clear hk)
      (try clear hi)
      refine hK.out _ _ ⟨(blk_cell BK401.out 0).trans rfl, (blk_cell BK401.out 1).trans rfl, (blk_cell BK401.out 2).trans rfl, (blk_cell BK401.out 3).trans rfl, (blk_cell BK373.out 0).trans rfl, (blk_cell BK373.out 1).trans rfl, (blk_cell BK373.out 2).trans rfl, (blk_cell BK373.out 3).trans rfl⟩ (fun hHeld => ?_)
      clear hK K
      refine norm_ (a' := ?_) ?_ ?_
      rotate_left
      ·show Act.put _ (some 38) _ = _
       simp only [Act.put, List.setIfInBounds_toArray, List.set_cons_zero, List.set_cons_succ, i64_w, i32_w]
       rfl
      refine pure_ (i := 4) (N := some 39) (v := ?_) (a' := ?_) #[true, true, true, true, true] rfl rfl (by kernel_rfl) (fun _ _ _ h => h) (Or.inl ⟨by rfl, ?_⟩) ?_ ?_
      rotate_left
      ·intro w'
       go_simp
       with_reducible rfl
      rotate_left
      ·simp only [Act.put, List.setIfInBounds_toArray, List.set_cons_zero, List.set_cons_succ, i64_w, i32_w]
       rfl
      refine done_ (by kernel_rfl) ?_
      try go_wp2
      go_ret
      exact ⟨by first | rfl | (simp [errW_none, errW_some] <;> rfl) | (simp [*, errW_none, errW_some] <;> rfl), zB HB.out⟩
     ·replace c36 := Bool.eq_false_iff.mpr c36
      subst c36
      have H1 : (some false) = some r := by rw [if_neg (show ¬ (false = true) by decide)] at H; exact H
      clear H
      have H := H1
      clear H1
      exact absurd ((Option.some.inj H).trans hlaw_.out) (by decide)

def wf88 (x : S88) : Prop := (fun a => (Lit.int .i64 a).wf = true) x.f0 ∧ (fun a => (Lit.int .i64 a).wf = true) x.f1
def wf117 (x : S117) : Prop := (fun l => l.length ≤ maxLen ∧ ∀ a ∈ l, wf88 a) x.f0
def wf189 (x : S189) : Prop := (fun a => (Lit.int .i64 a).wf = true) x.f0 ∧ (fun a => (Lit.int .i64 a).wf = true) x.f1 ∧ (fun a => (Lit.int .i64 a).wf = true) x.f2 ∧ (fun a => (Lit.int .i64 a).wf = true) x.f3 ∧ (fun a => (Lit.int .i64 a).wf = true) x.f4 ∧ (fun a => (Lit.int .i64 a).wf = true) x.f5
def wf58 (x : S58) : Prop := (fun l => l.length ≤ maxLen ∧ ∀ a ∈ l, (fun a => (Lit.int .i64 a).wf = true) a) x.f0 ∧ (fun l => l.length ≤ maxLen ∧ ∀ a ∈ l, wf117 a) x.f1 ∧ (fun l => l.length ≤ maxLen ∧ ∀ a ∈ l, wf189 a) x.f2 ∧ (fun l => l.length ≤ maxLen ∧ ∀ a ∈ l, (fun _ => True) a) x.f3
/-- THE ONE PURE STATEMENT of laws_FnExactImageText: mine. -/
def laws_FnExactImageText.Pure : Prop := ∀ (x0 : S58), wf58 x0 → ∃ k, laws_FnExactImageText.f k x0.f0 x0.f1 x0.f2 x0.f3 = some true

end Go.Proofs.Ytkegjmkdnfpfdaa.MFnExactImageText

-- Text written by a program of this session (wip/tools: the kit's printer with additions of ours).
import Derived.Test.YtkegjmkdnfpfdaaMFnExactFlatOfx0
import Derived.Test.YtkegjmkdnfpfdaaMFnExactFlatOfx14
import Derived.Test.YtkegjmkdnfpfdaaMFnExactFlatOfx15
import Derived.Test.YtkegjmkdnfpfdaaMFnExactFlatOfx17
namespace Go.Proofs.Ytkegjmkdnfpfdaa.MFnExactFlatOf
open Go.RowKit Go.Proofs.YtkegjmkdnfpfdaaW.PrintWords Go.Proofs.YtkegjmkdnfpfdaaW.PrintLast Go.Proofs.YtkegjmkdnfpfdaaW.PrintMore
attribute [local go_sem] max2_int min2_int max_two min_two max_three min_three max_four min_four   -- for this text's walks alone
set_option linter.unusedVariables false
set_option linter.unusedSimpArgs false

/-! ### impl_verifyCode: function 139 -/
def impl_verifyCode.f (k : Nat) (l0 : List (S96)) (l1 : List Int) (a2 : Int) : Option (Int) := (impl_Instr_71.f l0).bind fun t182 => ((impl_many_int.f l1).bind fun t183 => ((impl_when.f (decide ((l0.length : Int) > 40)) 6).bind fun t184 => ((impl_areKinds.f k l1).bind fun t185 => (if t185 = true then ((impl_isCode.f k l0).bind fun t186 => ((impl_when.f (!t186) 1).bind fun t187 => ((impl_within.f a2 0 6).bind fun t188 => ((impl_when.f (!t188) 4).bind fun t189 => ((impl_first.f k (([t182, t183, t184, t187, t189] : List Int))).bind fun t193 => (some t193)))))) else ((impl_when.f true 1).bind fun t194 => ((impl_within.f a2 0 6).bind fun t195 => ((impl_when.f (!t195) 4).bind fun t196 => ((impl_first.f k (([t182, t183, t184, t194, t196] : List Int))).bind fun t200 => (some t200)))))))))
theorem impl_verifyCode.mono : ∀ a0 a1 a2 k, LeO (impl_verifyCode.f k a0 a1 a2) (impl_verifyCode.f (k + 1) a0 a1 a2) := by
  intro a0 a1 a2 k
  unfold impl_verifyCode.f
  repeat' first
      | (with_reducible exact impl_areKinds.mono _ _)
      | (with_reducible exact impl_first.mono _ _)
      | (with_reducible exact impl_isCode.mono _ _)
      | (with_reducible exact LeO.refl _)
      | (with_reducible exact LeO.none _)
      | (with_reducible refine LeO.ite ?_ ?_)
      | (with_reducible refine LeO.bind ?_ (fun _ => ?_))
      | exact impl_areKinds.mono _ _
      | exact impl_first.mono _ _
      | exact impl_isCode.mono _ _
      | exact LeO.none _
      | refine LeO.ite ?_ ?_
      | refine LeO.bind ?_ (fun _ => ?_)
set_option maxHeartbeats 8000000 in
set_option maxRecDepth 100000 in
theorem impl_verifyCode.calls (k : Nat) (A0 : Option Addr) (c0 : Nat) (l0 : List (S96)) (A1 : Option Addr) (c1 : Nat) (l1 : List Int) (a2 : Int) (r : Int) (w : World) (hr0 : Kd.C k96 w A0 l0.length l0) (hc0 : l0.length ≤ c0) (hr1 : Kd.C (Kd.int .i64) w A1 l1.length l1) (hc1 : l1.length ≤ c1) (h : impl_verifyCode.f k l0 l1 a2 = some r) :
    Calls Try.prog 139 #[.slice A0 l0.length c0, .slice A1 l1.length c1, .int .i64 a2] w fun e w' => e = .returned (.int .i64 r) ∧ Below w.heap.size w w' := by
  have HR0 := Aside0.mk hr0
  have HC0 := Aside0.mk hc0
  clear hr0 hc0
  have HR1 := Aside0.mk hr1
  have HC1 := Aside0.mk hc1
  clear hr1 hc1
  have HB := Aside0.mk (Below.refl w.heap.size w)
  have H : ((impl_Instr_71.f l0).bind fun t182 => ((impl_many_int.f l1).bind fun t183 => ((impl_when.f (decide ((l0.length : Int) > 40)) 6).bind fun t184 => ((impl_areKinds.f k l1).bind fun t185 => (if t185 = true then ((impl_isCode.f k l0).bind fun t186 => ((impl_when.f (!t186) 1).bind fun t187 => ((impl_within.f a2 0 6).bind fun t188 => ((impl_when.f (!t188) 4).bind fun t189 => ((impl_first.f k (([t182, t183, t184, t187, t189] : List Int))).bind fun t193 => (some t193)))))) else ((impl_when.f true 1).bind fun t194 => ((impl_within.f a2 0 6).bind fun t195 => ((impl_when.f (!t195) 4).bind fun t196 => ((impl_first.f k (([t182, t183, t184, t194, t196] : List Int))).bind fun t200 => (some t200)))))))))) = some r := h
  clear h
  replace H := Option.bind_eq_some_iff.mp H
  obtain ⟨t182, A40, H⟩ := H
  replace H : ((impl_many_int.f l1).bind fun t183 => ((impl_when.f (decide ((l0.length : Int) > 40)) 6).bind fun t184 => ((impl_areKinds.f k l1).bind fun t185 => (if t185 = true then ((impl_isCode.f k l0).bind fun t186 => ((impl_when.f (!t186) 1).bind fun t187 => ((impl_within.f a2 0 6).bind fun t188 => ((impl_when.f (!t188) 4).bind fun t189 => ((impl_first.f k (([t182, t183, t184, t187, t189] : List Int))).bind fun t193 => (some t193)))))) else ((impl_when.f true 1).bind fun t194 => ((impl_within.f a2 0 6).bind fun t195 => ((impl_when.f (!t195) 4).bind fun t196 => ((impl_first.f k (([t182, t183, t184, t194, t196] : List Int))).bind fun t200 => (some t200))))))))) = some r := H
  have A4 := Aside0.mk A40
  clear A40
  replace H := Option.bind_eq_some_iff.mp H
  obtain ⟨t183, A50, H⟩ := H
  replace H : ((impl_when.f (decide ((l0.length : Int) > 40)) 6).bind fun t184 => ((impl_areKinds.f k l1).bind fun t185 => (if t185 = true then ((impl_isCode.f k l0).bind fun t186 => ((impl_when.f (!t186) 1).bind fun t187 => ((impl_within.f a2 0 6).bind fun t188 => ((impl_when.f (!t188) 4).bind fun t189 => ((impl_first.f k (([t182, t183, t184, t187, t189] : List Int))).bind fun t193 => (some t193)))))) else ((impl_when.f true 1).bind fun t194 => ((impl_within.f a2 0 6).bind fun t195 => ((impl_when.f (!t195) 4).bind fun t196 => ((impl_first.f k (([t182, t183, t184, t194, t196] : List Int))).bind fun t200 => (some t200)))))))) = some r := H
  have A5 := Aside0.mk A50
  clear A50
  replace H := Option.bind_eq_some_iff.mp H
  obtain ⟨t184, A60, H⟩ := H
  replace H : ((impl_areKinds.f k l1).bind fun t185 => (if t185 = true then ((impl_isCode.f k l0).bind fun t186 => ((impl_when.f (!t186) 1).bind fun t187 => ((impl_within.f a2 0 6).bind fun t188 => ((impl_when.f (!t188) 4).bind fun t189 => ((impl_first.f k (([t182, t183, t184, t187, t189] : List Int))).bind fun t193 => (some t193)))))) else ((impl_when.f true 1).bind fun t194 => ((impl_within.f a2 0 6).bind fun t195 => ((impl_when.f (!t195) 4).bind fun t196 => ((impl_first.f k (([t182, t183, t184, t194, t196] : List Int))).bind fun t200 => (some t200))))))) = some r := H
  have A6 := Aside0.mk A60
  clear A60
  replace H := Option.bind_eq_some_iff.mp H
  obtain ⟨t185, A70, H⟩ := H
  replace H : (if t185 = true then ((impl_isCode.f k l0).bind fun t186 => ((impl_when.f (!t186) 1).bind fun t187 => ((impl_within.f a2 0 6).bind fun t188 => ((impl_when.f (!t188) 4).bind fun t189 => ((impl_first.f k (([t182, t183, t184, t187, t189] : List Int))).bind fun t193 => (some t193)))))) else ((impl_when.f true 1).bind fun t194 => ((impl_within.f a2 0 6).bind fun t195 => ((impl_when.f (!t195) 4).bind fun t196 => ((impl_first.f k (([t182, t183, t184, t194, t196] : List Int))).bind fun t200 => (some t200)))))) = some r := H
  have A7 := Aside0.mk A70
  clear A70
  by_cases c8 : t185 = true
  · subst c8
    have H1 : ((impl_isCode.f k l0).bind fun t186 => ((impl_when.f (!t186) 1).bind fun t187 => ((impl_within.f a2 0 6).bind fun t188 => ((impl_when.f (!t188) 4).bind fun t189 => ((impl_first.f k (([t182, t183, t184, t187, t189] : List Int))).bind fun t193 => (some t193)))))) = some r := by rw [if_pos rfl] at H; exact H
    clear H
    have H := H1
    clear H1
    replace H := Option.bind_eq_some_iff.mp H
    obtain ⟨t186, A90, H⟩ := H
    replace H : ((impl_when.f (!t186) 1).bind fun t187 => ((impl_within.f a2 0 6).bind fun t188 => ((impl_when.f (!t188) 4).bind fun t189 => ((impl_first.f k (([t182, t183, t184, t187, t189] : List Int))).bind fun t193 => (some t193))))) = some r := H
    have A9 := Aside0.mk A90
    clear A90
    replace H := Option.bind_eq_some_iff.mp H
    obtain ⟨t187, A100, H⟩ := H
    replace H : ((impl_within.f a2 0 6).bind fun t188 => ((impl_when.f (!t188) 4).bind fun t189 => ((impl_first.f k (([t182, t183, t184, t187, t189] : List Int))).bind fun t193 => (some t193)))) = some r := H
    have A10 := Aside0.mk A100
    clear A100
    replace H := Option.bind_eq_some_iff.mp H
    obtain ⟨t188, A110, H⟩ := H
    replace H : ((impl_when.f (!t188) 4).bind fun t189 => ((impl_first.f k (([t182, t183, t184, t187, t189] : List Int))).bind fun t193 => (some t193))) = some r := H
    have A11 := Aside0.mk A110
    clear A110
    replace H := Option.bind_eq_some_iff.mp H
    obtain ⟨t189, A120, H⟩ := H
    replace H : ((impl_first.f k (([t182, t183, t184, t187, t189] : List Int))).bind fun t193 => (some t193)) = some r := H
    have A12 := Aside0.mk A120
    clear A120
    obtain ⟨y190, hy190⟩ : ∃ y_ : List Int, y_ = (([t182, t183, t184, t187, t189] : List Int)) := ⟨_, rfl⟩
    replace H : ((impl_first.f k y190).bind fun t193 => (some t193)) = some r := by first | (rw [hy190]; with_reducible exact H) | (have H2_ := (Option.bind_some _ _).symm.trans H; rw [hy190]; with_reducible exact H2_) | (have H2_ := (Option.bind_some _ _).symm.trans H; with_reducible exact H2_) | with_reducible exact H | (rw [hy190]; exact H) | exact H
    have Ny190 := Aside0.mk hy190
    clear hy190
    replace H := Option.bind_eq_some_iff.mp H
    obtain ⟨t193, A130, H⟩ := H
    replace H : (some t193) = some r := H
    have A13 := Aside0.mk A130
    clear A130
    obtain rfl := Option.some.inj H
    go_enter Try.func139, Try.ntmps139
    go_wp2_with (first | ((with_reducible refine gate_callee (f := 71) rfl ?_); refine goesL_ (some 8) rfl rfl Try.func71 (by kernel_rfl) rfl #[.slice A0 l0.length c0] rfl (by (try simp only [List.map_toArray, List.map_cons, List.map_nil]); first | done | rfl | (simp only [List.length_drop, List.length_take]; rfl)) ?_; (with_reducible refine (impl_Instr_71.calls _ _ l0 t182 _ ?side1 ?side2 A4.out).mono ?_); (case side1 => repeat (first | exact HR0.out | (with_reducible refine Kd.C_alloc ?_ _) | (with_reducible refine Kd.C_drewN ?_ _) | (with_reducible refine Kd.C_drew ?_))); (case side2 => exact HC0.out); rintro e w' ⟨rfl, ⟨nd, rfl⟩⟩; refine ⟨_, rfl, ?_⟩) | ((with_reducible refine gate_callee (f := 123) rfl ?_); refine goesL_ (some 10) rfl rfl Try.func123 (by kernel_rfl) rfl #[.slice A1 l1.length c1] rfl (by (try simp only [List.map_toArray, List.map_cons, List.map_nil]); first | done | rfl | (simp only [List.length_drop, List.length_take]; rfl)) ?_; (with_reducible refine (impl_many_int.calls _ _ l1 t183 _ ?side1 ?side2 A5.out).mono ?_); (case side1 => repeat (first | exact HR1.out | (with_reducible refine Kd.C_alloc ?_ _) | (with_reducible refine Kd.C_drewN ?_ _) | (with_reducible refine Kd.C_drew ?_))); (case side2 => exact HC1.out); rintro e w' ⟨rfl, ⟨nd, rfl⟩⟩; refine ⟨_, rfl, ?_⟩) | ((with_reducible refine gate_callee (f := 72) rfl ?_); refine goesL_ (some 14) rfl rfl Try.func72 (by kernel_rfl) rfl #[.bool (decide ((l0.length : Int) > 40)), .int .i64 6] rfl (by (try simp only [List.map_toArray, List.map_cons, List.map_nil]); first | done | rfl | (simp only [List.length_drop, List.length_take]; rfl)) ?_; (with_reducible refine (impl_when.calls (decide ((l0.length : Int) > 40)) 6 t184 _ A6.out).mono ?_); rintro e w' ⟨rfl, ⟨nd, rfl⟩⟩; refine ⟨_, rfl, ?_⟩) | ((with_reducible refine gate_callee (f := 155) rfl ?_); refine goesL_ (some 16) rfl rfl Try.func155 (by kernel_rfl) rfl #[.slice A1 l1.length c1] rfl (by (try simp only [List.map_toArray, List.map_cons, List.map_nil]); first | done | rfl | (simp only [List.length_drop, List.length_take]; rfl)) ?_; (with_reducible refine (impl_areKinds.calls k _ _ l1 true _ ?side1 ?side2 A7.out).mono ?_); (case side1 => repeat (first | exact HR1.out | (with_reducible refine Kd.C_alloc ?_ _) | (with_reducible refine Kd.C_drewN ?_ _) | (with_reducible refine Kd.C_drew ?_))); (case side2 => exact HC1.out); rintro e w14 ⟨rfl, hb⟩; refine ⟨_, rfl, ?_⟩; have n0_ := Aside0.mk (below_step (by repeat (first | (with_reducible first | exact HB.out | apply below_alloc | apply pw_below_drewN | apply below_drew1) | exact HB.out)) hb); clear HB; have HB := n0_; clear n0_; (try clear hb); (try clear hb2); (try clear hk); (try clear hi)) | (go_at_call 158; (with_reducible refine (impl_isCode.calls k _ _ l0 t186 _ ?side1 ?side2 A9.out).mono ?_); (case side1 => repeat (first | exact (Kd.C_below HR0.out HB.out) | (with_reducible refine Kd.C_alloc ?_ _) | (with_reducible refine Kd.C_drewN ?_ _) | (with_reducible refine Kd.C_drew ?_))); (case side2 => exact HC0.out); rintro e w15 ⟨rfl, hb⟩; have n0_ := Aside0.mk (below_step (by repeat (first | (with_reducible first | exact HB.out | apply below_alloc | apply pw_below_drewN | apply below_drew1) | exact HB.out)) hb); clear HB; have HB := n0_; clear n0_; (try clear hb); (try clear hb2); (try clear hk); (try clear hi)) | ((with_reducible refine gate_callee (f := 72) rfl ?_); refine goesL_ (some 23) rfl rfl Try.func72 (by kernel_rfl) rfl #[.bool (!t186), .int .i64 1] rfl (by (try simp only [List.map_toArray, List.map_cons, List.map_nil]); first | done | rfl | (simp only [List.length_drop, List.length_take]; rfl)) ?_; (with_reducible refine (impl_when.calls (!t186) 1 t187 _ A10.out).mono ?_); rintro e w' ⟨rfl, ⟨nd, rfl⟩⟩; refine ⟨_, rfl, ?_⟩) | ((with_reducible refine gate_callee (f := 83) rfl ?_); refine goesL_ (some 25) rfl rfl Try.func83 (by kernel_rfl) rfl #[.int .i64 a2, .int .i64 0, .int .i64 6] rfl (by (try simp only [List.map_toArray, List.map_cons, List.map_nil]); first | done | rfl | (simp only [List.length_drop, List.length_take]; rfl)) ?_; (with_reducible refine (impl_within.calls a2 0 6 t188 _ A11.out).mono ?_); rintro e w' ⟨rfl, ⟨nd, rfl⟩⟩; refine ⟨_, rfl, ?_⟩) | ((with_reducible refine gate_callee (f := 72) rfl ?_); refine goesL_ (some 27) rfl rfl Try.func72 (by kernel_rfl) rfl #[.bool (!t188), .int .i64 4] rfl (by (try simp only [List.map_toArray, List.map_cons, List.map_nil]); first | done | rfl | (simp only [List.length_drop, List.length_take]; rfl)) ?_; (with_reducible refine (impl_when.calls (!t188) 4 t189 _ A12.out).mono ?_); rintro e w' ⟨rfl, ⟨nd, rfl⟩⟩; refine ⟨_, rfl, ?_⟩) | ((with_reducible refine gate_dst (N := 28) rfl ?_); refine Kd.R_lit (Kd.int .i64) _ 3 ?hg (N := 28) ?hd (xs := ([t182, t183, t184, t187, t189] : List Int)) (inner := [.int .i64 t182, .int .i64 t183, .int .i64 t184, .int .i64 t187, .int .i64 t189]) (ok := fun _ => True) (okp := fun _ => True) ?hr ?hp (fun _ hk => hk) trivial (Below.refl _ _) (Nat.le_refl _) (by simp) ?_; (case hd => rfl); (case hg => rfl); (case hr => first | (go_simp; done) | (go_simp; rfl)); (case hp => exact (Reps.one (show Kd.M (Kd.int .i64) _ _ _ t182 [.int .i64 t182] from rfl) (Reps.one (show Kd.M (Kd.int .i64) _ _ _ t183 [.int .i64 t183] from rfl) (Reps.one (show Kd.M (Kd.int .i64) _ _ _ t184 [.int .i64 t184] from rfl) (Reps.one (show Kd.M (Kd.int .i64) _ _ _ t187 [.int .i64 t187] from rfl) (Reps.one (show Kd.M (Kd.int .i64) _ _ _ t189 [.int .i64 t189] from rfl) (Reps.none _ _))))))); intro v191 w16 ho17 hb hg_ hnew_; clear hg_ hnew_; (first | rw [← Ny190.out] at ho17 | (simp only [Int.reduceToNat] at ho17; rw [← Ny190.out] at ho17)); have n0_ := Aside0.mk (Kd.R_lower ho17 (below_size (by repeat (first | (with_reducible first | exact HB.out | apply below_alloc | apply pw_below_drewN | apply below_drew1) | exact HB.out)))); have n1_ := Aside0.mk (below_step (by repeat (first | (with_reducible first | exact HB.out | apply below_alloc | apply pw_below_drewN | apply below_drew1) | exact HB.out)) hb); clear HB; have HO192 := n0_; have HB := n1_; clear n0_ n1_; clear hb ho17; obtain ⟨Ao18, co18, eo18⟩ := Kd.R_slice HO192.out; subst eo18) | ((with_reducible refine gate_callee (f := 70) rfl ?_); refine goesL_ (some 29) rfl rfl Try.func70 (by kernel_rfl) rfl #[.slice Ao18 y190.length co18] rfl (by (try simp only [List.map_toArray, List.map_cons, List.map_nil]); first | done | rfl | (simp only [List.length_drop, List.length_take]; rfl)) ?_; (with_reducible refine (impl_first.calls k _ _ y190 t193 _ ?side1 ?side2 A13.out).mono ?_); (case side1 => repeat (first | exact (Kd.R_reads' HO192.out).2.2 | (with_reducible refine Kd.C_alloc ?_ _) | (with_reducible refine Kd.C_drewN ?_ _) | (with_reducible refine Kd.C_drew ?_))); (case side2 => exact (Kd.R_reads' HO192.out).2.1); rintro e w' ⟨rfl, ⟨nd, rfl⟩⟩; refine ⟨_, rfl, ?_⟩))
    go_ret
    exact ⟨by first | rfl | (simp [errW_none, errW_some] <;> rfl) | (simp [*, errW_none, errW_some] <;> rfl), by repeat (first | (with_reducible first | exact HB.out | apply below_alloc | apply pw_below_drewN | apply below_drew1) | exact HB.out)⟩
  · replace c8 := Bool.eq_false_iff.mpr c8
    subst c8
    have H1 : ((impl_when.f true 1).bind fun t194 => ((impl_within.f a2 0 6).bind fun t195 => ((impl_when.f (!t195) 4).bind fun t196 => ((impl_first.f k (([t182, t183, t184, t194, t196] : List Int))).bind fun t200 => (some t200))))) = some r := by rw [if_neg (show ¬ (false = true) by decide)] at H; exact H
    clear H
    have H := H1
    clear H1
    replace H := Option.bind_eq_some_iff.mp H
    obtain ⟨t194, A190, H⟩ := H
    replace H : ((impl_within.f a2 0 6).bind fun t195 => ((impl_when.f (!t195) 4).bind fun t196 => ((impl_first.f k (([t182, t183, t184, t194, t196] : List Int))).bind fun t200 => (some t200)))) = some r := H
    have A19 := Aside0.mk A190
    clear A190
    replace H := Option.bind_eq_some_iff.mp H
    obtain ⟨t195, A200, H⟩ := H
    replace H : ((impl_when.f (!t195) 4).bind fun t196 => ((impl_first.f k (([t182, t183, t184, t194, t196] : List Int))).bind fun t200 => (some t200))) = some r := H
    have A20 := Aside0.mk A200
    clear A200
    replace H := Option.bind_eq_some_iff.mp H
    obtain ⟨t196, A210, H⟩ := H
    replace H : ((impl_first.f k (([t182, t183, t184, t194, t196] : List Int))).bind fun t200 => (some t200)) = some r := H
    have A21 := Aside0.mk A210
    clear A210
    obtain ⟨y197, hy197⟩ : ∃ y_ : List Int, y_ = (([t182, t183, t184, t194, t196] : List Int)) := ⟨_, rfl⟩
    replace H : ((impl_first.f k y197).bind fun t200 => (some t200)) = some r := by first | (rw [hy197]; with_reducible exact H) | (have H2_ := (Option.bind_some _ _).symm.trans H; rw [hy197]; with_reducible exact H2_) | (have H2_ := (Option.bind_some _ _).symm.trans H; with_reducible exact H2_) | with_reducible exact H | (rw [hy197]; exact H) | exact H
    have Ny197 := Aside0.mk hy197
    clear hy197
    replace H := Option.bind_eq_some_iff.mp H
    obtain ⟨t200, A220, H⟩ := H
    replace H : (some t200) = some r := H
    have A22 := Aside0.mk A220
    clear A220
    obtain rfl := Option.some.inj H
    go_enter Try.func139, Try.ntmps139
    go_wp2_with (first | ((with_reducible refine gate_callee (f := 71) rfl ?_); refine goesL_ (some 8) rfl rfl Try.func71 (by kernel_rfl) rfl #[.slice A0 l0.length c0] rfl (by (try simp only [List.map_toArray, List.map_cons, List.map_nil]); first | done | rfl | (simp only [List.length_drop, List.length_take]; rfl)) ?_; (with_reducible refine (impl_Instr_71.calls _ _ l0 t182 _ ?side1 ?side2 A4.out).mono ?_); (case side1 => repeat (first | exact HR0.out | (with_reducible refine Kd.C_alloc ?_ _) | (with_reducible refine Kd.C_drewN ?_ _) | (with_reducible refine Kd.C_drew ?_))); (case side2 => exact HC0.out); rintro e w' ⟨rfl, ⟨nd, rfl⟩⟩; refine ⟨_, rfl, ?_⟩) | ((with_reducible refine gate_callee (f := 123) rfl ?_); refine goesL_ (some 10) rfl rfl Try.func123 (by kernel_rfl) rfl #[.slice A1 l1.length c1] rfl (by (try simp only [List.map_toArray, List.map_cons, List.map_nil]); first | done | rfl | (simp only [List.length_drop, List.length_take]; rfl)) ?_; (with_reducible refine (impl_many_int.calls _ _ l1 t183 _ ?side1 ?side2 A5.out).mono ?_); (case side1 => repeat (first | exact HR1.out | (with_reducible refine Kd.C_alloc ?_ _) | (with_reducible refine Kd.C_drewN ?_ _) | (with_reducible refine Kd.C_drew ?_))); (case side2 => exact HC1.out); rintro e w' ⟨rfl, ⟨nd, rfl⟩⟩; refine ⟨_, rfl, ?_⟩) | ((with_reducible refine gate_callee (f := 72) rfl ?_); refine goesL_ (some 14) rfl rfl Try.func72 (by kernel_rfl) rfl #[.bool (decide ((l0.length : Int) > 40)), .int .i64 6] rfl (by (try simp only [List.map_toArray, List.map_cons, List.map_nil]); first | done | rfl | (simp only [List.length_drop, List.length_take]; rfl)) ?_; (with_reducible refine (impl_when.calls (decide ((l0.length : Int) > 40)) 6 t184 _ A6.out).mono ?_); rintro e w' ⟨rfl, ⟨nd, rfl⟩⟩; refine ⟨_, rfl, ?_⟩) | ((with_reducible refine gate_callee (f := 155) rfl ?_); refine goesL_ (some 16) rfl rfl Try.func155 (by kernel_rfl) rfl #[.slice A1 l1.length c1] rfl (by (try simp only [List.map_toArray, List.map_cons, List.map_nil]); first | done | rfl | (simp only [List.length_drop, List.length_take]; rfl)) ?_; (with_reducible refine (impl_areKinds.calls k _ _ l1 false _ ?side1 ?side2 A7.out).mono ?_); (case side1 => repeat (first | exact HR1.out | (with_reducible refine Kd.C_alloc ?_ _) | (with_reducible refine Kd.C_drewN ?_ _) | (with_reducible refine Kd.C_drew ?_))); (case side2 => exact HC1.out); rintro e w23 ⟨rfl, hb⟩; refine ⟨_, rfl, ?_⟩; have n0_ := Aside0.mk (below_step (by repeat (first | (with_reducible first | exact HB.out | apply below_alloc | apply pw_below_drewN | apply below_drew1) | exact HB.out)) hb); clear HB; have HB := n0_; clear n0_; (try clear hb); (try clear hb2); (try clear hk); (try clear hi)) | ((with_reducible refine gate_callee (f := 72) rfl ?_); refine goesL_ (some 23) rfl rfl Try.func72 (by kernel_rfl) rfl #[.bool true, .int .i64 1] rfl (by (try simp only [List.map_toArray, List.map_cons, List.map_nil]); first | done | rfl | (simp only [List.length_drop, List.length_take]; rfl)) ?_; (with_reducible refine (impl_when.calls true 1 t194 _ A19.out).mono ?_); rintro e w' ⟨rfl, ⟨nd, rfl⟩⟩; refine ⟨_, rfl, ?_⟩) | ((with_reducible refine gate_callee (f := 83) rfl ?_); refine goesL_ (some 25) rfl rfl Try.func83 (by kernel_rfl) rfl #[.int .i64 a2, .int .i64 0, .int .i64 6] rfl (by (try simp only [List.map_toArray, List.map_cons, List.map_nil]); first | done | rfl | (simp only [List.length_drop, List.length_take]; rfl)) ?_; (with_reducible refine (impl_within.calls a2 0 6 t195 _ A20.out).mono ?_); rintro e w' ⟨rfl, ⟨nd, rfl⟩⟩; refine ⟨_, rfl, ?_⟩) | ((with_reducible refine gate_callee (f := 72) rfl ?_); refine goesL_ (some 27) rfl rfl Try.func72 (by kernel_rfl) rfl #[.bool (!t195), .int .i64 4] rfl (by (try simp only [List.map_toArray, List.map_cons, List.map_nil]); first | done | rfl | (simp only [List.length_drop, List.length_take]; rfl)) ?_; (with_reducible refine (impl_when.calls (!t195) 4 t196 _ A21.out).mono ?_); rintro e w' ⟨rfl, ⟨nd, rfl⟩⟩; refine ⟨_, rfl, ?_⟩) | ((with_reducible refine gate_dst (N := 28) rfl ?_); refine Kd.R_lit (Kd.int .i64) _ 3 ?hg (N := 28) ?hd (xs := ([t182, t183, t184, t194, t196] : List Int)) (inner := [.int .i64 t182, .int .i64 t183, .int .i64 t184, .int .i64 t194, .int .i64 t196]) (ok := fun _ => True) (okp := fun _ => True) ?hr ?hp (fun _ hk => hk) trivial (Below.refl _ _) (Nat.le_refl _) (by simp) ?_; (case hd => rfl); (case hg => rfl); (case hr => first | (go_simp; done) | (go_simp; rfl)); (case hp => exact (Reps.one (show Kd.M (Kd.int .i64) _ _ _ t182 [.int .i64 t182] from rfl) (Reps.one (show Kd.M (Kd.int .i64) _ _ _ t183 [.int .i64 t183] from rfl) (Reps.one (show Kd.M (Kd.int .i64) _ _ _ t184 [.int .i64 t184] from rfl) (Reps.one (show Kd.M (Kd.int .i64) _ _ _ t194 [.int .i64 t194] from rfl) (Reps.one (show Kd.M (Kd.int .i64) _ _ _ t196 [.int .i64 t196] from rfl) (Reps.none _ _))))))); intro v198 w24 ho25 hb hg_ hnew_; clear hg_ hnew_; (first | rw [← Ny197.out] at ho25 | (simp only [Int.reduceToNat] at ho25; rw [← Ny197.out] at ho25)); have n0_ := Aside0.mk (Kd.R_lower ho25 (below_size (by repeat (first | (with_reducible first | exact HB.out | apply below_alloc | apply pw_below_drewN | apply below_drew1) | exact HB.out)))); have n1_ := Aside0.mk (below_step (by repeat (first | (with_reducible first | exact HB.out | apply below_alloc | apply pw_below_drewN | apply below_drew1) | exact HB.out)) hb); clear HB; have HO199 := n0_; have HB := n1_; clear n0_ n1_; clear hb ho25; obtain ⟨Ao26, co26, eo26⟩ := Kd.R_slice HO199.out; subst eo26) | ((with_reducible refine gate_callee (f := 70) rfl ?_); refine goesL_ (some 29) rfl rfl Try.func70 (by kernel_rfl) rfl #[.slice Ao26 y197.length co26] rfl (by (try simp only [List.map_toArray, List.map_cons, List.map_nil]); first | done | rfl | (simp only [List.length_drop, List.length_take]; rfl)) ?_; (with_reducible refine (impl_first.calls k _ _ y197 t200 _ ?side1 ?side2 A22.out).mono ?_); (case side1 => repeat (first | exact (Kd.R_reads' HO199.out).2.2 | (with_reducible refine Kd.C_alloc ?_ _) | (with_reducible refine Kd.C_drewN ?_ _) | (with_reducible refine Kd.C_drew ?_))); (case side2 => exact (Kd.R_reads' HO199.out).2.1); rintro e w' ⟨rfl, ⟨nd, rfl⟩⟩; refine ⟨_, rfl, ?_⟩))
    go_ret
    exact ⟨by first | rfl | (simp [errW_none, errW_some] <;> rfl) | (simp [*, errW_none, errW_some] <;> rfl), by repeat (first | (with_reducible first | exact HB.out | apply below_alloc | apply pw_below_drewN | apply below_drew1) | exact HB.out)⟩

-- NOT PRINTED: function 239 (impl_takes)

-- NOT PRINTED: function 199 (impl_verifier_effect)

-- NOT PRINTED: function 242 (impl_verifier_base)

-- NOT PRINTED: function 243 (impl_verifier_nest)

-- NOT PRINTED: function 210 (impl_verifier_step)

/-! ### impl_verify: function 140 -/
set_option maxRecDepth 100000 in
set_option maxHeartbeats 4000000 in
theorem vbase0 (w : World) (g : Nat) (A : Option Addr) (c : Nat) (h3 : w.cell? ⟨g, 3, none⟩ = some (.slice A 0 c)) :
    Calls Try.prog 242 #[.pointer (some ⟨g, 0, none⟩)] w fun e w' => e = .returned (.int .i64 0) ∧ Drawn0 w w' := by
  go_enter Try.func242, Try.ntmps242
  go_wp2
  go_ret
  exact ⟨rfl, Drawn0.refl _⟩
set_option maxRecDepth 100000 in
set_option maxHeartbeats 4000000 in
theorem vbaseS (w : World) (g q n c : Nat) (b : Int) (hn : n ≤ 4) (h3 : w.cell? ⟨g, 3, none⟩ = some (.slice (some ⟨q, 0, none⟩) (n + 1) c)) (hc : w.cell? ⟨q, n * 4 + 1, none⟩ = some (.int .i64 b)) :
    Calls Try.prog 242 #[.pointer (some ⟨g, 0, none⟩)] w fun e w' => e = .returned (.int .i64 b) ∧ Drawn0 w w' := by
  have hu := Try.underlying230
  go_enter Try.func242, Try.ntmps242
  go_wp2
  go_quiet (fail)
  go_wp2
  go_ret
  exact ⟨rfl, by repeat (first | exact Drawn0.refl _ | apply Drawn0.step)⟩
set_option maxRecDepth 100000 in
theorem vnest_no (w : World) (g : Nat) (at_ op : Int) (h1 : (op == 21) = false) (h2 : (op == 24) = false) (h3 : (op == 22) = false) (h4 : (op == 23) = false) :
    Calls Try.prog 243 #[.pointer (some ⟨g, 0, none⟩), .int .i64 at_, .int .i64 op] w fun e w' => e = .returned (.int .i64 0) ∧ Drawn0 w w' := by
  go_enter Try.func243, Try.ntmps243
  go_wp2
  go_ret
  exact ⟨rfl, Drawn0.refl _⟩
set_option maxRecDepth 100000 in
theorem vnest_deep21 (w : World) (g c : Nat) (A : Option Addr) (at_ : Int) (h3 : w.cell? ⟨g, 3, none⟩ = some (.slice A 4 c)) :
    Calls Try.prog 243 #[.pointer (some ⟨g, 0, none⟩), .int .i64 at_, .int .i64 21] w fun e w' => e = .returned (.int .i64 17) ∧ Drawn0 w w' := by
  go_enter Try.func243, Try.ntmps243
  go_wp2
  go_ret
  exact ⟨rfl, Drawn0.refl _⟩
set_option maxRecDepth 100000 in
theorem vnest_deep24 (w : World) (g c : Nat) (A : Option Addr) (at_ : Int) (h3 : w.cell? ⟨g, 3, none⟩ = some (.slice A 4 c)) :
    Calls Try.prog 243 #[.pointer (some ⟨g, 0, none⟩), .int .i64 at_, .int .i64 24] w fun e w' => e = .returned (.int .i64 17) ∧ Drawn0 w w' := by
  go_enter Try.func243, Try.ntmps243
  go_wp2
  go_ret
  exact ⟨rfl, Drawn0.refl _⟩
set_option maxRecDepth 100000 in
theorem vnest_none22 (w : World) (g c : Nat) (A : Option Addr) (at_ : Int) (h3 : w.cell? ⟨g, 3, none⟩ = some (.slice A 0 c)) :
    Calls Try.prog 243 #[.pointer (some ⟨g, 0, none⟩), .int .i64 at_, .int .i64 22] w fun e w' => e = .returned (.int .i64 14) ∧ Drawn0 w w' := by
  go_enter Try.func243, Try.ntmps243
  go_wp2
  go_ret
  exact ⟨rfl, Drawn0.refl _⟩
set_option maxRecDepth 100000 in
theorem vnest_none23 (w : World) (g c : Nat) (A : Option Addr) (at_ : Int) (h3 : w.cell? ⟨g, 3, none⟩ = some (.slice A 0 c)) :
    Calls Try.prog 243 #[.pointer (some ⟨g, 0, none⟩), .int .i64 at_, .int .i64 23] w fun e w' => e = .returned (.int .i64 14) ∧ Drawn0 w w' := by
  go_enter Try.func243, Try.ntmps243
  go_wp2
  go_ret
  exact ⟨rfl, Drawn0.refl _⟩
set_option maxRecDepth 100000 in
theorem vnest_bad22 (w : World) (g q n c : Nat) (at_ : Int) (b1 b2 : Bool) (hn : n ≤ 4) (h3 : w.cell? ⟨g, 3, none⟩ = some (.slice (some ⟨q, 0, none⟩) (n + 1) c)) (hc2 : w.cell? ⟨q, n * 4 + 2, none⟩ = some (.bool b1)) (hc3 : w.cell? ⟨q, n * 4 + 3, none⟩ = some (.bool b2)) (hb : (!b1 || b2) = true) :
    Calls Try.prog 243 #[.pointer (some ⟨g, 0, none⟩), .int .i64 at_, .int .i64 22] w fun e w' => e = .returned (.int .i64 14) ∧ Drawn0 w w' := by
  have hu := Try.underlying230
  rcases b1 with _ | _ <;> rcases b2 with _ | _
  case true.false => simp at hb
  all_goals
    clear hb
    go_enter Try.func243, Try.ntmps243
    go_wp2
    go_ret
    exact ⟨rfl, Drawn0.refl _⟩
set_option maxRecDepth 100000 in
theorem vnest_st22 (w : World) (g q n c : Nat) (at_ ba : Int) (S : ByteArray) (hn : n ≤ 4) (hs : S.size ≤ 8) (hS : w.cell? ⟨g, 2, none⟩ = some (.string S)) (h3 : w.cell? ⟨g, 3, none⟩ = some (.slice (some ⟨q, 0, none⟩) (n + 1) c)) (hc1 : w.cell? ⟨q, n * 4 + 1, none⟩ = some (.int .i64 ba)) (hc2 : w.cell? ⟨q, n * 4 + 2, none⟩ = some (.bool true)) (hc3 : w.cell? ⟨q, n * 4 + 3, none⟩ = some (.bool false)) (hb : ((S.size : Int) != ba) = true) :
    Calls Try.prog 243 #[.pointer (some ⟨g, 0, none⟩), .int .i64 at_, .int .i64 22] w fun e w' => e = .returned (.int .i64 13) ∧ Drawn0 w w' := by
  have hu := Try.underlying230
  go_enter Try.func243, Try.ntmps243
  go_wp2
  go_quiet (fail)
  go_wp2
  go_ret
  exact ⟨rfl, by repeat (first | exact Drawn0.refl _ | apply Drawn0.step)⟩
set_option maxRecDepth 100000 in
theorem vnest_st23 (w : World) (g q n c : Nat) (at_ ba : Int) (S : ByteArray) (hn : n ≤ 4) (hs : S.size ≤ 8) (hS : w.cell? ⟨g, 2, none⟩ = some (.string S)) (h3 : w.cell? ⟨g, 3, none⟩ = some (.slice (some ⟨q, 0, none⟩) (n + 1) c)) (hc1 : w.cell? ⟨q, n * 4 + 1, none⟩ = some (.int .i64 ba)) (hb : ((S.size : Int) != ba) = true) :
    Calls Try.prog 243 #[.pointer (some ⟨g, 0, none⟩), .int .i64 at_, .int .i64 23] w fun e w' => e = .returned (.int .i64 13) ∧ Drawn0 w w' := by
  have hu := Try.underlying230
  go_enter Try.func243, Try.ntmps243
  go_wp2
  go_quiet (fail)
  go_wp2
  go_ret
  exact ⟨rfl, by repeat (first | exact Drawn0.refl _ | apply Drawn0.step)⟩
set_option maxRecDepth 100000 in
theorem vnest_else (w : World) (g q n c : Nat) (at_ ba : Int) (S : ByteArray) (hn : n ≤ 4) (hs : S.size ≤ 8) (hS : w.cell? ⟨g, 2, none⟩ = some (.string S)) (h3 : w.cell? ⟨g, 3, none⟩ = some (.slice (some ⟨q, 0, none⟩) (n + 1) c)) (hc1 : w.cell? ⟨q, n * 4 + 1, none⟩ = some (.int .i64 ba)) (hc2 : w.cell? ⟨q, n * 4 + 2, none⟩ = some (.bool true)) (hc3 : w.cell? ⟨q, n * 4 + 3, none⟩ = some (.bool false)) (hf : w.frozen? ⟨q, n * 4 + 3, none⟩ = false) (hb : ((S.size : Int) != ba) = false) :
    Calls Try.prog 243 #[.pointer (some ⟨g, 0, none⟩), .int .i64 at_, .int .i64 22] w fun e w' => e = .returned (.int .i64 0) ∧ ∃ m, w' = (w.setCell ⟨q, n * 4 + 3, none⟩ (.bool true)).drewN m := by
  have hu := Try.underlying230
  go_enter Try.func243, Try.ntmps243
  go_wp2
  go_quiet (fail)
  go_wp2
  go_ret
  exact ⟨rfl, _, rfl⟩
set_option maxRecDepth 100000 in
theorem vnest_end (w : World) (g q n c : Nat) (at_ ba : Int) (S : ByteArray) (hn : n ≤ 4) (hs : S.size ≤ 8) (hS : w.cell? ⟨g, 2, none⟩ = some (.string S)) (h3 : w.cell? ⟨g, 3, none⟩ = some (.slice (some ⟨q, 0, none⟩) (n + 1) c)) (hc1 : w.cell? ⟨q, n * 4 + 1, none⟩ = some (.int .i64 ba)) (hf : w.frozen? ⟨g, 3, none⟩ = false) (hnc : n + 1 ≤ c) (hb : ((S.size : Int) != ba) = false) :
    Calls Try.prog 243 #[.pointer (some ⟨g, 0, none⟩), .int .i64 at_, .int .i64 23] w fun e w' => e = .returned (.int .i64 0) ∧ ∃ m, w' = (w.setCell ⟨g, 3, none⟩ (.slice (some ⟨q, 0, none⟩) n c)).drewN m := by
  have hu := Try.underlying230
  go_enter Try.func243, Try.ntmps243
  go_wp2
  go_quiet (fail)
  go_wp2
  go_ret
  exact ⟨rfl, _, rfl⟩
theorem vinfo : (Try.prog.info? 243).map (fun i => (i.zero, i.size, i.bytes)) = some (some (.agg #[.int .i64 0, .int .i64 0, .bool false, .bool false]), 4, 24) := by kernel_rfl
set_option maxHeartbeats 4000000 in
set_option maxRecDepth 100000 in
theorem vnest_push21 (w : World) (B g n : Nat) (v : Value) (at_ : Int) (S : ByteArray) (xs : List Value) (hn : n < 4) (hs : S.size ≤ 8) (hB : B ≤ w.heap.size) (hS : w.cell? ⟨g, 2, none⟩ = some (.string S)) (h3 : w.cell? ⟨g, 3, none⟩ = some v) (hf : w.frozen? ⟨g, 3, none⟩ = false) (hgv : v.ownBlock ≠ some g) (hv : ∃ A c, v = .slice A n c)
    (ho : w.ownsRow B 243 4 v n xs) :
    Calls Try.prog 243 #[.pointer (some ⟨g, 0, none⟩), .int .i64 at_, .int .i64 21] w fun e w' => e = .returned (.int .i64 0) ∧ ∃ w1 v1, w1.ownsRow B 243 4 v1 (n + 1) (xs ++ [.int .i64 at_, .int .i64 S.size, .bool true, .bool false]) ∧ w.grownBy w1 v.ownBlock ∧ (v1.ownBlock = v.ownBlock ∨ ∃ b, v1.ownBlock = some b ∧ w.heap.size ≤ b) ∧ w' = w1.setCell ⟨g, 3, none⟩ v1 := by
  have hu := Try.underlying230
  obtain ⟨A, c, rfl⟩ := hv
  have h3a : ∀ o, (w.alloc o).cell? ⟨g, 3, none⟩ = some (.slice A n c) := fun o => (World.cell?_alloc_lt w o ⟨g, 3, none⟩ (World.block_lt_of_cell? w ⟨g, 3, none⟩ h3)).trans h3
  have HO := Aside0.mk ho
  have HG := Aside0.mk hgv
  have HB := Aside0.mk hB
  clear ho hgv hB
  go_enter Try.func243, Try.ntmps243
  go_wp2
  go_region_law (refine step_append_cells (W := w.drew) (w0 := w.drew) B (by rfl) (.tmp 22) (.tmp 32) 230 243 _ 4 24 rfl Try.underlying230 vinfo rfl (by decide) (by decide) (.slice A n c) n xs [.int .i64 at_, .int .i64 S.size, .bool true, .bool false] rfl rfl rfl (by simp [Value.oneCell']) HO.out (Below.refl _ _) HB.out (by omega) ?_; intro v1 w1 hown hbel hgrow hat; obtain ⟨A1, c1, rfl⟩ := own_slice hown; have z1 : w1.cell? ⟨g, 3, none⟩ = some (.slice A n c) := hgrow.cell (a := ⟨g, 3, none⟩) h3 (fun e => HG.out e.symm); have z2 : w1.frozen? ⟨g, 3, none⟩ = false := (World.frozen?_of_block (w := w.drew) (w' := w1) (a := ⟨g, 3, none⟩) (hgrow.block g (World.block_lt_of_cell? w ⟨g, 3, none⟩ h3) (fun e => HG.out e.symm))).trans hf; have YO := Aside0.mk hown; have YG := Aside0.mk hgrow; have YA := Aside0.mk hat; clear hown hbel hgrow hat)
  all_goals
    go_wp2
    go_ret
    exact ⟨rfl, _, _, YO.out, ⟨YG.out.os, YG.out.tape, YG.out.output, YG.out.size, YG.out.block⟩, YA.out, rfl⟩
set_option maxHeartbeats 4000000 in
set_option maxRecDepth 100000 in
theorem vnest_push24 (w : World) (B g n : Nat) (v : Value) (at_ : Int) (S : ByteArray) (xs : List Value) (hn : n < 4) (hs : S.size ≤ 8) (hB : B ≤ w.heap.size) (hS : w.cell? ⟨g, 2, none⟩ = some (.string S)) (h3 : w.cell? ⟨g, 3, none⟩ = some v) (hf : w.frozen? ⟨g, 3, none⟩ = false) (hgv : v.ownBlock ≠ some g) (hv : ∃ A c, v = .slice A n c)
    (ho : w.ownsRow B 243 4 v n xs) :
    Calls Try.prog 243 #[.pointer (some ⟨g, 0, none⟩), .int .i64 at_, .int .i64 24] w fun e w' => e = .returned (.int .i64 0) ∧ ∃ w1 v1, w1.ownsRow B 243 4 v1 (n + 1) (xs ++ [.int .i64 at_, .int .i64 S.size, .bool false, .bool false]) ∧ w.grownBy w1 v.ownBlock ∧ (v1.ownBlock = v.ownBlock ∨ ∃ b, v1.ownBlock = some b ∧ w.heap.size ≤ b) ∧ w' = w1.setCell ⟨g, 3, none⟩ v1 := by
  have hu := Try.underlying230
  obtain ⟨A, c, rfl⟩ := hv
  have h3a : ∀ o, (w.alloc o).cell? ⟨g, 3, none⟩ = some (.slice A n c) := fun o => (World.cell?_alloc_lt w o ⟨g, 3, none⟩ (World.block_lt_of_cell? w ⟨g, 3, none⟩ h3)).trans h3
  have HO := Aside0.mk ho
  have HG := Aside0.mk hgv
  have HB := Aside0.mk hB
  clear ho hgv hB
  go_enter Try.func243, Try.ntmps243
  go_wp2
  go_region_law (refine step_append_cells (W := w.drew) (w0 := w.drew) B (by rfl) (.tmp 22) (.tmp 32) 230 243 _ 4 24 rfl Try.underlying230 vinfo rfl (by decide) (by decide) (.slice A n c) n xs [.int .i64 at_, .int .i64 S.size, .bool false, .bool false] rfl rfl rfl (by simp [Value.oneCell']) HO.out (Below.refl _ _) HB.out (by omega) ?_; intro v1 w1 hown hbel hgrow hat; obtain ⟨A1, c1, rfl⟩ := own_slice hown; have z1 : w1.cell? ⟨g, 3, none⟩ = some (.slice A n c) := hgrow.cell (a := ⟨g, 3, none⟩) h3 (fun e => HG.out e.symm); have z2 : w1.frozen? ⟨g, 3, none⟩ = false := (World.frozen?_of_block (w := w.drew) (w' := w1) (a := ⟨g, 3, none⟩) (hgrow.block g (World.block_lt_of_cell? w ⟨g, 3, none⟩ h3) (fun e => HG.out e.symm))).trans hf; have YO := Aside0.mk hown; have YG := Aside0.mk hgrow; have YA := Aside0.mk hat; clear hown hbel hgrow hat)
  all_goals
    go_wp2
    go_ret
    exact ⟨rfl, _, _, YO.out, ⟨YG.out.os, YG.out.tape, YG.out.output, YG.out.size, YG.out.block⟩, YA.out, rfl⟩

end Go.Proofs.Ytkegjmkdnfpfdaa.MFnExactFlatOf

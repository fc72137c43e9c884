-- Text written by a program of this session (wip/tools: the kit's printer with additions of ours).
import Derived.Test.YtjgdfbcjlebniaaMFnExactVerifyCodex0
import Derived.Test.YtjgdfbcjlebniaaMFnExactVerifyCodex3
import Derived.Test.YtjgdfbcjlebniaaMFnExactVerifyCodex4
import Derived.Test.YtjgdfbcjlebniaaMFnExactVerifyCodex5
namespace Go.Proofs.Ytjgdfbcjlebniaa.MFnExactVerifyCode
open Go.RowKit Go.Proofs.YtjgdfbcjlebniaaW.PrintWords Go.Proofs.YtjgdfbcjlebniaaW.PrintLast Go.Proofs.YtjgdfbcjlebniaaW.PrintMore
attribute [local go_sem] max2_int min2_int max_two min_two max_three min_three max_four min_four   -- for this text's walks alone
set_option linter.unusedVariables false
set_option linter.unusedSimpArgs false

/-! ### impl_verifyCode: function 83 -/
def impl_verifyCode.f (k : Nat) (l0 : List (S91)) (l1 : List Int) (a2 : Int) : Option (Int) := (impl_Instr_115.f l0).bind fun t149 => ((impl_many_int.f l1).bind fun t150 => ((impl_when.f (decide ((l0.length : Int) > 40)) 6).bind fun t151 => ((impl_areKinds.f k l1).bind fun t152 => (if t152 = true then ((impl_isCode.f k l0).bind fun t153 => ((impl_when.f (!t153) 1).bind fun t154 => ((impl_within.f a2 0 6).bind fun t155 => ((impl_when.f (!t155) 4).bind fun t156 => ((impl_first.f k (([t149, t150, t151, t154, t156] : List Int))).bind fun t160 => (some t160)))))) else ((impl_when.f true 1).bind fun t161 => ((impl_within.f a2 0 6).bind fun t162 => ((impl_when.f (!t162) 4).bind fun t163 => ((impl_first.f k (([t149, t150, t151, t161, t163] : List Int))).bind fun t167 => (some t167)))))))))
theorem impl_verifyCode.mono : ∀ a0 a1 a2 k, LeO (impl_verifyCode.f k a0 a1 a2) (impl_verifyCode.f (k + 1) a0 a1 a2) := by
  intro a0 a1 a2 k
  unfold impl_verifyCode.f
  repeat' first
      | (with_reducible exact impl_areKinds.mono _ _)
      | (with_reducible exact impl_first.mono _ _)
      | (with_reducible exact impl_isCode.mono _ _)
      | (with_reducible exact LeO.refl _)
      | (with_reducible exact LeO.none _)
      | (with_reducible refine LeO.ite ?_ ?_)
      | (with_reducible refine LeO.bind ?_ (fun _ => ?_))
      | exact impl_areKinds.mono _ _
      | exact impl_first.mono _ _
      | exact impl_isCode.mono _ _
      | exact LeO.none _
      | refine LeO.ite ?_ ?_
      | refine LeO.bind ?_ (fun _ => ?_)
set_option maxHeartbeats 8000000 in
set_option maxRecDepth 100000 in
theorem impl_verifyCode.calls (k : Nat) (A0 : Option Addr) (c0 : Nat) (l0 : List (S91)) (A1 : Option Addr) (c1 : Nat) (l1 : List Int) (a2 : Int) (r : Int) (w : World) (hr0 : Kd.C k91 w A0 l0.length l0) (hc0 : l0.length ≤ c0) (hr1 : Kd.C (Kd.int .i64) w A1 l1.length l1) (hc1 : l1.length ≤ c1) (h : impl_verifyCode.f k l0 l1 a2 = some r) :
    Calls Try.prog 83 #[.slice A0 l0.length c0, .slice A1 l1.length c1, .int .i64 a2] w fun e w' => e = .returned (.int .i64 r) ∧ Below w.heap.size w w' := by
  have HR0 := Aside0.mk hr0
  have HC0 := Aside0.mk hc0
  clear hr0 hc0
  have HR1 := Aside0.mk hr1
  have HC1 := Aside0.mk hc1
  clear hr1 hc1
  have HB := Aside0.mk (Below.refl w.heap.size w)
  have H : ((impl_Instr_115.f l0).bind fun t149 => ((impl_many_int.f l1).bind fun t150 => ((impl_when.f (decide ((l0.length : Int) > 40)) 6).bind fun t151 => ((impl_areKinds.f k l1).bind fun t152 => (if t152 = true then ((impl_isCode.f k l0).bind fun t153 => ((impl_when.f (!t153) 1).bind fun t154 => ((impl_within.f a2 0 6).bind fun t155 => ((impl_when.f (!t155) 4).bind fun t156 => ((impl_first.f k (([t149, t150, t151, t154, t156] : List Int))).bind fun t160 => (some t160)))))) else ((impl_when.f true 1).bind fun t161 => ((impl_within.f a2 0 6).bind fun t162 => ((impl_when.f (!t162) 4).bind fun t163 => ((impl_first.f k (([t149, t150, t151, t161, t163] : List Int))).bind fun t167 => (some t167)))))))))) = some r := h
  clear h
  replace H := Option.bind_eq_some_iff.mp H
  obtain ⟨t149, A40, H⟩ := H
  replace H : ((impl_many_int.f l1).bind fun t150 => ((impl_when.f (decide ((l0.length : Int) > 40)) 6).bind fun t151 => ((impl_areKinds.f k l1).bind fun t152 => (if t152 = true then ((impl_isCode.f k l0).bind fun t153 => ((impl_when.f (!t153) 1).bind fun t154 => ((impl_within.f a2 0 6).bind fun t155 => ((impl_when.f (!t155) 4).bind fun t156 => ((impl_first.f k (([t149, t150, t151, t154, t156] : List Int))).bind fun t160 => (some t160)))))) else ((impl_when.f true 1).bind fun t161 => ((impl_within.f a2 0 6).bind fun t162 => ((impl_when.f (!t162) 4).bind fun t163 => ((impl_first.f k (([t149, t150, t151, t161, t163] : List Int))).bind fun t167 => (some t167))))))))) = some r := H
  have A4 := Aside0.mk A40
  clear A40
  replace H := Option.bind_eq_some_iff.mp H
  obtain ⟨t150, A50, H⟩ := H
  replace H : ((impl_when.f (decide ((l0.length : Int) > 40)) 6).bind fun t151 => ((impl_areKinds.f k l1).bind fun t152 => (if t152 = true then ((impl_isCode.f k l0).bind fun t153 => ((impl_when.f (!t153) 1).bind fun t154 => ((impl_within.f a2 0 6).bind fun t155 => ((impl_when.f (!t155) 4).bind fun t156 => ((impl_first.f k (([t149, t150, t151, t154, t156] : List Int))).bind fun t160 => (some t160)))))) else ((impl_when.f true 1).bind fun t161 => ((impl_within.f a2 0 6).bind fun t162 => ((impl_when.f (!t162) 4).bind fun t163 => ((impl_first.f k (([t149, t150, t151, t161, t163] : List Int))).bind fun t167 => (some t167)))))))) = some r := H
  have A5 := Aside0.mk A50
  clear A50
  replace H := Option.bind_eq_some_iff.mp H
  obtain ⟨t151, A60, H⟩ := H
  replace H : ((impl_areKinds.f k l1).bind fun t152 => (if t152 = true then ((impl_isCode.f k l0).bind fun t153 => ((impl_when.f (!t153) 1).bind fun t154 => ((impl_within.f a2 0 6).bind fun t155 => ((impl_when.f (!t155) 4).bind fun t156 => ((impl_first.f k (([t149, t150, t151, t154, t156] : List Int))).bind fun t160 => (some t160)))))) else ((impl_when.f true 1).bind fun t161 => ((impl_within.f a2 0 6).bind fun t162 => ((impl_when.f (!t162) 4).bind fun t163 => ((impl_first.f k (([t149, t150, t151, t161, t163] : List Int))).bind fun t167 => (some t167))))))) = some r := H
  have A6 := Aside0.mk A60
  clear A60
  replace H := Option.bind_eq_some_iff.mp H
  obtain ⟨t152, A70, H⟩ := H
  replace H : (if t152 = true then ((impl_isCode.f k l0).bind fun t153 => ((impl_when.f (!t153) 1).bind fun t154 => ((impl_within.f a2 0 6).bind fun t155 => ((impl_when.f (!t155) 4).bind fun t156 => ((impl_first.f k (([t149, t150, t151, t154, t156] : List Int))).bind fun t160 => (some t160)))))) else ((impl_when.f true 1).bind fun t161 => ((impl_within.f a2 0 6).bind fun t162 => ((impl_when.f (!t162) 4).bind fun t163 => ((impl_first.f k (([t149, t150, t151, t161, t163] : List Int))).bind fun t167 => (some t167)))))) = some r := H
  have A7 := Aside0.mk A70
  clear A70
  by_cases c8 : t152 = true
  · subst c8
    have H1 : ((impl_isCode.f k l0).bind fun t153 => ((impl_when.f (!t153) 1).bind fun t154 => ((impl_within.f a2 0 6).bind fun t155 => ((impl_when.f (!t155) 4).bind fun t156 => ((impl_first.f k (([t149, t150, t151, t154, t156] : List Int))).bind fun t160 => (some t160)))))) = some r := by rw [if_pos rfl] at H; exact H
    clear H
    have H := H1
    clear H1
    replace H := Option.bind_eq_some_iff.mp H
    obtain ⟨t153, A90, H⟩ := H
    replace H : ((impl_when.f (!t153) 1).bind fun t154 => ((impl_within.f a2 0 6).bind fun t155 => ((impl_when.f (!t155) 4).bind fun t156 => ((impl_first.f k (([t149, t150, t151, t154, t156] : List Int))).bind fun t160 => (some t160))))) = some r := H
    have A9 := Aside0.mk A90
    clear A90
    replace H := Option.bind_eq_some_iff.mp H
    obtain ⟨t154, A100, H⟩ := H
    replace H : ((impl_within.f a2 0 6).bind fun t155 => ((impl_when.f (!t155) 4).bind fun t156 => ((impl_first.f k (([t149, t150, t151, t154, t156] : List Int))).bind fun t160 => (some t160)))) = some r := H
    have A10 := Aside0.mk A100
    clear A100
    replace H := Option.bind_eq_some_iff.mp H
    obtain ⟨t155, A110, H⟩ := H
    replace H : ((impl_when.f (!t155) 4).bind fun t156 => ((impl_first.f k (([t149, t150, t151, t154, t156] : List Int))).bind fun t160 => (some t160))) = some r := H
    have A11 := Aside0.mk A110
    clear A110
    replace H := Option.bind_eq_some_iff.mp H
    obtain ⟨t156, A120, H⟩ := H
    replace H : ((impl_first.f k (([t149, t150, t151, t154, t156] : List Int))).bind fun t160 => (some t160)) = some r := H
    have A12 := Aside0.mk A120
    clear A120
    obtain ⟨y157, hy157⟩ : ∃ y_ : List Int, y_ = (([t149, t150, t151, t154, t156] : List Int)) := ⟨_, rfl⟩
    replace H : ((impl_first.f k y157).bind fun t160 => (some t160)) = some r := by first | (rw [hy157]; with_reducible exact H) | (have H2_ := (Option.bind_some _ _).symm.trans H; rw [hy157]; with_reducible exact H2_) | (have H2_ := (Option.bind_some _ _).symm.trans H; with_reducible exact H2_) | with_reducible exact H | (rw [hy157]; exact H) | exact H
    have Ny157 := Aside0.mk hy157
    clear hy157
    replace H := Option.bind_eq_some_iff.mp H
    obtain ⟨t160, A130, H⟩ := H
    replace H : (some t160) = some r := H
    have A13 := Aside0.mk A130
    clear A130
    obtain rfl := Option.some.inj H
    go_enter Try.func83, Try.ntmps83
    go_wp2_with (first | ((with_reducible refine gate_callee (f := 115) rfl ?_); refine goesL_ (some 8) rfl rfl Try.func115 (by kernel_rfl) rfl #[.slice A0 l0.length c0] rfl (by (try simp only [List.map_toArray, List.map_cons, List.map_nil]); first | done | rfl | (simp only [List.length_drop, List.length_take]; rfl)) ?_; (with_reducible refine (impl_Instr_115.calls _ _ l0 t149 _ ?side1 ?side2 A4.out).mono ?_); (case side1 => repeat (first | exact HR0.out | (with_reducible refine Kd.C_alloc ?_ _) | (with_reducible refine Kd.C_drewN ?_ _) | (with_reducible refine Kd.C_drew ?_))); (case side2 => exact HC0.out); rintro e w' ⟨rfl, ⟨nd, rfl⟩⟩; refine ⟨_, rfl, ?_⟩) | ((with_reducible refine gate_callee (f := 63) rfl ?_); refine goesL_ (some 10) rfl rfl Try.func63 (by kernel_rfl) rfl #[.slice A1 l1.length c1] rfl (by (try simp only [List.map_toArray, List.map_cons, List.map_nil]); first | done | rfl | (simp only [List.length_drop, List.length_take]; rfl)) ?_; (with_reducible refine (impl_many_int.calls _ _ l1 t150 _ ?side1 ?side2 A5.out).mono ?_); (case side1 => repeat (first | exact HR1.out | (with_reducible refine Kd.C_alloc ?_ _) | (with_reducible refine Kd.C_drewN ?_ _) | (with_reducible refine Kd.C_drew ?_))); (case side2 => exact HC1.out); rintro e w' ⟨rfl, ⟨nd, rfl⟩⟩; refine ⟨_, rfl, ?_⟩) | ((with_reducible refine gate_callee (f := 64) rfl ?_); refine goesL_ (some 14) rfl rfl Try.func64 (by kernel_rfl) rfl #[.bool (decide ((l0.length : Int) > 40)), .int .i64 6] rfl (by (try simp only [List.map_toArray, List.map_cons, List.map_nil]); first | done | rfl | (simp only [List.length_drop, List.length_take]; rfl)) ?_; (with_reducible refine (impl_when.calls (decide ((l0.length : Int) > 40)) 6 t151 _ A6.out).mono ?_); rintro e w' ⟨rfl, ⟨nd, rfl⟩⟩; refine ⟨_, rfl, ?_⟩) | ((with_reducible refine gate_callee (f := 65) rfl ?_); refine goesL_ (some 16) rfl rfl Try.func65 (by kernel_rfl) rfl #[.slice A1 l1.length c1] rfl (by (try simp only [List.map_toArray, List.map_cons, List.map_nil]); first | done | rfl | (simp only [List.length_drop, List.length_take]; rfl)) ?_; (with_reducible refine (impl_areKinds.calls k _ _ l1 true _ ?side1 ?side2 A7.out).mono ?_); (case side1 => repeat (first | exact HR1.out | (with_reducible refine Kd.C_alloc ?_ _) | (with_reducible refine Kd.C_drewN ?_ _) | (with_reducible refine Kd.C_drew ?_))); (case side2 => exact HC1.out); rintro e w14 ⟨rfl, hb⟩; refine ⟨_, rfl, ?_⟩; have n0_ := Aside0.mk (below_step (by repeat (first | (with_reducible first | exact HB.out | apply below_alloc | apply pw_below_drewN | apply below_drew1) | exact HB.out)) hb); clear HB; have HB := n0_; clear n0_; (try clear hb); (try clear hb2); (try clear hk); (try clear hi)) | (go_at_call 116; (with_reducible refine (impl_isCode.calls k _ _ l0 t153 _ ?side1 ?side2 A9.out).mono ?_); (case side1 => repeat (first | exact (Kd.C_below HR0.out HB.out) | (with_reducible refine Kd.C_alloc ?_ _) | (with_reducible refine Kd.C_drewN ?_ _) | (with_reducible refine Kd.C_drew ?_))); (case side2 => exact HC0.out); rintro e w15 ⟨rfl, hb⟩; have n0_ := Aside0.mk (below_step (by repeat (first | (with_reducible first | exact HB.out | apply below_alloc | apply pw_below_drewN | apply below_drew1) | exact HB.out)) hb); clear HB; have HB := n0_; clear n0_; (try clear hb); (try clear hb2); (try clear hk); (try clear hi)) | ((with_reducible refine gate_callee (f := 64) rfl ?_); refine goesL_ (some 23) rfl rfl Try.func64 (by kernel_rfl) rfl #[.bool (!t153), .int .i64 1] rfl (by (try simp only [List.map_toArray, List.map_cons, List.map_nil]); first | done | rfl | (simp only [List.length_drop, List.length_take]; rfl)) ?_; (with_reducible refine (impl_when.calls (!t153) 1 t154 _ A10.out).mono ?_); rintro e w' ⟨rfl, ⟨nd, rfl⟩⟩; refine ⟨_, rfl, ?_⟩) | ((with_reducible refine gate_callee (f := 87) rfl ?_); refine goesL_ (some 25) rfl rfl Try.func87 (by kernel_rfl) rfl #[.int .i64 a2, .int .i64 0, .int .i64 6] rfl (by (try simp only [List.map_toArray, List.map_cons, List.map_nil]); first | done | rfl | (simp only [List.length_drop, List.length_take]; rfl)) ?_; (with_reducible refine (impl_within.calls a2 0 6 t155 _ A11.out).mono ?_); rintro e w' ⟨rfl, ⟨nd, rfl⟩⟩; refine ⟨_, rfl, ?_⟩) | ((with_reducible refine gate_callee (f := 64) rfl ?_); refine goesL_ (some 27) rfl rfl Try.func64 (by kernel_rfl) rfl #[.bool (!t155), .int .i64 4] rfl (by (try simp only [List.map_toArray, List.map_cons, List.map_nil]); first | done | rfl | (simp only [List.length_drop, List.length_take]; rfl)) ?_; (with_reducible refine (impl_when.calls (!t155) 4 t156 _ A12.out).mono ?_); rintro e w' ⟨rfl, ⟨nd, rfl⟩⟩; refine ⟨_, rfl, ?_⟩) | ((with_reducible refine gate_dst (N := 28) rfl ?_); refine Kd.R_lit (Kd.int .i64) _ 3 ?hg (N := 28) ?hd (xs := ([t149, t150, t151, t154, t156] : List Int)) (inner := [.int .i64 t149, .int .i64 t150, .int .i64 t151, .int .i64 t154, .int .i64 t156]) (ok := fun _ => True) (okp := fun _ => True) ?hr ?hp (fun _ hk => hk) trivial (Below.refl _ _) (Nat.le_refl _) (by simp) ?_; (case hd => rfl); (case hg => rfl); (case hr => first | (go_simp; done) | (go_simp; rfl)); (case hp => exact (Reps.one (show Kd.M (Kd.int .i64) _ _ _ t149 [.int .i64 t149] from rfl) (Reps.one (show Kd.M (Kd.int .i64) _ _ _ t150 [.int .i64 t150] from rfl) (Reps.one (show Kd.M (Kd.int .i64) _ _ _ t151 [.int .i64 t151] from rfl) (Reps.one (show Kd.M (Kd.int .i64) _ _ _ t154 [.int .i64 t154] from rfl) (Reps.one (show Kd.M (Kd.int .i64) _ _ _ t156 [.int .i64 t156] from rfl) (Reps.none _ _))))))); intro v158 w16 ho17 hb hg_ hnew_; clear hg_ hnew_; (first | rw [← Ny157.out] at ho17 | (simp only [Int.reduceToNat] at ho17; rw [← Ny157.out] at ho17)); have n0_ := Aside0.mk (Kd.R_lower ho17 (below_size (by repeat (first | (with_reducible first | exact HB.out | apply below_alloc | apply pw_below_drewN | apply below_drew1) | exact HB.out)))); have n1_ := Aside0.mk (below_step (by repeat (first | (with_reducible first | exact HB.out | apply below_alloc | apply pw_below_drewN | apply below_drew1) | exact HB.out)) hb); clear HB; have HO159 := n0_; have HB := n1_; clear n0_ n1_; clear hb ho17; obtain ⟨Ao18, co18, eo18⟩ := Kd.R_slice HO159.out; subst eo18) | ((with_reducible refine gate_callee (f := 62) rfl ?_); refine goesL_ (some 29) rfl rfl Try.func62 (by kernel_rfl) rfl #[.slice Ao18 y157.length co18] rfl (by (try simp only [List.map_toArray, List.map_cons, List.map_nil]); first | done | rfl | (simp only [List.length_drop, List.length_take]; rfl)) ?_; (with_reducible refine (impl_first.calls k _ _ y157 t160 _ ?side1 ?side2 A13.out).mono ?_); (case side1 => repeat (first | exact (Kd.R_reads' HO159.out).2.2 | (with_reducible refine Kd.C_alloc ?_ _) | (with_reducible refine Kd.C_drewN ?_ _) | (with_reducible refine Kd.C_drew ?_))); (case side2 => exact (Kd.R_reads' HO159.out).2.1); rintro e w' ⟨rfl, ⟨nd, rfl⟩⟩; refine ⟨_, rfl, ?_⟩))
    go_ret
    exact ⟨by first | rfl | (simp [errW_none, errW_some] <;> rfl) | (simp [*, errW_none, errW_some] <;> rfl), by repeat (first | (with_reducible first | exact HB.out | apply below_alloc | apply pw_below_drewN | apply below_drew1) | exact HB.out)⟩
  · replace c8 := Bool.eq_false_iff.mpr c8
    subst c8
    have H1 : ((impl_when.f true 1).bind fun t161 => ((impl_within.f a2 0 6).bind fun t162 => ((impl_when.f (!t162) 4).bind fun t163 => ((impl_first.f k (([t149, t150, t151, t161, t163] : List Int))).bind fun t167 => (some t167))))) = some r := by rw [if_neg (show ¬ (false = true) by decide)] at H; exact H
    clear H
    have H := H1
    clear H1
    replace H := Option.bind_eq_some_iff.mp H
    obtain ⟨t161, A190, H⟩ := H
    replace H : ((impl_within.f a2 0 6).bind fun t162 => ((impl_when.f (!t162) 4).bind fun t163 => ((impl_first.f k (([t149, t150, t151, t161, t163] : List Int))).bind fun t167 => (some t167)))) = some r := H
    have A19 := Aside0.mk A190
    clear A190
    replace H := Option.bind_eq_some_iff.mp H
    obtain ⟨t162, A200, H⟩ := H
    replace H : ((impl_when.f (!t162) 4).bind fun t163 => ((impl_first.f k (([t149, t150, t151, t161, t163] : List Int))).bind fun t167 => (some t167))) = some r := H
    have A20 := Aside0.mk A200
    clear A200
    replace H := Option.bind_eq_some_iff.mp H
    obtain ⟨t163, A210, H⟩ := H
    replace H : ((impl_first.f k (([t149, t150, t151, t161, t163] : List Int))).bind fun t167 => (some t167)) = some r := H
    have A21 := Aside0.mk A210
    clear A210
    obtain ⟨y164, hy164⟩ : ∃ y_ : List Int, y_ = (([t149, t150, t151, t161, t163] : List Int)) := ⟨_, rfl⟩
    replace H : ((impl_first.f k y164).bind fun t167 => (some t167)) = some r := by first | (rw [hy164]; with_reducible exact H) | (have H2_ := (Option.bind_some _ _).symm.trans H; rw [hy164]; with_reducible exact H2_) | (have H2_ := (Option.bind_some _ _).symm.trans H; with_reducible exact H2_) | with_reducible exact H | (rw [hy164]; exact H) | exact H
    have Ny164 := Aside0.mk hy164
    clear hy164
    replace H := Option.bind_eq_some_iff.mp H
    obtain ⟨t167, A220, H⟩ := H
    replace H : (some t167) = some r := H
    have A22 := Aside0.mk A220
    clear A220
    obtain rfl := Option.some.inj H
    go_enter Try.func83, Try.ntmps83
    go_wp2_with (first | ((with_reducible refine gate_callee (f := 115) rfl ?_); refine goesL_ (some 8) rfl rfl Try.func115 (by kernel_rfl) rfl #[.slice A0 l0.length c0] rfl (by (try simp only [List.map_toArray, List.map_cons, List.map_nil]); first | done | rfl | (simp only [List.length_drop, List.length_take]; rfl)) ?_; (with_reducible refine (impl_Instr_115.calls _ _ l0 t149 _ ?side1 ?side2 A4.out).mono ?_); (case side1 => repeat (first | exact HR0.out | (with_reducible refine Kd.C_alloc ?_ _) | (with_reducible refine Kd.C_drewN ?_ _) | (with_reducible refine Kd.C_drew ?_))); (case side2 => exact HC0.out); rintro e w' ⟨rfl, ⟨nd, rfl⟩⟩; refine ⟨_, rfl, ?_⟩) | ((with_reducible refine gate_callee (f := 63) rfl ?_); refine goesL_ (some 10) rfl rfl Try.func63 (by kernel_rfl) rfl #[.slice A1 l1.length c1] rfl (by (try simp only [List.map_toArray, List.map_cons, List.map_nil]); first | done | rfl | (simp only [List.length_drop, List.length_take]; rfl)) ?_; (with_reducible refine (impl_many_int.calls _ _ l1 t150 _ ?side1 ?side2 A5.out).mono ?_); (case side1 => repeat (first | exact HR1.out | (with_reducible refine Kd.C_alloc ?_ _) | (with_reducible refine Kd.C_drewN ?_ _) | (with_reducible refine Kd.C_drew ?_))); (case side2 => exact HC1.out); rintro e w' ⟨rfl, ⟨nd, rfl⟩⟩; refine ⟨_, rfl, ?_⟩) | ((with_reducible refine gate_callee (f := 64) rfl ?_); refine goesL_ (some 14) rfl rfl Try.func64 (by kernel_rfl) rfl #[.bool (decide ((l0.length : Int) > 40)), .int .i64 6] rfl (by (try simp only [List.map_toArray, List.map_cons, List.map_nil]); first | done | rfl | (simp only [List.length_drop, List.length_take]; rfl)) ?_; (with_reducible refine (impl_when.calls (decide ((l0.length : Int) > 40)) 6 t151 _ A6.out).mono ?_); rintro e w' ⟨rfl, ⟨nd, rfl⟩⟩; refine ⟨_, rfl, ?_⟩) | ((with_reducible refine gate_callee (f := 65) rfl ?_); refine goesL_ (some 16) rfl rfl Try.func65 (by kernel_rfl) rfl #[.slice A1 l1.length c1] rfl (by (try simp only [List.map_toArray, List.map_cons, List.map_nil]); first | done | rfl | (simp only [List.length_drop, List.length_take]; rfl)) ?_; (with_reducible refine (impl_areKinds.calls k _ _ l1 false _ ?side1 ?side2 A7.out).mono ?_); (case side1 => repeat (first | exact HR1.out | (with_reducible refine Kd.C_alloc ?_ _) | (with_reducible refine Kd.C_drewN ?_ _) | (with_reducible refine Kd.C_drew ?_))); (case side2 => exact HC1.out); rintro e w23 ⟨rfl, hb⟩; refine ⟨_, rfl, ?_⟩; have n0_ := Aside0.mk (below_step (by repeat (first | (with_reducible first | exact HB.out | apply below_alloc | apply pw_below_drewN | apply below_drew1) | exact HB.out)) hb); clear HB; have HB := n0_; clear n0_; (try clear hb); (try clear hb2); (try clear hk); (try clear hi)) | ((with_reducible refine gate_callee (f := 64) rfl ?_); refine goesL_ (some 23) rfl rfl Try.func64 (by kernel_rfl) rfl #[.bool true, .int .i64 1] rfl (by (try simp only [List.map_toArray, List.map_cons, List.map_nil]); first | done | rfl | (simp only [List.length_drop, List.length_take]; rfl)) ?_; (with_reducible refine (impl_when.calls true 1 t161 _ A19.out).mono ?_); rintro e w' ⟨rfl, ⟨nd, rfl⟩⟩; refine ⟨_, rfl, ?_⟩) | ((with_reducible refine gate_callee (f := 87) rfl ?_); refine goesL_ (some 25) rfl rfl Try.func87 (by kernel_rfl) rfl #[.int .i64 a2, .int .i64 0, .int .i64 6] rfl (by (try simp only [List.map_toArray, List.map_cons, List.map_nil]); first | done | rfl | (simp only [List.length_drop, List.length_take]; rfl)) ?_; (with_reducible refine (impl_within.calls a2 0 6 t162 _ A20.out).mono ?_); rintro e w' ⟨rfl, ⟨nd, rfl⟩⟩; refine ⟨_, rfl, ?_⟩) | ((with_reducible refine gate_callee (f := 64) rfl ?_); refine goesL_ (some 27) rfl rfl Try.func64 (by kernel_rfl) rfl #[.bool (!t162), .int .i64 4] rfl (by (try simp only [List.map_toArray, List.map_cons, List.map_nil]); first | done | rfl | (simp only [List.length_drop, List.length_take]; rfl)) ?_; (with_reducible refine (impl_when.calls (!t162) 4 t163 _ A21.out).mono ?_); rintro e w' ⟨rfl, ⟨nd, rfl⟩⟩; refine ⟨_, rfl, ?_⟩) | ((with_reducible refine gate_dst (N := 28) rfl ?_); refine Kd.R_lit (Kd.int .i64) _ 3 ?hg (N := 28) ?hd (xs := ([t149, t150, t151, t161, t163] : List Int)) (inner := [.int .i64 t149, .int .i64 t150, .int .i64 t151, .int .i64 t161, .int .i64 t163]) (ok := fun _ => True) (okp := fun _ => True) ?hr ?hp (fun _ hk => hk) trivial (Below.refl _ _) (Nat.le_refl _) (by simp) ?_; (case hd => rfl); (case hg => rfl); (case hr => first | (go_simp; done) | (go_simp; rfl)); (case hp => exact (Reps.one (show Kd.M (Kd.int .i64) _ _ _ t149 [.int .i64 t149] from rfl) (Reps.one (show Kd.M (Kd.int .i64) _ _ _ t150 [.int .i64 t150] from rfl) (Reps.one (show Kd.M (Kd.int .i64) _ _ _ t151 [.int .i64 t151] from rfl) (Reps.one (show Kd.M (Kd.int .i64) _ _ _ t161 [.int .i64 t161] from rfl) (Reps.one (show Kd.M (Kd.int .i64) _ _ _ t163 [.int .i64 t163] from rfl) (Reps.none _ _))))))); intro v165 w24 ho25 hb hg_ hnew_; clear hg_ hnew_; (first | rw [← Ny164.out] at ho25 | (simp only [Int.reduceToNat] at ho25; rw [← Ny164.out] at ho25)); have n0_ := Aside0.mk (Kd.R_lower ho25 (below_size (by repeat (first | (with_reducible first | exact HB.out | apply below_alloc | apply pw_below_drewN | apply below_drew1) | exact HB.out)))); have n1_ := Aside0.mk (below_step (by repeat (first | (with_reducible first | exact HB.out | apply below_alloc | apply pw_below_drewN | apply below_drew1) | exact HB.out)) hb); clear HB; have HO166 := n0_; have HB := n1_; clear n0_ n1_; clear hb ho25; obtain ⟨Ao26, co26, eo26⟩ := Kd.R_slice HO166.out; subst eo26) | ((with_reducible refine gate_callee (f := 62) rfl ?_); refine goesL_ (some 29) rfl rfl Try.func62 (by kernel_rfl) rfl #[.slice Ao26 y164.length co26] rfl (by (try simp only [List.map_toArray, List.map_cons, List.map_nil]); first | done | rfl | (simp only [List.length_drop, List.length_take]; rfl)) ?_; (with_reducible refine (impl_first.calls k _ _ y164 t167 _ ?side1 ?side2 A22.out).mono ?_); (case side1 => repeat (first | exact (Kd.R_reads' HO166.out).2.2 | (with_reducible refine Kd.C_alloc ?_ _) | (with_reducible refine Kd.C_drewN ?_ _) | (with_reducible refine Kd.C_drew ?_))); (case side2 => exact (Kd.R_reads' HO166.out).2.1); rintro e w' ⟨rfl, ⟨nd, rfl⟩⟩; refine ⟨_, rfl, ?_⟩))
    go_ret
    exact ⟨by first | rfl | (simp [errW_none, errW_some] <;> rfl) | (simp [*, errW_none, errW_some] <;> rfl), by repeat (first | (with_reducible first | exact HB.out | apply below_alloc | apply pw_below_drewN | apply below_drew1) | exact HB.out)⟩

-- NOT PRINTED: function 142 (impl_takes)

-- NOT PRINTED: function 130 (impl_verifier_effect)

-- NOT PRINTED: function 131 (impl_verifier_base)

-- NOT PRINTED: function 132 (impl_verifier_nest)

-- NOT PRINTED: function 117 (impl_verifier_step)

/-! ### impl_verify: function 84 -/
set_option maxRecDepth 100000 in
set_option maxHeartbeats 4000000 in
theorem vbase0 (w : World) (g : Nat) (A : Option Addr) (c : Nat) (h3 : w.cell? ⟨g, 3, none⟩ = some (.slice A 0 c)) :
    Calls Try.prog 131 #[.pointer (some ⟨g, 0, none⟩)] w fun e w' => e = .returned (.int .i64 0) ∧ Drawn0 w w' := by
  go_enter Try.func131, Try.ntmps131
  go_wp2
  go_ret
  exact ⟨rfl, Drawn0.refl _⟩
set_option maxRecDepth 100000 in
set_option maxHeartbeats 4000000 in
theorem vbaseS (w : World) (g q n c : Nat) (b : Int) (hn : n ≤ 4) (h3 : w.cell? ⟨g, 3, none⟩ = some (.slice (some ⟨q, 0, none⟩) (n + 1) c)) (hc : w.cell? ⟨q, n * 4 + 1, none⟩ = some (.int .i64 b)) :
    Calls Try.prog 131 #[.pointer (some ⟨g, 0, none⟩)] w fun e w' => e = .returned (.int .i64 b) ∧ Drawn0 w w' := by
  have hu := Try.underlying134
  go_enter Try.func131, Try.ntmps131
  go_wp2
  go_quiet (fail)
  go_wp2
  go_ret
  exact ⟨rfl, by repeat (first | exact Drawn0.refl _ | apply Drawn0.step)⟩
set_option maxRecDepth 100000 in
theorem vnest_no (w : World) (g : Nat) (at_ op : Int) (h1 : (op == 21) = false) (h2 : (op == 24) = false) (h3 : (op == 22) = false) (h4 : (op == 23) = false) :
    Calls Try.prog 132 #[.pointer (some ⟨g, 0, none⟩), .int .i64 at_, .int .i64 op] w fun e w' => e = .returned (.int .i64 0) ∧ Drawn0 w w' := by
  go_enter Try.func132, Try.ntmps132
  go_wp2
  go_ret
  exact ⟨rfl, Drawn0.refl _⟩
set_option maxRecDepth 100000 in
theorem vnest_deep21 (w : World) (g c : Nat) (A : Option Addr) (at_ : Int) (h3 : w.cell? ⟨g, 3, none⟩ = some (.slice A 4 c)) :
    Calls Try.prog 132 #[.pointer (some ⟨g, 0, none⟩), .int .i64 at_, .int .i64 21] w fun e w' => e = .returned (.int .i64 17) ∧ Drawn0 w w' := by
  go_enter Try.func132, Try.ntmps132
  go_wp2
  go_ret
  exact ⟨rfl, Drawn0.refl _⟩
set_option maxRecDepth 100000 in
theorem vnest_deep24 (w : World) (g c : Nat) (A : Option Addr) (at_ : Int) (h3 : w.cell? ⟨g, 3, none⟩ = some (.slice A 4 c)) :
    Calls Try.prog 132 #[.pointer (some ⟨g, 0, none⟩), .int .i64 at_, .int .i64 24] w fun e w' => e = .returned (.int .i64 17) ∧ Drawn0 w w' := by
  go_enter Try.func132, Try.ntmps132
  go_wp2
  go_ret
  exact ⟨rfl, Drawn0.refl _⟩
set_option maxRecDepth 100000 in
theorem vnest_none22 (w : World) (g c : Nat) (A : Option Addr) (at_ : Int) (h3 : w.cell? ⟨g, 3, none⟩ = some (.slice A 0 c)) :
    Calls Try.prog 132 #[.pointer (some ⟨g, 0, none⟩), .int .i64 at_, .int .i64 22] w fun e w' => e = .returned (.int .i64 14) ∧ Drawn0 w w' := by
  go_enter Try.func132, Try.ntmps132
  go_wp2
  go_ret
  exact ⟨rfl, Drawn0.refl _⟩
set_option maxRecDepth 100000 in
theorem vnest_none23 (w : World) (g c : Nat) (A : Option Addr) (at_ : Int) (h3 : w.cell? ⟨g, 3, none⟩ = some (.slice A 0 c)) :
    Calls Try.prog 132 #[.pointer (some ⟨g, 0, none⟩), .int .i64 at_, .int .i64 23] w fun e w' => e = .returned (.int .i64 14) ∧ Drawn0 w w' := by
  go_enter Try.func132, Try.ntmps132
  go_wp2
  go_ret
  exact ⟨rfl, Drawn0.refl _⟩
set_option maxRecDepth 100000 in
theorem vnest_bad22 (w : World) (g q n c : Nat) (at_ : Int) (b1 b2 : Bool) (hn : n ≤ 4) (h3 : w.cell? ⟨g, 3, none⟩ = some (.slice (some ⟨q, 0, none⟩) (n + 1) c)) (hc2 : w.cell? ⟨q, n * 4 + 2, none⟩ = some (.bool b1)) (hc3 : w.cell? ⟨q, n * 4 + 3, none⟩ = some (.bool b2)) (hb : (!b1 || b2) = true) :
    Calls Try.prog 132 #[.pointer (some ⟨g, 0, none⟩), .int .i64 at_, .int .i64 22] w fun e w' => e = .returned (.int .i64 14) ∧ Drawn0 w w' := by
  have hu := Try.underlying134
  rcases b1 with _ | _ <;> rcases b2 with _ | _
  case true.false => simp at hb
  all_goals
    clear hb
    go_enter Try.func132, Try.ntmps132
    go_wp2
    go_ret
    exact ⟨rfl, Drawn0.refl _⟩
set_option maxRecDepth 100000 in
theorem vnest_st22 (w : World) (g q n c : Nat) (at_ ba : Int) (S : ByteArray) (hn : n ≤ 4) (hs : S.size ≤ 8) (hS : w.cell? ⟨g, 2, none⟩ = some (.string S)) (h3 : w.cell? ⟨g, 3, none⟩ = some (.slice (some ⟨q, 0, none⟩) (n + 1) c)) (hc1 : w.cell? ⟨q, n * 4 + 1, none⟩ = some (.int .i64 ba)) (hc2 : w.cell? ⟨q, n * 4 + 2, none⟩ = some (.bool true)) (hc3 : w.cell? ⟨q, n * 4 + 3, none⟩ = some (.bool false)) (hb : ((S.size : Int) != ba) = true) :
    Calls Try.prog 132 #[.pointer (some ⟨g, 0, none⟩), .int .i64 at_, .int .i64 22] w fun e w' => e = .returned (.int .i64 13) ∧ Drawn0 w w' := by
  have hu := Try.underlying134
  go_enter Try.func132, Try.ntmps132
  go_wp2
  go_quiet (fail)
  go_wp2
  go_ret
  exact ⟨rfl, by repeat (first | exact Drawn0.refl _ | apply Drawn0.step)⟩
set_option maxRecDepth 100000 in
theorem vnest_st23 (w : World) (g q n c : Nat) (at_ ba : Int) (S : ByteArray) (hn : n ≤ 4) (hs : S.size ≤ 8) (hS : w.cell? ⟨g, 2, none⟩ = some (.string S)) (h3 : w.cell? ⟨g, 3, none⟩ = some (.slice (some ⟨q, 0, none⟩) (n + 1) c)) (hc1 : w.cell? ⟨q, n * 4 + 1, none⟩ = some (.int .i64 ba)) (hb : ((S.size : Int) != ba) = true) :
    Calls Try.prog 132 #[.pointer (some ⟨g, 0, none⟩), .int .i64 at_, .int .i64 23] w fun e w' => e = .returned (.int .i64 13) ∧ Drawn0 w w' := by
  have hu := Try.underlying134
  go_enter Try.func132, Try.ntmps132
  go_wp2
  go_quiet (fail)
  go_wp2
  go_ret
  exact ⟨rfl, by repeat (first | exact Drawn0.refl _ | apply Drawn0.step)⟩
set_option maxRecDepth 100000 in
theorem vnest_else (w : World) (g q n c : Nat) (at_ ba : Int) (S : ByteArray) (hn : n ≤ 4) (hs : S.size ≤ 8) (hS : w.cell? ⟨g, 2, none⟩ = some (.string S)) (h3 : w.cell? ⟨g, 3, none⟩ = some (.slice (some ⟨q, 0, none⟩) (n + 1) c)) (hc1 : w.cell? ⟨q, n * 4 + 1, none⟩ = some (.int .i64 ba)) (hc2 : w.cell? ⟨q, n * 4 + 2, none⟩ = some (.bool true)) (hc3 : w.cell? ⟨q, n * 4 + 3, none⟩ = some (.bool false)) (hf : w.frozen? ⟨q, n * 4 + 3, none⟩ = false) (hb : ((S.size : Int) != ba) = false) :
    Calls Try.prog 132 #[.pointer (some ⟨g, 0, none⟩), .int .i64 at_, .int .i64 22] w fun e w' => e = .returned (.int .i64 0) ∧ ∃ m, w' = (w.setCell ⟨q, n * 4 + 3, none⟩ (.bool true)).drewN m := by
  have hu := Try.underlying134
  go_enter Try.func132, Try.ntmps132
  go_wp2
  go_quiet (fail)
  go_wp2
  go_ret
  exact ⟨rfl, _, rfl⟩
set_option maxRecDepth 100000 in
theorem vnest_end (w : World) (g q n c : Nat) (at_ ba : Int) (S : ByteArray) (hn : n ≤ 4) (hs : S.size ≤ 8) (hS : w.cell? ⟨g, 2, none⟩ = some (.string S)) (h3 : w.cell? ⟨g, 3, none⟩ = some (.slice (some ⟨q, 0, none⟩) (n + 1) c)) (hc1 : w.cell? ⟨q, n * 4 + 1, none⟩ = some (.int .i64 ba)) (hf : w.frozen? ⟨g, 3, none⟩ = false) (hnc : n + 1 ≤ c) (hb : ((S.size : Int) != ba) = false) :
    Calls Try.prog 132 #[.pointer (some ⟨g, 0, none⟩), .int .i64 at_, .int .i64 23] w fun e w' => e = .returned (.int .i64 0) ∧ ∃ m, w' = (w.setCell ⟨g, 3, none⟩ (.slice (some ⟨q, 0, none⟩) n c)).drewN m := by
  have hu := Try.underlying134
  go_enter Try.func132, Try.ntmps132
  go_wp2
  go_quiet (fail)
  go_wp2
  go_ret
  exact ⟨rfl, _, rfl⟩
theorem vinfo : (Try.prog.info? 139).map (fun i => (i.zero, i.size, i.bytes)) = some (some (.agg #[.int .i64 0, .int .i64 0, .bool false, .bool false]), 4, 24) := by kernel_rfl
set_option maxHeartbeats 4000000 in
set_option maxRecDepth 100000 in
theorem vnest_push21 (w : World) (B g n : Nat) (v : Value) (at_ : Int) (S : ByteArray) (xs : List Value) (hn : n < 4) (hs : S.size ≤ 8) (hB : B ≤ w.heap.size) (hS : w.cell? ⟨g, 2, none⟩ = some (.string S)) (h3 : w.cell? ⟨g, 3, none⟩ = some v) (hf : w.frozen? ⟨g, 3, none⟩ = false) (hgv : v.ownBlock ≠ some g) (hv : ∃ A c, v = .slice A n c)
    (ho : w.ownsRow B 139 4 v n xs) :
    Calls Try.prog 132 #[.pointer (some ⟨g, 0, none⟩), .int .i64 at_, .int .i64 21] w fun e w' => e = .returned (.int .i64 0) ∧ ∃ w1 v1, w1.ownsRow B 139 4 v1 (n + 1) (xs ++ [.int .i64 at_, .int .i64 S.size, .bool true, .bool false]) ∧ w.grownBy w1 v.ownBlock ∧ (v1.ownBlock = v.ownBlock ∨ ∃ b, v1.ownBlock = some b ∧ w.heap.size ≤ b) ∧ w' = w1.setCell ⟨g, 3, none⟩ v1 := by
  have hu := Try.underlying134
  obtain ⟨A, c, rfl⟩ := hv
  have h3a : ∀ o, (w.alloc o).cell? ⟨g, 3, none⟩ = some (.slice A n c) := fun o => (World.cell?_alloc_lt w o ⟨g, 3, none⟩ (World.block_lt_of_cell? w ⟨g, 3, none⟩ h3)).trans h3
  have HO := Aside0.mk ho
  have HG := Aside0.mk hgv
  have HB := Aside0.mk hB
  clear ho hgv hB
  go_enter Try.func132, Try.ntmps132
  go_wp2
  go_region_law (refine step_append_cells (W := w.drew) (w0 := w.drew) B (by rfl) (.tmp 22) (.tmp 32) 134 139 _ 4 24 rfl Try.underlying134 vinfo rfl (by decide) (by decide) (.slice A n c) n xs [.int .i64 at_, .int .i64 S.size, .bool true, .bool false] rfl rfl rfl (by simp [Value.oneCell']) HO.out (Below.refl _ _) HB.out (by omega) ?_; intro v1 w1 hown hbel hgrow hat; obtain ⟨A1, c1, rfl⟩ := own_slice hown; have z1 : w1.cell? ⟨g, 3, none⟩ = some (.slice A n c) := hgrow.cell (a := ⟨g, 3, none⟩) h3 (fun e => HG.out e.symm); have z2 : w1.frozen? ⟨g, 3, none⟩ = false := (World.frozen?_of_block (w := w.drew) (w' := w1) (a := ⟨g, 3, none⟩) (hgrow.block g (World.block_lt_of_cell? w ⟨g, 3, none⟩ h3) (fun e => HG.out e.symm))).trans hf; have YO := Aside0.mk hown; have YG := Aside0.mk hgrow; have YA := Aside0.mk hat; clear hown hbel hgrow hat)
  all_goals
    go_wp2
    go_ret
    exact ⟨rfl, _, _, YO.out, ⟨YG.out.os, YG.out.tape, YG.out.output, YG.out.size, YG.out.block⟩, YA.out, rfl⟩
set_option maxHeartbeats 4000000 in
set_option maxRecDepth 100000 in
theorem vnest_push24 (w : World) (B g n : Nat) (v : Value) (at_ : Int) (S : ByteArray) (xs : List Value) (hn : n < 4) (hs : S.size ≤ 8) (hB : B ≤ w.heap.size) (hS : w.cell? ⟨g, 2, none⟩ = some (.string S)) (h3 : w.cell? ⟨g, 3, none⟩ = some v) (hf : w.frozen? ⟨g, 3, none⟩ = false) (hgv : v.ownBlock ≠ some g) (hv : ∃ A c, v = .slice A n c)
    (ho : w.ownsRow B 139 4 v n xs) :
    Calls Try.prog 132 #[.pointer (some ⟨g, 0, none⟩), .int .i64 at_, .int .i64 24] w fun e w' => e = .returned (.int .i64 0) ∧ ∃ w1 v1, w1.ownsRow B 139 4 v1 (n + 1) (xs ++ [.int .i64 at_, .int .i64 S.size, .bool false, .bool false]) ∧ w.grownBy w1 v.ownBlock ∧ (v1.ownBlock = v.ownBlock ∨ ∃ b, v1.ownBlock = some b ∧ w.heap.size ≤ b) ∧ w' = w1.setCell ⟨g, 3, none⟩ v1 := by
  have hu := Try.underlying134
  obtain ⟨A, c, rfl⟩ := hv
  have h3a : ∀ o, (w.alloc o).cell? ⟨g, 3, none⟩ = some (.slice A n c) := fun o => (World.cell?_alloc_lt w o ⟨g, 3, none⟩ (World.block_lt_of_cell? w ⟨g, 3, none⟩ h3)).trans h3
  have HO := Aside0.mk ho
  have HG := Aside0.mk hgv
  have HB := Aside0.mk hB
  clear ho hgv hB
  go_enter Try.func132, Try.ntmps132
  go_wp2
  go_region_law (refine step_append_cells (W := w.drew) (w0 := w.drew) B (by rfl) (.tmp 22) (.tmp 32) 134 139 _ 4 24 rfl Try.underlying134 vinfo rfl (by decide) (by decide) (.slice A n c) n xs [.int .i64 at_, .int .i64 S.size, .bool false, .bool false] rfl rfl rfl (by simp [Value.oneCell']) HO.out (Below.refl _ _) HB.out (by omega) ?_; intro v1 w1 hown hbel hgrow hat; obtain ⟨A1, c1, rfl⟩ := own_slice hown; have z1 : w1.cell? ⟨g, 3, none⟩ = some (.slice A n c) := hgrow.cell (a := ⟨g, 3, none⟩) h3 (fun e => HG.out e.symm); have z2 : w1.frozen? ⟨g, 3, none⟩ = false := (World.frozen?_of_block (w := w.drew) (w' := w1) (a := ⟨g, 3, none⟩) (hgrow.block g (World.block_lt_of_cell? w ⟨g, 3, none⟩ h3) (fun e => HG.out e.symm))).trans hf; have YO := Aside0.mk hown; have YG := Aside0.mk hgrow; have YA := Aside0.mk hat; clear hown hbel hgrow hat)
  all_goals
    go_wp2
    go_ret
    exact ⟨rfl, _, _, YO.out, ⟨YG.out.os, YG.out.tape, YG.out.output, YG.out.size, YG.out.block⟩, YA.out, rfl⟩

set_option maxRecDepth 100000 in
theorem veff_1 (w : World) (g : Nat) (a : Int) :
    Calls Try.prog 130 #[.pointer (some ⟨g, 0, none⟩), .agg #[.int .i64 1, .int .i64 a]] w fun e w' => e = .returned (.tuple #[.string ⟨#[]⟩, .string ⟨#[105]⟩]) ∧ Below w.heap.size w w' := by
  go_enter Try.func130, Try.ntmps130
  go_wp2
  go_ret2
  exact ⟨rfl, below_alloc (Below.refl _ _) _⟩
set_option maxRecDepth 100000 in
theorem veff_2 (w : World) (g : Nat) (a : Int) :
    Calls Try.prog 130 #[.pointer (some ⟨g, 0, none⟩), .agg #[.int .i64 2, .int .i64 a]] w fun e w' => e = .returned (.tuple #[.string ⟨#[]⟩, .string ⟨#[98]⟩]) ∧ Below w.heap.size w w' := by
  go_enter Try.func130, Try.ntmps130
  go_wp2
  go_ret2
  exact ⟨rfl, below_alloc (Below.refl _ _) _⟩
set_option maxRecDepth 100000 in
theorem veff_3 (w : World) (g : Nat) (a : Int) :
    Calls Try.prog 130 #[.pointer (some ⟨g, 0, none⟩), .agg #[.int .i64 3, .int .i64 a]] w fun e w' => e = .returned (.tuple #[.string ⟨#[]⟩, .string ⟨#[105]⟩]) ∧ Below w.heap.size w w' := by
  go_enter Try.func130, Try.ntmps130
  go_wp2
  go_ret2
  exact ⟨rfl, below_alloc (Below.refl _ _) _⟩
set_option maxRecDepth 100000 in
theorem veff_4 (w : World) (g : Nat) (a : Int) :
    Calls Try.prog 130 #[.pointer (some ⟨g, 0, none⟩), .agg #[.int .i64 4, .int .i64 a]] w fun e w' => e = .returned (.tuple #[.string ⟨#[105]⟩, .string ⟨#[]⟩]) ∧ Below w.heap.size w w' := by
  go_enter Try.func130, Try.ntmps130
  go_wp2
  go_ret2
  exact ⟨rfl, below_alloc (Below.refl _ _) _⟩
set_option maxRecDepth 100000 in
theorem veff_5 (w : World) (g : Nat) (a : Int) :
    Calls Try.prog 130 #[.pointer (some ⟨g, 0, none⟩), .agg #[.int .i64 5, .int .i64 a]] w fun e w' => e = .returned (.tuple #[.string ⟨#[]⟩, .string ⟨#[98]⟩]) ∧ Below w.heap.size w w' := by
  go_enter Try.func130, Try.ntmps130
  go_wp2
  go_ret2
  exact ⟨rfl, below_alloc (Below.refl _ _) _⟩
set_option maxRecDepth 100000 in
theorem veff_6 (w : World) (g : Nat) (a : Int) :
    Calls Try.prog 130 #[.pointer (some ⟨g, 0, none⟩), .agg #[.int .i64 6, .int .i64 a]] w fun e w' => e = .returned (.tuple #[.string ⟨#[98]⟩, .string ⟨#[]⟩]) ∧ Below w.heap.size w w' := by
  go_enter Try.func130, Try.ntmps130
  go_wp2
  go_ret2
  exact ⟨rfl, below_alloc (Below.refl _ _) _⟩
set_option maxRecDepth 100000 in
theorem veff_7 (w : World) (g : Nat) (a : Int) :
    Calls Try.prog 130 #[.pointer (some ⟨g, 0, none⟩), .agg #[.int .i64 7, .int .i64 a]] w fun e w' => e = .returned (.tuple #[.string ⟨#[]⟩, .string ⟨#[98]⟩]) ∧ Below w.heap.size w w' := by
  go_enter Try.func130, Try.ntmps130
  go_wp2
  go_ret2
  exact ⟨rfl, below_alloc (Below.refl _ _) _⟩
set_option maxRecDepth 100000 in
theorem veff_8 (w : World) (g : Nat) (a : Int) :
    Calls Try.prog 130 #[.pointer (some ⟨g, 0, none⟩), .agg #[.int .i64 8, .int .i64 a]] w fun e w' => e = .returned (.tuple #[.string ⟨#[98]⟩, .string ⟨#[]⟩]) ∧ Below w.heap.size w w' := by
  go_enter Try.func130, Try.ntmps130
  go_wp2
  go_ret2
  exact ⟨rfl, below_alloc (Below.refl _ _) _⟩
set_option maxRecDepth 100000 in
theorem veff_9 (w : World) (g : Nat) (a : Int) :
    Calls Try.prog 130 #[.pointer (some ⟨g, 0, none⟩), .agg #[.int .i64 9, .int .i64 a]] w fun e w' => e = .returned (.tuple #[.string ⟨#[105, 105]⟩, .string ⟨#[105]⟩]) ∧ Below w.heap.size w w' := by
  go_enter Try.func130, Try.ntmps130
  go_wp2
  go_ret2
  exact ⟨rfl, below_alloc (Below.refl _ _) _⟩
set_option maxRecDepth 100000 in
theorem veff_10 (w : World) (g : Nat) (a : Int) :
    Calls Try.prog 130 #[.pointer (some ⟨g, 0, none⟩), .agg #[.int .i64 10, .int .i64 a]] w fun e w' => e = .returned (.tuple #[.string ⟨#[105, 105]⟩, .string ⟨#[105]⟩]) ∧ Below w.heap.size w w' := by
  go_enter Try.func130, Try.ntmps130
  go_wp2
  go_ret2
  exact ⟨rfl, below_alloc (Below.refl _ _) _⟩
set_option maxRecDepth 100000 in
theorem veff_11 (w : World) (g : Nat) (a : Int) :
    Calls Try.prog 130 #[.pointer (some ⟨g, 0, none⟩), .agg #[.int .i64 11, .int .i64 a]] w fun e w' => e = .returned (.tuple #[.string ⟨#[105, 105]⟩, .string ⟨#[105]⟩]) ∧ Below w.heap.size w w' := by
  go_enter Try.func130, Try.ntmps130
  go_wp2
  go_ret2
  exact ⟨rfl, below_alloc (Below.refl _ _) _⟩
set_option maxRecDepth 100000 in
theorem veff_12 (w : World) (g : Nat) (a : Int) :
    Calls Try.prog 130 #[.pointer (some ⟨g, 0, none⟩), .agg #[.int .i64 12, .int .i64 a]] w fun e w' => e = .returned (.tuple #[.string ⟨#[105, 105]⟩, .string ⟨#[105]⟩]) ∧ Below w.heap.size w w' := by
  go_enter Try.func130, Try.ntmps130
  go_wp2
  go_ret2
  exact ⟨rfl, below_alloc (Below.refl _ _) _⟩
set_option maxRecDepth 100000 in
theorem veff_13 (w : World) (g : Nat) (a : Int) :
    Calls Try.prog 130 #[.pointer (some ⟨g, 0, none⟩), .agg #[.int .i64 13, .int .i64 a]] w fun e w' => e = .returned (.tuple #[.string ⟨#[105, 105]⟩, .string ⟨#[98]⟩]) ∧ Below w.heap.size w w' := by
  go_enter Try.func130, Try.ntmps130
  go_wp2
  go_ret2
  exact ⟨rfl, below_alloc (Below.refl _ _) _⟩
set_option maxRecDepth 100000 in
theorem veff_14 (w : World) (g : Nat) (a : Int) :
    Calls Try.prog 130 #[.pointer (some ⟨g, 0, none⟩), .agg #[.int .i64 14, .int .i64 a]] w fun e w' => e = .returned (.tuple #[.string ⟨#[105, 105]⟩, .string ⟨#[98]⟩]) ∧ Below w.heap.size w w' := by
  go_enter Try.func130, Try.ntmps130
  go_wp2
  go_ret2
  exact ⟨rfl, below_alloc (Below.refl _ _) _⟩
set_option maxRecDepth 100000 in
theorem veff_15 (w : World) (g : Nat) (a : Int) :
    Calls Try.prog 130 #[.pointer (some ⟨g, 0, none⟩), .agg #[.int .i64 15, .int .i64 a]] w fun e w' => e = .returned (.tuple #[.string ⟨#[98, 98]⟩, .string ⟨#[98]⟩]) ∧ Below w.heap.size w w' := by
  go_enter Try.func130, Try.ntmps130
  go_wp2
  go_ret2
  exact ⟨rfl, below_alloc (Below.refl _ _) _⟩
set_option maxRecDepth 100000 in
theorem veff_16 (w : World) (g : Nat) (a : Int) :
    Calls Try.prog 130 #[.pointer (some ⟨g, 0, none⟩), .agg #[.int .i64 16, .int .i64 a]] w fun e w' => e = .returned (.tuple #[.string ⟨#[98, 98]⟩, .string ⟨#[98]⟩]) ∧ Below w.heap.size w w' := by
  go_enter Try.func130, Try.ntmps130
  go_wp2
  go_ret2
  exact ⟨rfl, below_alloc (Below.refl _ _) _⟩
set_option maxRecDepth 100000 in
theorem veff_17 (w : World) (g : Nat) (a : Int) :
    Calls Try.prog 130 #[.pointer (some ⟨g, 0, none⟩), .agg #[.int .i64 17, .int .i64 a]] w fun e w' => e = .returned (.tuple #[.string ⟨#[98]⟩, .string ⟨#[98]⟩]) ∧ Below w.heap.size w w' := by
  go_enter Try.func130, Try.ntmps130
  go_wp2
  go_ret2
  exact ⟨rfl, below_alloc (Below.refl _ _) _⟩
set_option maxRecDepth 100000 in
theorem veff_18 (w : World) (g : Nat) (a : Int) :
    Calls Try.prog 130 #[.pointer (some ⟨g, 0, none⟩), .agg #[.int .i64 18, .int .i64 a]] w fun e w' => e = .returned (.tuple #[.string ⟨#[98, 105, 105]⟩, .string ⟨#[105]⟩]) ∧ Below w.heap.size w w' := by
  go_enter Try.func130, Try.ntmps130
  go_wp2
  go_ret2
  exact ⟨rfl, below_alloc (Below.refl _ _) _⟩
set_option maxRecDepth 100000 in
theorem veff_20 (w : World) (g : Nat) (a : Int) :
    Calls Try.prog 130 #[.pointer (some ⟨g, 0, none⟩), .agg #[.int .i64 20, .int .i64 a]] w fun e w' => e = .returned (.tuple #[.string ⟨#[]⟩, .string ⟨#[105]⟩]) ∧ Below w.heap.size w w' := by
  go_enter Try.func130, Try.ntmps130
  go_wp2
  go_ret2
  exact ⟨rfl, below_alloc (Below.refl _ _) _⟩
set_option maxRecDepth 100000 in
theorem veff_21 (w : World) (g : Nat) (a : Int) :
    Calls Try.prog 130 #[.pointer (some ⟨g, 0, none⟩), .agg #[.int .i64 21, .int .i64 a]] w fun e w' => e = .returned (.tuple #[.string ⟨#[98]⟩, .string ⟨#[]⟩]) ∧ Below w.heap.size w w' := by
  go_enter Try.func130, Try.ntmps130
  go_wp2
  go_ret2
  exact ⟨rfl, below_alloc (Below.refl _ _) _⟩
set_option maxRecDepth 100000 in
theorem veff_22 (w : World) (g : Nat) (a : Int) :
    Calls Try.prog 130 #[.pointer (some ⟨g, 0, none⟩), .agg #[.int .i64 22, .int .i64 a]] w fun e w' => e = .returned (.tuple #[.string ⟨#[]⟩, .string ⟨#[]⟩]) ∧ Below w.heap.size w w' := by
  go_enter Try.func130, Try.ntmps130
  go_wp2
  go_ret2
  exact ⟨rfl, below_alloc (Below.refl _ _) _⟩
set_option maxRecDepth 100000 in
theorem veff_23 (w : World) (g : Nat) (a : Int) :
    Calls Try.prog 130 #[.pointer (some ⟨g, 0, none⟩), .agg #[.int .i64 23, .int .i64 a]] w fun e w' => e = .returned (.tuple #[.string ⟨#[]⟩, .string ⟨#[]⟩]) ∧ Below w.heap.size w w' := by
  go_enter Try.func130, Try.ntmps130
  go_wp2
  go_ret2
  exact ⟨rfl, below_alloc (Below.refl _ _) _⟩
set_option maxRecDepth 100000 in
theorem veff_24 (w : World) (g : Nat) (a : Int) :
    Calls Try.prog 130 #[.pointer (some ⟨g, 0, none⟩), .agg #[.int .i64 24, .int .i64 a]] w fun e w' => e = .returned (.tuple #[.string ⟨#[]⟩, .string ⟨#[]⟩]) ∧ Below w.heap.size w w' := by
  go_enter Try.func130, Try.ntmps130
  go_wp2
  go_ret2
  exact ⟨rfl, below_alloc (Below.refl _ _) _⟩
set_option maxRecDepth 100000 in
theorem veff_25 (w : World) (g : Nat) (a : Int) :
    Calls Try.prog 130 #[.pointer (some ⟨g, 0, none⟩), .agg #[.int .i64 25, .int .i64 a]] w fun e w' => e = .returned (.tuple #[.string ⟨#[]⟩, .string ⟨#[]⟩]) ∧ Below w.heap.size w w' := by
  go_enter Try.func130, Try.ntmps130
  go_wp2
  go_ret2
  exact ⟨rfl, below_alloc (Below.refl _ _) _⟩
set_option maxRecDepth 100000 in
theorem veff_26 (w : World) (g : Nat) (a : Int) :
    Calls Try.prog 130 #[.pointer (some ⟨g, 0, none⟩), .agg #[.int .i64 26, .int .i64 a]] w fun e w' => e = .returned (.tuple #[.string ⟨#[]⟩, .string ⟨#[]⟩]) ∧ Below w.heap.size w w' := by
  go_enter Try.func130, Try.ntmps130
  go_wp2
  go_ret2
  exact ⟨rfl, below_alloc (Below.refl _ _) _⟩
theorem vtakes_1 (w : World) : Calls Try.prog 142 #[.int .i64 1] w fun e w' => e = .returned (.string ⟨#[98, 105]⟩) ∧ w' = w := by
  have i0 : ∀ w, (Instr.index 160 (.agg #[.string ⟨#[98, 105]⟩, .string ⟨#[98, 98, 105]⟩, .string ⟨#[98]⟩, .string ⟨#[98, 98]⟩]) (.int .i64 0)).run Try.prog w = .ok (.string ⟨#[98, 105]⟩) w := fun _ => by kernel_rfl
  go_enter Try.func142, Try.ntmps142
  go_wp2
  go_ret
  exact ⟨rfl, rfl⟩
theorem vtakes_2 (w : World) : Calls Try.prog 142 #[.int .i64 2] w fun e w' => e = .returned (.string ⟨#[98, 98, 105]⟩) ∧ w' = w := by
  have i0 : ∀ w, (Instr.index 160 (.agg #[.string ⟨#[98, 105]⟩, .string ⟨#[98, 98, 105]⟩, .string ⟨#[98]⟩, .string ⟨#[98, 98]⟩]) (.int .i64 1)).run Try.prog w = .ok (.string ⟨#[98, 98, 105]⟩) w := fun _ => by kernel_rfl
  go_enter Try.func142, Try.ntmps142
  go_wp2
  go_ret
  exact ⟨rfl, rfl⟩
theorem vtakes_3 (w : World) : Calls Try.prog 142 #[.int .i64 3] w fun e w' => e = .returned (.string ⟨#[98]⟩) ∧ w' = w := by
  have i0 : ∀ w, (Instr.index 160 (.agg #[.string ⟨#[98, 105]⟩, .string ⟨#[98, 98, 105]⟩, .string ⟨#[98]⟩, .string ⟨#[98, 98]⟩]) (.int .i64 2)).run Try.prog w = .ok (.string ⟨#[98]⟩) w := fun _ => by kernel_rfl
  go_enter Try.func142, Try.ntmps142
  go_wp2
  go_ret
  exact ⟨rfl, rfl⟩
theorem vtakes_4 (w : World) : Calls Try.prog 142 #[.int .i64 4] w fun e w' => e = .returned (.string ⟨#[98, 98]⟩) ∧ w' = w := by
  have i0 : ∀ w, (Instr.index 160 (.agg #[.string ⟨#[98, 105]⟩, .string ⟨#[98, 98, 105]⟩, .string ⟨#[98]⟩, .string ⟨#[98, 98]⟩]) (.int .i64 3)).run Try.prog w = .ok (.string ⟨#[98, 98]⟩) w := fun _ => by kernel_rfl
  go_enter Try.func142, Try.ntmps142
  go_wp2
  go_ret
  exact ⟨rfl, rfl⟩
set_option maxRecDepth 100000 in
theorem veff_19_1 (w : World) (g n c : Nat) (ad : Addr) (a : Nat) (ha : a < n) (hk : w.cell? ⟨g, 0, none⟩ = some (.slice (some ad) n c)) (hx : w.cell? (ad.add a) = some (.int .i64 1)) :
    Calls Try.prog 130 #[.pointer (some ⟨g, 0, none⟩), .agg #[.int .i64 19, .int .i64 a]] w fun e w' => e = .returned (.tuple #[.string ⟨#[98, 105]⟩, .string ⟨#[98]⟩]) ∧ Below w.heap.size w w' := by
  have hka : ∀ o, (w.alloc o).cell? ⟨g, 0, none⟩ = some (.slice (some ad) n c) := fun o => (World.cell?_alloc_lt w o _ (World.block_lt_of_cell? w _ hk)).trans hk
  have hxa : ∀ o, (w.alloc o).cell? (ad.add a) = some (.int .i64 1) := fun o => (World.cell?_alloc_lt w o _ (World.block_lt_of_cell? w _ hx)).trans hx
  have hi1 : ((0 : Int) ≤ (a : Int)) = True := eq_true (by omega)
  have hi2 : ((a : Int) < (n : Int)) = True := eq_true (by omega)
  go_enter Try.func130, Try.ntmps130
  go_wp2
  go_quiet ((go_at_call 142; exact Calls.quiet_of_same (vtakes_1 _)))
  go_wp2
  go_ret2
  exact ⟨rfl, by repeat (first | exact below_alloc (Below.refl _ _) _ | apply pw_below_drewN)⟩
set_option maxRecDepth 100000 in
theorem veff_19_2 (w : World) (g n c : Nat) (ad : Addr) (a : Nat) (ha : a < n) (hk : w.cell? ⟨g, 0, none⟩ = some (.slice (some ad) n c)) (hx : w.cell? (ad.add a) = some (.int .i64 2)) :
    Calls Try.prog 130 #[.pointer (some ⟨g, 0, none⟩), .agg #[.int .i64 19, .int .i64 a]] w fun e w' => e = .returned (.tuple #[.string ⟨#[98, 98, 105]⟩, .string ⟨#[98]⟩]) ∧ Below w.heap.size w w' := by
  have hka : ∀ o, (w.alloc o).cell? ⟨g, 0, none⟩ = some (.slice (some ad) n c) := fun o => (World.cell?_alloc_lt w o _ (World.block_lt_of_cell? w _ hk)).trans hk
  have hxa : ∀ o, (w.alloc o).cell? (ad.add a) = some (.int .i64 2) := fun o => (World.cell?_alloc_lt w o _ (World.block_lt_of_cell? w _ hx)).trans hx
  have hi1 : ((0 : Int) ≤ (a : Int)) = True := eq_true (by omega)
  have hi2 : ((a : Int) < (n : Int)) = True := eq_true (by omega)
  go_enter Try.func130, Try.ntmps130
  go_wp2
  go_quiet ((go_at_call 142; exact Calls.quiet_of_same (vtakes_2 _)))
  go_wp2
  go_ret2
  exact ⟨rfl, by repeat (first | exact below_alloc (Below.refl _ _) _ | apply pw_below_drewN)⟩
set_option maxRecDepth 100000 in
theorem veff_19_3 (w : World) (g n c : Nat) (ad : Addr) (a : Nat) (ha : a < n) (hk : w.cell? ⟨g, 0, none⟩ = some (.slice (some ad) n c)) (hx : w.cell? (ad.add a) = some (.int .i64 3)) :
    Calls Try.prog 130 #[.pointer (some ⟨g, 0, none⟩), .agg #[.int .i64 19, .int .i64 a]] w fun e w' => e = .returned (.tuple #[.string ⟨#[98]⟩, .string ⟨#[98]⟩]) ∧ Below w.heap.size w w' := by
  have hka : ∀ o, (w.alloc o).cell? ⟨g, 0, none⟩ = some (.slice (some ad) n c) := fun o => (World.cell?_alloc_lt w o _ (World.block_lt_of_cell? w _ hk)).trans hk
  have hxa : ∀ o, (w.alloc o).cell? (ad.add a) = some (.int .i64 3) := fun o => (World.cell?_alloc_lt w o _ (World.block_lt_of_cell? w _ hx)).trans hx
  have hi1 : ((0 : Int) ≤ (a : Int)) = True := eq_true (by omega)
  have hi2 : ((a : Int) < (n : Int)) = True := eq_true (by omega)
  go_enter Try.func130, Try.ntmps130
  go_wp2
  go_quiet ((go_at_call 142; exact Calls.quiet_of_same (vtakes_3 _)))
  go_wp2
  go_ret2
  exact ⟨rfl, by repeat (first | exact below_alloc (Below.refl _ _) _ | apply pw_below_drewN)⟩
set_option maxRecDepth 100000 in
theorem veff_19_4 (w : World) (g n c : Nat) (ad : Addr) (a : Nat) (ha : a < n) (hk : w.cell? ⟨g, 0, none⟩ = some (.slice (some ad) n c)) (hx : w.cell? (ad.add a) = some (.int .i64 4)) :
    Calls Try.prog 130 #[.pointer (some ⟨g, 0, none⟩), .agg #[.int .i64 19, .int .i64 a]] w fun e w' => e = .returned (.tuple #[.string ⟨#[98, 98]⟩, .string ⟨#[98]⟩]) ∧ Below w.heap.size w w' := by
  have hka : ∀ o, (w.alloc o).cell? ⟨g, 0, none⟩ = some (.slice (some ad) n c) := fun o => (World.cell?_alloc_lt w o _ (World.block_lt_of_cell? w _ hk)).trans hk
  have hxa : ∀ o, (w.alloc o).cell? (ad.add a) = some (.int .i64 4) := fun o => (World.cell?_alloc_lt w o _ (World.block_lt_of_cell? w _ hx)).trans hx
  have hi1 : ((0 : Int) ≤ (a : Int)) = True := eq_true (by omega)
  have hi2 : ((a : Int) < (n : Int)) = True := eq_true (by omega)
  go_enter Try.func130, Try.ntmps130
  go_wp2
  go_quiet ((go_at_call 142; exact Calls.quiet_of_same (vtakes_4 _)))
  go_wp2
  go_ret2
  exact ⟨rfl, by repeat (first | exact below_alloc (Below.refl _ _) _ | apply pw_below_drewN)⟩



set_option maxRecDepth 100000 in
set_option maxHeartbeats 1000000 in
theorem vstep_o_lo (w : World) (g nk ck : Nat) (ak : Option Addr) (R at_ op a b : Int) (S P Q : ByteArray) (post : Ending → World → Prop)
    (hg : g < w.heap.size) (h0 : w.cell? ⟨g, 0, none⟩ = some (.slice ak nk ck)) (h1 : w.cell? ⟨g, 1, none⟩ = some (.int .i64 R)) (h2 : w.cell? ⟨g, 2, none⟩ = some (.string S)) (hf : w.frozen? ⟨g, 2, none⟩ = false)
    (f19 : (op == 19) = false) (f20 : (op == 20) = false) (f26 : (op == 26) = false)
    (hS : S.size ≤ 8) (hP : P.size ≤ 3) (hQ : Q.size ≤ 1) (hb0 : 0 ≤ b)
    (hE : Aside0 (∀ W : World, Below w.heap.size w W → Calls Try.prog 130 #[.pointer (some ⟨g, 0, none⟩), .agg #[.int .i64 op, .int .i64 a]] W fun e w' => e = .returned (.tuple #[.string P, .string Q]) ∧ Below W.heap.size W w'))
    (hBa : Aside0 (∀ W : World, Below w.heap.size w W → Calls Try.prog 131 #[.pointer (some ⟨g, 0, none⟩)] W fun e w' => e = .returned (.int .i64 b) ∧ Drawn0 W w'))
    (h13 : Aside0 (∀ W : World, Below w.heap.size w W → post (.returned (.int .i64 13)) W)) (hlb : decide ((S.size : Int) - (P.size : Int) < b) = true) :
    Calls Try.prog 117 #[.pointer (some ⟨g, 0, none⟩), .int .i64 at_, .agg #[.int .i64 op, .int .i64 a]] w post := by
  have HB := Aside0.mk (Below.refl w.heap.size w)
  have HG := Aside0.mk hg
  clear hg
  have h0a : ∀ o, (w.alloc o).cell? ⟨g, 0, none⟩ = some (.slice ak nk ck) := fun o => (World.cell?_alloc_lt w o _ (World.block_lt_of_cell? w _ h0)).trans h0
  have h1a : ∀ o, (w.alloc o).cell? ⟨g, 1, none⟩ = some (.int .i64 R) := fun o => (World.cell?_alloc_lt w o _ (World.block_lt_of_cell? w _ h1)).trans h1
  have h2a : ∀ o, (w.alloc o).cell? ⟨g, 2, none⟩ = some (.string S) := fun o => (World.cell?_alloc_lt w o _ (World.block_lt_of_cell? w _ h2)).trans h2
  go_enter Try.func117, Try.ntmps117
  go_wp2
  go_quiet (fail)
  go_wp2
  go_quiet (fail)
  go_wp2_with (first | (go_at_call 130; (with_reducible refine (hE.out _ (by repeat (first | exact HB.out | apply below_alloc | apply pw_below_drewN))).mono ?_); rintro e w1 ⟨rfl, hb⟩; have hb' : Below (w.alloc (.cells #[.int .i64 op, .int .i64 a] 91)).heap.size (w.alloc (.cells #[.int .i64 op, .int .i64 a] 91)) w1 := v_undrew hb; clear hb; have hz2 : w1.cell? ⟨g, 2, none⟩ = some (.string S) := pw_cell_below hb' (h2a _); have hx0 : w1.cell? ⟨w.heap.size, 0, none⟩ = some (.int .i64 op) := pw_cell_below hb' ((blk_cell (blk_new w _) 0).trans rfl); have hzf : w1.frozen? ⟨g, 2, none⟩ = false := (World.frozen?_of_block (w := w) (w' := w1) (a := ⟨g, 2, none⟩) ((below_then (below_alloc HB.out _) (by simp) hb').block g HG.out)).trans hf; have hxs : ∀ u, (w1.setCell ⟨g, 2, none⟩ u).cell? ⟨w.heap.size, 0, none⟩ = some (.int .i64 op) := fun u => (World.cell?_setCell_other w1 _ _ u (by have := HG.out; intro e; injection e with e1; omega)).trans hx0; have HB1 := Aside0.mk (below_then (below_alloc HB.out _) (by simp) hb'); clear hb') | (go_at_call 131; (with_reducible refine (hBa.out _ (by repeat (first | exact HB1.out | apply below_alloc | apply pw_below_drewN))).mono ?_); rintro e w2 ⟨rfl, ⟨m, rfl⟩⟩))
  exact h13.out _ (by repeat (first | exact HB1.out | apply below_alloc | apply pw_below_drewN))
set_option maxRecDepth 100000 in
set_option maxHeartbeats 1000000 in
theorem vstep_o (w : World) (g nk ck : Nat) (ak : Option Addr) (R at_ op a b : Int) (S P Q : ByteArray) (post : Ending → World → Prop)
    (hg : g < w.heap.size) (h0 : w.cell? ⟨g, 0, none⟩ = some (.slice ak nk ck)) (h1 : w.cell? ⟨g, 1, none⟩ = some (.int .i64 R)) (h2 : w.cell? ⟨g, 2, none⟩ = some (.string S)) (hf : w.frozen? ⟨g, 2, none⟩ = false)
    (f19 : (op == 19) = false) (f20 : (op == 20) = false) (f26 : (op == 26) = false)
    (hS : S.size ≤ 8) (hP : P.size ≤ 3) (hQ : Q.size ≤ 1) (hb0 : 0 ≤ b)
    (hE : Aside0 (∀ W : World, Below w.heap.size w W → Calls Try.prog 130 #[.pointer (some ⟨g, 0, none⟩), .agg #[.int .i64 op, .int .i64 a]] W fun e w' => e = .returned (.tuple #[.string P, .string Q]) ∧ Below W.heap.size W w'))
    (hBa : Aside0 (∀ W : World, Below w.heap.size w W → Calls Try.prog 131 #[.pointer (some ⟨g, 0, none⟩)] W fun e w' => e = .returned (.int .i64 b) ∧ Drawn0 W w'))
    (hN : Aside0 (S.extract (S.size - P.size) S.size = P → S.size - P.size + Q.size ≤ 8 → ∀ W : World, Below w.heap.size w W → Calls Try.prog 132 #[.pointer (some ⟨g, 0, none⟩), .int .i64 at_, .int .i64 op] (W.setCell ⟨g, 2, none⟩ (.string (S.extract 0 (S.size - P.size) ++ Q))) fun e w' => ∃ c : Int, e = .returned (.int .i64 c) ∧ post e w'))
    (h7 : Aside0 (S.extract (S.size - P.size) S.size = P → 8 < S.size - P.size + Q.size → ∀ W : World, Below w.heap.size w W → post (.returned (.int .i64 7)) (W.setCell ⟨g, 2, none⟩ (.string (S.extract 0 (S.size - P.size) ++ Q)))))
    (h12 : Aside0 (S.extract (S.size - P.size) S.size ≠ P → ∀ W : World, Below w.heap.size w W → post (.returned (.int .i64 12)) W))
    (hle : P.size ≤ S.size) (hlb : decide ((S.size : Int) - (P.size : Int) < b) = false) :
    Calls Try.prog 117 #[.pointer (some ⟨g, 0, none⟩), .int .i64 at_, .agg #[.int .i64 op, .int .i64 a]] w post := by
  have HB := Aside0.mk (Below.refl w.heap.size w)
  have HG := Aside0.mk hg
  clear hg
  have h0a : ∀ o, (w.alloc o).cell? ⟨g, 0, none⟩ = some (.slice ak nk ck) := fun o => (World.cell?_alloc_lt w o _ (World.block_lt_of_cell? w _ h0)).trans h0
  have h1a : ∀ o, (w.alloc o).cell? ⟨g, 1, none⟩ = some (.int .i64 R) := fun o => (World.cell?_alloc_lt w o _ (World.block_lt_of_cell? w _ h1)).trans h1
  have h2a : ∀ o, (w.alloc o).cell? ⟨g, 2, none⟩ = some (.string S) := fun o => (World.cell?_alloc_lt w o _ (World.block_lt_of_cell? w _ h2)).trans h2
  go_enter Try.func117, Try.ntmps117
  go_wp2
  go_quiet (fail)
  go_wp2
  go_quiet (fail)
  go_wp2_with (first | (go_at_call 130; (with_reducible refine (hE.out _ (by repeat (first | exact HB.out | apply below_alloc | apply pw_below_drewN))).mono ?_); rintro e w1 ⟨rfl, hb⟩; have hb' : Below (w.alloc (.cells #[.int .i64 op, .int .i64 a] 91)).heap.size (w.alloc (.cells #[.int .i64 op, .int .i64 a] 91)) w1 := v_undrew hb; clear hb; have hz2 : w1.cell? ⟨g, 2, none⟩ = some (.string S) := pw_cell_below hb' (h2a _); have hx0 : w1.cell? ⟨w.heap.size, 0, none⟩ = some (.int .i64 op) := pw_cell_below hb' ((blk_cell (blk_new w _) 0).trans rfl); have hzf : w1.frozen? ⟨g, 2, none⟩ = false := (World.frozen?_of_block (w := w) (w' := w1) (a := ⟨g, 2, none⟩) ((below_then (below_alloc HB.out _) (by simp) hb').block g HG.out)).trans hf; have hxs : ∀ u, (w1.setCell ⟨g, 2, none⟩ u).cell? ⟨w.heap.size, 0, none⟩ = some (.int .i64 op) := fun u => (World.cell?_setCell_other w1 _ _ u (by have := HG.out; intro e; injection e with e1; omega)).trans hx0; have HB1 := Aside0.mk (below_then (below_alloc HB.out _) (by simp) hb'); clear hb') | (go_at_call 131; (with_reducible refine (hBa.out _ (by repeat (first | exact HB1.out | apply below_alloc | apply pw_below_drewN))).mono ?_); rintro e w2 ⟨rfl, ⟨m, rfl⟩⟩) | (go_at_call 132; (with_reducible refine (hN.out (v_eq (by assumption)) (by have hq : (((S.size - P.size : Nat) : Int) + (Q.size : Int) ≤ 8) := (by assumption); omega) _ (by repeat (first | exact HB1.out | apply below_alloc | apply pw_below_drewN))).mono ?_); rintro e w3 ⟨cc, rfl, hpost⟩))
  · exact h12.out (v_ne (by assumption)) _ (by repeat (first | exact HB1.out | apply below_alloc | apply pw_below_drewN))
  · exact h7.out (v_eq (by assumption)) (by have hq : (8 < ((S.size - P.size : Nat) : Int) + (Q.size : Int)) := (by assumption); omega) (w1.drewN m) (by repeat (first | exact HB1.out | apply below_alloc | apply pw_below_drewN))
  · exact hpost
set_option maxRecDepth 100000 in
set_option maxHeartbeats 1000000 in
theorem vstep_19_lo (w : World) (g nk ck : Nat) (ak : Option Addr) (R at_ a b : Int) (S P Q : ByteArray) (post : Ending → World → Prop)
    (hg : g < w.heap.size) (h0 : w.cell? ⟨g, 0, none⟩ = some (.slice ak nk ck)) (h1 : w.cell? ⟨g, 1, none⟩ = some (.int .i64 R)) (h2 : w.cell? ⟨g, 2, none⟩ = some (.string S)) (hf : w.frozen? ⟨g, 2, none⟩ = false)
    (ga : decide (a ≥ (nk : Int)) = false)
    (hS : S.size ≤ 8) (hP : P.size ≤ 3) (hQ : Q.size ≤ 1) (hb0 : 0 ≤ b)
    (hE : Aside0 (∀ W : World, Below w.heap.size w W → Calls Try.prog 130 #[.pointer (some ⟨g, 0, none⟩), .agg #[.int .i64 19, .int .i64 a]] W fun e w' => e = .returned (.tuple #[.string P, .string Q]) ∧ Below W.heap.size W w'))
    (hBa : Aside0 (∀ W : World, Below w.heap.size w W → Calls Try.prog 131 #[.pointer (some ⟨g, 0, none⟩)] W fun e w' => e = .returned (.int .i64 b) ∧ Drawn0 W w'))
    (h13 : Aside0 (∀ W : World, Below w.heap.size w W → post (.returned (.int .i64 13)) W)) (hlb : decide ((S.size : Int) - (P.size : Int) < b) = true) :
    Calls Try.prog 117 #[.pointer (some ⟨g, 0, none⟩), .int .i64 at_, .agg #[.int .i64 19, .int .i64 a]] w post := by
  have HB := Aside0.mk (Below.refl w.heap.size w)
  have HG := Aside0.mk hg
  clear hg
  have h0a : ∀ o, (w.alloc o).cell? ⟨g, 0, none⟩ = some (.slice ak nk ck) := fun o => (World.cell?_alloc_lt w o _ (World.block_lt_of_cell? w _ h0)).trans h0
  have h1a : ∀ o, (w.alloc o).cell? ⟨g, 1, none⟩ = some (.int .i64 R) := fun o => (World.cell?_alloc_lt w o _ (World.block_lt_of_cell? w _ h1)).trans h1
  have h2a : ∀ o, (w.alloc o).cell? ⟨g, 2, none⟩ = some (.string S) := fun o => (World.cell?_alloc_lt w o _ (World.block_lt_of_cell? w _ h2)).trans h2
  go_enter Try.func117, Try.ntmps117
  go_wp2
  go_quiet (fail)
  go_wp2
  go_quiet (fail)
  go_wp2_with (first | (go_at_call 130; (with_reducible refine (hE.out _ (by repeat (first | exact HB.out | apply below_alloc | apply pw_below_drewN))).mono ?_); rintro e w1 ⟨rfl, hb⟩; have hb' : Below (w.alloc (.cells #[.int .i64 19, .int .i64 a] 91)).heap.size (w.alloc (.cells #[.int .i64 19, .int .i64 a] 91)) w1 := v_undrew hb; clear hb; have hz2 : w1.cell? ⟨g, 2, none⟩ = some (.string S) := pw_cell_below hb' (h2a _); have hx0 : w1.cell? ⟨w.heap.size, 0, none⟩ = some (.int .i64 19) := pw_cell_below hb' ((blk_cell (blk_new w _) 0).trans rfl); have hzf : w1.frozen? ⟨g, 2, none⟩ = false := (World.frozen?_of_block (w := w) (w' := w1) (a := ⟨g, 2, none⟩) ((below_then (below_alloc HB.out _) (by simp) hb').block g HG.out)).trans hf; have hxs : ∀ u, (w1.setCell ⟨g, 2, none⟩ u).cell? ⟨w.heap.size, 0, none⟩ = some (.int .i64 19) := fun u => (World.cell?_setCell_other w1 _ _ u (by have := HG.out; intro e; injection e with e1; omega)).trans hx0; have HB1 := Aside0.mk (below_then (below_alloc HB.out _) (by simp) hb'); clear hb') | (go_at_call 131; (with_reducible refine (hBa.out _ (by repeat (first | exact HB1.out | apply below_alloc | apply pw_below_drewN))).mono ?_); rintro e w2 ⟨rfl, ⟨m, rfl⟩⟩))
  exact h13.out _ (by repeat (first | exact HB1.out | apply below_alloc | apply pw_below_drewN))
set_option maxRecDepth 100000 in
set_option maxHeartbeats 1000000 in
theorem vstep_19 (w : World) (g nk ck : Nat) (ak : Option Addr) (R at_ a b : Int) (S P Q : ByteArray) (post : Ending → World → Prop)
    (hg : g < w.heap.size) (h0 : w.cell? ⟨g, 0, none⟩ = some (.slice ak nk ck)) (h1 : w.cell? ⟨g, 1, none⟩ = some (.int .i64 R)) (h2 : w.cell? ⟨g, 2, none⟩ = some (.string S)) (hf : w.frozen? ⟨g, 2, none⟩ = false)
    (ga : decide (a ≥ (nk : Int)) = false)
    (hS : S.size ≤ 8) (hP : P.size ≤ 3) (hQ : Q.size ≤ 1) (hb0 : 0 ≤ b)
    (hE : Aside0 (∀ W : World, Below w.heap.size w W → Calls Try.prog 130 #[.pointer (some ⟨g, 0, none⟩), .agg #[.int .i64 19, .int .i64 a]] W fun e w' => e = .returned (.tuple #[.string P, .string Q]) ∧ Below W.heap.size W w'))
    (hBa : Aside0 (∀ W : World, Below w.heap.size w W → Calls Try.prog 131 #[.pointer (some ⟨g, 0, none⟩)] W fun e w' => e = .returned (.int .i64 b) ∧ Drawn0 W w'))
    (hN : Aside0 (S.extract (S.size - P.size) S.size = P → S.size - P.size + Q.size ≤ 8 → ∀ W : World, Below w.heap.size w W → Calls Try.prog 132 #[.pointer (some ⟨g, 0, none⟩), .int .i64 at_, .int .i64 19] (W.setCell ⟨g, 2, none⟩ (.string (S.extract 0 (S.size - P.size) ++ Q))) fun e w' => ∃ c : Int, e = .returned (.int .i64 c) ∧ post e w'))
    (h7 : Aside0 (S.extract (S.size - P.size) S.size = P → 8 < S.size - P.size + Q.size → ∀ W : World, Below w.heap.size w W → post (.returned (.int .i64 7)) (W.setCell ⟨g, 2, none⟩ (.string (S.extract 0 (S.size - P.size) ++ Q)))))
    (h12 : Aside0 (S.extract (S.size - P.size) S.size ≠ P → ∀ W : World, Below w.heap.size w W → post (.returned (.int .i64 12)) W))
    (hle : P.size ≤ S.size) (hlb : decide ((S.size : Int) - (P.size : Int) < b) = false) :
    Calls Try.prog 117 #[.pointer (some ⟨g, 0, none⟩), .int .i64 at_, .agg #[.int .i64 19, .int .i64 a]] w post := by
  have HB := Aside0.mk (Below.refl w.heap.size w)
  have HG := Aside0.mk hg
  clear hg
  have h0a : ∀ o, (w.alloc o).cell? ⟨g, 0, none⟩ = some (.slice ak nk ck) := fun o => (World.cell?_alloc_lt w o _ (World.block_lt_of_cell? w _ h0)).trans h0
  have h1a : ∀ o, (w.alloc o).cell? ⟨g, 1, none⟩ = some (.int .i64 R) := fun o => (World.cell?_alloc_lt w o _ (World.block_lt_of_cell? w _ h1)).trans h1
  have h2a : ∀ o, (w.alloc o).cell? ⟨g, 2, none⟩ = some (.string S) := fun o => (World.cell?_alloc_lt w o _ (World.block_lt_of_cell? w _ h2)).trans h2
  go_enter Try.func117, Try.ntmps117
  go_wp2
  go_quiet (fail)
  go_wp2
  go_quiet (fail)
  go_wp2_with (first | (go_at_call 130; (with_reducible refine (hE.out _ (by repeat (first | exact HB.out | apply below_alloc | apply pw_below_drewN))).mono ?_); rintro e w1 ⟨rfl, hb⟩; have hb' : Below (w.alloc (.cells #[.int .i64 19, .int .i64 a] 91)).heap.size (w.alloc (.cells #[.int .i64 19, .int .i64 a] 91)) w1 := v_undrew hb; clear hb; have hz2 : w1.cell? ⟨g, 2, none⟩ = some (.string S) := pw_cell_below hb' (h2a _); have hx0 : w1.cell? ⟨w.heap.size, 0, none⟩ = some (.int .i64 19) := pw_cell_below hb' ((blk_cell (blk_new w _) 0).trans rfl); have hzf : w1.frozen? ⟨g, 2, none⟩ = false := (World.frozen?_of_block (w := w) (w' := w1) (a := ⟨g, 2, none⟩) ((below_then (below_alloc HB.out _) (by simp) hb').block g HG.out)).trans hf; have hxs : ∀ u, (w1.setCell ⟨g, 2, none⟩ u).cell? ⟨w.heap.size, 0, none⟩ = some (.int .i64 19) := fun u => (World.cell?_setCell_other w1 _ _ u (by have := HG.out; intro e; injection e with e1; omega)).trans hx0; have HB1 := Aside0.mk (below_then (below_alloc HB.out _) (by simp) hb'); clear hb') | (go_at_call 131; (with_reducible refine (hBa.out _ (by repeat (first | exact HB1.out | apply below_alloc | apply pw_below_drewN))).mono ?_); rintro e w2 ⟨rfl, ⟨m, rfl⟩⟩) | (go_at_call 132; (with_reducible refine (hN.out (v_eq (by assumption)) (by have hq : (((S.size - P.size : Nat) : Int) + (Q.size : Int) ≤ 8) := (by assumption); omega) _ (by repeat (first | exact HB1.out | apply below_alloc | apply pw_below_drewN))).mono ?_); rintro e w3 ⟨cc, rfl, hpost⟩))
  · exact h12.out (v_ne (by assumption)) _ (by repeat (first | exact HB1.out | apply below_alloc | apply pw_below_drewN))
  · exact h7.out (v_eq (by assumption)) (by have hq : (8 < ((S.size - P.size : Nat) : Int) + (Q.size : Int)) := (by assumption); omega) (w1.drewN m) (by repeat (first | exact HB1.out | apply below_alloc | apply pw_below_drewN))
  · exact hpost
set_option maxRecDepth 100000 in
set_option maxHeartbeats 1000000 in
theorem vstep_20_lo (w : World) (g nk ck : Nat) (ak : Option Addr) (R at_ a b : Int) (S P Q : ByteArray) (post : Ending → World → Prop)
    (hg : g < w.heap.size) (h0 : w.cell? ⟨g, 0, none⟩ = some (.slice ak nk ck)) (h1 : w.cell? ⟨g, 1, none⟩ = some (.int .i64 R)) (h2 : w.cell? ⟨g, 2, none⟩ = some (.string S)) (hf : w.frozen? ⟨g, 2, none⟩ = false)
    (ga : decide (a ≥ (nk : Int)) = false)
    (hS : S.size ≤ 8) (hP : P.size ≤ 3) (hQ : Q.size ≤ 1) (hb0 : 0 ≤ b)
    (hE : Aside0 (∀ W : World, Below w.heap.size w W → Calls Try.prog 130 #[.pointer (some ⟨g, 0, none⟩), .agg #[.int .i64 20, .int .i64 a]] W fun e w' => e = .returned (.tuple #[.string P, .string Q]) ∧ Below W.heap.size W w'))
    (hBa : Aside0 (∀ W : World, Below w.heap.size w W → Calls Try.prog 131 #[.pointer (some ⟨g, 0, none⟩)] W fun e w' => e = .returned (.int .i64 b) ∧ Drawn0 W w'))
    (h13 : Aside0 (∀ W : World, Below w.heap.size w W → post (.returned (.int .i64 13)) W)) (hlb : decide ((S.size : Int) - (P.size : Int) < b) = true) :
    Calls Try.prog 117 #[.pointer (some ⟨g, 0, none⟩), .int .i64 at_, .agg #[.int .i64 20, .int .i64 a]] w post := by
  have HB := Aside0.mk (Below.refl w.heap.size w)
  have HG := Aside0.mk hg
  clear hg
  have h0a : ∀ o, (w.alloc o).cell? ⟨g, 0, none⟩ = some (.slice ak nk ck) := fun o => (World.cell?_alloc_lt w o _ (World.block_lt_of_cell? w _ h0)).trans h0
  have h1a : ∀ o, (w.alloc o).cell? ⟨g, 1, none⟩ = some (.int .i64 R) := fun o => (World.cell?_alloc_lt w o _ (World.block_lt_of_cell? w _ h1)).trans h1
  have h2a : ∀ o, (w.alloc o).cell? ⟨g, 2, none⟩ = some (.string S) := fun o => (World.cell?_alloc_lt w o _ (World.block_lt_of_cell? w _ h2)).trans h2
  go_enter Try.func117, Try.ntmps117
  go_wp2
  go_quiet (fail)
  go_wp2
  go_quiet (fail)
  go_wp2_with (first | (go_at_call 130; (with_reducible refine (hE.out _ (by repeat (first | exact HB.out | apply below_alloc | apply pw_below_drewN))).mono ?_); rintro e w1 ⟨rfl, hb⟩; have hb' : Below (w.alloc (.cells #[.int .i64 20, .int .i64 a] 91)).heap.size (w.alloc (.cells #[.int .i64 20, .int .i64 a] 91)) w1 := v_undrew hb; clear hb; have hz2 : w1.cell? ⟨g, 2, none⟩ = some (.string S) := pw_cell_below hb' (h2a _); have hx0 : w1.cell? ⟨w.heap.size, 0, none⟩ = some (.int .i64 20) := pw_cell_below hb' ((blk_cell (blk_new w _) 0).trans rfl); have hzf : w1.frozen? ⟨g, 2, none⟩ = false := (World.frozen?_of_block (w := w) (w' := w1) (a := ⟨g, 2, none⟩) ((below_then (below_alloc HB.out _) (by simp) hb').block g HG.out)).trans hf; have hxs : ∀ u, (w1.setCell ⟨g, 2, none⟩ u).cell? ⟨w.heap.size, 0, none⟩ = some (.int .i64 20) := fun u => (World.cell?_setCell_other w1 _ _ u (by have := HG.out; intro e; injection e with e1; omega)).trans hx0; have HB1 := Aside0.mk (below_then (below_alloc HB.out _) (by simp) hb'); clear hb') | (go_at_call 131; (with_reducible refine (hBa.out _ (by repeat (first | exact HB1.out | apply below_alloc | apply pw_below_drewN))).mono ?_); rintro e w2 ⟨rfl, ⟨m, rfl⟩⟩))
  exact h13.out _ (by repeat (first | exact HB1.out | apply below_alloc | apply pw_below_drewN))
set_option maxRecDepth 100000 in
set_option maxHeartbeats 1000000 in
theorem vstep_20 (w : World) (g nk ck : Nat) (ak : Option Addr) (R at_ a b : Int) (S P Q : ByteArray) (post : Ending → World → Prop)
    (hg : g < w.heap.size) (h0 : w.cell? ⟨g, 0, none⟩ = some (.slice ak nk ck)) (h1 : w.cell? ⟨g, 1, none⟩ = some (.int .i64 R)) (h2 : w.cell? ⟨g, 2, none⟩ = some (.string S)) (hf : w.frozen? ⟨g, 2, none⟩ = false)
    (ga : decide (a ≥ (nk : Int)) = false)
    (hS : S.size ≤ 8) (hP : P.size ≤ 3) (hQ : Q.size ≤ 1) (hb0 : 0 ≤ b)
    (hE : Aside0 (∀ W : World, Below w.heap.size w W → Calls Try.prog 130 #[.pointer (some ⟨g, 0, none⟩), .agg #[.int .i64 20, .int .i64 a]] W fun e w' => e = .returned (.tuple #[.string P, .string Q]) ∧ Below W.heap.size W w'))
    (hBa : Aside0 (∀ W : World, Below w.heap.size w W → Calls Try.prog 131 #[.pointer (some ⟨g, 0, none⟩)] W fun e w' => e = .returned (.int .i64 b) ∧ Drawn0 W w'))
    (hN : Aside0 (S.extract (S.size - P.size) S.size = P → S.size - P.size + Q.size ≤ 8 → ∀ W : World, Below w.heap.size w W → Calls Try.prog 132 #[.pointer (some ⟨g, 0, none⟩), .int .i64 at_, .int .i64 20] (W.setCell ⟨g, 2, none⟩ (.string (S.extract 0 (S.size - P.size) ++ Q))) fun e w' => ∃ c : Int, e = .returned (.int .i64 c) ∧ post e w'))
    (h7 : Aside0 (S.extract (S.size - P.size) S.size = P → 8 < S.size - P.size + Q.size → ∀ W : World, Below w.heap.size w W → post (.returned (.int .i64 7)) (W.setCell ⟨g, 2, none⟩ (.string (S.extract 0 (S.size - P.size) ++ Q)))))
    (h12 : Aside0 (S.extract (S.size - P.size) S.size ≠ P → ∀ W : World, Below w.heap.size w W → post (.returned (.int .i64 12)) W))
    (hle : P.size ≤ S.size) (hlb : decide ((S.size : Int) - (P.size : Int) < b) = false) :
    Calls Try.prog 117 #[.pointer (some ⟨g, 0, none⟩), .int .i64 at_, .agg #[.int .i64 20, .int .i64 a]] w post := by
  have HB := Aside0.mk (Below.refl w.heap.size w)
  have HG := Aside0.mk hg
  clear hg
  have h0a : ∀ o, (w.alloc o).cell? ⟨g, 0, none⟩ = some (.slice ak nk ck) := fun o => (World.cell?_alloc_lt w o _ (World.block_lt_of_cell? w _ h0)).trans h0
  have h1a : ∀ o, (w.alloc o).cell? ⟨g, 1, none⟩ = some (.int .i64 R) := fun o => (World.cell?_alloc_lt w o _ (World.block_lt_of_cell? w _ h1)).trans h1
  have h2a : ∀ o, (w.alloc o).cell? ⟨g, 2, none⟩ = some (.string S) := fun o => (World.cell?_alloc_lt w o _ (World.block_lt_of_cell? w _ h2)).trans h2
  go_enter Try.func117, Try.ntmps117
  go_wp2
  go_quiet (fail)
  go_wp2
  go_quiet (fail)
  go_wp2_with (first | (go_at_call 130; (with_reducible refine (hE.out _ (by repeat (first | exact HB.out | apply below_alloc | apply pw_below_drewN))).mono ?_); rintro e w1 ⟨rfl, hb⟩; have hb' : Below (w.alloc (.cells #[.int .i64 20, .int .i64 a] 91)).heap.size (w.alloc (.cells #[.int .i64 20, .int .i64 a] 91)) w1 := v_undrew hb; clear hb; have hz2 : w1.cell? ⟨g, 2, none⟩ = some (.string S) := pw_cell_below hb' (h2a _); have hx0 : w1.cell? ⟨w.heap.size, 0, none⟩ = some (.int .i64 20) := pw_cell_below hb' ((blk_cell (blk_new w _) 0).trans rfl); have hzf : w1.frozen? ⟨g, 2, none⟩ = false := (World.frozen?_of_block (w := w) (w' := w1) (a := ⟨g, 2, none⟩) ((below_then (below_alloc HB.out _) (by simp) hb').block g HG.out)).trans hf; have hxs : ∀ u, (w1.setCell ⟨g, 2, none⟩ u).cell? ⟨w.heap.size, 0, none⟩ = some (.int .i64 20) := fun u => (World.cell?_setCell_other w1 _ _ u (by have := HG.out; intro e; injection e with e1; omega)).trans hx0; have HB1 := Aside0.mk (below_then (below_alloc HB.out _) (by simp) hb'); clear hb') | (go_at_call 131; (with_reducible refine (hBa.out _ (by repeat (first | exact HB1.out | apply below_alloc | apply pw_below_drewN))).mono ?_); rintro e w2 ⟨rfl, ⟨m, rfl⟩⟩) | (go_at_call 132; (with_reducible refine (hN.out (v_eq (by assumption)) (by have hq : (((S.size - P.size : Nat) : Int) + (Q.size : Int) ≤ 8) := (by assumption); omega) _ (by repeat (first | exact HB1.out | apply below_alloc | apply pw_below_drewN))).mono ?_); rintro e w3 ⟨cc, rfl, hpost⟩))
  · exact h12.out (v_ne (by assumption)) _ (by repeat (first | exact HB1.out | apply below_alloc | apply pw_below_drewN))
  · exact h7.out (v_eq (by assumption)) (by have hq : (8 < ((S.size - P.size : Nat) : Int) + (Q.size : Int)) := (by assumption); omega) (w1.drewN m) (by repeat (first | exact HB1.out | apply below_alloc | apply pw_below_drewN))
  · exact hpost
set_option maxRecDepth 100000 in
set_option maxHeartbeats 1000000 in
theorem vstep_26_lo (w : World) (g nk ck : Nat) (ak : Option Addr) (R at_ a b : Int) (S P Q : ByteArray) (post : Ending → World → Prop)
    (hg : g < w.heap.size) (h0 : w.cell? ⟨g, 0, none⟩ = some (.slice ak nk ck)) (h1 : w.cell? ⟨g, 1, none⟩ = some (.int .i64 R)) (h2 : w.cell? ⟨g, 2, none⟩ = some (.string S)) (hf : w.frozen? ⟨g, 2, none⟩ = false)
    (gr : decide (a ≥ R) = false)
    (hS : S.size ≤ 8) (hP : P.size ≤ 3) (hQ : Q.size ≤ 1) (hb0 : 0 ≤ b)
    (hE : Aside0 (∀ W : World, Below w.heap.size w W → Calls Try.prog 130 #[.pointer (some ⟨g, 0, none⟩), .agg #[.int .i64 26, .int .i64 a]] W fun e w' => e = .returned (.tuple #[.string P, .string Q]) ∧ Below W.heap.size W w'))
    (hBa : Aside0 (∀ W : World, Below w.heap.size w W → Calls Try.prog 131 #[.pointer (some ⟨g, 0, none⟩)] W fun e w' => e = .returned (.int .i64 b) ∧ Drawn0 W w'))
    (h13 : Aside0 (∀ W : World, Below w.heap.size w W → post (.returned (.int .i64 13)) W)) (hlb : decide ((S.size : Int) - (P.size : Int) < b) = true) :
    Calls Try.prog 117 #[.pointer (some ⟨g, 0, none⟩), .int .i64 at_, .agg #[.int .i64 26, .int .i64 a]] w post := by
  have HB := Aside0.mk (Below.refl w.heap.size w)
  have HG := Aside0.mk hg
  clear hg
  have h0a : ∀ o, (w.alloc o).cell? ⟨g, 0, none⟩ = some (.slice ak nk ck) := fun o => (World.cell?_alloc_lt w o _ (World.block_lt_of_cell? w _ h0)).trans h0
  have h1a : ∀ o, (w.alloc o).cell? ⟨g, 1, none⟩ = some (.int .i64 R) := fun o => (World.cell?_alloc_lt w o _ (World.block_lt_of_cell? w _ h1)).trans h1
  have h2a : ∀ o, (w.alloc o).cell? ⟨g, 2, none⟩ = some (.string S) := fun o => (World.cell?_alloc_lt w o _ (World.block_lt_of_cell? w _ h2)).trans h2
  go_enter Try.func117, Try.ntmps117
  go_wp2
  go_quiet (fail)
  go_wp2
  go_quiet (fail)
  go_wp2_with (first | (go_at_call 130; (with_reducible refine (hE.out _ (by repeat (first | exact HB.out | apply below_alloc | apply pw_below_drewN))).mono ?_); rintro e w1 ⟨rfl, hb⟩; have hb' : Below (w.alloc (.cells #[.int .i64 26, .int .i64 a] 91)).heap.size (w.alloc (.cells #[.int .i64 26, .int .i64 a] 91)) w1 := v_undrew hb; clear hb; have hz2 : w1.cell? ⟨g, 2, none⟩ = some (.string S) := pw_cell_below hb' (h2a _); have hx0 : w1.cell? ⟨w.heap.size, 0, none⟩ = some (.int .i64 26) := pw_cell_below hb' ((blk_cell (blk_new w _) 0).trans rfl); have hzf : w1.frozen? ⟨g, 2, none⟩ = false := (World.frozen?_of_block (w := w) (w' := w1) (a := ⟨g, 2, none⟩) ((below_then (below_alloc HB.out _) (by simp) hb').block g HG.out)).trans hf; have hxs : ∀ u, (w1.setCell ⟨g, 2, none⟩ u).cell? ⟨w.heap.size, 0, none⟩ = some (.int .i64 26) := fun u => (World.cell?_setCell_other w1 _ _ u (by have := HG.out; intro e; injection e with e1; omega)).trans hx0; have HB1 := Aside0.mk (below_then (below_alloc HB.out _) (by simp) hb'); clear hb') | (go_at_call 131; (with_reducible refine (hBa.out _ (by repeat (first | exact HB1.out | apply below_alloc | apply pw_below_drewN))).mono ?_); rintro e w2 ⟨rfl, ⟨m, rfl⟩⟩))
  exact h13.out _ (by repeat (first | exact HB1.out | apply below_alloc | apply pw_below_drewN))
set_option maxRecDepth 100000 in
set_option maxHeartbeats 1000000 in
theorem vstep_26 (w : World) (g nk ck : Nat) (ak : Option Addr) (R at_ a b : Int) (S P Q : ByteArray) (post : Ending → World → Prop)
    (hg : g < w.heap.size) (h0 : w.cell? ⟨g, 0, none⟩ = some (.slice ak nk ck)) (h1 : w.cell? ⟨g, 1, none⟩ = some (.int .i64 R)) (h2 : w.cell? ⟨g, 2, none⟩ = some (.string S)) (hf : w.frozen? ⟨g, 2, none⟩ = false)
    (gr : decide (a ≥ R) = false)
    (hS : S.size ≤ 8) (hP : P.size ≤ 3) (hQ : Q.size ≤ 1) (hb0 : 0 ≤ b)
    (hE : Aside0 (∀ W : World, Below w.heap.size w W → Calls Try.prog 130 #[.pointer (some ⟨g, 0, none⟩), .agg #[.int .i64 26, .int .i64 a]] W fun e w' => e = .returned (.tuple #[.string P, .string Q]) ∧ Below W.heap.size W w'))
    (hBa : Aside0 (∀ W : World, Below w.heap.size w W → Calls Try.prog 131 #[.pointer (some ⟨g, 0, none⟩)] W fun e w' => e = .returned (.int .i64 b) ∧ Drawn0 W w'))
    (hN : Aside0 (S.extract (S.size - P.size) S.size = P → S.size - P.size + Q.size ≤ 8 → ∀ W : World, Below w.heap.size w W → Calls Try.prog 132 #[.pointer (some ⟨g, 0, none⟩), .int .i64 at_, .int .i64 26] (W.setCell ⟨g, 2, none⟩ (.string (S.extract 0 (S.size - P.size) ++ Q))) fun e w' => ∃ c : Int, e = .returned (.int .i64 c) ∧ post e w'))
    (h7 : Aside0 (S.extract (S.size - P.size) S.size = P → 8 < S.size - P.size + Q.size → ∀ W : World, Below w.heap.size w W → post (.returned (.int .i64 7)) (W.setCell ⟨g, 2, none⟩ (.string (S.extract 0 (S.size - P.size) ++ Q)))))
    (h12 : Aside0 (S.extract (S.size - P.size) S.size ≠ P → ∀ W : World, Below w.heap.size w W → post (.returned (.int .i64 12)) W))
    (hle : P.size ≤ S.size) (hlb : decide ((S.size : Int) - (P.size : Int) < b) = false) :
    Calls Try.prog 117 #[.pointer (some ⟨g, 0, none⟩), .int .i64 at_, .agg #[.int .i64 26, .int .i64 a]] w post := by
  have HB := Aside0.mk (Below.refl w.heap.size w)
  have HG := Aside0.mk hg
  clear hg
  have h0a : ∀ o, (w.alloc o).cell? ⟨g, 0, none⟩ = some (.slice ak nk ck) := fun o => (World.cell?_alloc_lt w o _ (World.block_lt_of_cell? w _ h0)).trans h0
  have h1a : ∀ o, (w.alloc o).cell? ⟨g, 1, none⟩ = some (.int .i64 R) := fun o => (World.cell?_alloc_lt w o _ (World.block_lt_of_cell? w _ h1)).trans h1
  have h2a : ∀ o, (w.alloc o).cell? ⟨g, 2, none⟩ = some (.string S) := fun o => (World.cell?_alloc_lt w o _ (World.block_lt_of_cell? w _ h2)).trans h2
  go_enter Try.func117, Try.ntmps117
  go_wp2
  go_quiet (fail)
  go_wp2
  go_quiet (fail)
  go_wp2_with (first | (go_at_call 130; (with_reducible refine (hE.out _ (by repeat (first | exact HB.out | apply below_alloc | apply pw_below_drewN))).mono ?_); rintro e w1 ⟨rfl, hb⟩; have hb' : Below (w.alloc (.cells #[.int .i64 26, .int .i64 a] 91)).heap.size (w.alloc (.cells #[.int .i64 26, .int .i64 a] 91)) w1 := v_undrew hb; clear hb; have hz2 : w1.cell? ⟨g, 2, none⟩ = some (.string S) := pw_cell_below hb' (h2a _); have hx0 : w1.cell? ⟨w.heap.size, 0, none⟩ = some (.int .i64 26) := pw_cell_below hb' ((blk_cell (blk_new w _) 0).trans rfl); have hzf : w1.frozen? ⟨g, 2, none⟩ = false := (World.frozen?_of_block (w := w) (w' := w1) (a := ⟨g, 2, none⟩) ((below_then (below_alloc HB.out _) (by simp) hb').block g HG.out)).trans hf; have hxs : ∀ u, (w1.setCell ⟨g, 2, none⟩ u).cell? ⟨w.heap.size, 0, none⟩ = some (.int .i64 26) := fun u => (World.cell?_setCell_other w1 _ _ u (by have := HG.out; intro e; injection e with e1; omega)).trans hx0; have HB1 := Aside0.mk (below_then (below_alloc HB.out _) (by simp) hb'); clear hb') | (go_at_call 131; (with_reducible refine (hBa.out _ (by repeat (first | exact HB1.out | apply below_alloc | apply pw_below_drewN))).mono ?_); rintro e w2 ⟨rfl, ⟨m, rfl⟩⟩) | (go_at_call 132; (with_reducible refine (hN.out (v_eq (by assumption)) (by have hq : (((S.size - P.size : Nat) : Int) + (Q.size : Int) ≤ 8) := (by assumption); omega) _ (by repeat (first | exact HB1.out | apply below_alloc | apply pw_below_drewN))).mono ?_); rintro e w3 ⟨cc, rfl, hpost⟩))
  · exact h12.out (v_ne (by assumption)) _ (by repeat (first | exact HB1.out | apply below_alloc | apply pw_below_drewN))
  · exact h7.out (v_eq (by assumption)) (by have hq : (8 < ((S.size - P.size : Nat) : Int) + (Q.size : Int)) := (by assumption); omega) (w1.drewN m) (by repeat (first | exact HB1.out | apply below_alloc | apply pw_below_drewN))
  · exact hpost

structure VS (w : World) (B g : Nat) (ak : Option Addr) (nk ck : Nat) (R : Int) (S : ByteArray) (v : Value) (O : List VO) : Prop where
  blk : w.heap[g]? = some (.cells #[.slice ak nk ck, .int .i64 R, .string S, v] 136 (0, 0))
  own : w.ownsRow B 139 4 v O.length (vcells O)
  ge : B ≤ g
section
variable {w w' : World} {B g : Nat} {ak : Option Addr} {nk ck : Nat} {R : Int} {S : ByteArray} {v : Value} {O : List VO}
theorem VS.lt (h : VS w B g ak nk ck R S v O) : g < w.heap.size := blk_lt h.blk
theorem VS.c0 (h : VS w B g ak nk ck R S v O) : w.cell? ⟨g, 0, none⟩ = some (.slice ak nk ck) := (blk_cell h.blk 0).trans rfl
theorem VS.c1 (h : VS w B g ak nk ck R S v O) : w.cell? ⟨g, 1, none⟩ = some (.int .i64 R) := (blk_cell h.blk 1).trans rfl
theorem VS.c2 (h : VS w B g ak nk ck R S v O) : w.cell? ⟨g, 2, none⟩ = some (.string S) := (blk_cell h.blk 2).trans rfl
theorem VS.c3 (h : VS w B g ak nk ck R S v O) : w.cell? ⟨g, 3, none⟩ = some v := (blk_cell h.blk 3).trans rfl
theorem VS.fz (h : VS w B g ak nk ck R S v O) (j : Nat) : w.frozen? ⟨g, j, none⟩ = false := blk_frozen h.blk j
theorem VS.ne (h : VS w B g ak nk ck R S v O) : some g ≠ v.ownBlock := own_ne h.own h.blk (by decide)
theorem VS.below (h : VS w B g ak nk ck R S v O) (hb : Below w.heap.size w w') : VS w' B g ak nk ck R S v O := ⟨blk_below h.blk hb, pw_own_below h.own hb, h.ge⟩
theorem VS.drewN (h : VS w B g ak nk ck R S v O) (n : Nat) : VS (w.drewN n) B g ak nk ck R S v O := ⟨h.blk, h.own, h.ge⟩
theorem VS.stack (h : VS w B g ak nk ck R S v O) (S' : ByteArray) : VS (w.setCell ⟨g, 2, none⟩ (.string S')) B g ak nk ck R S' v O := ⟨(blk_set h.blk 2 _).trans rfl, own_setCell h.own h.ne _, h.ge⟩
end
def NPost (w : World) (B g : Nat) (ak : Option Addr) (nk ck : Nat) (R : Int) (S : ByteArray) (v : Value) (r : Int × List VO) (e : Ending) (w' : World) : Prop :=
  e = .returned (.int .i64 r.1) ∧ ∃ v', VS w' B g ak nk ck R S v' r.2 ∧ VF w w' g v v'
theorem vbase {w : World} {B g : Nat} {ak : Option Addr} {nk ck : Nat} {R : Int} {S : ByteArray} {v : Value} {O : List VO} (hs : VS w B g ak nk ck R S v O) (hi : vInv S O) :
    Calls Try.prog 131 #[.pointer (some ⟨g, 0, none⟩)] w fun e w' => e = .returned (.int .i64 (vBase O)) ∧ Drawn0 w w' := by
  cases O with
  | nil =>
    obtain ⟨A, c, rfl⟩ := own_slice hs.own
    exact vbase0 w g A c hs.c3
  | cons o P =>
    obtain ⟨q, c, rfl, hq, _⟩ := hs.own.form (by simp)
    exact vbaseS w g q P.length c o.base (by have := hi.2.1; simp at this; omega) hs.c3 ((hs.own.cellAt (P.length * 4 + 1) (by simp; omega)).trans (vcells_at o P 1 (by decide)))
theorem vnest {w : World} {B g : Nat} {ak : Option Addr} {nk ck : Nat} {R : Int} {S : ByteArray} {v : Value} {O : List VO} (hs : VS w B g ak nk ck R S v O) (hB : B ≤ w.heap.size) (hi : vInv S O) (at_ op : Int) :
    Calls Try.prog 132 #[.pointer (some ⟨g, 0, none⟩), .int .i64 at_, .int .i64 op] w (NPost w B g ak nk ck R S v (vNest at_ op S O)) := by
  have same : ∀ (c : Int), (∀ e w', e = .returned (.int .i64 c) ∧ Drawn0 w w' → NPost w B g ak nk ck R S v (c, O) e w') := by
    rintro c e w' ⟨rfl, m, rfl⟩
    exact ⟨rfl, v, hs.drewN m, (VF.refl w g v).drewN m⟩
  by_cases h1 : op = 21 ∨ op = 24
  · by_cases h4 : O.length = 4
    · rw [show vNest at_ op S O = (17, O) from by unfold vNest; rw [if_pos h1, if_pos h4]]
      obtain ⟨A, c, rfl⟩ := own_slice hs.own
      have c3 := hs.c3
      rw [h4] at c3
      rcases h1 with rfl | rfl
      · exact (vnest_deep21 w g c A at_ c3).mono (same 17)
      · exact (vnest_deep24 w g c A at_ c3).mono (same 17)
    · rw [show vNest at_ op S O = (0, ⟨at_, (S.size : Int), decide (op = 21), false⟩ :: O) from by unfold vNest; rw [if_pos h1, if_neg h4]]
      have hn : O.length < 4 := by have := hi.2.1; omega
      have fin : ∀ (b : Bool) (e : Ending) (w' : World), (e = .returned (.int .i64 0) ∧ ∃ w1 v1, w1.ownsRow B 139 4 v1 (O.length + 1) (vcells O ++ [.int .i64 at_, .int .i64 S.size, .bool b, .bool false]) ∧ w.grownBy w1 v.ownBlock ∧ (v1.ownBlock = v.ownBlock ∨ ∃ b, v1.ownBlock = some b ∧ w.heap.size ≤ b) ∧ w' = w1.setCell ⟨g, 3, none⟩ v1) → NPost w B g ak nk ck R S v (0, ⟨at_, (S.size : Int), b, false⟩ :: O) e w' := by
        rintro b e w' ⟨rfl, w1, v1, ho, hg, ha, rfl⟩
        have hb1 : w1.heap[g]? = some (.cells #[.slice ak nk ck, .int .i64 R, .string S, v] 136 (0, 0)) := blk_grown hs.blk hg hs.ne
        refine ⟨rfl, v1, ⟨(blk_set hb1 3 _).trans rfl, own_setCell ho (own_ne ho hb1 (by decide)) _, hs.ge⟩, ?_⟩
        exact (VF.of_grown hg ha).set 3 v1 v1 rfl
      obtain ⟨A, c, rfl⟩ := own_slice hs.own
      rcases h1 with rfl | rfl
      · exact (vnest_push21 w B g O.length _ at_ S _ hn hi.1 hB hs.c2 hs.c3 (hs.fz 3) (fun e => hs.ne e.symm) ⟨A, c, rfl⟩ hs.own).mono (fin true)
      · exact (vnest_push24 w B g O.length _ at_ S _ hn hi.1 hB hs.c2 hs.c3 (hs.fz 3) (fun e => hs.ne e.symm) ⟨A, c, rfl⟩ hs.own).mono (fin false)
  by_cases h2 : op = 22
  · subst h2
    cases O with
    | nil =>
      obtain ⟨A, c, rfl⟩ := own_slice hs.own
      exact (vnest_none22 w g c A at_ hs.c3).mono (same 14)
    | cons o P =>
      obtain ⟨q, c, rfl, hq, _⟩ := hs.own.form (by simp)
      have hn : P.length ≤ 4 := by have := hi.2.1; simp at this; omega
      have hc := fun (j : Nat) (hj : j < 4) => (hs.own.cellAt (P.length * 4 + j) (by simp; omega)).trans (vcells_at o P j hj)
      by_cases hb : (!o.isIf || o.hasElse) = true
      · rw [show vNest at_ 22 S (o :: P) = (14, o :: P) from by unfold vNest; rw [if_neg (by decide), if_pos rfl]; dsimp only; rw [if_pos hb]]
        exact (vnest_bad22 w g q P.length c at_ o.isIf o.hasElse hn hs.c3 (hc 2 (by decide)) (hc 3 (by decide)) hb).mono (same 14)
      · have hb1 : o.isIf = true := by cases h : o.isIf <;> simp_all
        have hb2 : o.hasElse = false := by cases h : o.hasElse <;> simp_all
        have c2 := hc 2 (by decide)
        have c3 := hc 3 (by decide)
        simp only [VO.cells, hb1, hb2] at c2 c3
        by_cases he : (S.size : Int) = o.base
        · rw [show vNest at_ 22 S (o :: P) = (0, { o with hasElse := true } :: P) from by unfold vNest; rw [if_neg (by decide), if_pos rfl]; dsimp only; rw [if_neg hb, if_pos he]]
          refine (vnest_else w g q P.length c at_ o.base S hn hi.1 hs.c2 hs.c3 (hc 1 (by decide)) c2 c3 (hs.own.frozenAt _) (by simpa using he)).mono ?_
          rintro e w' ⟨rfl, m, rfl⟩
          have hne : g ≠ q := fun e => hs.ne (by rw [e]; rfl)
          obtain ⟨st, sg⟩ := hs.own.stored (P.length * 4 + 3) (.bool true)
          rw [vcells_else] at st
          refine ⟨rfl, _, (⟨blk_far hs.blk hne _, st, hs.ge⟩ : VS _ B g ak nk ck R S _ ({ o with hasElse := true } :: P)).drewN m, VF.drewN ?_ m⟩
          exact VF.of_grown sg (.inl rfl)
        · rw [show vNest at_ 22 S (o :: P) = (13, o :: P) from by unfold vNest; rw [if_neg (by decide), if_pos rfl]; dsimp only; rw [if_neg hb, if_neg he]]
          exact (vnest_st22 w g q P.length c at_ o.base S hn hi.1 hs.c2 hs.c3 (hc 1 (by decide)) c2 c3 (by simpa using he)).mono (same 13)
  by_cases h3 : op = 23
  · subst h3
    cases O with
    | nil =>
      obtain ⟨A, c, rfl⟩ := own_slice hs.own
      exact (vnest_none23 w g c A at_ hs.c3).mono (same 14)
    | cons o P =>
      obtain ⟨q, c, rfl, hq, _⟩ := hs.own.form (by simp)
      have hn : P.length ≤ 4 := by have := hi.2.1; simp at this; omega
      have hc := fun (j : Nat) (hj : j < 4) => (hs.own.cellAt (P.length * 4 + j) (by simp; omega)).trans (vcells_at o P j hj)
      by_cases he : (S.size : Int) = o.base
      · rw [show vNest at_ 23 S (o :: P) = (0, P) from by unfold vNest; rw [if_neg (by decide), if_neg (by decide), if_pos rfl]; dsimp only; rw [if_pos he]]
        refine (vnest_end w g q P.length c at_ o.base S hn hi.1 hs.c2 hs.c3 (hc 1 (by decide)) (hs.fz 3) (own_le hs.own) (by simpa using he)).mono ?_
        rintro e w' ⟨rfl, m, rfl⟩
        have hp : w.ownsRow B 139 4 (.slice (some ⟨q, 0, none⟩) P.length c) P.length (vcells P) := ownsRow_pop (vcells_length P) hs.own
        refine ⟨rfl, _, (⟨(blk_set hs.blk 3 _).trans rfl, own_setCell hp hs.ne _, hs.ge⟩ : VS _ B g ak nk ck R S _ P).drewN m, VF.drewN ?_ m⟩
        exact (VF.refl w g _).set 3 _ _ rfl
      · rw [show vNest at_ 23 S (o :: P) = (13, o :: P) from by unfold vNest; rw [if_neg (by decide), if_neg (by decide), if_pos rfl]; dsimp only; rw [if_neg he]]
        exact (vnest_st23 w g q P.length c at_ o.base S hn hi.1 hs.c2 hs.c3 (hc 1 (by decide)) (by simpa using he)).mono (same 13)
  rw [show vNest at_ op S O = (0, O) from by unfold vNest; rw [if_neg h1, if_neg h2, if_neg h3]]
  exact (vnest_no w g at_ op (by simpa using fun e => h1 (.inl e)) (by simpa using fun e => h1 (.inr e)) (by simpa using h2) (by simpa using h3)).mono (same 0)

end Go.Proofs.Ytjgdfbcjlebniaa.MFnExactVerifyCode

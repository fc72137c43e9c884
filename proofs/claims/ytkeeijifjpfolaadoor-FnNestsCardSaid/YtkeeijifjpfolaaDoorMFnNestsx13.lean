-- Text written by a program of this session (wip/tools: the kit's printer with additions of ours).
import Derived.Test.YtkeeijifjpfolaaDoorMFnNestsx0
import Derived.Test.YtkeeijifjpfolaaDoorMFnNestsx3
import Derived.Test.YtkeeijifjpfolaaDoorMFnNestsx7
import Derived.Test.YtkeeijifjpfolaaDoorMFnNestsx9
import Derived.Test.YtkeeijifjpfolaaDoorMFnNestsx11
import Derived.Test.YtkeeijifjpfolaaDoorMFnNestsx12
namespace Go.Proofs.YtkeeijifjpfolaaDoor.MFnNests
open Go.RowKit Go.Proofs.YtkeeijifjpfolaaDoorW.PrintWords Go.Proofs.YtkeeijifjpfolaaDoorW.PrintLast Go.Proofs.YtkeeijifjpfolaaDoorW.PrintMore
attribute [local go_sem] max2_int min2_int max_two min_two max_three min_three max_four min_four   -- for this text's walks alone
set_option linter.unusedVariables false
set_option linter.unusedSimpArgs false

/-! ### laws_FnNests: function 3 -/
mutual
def laws_FnNests.j0 : Nat → List Int → List Int → Bool → Option (Bool)
  | 0, _, _, _ => none
  | k + 1, x0, x1, x23 => if x23 = true then (some true) else ((spec_KindsDrawn.f k x1).bind fun t377 => ((spec_RightCode.f k x0 t377 1).bind fun t380 => (laws_FnNests.l0 k t380 (([] : List Int)) 0)))
def laws_FnNests.l0 : Nat → List (S30) → List Int → Int → Option (Bool)
  | 0, _, _, _ => none
  | k + 1, x6, x7, x8 => if x8 < (x6.length : Int) then ((impl_MatchOf.f k x6 x8).bind fun bt387 => ((spec_MatchOf.f k x6 x8).bind fun bt390 => (if bt387.2.2 = bt390.2.2 then (if bt387.1 = bt390.1 then (laws_FnNests.j2 k x6 x7 x8 bt387.1 bt387.2.1 bt387.2.2 (bt387.2.1 != bt390.2.1)) else (laws_FnNests.j2 k x6 x7 x8 bt387.1 bt387.2.1 bt387.2.2 true)) else (laws_FnNests.j2 k x6 x7 x8 bt387.1 bt387.2.1 bt387.2.2 true)))) else (if (x7.length : Int) ≥ 0 then ((impl_OpName.f 23).bind fun t386 => (some (t386.toList == ([101, 110, 100] : List UInt8)))) else (some false))
def laws_FnNests.j2 : Nat → List (S30) → List Int → Int → Int → Int → Int → Bool → Option (Bool)
  | 0, _, _, _, _, _, _, _ => none
  | k + 1, x6, x7, x8, x9, x10, x11, x62 => if x62 = true then (some false) else (if x11 = 0 then (laws_FnNests.l1 k x6 x7 x8 x9 x10 0) else (laws_FnNests.l0 k x6 x7 (wrap64 (x8 + 1))))
def laws_FnNests.l1 : Nat → List (S30) → List Int → Int → Int → Int → Int → Option (Bool)
  | 0, _, _, _, _, _, _ => none
  | k + 1, x6, x7, x8, x9, x10, x15 => if x15 < (x7.length : Int) then (if 0 ≤ x15 then (if (rd x7 x15) = x10 then (some false) else (if (rd x7 x15) > x8 then (if x10 > (rd x7 x15) then (some false) else (laws_FnNests.l1 k x6 x7 x8 x9 x10 (wrap64 (x15 + 1)))) else (laws_FnNests.l1 k x6 x7 x8 x9 x10 (wrap64 (x15 + 1))))) else (none)) else (if x7.length < 17592186044416 then ((some (x7 ++ [x10] : List Int)).bind fun y396 => (if 0 ≤ x10 then (if x10 < (x6.length : Int) then (if ((rd_T30 x6 x10).f0) = 23 then (if x9 > 0 then (if 0 ≤ x9 then (if x9 < (x6.length : Int) then (if ((rd_T30 x6 x9).f0) = 22 then (if x9 < x8 then (some false) else (if x9 > x10 then (some false) else (laws_FnNests.l0 k x6 y396 (wrap64 (x8 + 1))))) else (some false)) else (none)) else (none)) else (laws_FnNests.l0 k x6 y396 (wrap64 (x8 + 1)))) else (some false)) else (none)) else (none))) else (none))
end
def laws_FnNests.f (k : Nat) (l0 : List Int) (l1 : List Int) : Option (Bool) := if (l0.length : Int) > 1048576 then (laws_FnNests.j0 k l0 l1 true) else (laws_FnNests.j0 k l0 l1 (decide ((l1.length : Int) > 1048576)))
theorem laws_FnNests.mono_l : ∀ k, (∀ y0 y1 y2, LeO (laws_FnNests.j0 k y0 y1 y2) (laws_FnNests.j0 (k + 1) y0 y1 y2)) ∧ (∀ y0 y1 y2, LeO (laws_FnNests.l0 k y0 y1 y2) (laws_FnNests.l0 (k + 1) y0 y1 y2)) ∧ (∀ y0 y1 y2 y3 y4 y5 y6, LeO (laws_FnNests.j2 k y0 y1 y2 y3 y4 y5 y6) (laws_FnNests.j2 (k + 1) y0 y1 y2 y3 y4 y5 y6)) ∧ (∀ y0 y1 y2 y3 y4 y5, LeO (laws_FnNests.l1 k y0 y1 y2 y3 y4 y5) (laws_FnNests.l1 (k + 1) y0 y1 y2 y3 y4 y5))
  | 0 => ⟨fun _ _ _ r h => by simp [laws_FnNests.j0] at h, fun _ _ _ r h => by simp [laws_FnNests.l0] at h, fun _ _ _ _ _ _ _ r h => by simp [laws_FnNests.j2] at h, fun _ _ _ _ _ _ r h => by simp [laws_FnNests.l1] at h⟩
  | k + 1 => by
    obtain ⟨ih0, ih1, ih2, ih3⟩ := laws_FnNests.mono_l k
    refine ⟨?_, ?_, ?_, ?_⟩
    · intro y0 y1 y2
      unfold laws_FnNests.j0
      repeat' first
      | (with_reducible exact ih0 _ _ _)
      | (with_reducible exact ih1 _ _ _)
      | (with_reducible exact ih2 _ _ _ _ _ _ _)
      | (with_reducible exact ih3 _ _ _ _ _ _)
      | (with_reducible exact impl_MatchOf.mono _ _ _)
      | (with_reducible exact spec_KindsDrawn.mono _ _)
      | (with_reducible exact spec_MatchOf.mono _ _ _)
      | (with_reducible exact spec_RightCode.mono _ _ _ _)
      | (with_reducible exact LeO.refl _)
      | (with_reducible exact LeO.none _)
      | (with_reducible refine LeO.ite ?_ ?_)
      | (with_reducible refine LeO.bind ?_ (fun _ => ?_))
      | exact ih0 _ _ _
      | exact ih1 _ _ _
      | exact ih2 _ _ _ _ _ _ _
      | exact ih3 _ _ _ _ _ _
      | exact impl_MatchOf.mono _ _ _
      | exact spec_KindsDrawn.mono _ _
      | exact spec_MatchOf.mono _ _ _
      | exact spec_RightCode.mono _ _ _ _
      | exact LeO.none _
      | refine LeO.ite ?_ ?_
      | refine LeO.bind ?_ (fun _ => ?_)
    · intro y0 y1 y2
      unfold laws_FnNests.l0
      repeat' first
      | (with_reducible exact ih0 _ _ _)
      | (with_reducible exact ih1 _ _ _)
      | (with_reducible exact ih2 _ _ _ _ _ _ _)
      | (with_reducible exact ih3 _ _ _ _ _ _)
      | (with_reducible exact impl_MatchOf.mono _ _ _)
      | (with_reducible exact spec_KindsDrawn.mono _ _)
      | (with_reducible exact spec_MatchOf.mono _ _ _)
      | (with_reducible exact spec_RightCode.mono _ _ _ _)
      | (with_reducible exact LeO.refl _)
      | (with_reducible exact LeO.none _)
      | (with_reducible refine LeO.ite ?_ ?_)
      | (with_reducible refine LeO.bind ?_ (fun _ => ?_))
      | exact ih0 _ _ _
      | exact ih1 _ _ _
      | exact ih2 _ _ _ _ _ _ _
      | exact ih3 _ _ _ _ _ _
      | exact impl_MatchOf.mono _ _ _
      | exact spec_KindsDrawn.mono _ _
      | exact spec_MatchOf.mono _ _ _
      | exact spec_RightCode.mono _ _ _ _
      | exact LeO.none _
      | refine LeO.ite ?_ ?_
      | refine LeO.bind ?_ (fun _ => ?_)
    · intro y0 y1 y2 y3 y4 y5 y6
      unfold laws_FnNests.j2
      repeat' first
      | (with_reducible exact ih0 _ _ _)
      | (with_reducible exact ih1 _ _ _)
      | (with_reducible exact ih2 _ _ _ _ _ _ _)
      | (with_reducible exact ih3 _ _ _ _ _ _)
      | (with_reducible exact impl_MatchOf.mono _ _ _)
      | (with_reducible exact spec_KindsDrawn.mono _ _)
      | (with_reducible exact spec_MatchOf.mono _ _ _)
      | (with_reducible exact spec_RightCode.mono _ _ _ _)
      | (with_reducible exact LeO.refl _)
      | (with_reducible exact LeO.none _)
      | (with_reducible refine LeO.ite ?_ ?_)
      | (with_reducible refine LeO.bind ?_ (fun _ => ?_))
      | exact ih0 _ _ _
      | exact ih1 _ _ _
      | exact ih2 _ _ _ _ _ _ _
      | exact ih3 _ _ _ _ _ _
      | exact impl_MatchOf.mono _ _ _
      | exact spec_KindsDrawn.mono _ _
      | exact spec_MatchOf.mono _ _ _
      | exact spec_RightCode.mono _ _ _ _
      | exact LeO.none _
      | refine LeO.ite ?_ ?_
      | refine LeO.bind ?_ (fun _ => ?_)
    · intro y0 y1 y2 y3 y4 y5
      unfold laws_FnNests.l1
      repeat' first
      | (with_reducible exact ih0 _ _ _)
      | (with_reducible exact ih1 _ _ _)
      | (with_reducible exact ih2 _ _ _ _ _ _ _)
      | (with_reducible exact ih3 _ _ _ _ _ _)
      | (with_reducible exact impl_MatchOf.mono _ _ _)
      | (with_reducible exact spec_KindsDrawn.mono _ _)
      | (with_reducible exact spec_MatchOf.mono _ _ _)
      | (with_reducible exact spec_RightCode.mono _ _ _ _)
      | (with_reducible exact LeO.refl _)
      | (with_reducible exact LeO.none _)
      | (with_reducible refine LeO.ite ?_ ?_)
      | (with_reducible refine LeO.bind ?_ (fun _ => ?_))
      | exact ih0 _ _ _
      | exact ih1 _ _ _
      | exact ih2 _ _ _ _ _ _ _
      | exact ih3 _ _ _ _ _ _
      | exact impl_MatchOf.mono _ _ _
      | exact spec_KindsDrawn.mono _ _
      | exact spec_MatchOf.mono _ _ _
      | exact spec_RightCode.mono _ _ _ _
      | exact LeO.none _
      | refine LeO.ite ?_ ?_
      | refine LeO.bind ?_ (fun _ => ?_)
theorem laws_FnNests.mono : ∀ a0 a1 k, LeO (laws_FnNests.f k a0 a1) (laws_FnNests.f (k + 1) a0 a1) := by
  intro a0 a1 k
  obtain ⟨ih0, ih1, ih2, ih3⟩ := laws_FnNests.mono_l k
  unfold laws_FnNests.f
  repeat' first
      | (with_reducible exact ih0 _ _ _)
      | (with_reducible exact ih1 _ _ _)
      | (with_reducible exact ih2 _ _ _ _ _ _ _)
      | (with_reducible exact ih3 _ _ _ _ _ _)
      | (with_reducible exact impl_MatchOf.mono _ _ _)
      | (with_reducible exact spec_KindsDrawn.mono _ _)
      | (with_reducible exact spec_MatchOf.mono _ _ _)
      | (with_reducible exact spec_RightCode.mono _ _ _ _)
      | (with_reducible exact LeO.refl _)
      | (with_reducible exact LeO.none _)
      | (with_reducible refine LeO.ite ?_ ?_)
      | (with_reducible refine LeO.bind ?_ (fun _ => ?_))
      | exact ih0 _ _ _
      | exact ih1 _ _ _
      | exact ih2 _ _ _ _ _ _ _
      | exact ih3 _ _ _ _ _ _
      | exact impl_MatchOf.mono _ _ _
      | exact spec_KindsDrawn.mono _ _
      | exact spec_MatchOf.mono _ _ _
      | exact spec_RightCode.mono _ _ _ _
      | exact LeO.none _
      | refine LeO.ite ?_ ?_
      | refine LeO.bind ?_ (fun _ => ?_)
set_option maxHeartbeats 8000000 in
set_option maxRecDepth 100000 in
theorem laws_FnNests.calls (k : Nat) (A0 : Option Addr) (c0 : Nat) (l0 : List Int) (A1 : Option Addr) (c1 : Nat) (l1 : List Int) (r : Bool) (w : World) (hr0 : Kd.C (Kd.int .u8) w A0 l0.length l0) (hc0 : l0.length ≤ c0) (hr1 : Kd.C (Kd.int .u8) w A1 l1.length l1) (hc1 : l1.length ≤ c1) (h : laws_FnNests.f k l0 l1 = some r) (hlaw0 : r = true) (hTAB : Lib.TabIs Tryd.prog w "strings.asciiSpace" .u8 Lib.asciiSpaceTab) :
    Calls Tryd.prog 3 #[.slice A0 l0.length c0, .slice A1 l1.length c1] w fun e w' => e = .returned (.bool r) ∧ Below w.heap.size w w' := by
  have HR0 := Aside0.mk hr0
  have HC0 := Aside0.mk hc0
  clear hr0 hc0
  have HR1 := Aside0.mk hr1
  have HC1 := Aside0.mk hc1
  clear hr1 hc1
  have HB := Aside0.mk (Below.refl w.heap.size w)
  have HTAB := Aside0.mk hTAB
  clear hTAB
  have hlaw_ := Aside0.mk hlaw0
  clear hlaw0
  have H : (if (l0.length : Int) > 1048576 then (laws_FnNests.j0 k l0 l1 true) else (laws_FnNests.j0 k l0 l1 (decide ((l1.length : Int) > 1048576)))) = some r := h
  clear h
  have HC3 := Aside0.mk H
  clear H
  go_enter Tryd.func3, Tryd.ntmps3
  go_upto_region 1 with (fail)
  go_cut [23] (fun v23 wc => ∃ (kq : Nat) (x23_2 : Bool), v23 = .bool x23_2 ∧ Aside0 (laws_FnNests.j0 kq l0 l1 x23_2 = some r) ∧ Aside0 (kq ≤ k) ∧ Aside0 (Below w.heap.size w wc))
  case first =>
    have H := HC3.out
    clear HC3
    by_cases c4 : (l0.length : Int) > 1048576
    · rw [if_pos c4] at H
      have c4b0 : decide (1048576 < (l0.length : Int)) = true := decide_eq_true c4
      have c4b1 : decide (1048576 < l0.length) = true := decide_eq_true (by omega)
      clear c4
      (first | rw [c4b0] | (simp only [i64_w, i32_w]; rw [c4b0]) | skip)
      have H' := Aside0.mk H
      clear H
      go_wp2
      (first | go_meet | (refine Met.intro ?_; go_step; (repeat apply Exists.intro); refine ⟨?rel, ?eqm_⟩; (case eqm_ => (simp only [c4b1, c4b0]; rfl))))
      case rel => exact ⟨_, (true), (by first | rfl | (simp; done) | (simp [*]; done)), H', ⟨by first | omega | exact Nat.le_refl _⟩, ⟨by repeat (first | (with_reducible first | exact HB.out | apply below_alloc | apply pw_below_drewN | apply below_drew1) | exact HB.out)⟩⟩
    · rw [if_neg c4] at H
      have c4b0 : decide (1048576 < (l0.length : Int)) = false := decide_eq_false c4
      have c4b1 : decide (1048576 < l0.length) = false := decide_eq_false (by omega)
      clear c4
      (first | rw [c4b0] | (simp only [i64_w, i32_w]; rw [c4b0]) | skip)
      have H' := Aside0.mk H
      clear H
      go_wp2
      (first | go_meet | (refine Met.intro ?_; go_step; (repeat apply Exists.intro); refine ⟨?rel, ?eqm_⟩; (case eqm_ => (simp only [c4b1, c4b0]; rfl))))
      case rel => exact ⟨_, (decide ((l1.length : Int) > 1048576)), (by first | rfl | (simp; done) | (simp [*]; done)), H', ⟨by first | omega | exact Nat.le_refl _⟩, ⟨by repeat (first | (with_reducible first | exact HB.out | apply below_alloc | apply pw_below_drewN | apply below_drew1) | exact HB.out)⟩⟩
  case rest =>
    clear HC3
    try clear c1
    try clear p2
    try clear c3
    try clear c4
    try clear c4b0
    try clear c4b1
    obtain ⟨kq, x23_2, rfl, HA, HJ2, HB⟩ := hcut
    cases kq with
    | zero => exact absurd HA.out (by simp [laws_FnNests.j0])
    | succ kj2 =>
      have H := HA.out
      clear HA
      simp only [laws_FnNests.j0] at H
      by_cases c5 : x23_2 = true
      · subst c5
        have H1 : (some true) = some r := by rw [if_pos rfl] at H; exact H
        clear H
        have H := H1
        clear H1
        obtain rfl := Option.some.inj H
        go_wp2
        go_ret
        exact ⟨by first | rfl | (simp [errW_none, errW_some] <;> rfl) | (simp [*, errW_none, errW_some] <;> rfl), by repeat (first | (with_reducible first | exact HB.out | apply below_alloc | apply pw_below_drewN | apply below_drew1) | exact HB.out)⟩
      · replace c5 := Bool.eq_false_iff.mpr c5
        subst c5
        have H1 : ((spec_KindsDrawn.f kj2 l1).bind fun t377 => ((spec_RightCode.f kj2 l0 t377 1).bind fun t380 => (laws_FnNests.l0 kj2 t380 (([] : List Int)) 0))) = some r := by rw [if_neg (show ¬ (false = true) by decide)] at H; exact H
        clear H
        have H := H1
        clear H1
        replace H := Option.bind_eq_some_iff.mp H
        obtain ⟨t377, A60, H⟩ := H
        replace H : ((spec_RightCode.f kj2 l0 t377 1).bind fun t380 => (laws_FnNests.l0 kj2 t380 (([] : List Int)) 0)) = some r := H
        have A6 := Aside0.mk A60
        clear A60
        replace H := Option.bind_eq_some_iff.mp H
        obtain ⟨t380, A70, H⟩ := H
        replace H : (laws_FnNests.l0 kj2 t380 (([] : List Int)) 0) = some r := H
        have A7 := Aside0.mk A70
        clear A70
        obtain ⟨y383, hy383⟩ : ∃ y_ : List Int, y_ = (([] : List Int)) := ⟨_, rfl⟩
        replace H : (laws_FnNests.l0 kj2 t380 y383 0) = some r := by first | (rw [hy383]; with_reducible exact H) | (have H2_ := (Option.bind_some _ _).symm.trans H; rw [hy383]; with_reducible exact H2_) | (have H2_ := (Option.bind_some _ _).symm.trans H; with_reducible exact H2_) | with_reducible exact H | (rw [hy383]; exact H) | exact H
        have Ny383 := Aside0.mk hy383
        clear hy383
        have H' := Aside0.mk H
        clear H
        go_wp2_with (first | ((with_reducible refine gate_callee (f := 4) rfl ?_); refine goesL_ (some 25) rfl rfl Tryd.func4 (by kernel_rfl) rfl #[.slice A1 l1.length c1] rfl (by (try simp only [List.map_toArray, List.map_cons, List.map_nil]); first | done | rfl | (simp only [List.length_drop, List.length_take]; rfl)) ?_; (with_reducible refine (spec_KindsDrawn.calls kj2 _ _ l1 t377 _ ?side1 ?side2 A6.out).mono ?_); (case side1 => repeat (first | exact (Kd.C_below HR1.out HB.out) | (with_reducible refine Kd.C_alloc ?_ _) | (with_reducible refine Kd.C_drewN ?_ _) | (with_reducible refine Kd.C_drew ?_))); (case side2 => exact HC1.out); rintro e w8 ⟨v378, rfl, ho0, hb⟩; refine ⟨_, rfl, ?_⟩; have n0_ := Aside0.mk (Kd.R_lower ho0 (below_size (by repeat (first | (with_reducible first | exact HB.out | apply below_alloc | apply pw_below_drewN | apply below_drew1) | exact HB.out)))); have n1_ := Aside0.mk (below_step (by repeat (first | (with_reducible first | exact HB.out | apply below_alloc | apply pw_below_drewN | apply below_drew1) | exact HB.out)) hb); clear HB; have HO379 := n0_; have HB := n1_; clear n0_ n1_; (try clear hb); (try clear hb2); (try clear hk); (try clear hi); (try clear ho0); obtain ⟨Ao9, co9, eo9⟩ := Kd.R_slice HO379.out; subst eo9) | ((with_reducible refine gate_callee (f := 5) rfl ?_); refine goesL_ (some 28) rfl rfl Tryd.func5 (by kernel_rfl) rfl #[.slice A0 l0.length c0, .slice Ao9 t377.length co9, .int .i64 1] rfl (by (try simp only [List.map_toArray, List.map_cons, List.map_nil]); first | done | rfl | (simp only [List.length_drop, List.length_take]; rfl)) ?_; (with_reducible refine (spec_RightCode.calls kj2 _ _ l0 _ _ t377 1 t380 _ ?side1 ?side2 ?side3 ?side4 A7.out).mono ?_); (case side1 => repeat (first | exact (Kd.C_below HR0.out HB.out) | (with_reducible refine Kd.C_alloc ?_ _) | (with_reducible refine Kd.C_drewN ?_ _) | (with_reducible refine Kd.C_drew ?_))); (case side2 => exact HC0.out); (case side3 => repeat (first | exact (Kd.R_reads' HO379.out).2.2 | (with_reducible refine Kd.C_alloc ?_ _) | (with_reducible refine Kd.C_drewN ?_ _) | (with_reducible refine Kd.C_drew ?_))); (case side4 => exact (Kd.R_reads' HO379.out).2.1); rintro e w10 ⟨v381, rfl, ho0, hb⟩; refine ⟨_, rfl, ?_⟩; have n0_ := Aside0.mk (Kd.R_below (by (with_reducible repeat (first | apply Kd.R_alloc | apply Kd.R_drewN | apply Kd.R_drew)); exact HO379.out) hb); have n1_ := Aside0.mk (Kd.R_lower ho0 (below_size (by repeat (first | (with_reducible first | exact HB.out | apply below_alloc | apply pw_below_drewN | apply below_drew1) | exact HB.out)))); have n2_ := Aside0.mk (below_step (by repeat (first | (with_reducible first | exact HB.out | apply below_alloc | apply pw_below_drewN | apply below_drew1) | exact HB.out)) hb); clear HO379; clear HB; have HO379 := n0_; have HO382 := n1_; have HB := n2_; clear n0_ n1_ n2_; (try clear hb); (try clear hb2); (try clear hk); (try clear hi); (try clear ho0)) | ((with_reducible refine gate_dst (N := 29) rfl ?_); (try (refine gate_guard (by rfl) ?_; dsimp only)); refine Kd.R_lit (Kd.int .i64) _ 3 ?hg (N := 29) ?hd (xs := ([] : List Int)) (inner := []) (ok := fun _ => True) (okp := fun _ => True) ?hr ?hp (fun _ hk => hk) trivial (Below.refl _ _) (Nat.le_refl _) (by simp) ?_; (case hd => rfl); (case hg => rfl); (case hr => first | (go_simp; done) | (go_simp; rfl)); (case hp => exact (Reps.none _ _)); intro v384 w11 ho12 hb hg_ hnew_; clear hg_ hnew_; (first | rw [← Ny383.out] at ho12 | (simp only [Int.reduceToNat] at ho12; rw [← Ny383.out] at ho12)); have n0_ := Aside0.mk (Kd.R_elder' (by (with_reducible repeat (first | apply Kd.R_alloc | apply Kd.R_drewN | apply Kd.R_drew)); exact HO379.out) (Kd.R_base ho12) hb); have n1_ := Aside0.mk (Kd.R_below (by (with_reducible repeat (first | apply Kd.R_alloc | apply Kd.R_drewN | apply Kd.R_drew)); exact HO382.out) hb); have n2_ := Aside0.mk (Kd.R_lower (Kd.R_new' ho12 (Kd.R_lt (by (with_reducible repeat (first | apply Kd.R_alloc | apply Kd.R_drewN | apply Kd.R_drew)); exact HO379.out))) (below_size (by repeat (first | (with_reducible first | exact HB.out | apply below_alloc | apply pw_below_drewN | apply below_drew1) | exact HB.out)))); have n3_ := Aside0.mk (below_step (by repeat (first | (with_reducible first | exact HB.out | apply below_alloc | apply pw_below_drewN | apply below_drew1) | exact HB.out)) hb); clear HO379; clear HO382; clear HB; have HO379 := n0_; have HO382 := n1_; have HO385 := n2_; have HB := n3_; clear n0_ n1_ n2_ n3_; clear hb ho12))
        go_loopg [7, 8] kj2 (fun kq v7 v8 w' => ∃ (x7_2 : List Int) (x8_2 : Int), v8 = .int .i64 x8_2 ∧ Aside0 (laws_FnNests.l0 kq t380 x7_2 x8_2 = some r) ∧ Aside0 (kq ≤ kj2) ∧ Aside0 (Kd.R k30 30 w' w.heap.size (fun _ => True) v381 t380) ∧ Aside0 (Kd.R (Kd.int .i64) 3 w' w.heap.size (fun _ => True) v7 x7_2) ∧ Aside0 (Below w.heap.size w w'))
        case atStart => exact ⟨(y383), (0), (by first | rfl | (simp; done) | (simp [*]; done)), H', ⟨Nat.le_refl _⟩, ⟨by (with_reducible repeat (first | apply Kd.R_alloc | apply Kd.R_drewN | apply Kd.R_drew)); exact HO382.out⟩, ⟨by (with_reducible repeat (first | apply Kd.R_alloc | apply Kd.R_drewN | apply Kd.R_drew)); exact Kd.R_mono HO385.out (fun _ hk => trivial)⟩, ⟨by repeat (first | (with_reducible first | exact HB.out | apply below_alloc | apply pw_below_drewN | apply below_drew1) | exact HB.out)⟩⟩
        case round =>
          clear H'
          try clear c1
          try clear p2
          try clear c3
          try clear c4
          try clear c4b0
          try clear c4b1
          try clear c5
          try clear p2
          obtain ⟨x7_2, x8_2, rfl, HA, HK2, HO_6, HO_7, HB⟩ := hrel
          cases gk with
          | zero => exact absurd HA.out (by simp [laws_FnNests.l0])
          | succ k2 =>
            have H := HA.out
            clear HA
            simp only [laws_FnNests.l0] at H
            by_cases c13 : x8_2 < (t380.length : Int)
            · rw [if_pos c13] at H
              have c13b0 : decide (x8_2 < (t380.length : Int)) = true := decide_eq_true c13
              clear c13
              replace H := Option.bind_eq_some_iff.mp H
              obtain ⟨⟨t387, t388, t389⟩, A140, H⟩ := H
              replace H : ((spec_MatchOf.f k2 t380 x8_2).bind fun bt390 => (if t389 = bt390.2.2 then (if t387 = bt390.1 then (laws_FnNests.j2 k2 t380 x7_2 x8_2 t387 t388 t389 (t388 != bt390.2.1)) else (laws_FnNests.j2 k2 t380 x7_2 x8_2 t387 t388 t389 true)) else (laws_FnNests.j2 k2 t380 x7_2 x8_2 t387 t388 t389 true))) = some r := H
              have A14 := Aside0.mk A140
              clear A140
              replace H := Option.bind_eq_some_iff.mp H
              obtain ⟨⟨t390, t391, t392⟩, A150, H⟩ := H
              replace H : (if t389 = t392 then (if t387 = t390 then (laws_FnNests.j2 k2 t380 x7_2 x8_2 t387 t388 t389 (t388 != t391)) else (laws_FnNests.j2 k2 t380 x7_2 x8_2 t387 t388 t389 true)) else (laws_FnNests.j2 k2 t380 x7_2 x8_2 t387 t388 t389 true)) = some r := H
              have A15 := Aside0.mk A150
              clear A150
              have HC16 := Aside0.mk H
              clear H
              obtain ⟨Ao17, co17, eo17⟩ := Kd.R_slice HO_6.out
              subst eo17
              go_upto_region 11 with (first | ((with_reducible refine gate_callee (f := 6) rfl ?_); refine goesL_ (some 39) rfl rfl Tryd.func6 (by kernel_rfl) rfl #[.slice Ao17 t380.length co17, .int .i64 x8_2] rfl (by (try simp only [List.map_toArray, List.map_cons, List.map_nil]); first | done | rfl | (simp only [List.length_drop, List.length_take]; rfl)) ?_; (with_reducible refine (impl_MatchOf.calls k2 _ _ t380 x8_2 t387 t388 t389 _ ?side1 ?side2 A14.out).mono ?_); (case side1 => repeat (first | exact (Kd.R_reads' HO_6.out).2.2 | (with_reducible refine Kd.C_alloc ?_ _) | (with_reducible refine Kd.C_drewN ?_ _) | (with_reducible refine Kd.C_drew ?_))); (case side2 => exact (Kd.R_reads' HO_6.out).2.1); rintro e w18 ⟨rfl, hb⟩; refine ⟨_, rfl, ?_⟩; have n0_ := Aside0.mk (Kd.R_below (by (with_reducible repeat (first | apply Kd.R_alloc | apply Kd.R_drewN | apply Kd.R_drew)); exact HO_6.out) hb); have n1_ := Aside0.mk (Kd.R_below (by (with_reducible repeat (first | apply Kd.R_alloc | apply Kd.R_drewN | apply Kd.R_drew)); exact HO_7.out) hb); have n2_ := Aside0.mk (below_step (by repeat (first | (with_reducible first | exact HB.out | apply below_alloc | apply pw_below_drewN | apply below_drew1) | exact HB.out)) hb); clear HO_6; clear HO_7; clear HB; have HO_6 := n0_; have HO_7 := n1_; have HB := n2_; clear n0_ n1_ n2_; (try clear hb); (try clear hb2); (try clear hk); (try clear hi)) | ((with_reducible refine gate_callee (f := 7) rfl ?_); refine goesL_ (some 46) rfl rfl Tryd.func7 (by kernel_rfl) rfl #[.slice Ao17 t380.length co17, .int .i64 x8_2] rfl (by (try simp only [List.map_toArray, List.map_cons, List.map_nil]); first | done | rfl | (simp only [List.length_drop, List.length_take]; rfl)) ?_; (with_reducible refine (spec_MatchOf.calls k2 _ _ t380 x8_2 t390 t391 t392 _ ?side1 ?side2 A15.out).mono ?_); (case side1 => repeat (first | exact (Kd.R_reads' HO_6.out).2.2 | (with_reducible refine Kd.C_alloc ?_ _) | (with_reducible refine Kd.C_drewN ?_ _) | (with_reducible refine Kd.C_drew ?_))); (case side2 => exact (Kd.R_reads' HO_6.out).2.1); rintro e w' ⟨rfl, ⟨nd, rfl⟩⟩; refine ⟨_, rfl, ?_⟩))
              (try simp only [Act.put, List.setIfInBounds_toArray, List.set_cons_zero, List.set_cons_succ])
              go_cut [62] (fun v62 wc => ∃ (kq : Nat) (x62_15 : Bool), v62 = .bool x62_15 ∧ Aside0 (laws_FnNests.j2 kq t380 x7_2 x8_2 t387 t388 t389 x62_15 = some r) ∧ Aside0 (kq ≤ k2) ∧ Aside0 (Kd.R k30 30 wc w.heap.size (fun _ => True) (.slice Ao17 t380.length co17) t380) ∧ Aside0 (Kd.R (Kd.int .i64) 3 wc w.heap.size (fun _ => True) u7 x7_2) ∧ Aside0 (Below w.heap.size w wc))
              case first =>
                have H := HC16.out
                clear HC16
                by_cases c19 : t389 = t392
                · rw [if_pos c19] at H
                  have c19b0 : (t389 == t392) = true := beq_iff_eq.mpr c19
                  have c19b1 : (t389 != t392) = false := bne_eq_false_iff_eq.mpr c19
                  clear c19
                  (first | rw [c19b0] | (simp only [i64_w, i32_w]; rw [c19b0]) | skip)
                  by_cases c20 : t387 = t390
                  · rw [if_pos c20] at H
                    have c20b0 : (t387 == t390) = true := beq_iff_eq.mpr c20
                    have c20b1 : (t387 != t390) = false := bne_eq_false_iff_eq.mpr c20
                    clear c20
                    have H' := Aside0.mk H
                    clear H
                    go_wp2
                    (first | go_meet | (refine Met.intro ?_; go_step; (repeat apply Exists.intro); refine ⟨?rel, ?eqm_⟩; (case eqm_ => (simp only [c20b1, c20b0, c19b1, c19b0]; rfl))))
                    case rel => exact ⟨_, ((t388 != t391)), (by first | rfl | (simp; done) | (simp [*]; done)), H', ⟨by have := HJ2.out; have := HK2.out; first | omega | exact Nat.le_refl _⟩, ⟨by (with_reducible repeat (first | apply Kd.R_alloc | apply Kd.R_drewN | apply Kd.R_drew)); exact HO_6.out⟩, ⟨by (with_reducible repeat (first | apply Kd.R_alloc | apply Kd.R_drewN | apply Kd.R_drew)); exact HO_7.out⟩, ⟨by repeat (first | (with_reducible first | exact HB.out | apply below_alloc | apply pw_below_drewN | apply below_drew1) | exact HB.out)⟩⟩
                  · rw [if_neg c20] at H
                    have c20b0 : (t387 == t390) = false := beq_eq_false_iff_ne.mpr c20
                    have c20b1 : (t387 != t390) = true := bne_iff_ne.mpr c20
                    have H' := Aside0.mk H
                    clear H
                    go_wp2
                    (first | go_meet | (refine Met.intro ?_; go_step; (repeat apply Exists.intro); refine ⟨?rel, ?eqm_⟩; (case eqm_ => (simp only [c20b1, c20b0, c19b1, c19b0]; rfl))))
                    case rel => exact ⟨_, (true), (by first | rfl | (simp; done) | (simp [*]; done)), H', ⟨by have := HJ2.out; have := HK2.out; first | omega | exact Nat.le_refl _⟩, ⟨by (with_reducible repeat (first | apply Kd.R_alloc | apply Kd.R_drewN | apply Kd.R_drew)); exact HO_6.out⟩, ⟨by (with_reducible repeat (first | apply Kd.R_alloc | apply Kd.R_drewN | apply Kd.R_drew)); exact HO_7.out⟩, ⟨by repeat (first | (with_reducible first | exact HB.out | apply below_alloc | apply pw_below_drewN | apply below_drew1) | exact HB.out)⟩⟩
                · rw [if_neg c19] at H
                  have c19b0 : (t389 == t392) = false := beq_eq_false_iff_ne.mpr c19
                  have c19b1 : (t389 != t392) = true := bne_iff_ne.mpr c19
                  (first | rw [c19b0] | (simp only [i64_w, i32_w]; rw [c19b0]) | skip)
                  have H' := Aside0.mk H
                  clear H
                  go_wp2
                  (first | go_meet | (refine Met.intro ?_; go_step; (repeat apply Exists.intro); refine ⟨?rel, ?eqm_⟩; (case eqm_ => (simp only [c19b1, c19b0]; rfl))))
                  case rel => exact ⟨_, (true), (by first | rfl | (simp; done) | (simp [*]; done)), H', ⟨by have := HJ2.out; have := HK2.out; first | omega | exact Nat.le_refl _⟩, ⟨by (with_reducible repeat (first | apply Kd.R_alloc | apply Kd.R_drewN | apply Kd.R_drew)); exact HO_6.out⟩, ⟨by (with_reducible repeat (first | apply Kd.R_alloc | apply Kd.R_drewN | apply Kd.R_drew)); exact HO_7.out⟩, ⟨by repeat (first | (with_reducible first | exact HB.out | apply below_alloc | apply pw_below_drewN | apply below_drew1) | exact HB.out)⟩⟩
              case rest =>
                clear HC16
                try clear c1
                try clear c2
                try clear p2
                try clear c3
                try clear c4
                try clear c4b0
                try clear c4b1
                try clear c5
                try clear c6
                try clear c7
                try clear c13
                try clear c13b0
                try clear c19
                try clear c19b0
                try clear c19b1
                try clear c20
                try clear c20b0
                try clear c20b1
                try clear p2
                obtain ⟨kq, x62_15, rfl, HA, HJ15, HO_6, HO_7, HB⟩ := hcut
                cases kq with
                | zero => exact absurd HA.out (by simp [laws_FnNests.j2])
                | succ kj15 =>
                  have H := HA.out
                  clear HA
                  simp only [laws_FnNests.j2] at H
                  by_cases c21 : x62_15 = true
                  · subst c21
                    have H1 : (some false) = some r := by rw [if_pos rfl] at H; exact H
                    clear H
                    have H := H1
                    clear H1
                    exact absurd ((Option.some.inj H).trans hlaw_.out) (by decide)
                  · replace c21 := Bool.eq_false_iff.mpr c21
                    subst c21
                    have H1 : (if t389 = 0 then (laws_FnNests.l1 kj15 t380 x7_2 x8_2 t387 t388 0) else (laws_FnNests.l0 kj15 t380 x7_2 (wrap64 (x8_2 + 1)))) = some r := by rw [if_neg (show ¬ (false = true) by decide)] at H; exact H
                    clear H
                    have H := H1
                    clear H1
                    by_cases c22 : t389 = 0
                    · rw [if_pos c22] at H
                      have c22b0 : (t389 == 0) = true := beq_iff_eq.mpr c22
                      have c22b1 : (t389 != 0) = false := bne_eq_false_iff_eq.mpr c22
                      clear c22
                      have H' := Aside0.mk H
                      clear H
                      go_wp2
                      go_loopg [15] kj15 (fun kq v15 w' => ∃ (x15_4 : Int), v15 = .int .i64 x15_4 ∧ Aside0 (laws_FnNests.l1 kq t380 x7_2 x8_2 t387 t388 x15_4 = some r) ∧ Aside0 (kq ≤ kj15) ∧ Aside0 (Kd.R k30 30 w' w.heap.size (fun _ => True) (.slice Ao17 t380.length co17) t380) ∧ Aside0 (Kd.R (Kd.int .i64) 3 w' w.heap.size (fun _ => True) u7 x7_2) ∧ Aside0 (Below w.heap.size w w'))
                      case atStart => exact ⟨(0), (by first | rfl | (simp; done) | (simp [*]; done)), H', ⟨Nat.le_refl _⟩, ⟨by (with_reducible repeat (first | apply Kd.R_alloc | apply Kd.R_drewN | apply Kd.R_drew)); exact HO_6.out⟩, ⟨by (with_reducible repeat (first | apply Kd.R_alloc | apply Kd.R_drewN | apply Kd.R_drew)); exact HO_7.out⟩, ⟨by repeat (first | (with_reducible first | exact HB.out | apply below_alloc | apply pw_below_drewN | apply below_drew1) | exact HB.out)⟩⟩
                      case round =>
                        clear H'
                        try clear c1
                        try clear c2
                        try clear p2
                        try clear c3
                        try clear c4
                        try clear c4b0
                        try clear c4b1
                        try clear c5
                        try clear c6
                        try clear p6
                        try clear c7
                        try clear c13
                        try clear c13b0
                        try clear c19
                        try clear c19b0
                        try clear c19b1
                        try clear c20
                        try clear c20b0
                        try clear c20b1
                        try clear c21
                        try clear c22
                        try clear c22b0
                        try clear c22b1
                        try clear p2
                        obtain ⟨x15_4, rfl, HA, HK4, HO_6, HO_7, HB⟩ := hrel
                        cases gk with
                        | zero => exact absurd HA.out (by simp [laws_FnNests.l1])
                        | succ k4 =>
                          have H := HA.out
                          clear HA
                          simp only [laws_FnNests.l1] at H
                          by_cases c23 : x15_4 < (x7_2.length : Int)
                          · rw [if_pos c23] at H
                            have c23b0 : decide (x15_4 < (x7_2.length : Int)) = true := decide_eq_true c23
                            clear c23
                            by_cases c24 : 0 ≤ x15_4
                            · rw [if_pos c24] at H
                              have c24b0 : decide (0 ≤ x15_4) = true := decide_eq_true c24
                              clear c24
                              by_cases c25 : (rd x7_2 x15_4) = t388
                              · rw [if_pos c25] at H
                                have c25b0 : ((rd x7_2 x15_4) == t388) = true := beq_iff_eq.mpr c25
                                have c25b1 : ((rd x7_2 x15_4) != t388) = false := bne_eq_false_iff_eq.mpr c25
                                clear c25
                                exact absurd ((Option.some.inj H).trans hlaw_.out) (by decide)
                              · rw [if_neg c25] at H
                                have c25b0 : ((rd x7_2 x15_4) == t388) = false := beq_eq_false_iff_ne.mpr c25
                                have c25b1 : ((rd x7_2 x15_4) != t388) = true := bne_iff_ne.mpr c25
                                by_cases c26 : (rd x7_2 x15_4) > x8_2
                                · rw [if_pos c26] at H
                                  have c26b0 : decide (x8_2 < (rd x7_2 x15_4)) = true := decide_eq_true c26
                                  clear c26
                                  by_cases c27 : t388 > (rd x7_2 x15_4)
                                  · rw [if_pos c27] at H
                                    have c27b0 : decide ((rd x7_2 x15_4) < t388) = true := decide_eq_true c27
                                    clear c27
                                    exact absurd ((Option.some.inj H).trans hlaw_.out) (by decide)
                                  · rw [if_neg c27] at H
                                    have c27b0 : decide ((rd x7_2 x15_4) < t388) = false := decide_eq_false c27
                                    clear c27
                                    have H' := Aside0.mk H
                                    clear H
                                    obtain ⟨Ao28, co28, eo28⟩ := Kd.R_slice HO_7.out
                                    subst eo28
                                    have p393 : 0 ≤ (x15_4 : Int) := of_decide_eq_true (by first | (with_reducible assumption) | assumption)
                                    have q393 : x15_4 < (x7_2.length : Int) := of_decide_eq_true (by first | (with_reducible assumption) | assumption)
                                    obtain ⟨ad393, e393, hx393_0⟩ := Kd.at_int (Kd.R_reads' HO_7.out).2.2 x15_4 p393 q393
                                    cases e393
                                    replace p393 := eq_true p393
                                    replace q393 := eq_true q393
                                    have p394 : 0 ≤ (x15_4 : Int) := of_decide_eq_true (by first | (with_reducible assumption) | assumption)
                                    have q394 : x15_4 < (x7_2.length : Int) := of_decide_eq_true (by first | (with_reducible assumption) | assumption)
                                    obtain ⟨ad394, e394, hx394_0⟩ := Kd.at_int (Kd.R_reads' HO_7.out).2.2 x15_4 p394 q394
                                    obtain rfl : ad393 = ad394 := (by injection e394)
                                    replace p394 := eq_true p394
                                    replace q394 := eq_true q394
                                    have p395 : 0 ≤ (x15_4 : Int) := of_decide_eq_true (by first | (with_reducible assumption) | assumption)
                                    have q395 : x15_4 < (x7_2.length : Int) := of_decide_eq_true (by first | (with_reducible assumption) | assumption)
                                    obtain ⟨ad395, e395, hx395_0⟩ := Kd.at_int (Kd.R_reads' HO_7.out).2.2 x15_4 p395 q395
                                    obtain rfl : ad393 = ad395 := (by injection e395)
                                    replace p395 := eq_true p395
                                    replace q395 := eq_true q395
                                    go_wp2
                                    go_roundg k4
                                    case measure => have := HJ2.out; have := HK2.out; have := HJ15.out; have := HK4.out; omega
                                    case rel => exact ⟨(wrap64 (x15_4 + 1)), (by first | rfl | (simp; done) | (simp [*]; done)), H', ⟨by have := HJ2.out; have := HK2.out; have := HJ15.out; have := HK4.out; omega⟩, ⟨by (with_reducible repeat (first | apply Kd.R_alloc | apply Kd.R_drewN | apply Kd.R_drew)); exact HO_6.out⟩, ⟨by (with_reducible repeat (first | apply Kd.R_alloc | apply Kd.R_drewN | apply Kd.R_drew)); exact HO_7.out⟩, ⟨by repeat (first | (with_reducible first | exact HB.out | apply below_alloc | apply pw_below_drewN | apply below_drew1) | exact HB.out)⟩⟩
                                · rw [if_neg c26] at H
                                  have c26b0 : decide (x8_2 < (rd x7_2 x15_4)) = false := decide_eq_false c26
                                  clear c26
                                  have H' := Aside0.mk H
                                  clear H
                                  obtain ⟨Ao29, co29, eo29⟩ := Kd.R_slice HO_7.out
                                  subst eo29
                                  have p393 : 0 ≤ (x15_4 : Int) := of_decide_eq_true (by first | (with_reducible assumption) | assumption)
                                  have q393 : x15_4 < (x7_2.length : Int) := of_decide_eq_true (by first | (with_reducible assumption) | assumption)
                                  obtain ⟨ad393, e393, hx393_0⟩ := Kd.at_int (Kd.R_reads' HO_7.out).2.2 x15_4 p393 q393
                                  cases e393
                                  replace p393 := eq_true p393
                                  replace q393 := eq_true q393
                                  have p394 : 0 ≤ (x15_4 : Int) := of_decide_eq_true (by first | (with_reducible assumption) | assumption)
                                  have q394 : x15_4 < (x7_2.length : Int) := of_decide_eq_true (by first | (with_reducible assumption) | assumption)
                                  obtain ⟨ad394, e394, hx394_0⟩ := Kd.at_int (Kd.R_reads' HO_7.out).2.2 x15_4 p394 q394
                                  obtain rfl : ad393 = ad394 := (by injection e394)
                                  replace p394 := eq_true p394
                                  replace q394 := eq_true q394
                                  go_wp2
                                  go_roundg k4
                                  case measure => have := HJ2.out; have := HK2.out; have := HJ15.out; have := HK4.out; omega
                                  case rel => exact ⟨(wrap64 (x15_4 + 1)), (by first | rfl | (simp; done) | (simp [*]; done)), H', ⟨by have := HJ2.out; have := HK2.out; have := HJ15.out; have := HK4.out; omega⟩, ⟨by (with_reducible repeat (first | apply Kd.R_alloc | apply Kd.R_drewN | apply Kd.R_drew)); exact HO_6.out⟩, ⟨by (with_reducible repeat (first | apply Kd.R_alloc | apply Kd.R_drewN | apply Kd.R_drew)); exact HO_7.out⟩, ⟨by repeat (first | (with_reducible first | exact HB.out | apply below_alloc | apply pw_below_drewN | apply below_drew1) | exact HB.out)⟩⟩
                            · rw [if_neg c24] at H
                              exact absurd H (by simp)
                          · rw [if_neg c23] at H
                            have c23b0 : decide (x15_4 < (x7_2.length : Int)) = false := decide_eq_false c23
                            clear c23
                            by_cases c30 : x7_2.length < 17592186044416
                            · rw [if_pos c30] at H
                              have LMc30 := Aside0.mk c30
                              clear c30
                              obtain ⟨y396, hy396⟩ : ∃ y_ : List Int, y_ = (x7_2 ++ [t388]) := ⟨_, rfl⟩
                              replace H : (if 0 ≤ t388 then (if t388 < (t380.length : Int) then (if ((rd_T30 t380 t388).f0) = 23 then (if t387 > 0 then (if 0 ≤ t387 then (if t387 < (t380.length : Int) then (if ((rd_T30 t380 t387).f0) = 22 then (if t387 < x8_2 then (some false) else (if t387 > t388 then (some false) else (laws_FnNests.l0 k4 t380 y396 (wrap64 (x8_2 + 1))))) else (some false)) else (none)) else (none)) else (laws_FnNests.l0 k4 t380 y396 (wrap64 (x8_2 + 1)))) else (some false)) else (none)) else (none)) = some r := by first | (rw [hy396]; with_reducible exact H) | (have H2_ := (Option.bind_some _ _).symm.trans H; rw [hy396]; with_reducible exact H2_) | (have H2_ := (Option.bind_some _ _).symm.trans H; with_reducible exact H2_) | with_reducible exact H | (rw [hy396]; exact H) | exact H
                              have Ny396 := Aside0.mk hy396
                              clear hy396
                              by_cases c31 : 0 ≤ t388
                              · rw [if_pos c31] at H
                                have c31b0 : decide (0 ≤ t388) = true := decide_eq_true c31
                                clear c31
                                by_cases c32 : t388 < (t380.length : Int)
                                · rw [if_pos c32] at H
                                  have c32b0 : decide (t388 < (t380.length : Int)) = true := decide_eq_true c32
                                  clear c32
                                  by_cases c33 : ((rd_T30 t380 t388).f0) = 23
                                  · rw [if_pos c33] at H
                                    have c33b0 : (((rd_T30 t380 t388).f0) == 23) = true := beq_iff_eq.mpr c33
                                    have c33b1 : (((rd_T30 t380 t388).f0) != 23) = false := bne_eq_false_iff_eq.mpr c33
                                    clear c33
                                    by_cases c34 : t387 > 0
                                    · rw [if_pos c34] at H
                                      have c34b0 : decide (0 < t387) = true := decide_eq_true c34
                                      clear c34
                                      by_cases c35 : 0 ≤ t387
                                      · rw [if_pos c35] at H
                                        have c35b0 : decide (0 ≤ t387) = true := decide_eq_true c35
                                        clear c35
                                        by_cases c36 : t387 < (t380.length : Int)
                                        · rw [if_pos c36] at H
                                          have c36b0 : decide (t387 < (t380.length : Int)) = true := decide_eq_true c36
                                          clear c36
                                          by_cases c37 : ((rd_T30 t380 t387).f0) = 22
                                          · rw [if_pos c37] at H
                                            have c37b0 : (((rd_T30 t380 t387).f0) == 22) = true := beq_iff_eq.mpr c37
                                            have c37b1 : (((rd_T30 t380 t387).f0) != 22) = false := bne_eq_false_iff_eq.mpr c37
                                            clear c37
                                            by_cases c38 : t387 < x8_2
                                            · rw [if_pos c38] at H
                                              have c38b0 : decide (t387 < x8_2) = true := decide_eq_true c38
                                              clear c38
                                              exact absurd ((Option.some.inj H).trans hlaw_.out) (by decide)
                                            · rw [if_neg c38] at H
                                              have c38b0 : decide (t387 < x8_2) = false := decide_eq_false c38
                                              clear c38
                                              by_cases c39 : t387 > t388
                                              · rw [if_pos c39] at H
                                                have c39b0 : decide (t388 < t387) = true := decide_eq_true c39
                                                clear c39
                                                exact absurd ((Option.some.inj H).trans hlaw_.out) (by decide)
                                              · rw [if_neg c39] at H
                                                have c39b0 : decide (t388 < t387) = false := decide_eq_false c39
                                                clear c39
                                                have H' := Aside0.mk H
                                                clear H
                                                obtain ⟨Ao40, co40, eo40⟩ := Kd.R_slice HO_7.out
                                                subst eo40
                                                go_wp2_with (first | ((with_reducible refine gate_builtin (b := .append) (xs := #[.tmp 93, .tmp 95]) rfl ?_); (try (refine gate_guard (by rfl) ?_; dsimp only)); at_builtin; refine Kd.R_append (Kd.int .i64) (w0 := w) w.heap.size rfl (.tmp 93) (.tmp 95) 23 3 (.int .i64 0) 8 rfl Tryd.underlying23 info3 rfl (by decide) (by omega) (.slice Ao40 x7_2.length co40) x7_2 t388 [.int .i64 t388] (fun _ => True) (fun _ => False) rfl rfl ?aP (fun _ hk => hk.elim) ?aF ?aO ?aB ?aS ?aL ?_; (case aP => exact rfl); (case aB => exact (by repeat (first | (with_reducible first | exact HB.out | apply below_alloc | apply pw_below_drewN | apply below_drew1) | exact HB.out))); (case aF => exact (fun _ _ => trivial)); (case aO => exact (by (with_reducible repeat (first | apply Kd.R_alloc | apply Kd.R_drewN | apply Kd.R_drew)); exact HO_7.out)); (case aS => exact (below_size (by repeat (first | (with_reducible first | exact HB.out | apply below_alloc | apply pw_below_drewN | apply below_drew1) | exact HB.out)))); (case aL => have := LMc30.out; omega); intro v397 w41 ho hb hg hat; rw [← Ny396.out] at ho; have n0_ := Aside0.mk (Kd.R_over' (by (with_reducible repeat (first | apply Kd.R_alloc | apply Kd.R_drewN | apply Kd.R_drew)); exact HO_6.out) (Kd.R_typed (by (with_reducible repeat (first | apply Kd.R_alloc | apply Kd.R_drewN | apply Kd.R_drew)); exact HO_7.out)) (by decide) hg); have n1_ := Aside0.mk (hb); have n2_ := Aside0.mk (ho); clear HO_6; clear HB; clear HO_7; have HO_6 := n0_; have HB := n1_; have HO398 := n2_; clear n0_ n1_ n2_; clear ho hb hg hat; have p399 : 0 ≤ (t388 : Int) := of_decide_eq_true (by first | (with_reducible assumption) | assumption); have q399 : t388 < (t380.length : Int) := of_decide_eq_true (by first | (with_reducible assumption) | assumption); obtain ⟨ad399, e399, hx399_0, hx399_1⟩ := at_T30 (Kd.R_reads' HO_6.out).2.2 t388 p399 q399; cases e399; replace p399 := eq_true p399; replace q399 := eq_true q399; have p400 : 0 ≤ (t387 : Int) := of_decide_eq_true (by first | (with_reducible assumption) | assumption); have q400 : t387 < (t380.length : Int) := of_decide_eq_true (by first | (with_reducible assumption) | assumption); obtain ⟨ad400, e400, hx400_0, hx400_1⟩ := at_T30 (Kd.R_reads' HO_6.out).2.2 t387 p400 q400; obtain rfl : ad399 = ad400 := (by injection e400); replace p400 := eq_true p400; replace q400 := eq_true q400))
                                                go_roundg k4
                                                case measure => have := HJ2.out; have := HK2.out; have := HJ15.out; have := HK4.out; omega
                                                case rel => exact ⟨(y396), (wrap64 (x8_2 + 1)), (by first | rfl | (simp; done) | (simp [*]; done)), H', ⟨by have := HJ2.out; have := HK2.out; have := HJ15.out; have := HK4.out; omega⟩, ⟨by (with_reducible repeat (first | apply Kd.R_alloc | apply Kd.R_drewN | apply Kd.R_drew)); exact HO_6.out⟩, ⟨by (with_reducible repeat (first | apply Kd.R_alloc | apply Kd.R_drewN | apply Kd.R_drew)); exact HO398.out⟩, ⟨by repeat (first | (with_reducible first | exact HB.out | apply below_alloc | apply pw_below_drewN | apply below_drew1) | exact HB.out)⟩⟩
                                          · rw [if_neg c37] at H
                                            have c37b0 : (((rd_T30 t380 t387).f0) == 22) = false := beq_eq_false_iff_ne.mpr c37
                                            have c37b1 : (((rd_T30 t380 t387).f0) != 22) = true := bne_iff_ne.mpr c37
                                            exact absurd ((Option.some.inj H).trans hlaw_.out) (by decide)
                                        · rw [if_neg c36] at H
                                          exact absurd H (by simp)
                                      · rw [if_neg c35] at H
                                        exact absurd H (by simp)
                                    · rw [if_neg c34] at H
                                      have c34b0 : decide (0 < t387) = false := decide_eq_false c34
                                      clear c34
                                      have H' := Aside0.mk H
                                      clear H
                                      obtain ⟨Ao42, co42, eo42⟩ := Kd.R_slice HO_7.out
                                      subst eo42
                                      go_wp2_with (first | ((with_reducible refine gate_builtin (b := .append) (xs := #[.tmp 93, .tmp 95]) rfl ?_); (try (refine gate_guard (by rfl) ?_; dsimp only)); at_builtin; refine Kd.R_append (Kd.int .i64) (w0 := w) w.heap.size rfl (.tmp 93) (.tmp 95) 23 3 (.int .i64 0) 8 rfl Tryd.underlying23 info3 rfl (by decide) (by omega) (.slice Ao42 x7_2.length co42) x7_2 t388 [.int .i64 t388] (fun _ => True) (fun _ => False) rfl rfl ?aP (fun _ hk => hk.elim) ?aF ?aO ?aB ?aS ?aL ?_; (case aP => exact rfl); (case aB => exact (by repeat (first | (with_reducible first | exact HB.out | apply below_alloc | apply pw_below_drewN | apply below_drew1) | exact HB.out))); (case aF => exact (fun _ _ => trivial)); (case aO => exact (by (with_reducible repeat (first | apply Kd.R_alloc | apply Kd.R_drewN | apply Kd.R_drew)); exact HO_7.out)); (case aS => exact (below_size (by repeat (first | (with_reducible first | exact HB.out | apply below_alloc | apply pw_below_drewN | apply below_drew1) | exact HB.out)))); (case aL => have := LMc30.out; omega); intro v397 w43 ho hb hg hat; rw [← Ny396.out] at ho; have n0_ := Aside0.mk (Kd.R_over' (by (with_reducible repeat (first | apply Kd.R_alloc | apply Kd.R_drewN | apply Kd.R_drew)); exact HO_6.out) (Kd.R_typed (by (with_reducible repeat (first | apply Kd.R_alloc | apply Kd.R_drewN | apply Kd.R_drew)); exact HO_7.out)) (by decide) hg); have n1_ := Aside0.mk (hb); have n2_ := Aside0.mk (ho); clear HO_6; clear HB; clear HO_7; have HO_6 := n0_; have HB := n1_; have HO398 := n2_; clear n0_ n1_ n2_; clear ho hb hg hat; have p399 : 0 ≤ (t388 : Int) := of_decide_eq_true (by first | (with_reducible assumption) | assumption); have q399 : t388 < (t380.length : Int) := of_decide_eq_true (by first | (with_reducible assumption) | assumption); obtain ⟨ad399, e399, hx399_0, hx399_1⟩ := at_T30 (Kd.R_reads' HO_6.out).2.2 t388 p399 q399; cases e399; replace p399 := eq_true p399; replace q399 := eq_true q399))
                                      go_roundg k4
                                      case measure => have := HJ2.out; have := HK2.out; have := HJ15.out; have := HK4.out; omega
                                      case rel => exact ⟨(y396), (wrap64 (x8_2 + 1)), (by first | rfl | (simp; done) | (simp [*]; done)), H', ⟨by have := HJ2.out; have := HK2.out; have := HJ15.out; have := HK4.out; omega⟩, ⟨by (with_reducible repeat (first | apply Kd.R_alloc | apply Kd.R_drewN | apply Kd.R_drew)); exact HO_6.out⟩, ⟨by (with_reducible repeat (first | apply Kd.R_alloc | apply Kd.R_drewN | apply Kd.R_drew)); exact HO398.out⟩, ⟨by repeat (first | (with_reducible first | exact HB.out | apply below_alloc | apply pw_below_drewN | apply below_drew1) | exact HB.out)⟩⟩
                                  · rw [if_neg c33] at H
                                    have c33b0 : (((rd_T30 t380 t388).f0) == 23) = false := beq_eq_false_iff_ne.mpr c33
                                    have c33b1 : (((rd_T30 t380 t388).f0) != 23) = true := bne_iff_ne.mpr c33
                                    exact absurd ((Option.some.inj H).trans hlaw_.out) (by decide)
                                · rw [if_neg c32] at H
                                  exact absurd H (by simp)
                              · rw [if_neg c31] at H
                                exact absurd H (by simp)
                            · rw [if_neg c30] at H
                              exact absurd H (by simp)
                    · rw [if_neg c22] at H
                      have c22b0 : (t389 == 0) = false := beq_eq_false_iff_ne.mpr c22
                      have c22b1 : (t389 != 0) = true := bne_iff_ne.mpr c22
                      have H' := Aside0.mk H
                      clear H
                      go_wp2
                      go_roundg kj15
                      case measure => have := HJ2.out; have := HK2.out; have := HJ15.out; omega
                      case rel => exact ⟨(x7_2), (wrap64 (x8_2 + 1)), (by first | rfl | (simp; done) | (simp [*]; done)), H', ⟨by have := HJ2.out; have := HK2.out; have := HJ15.out; omega⟩, ⟨by (with_reducible repeat (first | apply Kd.R_alloc | apply Kd.R_drewN | apply Kd.R_drew)); exact HO_6.out⟩, ⟨by (with_reducible repeat (first | apply Kd.R_alloc | apply Kd.R_drewN | apply Kd.R_drew)); exact HO_7.out⟩, ⟨by repeat (first | (with_reducible first | exact HB.out | apply below_alloc | apply pw_below_drewN | apply below_drew1) | exact HB.out)⟩⟩
            · rw [if_neg c13] at H
              have c13b0 : decide (x8_2 < (t380.length : Int)) = false := decide_eq_false c13
              clear c13
              by_cases c44 : (x7_2.length : Int) ≥ 0
              · rw [if_pos c44] at H
                have c44b0 : decide (0 ≤ (x7_2.length : Int)) = true := decide_eq_true c44
                have c44b1 : decide (0 ≤ x7_2.length) = true := decide_eq_true (by omega)
                clear c44
                replace H := Option.bind_eq_some_iff.mp H
                obtain ⟨t386, A450, H⟩ := H
                replace H : (some (t386.toList == ([101, 110, 100] : List UInt8))) = some r := H
                have A45 := Aside0.mk A450
                clear A450
                obtain rfl := Option.some.inj H
                obtain ⟨Ao46, co46, eo46⟩ := Kd.R_slice HO_6.out
                subst eo46
                obtain ⟨Ao47, co47, eo47⟩ := Kd.R_slice HO_7.out
                subst eo47
                go_wp2_with (first | (go_at_call 8; (with_reducible refine (impl_OpName.calls 23 t386 _ A45.out (tab_below HTAB.out (by repeat (first | (with_reducible first | exact HB.out | apply below_alloc | apply pw_below_drewN | apply below_drew1) | exact HB.out)))).mono ?_); rintro e w48 ⟨rfl, hb⟩; have n0_ := Aside0.mk (Kd.R_below (by (with_reducible repeat (first | apply Kd.R_alloc | apply Kd.R_drewN | apply Kd.R_drew)); exact HO_6.out) hb); have n1_ := Aside0.mk (Kd.R_below (by (with_reducible repeat (first | apply Kd.R_alloc | apply Kd.R_drewN | apply Kd.R_drew)); exact HO_7.out) hb); have n2_ := Aside0.mk (below_step (by repeat (first | (with_reducible first | exact HB.out | apply below_alloc | apply pw_below_drewN | apply below_drew1) | exact HB.out)) hb); clear HO_6; clear HO_7; clear HB; have HO_6 := n0_; have HO_7 := n1_; have HB := n2_; clear n0_ n1_ n2_; (try clear hb); (try clear hb2); (try clear hk); (try clear hi)))
                go_ret
                exact ⟨by first | rfl | (simp [errW_none, errW_some] <;> rfl) | (simp [*, errW_none, errW_some] <;> rfl), by repeat (first | (with_reducible first | exact HB.out | apply below_alloc | apply pw_below_drewN | apply below_drew1) | exact HB.out)⟩
              · rw [if_neg c44] at H
                have c44b0 : decide (0 ≤ (x7_2.length : Int)) = false := decide_eq_false c44
                have c44b1 : decide (0 ≤ x7_2.length) = false := decide_eq_false (by omega)
                clear c44
                exact absurd ((Option.some.inj H).trans hlaw_.out) (by decide)

/-- THE ONE PURE STATEMENT of laws_FnNests: yours. -/
def laws_FnNests.Pure : Prop := ∀ (l0 : List Int) (l1 : List Int), l0.length ≤ maxLen → l0.length * 1 ≤ 140737488351232 → (∀ x ∈ l0, (Lit.int .u8 x).wf = true) → l1.length ≤ maxLen → l1.length * 1 ≤ 140737488351232 → (∀ x ∈ l1, (Lit.int .u8 x).wf = true) → ∃ k, laws_FnNests.f k l0 l1 = some true
theorem laws_FnNests.walk (P : laws_FnNests.Pure) (a0 : Option Addr) (len0 cap0 : Nat) (z0 : List Int) (a1 : Option Addr) (len1 cap1 : Nat) (z1 : List Int) (w : World) (w0 : (a0 = none ∧ len0 = 0 ∧ cap0 = 0 ∧ z0 = []) ∨ ∃ x, a0 = some x ∧ len0 ≤ cap0 ∧ cap0 ≤ maxLen ∧ z0.length = cap0 ∧ (∀ i, i < z0.length → w.cell? (x.add i) = some (.int .u8 (z0.getD i 0))) ∧ ∀ n ∈ z0, (Lit.int .u8 n).wf = true) (y0 : len0 * 1 ≤ 140737488351232) (w1 : (a1 = none ∧ len1 = 0 ∧ cap1 = 0 ∧ z1 = []) ∨ ∃ x, a1 = some x ∧ len1 ≤ cap1 ∧ cap1 ≤ maxLen ∧ z1.length = cap1 ∧ (∀ i, i < z1.length → w.cell? (x.add i) = some (.int .u8 (z1.getD i 0))) ∧ ∀ n ∈ z1, (Lit.int .u8 n).wf = true) (y1 : len1 * 1 ≤ 140737488351232) (hTAB : Lib.TabIs Tryd.prog w "strings.asciiSpace" .u8 Lib.asciiSpaceTab) :
    Calls Tryd.prog 3 #[.slice a0 len0 cap0, .slice a1 len1 cap1] w fun e w' => e = .returned (.bool true) ∧ Below w.heap.size w w' := by
  obtain ⟨l0, rfl, hr0, hm0, hw0, hc0⟩ := ReadsInt.ofRowC w0
  obtain ⟨l1, rfl, hr1, hm1, hw1, hc1⟩ := ReadsInt.ofRowC w1
  obtain ⟨k, h⟩ := P l0 l1 hm0 y0 hw0 hm1 y1 hw1
  refine (laws_FnNests.calls k _ _ l0 _ _ l1 true w (Kd.C_of_reads (d := (0 : Int)) (h1 := fun _ => rfl) hr0) hc0 (Kd.C_of_reads (d := (0 : Int)) (h1 := fun _ => rfl) hr1) hc1 h rfl hTAB).mono ?_
  rintro e w' ⟨rfl, hd⟩
  exact ⟨rfl, hd⟩

end Go.Proofs.YtkeeijifjpfolaaDoor.MFnNests

-- Text written by a program of this session (wip/tools: the kit's printer with additions of ours).
import Derived.Test.YtkegjmkdnfpfdaaMFnExactCoreOKx0
import Derived.Test.YtkegjmkdnfpfdaaMFnExactCoreOKx1
import Derived.Test.YtkegjmkdnfpfdaaMFnExactCoreOKx10
import Derived.Test.YtkegjmkdnfpfdaaMFnExactCoreOKx24
import Derived.Test.YtkegjmkdnfpfdaaMFnExactCoreOKx27
import Derived.Test.YtkegjmkdnfpfdaaMFnExactCoreOKx28
namespace Go.Proofs.Ytkegjmkdnfpfdaa.MFnExactCoreOK
open Go.RowKit Go.Proofs.YtkegjmkdnfpfdaaW.PrintWords Go.Proofs.YtkegjmkdnfpfdaaW.PrintLast Go.Proofs.YtkegjmkdnfpfdaaW.PrintMore
attribute [local go_sem] max2_int min2_int max_two min_two max_three min_three max_four min_four
set_option linter.unusedVariables false
set_option linter.unusedSimpArgs false

attribute [local go_sem high] eqA96
/-! ### spec_l07OK: function 108 -/
mutual
def spec_l07OK.l0 : Nat → List (S124) → List Int → Int → List (S184) → List Int → Option (Bool)
 | 0, _, _, _, _, _ => none
 | k + 1, x0, x1, x7, x221000, x221001 => if x7 < (x221000.length : Int) then (if 0 ≤ x7 then ((spec_l07Frame.f k x0 ((rd_T184 x221000 x7).f0) ((rd_T184 x221000 x7).f1) ((rd_T184 x221000 x7).f2)).bind fun t223 => (if t223 = true then (if 0 ≤ ((rd_T184 x221000 x7).f0) then (if ((rd_T184 x221000 x7).f0) < (x0.length : Int) then (if x7 = (wrap64 ((x221000.length : Int) - 1)) then (spec_l07OK.j1 k x0 x1 x7 ((rd_T124 x0 ((rd_T184 x221000 x7).f0)).f0) (((rd_T184 x221000 x7).f1) == (((rd_T124 x0 ((rd_T184 x221000 x7).f0)).f0).length : Int)) x221000 x221001 ((rd_T184 x221000 x7).f0) ((rd_T184 x221000 x7).f1) ((rd_T184 x221000 x7).f2)) else (spec_l07OK.j1 k x0 x1 x7 ((rd_T124 x0 ((rd_T184 x221000 x7).f0)).f0) false x221000 x221001 ((rd_T184 x221000 x7).f0) ((rd_T184 x221000 x7).f1) ((rd_T184 x221000 x7).f2))) else (none)) else (none)) else (some false))) else (none)) else ((spec_l07Types.f k x0 x1 x221000 x221001).bind fun t227 => (if (t227.size : Int) = (x221001.length : Int) then (spec_l07OK.l1 k t227 0 x221000 x221001) else (some false)))
def spec_l07OK.j1 : Nat → List (S124) → List Int → Int → List (S96) → Bool → List (S184) → List Int → Int → Int → List Int → Option (Bool)
 | 0, _, _, _, _, _, _, _, _, _, _ => none
 | k + 1, x0, x1, x7, x9, x50, x221000, x221001, x223000, x223001, x223002 => if x50 = true then (some false) else (if x7 < (wrap64 ((x221000.length : Int) - 1)) then (if x223001 = 0 then (some false) else (if 0 ≤ (wrap64 (x223001 - 1)) then (if (wrap64 (x223001 - 1)) < (x9.length : Int) then (if 0 ≤ (wrap64 (x7 + 1)) then (if (wrap64 (x7 + 1)) < (x221000.length : Int) then (if (!(((rd_T96 x9 (wrap64 (x223001 - 1))).f0) == 26) || (!(((rd_T96 x9 (wrap64 (x223001 - 1))).f1) == ((rd_T184 x221000 (wrap64 (x7 + 1))).f0)))) = true then (some false) else (spec_l07OK.l0 k x0 x1 (wrap64 (x7 + 1)) x221000 x221001)) else (none)) else (none)) else (none)) else (none))) else (spec_l07OK.l0 k x0 x1 (wrap64 (x7 + 1)) x221000 x221001))
def spec_l07OK.l1 : Nat → ByteArray → Int → List (S184) → List Int → Option (Bool)
 | 0, _, _, _, _ => none
 | k + 1, x10, x11, x221000, x221001 => if x11 < (x10.size : Int) then (if 0 ≤ x11 then (if (bt x10 x11) = 98 then (if x11 < (x221001.length : Int) then ((spec_l01In.f (rd x221001 x11) 0 1).bind fun t229 => (if t229 = true then ((spec_l01Int.f (rd x221001 x11)).bind fun t231 => (if t231 = true then (spec_l07OK.l1 k x10 (wrap64 (x11 + 1)) x221000 x221001) else (some false))) else (some false))) else (none)) else (if x11 < (x221001.length : Int) then ((spec_l01Int.f (rd x221001 x11)).bind fun t233 => (if t233 = true then (spec_l07OK.l1 k x10 (wrap64 (x11 + 1)) x221000 x221001) else (some false))) else (none))) else (none)) else (some true)
end
def spec_l07OK.f (k : Nat) (l0 : List (S124)) (l1 : List Int) (l2_0 : List (S184)) (l2_1 : List Int) : Option (Bool) := if (l2_0.length : Int) > 6 then (some false) else (spec_l07OK.l0 k l0 l1 0 l2_0 l2_1)
theorem spec_l07OK.mono_l : ∀ k, (∀ y0 y1 y2 y3 y4, LeO (spec_l07OK.l0 k y0 y1 y2 y3 y4) (spec_l07OK.l0 (k + 1) y0 y1 y2 y3 y4)) ∧ (∀ y0 y1 y2 y3 y4 y5 y6 y7 y8 y9, LeO (spec_l07OK.j1 k y0 y1 y2 y3 y4 y5 y6 y7 y8 y9) (spec_l07OK.j1 (k + 1) y0 y1 y2 y3 y4 y5 y6 y7 y8 y9)) ∧ (∀ y0 y1 y2 y3, LeO (spec_l07OK.l1 k y0 y1 y2 y3) (spec_l07OK.l1 (k + 1) y0 y1 y2 y3))
 | 0 => ⟨fun _ _ _ _ _ r h => by simp [spec_l07OK.l0] at h, fun _ _ _ _ _ _ _ _ _ _ r h => by simp [spec_l07OK.j1] at h, fun _ _ _ _ r h => by simp [spec_l07OK.l1] at h⟩
 | k + 1 => by
  obtain ⟨ih0, ih1, ih2⟩ := spec_l07OK.mono_l k
  refine ⟨?_, ?_, ?_⟩
  ·intro y0 y1 y2 y3 y4
   unfold spec_l07OK.l0
   repeat' first
   | (with_reducible exact ih0 _ _ _ _ _)
   | (with_reducible exact ih1 _ _ _ _ _ _ _ _ _ _)
   | (with_reducible exact ih2 _ _ _ _)
   | (with_reducible exact spec_l07Frame.mono _ _ _ _ _)
   | (with_reducible exact spec_l07Types.mono _ _ _ _ _)
   | (with_reducible exact LeO.refl _)
   | (with_reducible exact LeO.none _)
   | (with_reducible refine LeO.ite ?_ ?_)
   | (with_reducible refine LeO.bind ?_ (fun _ => ?_))
   | exact ih0 _ _ _ _ _
   | exact ih1 _ _ _ _ _ _ _ _ _ _
   | exact ih2 _ _ _ _
   | exact spec_l07Frame.mono _ _ _ _ _
   | exact spec_l07Types.mono _ _ _ _ _
   | exact LeO.none _
   | refine LeO.ite ?_ ?_
   | refine LeO.bind ?_ (fun _ => ?_)
  ·intro y0 y1 y2 y3 y4 y5 y6 y7 y8 y9
   unfold spec_l07OK.j1
   repeat' first
   | (with_reducible exact ih0 _ _ _ _ _)
   | (with_reducible exact ih1 _ _ _ _ _ _ _ _ _ _)
   | (with_reducible exact ih2 _ _ _ _)
   | (with_reducible exact spec_l07Frame.mono _ _ _ _ _)
   | (with_reducible exact spec_l07Types.mono _ _ _ _ _)
   | (with_reducible exact LeO.refl _)
   | (with_reducible exact LeO.none _)
   | (with_reducible refine LeO.ite ?_ ?_)
   | (with_reducible refine LeO.bind ?_ (fun _ => ?_))
   | exact ih0 _ _ _ _ _
   | exact ih1 _ _ _ _ _ _ _ _ _ _
   | exact ih2 _ _ _ _
   | exact spec_l07Frame.mono _ _ _ _ _
   | exact spec_l07Types.mono _ _ _ _ _
   | exact LeO.none _
   | refine LeO.ite ?_ ?_
   | refine LeO.bind ?_ (fun _ => ?_)
  ·intro y0 y1 y2 y3
   unfold spec_l07OK.l1
   repeat' first
   | (with_reducible exact ih0 _ _ _ _ _)
   | (with_reducible exact ih1 _ _ _ _ _ _ _ _ _ _)
   | (with_reducible exact ih2 _ _ _ _)
   | (with_reducible exact spec_l07Frame.mono _ _ _ _ _)
   | (with_reducible exact spec_l07Types.mono _ _ _ _ _)
   | (with_reducible exact LeO.refl _)
   | (with_reducible exact LeO.none _)
   | (with_reducible refine LeO.ite ?_ ?_)
   | (with_reducible refine LeO.bind ?_ (fun _ => ?_))
   | exact ih0 _ _ _ _ _
   | exact ih1 _ _ _ _ _ _ _ _ _ _
   | exact ih2 _ _ _ _
   | exact spec_l07Frame.mono _ _ _ _ _
   | exact spec_l07Types.mono _ _ _ _ _
   | exact LeO.none _
   | refine LeO.ite ?_ ?_
   | refine LeO.bind ?_ (fun _ => ?_)
theorem spec_l07OK.mono : ∀ a0 a1 a2 a3 k, LeO (spec_l07OK.f k a0 a1 a2 a3) (spec_l07OK.f (k + 1) a0 a1 a2 a3) := by
 intro a0 a1 a2 a3 k
 obtain ⟨ih0, ih1, ih2⟩ := spec_l07OK.mono_l k
 unfold spec_l07OK.f
 repeat' first
  | (with_reducible exact ih0 _ _ _ _ _)
  | (with_reducible exact ih1 _ _ _ _ _ _ _ _ _ _)
  | (with_reducible exact ih2 _ _ _ _)
  | (with_reducible exact spec_l07Frame.mono _ _ _ _ _)
  | (with_reducible exact spec_l07Types.mono _ _ _ _ _)
  | (with_reducible exact LeO.refl _)
  | (with_reducible exact LeO.none _)
  | (with_reducible refine LeO.ite ?_ ?_)
  | (with_reducible refine LeO.bind ?_ (fun _ => ?_))
  | exact ih0 _ _ _ _ _
  | exact ih1 _ _ _ _ _ _ _ _ _ _
  | exact ih2 _ _ _ _
  | exact spec_l07Frame.mono _ _ _ _ _
  | exact spec_l07Types.mono _ _ _ _ _
  | exact LeO.none _
  | refine LeO.ite ?_ ?_
  | refine LeO.bind ?_ (fun _ => ?_)
set_option maxHeartbeats 8000000 in
set_option maxRecDepth 100000 in
theorem spec_l07OK.calls (k : Nat) (A0 : Option Addr) (c0 : Nat) (l0 : List (S124)) (A1 : Option Addr) (c1 : Nat) (l1 : List Int) (A2_0 : Option Addr) (c2_0 : Nat) (l2_0 : List (S184)) (A2_1 : Option Addr) (c2_1 : Nat) (l2_1 : List Int) (r : Bool) (w : World) (hr0 : Kd.C k124 w A0 l0.length l0) (hc0 : l0.length ≤ c0) (hr1 : Kd.C (Kd.int .i64) w A1 l1.length l1) (hc1 : l1.length ≤ c1) (hr2_0 : Kd.C k184 w A2_0 l2_0.length l2_0) (hc2_0 : l2_0.length ≤ c2_0) (hr2_1 : Kd.C (Kd.int .i64) w A2_1 l2_1.length l2_1) (hc2_1 : l2_1.length ≤ c2_1) (h : spec_l07OK.f k l0 l1 l2_0 l2_1 = some r) :
 Calls Try.prog 108 #[.slice A0 l0.length c0, .slice A1 l1.length c1, .agg #[.slice A2_0 l2_0.length c2_0, .slice A2_1 l2_1.length c2_1]] w fun e w' => e = .returned (.bool r) ∧ Below w.heap.size w w' := by
 have hu45 := Try.underlying45
 have hu184 := Try.underlying184
 have hu96 := Try.underlying96
 have HR0 := zQ hr0
 have HC0 := zQ hc0
 clear hr0 hc0
 have HR1 := zQ hr1
 have HC1 := zQ hc1
 clear hr1 hc1
 have HR2_0 := zQ hr2_0
 have HC2_0 := zQ hc2_0
 clear hr2_0 hc2_0
 have HR2_1 := zQ hr2_1
 have HC2_1 := zQ hc2_1
 clear hr2_1 hc2_1
 have HB := zQ (Below.refl w.heap.size w)
 have H : (if (l2_0.length : Int) > 6 then (some false) else (spec_l07OK.l0 k l0 l1 0 l2_0 l2_1)) = some r := h
 clear h
 by_cases c4 : (l2_0.length : Int) > 6
 ·rw [if_pos c4] at H
  have c4b0 : decide (6 < (l2_0.length : Int)) = true := decide_eq_true c4
  have c4b1 : decide (6 < l2_0.length) = true := decide_eq_true (by omega)
  clear c4
  obtain rfl := Option.some.inj H
  go_enter Try.func108, Try.ntmps108
  go_wp2_with (first | ((with_reducible refine gate_dst (N := 5) rfl ?_); (try (refine gate_guard (by rfl) ?_; dsimp only)); refine box_event ?hg (N := 5) ?hd (cs := #[.slice A2_0 l2_0.length c2_0, .slice A2_1 l2_1.length c2_1]) (t := 45) ?hr ?_; (case hd => rfl); (case hg => rfl); (case hr => first | (go_simp; done) | (go_simp; rfl)); intro gb220 hg w5 hbox hb; have n0_ := zQ (below_step (zB HB.out) hb); have n1_ := zQ (hbox); have n2_ := zQ ((zG hg HB.out)); have n3_ := zQ ((zG hg HB.out)); clear HB; have HB := n0_; have BK220 := n1_; have GW220 := n2_; have GE220 := n3_; clear n0_ n1_ n2_ n3_; clear hb hbox hg; obtain ⟨hcz6_0, hcz6_1, hfz6_0, hfz6_1⟩ := zc2 BK220.out))
  repeat (go_quiet (first | ((with_reducible refine gate_dst (N := 5) rfl ?_); (try (refine gate_guard (by rfl) ?_; dsimp only)); refine box_event ?hg (N := 5) ?hd (cs := #[.slice A2_0 l2_0.length c2_0, .slice A2_1 l2_1.length c2_1]) (t := 45) ?hr ?_; (case hd => rfl); (case hg => rfl); (case hr => first | (go_simp; done) | (go_simp; rfl)); intro gb220 hg w5 hbox hb; have n0_ := zQ (below_step (zB HB.out) hb); have n1_ := zQ (hbox); have n2_ := zQ ((zG hg HB.out)); have n3_ := zQ ((zG hg HB.out)); clear HB; have HB := n0_; have BK220 := n1_; have GW220 := n2_; have GE220 := n3_; clear n0_ n1_ n2_ n3_; clear hb hbox hg; obtain ⟨hcz6_0, hcz6_1, hfz6_0, hfz6_1⟩ := zc2 BK220.out)); try go_wp2_with (first | ((with_reducible refine gate_dst (N := 5) rfl ?_); (try (refine gate_guard (by rfl) ?_; dsimp only)); refine box_event ?hg (N := 5) ?hd (cs := #[.slice A2_0 l2_0.length c2_0, .slice A2_1 l2_1.length c2_1]) (t := 45) ?hr ?_; (case hd => rfl); (case hg => rfl); (case hr => first | (go_simp; done) | (go_simp; rfl)); intro gb220 hg w5 hbox hb; have n0_ := zQ (below_step (zB HB.out) hb); have n1_ := zQ (hbox); have n2_ := zQ ((zG hg HB.out)); have n3_ := zQ ((zG hg HB.out)); clear HB; have HB := n0_; have BK220 := n1_; have GW220 := n2_; have GE220 := n3_; clear n0_ n1_ n2_ n3_; clear hb hbox hg; obtain ⟨hcz6_0, hcz6_1, hfz6_0, hfz6_1⟩ := zc2 BK220.out)))
  go_ret
  exact ⟨by first | rfl | (simp [errW_none, errW_some] <;> rfl) | (simp [*, errW_none, errW_some] <;> rfl), zB HB.out⟩
 ·rw [if_neg c4] at H
  have c4b0 : decide (6 < (l2_0.length : Int)) = false := decide_eq_false c4
  have c4b1 : decide (6 < l2_0.length) = false := decide_eq_false (by omega)
  clear c4
  have H' := zQ H
  clear H
  go_enter Try.func108, Try.ntmps108
  go_wp2_with (first | ((with_reducible refine gate_dst (N := 5) rfl ?_); (try (refine gate_guard (by rfl) ?_; dsimp only)); refine box_event ?hg (N := 5) ?hd (cs := #[.slice A2_0 l2_0.length c2_0, .slice A2_1 l2_1.length c2_1]) (t := 45) ?hr ?_; (case hd => rfl); (case hg => rfl); (case hr => first | (go_simp; done) | (go_simp; rfl)); intro gb220 hg w7 hbox hb; have n0_ := zQ (below_step (zB HB.out) hb); have n1_ := zQ (hbox); have n2_ := zQ ((zG hg HB.out)); have n3_ := zQ ((zG hg HB.out)); clear HB; have HB := n0_; have BK220 := n1_; have GW220 := n2_; have GE220 := n3_; clear n0_ n1_ n2_ n3_; clear hb hbox hg; obtain ⟨hcz8_0, hcz8_1, hfz8_0, hfz8_1⟩ := zc2 BK220.out))
  repeat (go_quiet (first | ((with_reducible refine gate_dst (N := 5) rfl ?_); (try (refine gate_guard (by rfl) ?_; dsimp only)); refine box_event ?hg (N := 5) ?hd (cs := #[.slice A2_0 l2_0.length c2_0, .slice A2_1 l2_1.length c2_1]) (t := 45) ?hr ?_; (case hd => rfl); (case hg => rfl); (case hr => first | (go_simp; done) | (go_simp; rfl)); intro gb220 hg w7 hbox hb; have n0_ := zQ (below_step (zB HB.out) hb); have n1_ := zQ (hbox); have n2_ := zQ ((zG hg HB.out)); have n3_ := zQ ((zG hg HB.out)); clear HB; have HB := n0_; have BK220 := n1_; have GW220 := n2_; have GE220 := n3_; clear n0_ n1_ n2_ n3_; clear hb hbox hg; obtain ⟨hcz8_0, hcz8_1, hfz8_0, hfz8_1⟩ := zc2 BK220.out)); try go_wp2_with (first | ((with_reducible refine gate_dst (N := 5) rfl ?_); (try (refine gate_guard (by rfl) ?_; dsimp only)); refine box_event ?hg (N := 5) ?hd (cs := #[.slice A2_0 l2_0.length c2_0, .slice A2_1 l2_1.length c2_1]) (t := 45) ?hr ?_; (case hd => rfl); (case hg => rfl); (case hr => first | (go_simp; done) | (go_simp; rfl)); intro gb220 hg w7 hbox hb; have n0_ := zQ (below_step (zB HB.out) hb); have n1_ := zQ (hbox); have n2_ := zQ ((zG hg HB.out)); have n3_ := zQ ((zG hg HB.out)); clear HB; have HB := n0_; have BK220 := n1_; have GW220 := n2_; have GE220 := n3_; clear n0_ n1_ n2_ n3_; clear hb hbox hg; obtain ⟨hcz8_0, hcz8_1, hfz8_0, hfz8_1⟩ := zc2 BK220.out)))
  go_loopg [7] k (fun kq v7 w' => ∃ (x7_1 : Int), v7 = .int .i64 x7_1 ∧ Aside0 (spec_l07OK.l0 kq l0 l1 x7_1 l2_0 l2_1 = some r) ∧ Aside0 (kq ≤ k) ∧ Aside0 (w'.heap[gb220]? = some (.cells #[(.slice A2_0 l2_0.length c2_0), (.slice A2_1 l2_1.length c2_1)] 45 (0, 0))) ∧ Aside0 (Below w.heap.size w w'))
  case atStart => exact ⟨(0), (by first | rfl | (simp; done) | (simp [*]; done)), H', ⟨Nat.le_refl _⟩, ⟨by (with_reducible repeat (first | refine blk_drewN ?_ _ | refine blk_drew ?_ | refine blk_alloc ?_ _)); exact BK220.out⟩, ⟨zB HB.out⟩⟩
  case round =>
   clear H'
   try clear c1
   try clear c2
   try clear p2
   try clear c4
   try clear c4b0
   try clear c4b1
   try clear hcz6_0
   try clear hcz6_1
   try clear hcz8_0
   try clear hcz8_1
   try clear hfz6_0
   try clear hfz6_1
   try clear hfz8_0
   try clear hfz8_1
   obtain ⟨x7_1, rfl, HA, HK1, BK220, HB⟩ := hrel
   cases gk with
   | zero => exact absurd HA.out (by simp [spec_l07OK.l0])
   | succ k1 =>
    have H := HA.out
    clear HA
    simp only [spec_l07OK.l0] at H
    by_cases c9 : x7_1 < (l2_0.length : Int)
    ·rw [if_pos c9] at H
     have c9b0 : decide (x7_1 < (l2_0.length : Int)) = true := decide_eq_true c9
     clear c9
     by_cases c10 : 0 ≤ x7_1
     ·rw [if_pos c10] at H
      have c10b0 : decide (0 ≤ x7_1) = true := decide_eq_true c10
      clear c10
      replace H := Option.bind_eq_some_iff.mp H
      obtain ⟨t223, A110, H⟩ := H
      replace H : (if t223 = true then (if 0 ≤ ((rd_T184 l2_0 x7_1).f0) then (if ((rd_T184 l2_0 x7_1).f0) < (l0.length : Int) then (if x7_1 = (wrap64 ((l2_0.length : Int) - 1)) then (spec_l07OK.j1 k1 l0 l1 x7_1 ((rd_T124 l0 ((rd_T184 l2_0 x7_1).f0)).f0) (((rd_T184 l2_0 x7_1).f1) == (((rd_T124 l0 ((rd_T184 l2_0 x7_1).f0)).f0).length : Int)) l2_0 l2_1 ((rd_T184 l2_0 x7_1).f0) ((rd_T184 l2_0 x7_1).f1) ((rd_T184 l2_0 x7_1).f2)) else (spec_l07OK.j1 k1 l0 l1 x7_1 ((rd_T124 l0 ((rd_T184 l2_0 x7_1).f0)).f0) false l2_0 l2_1 ((rd_T184 l2_0 x7_1).f0) ((rd_T184 l2_0 x7_1).f1) ((rd_T184 l2_0 x7_1).f2))) else (none)) else (none)) else (some false)) = some r := H
      have A11 := zQ A110
      clear A110
      by_cases c12 : t223 = true
      ·subst c12
       have H1 : (if 0 ≤ ((rd_T184 l2_0 x7_1).f0) then (if ((rd_T184 l2_0 x7_1).f0) < (l0.length : Int) then (if x7_1 = (wrap64 ((l2_0.length : Int) - 1)) then (spec_l07OK.j1 k1 l0 l1 x7_1 ((rd_T124 l0 ((rd_T184 l2_0 x7_1).f0)).f0) (((rd_T184 l2_0 x7_1).f1) == (((rd_T124 l0 ((rd_T184 l2_0 x7_1).f0)).f0).length : Int)) l2_0 l2_1 ((rd_T184 l2_0 x7_1).f0) ((rd_T184 l2_0 x7_1).f1) ((rd_T184 l2_0 x7_1).f2)) else (spec_l07OK.j1 k1 l0 l1 x7_1 ((rd_T124 l0 ((rd_T184 l2_0 x7_1).f0)).f0) false l2_0 l2_1 ((rd_T184 l2_0 x7_1).f0) ((rd_T184 l2_0 x7_1).f1) ((rd_T184 l2_0 x7_1).f2))) else (none)) else (none)) = some r := by rw [if_pos rfl] at H; exact H
       clear H
       have H := H1
       clear H1
       by_cases c13 : 0 ≤ ((rd_T184 l2_0 x7_1).f0)
       ·rw [if_pos c13] at H
        have c13b0 : decide (0 ≤ ((rd_T184 l2_0 x7_1).f0)) = true := decide_eq_true c13
        clear c13
        by_cases c14 : ((rd_T184 l2_0 x7_1).f0) < (l0.length : Int)
        ·rw [if_pos c14] at H
         have c14b0 : decide (((rd_T184 l2_0 x7_1).f0) < (l0.length : Int)) = true := decide_eq_true c14
         clear c14
         have HC15 := zQ H
         clear H
         have hcz16_0 : wr.cell? ⟨gb220, 0, none⟩ = some (.slice A2_0 l2_0.length c2_0) := (blk_cell BK220.out 0).trans rfl
         have hcz16_1 : wr.cell? ⟨gb220, 1, none⟩ = some (.slice A2_1 l2_1.length c2_1) := (blk_cell BK220.out 1).trans rfl
         have hfz16_0 := blk_frozen BK220.out 0
         have hfz16_1 := blk_frozen BK220.out 1
         have p221 : 0 ≤ (x7_1 : Int) := zA
         have q221 : x7_1 < (l2_0.length : Int) := zA
         obtain ⟨ad221, A221_2, c221_2, e221, hx221_0, hx221_1, hx221_2, hl221_2, hi221_2⟩ := at_T184 HR2_0.out x7_1 p221 q221
         cases e221
         replace hx221_0 := zX HB.out hx221_0
         replace hx221_1 := zX HB.out hx221_1
         replace hx221_2 := zX HB.out hx221_2
         have HR221_2 := zQ hi221_2
         have HC221_2 := zQ hl221_2
         clear hi221_2 hl221_2
         replace p221 := eq_true p221
         replace q221 := eq_true q221
         go_upto_region 10 with (first | ((with_reducible refine gate_dst (N := 8) rfl ?_); (try (refine gate_guard (by rfl) ?_; dsimp only)); refine box_event ?hg (N := 8) ?hd (cs := #[.int .i64 0, .int .i64 0, .slice none 0 0]) (t := 184) ?hr ?_; (case hd => rfl); (case hg => rfl); (case hr => first | (go_simp; done) | (go_simp; rfl)); intro gb222 hg w17 hbox hb; have n0_ := zQ (zL BK220.out hb); have n1_ := zQ (below_step (zB HB.out) hb); have n2_ := zQ (hbox); have n3_ := zQ ((zG hg HB.out)); have n4_ := zQ ((zG hg HB.out)); have n5_ := zQ ((zN hg BK220.out)); have n6_ := zQ ((zM hg BK220.out)); clear BK220; clear HB; have BK220 := n0_; have HB := n1_; have BK222 := n2_; have GW222 := n3_; have GE222 := n4_; have NB220_222 := n5_; have NB222_220 := n6_; clear n0_ n1_ n2_ n3_ n4_ n5_ n6_; clear hb hbox hg; have hnb18 := NB222_220.out; have hnc18 := NB220_222.out; obtain ⟨hcz19_0, hcz19_1, hcz19_2, hfz19_0, hfz19_1, hfz19_2⟩ := zc3 BK222.out) | (go_at_call 173; (with_reducible refine (spec_l07Frame.calls k1 _ _ l0 ((rd_T184 l2_0 x7_1).f0) ((rd_T184 l2_0 x7_1).f1) _ _ ((rd_T184 l2_0 x7_1).f2) true _ ?side1 ?side2 ?side3 ?side4 A11.out).mono ?_); (case side1 => exact Kd.C_below HR0.out (zB HB.out)); (case side2 => exact HC0.out); (case side3 => exact Kd.C_below HR221_2.out (zB HB.out)); (case side4 => exact HC221_2.out); rintro e w20 ⟨rfl, hb⟩; have n0_ := zQ (zL BK220.out hb); have n1_ := zQ (blk_below (g := gb222) (o := .cells #[.int .i64 ((rd_T184 l2_0 x7_1).f0), .int .i64 ((rd_T184 l2_0 x7_1).f1), .slice A221_2 ((rd_T184 l2_0 x7_1).f2).length c221_2] 184 (0, 0)) (by (with_reducible repeat (first | refine blk_drewN ?_ _ | refine blk_drew ?_ | refine blk_alloc ?_ _)); refine blk_put (cs := #[.int .i64 ((rd_T184 l2_0 x7_1).f0), .int .i64 ((rd_T184 l2_0 x7_1).f1), .slice none 0 0]) ?_ 2 _ rfl; (with_reducible repeat (first | refine blk_drewN ?_ _ | refine blk_drew ?_ | refine blk_alloc ?_ _)); refine blk_put (cs := #[.int .i64 ((rd_T184 l2_0 x7_1).f0), .int .i64 0, .slice none 0 0]) ?_ 1 _ rfl; (with_reducible repeat (first | refine blk_drewN ?_ _ | refine blk_drew ?_ | refine blk_alloc ?_ _)); refine blk_put (cs := #[.int .i64 0, .int .i64 0, .slice none 0 0]) ?_ 0 _ rfl; (with_reducible repeat (first | refine blk_drewN ?_ _ | refine blk_drew ?_ | refine blk_alloc ?_ _)); exact BK222.out) hb); have n2_ := zQ (below_step (zB HB.out) hb); clear BK220; clear BK222; clear HB; have BK220 := n0_; have BK222 := n1_; have HB := n2_; clear n0_ n1_ n2_; (try clear hb); (try clear hb2); (try clear hk); (try clear hi); obtain ⟨hcz21_0, hcz21_1, hcz21_2, hfz21_0, hfz21_1, hfz21_2⟩ := zc3 BK222.out; have p224 : 0 ≤ (((rd_T184 l2_0 x7_1).f0) : Int) := zA; have q224 : ((rd_T184 l2_0 x7_1).f0) < (l0.length : Int) := zA; obtain ⟨ad224, A224_0, c224_0, e224, hx224_0, hl224_0, hi224_0⟩ := at_T124 HR0.out ((rd_T184 l2_0 x7_1).f0) p224 q224; cases e224; replace hx224_0 := zX HB.out hx224_0; have HR224_0 := zQ hi224_0; have HC224_0 := zQ hl224_0; clear hi224_0 hl224_0; replace p224 := eq_true p224; replace q224 := eq_true q224))
         repeat (go_quiet (first | ((with_reducible refine gate_dst (N := 8) rfl ?_); (try (refine gate_guard (by rfl) ?_; dsimp only)); refine box_event ?hg (N := 8) ?hd (cs := #[.int .i64 0, .int .i64 0, .slice none 0 0]) (t := 184) ?hr ?_; (case hd => rfl); (case hg => rfl); (case hr => first | (go_simp; done) | (go_simp; rfl)); intro gb222 hg w17 hbox hb; have n0_ := zQ (zL BK220.out hb); have n1_ := zQ (below_step (zB HB.out) hb); have n2_ := zQ (hbox); have n3_ := zQ ((zG hg HB.out)); have n4_ := zQ ((zG hg HB.out)); have n5_ := zQ ((zN hg BK220.out)); have n6_ := zQ ((zM hg BK220.out)); clear BK220; clear HB; have BK220 := n0_; have HB := n1_; have BK222 := n2_; have GW222 := n3_; have GE222 := n4_; have NB220_222 := n5_; have NB222_220 := n6_; clear n0_ n1_ n2_ n3_ n4_ n5_ n6_; clear hb hbox hg; have hnb18 := NB222_220.out; have hnc18 := NB220_222.out; obtain ⟨hcz19_0, hcz19_1, hcz19_2, hfz19_0, hfz19_1, hfz19_2⟩ := zc3 BK222.out) | (go_at_call 173; (with_reducible refine (spec_l07Frame.calls k1 _ _ l0 ((rd_T184 l2_0 x7_1).f0) ((rd_T184 l2_0 x7_1).f1) _ _ ((rd_T184 l2_0 x7_1).f2) true _ ?side1 ?side2 ?side3 ?side4 A11.out).mono ?_); (case side1 => exact Kd.C_below HR0.out (zB HB.out)); (case side2 => exact HC0.out); (case side3 => exact Kd.C_below HR221_2.out (zB HB.out)); (case side4 => exact HC221_2.out); rintro e w20 ⟨rfl, hb⟩; have n0_ := zQ (zL BK220.out hb); have n1_ := zQ (blk_below (g := gb222) (o := .cells #[.int .i64 ((rd_T184 l2_0 x7_1).f0), .int .i64 ((rd_T184 l2_0 x7_1).f1), .slice A221_2 ((rd_T184 l2_0 x7_1).f2).length c221_2] 184 (0, 0)) (by (with_reducible repeat (first | refine blk_drewN ?_ _ | refine blk_drew ?_ | refine blk_alloc ?_ _)); refine blk_put (cs := #[.int .i64 ((rd_T184 l2_0 x7_1).f0), .int .i64 ((rd_T184 l2_0 x7_1).f1), .slice none 0 0]) ?_ 2 _ rfl; (with_reducible repeat (first | refine blk_drewN ?_ _ | refine blk_drew ?_ | refine blk_alloc ?_ _)); refine blk_put (cs := #[.int .i64 ((rd_T184 l2_0 x7_1).f0), .int .i64 0, .slice none 0 0]) ?_ 1 _ rfl; (with_reducible repeat (first | refine blk_drewN ?_ _ | refine blk_drew ?_ | refine blk_alloc ?_ _)); refine blk_put (cs := #[.int .i64 0, .int .i64 0, .slice none 0 0]) ?_ 0 _ rfl; (with_reducible repeat (first | refine blk_drewN ?_ _ | refine blk_drew ?_ | refine blk_alloc ?_ _)); exact BK222.out) hb); have n2_ := zQ (below_step (zB HB.out) hb); clear BK220; clear BK222; clear HB; have BK220 := n0_; have BK222 := n1_; have HB := n2_; clear n0_ n1_ n2_; (try clear hb); (try clear hb2); (try clear hk); (try clear hi); obtain ⟨hcz21_0, hcz21_1, hcz21_2, hfz21_0, hfz21_1, hfz21_2⟩ := zc3 BK222.out; have p224 : 0 ≤ (((rd_T184 l2_0 x7_1).f0) : Int) := zA; have q224 : ((rd_T184 l2_0 x7_1).f0) < (l0.length : Int) := zA; obtain ⟨ad224, A224_0, c224_0, e224, hx224_0, hl224_0, hi224_0⟩ := at_T124 HR0.out ((rd_T184 l2_0 x7_1).f0) p224 q224; cases e224; replace hx224_0 := zX HB.out hx224_0; have HR224_0 := zQ hi224_0; have HC224_0 := zQ hl224_0; clear hi224_0 hl224_0; replace p224 := eq_true p224; replace q224 := eq_true q224)); go_upto_region 10 with (first | ((with_reducible refine gate_dst (N := 8) rfl ?_); (try (refine gate_guard (by rfl) ?_; dsimp only)); refine box_event ?hg (N := 8) ?hd (cs := #[.int .i64 0, .int .i64 0, .slice none 0 0]) (t := 184) ?hr ?_; (case hd => rfl); (case hg => rfl); (case hr => first | (go_simp; done) | (go_simp; rfl)); intro gb222 hg w17 hbox hb; have n0_ := zQ (zL BK220.out hb); have n1_ := zQ (below_step (zB HB.out) hb); have n2_ := zQ (hbox); have n3_ := zQ ((zG hg HB.out)); have n4_ := zQ ((zG hg HB.out)); have n5_ := zQ ((zN hg BK220.out)); have n6_ := zQ ((zM hg BK220.out)); clear BK220; clear HB; have BK220 := n0_; have HB := n1_; have BK222 := n2_; have GW222 := n3_; have GE222 := n4_; have NB220_222 := n5_; have NB222_220 := n6_; clear n0_ n1_ n2_ n3_ n4_ n5_ n6_; clear hb hbox hg; have hnb18 := NB222_220.out; have hnc18 := NB220_222.out; obtain ⟨hcz19_0, hcz19_1, hcz19_2, hfz19_0, hfz19_1, hfz19_2⟩ := zc3 BK222.out) | (go_at_call 173; (with_reducible refine (spec_l07Frame.calls k1 _ _ l0 ((rd_T184 l2_0 x7_1).f0) ((rd_T184 l2_0 x7_1).f1) _ _ ((rd_T184 l2_0 x7_1).f2) true _ ?side1 ?side2 ?side3 ?side4 A11.out).mono ?_); (case side1 => exact Kd.C_below HR0.out (zB HB.out)); (case side2 => exact HC0.out); (case side3 => exact Kd.C_below HR221_2.out (zB HB.out)); (case side4 => exact HC221_2.out); rintro e w20 ⟨rfl, hb⟩; have n0_ := zQ (zL BK220.out hb); have n1_ := zQ (blk_below (g := gb222) (o := .cells #[.int .i64 ((rd_T184 l2_0 x7_1).f0), .int .i64 ((rd_T184 l2_0 x7_1).f1), .slice A221_2 ((rd_T184 l2_0 x7_1).f2).length c221_2] 184 (0, 0)) (by (with_reducible repeat (first | refine blk_drewN ?_ _ | refine blk_drew ?_ | refine blk_alloc ?_ _)); refine blk_put (cs := #[.int .i64 ((rd_T184 l2_0 x7_1).f0), .int .i64 ((rd_T184 l2_0 x7_1).f1), .slice none 0 0]) ?_ 2 _ rfl; (with_reducible repeat (first | refine blk_drewN ?_ _ | refine blk_drew ?_ | refine blk_alloc ?_ _)); refine blk_put (cs := #[.int .i64 ((rd_T184 l2_0 x7_1).f0), .int .i64 0, .slice none 0 0]) ?_ 1 _ rfl; (with_reducible repeat (first | refine blk_drewN ?_ _ | refine blk_drew ?_ | refine blk_alloc ?_ _)); refine blk_put (cs := #[.int .i64 0, .int .i64 0, .slice none 0 0]) ?_ 0 _ rfl; (with_reducible repeat (first | refine blk_drewN ?_ _ | refine blk_drew ?_ | refine blk_alloc ?_ _)); exact BK222.out) hb); have n2_ := zQ (below_step (zB HB.out) hb); clear BK220; clear BK222; clear HB; have BK220 := n0_; have BK222 := n1_; have HB := n2_; clear n0_ n1_ n2_; (try clear hb); (try clear hb2); (try clear hk); (try clear hi); obtain ⟨hcz21_0, hcz21_1, hcz21_2, hfz21_0, hfz21_1, hfz21_2⟩ := zc3 BK222.out; have p224 : 0 ≤ (((rd_T184 l2_0 x7_1).f0) : Int) := zA; have q224 : ((rd_T184 l2_0 x7_1).f0) < (l0.length : Int) := zA; obtain ⟨ad224, A224_0, c224_0, e224, hx224_0, hl224_0, hi224_0⟩ := at_T124 HR0.out ((rd_T184 l2_0 x7_1).f0) p224 q224; cases e224; replace hx224_0 := zX HB.out hx224_0; have HR224_0 := zQ hi224_0; have HC224_0 := zQ hl224_0; clear hi224_0 hl224_0; replace p224 := eq_true p224; replace q224 := eq_true q224)))
         (try simp only [Act.put, List.setIfInBounds_toArray, List.set_cons_zero, List.set_cons_succ])
         go_cut [50] (fun v50 wc => ∃ (kq : Nat) (x50_14 : Bool), v50 = .bool x50_14 ∧ Aside0 (spec_l07OK.j1 kq l0 l1 x7_1 ((rd_T124 l0 ((rd_T184 l2_0 x7_1).f0)).f0) x50_14 l2_0 l2_1 ((rd_T184 l2_0 x7_1).f0) ((rd_T184 l2_0 x7_1).f1) ((rd_T184 l2_0 x7_1).f2) = some r) ∧ Aside0 (kq ≤ k1) ∧ Aside0 (wc.heap[gb220]? = some (.cells #[(.slice (some ad221) l2_0.length c2_0), (.slice A2_1 l2_1.length c2_1)] 45 (0, 0))) ∧ Aside0 (wc.heap[gb222]? = some (.cells #[.int .i64 ((rd_T184 l2_0 x7_1).f0), .int .i64 ((rd_T184 l2_0 x7_1).f1), (.slice A221_2 ((rd_T184 l2_0 x7_1).f2).length c221_2)] 184 (0, 0))) ∧ Aside0 (Below w.heap.size w wc))
         case first =>
          have H := HC15.out
          clear HC15
          by_cases c22 : x7_1 = (wrap64 ((l2_0.length : Int) - 1))
          ·rw [if_pos c22] at H
           have c22b0 : (x7_1 == (wrap64 ((l2_0.length : Int) - 1))) = true := beq_iff_eq.mpr c22
           have c22b1 : (x7_1 != (wrap64 ((l2_0.length : Int) - 1))) = false := bne_eq_false_iff_eq.mpr c22
           clear c22
           (first | rw [c22b0] | (simp only [i64_w, i32_w]; rw [c22b0]) | skip)
           have H' := zQ H
           clear H
           have hnb23 := NB220_222.out
           have hnc23 := NB222_220.out
           have hcz24_0 : w20.cell? ⟨gb220, 0, none⟩ = some (.slice (some ad221) l2_0.length c2_0) := (blk_cell BK220.out 0).trans rfl
           have hcz24_1 : w20.cell? ⟨gb220, 1, none⟩ = some (.slice A2_1 l2_1.length c2_1) := (blk_cell BK220.out 1).trans rfl
           have hfz24_0 := blk_frozen BK220.out 0
           have hfz24_1 := blk_frozen BK220.out 1
           have hcz25_0 : w20.cell? ⟨gb222, 0, none⟩ = some (.int .i64 ((rd_T184 l2_0 x7_1).f0)) := (blk_cell BK222.out 0).trans rfl
           have hcz25_1 : w20.cell? ⟨gb222, 1, none⟩ = some (.int .i64 ((rd_T184 l2_0 x7_1).f1)) := (blk_cell BK222.out 1).trans rfl
           have hcz25_2 : w20.cell? ⟨gb222, 2, none⟩ = some (.slice A221_2 ((rd_T184 l2_0 x7_1).f2).length c221_2) := (blk_cell BK222.out 2).trans rfl
           have hfz25_0 := blk_frozen BK222.out 0
           have hfz25_1 := blk_frozen BK222.out 1
           have hfz25_2 := blk_frozen BK222.out 2
           go_wp2
           repeat (go_quiet (fail); try go_wp2)
           (first | go_meet | (refine Met.intro ?_; go_step; (repeat apply Exists.intro); refine ⟨?rel, ?eqm_⟩; (case eqm_ => (simp only [c22b1, c22b0]; rfl))))
           case rel => exact ⟨_, ((((rd_T184 l2_0 x7_1).f1) == (((rd_T124 l0 ((rd_T184 l2_0 x7_1).f0)).f0).length : Int))), (by first | rfl | (simp; done) | (simp [*]; done)), H', ⟨by have := HK1.out; first | omega | exact Nat.le_refl _⟩, ⟨by (with_reducible repeat (first | refine blk_drewN ?_ _ | refine blk_drew ?_ | refine blk_alloc ?_ _)); exact BK220.out⟩, ⟨by (with_reducible repeat (first | refine blk_drewN ?_ _ | refine blk_drew ?_ | refine blk_alloc ?_ _)); exact BK222.out⟩, ⟨zB HB.out⟩⟩
          ·rw [if_neg c22] at H
           have c22b0 : (x7_1 == (wrap64 ((l2_0.length : Int) - 1))) = false := beq_eq_false_iff_ne.mpr c22
           have c22b1 : (x7_1 != (wrap64 ((l2_0.length : Int) - 1))) = true := bne_iff_ne.mpr c22
           (first | rw [c22b0] | (simp only [i64_w, i32_w]; rw [c22b0]) | skip)
           have H' := zQ H
           clear H
           have hnb26 := NB220_222.out
           have hnc26 := NB222_220.out
           have hcz27_0 : w20.cell? ⟨gb220, 0, none⟩ = some (.slice (some ad221) l2_0.length c2_0) := (blk_cell BK220.out 0).trans rfl
           have hcz27_1 : w20.cell? ⟨gb220, 1, none⟩ = some (.slice A2_1 l2_1.length c2_1) := (blk_cell BK220.out 1).trans rfl
           have hfz27_0 := blk_frozen BK220.out 0
           have hfz27_1 := blk_frozen BK220.out 1
           go_wp2
           repeat (go_quiet (fail); try go_wp2)
           (first | go_meet | (refine Met.intro ?_; go_step; (repeat apply Exists.intro); refine ⟨?rel, ?eqm_⟩; (case eqm_ => (simp only [c22b1, c22b0]; rfl))))
           case rel => exact ⟨_, (false), (by first | rfl | (simp; done) | (simp [*]; done)), H', ⟨by have := HK1.out; first | omega | exact Nat.le_refl _⟩, ⟨by (with_reducible repeat (first | refine blk_drewN ?_ _ | refine blk_drew ?_ | refine blk_alloc ?_ _)); exact BK220.out⟩, ⟨by (with_reducible repeat (first | refine blk_drewN ?_ _ | refine blk_drew ?_ | refine blk_alloc ?_ _)); exact BK222.out⟩, ⟨zB HB.out⟩⟩
         case rest =>
          clear HC15
          try clear c1
          try clear c2
          try clear p2
          try clear q2
          try clear hx2
          try clear c4
          try clear c4b0
          try clear c4b1
          try clear p6
          try clear c9
          try clear c9b0
          try clear c10
          try clear c10b0
          try clear c12
          try clear c13
          try clear c13b0
          try clear c14
          try clear c14b0
          try clear c18
          try clear c22
          try clear c22b0
          try clear c22b1
          try clear p22
          try clear q22
          try clear hx22
          try clear c23
          try clear c26
          try clear hcz16_0
          try clear hcz16_1
          try clear hcz19_0
          try clear hcz19_1
          try clear hcz19_2
          try clear hcz21_0
          try clear hcz21_1
          try clear hcz21_2
          try clear hcz24_0
          try clear hcz24_1
          try clear hcz25_0
          try clear hcz25_1
          try clear hcz25_2
          try clear hcz27_0
          try clear hcz27_1
          try clear hcz6_0
          try clear hcz6_1
          try clear hcz8_0
          try clear hcz8_1
          try clear hfz16_0
          try clear hfz16_1
          try clear hfz19_0
          try clear hfz19_1
          try clear hfz19_2
          try clear hfz21_0
          try clear hfz21_1
          try clear hfz21_2
          try clear hfz24_0
          try clear hfz24_1
          try clear hfz25_0
          try clear hfz25_1
          try clear hfz25_2
          try clear hfz27_0
          try clear hfz27_1
          try clear hfz6_0
          try clear hfz6_1
          try clear hfz8_0
          try clear hfz8_1
          try clear hx221_0
          try clear hx221_1
          try clear hx221_2
          try clear hx224_0
          try clear p2
          try clear p221
          try clear p224
          try clear q221
          try clear q224
          obtain ⟨kq, x50_14, rfl, HA, HJ14, BK220, BK222, HB⟩ := hcut
          cases kq with
          | zero => exact absurd HA.out (by simp [spec_l07OK.j1])
          | succ kj14 =>
           have H := HA.out
           clear HA
           simp only [spec_l07OK.j1] at H
           by_cases c28 : x50_14 = true
           ·subst c28
            have H1 : (some false) = some r := by rw [if_pos rfl] at H; exact H
            clear H
            have H := H1
            clear H1
            obtain rfl := Option.some.inj H
            go_wp2
            repeat (go_quiet (fail); try go_wp2)
            go_ret
            exact ⟨by first | rfl | (simp [errW_none, errW_some] <;> rfl) | (simp [*, errW_none, errW_some] <;> rfl), zB HB.out⟩
           ·replace c28 := Bool.eq_false_iff.mpr c28
            subst c28
            have H1 : (if x7_1 < (wrap64 ((l2_0.length : Int) - 1)) then (if ((rd_T184 l2_0 x7_1).f1) = 0 then (some false) else (if 0 ≤ (wrap64 (((rd_T184 l2_0 x7_1).f1) - 1)) then (if (wrap64 (((rd_T184 l2_0 x7_1).f1) - 1)) < (((rd_T124 l0 ((rd_T184 l2_0 x7_1).f0)).f0).length : Int) then (if 0 ≤ (wrap64 (x7_1 + 1)) then (if (wrap64 (x7_1 + 1)) < (l2_0.length : Int) then (if (!(((rd_T96 ((rd_T124 l0 ((rd_T184 l2_0 x7_1).f0)).f0) (wrap64 (((rd_T184 l2_0 x7_1).f1) - 1))).f0) == 26) || (!(((rd_T96 ((rd_T124 l0 ((rd_T184 l2_0 x7_1).f0)).f0) (wrap64 (((rd_T184 l2_0 x7_1).f1) - 1))).f1) == ((rd_T184 l2_0 (wrap64 (x7_1 + 1))).f0)))) = true then (some false) else (spec_l07OK.l0 kj14 l0 l1 (wrap64 (x7_1 + 1)) l2_0 l2_1)) else (none)) else (none)) else (none)) else (none))) else (spec_l07OK.l0 kj14 l0 l1 (wrap64 (x7_1 + 1)) l2_0 l2_1)) = some r := by rw [if_neg (show ¬ (false = true) by decide)] at H; exact H
            clear H
            have H := H1
            clear H1
            by_cases c29 : x7_1 < (wrap64 ((l2_0.length : Int) - 1))
            ·rw [if_pos c29] at H
             have c29b0 : decide (x7_1 < (wrap64 ((l2_0.length : Int) - 1))) = true := decide_eq_true c29
             clear c29
             by_cases c30 : ((rd_T184 l2_0 x7_1).f1) = 0
             ·rw [if_pos c30] at H
              have c30b0 : (((rd_T184 l2_0 x7_1).f1) == 0) = true := beq_iff_eq.mpr c30
              have c30b1 : (((rd_T184 l2_0 x7_1).f1) != 0) = false := bne_eq_false_iff_eq.mpr c30
              clear c30
              obtain rfl := Option.some.inj H
              have hnb31 := NB220_222.out
              have hnc31 := NB222_220.out
              have hcz32_0 : wc.cell? ⟨gb220, 0, none⟩ = some (.slice (some ad221) l2_0.length c2_0) := (blk_cell BK220.out 0).trans rfl
              have hcz32_1 : wc.cell? ⟨gb220, 1, none⟩ = some (.slice A2_1 l2_1.length c2_1) := (blk_cell BK220.out 1).trans rfl
              have hfz32_0 := blk_frozen BK220.out 0
              have hfz32_1 := blk_frozen BK220.out 1
              have hcz33_0 : wc.cell? ⟨gb222, 0, none⟩ = some (.int .i64 ((rd_T184 l2_0 x7_1).f0)) := (blk_cell BK222.out 0).trans rfl
              have hcz33_1 : wc.cell? ⟨gb222, 1, none⟩ = some (.int .i64 ((rd_T184 l2_0 x7_1).f1)) := (blk_cell BK222.out 1).trans rfl
              have hcz33_2 : wc.cell? ⟨gb222, 2, none⟩ = some (.slice A221_2 ((rd_T184 l2_0 x7_1).f2).length c221_2) := (blk_cell BK222.out 2).trans rfl
              have hfz33_0 := blk_frozen BK222.out 0
              have hfz33_1 := blk_frozen BK222.out 1
              have hfz33_2 := blk_frozen BK222.out 2
              go_wp2
              repeat (go_quiet (fail); try go_wp2)
              go_ret
              exact ⟨by first | rfl | (simp [errW_none, errW_some] <;> rfl) | (simp [*, errW_none, errW_some] <;> rfl), zB HB.out⟩
             ·rw [if_neg c30] at H
              have c30b0 : (((rd_T184 l2_0 x7_1).f1) == 0) = false := beq_eq_false_iff_ne.mpr c30
              have c30b1 : (((rd_T184 l2_0 x7_1).f1) != 0) = true := bne_iff_ne.mpr c30
              obtain ⟨ji34, hji34⟩ : ∃ j_ : Int, (wrap64 (((rd_T184 l2_0 x7_1).f1) - 1)) = j_ := ⟨_, rfl⟩
              replace H : (if 0 ≤ (ji34) then (if (ji34) < (((rd_T124 l0 ((rd_T184 l2_0 x7_1).f0)).f0).length : Int) then (if 0 ≤ (wrap64 (x7_1 + 1)) then (if (wrap64 (x7_1 + 1)) < (l2_0.length : Int) then (if (!(((rd_T96 ((rd_T124 l0 ((rd_T184 l2_0 x7_1).f0)).f0) (ji34)).f0) == 26) || (!(((rd_T96 ((rd_T124 l0 ((rd_T184 l2_0 x7_1).f0)).f0) (ji34)).f1) == ((rd_T184 l2_0 (wrap64 (x7_1 + 1))).f0)))) = true then (some false) else (spec_l07OK.l0 kj14 l0 l1 (wrap64 (x7_1 + 1)) l2_0 l2_1)) else (none)) else (none)) else (none)) else (none)) = some r := by first | (rw [hji34] at H; exact H) | (simp only [hji34] at H ⊢; exact H)
              have hji34w : (IntKind.i64.wrap (((rd_T184 l2_0 x7_1).f1) - 1)) = ji34 := (i64_w _).trans hji34
              by_cases c35 : 0 ≤ (ji34)
              ·rw [if_pos c35] at H
               have c35b0 : decide (0 ≤ (ji34)) = true := decide_eq_true c35
               clear c35
               by_cases c36 : (ji34) < (((rd_T124 l0 ((rd_T184 l2_0 x7_1).f0)).f0).length : Int)
               ·rw [if_pos c36] at H
                have c36b0 : decide ((ji34) < (((rd_T124 l0 ((rd_T184 l2_0 x7_1).f0)).f0).length : Int)) = true := decide_eq_true c36
                clear c36
                obtain ⟨ji37, hji37⟩ : ∃ j_ : Int, (wrap64 (x7_1 + 1)) = j_ := ⟨_, rfl⟩
                replace H : (if 0 ≤ (ji37) then (if (ji37) < (l2_0.length : Int) then (if (!(((rd_T96 ((rd_T124 l0 ((rd_T184 l2_0 x7_1).f0)).f0) (ji34)).f0) == 26) || (!(((rd_T96 ((rd_T124 l0 ((rd_T184 l2_0 x7_1).f0)).f0) (ji34)).f1) == ((rd_T184 l2_0 (ji37)).f0)))) = true then (some false) else (spec_l07OK.l0 kj14 l0 l1 ji37 l2_0 l2_1)) else (none)) else (none)) = some r := by first | (rw [hji37] at H; exact H) | (simp only [hji37] at H ⊢; exact H)
                have hji37w : (IntKind.i64.wrap (x7_1 + 1)) = ji37 := (i64_w _).trans hji37
                by_cases c38 : 0 ≤ (ji37)
                ·rw [if_pos c38] at H
                 have c38b0 : decide (0 ≤ (ji37)) = true := decide_eq_true c38
                 clear c38
                 by_cases c39 : (ji37) < (l2_0.length : Int)
                 ·rw [if_pos c39] at H
                  have c39b0 : decide ((ji37) < (l2_0.length : Int)) = true := decide_eq_true c39
                  clear c39
                  by_cases c40 : (!(((rd_T96 ((rd_T124 l0 ((rd_T184 l2_0 x7_1).f0)).f0) (ji34)).f0) == 26) || (!(((rd_T96 ((rd_T124 l0 ((rd_T184 l2_0 x7_1).f0)).f0) (ji34)).f1) == ((rd_T184 l2_0 (ji37)).f0)))) = true
                  ·rw [if_pos c40] at H
                   have c40b0 : (!(((rd_T96 ((rd_T124 l0 ((rd_T184 l2_0 x7_1).f0)).f0) (ji34)).f0) == 26) || (!(((rd_T96 ((rd_T124 l0 ((rd_T184 l2_0 x7_1).f0)).f0) (ji34)).f1) == ((rd_T184 l2_0 (ji37)).f0)))) = true := c40
                   clear c40
                   obtain rfl := Option.some.inj H
                   have hnb41 := NB220_222.out
                   have hnc41 := NB222_220.out
                   have hcz42_0 : wc.cell? ⟨gb220, 0, none⟩ = some (.slice (some ad221) l2_0.length c2_0) := (blk_cell BK220.out 0).trans rfl
                   have hcz42_1 : wc.cell? ⟨gb220, 1, none⟩ = some (.slice A2_1 l2_1.length c2_1) := (blk_cell BK220.out 1).trans rfl
                   have hfz42_0 := blk_frozen BK220.out 0
                   have hfz42_1 := blk_frozen BK220.out 1
                   have hcz43_0 : wc.cell? ⟨gb222, 0, none⟩ = some (.int .i64 ((rd_T184 l2_0 x7_1).f0)) := (blk_cell BK222.out 0).trans rfl
                   have hcz43_1 : wc.cell? ⟨gb222, 1, none⟩ = some (.int .i64 ((rd_T184 l2_0 x7_1).f1)) := (blk_cell BK222.out 1).trans rfl
                   have hcz43_2 : wc.cell? ⟨gb222, 2, none⟩ = some (.slice A221_2 ((rd_T184 l2_0 x7_1).f2).length c221_2) := (blk_cell BK222.out 2).trans rfl
                   have hfz43_0 := blk_frozen BK222.out 0
                   have hfz43_1 := blk_frozen BK222.out 1
                   have hfz43_2 := blk_frozen BK222.out 2
                   have p225 : 0 ≤ ((ji34) : Int) := zA
                   have q225 : (ji34) < (((rd_T124 l0 ((rd_T184 l2_0 x7_1).f0)).f0).length : Int) := zA
                   obtain ⟨ad225, e225, hx225_0, hx225_1⟩ := at_T96 HR224_0.out (ji34) p225 q225
                   cases e225
                   replace hx225_0 := zX HB.out hx225_0
                   replace hx225_1 := zX HB.out hx225_1
                   replace p225 := eq_true p225
                   replace q225 := eq_true q225
                   have p226 : 0 ≤ ((ji37) : Int) := zA
                   have q226 : (ji37) < (l2_0.length : Int) := zA
                   obtain ⟨ad226, A226_2, c226_2, e226, hx226_0, hx226_1, hx226_2, hl226_2, hi226_2⟩ := at_T184 HR2_0.out (ji37) p226 q226
                   obtain rfl : ad221 = ad226 := (by injection e226)
                   replace hx226_0 := zX HB.out hx226_0
                   replace hx226_1 := zX HB.out hx226_1
                   replace hx226_2 := zX HB.out hx226_2
                   have HR226_2 := zQ hi226_2
                   have HC226_2 := zQ hl226_2
                   clear hi226_2 hl226_2
                   replace p226 := eq_true p226
                   replace q226 := eq_true q226
                   go_wp2
                   repeat (go_quiet (fail); try go_wp2)
                   go_ret
                   exact ⟨by first | rfl | (simp [errW_none, errW_some] <;> rfl) | (simp only [← hji34, ← hji37]; first | rfl | (simp [errW_none, errW_some] <;> rfl)) | (simp [*, errW_none, errW_some] <;> rfl), zB HB.out⟩
                  ·rw [if_neg c40] at H
                   have c40b0 : (!(((rd_T96 ((rd_T124 l0 ((rd_T184 l2_0 x7_1).f0)).f0) (ji34)).f0) == 26) || (!(((rd_T96 ((rd_T124 l0 ((rd_T184 l2_0 x7_1).f0)).f0) (ji34)).f1) == ((rd_T184 l2_0 (ji37)).f0)))) = false := by simpa using c40
                   clear c40
                   have H' := zQ H
                   clear H
                   have hnb44 := NB220_222.out
                   have hnc44 := NB222_220.out
                   have hcz45_0 : wc.cell? ⟨gb220, 0, none⟩ = some (.slice (some ad221) l2_0.length c2_0) := (blk_cell BK220.out 0).trans rfl
                   have hcz45_1 : wc.cell? ⟨gb220, 1, none⟩ = some (.slice A2_1 l2_1.length c2_1) := (blk_cell BK220.out 1).trans rfl
                   have hfz45_0 := blk_frozen BK220.out 0
                   have hfz45_1 := blk_frozen BK220.out 1
                   have hcz46_0 : wc.cell? ⟨gb222, 0, none⟩ = some (.int .i64 ((rd_T184 l2_0 x7_1).f0)) := (blk_cell BK222.out 0).trans rfl
                   have hcz46_1 : wc.cell? ⟨gb222, 1, none⟩ = some (.int .i64 ((rd_T184 l2_0 x7_1).f1)) := (blk_cell BK222.out 1).trans rfl
                   have hcz46_2 : wc.cell? ⟨gb222, 2, none⟩ = some (.slice A221_2 ((rd_T184 l2_0 x7_1).f2).length c221_2) := (blk_cell BK222.out 2).trans rfl
                   have hfz46_0 := blk_frozen BK222.out 0
                   have hfz46_1 := blk_frozen BK222.out 1
                   have hfz46_2 := blk_frozen BK222.out 2
                   have p225 : 0 ≤ ((ji34) : Int) := zA
                   have q225 : (ji34) < (((rd_T124 l0 ((rd_T184 l2_0 x7_1).f0)).f0).length : Int) := zA
                   obtain ⟨ad225, e225, hx225_0, hx225_1⟩ := at_T96 HR224_0.out (ji34) p225 q225
                   cases e225
                   replace hx225_0 := zX HB.out hx225_0
                   replace hx225_1 := zX HB.out hx225_1
                   replace p225 := eq_true p225
                   replace q225 := eq_true q225
                   have p226 : 0 ≤ ((ji37) : Int) := zA
                   have q226 : (ji37) < (l2_0.length : Int) := zA
                   obtain ⟨ad226, A226_2, c226_2, e226, hx226_0, hx226_1, hx226_2, hl226_2, hi226_2⟩ := at_T184 HR2_0.out (ji37) p226 q226
                   obtain rfl : ad221 = ad226 := (by injection e226)
                   replace hx226_0 := zX HB.out hx226_0
                   replace hx226_1 := zX HB.out hx226_1
                   replace hx226_2 := zX HB.out hx226_2
                   have HR226_2 := zQ hi226_2
                   have HC226_2 := zQ hl226_2
                   clear hi226_2 hl226_2
                   replace p226 := eq_true p226
                   replace q226 := eq_true q226
                   go_wp2
                   repeat (go_quiet (fail); try go_wp2)
                   go_roundg kj14
                   case measure => have := HK1.out; have := HJ14.out; omega
                   case rel => exact ⟨(ji37), (by first | rfl | (simp; done) | (simp only [← hji37] <;> (first | rfl | simp)) | (simp [*]; done)), H', ⟨by have := HK1.out; have := HJ14.out; omega⟩, ⟨by (with_reducible repeat (first | refine blk_drewN ?_ _ | refine blk_drew ?_ | refine blk_alloc ?_ _)); exact BK220.out⟩, ⟨zB HB.out⟩⟩
                 ·rw [if_neg c39] at H
                  exact absurd H (by simp)
                ·rw [if_neg c38] at H
                 exact absurd H (by simp)
               ·rw [if_neg c36] at H
                exact absurd H (by simp)
              ·rw [if_neg c35] at H
               exact absurd H (by simp)
            ·rw [if_neg c29] at H
             have c29b0 : decide (x7_1 < (wrap64 ((l2_0.length : Int) - 1))) = false := decide_eq_false c29
             clear c29
             have H' := zQ H
             clear H
             have hnb47 := NB220_222.out
             have hnc47 := NB222_220.out
             have hcz48_0 : wc.cell? ⟨gb220, 0, none⟩ = some (.slice (some ad221) l2_0.length c2_0) := (blk_cell BK220.out 0).trans rfl
             have hcz48_1 : wc.cell? ⟨gb220, 1, none⟩ = some (.slice A2_1 l2_1.length c2_1) := (blk_cell BK220.out 1).trans rfl
             have hfz48_0 := blk_frozen BK220.out 0
             have hfz48_1 := blk_frozen BK220.out 1
             go_wp2
             repeat (go_quiet (fail); try go_wp2)
             go_roundg kj14
             case measure => have := HK1.out; have := HJ14.out; omega
             case rel => exact ⟨(wrap64 (x7_1 + 1)), (by first | rfl | (simp; done) | (simp [*]; done)), H', ⟨by have := HK1.out; have := HJ14.out; omega⟩, ⟨by (with_reducible repeat (first | refine blk_drewN ?_ _ | refine blk_drew ?_ | refine blk_alloc ?_ _)); exact BK220.out⟩, ⟨zB HB.out⟩⟩
        ·rw [if_neg c14] at H
         exact absurd H (by simp)
       ·rw [if_neg c13] at H
        exact absurd H (by simp)
      ·replace c12 := Bool.eq_false_iff.mpr c12
       subst c12
       have H1 : (some false) = some r := by rw [if_neg (show ¬ (false = true) by decide)] at H; exact H
       clear H
       have H := H1
       clear H1
       obtain rfl := Option.some.inj H
       have hcz49_0 : wr.cell? ⟨gb220, 0, none⟩ = some (.slice A2_0 l2_0.length c2_0) := (blk_cell BK220.out 0).trans rfl
       have hcz49_1 : wr.cell? ⟨gb220, 1, none⟩ = some (.slice A2_1 l2_1.length c2_1) := (blk_cell BK220.out 1).trans rfl
       have hfz49_0 := blk_frozen BK220.out 0
       have hfz49_1 := blk_frozen BK220.out 1
       have p221 : 0 ≤ (x7_1 : Int) := zA
       have q221 : x7_1 < (l2_0.length : Int) := zA
       obtain ⟨ad221, A221_2, c221_2, e221, hx221_0, hx221_1, hx221_2, hl221_2, hi221_2⟩ := at_T184 HR2_0.out x7_1 p221 q221
       cases e221
       replace hx221_0 := zX HB.out hx221_0
       replace hx221_1 := zX HB.out hx221_1
       replace hx221_2 := zX HB.out hx221_2
       have HR221_2 := zQ hi221_2
       have HC221_2 := zQ hl221_2
       clear hi221_2 hl221_2
       replace p221 := eq_true p221
       replace q221 := eq_true q221
       go_wp2_with (first | ((with_reducible refine gate_dst (N := 8) rfl ?_); (try (refine gate_guard (by rfl) ?_; dsimp only)); refine box_event ?hg (N := 8) ?hd (cs := #[.int .i64 0, .int .i64 0, .slice none 0 0]) (t := 184) ?hr ?_; (case hd => rfl); (case hg => rfl); (case hr => first | (go_simp; done) | (go_simp; rfl)); intro gb222 hg w50 hbox hb; have n0_ := zQ (zL BK220.out hb); have n1_ := zQ (below_step (zB HB.out) hb); have n2_ := zQ (hbox); have n3_ := zQ ((zG hg HB.out)); have n4_ := zQ ((zG hg HB.out)); have n5_ := zQ ((zN hg BK220.out)); have n6_ := zQ ((zM hg BK220.out)); clear BK220; clear HB; have BK220 := n0_; have HB := n1_; have BK222 := n2_; have GW222 := n3_; have GE222 := n4_; have NB220_222 := n5_; have NB222_220 := n6_; clear n0_ n1_ n2_ n3_ n4_ n5_ n6_; clear hb hbox hg; have hnb51 := NB222_220.out; have hnc51 := NB220_222.out; obtain ⟨hcz52_0, hcz52_1, hcz52_2, hfz52_0, hfz52_1, hfz52_2⟩ := zc3 BK222.out) | (go_at_call 173; (with_reducible refine (spec_l07Frame.calls k1 _ _ l0 ((rd_T184 l2_0 x7_1).f0) ((rd_T184 l2_0 x7_1).f1) _ _ ((rd_T184 l2_0 x7_1).f2) false _ ?side1 ?side2 ?side3 ?side4 A11.out).mono ?_); (case side1 => exact Kd.C_below HR0.out (zB HB.out)); (case side2 => exact HC0.out); (case side3 => exact Kd.C_below HR221_2.out (zB HB.out)); (case side4 => exact HC221_2.out); rintro e w53 ⟨rfl, hb⟩; have n0_ := zQ (zL BK220.out hb); have n1_ := zQ (blk_below (g := gb222) (o := .cells #[.int .i64 ((rd_T184 l2_0 x7_1).f0), .int .i64 ((rd_T184 l2_0 x7_1).f1), .slice A221_2 ((rd_T184 l2_0 x7_1).f2).length c221_2] 184 (0, 0)) (by (with_reducible repeat (first | refine blk_drewN ?_ _ | refine blk_drew ?_ | refine blk_alloc ?_ _)); refine blk_put (cs := #[.int .i64 ((rd_T184 l2_0 x7_1).f0), .int .i64 ((rd_T184 l2_0 x7_1).f1), .slice none 0 0]) ?_ 2 _ rfl; (with_reducible repeat (first | refine blk_drewN ?_ _ | refine blk_drew ?_ | refine blk_alloc ?_ _)); refine blk_put (cs := #[.int .i64 ((rd_T184 l2_0 x7_1).f0), .int .i64 0, .slice none 0 0]) ?_ 1 _ rfl; (with_reducible repeat (first | refine blk_drewN ?_ _ | refine blk_drew ?_ | refine blk_alloc ?_ _)); refine blk_put (cs := #[.int .i64 0, .int .i64 0, .slice none 0 0]) ?_ 0 _ rfl; (with_reducible repeat (first | refine blk_drewN ?_ _ | refine blk_drew ?_ | refine blk_alloc ?_ _)); exact BK222.out) hb); have n2_ := zQ (below_step (zB HB.out) hb); clear BK220; clear BK222; clear HB; have BK220 := n0_; have BK222 := n1_; have HB := n2_; clear n0_ n1_ n2_; (try clear hb); (try clear hb2); (try clear hk); (try clear hi)))
       repeat (go_quiet (first | ((with_reducible refine gate_dst (N := 8) rfl ?_); (try (refine gate_guard (by rfl) ?_; dsimp only)); refine box_event ?hg (N := 8) ?hd (cs := #[.int .i64 0, .int .i64 0, .slice none 0 0]) (t := 184) ?hr ?_; (case hd => rfl); (case hg => rfl); (case hr => first | (go_simp; done) | (go_simp; rfl)); intro gb222 hg w50 hbox hb; have n0_ := zQ (zL BK220.out hb); have n1_ := zQ (below_step (zB HB.out) hb); have n2_ := zQ (hbox); have n3_ := zQ ((zG hg HB.out)); have n4_ := zQ ((zG hg HB.out)); have n5_ := zQ ((zN hg BK220.out)); have n6_ := zQ ((zM hg BK220.out)); clear BK220; clear HB; have BK220 := n0_; have HB := n1_; have BK222 := n2_; have GW222 := n3_; have GE222 := n4_; have NB220_222 := n5_; have NB222_220 := n6_; clear n0_ n1_ n2_ n3_ n4_ n5_ n6_; clear hb hbox hg; have hnb51 := NB222_220.out; have hnc51 := NB220_222.out; obtain ⟨hcz52_0, hcz52_1, hcz52_2, hfz52_0, hfz52_1, hfz52_2⟩ := zc3 BK222.out) | (go_at_call 173; (with_reducible refine (spec_l07Frame.calls k1 _ _ l0 ((rd_T184 l2_0 x7_1).f0) ((rd_T184 l2_0 x7_1).f1) _ _ ((rd_T184 l2_0 x7_1).f2) false _ ?side1 ?side2 ?side3 ?side4 A11.out).mono ?_); (case side1 => exact Kd.C_below HR0.out (zB HB.out)); (case side2 => exact HC0.out); (case side3 => exact Kd.C_below HR221_2.out (zB HB.out)); (case side4 => exact HC221_2.out); rintro e w53 ⟨rfl, hb⟩; have n0_ := zQ (zL BK220.out hb); have n1_ := zQ (blk_below (g := gb222) (o := .cells #[.int .i64 ((rd_T184 l2_0 x7_1).f0), .int .i64 ((rd_T184 l2_0 x7_1).f1), .slice A221_2 ((rd_T184 l2_0 x7_1).f2).length c221_2] 184 (0, 0)) (by (with_reducible repeat (first | refine blk_drewN ?_ _ | refine blk_drew ?_ | refine blk_alloc ?_ _)); refine blk_put (cs := #[.int .i64 ((rd_T184 l2_0 x7_1).f0), .int .i64 ((rd_T184 l2_0 x7_1).f1), .slice none 0 0]) ?_ 2 _ rfl; (with_reducible repeat (first | refine blk_drewN ?_ _ | refine blk_drew ?_ | refine blk_alloc ?_ _)); refine blk_put (cs := #[.int .i64 ((rd_T184 l2_0 x7_1).f0), .int .i64 0, .slice none 0 0]) ?_ 1 _ rfl; (with_reducible repeat (first | refine blk_drewN ?_ _ | refine blk_drew ?_ | refine blk_alloc ?_ _)); refine blk_put (cs := #[.int .i64 0, .int .i64 0, .slice none 0 0]) ?_ 0 _ rfl; (with_reducible repeat (first | refine blk_drewN ?_ _ | refine blk_drew ?_ | refine blk_alloc ?_ _)); exact BK222.out) hb); have n2_ := zQ (below_step (zB HB.out) hb); clear BK220; clear BK222; clear HB; have BK220 := n0_; have BK222 := n1_; have HB := n2_; clear n0_ n1_ n2_; (try clear hb); (try clear hb2); (try clear hk); (try clear hi))); try go_wp2_with (first | ((with_reducible refine gate_dst (N := 8) rfl ?_); (try (refine gate_guard (by rfl) ?_; dsimp only)); refine box_event ?hg (N := 8) ?hd (cs := #[.int .i64 0, .int .i64 0, .slice none 0 0]) (t := 184) ?hr ?_; (case hd => rfl); (case hg => rfl); (case hr => first | (go_simp; done) | (go_simp; rfl)); intro gb222 hg w50 hbox hb; have n0_ := zQ (zL BK220.out hb); have n1_ := zQ (below_step (zB HB.out) hb); have n2_ := zQ (hbox); have n3_ := zQ ((zG hg HB.out)); have n4_ := zQ ((zG hg HB.out)); have n5_ := zQ ((zN hg BK220.out)); have n6_ := zQ ((zM hg BK220.out)); clear BK220; clear HB; have BK220 := n0_; have HB := n1_; have BK222 := n2_; have GW222 := n3_; have GE222 := n4_; have NB220_222 := n5_; have NB222_220 := n6_; clear n0_ n1_ n2_ n3_ n4_ n5_ n6_; clear hb hbox hg; have hnb51 := NB222_220.out; have hnc51 := NB220_222.out; obtain ⟨hcz52_0, hcz52_1, hcz52_2, hfz52_0, hfz52_1, hfz52_2⟩ := zc3 BK222.out) | (go_at_call 173; (with_reducible refine (spec_l07Frame.calls k1 _ _ l0 ((rd_T184 l2_0 x7_1).f0) ((rd_T184 l2_0 x7_1).f1) _ _ ((rd_T184 l2_0 x7_1).f2) false _ ?side1 ?side2 ?side3 ?side4 A11.out).mono ?_); (case side1 => exact Kd.C_below HR0.out (zB HB.out)); (case side2 => exact HC0.out); (case side3 => exact Kd.C_below HR221_2.out (zB HB.out)); (case side4 => exact HC221_2.out); rintro e w53 ⟨rfl, hb⟩; have n0_ := zQ (zL BK220.out hb); have n1_ := zQ (blk_below (g := gb222) (o := .cells #[.int .i64 ((rd_T184 l2_0 x7_1).f0), .int .i64 ((rd_T184 l2_0 x7_1).f1), .slice A221_2 ((rd_T184 l2_0 x7_1).f2).length c221_2] 184 (0, 0)) (by (with_reducible repeat (first | refine blk_drewN ?_ _ | refine blk_drew ?_ | refine blk_alloc ?_ _)); refine blk_put (cs := #[.int .i64 ((rd_T184 l2_0 x7_1).f0), .int .i64 ((rd_T184 l2_0 x7_1).f1), .slice none 0 0]) ?_ 2 _ rfl; (with_reducible repeat (first | refine blk_drewN ?_ _ | refine blk_drew ?_ | refine blk_alloc ?_ _)); refine blk_put (cs := #[.int .i64 ((rd_T184 l2_0 x7_1).f0), .int .i64 0, .slice none 0 0]) ?_ 1 _ rfl; (with_reducible repeat (first | refine blk_drewN ?_ _ | refine blk_drew ?_ | refine blk_alloc ?_ _)); refine blk_put (cs := #[.int .i64 0, .int .i64 0, .slice none 0 0]) ?_ 0 _ rfl; (with_reducible repeat (first | refine blk_drewN ?_ _ | refine blk_drew ?_ | refine blk_alloc ?_ _)); exact BK222.out) hb); have n2_ := zQ (below_step (zB HB.out) hb); clear BK220; clear BK222; clear HB; have BK220 := n0_; have BK222 := n1_; have HB := n2_; clear n0_ n1_ n2_; (try clear hb); (try clear hb2); (try clear hk); (try clear hi))))
       go_ret
       exact ⟨by first | rfl | (simp [errW_none, errW_some] <;> rfl) | (simp [*, errW_none, errW_some] <;> rfl), zB HB.out⟩
     ·rw [if_neg c10] at H
      exact absurd H (by simp)
    ·rw [if_neg c9] at H
     have c9b0 : decide (x7_1 < (l2_0.length : Int)) = false := decide_eq_false c9
     clear c9
     replace H := Option.bind_eq_some_iff.mp H
     obtain ⟨t227, A540, H⟩ := H
     replace H : (if (t227.size : Int) = (l2_1.length : Int) then (spec_l07OK.l1 k1 t227 0 l2_0 l2_1) else (some false)) = some r := H
     have A54 := zQ A540
     clear A540
     by_cases c55 : (t227.size : Int) = (l2_1.length : Int)
     ·rw [if_pos c55] at H
      have c55b0 : ((t227.size : Int) == (l2_1.length : Int)) = true := beq_iff_eq.mpr c55
      have c55b1 : ((t227.size : Int) != (l2_1.length : Int)) = false := bne_eq_false_iff_eq.mpr c55
      have c55b2 : (t227.size == l2_1.length) = true := by first | simpa using c55 | (simp at c55 ⊢; omega)
      clear c55
      have H' := zQ H
      clear H
      have hcz56_0 : wr.cell? ⟨gb220, 0, none⟩ = some (.slice A2_0 l2_0.length c2_0) := (blk_cell BK220.out 0).trans rfl
      have hcz56_1 : wr.cell? ⟨gb220, 1, none⟩ = some (.slice A2_1 l2_1.length c2_1) := (blk_cell BK220.out 1).trans rfl
      have hfz56_0 := blk_frozen BK220.out 0
      have hfz56_1 := blk_frozen BK220.out 1
      go_wp2_with (first | (go_at_call 174; (with_reducible refine (spec_l07Types.calls k1 _ _ l0 _ _ l1 _ _ l2_0 _ _ l2_1 t227 _ ?side1 ?side2 ?side3 ?side4 ?side5 ?side6 ?side7 ?side8 A54.out).mono ?_); (case side1 => exact zC (Kd.C_below HR0.out HB.out)); (case side2 => exact HC0.out); (case side3 => exact zC (Kd.C_below HR1.out HB.out)); (case side4 => exact HC1.out); (case side5 => exact zC (Kd.C_below HR2_0.out HB.out)); (case side6 => exact HC2_0.out); (case side7 => exact zC (Kd.C_below HR2_1.out HB.out)); (case side8 => exact HC2_1.out); rintro e w57 ⟨rfl, hb⟩; have n0_ := zQ (zL BK220.out hb); have n1_ := zQ (below_step (zB HB.out) hb); clear BK220; clear HB; have BK220 := n0_; have HB := n1_; clear n0_ n1_; (try clear hb); (try clear hb2); (try clear hk); (try clear hi); obtain ⟨hcz58_0, hcz58_1, hfz58_0, hfz58_1⟩ := zc2 BK220.out))
      repeat (go_quiet (first | (go_at_call 174; (with_reducible refine (spec_l07Types.calls k1 _ _ l0 _ _ l1 _ _ l2_0 _ _ l2_1 t227 _ ?side1 ?side2 ?side3 ?side4 ?side5 ?side6 ?side7 ?side8 A54.out).mono ?_); (case side1 => exact zC (Kd.C_below HR0.out HB.out)); (case side2 => exact HC0.out); (case side3 => exact zC (Kd.C_below HR1.out HB.out)); (case side4 => exact HC1.out); (case side5 => exact zC (Kd.C_below HR2_0.out HB.out)); (case side6 => exact HC2_0.out); (case side7 => exact zC (Kd.C_below HR2_1.out HB.out)); (case side8 => exact HC2_1.out); rintro e w57 ⟨rfl, hb⟩; have n0_ := zQ (zL BK220.out hb); have n1_ := zQ (below_step (zB HB.out) hb); clear BK220; clear HB; have BK220 := n0_; have HB := n1_; clear n0_ n1_; (try clear hb); (try clear hb2); (try clear hk); (try clear hi); obtain ⟨hcz58_0, hcz58_1, hfz58_0, hfz58_1⟩ := zc2 BK220.out)); try go_wp2_with (first | (go_at_call 174; (with_reducible refine (spec_l07Types.calls k1 _ _ l0 _ _ l1 _ _ l2_0 _ _ l2_1 t227 _ ?side1 ?side2 ?side3 ?side4 ?side5 ?side6 ?side7 ?side8 A54.out).mono ?_); (case side1 => exact zC (Kd.C_below HR0.out HB.out)); (case side2 => exact HC0.out); (case side3 => exact zC (Kd.C_below HR1.out HB.out)); (case side4 => exact HC1.out); (case side5 => exact zC (Kd.C_below HR2_0.out HB.out)); (case side6 => exact HC2_0.out); (case side7 => exact zC (Kd.C_below HR2_1.out HB.out)); (case side8 => exact HC2_1.out); rintro e w57 ⟨rfl, hb⟩; have n0_ := zQ (zL BK220.out hb); have n1_ := zQ (below_step (zB HB.out) hb); clear BK220; clear HB; have BK220 := n0_; have HB := n1_; clear n0_ n1_; (try clear hb); (try clear hb2); (try clear hk); (try clear hi); obtain ⟨hcz58_0, hcz58_1, hfz58_0, hfz58_1⟩ := zc2 BK220.out)))
      go_loopg [11] k1 (fun kq v11 w' => ∃ (x11_2 : Int), v11 = .int .i64 x11_2 ∧ Aside0 (spec_l07OK.l1 kq t227 x11_2 l2_0 l2_1 = some r) ∧ Aside0 (kq ≤ k1) ∧ Aside0 (w'.heap[gb220]? = some (.cells #[(.slice A2_0 l2_0.length c2_0), (.slice A2_1 l2_1.length c2_1)] 45 (0, 0))) ∧ Aside0 (Below w.heap.size w w'))
      case atStart => exact ⟨(0), (by first | rfl | (simp; done) | (simp [*]; done)), H', ⟨Nat.le_refl _⟩, ⟨by (with_reducible repeat (first | refine blk_drewN ?_ _ | refine blk_drew ?_ | refine blk_alloc ?_ _)); exact BK220.out⟩, ⟨zB HB.out⟩⟩
      case round =>
       clear H'
       try clear c1
       try clear c2
       try clear p2
       try clear q2
       try clear hx2
       try clear c3
       try clear c4
       try clear c4b0
       try clear c4b1
       try clear c5
       try clear p6
       try clear c9
       try clear c9b0
       try clear c10
       try clear c10b0
       try clear c12
       try clear c13
       try clear c13b0
       try clear c14
       try clear c14b0
       try clear c18
       try clear c22
       try clear c22b0
       try clear c22b1
       try clear p22
       try clear q22
       try clear hx22
       try clear c23
       try clear c26
       try clear c28
       try clear c29
       try clear c29b0
       try clear c30
       try clear c30b0
       try clear c30b1
       try clear c31
       try clear c35
       try clear c35b0
       try clear c36
       try clear c36b0
       try clear c38
       try clear c38b0
       try clear c39
       try clear c39b0
       try clear c40
       try clear c40b0
       try clear c41
       try clear c44
       try clear c47
       try clear c51
       try clear c55
       try clear c55b0
       try clear c55b1
       try clear c55b2
       try clear hcz16_0
       try clear hcz16_1
       try clear hcz19_0
       try clear hcz19_1
       try clear hcz19_2
       try clear hcz21_0
       try clear hcz21_1
       try clear hcz21_2
       try clear hcz24_0
       try clear hcz24_1
       try clear hcz25_0
       try clear hcz25_1
       try clear hcz25_2
       try clear hcz27_0
       try clear hcz27_1
       try clear hcz32_0
       try clear hcz32_1
       try clear hcz33_0
       try clear hcz33_1
       try clear hcz33_2
       try clear hcz42_0
       try clear hcz42_1
       try clear hcz43_0
       try clear hcz43_1
       try clear hcz43_2
       try clear hcz45_0
       try clear hcz45_1
       try clear hcz46_0
       try clear hcz46_1
       try clear hcz46_2
       try clear hcz48_0
       try clear hcz48_1
       try clear hcz49_0
       try clear hcz49_1
       try clear hcz52_0
       try clear hcz52_1
       try clear hcz52_2
       try clear hcz56_0
       try clear hcz56_1
       try clear hcz58_0
       try clear hcz58_1
       try clear hcz6_0
       try clear hcz6_1
       try clear hcz8_0
       try clear hcz8_1
       try clear hfz16_0
       try clear hfz16_1
       try clear hfz19_0
       try clear hfz19_1
       try clear hfz19_2
       try clear hfz21_0
       try clear hfz21_1
       try clear hfz21_2
       try clear hfz24_0
       try clear hfz24_1
       try clear hfz25_0
       try clear hfz25_1
       try clear hfz25_2
       try clear hfz27_0
       try clear hfz27_1
       try clear hfz32_0
       try clear hfz32_1
       try clear hfz33_0
       try clear hfz33_1
       try clear hfz33_2
       try clear hfz42_0
       try clear hfz42_1
       try clear hfz43_0
       try clear hfz43_1
       try clear hfz43_2
       try clear hfz45_0
       try clear hfz45_1
       try clear hfz46_0
       try clear hfz46_1
       try clear hfz46_2
       try clear hfz48_0
       try clear hfz48_1
       try clear hfz49_0
       try clear hfz49_1
       try clear hfz52_0
       try clear hfz52_1
       try clear hfz52_2
       try clear hfz56_0
       try clear hfz56_1
       try clear hfz58_0
       try clear hfz58_1
       try clear hfz6_0
       try clear hfz6_1
       try clear hfz8_0
       try clear hfz8_1
       try clear hx221_0
       try clear hx221_1
       try clear hx221_2
       try clear hx224_0
       try clear hx225_0
       try clear hx225_1
       try clear hx226_0
       try clear hx226_1
       try clear hx226_2
       try clear p2
       try clear p22
       try clear p221
       try clear p224
       try clear p225
       try clear p226
       try clear p6
       try clear q2
       try clear q22
       try clear q221
       try clear q224
       try clear q225
       try clear q226
       obtain ⟨x11_2, rfl, HA, HK2, BK220, HB⟩ := hrel
       cases gk with
       | zero => exact absurd HA.out (by simp [spec_l07OK.l1])
       | succ k2 =>
        have H := HA.out
        clear HA
        simp only [spec_l07OK.l1] at H
        by_cases c59 : x11_2 < (t227.size : Int)
        ·rw [if_pos c59] at H
         have c59b0 : decide (x11_2 < (t227.size : Int)) = true := decide_eq_true c59
         clear c59
         by_cases c60 : 0 ≤ x11_2
         ·rw [if_pos c60] at H
          have c60b0 : decide (0 ≤ x11_2) = true := decide_eq_true c60
          clear c60
          by_cases c62 : (bt t227 x11_2) = 98
          ·rw [if_pos c62] at H
           have c62b0 : ((bt t227 x11_2) == 98) = true := beq_iff_eq.mpr c62
           have c62b1 : ((bt t227 x11_2) != 98) = false := bne_eq_false_iff_eq.mpr c62
           clear c62
           by_cases c63 : x11_2 < (l2_1.length : Int)
           ·rw [if_pos c63] at H
            have c63b0 : decide (x11_2 < (l2_1.length : Int)) = true := decide_eq_true c63
            clear c63
            replace H := Option.bind_eq_some_iff.mp H
            obtain ⟨t229, A640, H⟩ := H
            replace H : (if t229 = true then ((spec_l01Int.f (rd l2_1 x11_2)).bind fun t231 => (if t231 = true then (spec_l07OK.l1 k2 t227 (wrap64 (x11_2 + 1)) l2_0 l2_1) else (some false))) else (some false)) = some r := H
            have A64 := zQ A640
            clear A640
            by_cases c65 : t229 = true
            ·subst c65
             have H1 : ((spec_l01Int.f (rd l2_1 x11_2)).bind fun t231 => (if t231 = true then (spec_l07OK.l1 k2 t227 (wrap64 (x11_2 + 1)) l2_0 l2_1) else (some false))) = some r := by rw [if_pos rfl] at H; exact H
             clear H
             have H := H1
             clear H1
             replace H := Option.bind_eq_some_iff.mp H
             obtain ⟨t231, A660, H⟩ := H
             replace H : (if t231 = true then (spec_l07OK.l1 k2 t227 (wrap64 (x11_2 + 1)) l2_0 l2_1) else (some false)) = some r := H
             have A66 := zQ A660
             clear A660
             by_cases c67 : t231 = true
             ·subst c67
              have H1 : (spec_l07OK.l1 k2 t227 (wrap64 (x11_2 + 1)) l2_0 l2_1) = some r := by rw [if_pos rfl] at H; exact H
              clear H
              have H := H1
              clear H1
              have H' := zQ H
              clear H
              have p61 : 0 ≤ (x11_2 : Int) := zA
              have q61 : x11_2 < (t227.size : Int) := zA
              have hx61 := bt_at t227 x11_2
              replace p61 := eq_true p61
              replace q61 := eq_true q61
              have hcz68_0 : wr.cell? ⟨gb220, 0, none⟩ = some (.slice A2_0 l2_0.length c2_0) := (blk_cell BK220.out 0).trans rfl
              have hcz68_1 : wr.cell? ⟨gb220, 1, none⟩ = some (.slice A2_1 l2_1.length c2_1) := (blk_cell BK220.out 1).trans rfl
              have hfz68_0 := blk_frozen BK220.out 0
              have hfz68_1 := blk_frozen BK220.out 1
              have p228 : 0 ≤ (x11_2 : Int) := zA
              have q228 : x11_2 < (l2_1.length : Int) := zA
              obtain ⟨ad228, e228, hx228_0⟩ := Kd.at_int HR2_1.out x11_2 p228 q228
              cases e228
              replace hx228_0 := zX HB.out hx228_0
              replace p228 := eq_true p228
              replace q228 := eq_true q228
              go_wp2_with (first | (go_at_call 78; (with_reducible refine (spec_l01In.calls (rd l2_1 x11_2) 0 1 true _ A64.out).mono ?_); rintro e w' ⟨rfl, ⟨nd, rfl⟩⟩; (try first | exact ⟨rfl, _, World.drewN_drewN _ _ _⟩ | exact ⟨rfl, _, Eq.trans (World.drewN_drewN _ _ _) (congrArg (World.drewN _) (Nat.add_assoc _ _ _))⟩); have p230 : 0 ≤ (x11_2 : Int) := zA; have q230 : x11_2 < (l2_1.length : Int) := zA; obtain ⟨ad230, e230, hx230_0⟩ := Kd.at_int HR2_1.out x11_2 p230 q230; obtain rfl : ad228 = ad230 := (by injection e230); replace hx230_0 := zX HB.out hx230_0; replace p230 := eq_true p230; replace q230 := eq_true q230) | (go_at_call 175; (with_reducible refine (spec_l01Int.calls (rd l2_1 x11_2) true _ A66.out).mono ?_); rintro e w' ⟨rfl, ⟨nd, rfl⟩⟩; (try first | exact ⟨rfl, _, World.drewN_drewN _ _ _⟩ | exact ⟨rfl, _, Eq.trans (World.drewN_drewN _ _ _) (congrArg (World.drewN _) (Nat.add_assoc _ _ _))⟩)))
              repeat (go_quiet (first | (go_at_call 78; (with_reducible refine (spec_l01In.calls (rd l2_1 x11_2) 0 1 true _ A64.out).mono ?_); rintro e w' ⟨rfl, ⟨nd, rfl⟩⟩; (try first | exact ⟨rfl, _, World.drewN_drewN _ _ _⟩ | exact ⟨rfl, _, Eq.trans (World.drewN_drewN _ _ _) (congrArg (World.drewN _) (Nat.add_assoc _ _ _))⟩); have p230 : 0 ≤ (x11_2 : Int) := zA; have q230 : x11_2 < (l2_1.length : Int) := zA; obtain ⟨ad230, e230, hx230_0⟩ := Kd.at_int HR2_1.out x11_2 p230 q230; obtain rfl : ad228 = ad230 := (by injection e230); replace hx230_0 := zX HB.out hx230_0; replace p230 := eq_true p230; replace q230 := eq_true q230) | (go_at_call 175; (with_reducible refine (spec_l01Int.calls (rd l2_1 x11_2) true _ A66.out).mono ?_); rintro e w' ⟨rfl, ⟨nd, rfl⟩⟩; (try first | exact ⟨rfl, _, World.drewN_drewN _ _ _⟩ | exact ⟨rfl, _, Eq.trans (World.drewN_drewN _ _ _) (congrArg (World.drewN _) (Nat.add_assoc _ _ _))⟩))); try go_wp2_with (first | (go_at_call 78; (with_reducible refine (spec_l01In.calls (rd l2_1 x11_2) 0 1 true _ A64.out).mono ?_); rintro e w' ⟨rfl, ⟨nd, rfl⟩⟩; (try first | exact ⟨rfl, _, World.drewN_drewN _ _ _⟩ | exact ⟨rfl, _, Eq.trans (World.drewN_drewN _ _ _) (congrArg (World.drewN _) (Nat.add_assoc _ _ _))⟩); have p230 : 0 ≤ (x11_2 : Int) := zA; have q230 : x11_2 < (l2_1.length : Int) := zA; obtain ⟨ad230, e230, hx230_0⟩ := Kd.at_int HR2_1.out x11_2 p230 q230; obtain rfl : ad228 = ad230 := (by injection e230); replace hx230_0 := zX HB.out hx230_0; replace p230 := eq_true p230; replace q230 := eq_true q230) | (go_at_call 175; (with_reducible refine (spec_l01Int.calls (rd l2_1 x11_2) true _ A66.out).mono ?_); rintro e w' ⟨rfl, ⟨nd, rfl⟩⟩; (try first | exact ⟨rfl, _, World.drewN_drewN _ _ _⟩ | exact ⟨rfl, _, Eq.trans (World.drewN_drewN _ _ _) (congrArg (World.drewN _) (Nat.add_assoc _ _ _))⟩))))
              go_roundg k2
              case measure => have := HK1.out; have := HK2.out; omega
              case rel => exact ⟨(wrap64 (x11_2 + 1)), (by first | rfl | (simp; done) | (simp [*]; done)), H', ⟨by have := HK1.out; have := HK2.out; omega⟩, ⟨by (with_reducible repeat (first | refine blk_drewN ?_ _ | refine blk_drew ?_ | refine blk_alloc ?_ _)); exact BK220.out⟩, ⟨zB HB.out⟩⟩
             ·replace c67 := Bool.eq_false_iff.mpr c67
              subst c67
              have H1 : (some false) = some r := by rw [if_neg (show ¬ (false = true) by decide)] at H; exact H
              clear H
              have H := H1
              clear H1
              obtain rfl := Option.some.inj H
              have p61 : 0 ≤ (x11_2 : Int) := zA
              have q61 : x11_2 < (t227.size : Int) := zA
              have hx61 := bt_at t227 x11_2
              replace p61 := eq_true p61
              replace q61 := eq_true q61
              have hcz69_0 : wr.cell? ⟨gb220, 0, none⟩ = some (.slice A2_0 l2_0.length c2_0) := (blk_cell BK220.out 0).trans rfl
              have hcz69_1 : wr.cell? ⟨gb220, 1, none⟩ = some (.slice A2_1 l2_1.length c2_1) := (blk_cell BK220.out 1).trans rfl
              have hfz69_0 := blk_frozen BK220.out 0
              have hfz69_1 := blk_frozen BK220.out 1
              have p228 : 0 ≤ (x11_2 : Int) := zA
              have q228 : x11_2 < (l2_1.length : Int) := zA
              obtain ⟨ad228, e228, hx228_0⟩ := Kd.at_int HR2_1.out x11_2 p228 q228
              cases e228
              replace hx228_0 := zX HB.out hx228_0
              replace p228 := eq_true p228
              replace q228 := eq_true q228
              go_wp2_with (first | (go_at_call 78; (with_reducible refine (spec_l01In.calls (rd l2_1 x11_2) 0 1 true _ A64.out).mono ?_); rintro e w' ⟨rfl, ⟨nd, rfl⟩⟩; (try first | exact ⟨rfl, _, World.drewN_drewN _ _ _⟩ | exact ⟨rfl, _, Eq.trans (World.drewN_drewN _ _ _) (congrArg (World.drewN _) (Nat.add_assoc _ _ _))⟩); have p230 : 0 ≤ (x11_2 : Int) := zA; have q230 : x11_2 < (l2_1.length : Int) := zA; obtain ⟨ad230, e230, hx230_0⟩ := Kd.at_int HR2_1.out x11_2 p230 q230; obtain rfl : ad228 = ad230 := (by injection e230); replace hx230_0 := zX HB.out hx230_0; replace p230 := eq_true p230; replace q230 := eq_true q230) | (go_at_call 175; (with_reducible refine (spec_l01Int.calls (rd l2_1 x11_2) false _ A66.out).mono ?_); rintro e w' ⟨rfl, ⟨nd, rfl⟩⟩; (try first | exact ⟨rfl, _, World.drewN_drewN _ _ _⟩ | exact ⟨rfl, _, Eq.trans (World.drewN_drewN _ _ _) (congrArg (World.drewN _) (Nat.add_assoc _ _ _))⟩)))
              repeat (go_quiet (first | (go_at_call 78; (with_reducible refine (spec_l01In.calls (rd l2_1 x11_2) 0 1 true _ A64.out).mono ?_); rintro e w' ⟨rfl, ⟨nd, rfl⟩⟩; (try first | exact ⟨rfl, _, World.drewN_drewN _ _ _⟩ | exact ⟨rfl, _, Eq.trans (World.drewN_drewN _ _ _) (congrArg (World.drewN _) (Nat.add_assoc _ _ _))⟩); have p230 : 0 ≤ (x11_2 : Int) := zA; have q230 : x11_2 < (l2_1.length : Int) := zA; obtain ⟨ad230, e230, hx230_0⟩ := Kd.at_int HR2_1.out x11_2 p230 q230; obtain rfl : ad228 = ad230 := (by injection e230); replace hx230_0 := zX HB.out hx230_0; replace p230 := eq_true p230; replace q230 := eq_true q230) | (go_at_call 175; (with_reducible refine (spec_l01Int.calls (rd l2_1 x11_2) false _ A66.out).mono ?_); rintro e w' ⟨rfl, ⟨nd, rfl⟩⟩; (try first | exact ⟨rfl, _, World.drewN_drewN _ _ _⟩ | exact ⟨rfl, _, Eq.trans (World.drewN_drewN _ _ _) (congrArg (World.drewN _) (Nat.add_assoc _ _ _))⟩))); try go_wp2_with (first | (go_at_call 78; (with_reducible refine (spec_l01In.calls (rd l2_1 x11_2) 0 1 true _ A64.out).mono ?_); rintro e w' ⟨rfl, ⟨nd, rfl⟩⟩; (try first | exact ⟨rfl, _, World.drewN_drewN _ _ _⟩ | exact ⟨rfl, _, Eq.trans (World.drewN_drewN _ _ _) (congrArg (World.drewN _) (Nat.add_assoc _ _ _))⟩); have p230 : 0 ≤ (x11_2 : Int) := zA; have q230 : x11_2 < (l2_1.length : Int) := zA; obtain ⟨ad230, e230, hx230_0⟩ := Kd.at_int HR2_1.out x11_2 p230 q230; obtain rfl : ad228 = ad230 := (by injection e230); replace hx230_0 := zX HB.out hx230_0; replace p230 := eq_true p230; replace q230 := eq_true q230) | (go_at_call 175; (with_reducible refine (spec_l01Int.calls (rd l2_1 x11_2) false _ A66.out).mono ?_); rintro e w' ⟨rfl, ⟨nd, rfl⟩⟩; (try first | exact ⟨rfl, _, World.drewN_drewN _ _ _⟩ | exact ⟨rfl, _, Eq.trans (World.drewN_drewN _ _ _) (congrArg (World.drewN _) (Nat.add_assoc _ _ _))⟩))))
              go_ret
              exact ⟨by first | rfl | (simp [errW_none, errW_some] <;> rfl) | (simp [*, errW_none, errW_some] <;> rfl), zB HB.out⟩
            ·replace c65 := Bool.eq_false_iff.mpr c65
             subst c65
             have H1 : (some false) = some r := by rw [if_neg (show ¬ (false = true) by decide)] at H; exact H
             clear H
             have H := H1
             clear H1
             obtain rfl := Option.some.inj H
             have p61 : 0 ≤ (x11_2 : Int) := zA
             have q61 : x11_2 < (t227.size : Int) := zA
             have hx61 := bt_at t227 x11_2
             replace p61 := eq_true p61
             replace q61 := eq_true q61
             have hcz70_0 : wr.cell? ⟨gb220, 0, none⟩ = some (.slice A2_0 l2_0.length c2_0) := (blk_cell BK220.out 0).trans rfl
             have hcz70_1 : wr.cell? ⟨gb220, 1, none⟩ = some (.slice A2_1 l2_1.length c2_1) := (blk_cell BK220.out 1).trans rfl
             have hfz70_0 := blk_frozen BK220.out 0
             have hfz70_1 := blk_frozen BK220.out 1
             have p228 : 0 ≤ (x11_2 : Int) := zA
             have q228 : x11_2 < (l2_1.length : Int) := zA
             obtain ⟨ad228, e228, hx228_0⟩ := Kd.at_int HR2_1.out x11_2 p228 q228
             cases e228
             replace hx228_0 := zX HB.out hx228_0
             replace p228 := eq_true p228
             replace q228 := eq_true q228
             go_wp2_with (first | (go_at_call 78; (with_reducible refine (spec_l01In.calls (rd l2_1 x11_2) 0 1 false _ A64.out).mono ?_); rintro e w' ⟨rfl, ⟨nd, rfl⟩⟩; (try first | exact ⟨rfl, _, World.drewN_drewN _ _ _⟩ | exact ⟨rfl, _, Eq.trans (World.drewN_drewN _ _ _) (congrArg (World.drewN _) (Nat.add_assoc _ _ _))⟩)))
             repeat (go_quiet (first | (go_at_call 78; (with_reducible refine (spec_l01In.calls (rd l2_1 x11_2) 0 1 false _ A64.out).mono ?_); rintro e w' ⟨rfl, ⟨nd, rfl⟩⟩; (try first | exact ⟨rfl, _, World.drewN_drewN _ _ _⟩ | exact ⟨rfl, _, Eq.trans (World.drewN_drewN _ _ _) (congrArg (World.drewN _) (Nat.add_assoc _ _ _))⟩))); try go_wp2_with (first | (go_at_call 78; (with_reducible refine (spec_l01In.calls (rd l2_1 x11_2) 0 1 false _ A64.out).mono ?_); rintro e w' ⟨rfl, ⟨nd, rfl⟩⟩; (try first | exact ⟨rfl, _, World.drewN_drewN _ _ _⟩ | exact ⟨rfl, _, Eq.trans (World.drewN_drewN _ _ _) (congrArg (World.drewN _) (Nat.add_assoc _ _ _))⟩))))
             go_ret
             exact ⟨by first | rfl | (simp [errW_none, errW_some] <;> rfl) | (simp [*, errW_none, errW_some] <;> rfl), zB HB.out⟩
           ·rw [if_neg c63] at H
            exact absurd H (by simp)
          ·rw [if_neg c62] at H
           have c62b0 : ((bt t227 x11_2) == 98) = false := beq_eq_false_iff_ne.mpr c62
           have c62b1 : ((bt t227 x11_2) != 98) = true := bne_iff_ne.mpr c62
           by_cases c71 : x11_2 < (l2_1.length : Int)
           ·rw [if_pos c71] at H
            have c71b0 : decide (x11_2 < (l2_1.length : Int)) = true := decide_eq_true c71
            clear c71
            replace H := Option.bind_eq_some_iff.mp H
            obtain ⟨t233, A720, H⟩ := H
            replace H : (if t233 = true then (spec_l07OK.l1 k2 t227 (wrap64 (x11_2 + 1)) l2_0 l2_1) else (some false)) = some r := H
            have A72 := zQ A720
            clear A720
            by_cases c73 : t233 = true
            ·subst c73
             have H1 : (spec_l07OK.l1 k2 t227 (wrap64 (x11_2 + 1)) l2_0 l2_1) = some r := by rw [if_pos rfl] at H; exact H
             clear H
             have H := H1
             clear H1
             have H' := zQ H
             clear H
             have p61 : 0 ≤ (x11_2 : Int) := zA
             have q61 : x11_2 < (t227.size : Int) := zA
             have hx61 := bt_at t227 x11_2
             replace p61 := eq_true p61
             replace q61 := eq_true q61
             have hcz74_0 : wr.cell? ⟨gb220, 0, none⟩ = some (.slice A2_0 l2_0.length c2_0) := (blk_cell BK220.out 0).trans rfl
             have hcz74_1 : wr.cell? ⟨gb220, 1, none⟩ = some (.slice A2_1 l2_1.length c2_1) := (blk_cell BK220.out 1).trans rfl
             have hfz74_0 := blk_frozen BK220.out 0
             have hfz74_1 := blk_frozen BK220.out 1
             have p232 : 0 ≤ (x11_2 : Int) := zA
             have q232 : x11_2 < (l2_1.length : Int) := zA
             obtain ⟨ad232, e232, hx232_0⟩ := Kd.at_int HR2_1.out x11_2 p232 q232
             cases e232
             replace hx232_0 := zX HB.out hx232_0
             replace p232 := eq_true p232
             replace q232 := eq_true q232
             go_wp2_with (first | (go_at_call 175; (with_reducible refine (spec_l01Int.calls (rd l2_1 x11_2) true _ A72.out).mono ?_); rintro e w' ⟨rfl, ⟨nd, rfl⟩⟩; (try first | exact ⟨rfl, _, World.drewN_drewN _ _ _⟩ | exact ⟨rfl, _, Eq.trans (World.drewN_drewN _ _ _) (congrArg (World.drewN _) (Nat.add_assoc _ _ _))⟩)))
             repeat (go_quiet (first | (go_at_call 175; (with_reducible refine (spec_l01Int.calls (rd l2_1 x11_2) true _ A72.out).mono ?_); rintro e w' ⟨rfl, ⟨nd, rfl⟩⟩; (try first | exact ⟨rfl, _, World.drewN_drewN _ _ _⟩ | exact ⟨rfl, _, Eq.trans (World.drewN_drewN _ _ _) (congrArg (World.drewN _) (Nat.add_assoc _ _ _))⟩))); try go_wp2_with (first | (go_at_call 175; (with_reducible refine (spec_l01Int.calls (rd l2_1 x11_2) true _ A72.out).mono ?_); rintro e w' ⟨rfl, ⟨nd, rfl⟩⟩; (try first | exact ⟨rfl, _, World.drewN_drewN _ _ _⟩ | exact ⟨rfl, _, Eq.trans (World.drewN_drewN _ _ _) (congrArg (World.drewN _) (Nat.add_assoc _ _ _))⟩))))
             go_roundg k2
             case measure => have := HK1.out; have := HK2.out; omega
             case rel => exact ⟨(wrap64 (x11_2 + 1)), (by first | rfl | (simp; done) | (simp [*]; done)), H', ⟨by have := HK1.out; have := HK2.out; omega⟩, ⟨by (with_reducible repeat (first | refine blk_drewN ?_ _ | refine blk_drew ?_ | refine blk_alloc ?_ _)); exact BK220.out⟩, ⟨zB HB.out⟩⟩
            ·replace c73 := Bool.eq_false_iff.mpr c73
             subst c73
             have H1 : (some false) = some r := by rw [if_neg (show ¬ (false = true) by decide)] at H; exact H
             clear H
             have H := H1
             clear H1
             obtain rfl := Option.some.inj H
             have p61 : 0 ≤ (x11_2 : Int) := zA
             have q61 : x11_2 < (t227.size : Int) := zA
             have hx61 := bt_at t227 x11_2
             replace p61 := eq_true p61
             replace q61 := eq_true q61
             have hcz75_0 : wr.cell? ⟨gb220, 0, none⟩ = some (.slice A2_0 l2_0.length c2_0) := (blk_cell BK220.out 0).trans rfl
             have hcz75_1 : wr.cell? ⟨gb220, 1, none⟩ = some (.slice A2_1 l2_1.length c2_1) := (blk_cell BK220.out 1).trans rfl
             have hfz75_0 := blk_frozen BK220.out 0
             have hfz75_1 := blk_frozen BK220.out 1
             have p232 : 0 ≤ (x11_2 : Int) := zA
             have q232 : x11_2 < (l2_1.length : Int) := zA
             obtain ⟨ad232, e232, hx232_0⟩ := Kd.at_int HR2_1.out x11_2 p232 q232
             cases e232
             replace hx232_0 := zX HB.out hx232_0
             replace p232 := eq_true p232
             replace q232 := eq_true q232
             go_wp2_with (first | (go_at_call 175; (with_reducible refine (spec_l01Int.calls (rd l2_1 x11_2) false _ A72.out).mono ?_); rintro e w' ⟨rfl, ⟨nd, rfl⟩⟩; (try first | exact ⟨rfl, _, World.drewN_drewN _ _ _⟩ | exact ⟨rfl, _, Eq.trans (World.drewN_drewN _ _ _) (congrArg (World.drewN _) (Nat.add_assoc _ _ _))⟩)))
             repeat (go_quiet (first | (go_at_call 175; (with_reducible refine (spec_l01Int.calls (rd l2_1 x11_2) false _ A72.out).mono ?_); rintro e w' ⟨rfl, ⟨nd, rfl⟩⟩; (try first | exact ⟨rfl, _, World.drewN_drewN _ _ _⟩ | exact ⟨rfl, _, Eq.trans (World.drewN_drewN _ _ _) (congrArg (World.drewN _) (Nat.add_assoc _ _ _))⟩))); try go_wp2_with (first | (go_at_call 175; (with_reducible refine (spec_l01Int.calls (rd l2_1 x11_2) false _ A72.out).mono ?_); rintro e w' ⟨rfl, ⟨nd, rfl⟩⟩; (try first | exact ⟨rfl, _, World.drewN_drewN _ _ _⟩ | exact ⟨rfl, _, Eq.trans (World.drewN_drewN _ _ _) (congrArg (World.drewN _) (Nat.add_assoc _ _ _))⟩))))
             go_ret
             exact ⟨by first | rfl | (simp [errW_none, errW_some] <;> rfl) | (simp [*, errW_none, errW_some] <;> rfl), zB HB.out⟩
           ·rw [if_neg c71] at H
            exact absurd H (by simp)
         ·rw [if_neg c60] at H
          exact absurd H (by simp)
        ·rw [if_neg c59] at H
         have c59b0 : decide (x11_2 < (t227.size : Int)) = false := decide_eq_false c59
         clear c59
         obtain rfl := Option.some.inj H
         go_wp2
         repeat (go_quiet (fail); try go_wp2)
         go_ret
         exact ⟨by first | rfl | (simp [errW_none, errW_some] <;> rfl) | (simp [*, errW_none, errW_some] <;> rfl), zB HB.out⟩
     ·rw [if_neg c55] at H
      have c55b0 : ((t227.size : Int) == (l2_1.length : Int)) = false := beq_eq_false_iff_ne.mpr c55
      have c55b1 : ((t227.size : Int) != (l2_1.length : Int)) = true := bne_iff_ne.mpr c55
      have c55b2 : (t227.size == l2_1.length) = false := by first | simpa using c55 | (simp at c55 ⊢; omega)
      obtain rfl := Option.some.inj H
      have hcz76_0 : wr.cell? ⟨gb220, 0, none⟩ = some (.slice A2_0 l2_0.length c2_0) := (blk_cell BK220.out 0).trans rfl
      have hcz76_1 : wr.cell? ⟨gb220, 1, none⟩ = some (.slice A2_1 l2_1.length c2_1) := (blk_cell BK220.out 1).trans rfl
      have hfz76_0 := blk_frozen BK220.out 0
      have hfz76_1 := blk_frozen BK220.out 1
      go_wp2_with (first | (go_at_call 174; (with_reducible refine (spec_l07Types.calls k1 _ _ l0 _ _ l1 _ _ l2_0 _ _ l2_1 t227 _ ?side1 ?side2 ?side3 ?side4 ?side5 ?side6 ?side7 ?side8 A54.out).mono ?_); (case side1 => exact zC (Kd.C_below HR0.out HB.out)); (case side2 => exact HC0.out); (case side3 => exact zC (Kd.C_below HR1.out HB.out)); (case side4 => exact HC1.out); (case side5 => exact zC (Kd.C_below HR2_0.out HB.out)); (case side6 => exact HC2_0.out); (case side7 => exact zC (Kd.C_below HR2_1.out HB.out)); (case side8 => exact HC2_1.out); rintro e w77 ⟨rfl, hb⟩; have n0_ := zQ (zL BK220.out hb); have n1_ := zQ (below_step (zB HB.out) hb); clear BK220; clear HB; have BK220 := n0_; have HB := n1_; clear n0_ n1_; (try clear hb); (try clear hb2); (try clear hk); (try clear hi); obtain ⟨hcz78_0, hcz78_1, hfz78_0, hfz78_1⟩ := zc2 BK220.out))
      repeat (go_quiet (first | (go_at_call 174; (with_reducible refine (spec_l07Types.calls k1 _ _ l0 _ _ l1 _ _ l2_0 _ _ l2_1 t227 _ ?side1 ?side2 ?side3 ?side4 ?side5 ?side6 ?side7 ?side8 A54.out).mono ?_); (case side1 => exact zC (Kd.C_below HR0.out HB.out)); (case side2 => exact HC0.out); (case side3 => exact zC (Kd.C_below HR1.out HB.out)); (case side4 => exact HC1.out); (case side5 => exact zC (Kd.C_below HR2_0.out HB.out)); (case side6 => exact HC2_0.out); (case side7 => exact zC (Kd.C_below HR2_1.out HB.out)); (case side8 => exact HC2_1.out); rintro e w77 ⟨rfl, hb⟩; have n0_ := zQ (zL BK220.out hb); have n1_ := zQ (below_step (zB HB.out) hb); clear BK220; clear HB; have BK220 := n0_; have HB := n1_; clear n0_ n1_; (try clear hb); (try clear hb2); (try clear hk); (try clear hi); obtain ⟨hcz78_0, hcz78_1, hfz78_0, hfz78_1⟩ := zc2 BK220.out)); try go_wp2_with (first | (go_at_call 174; (with_reducible refine (spec_l07Types.calls k1 _ _ l0 _ _ l1 _ _ l2_0 _ _ l2_1 t227 _ ?side1 ?side2 ?side3 ?side4 ?side5 ?side6 ?side7 ?side8 A54.out).mono ?_); (case side1 => exact zC (Kd.C_below HR0.out HB.out)); (case side2 => exact HC0.out); (case side3 => exact zC (Kd.C_below HR1.out HB.out)); (case side4 => exact HC1.out); (case side5 => exact zC (Kd.C_below HR2_0.out HB.out)); (case side6 => exact HC2_0.out); (case side7 => exact zC (Kd.C_below HR2_1.out HB.out)); (case side8 => exact HC2_1.out); rintro e w77 ⟨rfl, hb⟩; have n0_ := zQ (zL BK220.out hb); have n1_ := zQ (below_step (zB HB.out) hb); clear BK220; clear HB; have BK220 := n0_; have HB := n1_; clear n0_ n1_; (try clear hb); (try clear hb2); (try clear hk); (try clear hi); obtain ⟨hcz78_0, hcz78_1, hfz78_0, hfz78_1⟩ := zc2 BK220.out)))
      go_ret
      exact ⟨by first | rfl | (simp [errW_none, errW_some] <;> rfl) | (simp [*, errW_none, errW_some] <;> rfl), zB HB.out⟩

end Go.Proofs.Ytkegjmkdnfpfdaa.MFnExactCoreOK

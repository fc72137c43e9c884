-- By a program of this session.
import Derived.Test.YtkegjmkdnfpfdaaMFnExactNewCorex0
import Derived.Test.YtkegjmkdnfpfdaaMFnExactNewCorex2
import Derived.Test.YtkegjmkdnfpfdaaMFnExactNewCorex3
import Derived.Test.YtkegjmkdnfpfdaaMFnExactNewCorex4
namespace Go.Proofs.Ytkegjmkdnfpfdaa.MFnExactNewCore
open Go.RowKit Go.Proofs.YtkegjmkdnfpfdaaW.PrintWords Go.Proofs.YtkegjmkdnfpfdaaW.PrintLast Go.Proofs.YtkegjmkdnfpfdaaW.PrintMore
attribute [local go_sem] max2_int min2_int max_two min_two max_three min_three max_four min_four
set_option linter.unusedVariables false
set_option linter.unusedSimpArgs false
set_option maxHeartbeats 8000000
set_option maxRecDepth 100000

/-! ### spec_l02OK: function 117 -/
def spec_l02OK.f (k : Nat) (a0_0 : Int) (a0_1 : Int) : Option (Bool) := (spec_l02Op.f a0_0).bind fun t118 => (if t118 = true then ((spec_l02Has.f k a0_0).bind fun bt119 => ((spec_l01In.f a0_1 bt119.1 bt119.2.1).bind fun t122 => (some t122))) else (some false))
theorem spec_l02OK.mono : ∀ a0 a1 k, LeO (spec_l02OK.f k a0 a1) (spec_l02OK.f (k + 1) a0 a1) := by
 intro a0 a1 k
 unfold spec_l02OK.f
 repeat' first
  | (with_reducible exact spec_l02Has.mono _ _)
  | (with_reducible exact LeO.refl _)
  | (with_reducible exact LeO.none _)
  | (with_reducible refine LeO.ite ?_ ?_)
  | (with_reducible refine LeO.bind ?_ (fun _ => ?_))
theorem spec_l02OK.calls (k : Nat) (a0_0 : Int) (a0_1 : Int) (r : Bool) (w : World) (h : spec_l02OK.f k a0_0 a0_1 = some r) :
 Calls Try.prog 117 #[.agg #[.int .i64 a0_0, .int .i64 a0_1]] w fun e w' => e = .returned (.bool r) ∧ Below w.heap.size w w' := by
 have hu96 := Try.underlying96
 have HB := zQ (Below.refl w.heap.size w)
 have H : ((spec_l02Op.f a0_0).bind fun t118 => (if t118 = true then ((spec_l02Has.f k a0_0).bind fun bt119 => ((spec_l01In.f a0_1 bt119.1 bt119.2.1).bind fun t122 => (some t122))) else (some false))) = some r := h
 clear h
 replace H := Option.bind_eq_some_iff.mp H
 obtain ⟨t118, A20, H⟩ := H
 replace H : (if t118 = true then ((spec_l02Has.f k a0_0).bind fun bt119 => ((spec_l01In.f a0_1 bt119.1 bt119.2.1).bind fun t122 => (some t122))) else (some false)) = some r := H
 have A2 := zQ A20
 clear A20
 by_cases c3 : t118 = true
 ·subst c3
  have H1 : ((spec_l02Has.f k a0_0).bind fun bt119 => ((spec_l01In.f a0_1 bt119.1 bt119.2.1).bind fun t122 => (some t122))) = some r := by rw [if_pos rfl] at H; exact H
  clear H
  have H := H1
  clear H1
  replace H := Option.bind_eq_some_iff.mp H
  obtain ⟨⟨t119, t120, t121⟩, A40, H⟩ := H
  replace H : ((spec_l01In.f a0_1 t119 t120).bind fun t122 => (some t122)) = some r := H
  have A4 := zQ A40
  clear A40
  replace H := Option.bind_eq_some_iff.mp H
  obtain ⟨t122, A50, H⟩ := H
  replace H : (some t122) = some r := H
  have A5 := zQ A50
  clear A50
  obtain rfl := Option.some.inj H
  go_enter Try.func117, Try.ntmps117
  go_wp2_with (first | ((with_reducible refine gate_dst (N := 1) rfl ?_); refine box_event ?hg (N := 1) ?hd (cs := #[.int .i64 a0_0, .int .i64 a0_1]) (t := 96) ?hr ?_; (case hd => rfl); (case hg => rfl); (case hr => first | (go_simp; done) | (go_simp; rfl)); intro gb117 hg w6 hbox hb; have n0_ := zQ (below_step (zB HB.out) hb); have n1_ := zQ (hbox); have n2_ := zQ ((zG hg HB.out)); have n3_ := zQ ((zG hg HB.out)); clear HB; have HB := n0_; have BK117 := n1_; have GW117 := n2_; have GE117 := n3_; clear n0_ n1_ n2_ n3_; clear hb hbox hg; obtain ⟨hcz7_0, hcz7_1, hfz7_0, hfz7_1⟩ := zc2 BK117.out) | ((with_reducible refine gate_callee (f := 185) rfl ?_); refine goesL_ (some 8) rfl rfl Try.func185 (by kernel_rfl) rfl #[.int .i64 a0_0] rfl zS ?_; (with_reducible refine (spec_l02Op.calls a0_0 true _ A2.out).mono ?_); rintro e w' ⟨rfl, ⟨nd, rfl⟩⟩; refine ⟨_, rfl, ?_⟩) | ((with_reducible refine gate_callee (f := 186) rfl ?_); refine goesL_ (some 13) rfl rfl Try.func186 (by kernel_rfl) rfl #[.int .i64 a0_0] rfl zS ?_; (with_reducible refine (spec_l02Has.calls k a0_0 t119 t120 t121 _ A4.out).mono ?_); rintro e w' ⟨rfl, ⟨nd, rfl⟩⟩; refine ⟨_, rfl, ?_⟩) | ((with_reducible refine gate_callee (f := 78) rfl ?_); refine goesL_ (some 21) rfl rfl Try.func78 (by kernel_rfl) rfl #[.int .i64 a0_1, .int .i64 t119, .int .i64 t120] rfl zS ?_; (with_reducible refine (spec_l01In.calls a0_1 t119 t120 t122 _ A5.out).mono ?_); rintro e w' ⟨rfl, ⟨nd, rfl⟩⟩; refine ⟨_, rfl, ?_⟩))
  go_ret
  exact ⟨by first | rfl | (simp [errW_none, errW_some] <;> rfl) | (simp [*, errW_none, errW_some] <;> rfl), zB HB.out⟩
 ·replace c3 := Bool.eq_false_iff.mpr c3
  subst c3
  have H1 : (some false) = some r := by rw [if_neg (show ¬ (false = true) by decide)] at H; exact H
  clear H
  have H := H1
  clear H1
  obtain rfl := Option.some.inj H
  go_enter Try.func117, Try.ntmps117
  go_wp2_with (first | ((with_reducible refine gate_dst (N := 1) rfl ?_); refine box_event ?hg (N := 1) ?hd (cs := #[.int .i64 a0_0, .int .i64 a0_1]) (t := 96) ?hr ?_; (case hd => rfl); (case hg => rfl); (case hr => first | (go_simp; done) | (go_simp; rfl)); intro gb117 hg w8 hbox hb; have n0_ := zQ (below_step (zB HB.out) hb); have n1_ := zQ (hbox); have n2_ := zQ ((zG hg HB.out)); have n3_ := zQ ((zG hg HB.out)); clear HB; have HB := n0_; have BK117 := n1_; have GW117 := n2_; have GE117 := n3_; clear n0_ n1_ n2_ n3_; clear hb hbox hg; obtain ⟨hcz9_0, hcz9_1, hfz9_0, hfz9_1⟩ := zc2 BK117.out) | ((with_reducible refine gate_callee (f := 185) rfl ?_); refine goesL_ (some 8) rfl rfl Try.func185 (by kernel_rfl) rfl #[.int .i64 a0_0] rfl zS ?_; (with_reducible refine (spec_l02Op.calls a0_0 false _ A2.out).mono ?_); rintro e w' ⟨rfl, ⟨nd, rfl⟩⟩; refine ⟨_, rfl, ?_⟩))
  go_ret
  exact ⟨by first | rfl | (simp [errW_none, errW_some] <;> rfl) | (simp [*, errW_none, errW_some] <;> rfl), zB HB.out⟩

/-! ### spec_l02All: function 69 -/
def spec_l02All.l0 : Nat → List (S96) → Int → Option (Bool)
 | 0, _, _ => none
 | k + 1, x0, x3 => if x3 < (x0.length : Int) then (if 0 ≤ x3 then ((spec_l02OK.f k ((rd_T96 x0 x3).f0) ((rd_T96 x0 x3).f1)).bind fun t124 => (if t124 = true then (spec_l02All.l0 k x0 (wrap64 (x3 + 1))) else (some false))) else (none)) else (some true)
def spec_l02All.f (k : Nat) (l0 : List (S96)) : Option (Bool) := spec_l02All.l0 k l0 0
theorem spec_l02All.mono_l : ∀ k, (∀ y0 y1, LeO (spec_l02All.l0 k y0 y1) (spec_l02All.l0 (k + 1) y0 y1))
 | 0 => fun _ _ r h => by simp [spec_l02All.l0] at h
 | k + 1 => by
  have ih0 := spec_l02All.mono_l k
  ·intro y0 y1
   unfold spec_l02All.l0
   repeat' first
   | (with_reducible exact ih0 _ _)
   | (with_reducible exact spec_l02OK.mono _ _ _)
   | (with_reducible exact LeO.refl _)
   | (with_reducible exact LeO.none _)
   | (with_reducible refine LeO.ite ?_ ?_)
   | (with_reducible refine LeO.bind ?_ (fun _ => ?_))
theorem spec_l02All.mono : ∀ a0 k, LeO (spec_l02All.f k a0) (spec_l02All.f (k + 1) a0) := by
 intro a0 k
 have ih0 := spec_l02All.mono_l k
 unfold spec_l02All.f
 repeat' first
  | (with_reducible exact ih0 _ _)
  | (with_reducible exact spec_l02OK.mono _ _ _)
  | (with_reducible exact LeO.refl _)
  | (with_reducible exact LeO.none _)
  | (with_reducible refine LeO.ite ?_ ?_)
  | (with_reducible refine LeO.bind ?_ (fun _ => ?_))
theorem spec_l02All.calls (k : Nat) (A0 : Option Addr) (c0 : Nat) (l0 : List (S96)) (r : Bool) (w : World) (hr0 : Kd.C k96 w A0 l0.length l0) (hc0 : l0.length ≤ c0) (h : spec_l02All.f k l0 = some r) :
 Calls Try.prog 69 #[.slice A0 l0.length c0] w fun e w' => e = .returned (.bool r) ∧ Below w.heap.size w w' := by
 have hu96 := Try.underlying96
 have HR0 := zQ hr0
 have HC0 := zQ hc0
 clear hr0 hc0
 have HB := zQ (Below.refl w.heap.size w)
 have H : (spec_l02All.l0 k l0 0) = some r := h
 clear h
 have H' := zQ H
 clear H
 go_enter Try.func69, Try.ntmps69
 go_wp2
 go_loopg [3] k (fun kq v3 w' => ∃ (x3_1 : Int), v3 = .int .i64 x3_1 ∧ Aside0 (spec_l02All.l0 kq l0 x3_1 = some r) ∧ Aside0 (kq ≤ k) ∧ Aside0 (Below w.heap.size w w'))
 case atStart => exact ⟨(0), (by first | rfl | (simp; done) | (simp [*]; done)), H', ⟨Nat.le_refl _⟩, ⟨zB HB.out⟩⟩
 case round =>
  clear H'
  obtain ⟨x3_1, rfl, HA, HK1, HB⟩ := hrel
  cases gk with
  | zero => exact absurd HA.out (by simp [spec_l02All.l0])
  | succ k1 =>
   have H := HA.out
   clear HA
   simp only [spec_l02All.l0] at H
   by_cases c2 : x3_1 < (l0.length : Int)
   ·rw [if_pos c2] at H
    have c2b0 : decide (x3_1 < (l0.length : Int)) = true := decide_eq_true c2
    clear c2
    by_cases c3 : 0 ≤ x3_1
    ·rw [if_pos c3] at H
     have c3b0 : decide (0 ≤ x3_1) = true := decide_eq_true c3
     clear c3
     replace H := Option.bind_eq_some_iff.mp H
     obtain ⟨t124, A40, H⟩ := H
     replace H : (if t124 = true then (spec_l02All.l0 k1 l0 (wrap64 (x3_1 + 1))) else (some false)) = some r := H
     have A4 := zQ A40
     clear A40
     by_cases c5 : t124 = true
     ·subst c5
      have H1 : (spec_l02All.l0 k1 l0 (wrap64 (x3_1 + 1))) = some r := by rw [if_pos rfl] at H; exact H
      clear H
      have H := H1
      clear H1
      have H' := zQ H
      clear H
      have p123 : 0 ≤ (x3_1 : Int) := zA
      have q123 : x3_1 < (l0.length : Int) := zA
      obtain ⟨ad123, e123, hx123_0, hx123_1⟩ := at_T96 HR0.out x3_1 p123 q123
      cases e123
      replace hx123_0 := zX HB.out hx123_0
      replace hx123_1 := zX HB.out hx123_1
      replace p123 := eq_true p123
      replace q123 := eq_true q123
      go_wp2_with (first | ((with_reducible refine gate_callee (f := 117) rfl ?_); refine goesL_ (some 14) rfl rfl Try.func117 (by kernel_rfl) rfl #[.agg #[.int .i64 ((rd_T96 l0 x3_1).f0), .int .i64 ((rd_T96 l0 x3_1).f1)]] rfl zS ?_; (with_reducible refine (spec_l02OK.calls k1 ((rd_T96 l0 x3_1).f0) ((rd_T96 l0 x3_1).f1) true _ A4.out).mono ?_); rintro e w6 ⟨rfl, hb⟩; refine ⟨_, rfl, ?_⟩; have n0_ := zQ (below_step (zB HB.out) hb); clear HB; have HB := n0_; clear n0_; (try clear hb); (try clear hb2); (try clear hk); (try clear hi)))
      go_roundg k1
      case measure => have := HK1.out; omega
      case rel => exact ⟨(wrap64 (x3_1 + 1)), (by first | rfl | (simp; done) | (simp [*]; done)), H', ⟨by have := HK1.out; omega⟩, ⟨zB HB.out⟩⟩
     ·replace c5 := Bool.eq_false_iff.mpr c5
      subst c5
      have H1 : (some false) = some r := by rw [if_neg (show ¬ (false = true) by decide)] at H; exact H
      clear H
      have H := H1
      clear H1
      obtain rfl := Option.some.inj H
      have p123 : 0 ≤ (x3_1 : Int) := zA
      have q123 : x3_1 < (l0.length : Int) := zA
      obtain ⟨ad123, e123, hx123_0, hx123_1⟩ := at_T96 HR0.out x3_1 p123 q123
      cases e123
      replace hx123_0 := zX HB.out hx123_0
      replace hx123_1 := zX HB.out hx123_1
      replace p123 := eq_true p123
      replace q123 := eq_true q123
      go_wp2_with (first | ((with_reducible refine gate_callee (f := 117) rfl ?_); refine goesL_ (some 14) rfl rfl Try.func117 (by kernel_rfl) rfl #[.agg #[.int .i64 ((rd_T96 l0 x3_1).f0), .int .i64 ((rd_T96 l0 x3_1).f1)]] rfl zS ?_; (with_reducible refine (spec_l02OK.calls k1 ((rd_T96 l0 x3_1).f0) ((rd_T96 l0 x3_1).f1) false _ A4.out).mono ?_); rintro e w7 ⟨rfl, hb⟩; refine ⟨_, rfl, ?_⟩; have n0_ := zQ (below_step (zB HB.out) hb); clear HB; have HB := n0_; clear n0_; (try clear hb); (try clear hb2); (try clear hk); (try clear hi)))
      go_ret
      exact ⟨by first | rfl | (simp [errW_none, errW_some] <;> rfl) | (simp [*, errW_none, errW_some] <;> rfl), zB HB.out⟩
    ·rw [if_neg c3] at H
     exact absurd H (by simp)
   ·rw [if_neg c2] at H
    have c2b0 : decide (x3_1 < (l0.length : Int)) = false := decide_eq_false c2
    clear c2
    obtain rfl := Option.some.inj H
    go_wp2
    go_ret
    exact ⟨by first | rfl | (simp [errW_none, errW_some] <;> rfl) | (simp [*, errW_none, errW_some] <;> rfl), zB HB.out⟩

end Go.Proofs.Ytkegjmkdnfpfdaa.MFnExactNewCore

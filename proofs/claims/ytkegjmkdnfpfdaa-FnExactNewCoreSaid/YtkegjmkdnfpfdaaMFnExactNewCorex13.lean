-- By a program of this session.
import Derived.Test.YtkegjmkdnfpfdaaMFnExactNewCorex0
import Derived.Test.YtkegjmkdnfpfdaaMFnExactNewCorex3
import Derived.Test.YtkegjmkdnfpfdaaMFnExactNewCorex6
import Derived.Test.YtkegjmkdnfpfdaaMFnExactNewCorex12
namespace Go.Proofs.Ytkegjmkdnfpfdaa.MFnExactNewCore
open Go.RowKit Go.Proofs.YtkegjmkdnfpfdaaW.PrintWords Go.Proofs.YtkegjmkdnfpfdaaW.PrintLast Go.Proofs.YtkegjmkdnfpfdaaW.PrintMore
attribute [local go_sem] max2_int min2_int max_two min_two max_three min_three max_four min_four
set_option linter.unusedVariables false
set_option linter.unusedSimpArgs false
set_option maxHeartbeats 8000000
set_option maxRecDepth 100000

/-! ### spec_VerifyAll: function 77 -/
def spec_VerifyAll.j0 : Nat → List (S124) → List Int → Bool → Option (Int × Int × Int)
 | 0, _, _, _ => none
 | k + 1, x0, x1, x14 => if x14 = true then (some (0, 0, 2)) else ((spec_l04Kinds.f k x1).bind fun t131 => (if t131 = true then ((spec_l04Routines.f k x0).bind fun t132 => (if t132 = true then ((spec_l04All.f k x0 x1).bind fun bt133 => (some (bt133.1, bt133.2.1, bt133.2.2))) else (some (0, 0, 1)))) else (some (0, 0, 1))))
def spec_VerifyAll.f (k : Nat) (l0 : List (S124)) (l1 : List Int) : Option (Int × Int × Int) := if (l0.length : Int) > 4096 then (spec_VerifyAll.j0 k l0 l1 true) else (spec_VerifyAll.j0 k l0 l1 (decide ((l1.length : Int) > 4096)))
theorem spec_VerifyAll.mono_l : ∀ k, (∀ y0 y1 y2, LeO (spec_VerifyAll.j0 k y0 y1 y2) (spec_VerifyAll.j0 (k + 1) y0 y1 y2))
 | 0 => fun _ _ _ r h => by simp [spec_VerifyAll.j0] at h
 | k + 1 => by
  have ih0 := spec_VerifyAll.mono_l k
  ·intro y0 y1 y2
   unfold spec_VerifyAll.j0
   repeat' first
   | (with_reducible exact ih0 _ _ _)
   | (with_reducible exact spec_l04All.mono _ _ _)
   | (with_reducible exact spec_l04Kinds.mono _ _)
   | (with_reducible exact spec_l04Routines.mono _ _)
   | (with_reducible exact LeO.refl _)
   | (with_reducible exact LeO.none _)
   | (with_reducible refine LeO.ite ?_ ?_)
   | (with_reducible refine LeO.bind ?_ (fun _ => ?_))
theorem spec_VerifyAll.mono : ∀ a0 a1 k, LeO (spec_VerifyAll.f k a0 a1) (spec_VerifyAll.f (k + 1) a0 a1) := by
 intro a0 a1 k
 have ih0 := spec_VerifyAll.mono_l k
 unfold spec_VerifyAll.f
 repeat' first
  | (with_reducible exact ih0 _ _ _)
  | (with_reducible exact spec_l04All.mono _ _ _)
  | (with_reducible exact spec_l04Kinds.mono _ _)
  | (with_reducible exact spec_l04Routines.mono _ _)
  | (with_reducible exact LeO.refl _)
  | (with_reducible exact LeO.none _)
  | (with_reducible refine LeO.ite ?_ ?_)
  | (with_reducible refine LeO.bind ?_ (fun _ => ?_))
theorem spec_VerifyAll.calls (k : Nat) (A0 : Option Addr) (c0 : Nat) (l0 : List (S124)) (A1 : Option Addr) (c1 : Nat) (l1 : List Int) (r1 : Int) (r2 : Int) (r3 : Int) (w : World) (hr0 : Kd.C k124 w A0 l0.length l0) (hc0 : l0.length ≤ c0) (hr1 : Kd.C (Kd.int .i64) w A1 l1.length l1) (hc1 : l1.length ≤ c1) (h : spec_VerifyAll.f k l0 l1 = some (r1, r2, r3)) :
 Calls Try.prog 77 #[.slice A0 l0.length c0, .slice A1 l1.length c1] w fun e w' => e = .returned (.tuple #[.int .i64 r1, .int .i64 r2, .int .i64 r3]) ∧ Below w.heap.size w w' := by
 have HR0 := zQ hr0
 have HC0 := zQ hc0
 clear hr0 hc0
 have HR1 := zQ hr1
 have HC1 := zQ hc1
 clear hr1 hc1
 have HB := zQ (Below.refl w.heap.size w)
 have H : (if (l0.length : Int) > 4096 then (spec_VerifyAll.j0 k l0 l1 true) else (spec_VerifyAll.j0 k l0 l1 (decide ((l1.length : Int) > 4096)))) = some (r1, r2, r3) := h
 clear h
 have HC3 := zQ H
 clear H
 go_enter Try.func77, Try.ntmps77
 go_upto_region 1 with (fail)
 go_cut [14] (fun v14 wc => ∃ (kq : Nat) (x14_2 : Bool), v14 = .bool x14_2 ∧ Aside0 (spec_VerifyAll.j0 kq l0 l1 x14_2 = some (r1, r2, r3)) ∧ Aside0 (kq ≤ k) ∧ Aside0 (Below w.heap.size w wc))
 case first =>
  have H := HC3.out
  clear HC3
  by_cases c4 : (l0.length : Int) > 4096
  ·rw [if_pos c4] at H
   have c4b0 : decide (4096 < (l0.length : Int)) = true := decide_eq_true c4
   have c4b1 : decide (4096 < l0.length) = true := decide_eq_true (by omega)
   clear c4
   (first | rw [c4b0] | (simp only [i64_w, i32_w]; rw [c4b0]) | skip)
   have H' := zQ H
   clear H
   go_wp2
   (first | go_meet | (refine Met.intro ?_; go_step; (repeat apply Exists.intro); refine ⟨?rel, ?eqm_⟩; (case eqm_ => (simp only [c4b1, c4b0]; rfl))))
   case rel => exact ⟨_, (true), (by first | rfl | (simp; done) | (simp [*]; done)), H', ⟨by first | omega | exact Nat.le_refl _⟩, ⟨zB HB.out⟩⟩
  ·rw [if_neg c4] at H
   have c4b0 : decide (4096 < (l0.length : Int)) = false := decide_eq_false c4
   have c4b1 : decide (4096 < l0.length) = false := decide_eq_false (by omega)
   clear c4
   (first | rw [c4b0] | (simp only [i64_w, i32_w]; rw [c4b0]) | skip)
   have H' := zQ H
   clear H
   go_wp2
   (first | go_meet | (refine Met.intro ?_; go_step; (repeat apply Exists.intro); refine ⟨?rel, ?eqm_⟩; (case eqm_ => (simp only [c4b1, c4b0]; rfl))))
   case rel => exact ⟨_, (decide ((l1.length : Int) > 4096)), (by first | rfl | (simp; done) | (simp [*]; done)), H', ⟨by first | omega | exact Nat.le_refl _⟩, ⟨zB HB.out⟩⟩
 case rest =>
  clear HC3
  try clear c1
  try clear p2
  try clear c4
  try clear c4b0
  try clear c4b1
  obtain ⟨kq, x14_2, rfl, HA, HJ2, HB⟩ := hcut
  cases kq with
  | zero => exact absurd HA.out (by simp [spec_VerifyAll.j0])
  | succ kj2 =>
   have H := HA.out
   clear HA
   simp only [spec_VerifyAll.j0] at H
   by_cases c5 : x14_2 = true
   ·subst c5
    have H1 : (some (0, 0, 2)) = some (r1, r2, r3) := by rw [if_pos rfl] at H; exact H
    clear H
    have H := H1
    clear H1
    simp only [Option.some.injEq, Prod.mk.injEq] at H
    obtain ⟨rfl, rfl, rfl⟩ := H
    go_wp2
    go_ret3
    exact ⟨by first | rfl | (simp [errW_none, errW_some] <;> rfl) | (simp [*, errW_none, errW_some] <;> rfl), zB HB.out⟩
   ·replace c5 := Bool.eq_false_iff.mpr c5
    subst c5
    have H1 : ((spec_l04Kinds.f kj2 l1).bind fun t131 => (if t131 = true then ((spec_l04Routines.f kj2 l0).bind fun t132 => (if t132 = true then ((spec_l04All.f kj2 l0 l1).bind fun bt133 => (some (bt133.1, bt133.2.1, bt133.2.2))) else (some (0, 0, 1)))) else (some (0, 0, 1)))) = some (r1, r2, r3) := by rw [if_neg (show ¬ (false = true) by decide)] at H; exact H
    clear H
    have H := H1
    clear H1
    replace H := Option.bind_eq_some_iff.mp H
    obtain ⟨t131, A60, H⟩ := H
    replace H : (if t131 = true then ((spec_l04Routines.f kj2 l0).bind fun t132 => (if t132 = true then ((spec_l04All.f kj2 l0 l1).bind fun bt133 => (some (bt133.1, bt133.2.1, bt133.2.2))) else (some (0, 0, 1)))) else (some (0, 0, 1))) = some (r1, r2, r3) := H
    have A6 := zQ A60
    clear A60
    by_cases c7 : t131 = true
    ·subst c7
     have H1 : ((spec_l04Routines.f kj2 l0).bind fun t132 => (if t132 = true then ((spec_l04All.f kj2 l0 l1).bind fun bt133 => (some (bt133.1, bt133.2.1, bt133.2.2))) else (some (0, 0, 1)))) = some (r1, r2, r3) := by rw [if_pos rfl] at H; exact H
     clear H
     have H := H1
     clear H1
     replace H := Option.bind_eq_some_iff.mp H
     obtain ⟨t132, A80, H⟩ := H
     replace H : (if t132 = true then ((spec_l04All.f kj2 l0 l1).bind fun bt133 => (some (bt133.1, bt133.2.1, bt133.2.2))) else (some (0, 0, 1))) = some (r1, r2, r3) := H
     have A8 := zQ A80
     clear A80
     by_cases c9 : t132 = true
     ·subst c9
      have H1 : ((spec_l04All.f kj2 l0 l1).bind fun bt133 => (some (bt133.1, bt133.2.1, bt133.2.2))) = some (r1, r2, r3) := by rw [if_pos rfl] at H; exact H
      clear H
      have H := H1
      clear H1
      replace H := Option.bind_eq_some_iff.mp H
      obtain ⟨⟨t133, t134, t135⟩, A100, H⟩ := H
      replace H : (some (t133, t134, t135)) = some (r1, r2, r3) := H
      have A10 := zQ A100
      clear A100
      simp only [Option.some.injEq, Prod.mk.injEq] at H
      obtain ⟨rfl, rfl, rfl⟩ := H
      go_wp2_with (first | ((with_reducible refine gate_callee (f := 136) rfl ?_); refine goesL_ (some 16) rfl rfl Try.func136 (by kernel_rfl) rfl #[.slice A1 l1.length c1] rfl zS ?_; (with_reducible refine (spec_l04Kinds.calls kj2 _ _ l1 true _ ?side1 ?side2 A6.out).mono ?_); (case side1 => exact zE HR1 HB); (case side2 => exact HC1.out); rintro e w' ⟨rfl, ⟨nd, rfl⟩⟩; refine ⟨_, rfl, ?_⟩) | (go_at_call 148; (with_reducible refine (spec_l04Routines.calls kj2 _ _ l0 true _ ?side1 ?side2 A8.out).mono ?_); (case side1 => exact zC (Kd.C_below HR0.out (zB HB.out))); (case side2 => exact HC0.out); rintro e w11 ⟨rfl, hb⟩; have n0_ := zQ (below_step (zB HB.out) hb); clear HB; have HB := n0_; clear n0_; (try clear hb); (try clear hb2); (try clear hk); (try clear hi)) | ((with_reducible refine gate_callee (f := 149) rfl ?_); refine goesL_ (some 25) rfl rfl Try.func149 (by kernel_rfl) rfl #[.slice A0 l0.length c0, .slice A1 l1.length c1] rfl zS ?_; (with_reducible refine (spec_l04All.calls kj2 _ _ l0 _ _ l1 t133 t134 t135 _ ?side1 ?side2 ?side3 ?side4 A10.out).mono ?_); (case side1 => exact zE HR0 HB); (case side2 => exact HC0.out); (case side3 => exact zE HR1 HB); (case side4 => exact HC1.out); rintro e w12 ⟨rfl, hb⟩; refine ⟨_, rfl, ?_⟩; have n0_ := zQ (below_step (zB HB.out) hb); clear HB; have HB := n0_; clear n0_; (try clear hb); (try clear hb2); (try clear hk); (try clear hi)))
      go_ret3
      exact ⟨by first | rfl | (simp [errW_none, errW_some] <;> rfl) | (simp [*, errW_none, errW_some] <;> rfl), zB HB.out⟩
     ·replace c9 := Bool.eq_false_iff.mpr c9
      subst c9
      have H1 : (some (0, 0, 1)) = some (r1, r2, r3) := by rw [if_neg (show ¬ (false = true) by decide)] at H; exact H
      clear H
      have H := H1
      clear H1
      simp only [Option.some.injEq, Prod.mk.injEq] at H
      obtain ⟨rfl, rfl, rfl⟩ := H
      go_wp2_with (first | ((with_reducible refine gate_callee (f := 136) rfl ?_); refine goesL_ (some 16) rfl rfl Try.func136 (by kernel_rfl) rfl #[.slice A1 l1.length c1] rfl zS ?_; (with_reducible refine (spec_l04Kinds.calls kj2 _ _ l1 true _ ?side1 ?side2 A6.out).mono ?_); (case side1 => exact zE HR1 HB); (case side2 => exact HC1.out); rintro e w' ⟨rfl, ⟨nd, rfl⟩⟩; refine ⟨_, rfl, ?_⟩) | (go_at_call 148; (with_reducible refine (spec_l04Routines.calls kj2 _ _ l0 false _ ?side1 ?side2 A8.out).mono ?_); (case side1 => exact zC (Kd.C_below HR0.out (zB HB.out))); (case side2 => exact HC0.out); rintro e w13 ⟨rfl, hb⟩; have n0_ := zQ (below_step (zB HB.out) hb); clear HB; have HB := n0_; clear n0_; (try clear hb); (try clear hb2); (try clear hk); (try clear hi)))
      go_ret3
      exact ⟨by first | rfl | (simp [errW_none, errW_some] <;> rfl) | (simp [*, errW_none, errW_some] <;> rfl), zB HB.out⟩
    ·replace c7 := Bool.eq_false_iff.mpr c7
     subst c7
     have H1 : (some (0, 0, 1)) = some (r1, r2, r3) := by rw [if_neg (show ¬ (false = true) by decide)] at H; exact H
     clear H
     have H := H1
     clear H1
     simp only [Option.some.injEq, Prod.mk.injEq] at H
     obtain ⟨rfl, rfl, rfl⟩ := H
     go_wp2_with (first | ((with_reducible refine gate_callee (f := 136) rfl ?_); refine goesL_ (some 16) rfl rfl Try.func136 (by kernel_rfl) rfl #[.slice A1 l1.length c1] rfl zS ?_; (with_reducible refine (spec_l04Kinds.calls kj2 _ _ l1 false _ ?side1 ?side2 A6.out).mono ?_); (case side1 => exact zE HR1 HB); (case side2 => exact HC1.out); rintro e w' ⟨rfl, ⟨nd, rfl⟩⟩; refine ⟨_, rfl, ?_⟩))
     go_ret3
     exact ⟨by first | rfl | (simp [errW_none, errW_some] <;> rfl) | (simp [*, errW_none, errW_some] <;> rfl), zB HB.out⟩

/-! ### spec_l07Own: function 79 -/
def spec_l07Own.l0 : Nat → List (S184) → Int → List (S184) → List Int → Option ((List (S184)) × List Int)
 | 0, _, _, _, _ => none
 | k + 1, x3, x4, x137000, x137001 => if x4 < (x137000.length : Int) then (if 0 ≤ x4 then ((some (([] : List Int) : List Int)).bind fun y143 => (if y143.length + ((rd_T184 x137000 x4).f2).length < 17592186044416 then (if x3.length < 3518437208883 then (spec_l07Own.l0 k (x3 ++ [(⟨(rd_T184 x137000 x4).f0, (rd_T184 x137000 x4).f1, (y143 ++ ((rd_T184 x137000 x4).f2))⟩ : S184)]) (wrap64 (x4 + 1)) x137000 x137001) else (none)) else (none))) else (none)) else ((some (([] : List Int) : List Int)).bind fun y152 => (if y152.length + x137001.length < 17592186044416 then (some (x3, (y152 ++ x137001))) else (none)))
def spec_l07Own.f (k : Nat) (l0_0 : List (S184)) (l0_1 : List Int) : Option ((List (S184)) × List Int) := spec_l07Own.l0 k (([] : List (S184))) 0 l0_0 l0_1
theorem spec_l07Own.mono_l : ∀ k, (∀ y0 y1 y2 y3, LeO (spec_l07Own.l0 k y0 y1 y2 y3) (spec_l07Own.l0 (k + 1) y0 y1 y2 y3))
 | 0 => fun _ _ _ _ r h => by simp [spec_l07Own.l0] at h
 | k + 1 => by
  have ih0 := spec_l07Own.mono_l k
  ·intro y0 y1 y2 y3
   unfold spec_l07Own.l0
   repeat' first
   | (with_reducible exact ih0 _ _ _ _)
   | (with_reducible exact LeO.refl _)
   | (with_reducible exact LeO.none _)
   | (with_reducible refine LeO.ite ?_ ?_)
   | (with_reducible refine LeO.bind ?_ (fun _ => ?_))
theorem spec_l07Own.mono : ∀ a0 a1 k, LeO (spec_l07Own.f k a0 a1) (spec_l07Own.f (k + 1) a0 a1) := by
 intro a0 a1 k
 have ih0 := spec_l07Own.mono_l k
 unfold spec_l07Own.f
 repeat' first
  | (with_reducible exact ih0 _ _ _ _)
  | (with_reducible exact LeO.refl _)
  | (with_reducible exact LeO.none _)
  | (with_reducible refine LeO.ite ?_ ?_)
  | (with_reducible refine LeO.bind ?_ (fun _ => ?_))
theorem spec_l07Own.calls (k : Nat) (A0_0 : Option Addr) (c0_0 : Nat) (l0_0 : List (S184)) (A0_1 : Option Addr) (c0_1 : Nat) (l0_1 : List Int) (r1 : List (S184)) (r2 : List Int) (w : World) (hr0_0 : Kd.C k184 w A0_0 l0_0.length l0_0) (hc0_0 : l0_0.length ≤ c0_0) (hr0_1 : Kd.C (Kd.int .i64) w A0_1 l0_1.length l0_1) (hc0_1 : l0_1.length ≤ c0_1) (h : spec_l07Own.f k l0_0 l0_1 = some (r1, r2)) :
 Calls Try.prog 79 #[.agg #[.slice A0_0 l0_0.length c0_0, .slice A0_1 l0_1.length c0_1]] w fun e w' => ∃ v0_ v1_ : Value, e = .returned (.agg #[v0_, v1_]) ∧ Kd.S k184 184 w' w.heap.size (fun k_ => some k_ ≠ (v1_ : Value).ownBlock) v0_ r1 ∧ Kd.R (Kd.int .i64) 3 w' w.heap.size (fun _ => True) v1_ r2 ∧ Below w.heap.size w w' := by
 have hu45 := Try.underlying45
 have hu184 := Try.underlying184
 have HR0_0 := zQ hr0_0
 have HC0_0 := zQ hc0_0
 clear hr0_0 hc0_0
 have HR0_1 := zQ hr0_1
 have HC0_1 := zQ hc0_1
 clear hr0_1 hc0_1
 have HB := zQ (Below.refl w.heap.size w)
 have H : (spec_l07Own.l0 k (([] : List (S184))) 0 l0_0 l0_1) = some (r1, r2) := h
 clear h
 obtain ⟨y138, hy138⟩ : ∃ y_ : List (S184), y_ = (([] : List (S184))) := ⟨_, rfl⟩
 replace H : (spec_l07Own.l0 k y138 0 l0_0 l0_1) = some (r1, r2) := by first | (rw [hy138]; with_reducible exact H) | (have H2_ := (Option.bind_some _ _).symm.trans H; rw [hy138]; with_reducible exact H2_) | (have H2_ := (Option.bind_some _ _).symm.trans H; with_reducible exact H2_) | with_reducible exact H | (rw [hy138]; exact H) | exact H
 have Ny138 := zQ hy138
 clear hy138
 have H' := zQ H
 clear H
 go_enter Try.func79, Try.ntmps79
 go_wp2_with (first | ((with_reducible refine gate_dst (N := 1) rfl ?_); refine box_event ?hg (N := 1) ?hd (cs := #[.slice A0_0 l0_0.length c0_0, .slice A0_1 l0_1.length c0_1]) (t := 45) ?hr ?_; (case hd => rfl); (case hg => rfl); (case hr => first | (go_simp; done) | (go_simp; rfl)); intro gb136 hg w2 hbox hb; have n0_ := zQ (below_step (zB HB.out) hb); have n1_ := zQ (hbox); have n2_ := zQ ((zG hg HB.out)); have n3_ := zQ ((zG hg HB.out)); clear HB; have HB := n0_; have BK136 := n1_; have GW136 := n2_; have GE136 := n3_; clear n0_ n1_ n2_ n3_; clear hb hbox hg) | ((with_reducible refine gate_dst (N := 2) rfl ?_); refine box_event ?hg (N := 2) ?hd (cs := #[.slice none 0 0, .slice none 0 0]) (t := 45) ?hr ?_; (case hd => rfl); (case hg => rfl); (case hr => first | (go_simp; done) | (go_simp; rfl)); intro gb137 hg w3 hbox hb; have n0_ := zQ (zL BK136.out hb); have n1_ := zQ (below_step (zB HB.out) hb); have n2_ := zQ (hbox); have n3_ := zQ ((zG hg HB.out)); have n4_ := zQ ((zG hg HB.out)); have n5_ := zQ ((zN hg BK136.out)); have n6_ := zQ ((zM hg BK136.out)); clear BK136; clear HB; have BK136 := n0_; have HB := n1_; have BK137 := n2_; have GW137 := n3_; have GE137 := n4_; have NB136_137 := n5_; have NB137_136 := n6_; clear n0_ n1_ n2_ n3_ n4_ n5_ n6_; clear hb hbox hg) | ((with_reducible refine gate_dst (N := 6) rfl ?_); refine Kd.S_lit k184 _ 184 ?hg (N := 6) ?hd (xs := ([] : List (S184))) (inner := []) (ok := fun _ => True) (okp := fun _ => True) ?hr ?hp (fun _ hk => hk) trivial (Below.refl _ _) (Nat.le_refl _) (by simp) ?_; (case hd => rfl); (case hg => rfl); (case hr => first | (go_simp; done) | (go_simp; rfl)); (case hp => exact (Reps.none _ _)); intro v139 w4 ho5 hb hg_ hnew_; clear hg_ hnew_; (first | rw [← Ny138.out] at ho5 | (simp only [Int.reduceToNat] at ho5; rw [← Ny138.out] at ho5)); have n0_ := zQ (Kd.S_lower ho5 (below_size (zB HB.out))); have n1_ := zQ (zL BK136.out hb); have n2_ := zQ (zL BK137.out hb); have n3_ := zQ (below_step (zB HB.out) hb); clear BK136; clear BK137; clear HB; have HO140 := n0_; have BK136 := n1_; have BK137 := n2_; have HB := n3_; clear n0_ n1_ n2_ n3_; clear hb ho5))
 go_loopg [3, 4] k (fun kq v3 v4 w' => ∃ (x3_1 : List (S184)) (x4_1 : Int), v4 = .int .i64 x4_1 ∧ Aside0 (spec_l07Own.l0 kq x3_1 x4_1 l0_0 l0_1 = some (r1, r2)) ∧ Aside0 (kq ≤ k) ∧ Aside0 (Kd.S k184 184 w' w.heap.size (fun _ => True) v3 x3_1) ∧ Aside0 (w'.heap[gb136]? = some (.cells #[(.slice A0_0 l0_0.length c0_0), (.slice A0_1 l0_1.length c0_1)] 45 (0, 0))) ∧ Aside0 (w'.heap[gb137]? = some (.cells #[(.slice none 0 0), (.slice none 0 0)] 45 (0, 0))) ∧ Aside0 (Below w.heap.size w w'))
 case atStart => exact ⟨(y138), (0), (by first | rfl | (simp; done) | (simp [*]; done)), H', ⟨Nat.le_refl _⟩, ⟨by (with_reducible repeat (first | apply Kd.S_alloc | apply Kd.S_drewN | apply Kd.S_drew)); exact HO140.out⟩, ⟨by (with_reducible repeat (first | refine blk_drewN ?_ _ | refine blk_drew ?_ | refine blk_alloc ?_ _)); exact BK136.out⟩, ⟨by (with_reducible repeat (first | refine blk_drewN ?_ _ | refine blk_drew ?_ | refine blk_alloc ?_ _)); exact BK137.out⟩, ⟨zB HB.out⟩⟩
 case round =>
  clear H'
  try clear p2
  obtain ⟨x3_1, x4_1, rfl, HA, HK1, HO_3, BK136, BK137, HB⟩ := hrel
  cases gk with
  | zero => exact absurd HA.out (by simp [spec_l07Own.l0])
  | succ k1 =>
   have H := HA.out
   clear HA
   simp only [spec_l07Own.l0] at H
   by_cases c6 : x4_1 < (l0_0.length : Int)
   ·rw [if_pos c6] at H
    have c6b0 : decide (x4_1 < (l0_0.length : Int)) = true := decide_eq_true c6
    clear c6
    by_cases c7 : 0 ≤ x4_1
    ·rw [if_pos c7] at H
     have c7b0 : decide (0 ≤ x4_1) = true := decide_eq_true c7
     clear c7
     obtain ⟨y143, hy143⟩ : ∃ y_ : List Int, y_ = (([] : List Int)) := ⟨_, rfl⟩
     replace H : (if y143.length + ((rd_T184 l0_0 x4_1).f2).length < 17592186044416 then (if x3_1.length < 3518437208883 then (spec_l07Own.l0 k1 (x3_1 ++ [(⟨(rd_T184 l0_0 x4_1).f0, (rd_T184 l0_0 x4_1).f1, (y143 ++ ((rd_T184 l0_0 x4_1).f2))⟩ : S184)]) (wrap64 (x4_1 + 1)) l0_0 l0_1) else (none)) else (none)) = some (r1, r2) := by first | (rw [hy143]; with_reducible exact H) | (have H2_ := (Option.bind_some _ _).symm.trans H; rw [hy143]; with_reducible exact H2_) | (have H2_ := (Option.bind_some _ _).symm.trans H; with_reducible exact H2_) | with_reducible exact H | (rw [hy143]; exact H) | exact H
     have Ny143 := zQ hy143
     clear hy143
     by_cases c8 : y143.length + ((rd_T184 l0_0 x4_1).f2).length < 17592186044416
     ·rw [if_pos c8] at H
      have LMc8 := zQ c8
      clear c8
      obtain ⟨y146, hy146⟩ : ∃ y_ : List Int, y_ = (y143 ++ ((rd_T184 l0_0 x4_1).f2)) := ⟨_, rfl⟩
      replace H : (if x3_1.length < 3518437208883 then (spec_l07Own.l0 k1 (x3_1 ++ [(⟨(rd_T184 l0_0 x4_1).f0, (rd_T184 l0_0 x4_1).f1, y146⟩ : S184)]) (wrap64 (x4_1 + 1)) l0_0 l0_1) else (none)) = some (r1, r2) := by first | (rw [hy146]; with_reducible exact H) | (have H2_ := (Option.bind_some _ _).symm.trans H; rw [hy146]; with_reducible exact H2_) | (have H2_ := (Option.bind_some _ _).symm.trans H; with_reducible exact H2_) | with_reducible exact H | (rw [hy146]; exact H) | exact H
      have Ny146 := zQ hy146
      clear hy146
      by_cases c9 : x3_1.length < 3518437208883
      ·rw [if_pos c9] at H
       have LMc9 := zQ c9
       clear c9
       obtain ⟨y149, hy149⟩ : ∃ y_ : List (S184), y_ = (x3_1 ++ [(⟨(rd_T184 l0_0 x4_1).f0, (rd_T184 l0_0 x4_1).f1, y146⟩ : S184)]) := ⟨_, rfl⟩
       replace H : (spec_l07Own.l0 k1 y149 (wrap64 (x4_1 + 1)) l0_0 l0_1) = some (r1, r2) := by first | (rw [hy149]; with_reducible exact H) | (have H2_ := (Option.bind_some _ _).symm.trans H; rw [hy149]; with_reducible exact H2_) | (have H2_ := (Option.bind_some _ _).symm.trans H; with_reducible exact H2_) | with_reducible exact H | (rw [hy149]; exact H) | exact H
       have Ny149 := zQ hy149
       clear hy149
       have H' := zQ H
       clear H
       have hnb10 := NB136_137.out
       have hnc10 := NB137_136.out
       obtain ⟨hcz11_0, hcz11_1, hfz11_0, hfz11_1⟩ := zc2 BK136.out
       have p141 : 0 ≤ (x4_1 : Int) := zA
       have q141 : x4_1 < (l0_0.length : Int) := zA
       obtain ⟨ad141, A141_2, c141_2, e141, hx141_0, hx141_1, hx141_2, hl141_2, hi141_2⟩ := at_T184 HR0_0.out x4_1 p141 q141
       cases e141
       replace hx141_0 := zX HB.out hx141_0
       replace hx141_1 := zX HB.out hx141_1
       replace hx141_2 := zX HB.out hx141_2
       have HR141_2 := zQ hi141_2
       have HC141_2 := zQ hl141_2
       clear hi141_2 hl141_2
       replace p141 := eq_true p141
       replace q141 := eq_true q141
       go_wp2_with (first | ((with_reducible refine gate_dst (N := 5) rfl ?_); refine box_event ?hg (N := 5) ?hd (cs := #[.int .i64 0, .int .i64 0, .slice none 0 0]) (t := 184) ?hr ?_; (case hd => rfl); (case hg => rfl); (case hr => first | (go_simp; done) | (go_simp; rfl)); intro gb142 hg w12 hbox hb; have n0_ := zQ (Kd.S_below (Kd.S_elderB (by (with_reducible repeat (first | apply Kd.S_alloc | apply Kd.S_drewN | apply Kd.S_drew)); exact HO_3.out) gb142 (Nat.le_of_eq hg.symm)) hb); have n1_ := zQ (zL BK136.out hb); have n2_ := zQ (zL BK137.out hb); have n3_ := zQ (below_step (zB HB.out) hb); have n4_ := zQ (hbox); have n5_ := zQ ((zG hg HB.out)); have n6_ := zQ ((zG hg HB.out)); have n7_ := zQ ((zN hg BK136.out)); have n8_ := zQ ((zM hg BK136.out)); have n9_ := zQ ((zN hg BK137.out)); have n10_ := zQ ((zM hg BK137.out)); clear HO_3; clear BK136; clear BK137; clear HB; have HO_3 := n0_; have BK136 := n1_; have BK137 := n2_; have HB := n3_; have BK142 := n4_; have GW142 := n5_; have GE142 := n6_; have NB136_142 := n7_; have NB142_136 := n8_; have NB137_142 := n9_; have NB142_137 := n10_; clear n0_ n1_ n2_ n3_ n4_ n5_ n6_ n7_ n8_ n9_ n10_; clear hb hbox hg; have hnb13 := NB142_136.out; have hnc13 := NB136_142.out; have hnb14 := NB142_137.out; have hnc14 := NB137_142.out; obtain ⟨hcz15_0, hcz15_1, hcz15_2, hfz15_0, hfz15_1, hfz15_2⟩ := zc3 BK142.out) | ((with_reducible refine gate_dst (N := 19) rfl ?_); refine Kd.R_lit (Kd.int .i64) _ 3 ?hg (N := 19) ?hd (xs := ([] : List Int)) (inner := []) (ok := fun _ => True) (okp := fun _ => True) ?hr ?hp (fun _ hk => hk) trivial (Below.refl _ _) (Nat.le_refl _) (by simp) ?_; (case hd => rfl); (case hg => rfl); (case hr => first | (go_simp; done) | (go_simp; rfl)); (case hp => exact (Reps.none _ _)); intro v144 w16 ho17 hb hg_ hnew_; clear hg_ hnew_; (first | rw [← Ny143.out] at ho17 | (simp only [Int.reduceToNat] at ho17; rw [← Ny143.out] at ho17)); have n0_ := zQ (Kd.S_elder' (by (with_reducible repeat (first | apply Kd.S_alloc | apply Kd.S_drewN | apply Kd.S_drew)); exact (Kd.S_mono (Kd.S_far (p := ⟨gb142, 2, none⟩) (Kd.S_far (p := ⟨gb142, 1, none⟩) (Kd.S_far (p := ⟨gb142, 0, none⟩) (Kd.S_mono HO_3.out (fun k_ hk => (⟨hk, hk.2⟩ : _ ∧ k_ ≠ gb142))) (fun _ hk => hk.2) (.int .i64 ((rd_T184 l0_0 x4_1).f0))) (fun _ hk => hk.2) (.int .i64 ((rd_T184 l0_0 x4_1).f1))) (fun _ hk => hk.2) (.slice A141_2 ((rd_T184 l0_0 x4_1).f2).length c141_2)) (fun _ h_ => h_.1))) (Kd.R_base ho17) hb); have n1_ := zQ (Kd.R_lower ho17 (below_size (zB HB.out))); have n2_ := zQ (zL BK136.out hb); have n3_ := zQ (zL BK137.out hb); have n4_ := zQ (blk_below (g := gb142) (o := .cells #[.int .i64 ((rd_T184 l0_0 x4_1).f0), .int .i64 ((rd_T184 l0_0 x4_1).f1), .slice A141_2 ((rd_T184 l0_0 x4_1).f2).length c141_2] 184 (0, 0)) (zP BK142.out) hb); have n5_ := zQ (below_step (zB HB.out) hb); clear HO_3; clear BK136; clear BK137; clear BK142; clear HB; have HO_3 := n0_; have HO145 := n1_; have BK136 := n2_; have BK137 := n3_; have BK142 := n4_; have HB := n5_; clear n0_ n1_ n2_ n3_ n4_ n5_; clear hb ho17; obtain ⟨hcz18_0, hcz18_1, hcz18_2, hfz18_0, hfz18_1, hfz18_2⟩ := zc3 BK142.out) | ((with_reducible refine gate_builtin (b := .append) (xs := #[.tmp 19, .tmp 21]) rfl ?_); at_builtin; refine Kd.R_append_rows (Kd.int .i64) (w0 := w) w.heap.size rfl (.tmp 19) (.tmp 21) 23 3 (.int .i64 0) 8 rfl Try.underlying23 info3 rfl (by decide) (by omega) v144 y143 ((rd_T184 l0_0 x4_1).f2) _ _ _ (fun _ => True) (fun _ => False) rfl rfl ?aO ?aR (fun _ _ h => h) (fun _ h => h.elim) ?aF ?aB ?aS ?aL ?_; (case aR => exact zC (Kd.C_below HR141_2.out HB.out)); (case aB => exact (zB HB.out)); (case aF => exact (fun _ _ => trivial)); (case aO => exact (zR HO145.out)); (case aS => exact (below_size (zB HB.out))); (case aL => have := LMc8.out; omega); intro v147 w19 ho hb hg hat; rw [← Ny146.out] at ho; have n0_ := zQ (Kd.S_after (ok := (fun k_ => k_ ≠ gb142)) (by (with_reducible repeat (first | apply Kd.S_alloc | apply Kd.S_drewN | apply Kd.S_drew)); exact Kd.S_mono HO_3.out (fun _ hk => ⟨hk.1.2, hk.2⟩)) hg hat); have n1_ := zQ (blk_grown (g := gb136) (o := .cells #[.slice (some ad141) l0_0.length c0_0, .slice A0_1 l0_1.length c0_1] 45 (0, 0)) (zK BK136.out) hg (Kd.R_ne HO145.out BK136.out (by decide))); have n2_ := zQ (blk_grown (g := gb137) (o := .cells #[.slice none 0 0, .slice none 0 0] 45 (0, 0)) (zK BK137.out) hg (Kd.R_ne HO145.out BK137.out (by decide))); have n3_ := zQ (blk_grown (g := gb142) (o := .cells #[.int .i64 ((rd_T184 l0_0 x4_1).f0), .int .i64 ((rd_T184 l0_0 x4_1).f1), .slice A141_2 ((rd_T184 l0_0 x4_1).f2).length c141_2] 184 (0, 0)) (zK BK142.out) hg (Kd.R_ne HO145.out BK142.out (by decide))); have n4_ := zQ (hb); have n5_ := zQ (ho); clear HO_3; clear BK136; clear BK137; clear BK142; clear HB; clear HO145; have HO_3 := n0_; have BK136 := n1_; have BK137 := n2_; have BK142 := n3_; have HB := n4_; have HO148 := n5_; clear n0_ n1_ n2_ n3_ n4_ n5_; clear ho hb hg hat; obtain ⟨Ao20, co20, eo20⟩ := Kd.R_slice HO148.out; subst eo20; obtain ⟨hcz21_0, hcz21_1, hcz21_2, hfz21_0, hfz21_1, hfz21_2⟩ := zc3 BK142.out) | ((with_reducible refine gate_store (t := 23) (p := 23) rfl ?_); refine store_event (t := 23) (p := 23) (v := ?vo_w22) (w1 := (w19.setCell ⟨gb142, 2, none⟩ (.slice Ao20 y146.length co20))) ?hg ?ho ?hn ?hr ?_; (case ho => rfl); (case hg => rfl); (case hn => rfl); (case hr => first | (go_simp; done) | (go_simp; rfl)); intro w22 hw; have n0_ : Aside0 (Kd.S k184 184 w22 w.heap.size (fun k_ => some k_ ≠ (.slice Ao20 y146.length co20 : Value).ownBlock ∧ k_ ≠ gb142) u3 x3_1) := ⟨(by rw [hw]; exact (by (with_reducible repeat (first | apply Kd.S_alloc | apply Kd.S_drewN | apply Kd.S_drew)); exact Kd.S_mono (Kd.S_far (p := ⟨gb142, 2, none⟩) (Kd.S_mono HO_3.out (fun k_ hk => (⟨hk, hk.1⟩ : _ ∧ k_ ≠ gb142))) (fun _ hk => hk.2) (.slice Ao20 y146.length co20)) (fun _ hk => ⟨hk.1.2, hk.1.1⟩)))⟩; have n1_ : Aside0 (Kd.R (Kd.int .i64) 3 w22 w.heap.size (fun _ => True) (.slice Ao20 y146.length co20) y146) := ⟨(by rw [hw]; exact (by (with_reducible repeat (first | apply Kd.R_alloc | apply Kd.R_drewN | apply Kd.R_drew)); exact Kd.R_mono (Kd.R_far (p := ⟨gb142, 2, none⟩) (Kd.R_types HO148.out BK142.out (by decide)) (fun _ hk => hk.2) (.slice Ao20 y146.length co20)) (fun _ hk => trivial)))⟩; have n2_ : Aside0 (w22.heap[gb136]? = some (.cells #[.slice (some ad141) l0_0.length c0_0, .slice A0_1 l0_1.length c0_1] 45 (0, 0))) := ⟨(by rw [hw]; exact (zF BK136.out))⟩; have n3_ : Aside0 (w22.heap[gb137]? = some (.cells #[.slice none 0 0, .slice none 0 0] 45 (0, 0))) := ⟨(by rw [hw]; exact (zF BK137.out))⟩; have n4_ : Aside0 (w22.heap[gb142]? = some (.cells #[.int .i64 ((rd_T184 l0_0 x4_1).f0), .int .i64 ((rd_T184 l0_0 x4_1).f1), .slice Ao20 y146.length co20] 184 (0, 0))) := ⟨(by rw [hw]; exact (zP BK142.out))⟩; have n5_ : Aside0 (Below w.heap.size w w22) := ⟨(by rw [hw]; exact (zB HB.out))⟩; clear hw; clear HO_3; clear HO148; clear BK136; clear BK137; clear BK142; clear HB; have HO_3 := n0_; have HO148 := n1_; have BK136 := n2_; have BK137 := n3_; have BK142 := n4_; have HB := n5_; clear n0_ n1_ n2_ n3_ n4_ n5_; obtain ⟨hcz23_0, hcz23_1, hcz23_2, hfz23_0, hfz23_1, hfz23_2⟩ := zc3 BK142.out) | ((with_reducible refine gate_builtin (b := .append) (xs := #[.tmp 24, .tmp 26]) rfl ?_); at_builtin; refine Kd.S_append k184 (w0 := w) w.heap.size rfl (.tmp 24) (.tmp 26) 43 184 (.agg #[(.int .i64 0), (.int .i64 0), (.slice none 0 0)]) 40 rfl Try.underlying43 info184 rfl (by decide) (by omega) u3 x3_1 (⟨(rd_T184 l0_0 x4_1).f0, (rd_T184 l0_0 x4_1).f1, y146⟩ : S184) [.int .i64 ((rd_T184 l0_0 x4_1).f0), .int .i64 ((rd_T184 l0_0 x4_1).f1), .slice Ao20 y146.length co20] (fun k_ => k_ ≠ gb142) (fun k_ => some k_ = (.slice Ao20 y146.length co20 : Value).ownBlock) rfl rfl ?aP (fun k_ hk_ => ((Kd.R_mono (ok' := fun k_ => ((fun k_ => k_ ≠ gb142)) k_ ∧ some k_ ≠ (u3 : Value).ownBlock) (Kd.R_types (Kd.R_apart' (HO148.out) (Kd.S_typed HO_3.out) (by decide)) BK142.out (by decide)) (fun k_ hk => ⟨hk.2, hk.1.2⟩))).1 k_ hk_.symm) ?aF ?aO ?aB ?aS ?aL ?_; (case aP => exact k184_mkM _ _ _ (⟨(rd_T184 l0_0 x4_1).f0, (rd_T184 l0_0 x4_1).f1, y146⟩ : S184) (Kd.R_mono (Kd.R_tight rfl (Kd.R_mono (ok' := fun k_ => ((fun k_ => k_ ≠ gb142)) k_ ∧ some k_ ≠ (u3 : Value).ownBlock) (Kd.R_types (Kd.R_apart' (HO148.out) (Kd.S_typed HO_3.out) (by decide)) BK142.out (by decide)) (fun k_ hk => ⟨hk.2, hk.1.2⟩))) (fun _ h_ => h_))); (case aB => exact (zB HB.out)); (case aF => exact (fun k_ hk => Kd.freshB (g := gb142) (o := .cells #[.int .i64 ((rd_T184 l0_0 x4_1).f0), .int .i64 ((rd_T184 l0_0 x4_1).f1), .slice Ao20 y146.length co20] 184 (0, 0)) (zK BK142.out) k_ hk)); (case aO => exact (by (with_reducible repeat (first | apply Kd.S_alloc | apply Kd.S_drewN | apply Kd.S_drew)); exact Kd.S_mono HO_3.out (fun k_ hk => ⟨hk.2, fun e_ => hk.1 e_⟩))); (case aS => exact (below_size (zB HB.out))); (case aL => have := LMc9.out; omega); intro v150 w24 ho hb hg hat; rw [← Ny149.out] at ho; have n0_ := zQ (blk_grown (g := gb136) (o := .cells #[.slice (some ad141) l0_0.length c0_0, .slice A0_1 l0_1.length c0_1] 45 (0, 0)) (zK BK136.out) hg (Kd.S_ne HO_3.out BK136.out (by decide))); have n1_ := zQ (blk_grown (g := gb137) (o := .cells #[.slice none 0 0, .slice none 0 0] 45 (0, 0)) (zK BK137.out) hg (Kd.S_ne HO_3.out BK137.out (by decide))); have n2_ := zQ (blk_grown (g := gb142) (o := .cells #[.int .i64 ((rd_T184 l0_0 x4_1).f0), .int .i64 ((rd_T184 l0_0 x4_1).f1), .slice Ao20 y146.length co20] 184 (0, 0)) (zK BK142.out) hg (Kd.S_away HO_3.out (fun _ hk => hk.2))); have n3_ := zQ (hb); have n4_ := zQ (ho); clear BK136; clear BK137; clear BK142; clear HB; clear HO_3; clear HO148; have BK136 := n0_; have BK137 := n1_; have BK142 := n2_; have HB := n3_; have HO151 := n4_; clear n0_ n1_ n2_ n3_ n4_; clear ho hb hg hat))
       go_roundg k1
       case measure => have := HK1.out; omega
       case rel => exact ⟨(y149), (wrap64 (x4_1 + 1)), (by first | rfl | (simp; done) | (simp [*]; done)), H', ⟨by have := HK1.out; omega⟩, ⟨by (with_reducible repeat (first | apply Kd.S_alloc | apply Kd.S_drewN | apply Kd.S_drew)); exact Kd.S_mono HO151.out (fun _ hk => trivial)⟩, ⟨by (with_reducible repeat (first | refine blk_drewN ?_ _ | refine blk_drew ?_ | refine blk_alloc ?_ _)); exact BK136.out⟩, ⟨by (with_reducible repeat (first | refine blk_drewN ?_ _ | refine blk_drew ?_ | refine blk_alloc ?_ _)); exact BK137.out⟩, ⟨zB HB.out⟩⟩
      ·rw [if_neg c9] at H
       exact absurd H (by simp)
     ·rw [if_neg c8] at H
      exact absurd H (by simp)
    ·rw [if_neg c7] at H
     exact absurd H (by simp)
   ·rw [if_neg c6] at H
    have c6b0 : decide (x4_1 < (l0_0.length : Int)) = false := decide_eq_false c6
    clear c6
    obtain ⟨y152, hy152⟩ : ∃ y_ : List Int, y_ = (([] : List Int)) := ⟨_, rfl⟩
    replace H : (if y152.length + l0_1.length < 17592186044416 then (some (x3_1, (y152 ++ l0_1))) else (none)) = some (r1, r2) := by first | (rw [hy152]; with_reducible exact H) | (have H2_ := (Option.bind_some _ _).symm.trans H; rw [hy152]; with_reducible exact H2_) | (have H2_ := (Option.bind_some _ _).symm.trans H; with_reducible exact H2_) | with_reducible exact H | (rw [hy152]; exact H) | exact H
    have Ny152 := zQ hy152
    clear hy152
    by_cases c25 : y152.length + l0_1.length < 17592186044416
    ·rw [if_pos c25] at H
     have LMc25 := zQ c25
     clear c25
     obtain ⟨y155, hy155⟩ : ∃ y_ : List Int, y_ = (y152 ++ l0_1) := ⟨_, rfl⟩
     replace H : (some (x3_1, y155)) = some (r1, r2) := by first | (rw [hy155]; with_reducible exact H) | (have H2_ := (Option.bind_some _ _).symm.trans H; rw [hy155]; with_reducible exact H2_) | (have H2_ := (Option.bind_some _ _).symm.trans H; with_reducible exact H2_) | with_reducible exact H | (rw [hy155]; exact H) | exact H
     have Ny155 := zQ hy155
     clear hy155
     simp only [Option.some.injEq, Prod.mk.injEq] at H
     obtain ⟨rfl, rfl⟩ := H
     have hnb26 := NB136_137.out
     have hnc26 := NB137_136.out
     obtain ⟨hcz27_0, hcz27_1, hfz27_0, hfz27_1⟩ := zc2 BK136.out
     go_wp2_with (first | ((with_reducible refine gate_dst (N := 29) rfl ?_); refine Kd.R_lit (Kd.int .i64) _ 3 ?hg (N := 29) ?hd (xs := ([] : List Int)) (inner := []) (ok := fun _ => True) (okp := fun _ => True) ?hr ?hp (fun _ hk => hk) trivial (Below.refl _ _) (Nat.le_refl _) (by simp) ?_; (case hd => rfl); (case hg => rfl); (case hr => first | (go_simp; done) | (go_simp; rfl)); (case hp => exact (Reps.none _ _)); intro v153 w28 ho29 hb hg_ hnew_; clear hg_ hnew_; (first | rw [← Ny152.out] at ho29 | (simp only [Int.reduceToNat] at ho29; rw [← Ny152.out] at ho29)); have n0_ := zQ (Kd.S_elder' (by (with_reducible repeat (first | apply Kd.S_alloc | apply Kd.S_drewN | apply Kd.S_drew)); exact HO_3.out) (Kd.R_base ho29) hb); have n1_ := zQ (Kd.R_lower ho29 (below_size (zB HB.out))); have n2_ := zQ (zL BK136.out hb); have n3_ := zQ (zL BK137.out hb); have n4_ := zQ (below_step (zB HB.out) hb); clear HO_3; clear BK136; clear BK137; clear HB; have HO_3 := n0_; have HO154 := n1_; have BK136 := n2_; have BK137 := n3_; have HB := n4_; clear n0_ n1_ n2_ n3_ n4_; clear hb ho29; obtain ⟨hcz30_0, hcz30_1, hfz30_0, hfz30_1⟩ := zc2 BK136.out) | ((with_reducible refine gate_builtin (b := .append) (xs := #[.tmp 29, .tmp 31]) rfl ?_); at_builtin; refine Kd.R_append_rows (Kd.int .i64) (w0 := w) w.heap.size rfl (.tmp 29) (.tmp 31) 23 3 (.int .i64 0) 8 rfl Try.underlying23 info3 rfl (by decide) (by omega) v153 y152 l0_1 _ _ _ (fun _ => True) (fun _ => False) rfl rfl ?aO ?aR (fun _ _ h => h) (fun _ h => h.elim) ?aF ?aB ?aS ?aL ?_; (case aR => exact zC (Kd.C_below HR0_1.out HB.out)); (case aB => exact (zB HB.out)); (case aF => exact (fun _ _ => trivial)); (case aO => exact (zR HO154.out)); (case aS => exact (below_size (zB HB.out))); (case aL => have := LMc25.out; omega); intro v156 w31 ho hb hg hat; rw [← Ny155.out] at ho; have n0_ := zQ (Kd.S_after (ok := (fun _ => True)) (by (with_reducible repeat (first | apply Kd.S_alloc | apply Kd.S_drewN | apply Kd.S_drew)); exact HO_3.out) hg hat); have n1_ := zQ (blk_grown (g := gb136) (o := .cells #[.slice A0_0 l0_0.length c0_0, .slice A0_1 l0_1.length c0_1] 45 (0, 0)) (zK BK136.out) hg (Kd.R_ne HO154.out BK136.out (by decide))); have n2_ := zQ (blk_grown (g := gb137) (o := .cells #[.slice none 0 0, .slice none 0 0] 45 (0, 0)) (zK BK137.out) hg (Kd.R_ne HO154.out BK137.out (by decide))); have n3_ := zQ (hb); have n4_ := zQ (ho); clear HO_3; clear BK136; clear BK137; clear HB; clear HO154; have HO_3 := n0_; have BK136 := n1_; have BK137 := n2_; have HB := n3_; have HO157 := n4_; clear n0_ n1_ n2_ n3_ n4_; clear ho hb hg hat; obtain ⟨Ao32, co32, eo32⟩ := Kd.R_slice HO157.out; subst eo32; obtain ⟨Ao33, co33, eo33⟩ := Kd.S_slice HO_3.out; subst eo33; obtain ⟨hcz34_0, hcz34_1, hfz34_0, hfz34_1⟩ := zc2 BK137.out))
     refine bodyPost_ret (results_cell_row rfl _ _ gb137 45 #[.slice Ao33 x3_1.length co33, .slice Ao32 y155.length co32] (0, 0) _ rfl (zP BK137.out) Try.underlying45 rfl (by kernel_rfl)) rfl ?_
     exact ⟨_, _, by first | rfl | (simp [errW_none, errW_some] <;> rfl) | (simp [*, errW_none, errW_some] <;> rfl), by (with_reducible repeat (first | apply Kd.S_alloc | apply Kd.S_drewN | apply Kd.S_drew)); exact Kd.S_mono (Kd.S_far (p := ⟨gb137, 1, none⟩) (Kd.S_far (p := ⟨gb137, 0, none⟩) (Kd.S_types HO_3.out BK137.out (by decide)) (fun _ hk => hk.2) (.slice Ao33 x3_1.length co33)) (fun _ hk => hk.2) (.slice Ao32 y155.length co32)) (fun _ hk => hk.1.2), by (with_reducible repeat (first | apply Kd.R_alloc | apply Kd.R_drewN | apply Kd.R_drew)); exact Kd.R_mono (Kd.R_far (p := ⟨gb137, 1, none⟩) (Kd.R_far (p := ⟨gb137, 0, none⟩) (Kd.R_types HO157.out BK137.out (by decide)) (fun _ hk => hk.2) (.slice Ao33 x3_1.length co33)) (fun _ hk => hk.2) (.slice Ao32 y155.length co32)) (fun _ hk => trivial), zB HB.out⟩
    ·rw [if_neg c25] at H
     exact absurd H (by simp)

end Go.Proofs.Ytkegjmkdnfpfdaa.MFnExactNewCore

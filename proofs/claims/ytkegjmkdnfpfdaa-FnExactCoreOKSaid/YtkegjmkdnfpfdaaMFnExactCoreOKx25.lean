-- Text written by a program of this session (wip/tools: the kit's printer with additions of ours).
import Derived.Test.YtkegjmkdnfpfdaaMFnExactCoreOKx0
import Derived.Test.YtkegjmkdnfpfdaaMFnExactCoreOKx10
import Derived.Test.YtkegjmkdnfpfdaaMFnExactCoreOKx11
import Derived.Test.YtkegjmkdnfpfdaaMFnExactCoreOKx13
namespace Go.Proofs.Ytkegjmkdnfpfdaa.MFnExactCoreOK
open Go.RowKit Go.Proofs.YtkegjmkdnfpfdaaW.PrintWords Go.Proofs.YtkegjmkdnfpfdaaW.PrintLast Go.Proofs.YtkegjmkdnfpfdaaW.PrintMore
attribute [local go_sem] max2_int min2_int max_two min_two max_three min_three max_four min_four
set_option linter.unusedVariables false
set_option linter.unusedSimpArgs false

/-! ### spec_l04Ask: function 62 -/
mutual
def spec_l04Ask.j0 : Nat → List (S96) → List Int → Int → Bool → Option (Int)
 | 0, _, _, _, _ => none
 | k + 1, x0, x1, x2, x14 => if x14 = true then (some 2) else (if (x0.length : Int) > 40 then (some 6) else ((spec_l04Kinds.f k x1).bind fun t210 => (if t210 = true then ((spec_l02All.f k x0).bind fun t211 => (spec_l04Ask.j1 k x2 (!t211))) else (spec_l04Ask.j1 k x2 true))))
def spec_l04Ask.j1 : Nat → Int → Bool → Option (Int)
 | 0, _, _ => none
 | k + 1, x2, x25 => if x25 = true then (some 1) else ((spec_l01In.f x2 0 6).bind fun t212 => (if t212 = true then (some 0) else (some 4)))
end
def spec_l04Ask.f (k : Nat) (l0 : List (S96)) (l1 : List Int) (a2 : Int) : Option (Int) := if (l0.length : Int) > 4096 then (spec_l04Ask.j0 k l0 l1 a2 true) else (spec_l04Ask.j0 k l0 l1 a2 (decide ((l1.length : Int) > 4096)))
theorem spec_l04Ask.mono_l : ∀ k, (∀ y0 y1 y2 y3, LeO (spec_l04Ask.j0 k y0 y1 y2 y3) (spec_l04Ask.j0 (k + 1) y0 y1 y2 y3)) ∧ (∀ y0 y1, LeO (spec_l04Ask.j1 k y0 y1) (spec_l04Ask.j1 (k + 1) y0 y1))
 | 0 => ⟨fun _ _ _ _ r h => by simp [spec_l04Ask.j0] at h, fun _ _ r h => by simp [spec_l04Ask.j1] at h⟩
 | k + 1 => by
  obtain ⟨ih0, ih1⟩ := spec_l04Ask.mono_l k
  refine ⟨?_, ?_⟩
  ·intro y0 y1 y2 y3
   unfold spec_l04Ask.j0
   repeat' first
   | (with_reducible exact ih0 _ _ _ _)
   | (with_reducible exact ih1 _ _)
   | (with_reducible exact spec_l02All.mono _ _)
   | (with_reducible exact spec_l04Kinds.mono _ _)
   | (with_reducible exact LeO.refl _)
   | (with_reducible exact LeO.none _)
   | (with_reducible refine LeO.ite ?_ ?_)
   | (with_reducible refine LeO.bind ?_ (fun _ => ?_))
   | exact ih0 _ _ _ _
   | exact ih1 _ _
   | exact spec_l02All.mono _ _
   | exact spec_l04Kinds.mono _ _
   | exact LeO.none _
   | refine LeO.ite ?_ ?_
   | refine LeO.bind ?_ (fun _ => ?_)
  ·intro y0 y1
   unfold spec_l04Ask.j1
   repeat' first
   | (with_reducible exact ih0 _ _ _ _)
   | (with_reducible exact ih1 _ _)
   | (with_reducible exact spec_l02All.mono _ _)
   | (with_reducible exact spec_l04Kinds.mono _ _)
   | (with_reducible exact LeO.refl _)
   | (with_reducible exact LeO.none _)
   | (with_reducible refine LeO.ite ?_ ?_)
   | (with_reducible refine LeO.bind ?_ (fun _ => ?_))
   | exact ih0 _ _ _ _
   | exact ih1 _ _
   | exact spec_l02All.mono _ _
   | exact spec_l04Kinds.mono _ _
   | exact LeO.none _
   | refine LeO.ite ?_ ?_
   | refine LeO.bind ?_ (fun _ => ?_)
theorem spec_l04Ask.mono : ∀ a0 a1 a2 k, LeO (spec_l04Ask.f k a0 a1 a2) (spec_l04Ask.f (k + 1) a0 a1 a2) := by
 intro a0 a1 a2 k
 obtain ⟨ih0, ih1⟩ := spec_l04Ask.mono_l k
 unfold spec_l04Ask.f
 repeat' first
  | (with_reducible exact ih0 _ _ _ _)
  | (with_reducible exact ih1 _ _)
  | (with_reducible exact spec_l02All.mono _ _)
  | (with_reducible exact spec_l04Kinds.mono _ _)
  | (with_reducible exact LeO.refl _)
  | (with_reducible exact LeO.none _)
  | (with_reducible refine LeO.ite ?_ ?_)
  | (with_reducible refine LeO.bind ?_ (fun _ => ?_))
  | exact ih0 _ _ _ _
  | exact ih1 _ _
  | exact spec_l02All.mono _ _
  | exact spec_l04Kinds.mono _ _
  | exact LeO.none _
  | refine LeO.ite ?_ ?_
  | refine LeO.bind ?_ (fun _ => ?_)
set_option maxHeartbeats 8000000 in
set_option maxRecDepth 100000 in
theorem spec_l04Ask.calls (k : Nat) (A0 : Option Addr) (c0 : Nat) (l0 : List (S96)) (A1 : Option Addr) (c1 : Nat) (l1 : List Int) (a2 : Int) (r : Int) (w : World) (hr0 : Kd.C k96 w A0 l0.length l0) (hc0 : l0.length ≤ c0) (hr1 : Kd.C (Kd.int .i64) w A1 l1.length l1) (hc1 : l1.length ≤ c1) (h : spec_l04Ask.f k l0 l1 a2 = some r) :
 Calls Try.prog 62 #[.slice A0 l0.length c0, .slice A1 l1.length c1, .int .i64 a2] w fun e w' => e = .returned (.int .i64 r) ∧ Below w.heap.size w w' := by
 have HR0 := zQ hr0
 have HC0 := zQ hc0
 clear hr0 hc0
 have HR1 := zQ hr1
 have HC1 := zQ hc1
 clear hr1 hc1
 have HB := zQ (Below.refl w.heap.size w)
 have H : (if (l0.length : Int) > 4096 then (spec_l04Ask.j0 k l0 l1 a2 true) else (spec_l04Ask.j0 k l0 l1 a2 (decide ((l1.length : Int) > 4096)))) = some r := h
 clear h
 have HC4 := zQ H
 clear H
 go_enter Try.func62, Try.ntmps62
 go_upto_region 1 with (fail)
 go_cut [14] (fun v14 wc => ∃ (kq : Nat) (x14_3 : Bool), v14 = .bool x14_3 ∧ Aside0 (spec_l04Ask.j0 kq l0 l1 a2 x14_3 = some r) ∧ Aside0 (kq ≤ k) ∧ Aside0 (Below w.heap.size w wc))
 case first =>
  have H := HC4.out
  clear HC4
  by_cases c5 : (l0.length : Int) > 4096
  ·rw [if_pos c5] at H
   have c5b0 : decide (4096 < (l0.length : Int)) = true := decide_eq_true c5
   have c5b1 : decide (4096 < l0.length) = true := decide_eq_true (by omega)
   clear c5
   (first | rw [c5b0] | (simp only [i64_w, i32_w]; rw [c5b0]) | skip)
   have H' := zQ H
   clear H
   go_wp2
   (first | go_meet | (refine Met.intro ?_; go_step; (repeat apply Exists.intro); refine ⟨?rel, ?eqm_⟩; (case eqm_ => (simp only [c5b1, c5b0]; rfl))))
   case rel => exact ⟨_, (true), (by first | rfl | (simp; done) | (simp [*]; done)), H', ⟨by first | omega | exact Nat.le_refl _⟩, ⟨zB HB.out⟩⟩
  ·rw [if_neg c5] at H
   have c5b0 : decide (4096 < (l0.length : Int)) = false := decide_eq_false c5
   have c5b1 : decide (4096 < l0.length) = false := decide_eq_false (by omega)
   clear c5
   (first | rw [c5b0] | (simp only [i64_w, i32_w]; rw [c5b0]) | skip)
   have H' := zQ H
   clear H
   go_wp2
   (first | go_meet | (refine Met.intro ?_; go_step; (repeat apply Exists.intro); refine ⟨?rel, ?eqm_⟩; (case eqm_ => (simp only [c5b1, c5b0]; rfl))))
   case rel => exact ⟨_, (decide ((l1.length : Int) > 4096)), (by first | rfl | (simp; done) | (simp [*]; done)), H', ⟨by first | omega | exact Nat.le_refl _⟩, ⟨zB HB.out⟩⟩
 case rest =>
  clear HC4
  try clear c1
  try clear p2
  try clear c5
  try clear c5b0
  try clear c5b1
  obtain ⟨kq, x14_3, rfl, HA, HJ3, HB⟩ := hcut
  cases kq with
  | zero => exact absurd HA.out (by simp [spec_l04Ask.j0])
  | succ kj3 =>
   have H := HA.out
   clear HA
   simp only [spec_l04Ask.j0] at H
   by_cases c6 : x14_3 = true
   ·subst c6
    have H1 : (some 2) = some r := by rw [if_pos rfl] at H; exact H
    clear H
    have H := H1
    clear H1
    obtain rfl := Option.some.inj H
    go_wp2
    go_ret
    exact ⟨by first | rfl | (simp [errW_none, errW_some] <;> rfl) | (simp [*, errW_none, errW_some] <;> rfl), zB HB.out⟩
   ·replace c6 := Bool.eq_false_iff.mpr c6
    subst c6
    have H1 : (if (l0.length : Int) > 40 then (some 6) else ((spec_l04Kinds.f kj3 l1).bind fun t210 => (if t210 = true then ((spec_l02All.f kj3 l0).bind fun t211 => (spec_l04Ask.j1 kj3 a2 (!t211))) else (spec_l04Ask.j1 kj3 a2 true)))) = some r := by rw [if_neg (show ¬ (false = true) by decide)] at H; exact H
    clear H
    have H := H1
    clear H1
    by_cases c7 : (l0.length : Int) > 40
    ·rw [if_pos c7] at H
     have c7b0 : decide (40 < (l0.length : Int)) = true := decide_eq_true c7
     have c7b1 : decide (40 < l0.length) = true := decide_eq_true (by omega)
     clear c7
     obtain rfl := Option.some.inj H
     go_wp2
     go_ret
     exact ⟨by first | rfl | (simp [errW_none, errW_some] <;> rfl) | (simp [*, errW_none, errW_some] <;> rfl), zB HB.out⟩
    ·rw [if_neg c7] at H
     have c7b0 : decide (40 < (l0.length : Int)) = false := decide_eq_false c7
     have c7b1 : decide (40 < l0.length) = false := decide_eq_false (by omega)
     clear c7
     have HC8 := zQ H
     clear H
     go_upto_region 5 with (fail)
     go_cut [25] (fun v25 wc => ∃ (kq : Nat) (x25_7 : Bool), v25 = .bool x25_7 ∧ Aside0 (spec_l04Ask.j1 kq a2 x25_7 = some r) ∧ Aside0 (kq ≤ kj3) ∧ Aside0 (Below w.heap.size w wc))
     case first =>
      have H := HC8.out
      clear HC8
      replace H := Option.bind_eq_some_iff.mp H
      obtain ⟨t210, A90, H⟩ := H
      replace H : (if t210 = true then ((spec_l02All.f kj3 l0).bind fun t211 => (spec_l04Ask.j1 kj3 a2 (!t211))) else (spec_l04Ask.j1 kj3 a2 true)) = some r := H
      have A9 := zQ A90
      clear A90
      by_cases c10 : t210 = true
      ·subst c10
       have H1 : ((spec_l02All.f kj3 l0).bind fun t211 => (spec_l04Ask.j1 kj3 a2 (!t211))) = some r := by rw [if_pos rfl] at H; exact H
       clear H
       have H := H1
       clear H1
       replace H := Option.bind_eq_some_iff.mp H
       obtain ⟨t211, A110, H⟩ := H
       replace H : (spec_l04Ask.j1 kj3 a2 (!t211)) = some r := H
       have A11 := zQ A110
       clear A110
       have H' := zQ H
       clear H
       go_wp2_with (first | ((with_reducible refine gate_callee (f := 136) rfl ?_); refine goesL_ (some 19) rfl rfl Try.func136 (by kernel_rfl) rfl #[.slice A1 l1.length c1] rfl (by (try simp only [List.map_toArray, List.map_cons, List.map_nil]); first | done | rfl | (simp only [List.length_drop, List.length_take]; rfl)) ?_; (with_reducible refine (spec_l04Kinds.calls kj3 _ _ l1 true _ ?side1 ?side2 A9.out).mono ?_); (case side1 => exact zC (Kd.C_below HR1.out HB.out)); (case side2 => exact HC1.out); rintro e w' ⟨rfl, ⟨nd, rfl⟩⟩; refine ⟨_, rfl, ?_⟩) | (go_at_call 69; (with_reducible refine (spec_l02All.calls kj3 _ _ l0 t211 _ ?side1 ?side2 A11.out).mono ?_); (case side1 => repeat (first | exact (Kd.C_below HR0.out (zB HB.out)) | (with_reducible refine Kd.C_alloc ?_ _) | (with_reducible refine Kd.C_drewN ?_ _) | (with_reducible refine Kd.C_drew ?_))); (case side2 => exact HC0.out); rintro e w12 ⟨rfl, hb⟩; have n0_ := zQ (below_step (zB HB.out) hb); clear HB; have HB := n0_; clear n0_; (try clear hb); (try clear hb2); (try clear hk); (try clear hi)))
       go_meet
       case rel => exact ⟨_, (!t211), (by first | rfl | (simp; done) | (simp [*]; done)), H', ⟨by have := HJ3.out; first | omega | exact Nat.le_refl _⟩, ⟨zB HB.out⟩⟩
      ·replace c10 := Bool.eq_false_iff.mpr c10
       subst c10
       have H1 : (spec_l04Ask.j1 kj3 a2 true) = some r := by rw [if_neg (show ¬ (false = true) by decide)] at H; exact H
       clear H
       have H := H1
       clear H1
       have H' := zQ H
       clear H
       go_wp2_with (first | ((with_reducible refine gate_callee (f := 136) rfl ?_); refine goesL_ (some 19) rfl rfl Try.func136 (by kernel_rfl) rfl #[.slice A1 l1.length c1] rfl (by (try simp only [List.map_toArray, List.map_cons, List.map_nil]); first | done | rfl | (simp only [List.length_drop, List.length_take]; rfl)) ?_; (with_reducible refine (spec_l04Kinds.calls kj3 _ _ l1 false _ ?side1 ?side2 A9.out).mono ?_); (case side1 => exact zC (Kd.C_below HR1.out HB.out)); (case side2 => exact HC1.out); rintro e w' ⟨rfl, ⟨nd, rfl⟩⟩; refine ⟨_, rfl, ?_⟩))
       go_meet
       case rel => exact ⟨_, (true), (by first | rfl | (simp; done) | (simp [*]; done)), H', ⟨by have := HJ3.out; first | omega | exact Nat.le_refl _⟩, ⟨zB HB.out⟩⟩
     case rest =>
      clear HC8
      try clear c1
      try clear p2
      try clear c5
      try clear c5b0
      try clear c5b1
      try clear c6
      try clear c7
      try clear c7b0
      try clear c7b1
      try clear c10
      try clear p2
      obtain ⟨kq, x25_7, rfl, HA, HJ7, HB⟩ := hcut
      cases kq with
      | zero => exact absurd HA.out (by simp [spec_l04Ask.j1])
      | succ kj7 =>
       have H := HA.out
       clear HA
       simp only [spec_l04Ask.j1] at H
       by_cases c13 : x25_7 = true
       ·subst c13
        have H1 : (some 1) = some r := by rw [if_pos rfl] at H; exact H
        clear H
        have H := H1
        clear H1
        obtain rfl := Option.some.inj H
        go_wp2
        go_ret
        exact ⟨by first | rfl | (simp [errW_none, errW_some] <;> rfl) | (simp [*, errW_none, errW_some] <;> rfl), zB HB.out⟩
       ·replace c13 := Bool.eq_false_iff.mpr c13
        subst c13
        have H1 : ((spec_l01In.f a2 0 6).bind fun t212 => (if t212 = true then (some 0) else (some 4))) = some r := by rw [if_neg (show ¬ (false = true) by decide)] at H; exact H
        clear H
        have H := H1
        clear H1
        replace H := Option.bind_eq_some_iff.mp H
        obtain ⟨t212, A140, H⟩ := H
        replace H : (if t212 = true then (some 0) else (some 4)) = some r := H
        have A14 := zQ A140
        clear A140
        by_cases c15 : t212 = true
        ·subst c15
         have H1 : (some 0) = some r := by rw [if_pos rfl] at H; exact H
         clear H
         have H := H1
         clear H1
         obtain rfl := Option.some.inj H
         go_wp2_with (first | ((with_reducible refine gate_callee (f := 78) rfl ?_); refine goesL_ (some 27) rfl rfl Try.func78 (by kernel_rfl) rfl #[.int .i64 a2, .int .i64 0, .int .i64 6] rfl (by (try simp only [List.map_toArray, List.map_cons, List.map_nil]); first | done | rfl | (simp only [List.length_drop, List.length_take]; rfl)) ?_; (with_reducible refine (spec_l01In.calls a2 0 6 true _ A14.out).mono ?_); rintro e w' ⟨rfl, ⟨nd, rfl⟩⟩; refine ⟨_, rfl, ?_⟩))
         go_ret
         exact ⟨by first | rfl | (simp [errW_none, errW_some] <;> rfl) | (simp [*, errW_none, errW_some] <;> rfl), zB HB.out⟩
        ·replace c15 := Bool.eq_false_iff.mpr c15
         subst c15
         have H1 : (some 4) = some r := by rw [if_neg (show ¬ (false = true) by decide)] at H; exact H
         clear H
         have H := H1
         clear H1
         obtain rfl := Option.some.inj H
         go_wp2_with (first | ((with_reducible refine gate_callee (f := 78) rfl ?_); refine goesL_ (some 27) rfl rfl Try.func78 (by kernel_rfl) rfl #[.int .i64 a2, .int .i64 0, .int .i64 6] rfl (by (try simp only [List.map_toArray, List.map_cons, List.map_nil]); first | done | rfl | (simp only [List.length_drop, List.length_take]; rfl)) ?_; (with_reducible refine (spec_l01In.calls a2 0 6 false _ A14.out).mono ?_); rintro e w' ⟨rfl, ⟨nd, rfl⟩⟩; refine ⟨_, rfl, ?_⟩))
         go_ret
         exact ⟨by first | rfl | (simp [errW_none, errW_some] <;> rfl) | (simp [*, errW_none, errW_some] <;> rfl), zB HB.out⟩

end Go.Proofs.Ytkegjmkdnfpfdaa.MFnExactCoreOK

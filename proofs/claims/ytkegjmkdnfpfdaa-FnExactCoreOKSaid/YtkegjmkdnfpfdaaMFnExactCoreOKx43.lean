-- Text written by a program of this session (wip/tools: the kit's printer with additions of ours).
import Derived.Test.YtkegjmkdnfpfdaaMFnExactCoreOKx0
import Derived.Test.YtkegjmkdnfpfdaaMFnExactCoreOKx42
namespace Go.Proofs.Ytkegjmkdnfpfdaa.MFnExactCoreOK
open Go.RowKit Go.Proofs.YtkegjmkdnfpfdaaW.PrintWords Go.Proofs.YtkegjmkdnfpfdaaW.PrintLast Go.Proofs.YtkegjmkdnfpfdaaW.PrintMore
attribute [local go_sem] max2_int min2_int max_two min_two max_three min_three max_four min_four
set_option linter.unusedVariables false
set_option linter.unusedSimpArgs false

/-! ### impl_openAt: function 230 -/
def impl_openAt.l0 : Nat → List (S96) → Int → List Int → Int → Int → Option (List Int)
 | 0, _, _, _, _, _ => none
 | k + 1, x0, x1, x5, x11, x12 => if x12 < x11 then (if 0 ≤ x12 then (if x12 < (x0.length : Int) then (if ((rd_T96 x0 x12).f0) = 24 then ((impl_match.f k x0 x12).bind fun bt312 => (if bt312.2.1 ≥ x1 then (if x5.length < 17592186044416 then (impl_openAt.l0 k x0 x1 (x5 ++ [(rd_T96 x0 x12).f1]) x11 (wrap64 (x12 + 1))) else (none)) else (impl_openAt.l0 k x0 x1 x5 x11 (wrap64 (x12 + 1))))) else (impl_openAt.l0 k x0 x1 x5 x11 (wrap64 (x12 + 1)))) else (none)) else (none)) else (some x5)
def impl_openAt.f (k : Nat) (l0 : List (S96)) (a1 : Int) : Option (List Int) := impl_openAt.l0 k l0 a1 (([] : List Int)) a1 0
theorem impl_openAt.mono_l : ∀ k, (∀ y0 y1 y2 y3 y4, LeO (impl_openAt.l0 k y0 y1 y2 y3 y4) (impl_openAt.l0 (k + 1) y0 y1 y2 y3 y4))
 | 0 => fun _ _ _ _ _ r h => by simp [impl_openAt.l0] at h
 | k + 1 => by
  have ih0 := impl_openAt.mono_l k
  ·intro y0 y1 y2 y3 y4
   unfold impl_openAt.l0
   repeat' first
   | (with_reducible exact ih0 _ _ _ _ _)
   | (with_reducible exact impl_match.mono _ _ _)
   | (with_reducible exact LeO.refl _)
   | (with_reducible exact LeO.none _)
   | (with_reducible refine LeO.ite ?_ ?_)
   | (with_reducible refine LeO.bind ?_ (fun _ => ?_))
   | exact ih0 _ _ _ _ _
   | exact impl_match.mono _ _ _
   | exact LeO.none _
   | refine LeO.ite ?_ ?_
   | refine LeO.bind ?_ (fun _ => ?_)
theorem impl_openAt.mono : ∀ a0 a1 k, LeO (impl_openAt.f k a0 a1) (impl_openAt.f (k + 1) a0 a1) := by
 intro a0 a1 k
 have ih0 := impl_openAt.mono_l k
 unfold impl_openAt.f
 repeat' first
  | (with_reducible exact ih0 _ _ _ _ _)
  | (with_reducible exact impl_match.mono _ _ _)
  | (with_reducible exact LeO.refl _)
  | (with_reducible exact LeO.none _)
  | (with_reducible refine LeO.ite ?_ ?_)
  | (with_reducible refine LeO.bind ?_ (fun _ => ?_))
  | exact ih0 _ _ _ _ _
  | exact impl_match.mono _ _ _
  | exact LeO.none _
  | refine LeO.ite ?_ ?_
  | refine LeO.bind ?_ (fun _ => ?_)
set_option maxHeartbeats 8000000 in
set_option maxRecDepth 100000 in
theorem impl_openAt.calls (k : Nat) (A0 : Option Addr) (c0 : Nat) (l0 : List (S96)) (a1 : Int) (r : List Int) (w : World) (hr0 : Kd.C k96 w A0 l0.length l0) (hc0 : l0.length ≤ c0) (h : impl_openAt.f k l0 a1 = some r) :
 Calls Try.prog 230 #[.slice A0 l0.length c0, .int .i64 a1] w fun e w' => ∃ v0_ : Value, e = .returned (v0_) ∧ Kd.R (Kd.int .i64) 3 w' w.heap.size (fun _ => True) v0_ r ∧ Below w.heap.size w w' := by
 have HR0 := zQ hr0
 have HC0 := zQ hc0
 clear hr0 hc0
 have HB := zQ (Below.refl w.heap.size w)
 have H : (impl_openAt.l0 k l0 a1 (([] : List Int)) a1 0) = some r := h
 clear h
 obtain ⟨y308, hy308⟩ : ∃ y_ : List Int, y_ = (([] : List Int)) := ⟨_, rfl⟩
 replace H : (impl_openAt.l0 k l0 a1 y308 a1 0) = some r := by first | (rw [hy308]; with_reducible exact H) | (have H2_ := (Option.bind_some _ _).symm.trans H; rw [hy308]; with_reducible exact H2_) | (have H2_ := (Option.bind_some _ _).symm.trans H; with_reducible exact H2_) | with_reducible exact H | (rw [hy308]; exact H) | exact H
 have Ny308 := zQ hy308
 clear hy308
 have H' := zQ H
 clear H
 go_enter Try.func230, Try.ntmps230
 go_wp2_with (first | ((with_reducible refine gate_dst (N := 10) rfl ?_); refine Kd.R_lit (Kd.int .i64) _ 3 ?hg (N := 10) ?hd (xs := ([] : List Int)) (inner := []) (ok := fun _ => True) (okp := fun _ => True) ?hr ?hp (fun _ hk => hk) trivial (Below.refl _ _) (Nat.le_refl _) (by simp) ?_; (case hd => rfl); (case hg => rfl); (case hr => first | (go_simp; done) | (go_simp; rfl)); (case hp => exact (Reps.none _ _)); intro v309 w3 ho4 hb hg_ hnew_; clear hg_ hnew_; (first | rw [← Ny308.out] at ho4 | (simp only [Int.reduceToNat] at ho4; rw [← Ny308.out] at ho4)); have n0_ := zQ (Kd.R_lower ho4 (below_size (zB HB.out))); have n1_ := zQ (below_step (zB HB.out) hb); clear HB; have HO310 := n0_; have HB := n1_; clear n0_ n1_; clear hb ho4))
 go_loopg [5, 12] k (fun kq v5 v12 w' => ∃ (x5_1 : List Int) (x12_1 : Int), v12 = .int .i64 x12_1 ∧ Aside0 (impl_openAt.l0 kq l0 a1 x5_1 a1 x12_1 = some r) ∧ Aside0 (kq ≤ k) ∧ Aside0 (Kd.R (Kd.int .i64) 3 w' w.heap.size (fun _ => True) v5 x5_1) ∧ Aside0 (Below w.heap.size w w'))
 case atStart => exact ⟨(y308), (0), (by first | rfl | (simp; done) | (simp [*]; done)), H', ⟨Nat.le_refl _⟩, ⟨by (with_reducible repeat (first | apply Kd.R_alloc | apply Kd.R_drewN | apply Kd.R_drew)); exact HO310.out⟩, ⟨zB HB.out⟩⟩
 case round =>
  clear H'
  try clear c2
  try clear p2
  obtain ⟨x5_1, x12_1, rfl, HA, HK1, HO_5, HB⟩ := hrel
  cases gk with
  | zero => exact absurd HA.out (by simp [impl_openAt.l0])
  | succ k1 =>
   have H := HA.out
   clear HA
   simp only [impl_openAt.l0] at H
   by_cases c5 : x12_1 < a1
   ·rw [if_pos c5] at H
    have c5b0 : decide (x12_1 < a1) = true := decide_eq_true c5
    clear c5
    by_cases c6 : 0 ≤ x12_1
    ·rw [if_pos c6] at H
     have c6b0 : decide (0 ≤ x12_1) = true := decide_eq_true c6
     clear c6
     by_cases c7 : x12_1 < (l0.length : Int)
     ·rw [if_pos c7] at H
      have c7b0 : decide (x12_1 < (l0.length : Int)) = true := decide_eq_true c7
      clear c7
      by_cases c8 : ((rd_T96 l0 x12_1).f0) = 24
      ·rw [if_pos c8] at H
       have c8b0 : (((rd_T96 l0 x12_1).f0) == 24) = true := beq_iff_eq.mpr c8
       have c8b1 : (((rd_T96 l0 x12_1).f0) != 24) = false := bne_eq_false_iff_eq.mpr c8
       clear c8
       replace H := Option.bind_eq_some_iff.mp H
       obtain ⟨⟨t312, t313, t314⟩, A90, H⟩ := H
       replace H : (if t313 ≥ a1 then (if x5_1.length < 17592186044416 then (impl_openAt.l0 k1 l0 a1 (x5_1 ++ [(rd_T96 l0 x12_1).f1]) a1 (wrap64 (x12_1 + 1))) else (none)) else (impl_openAt.l0 k1 l0 a1 x5_1 a1 (wrap64 (x12_1 + 1)))) = some r := H
       have A9 := zQ A90
       clear A90
       by_cases c10 : t313 ≥ a1
       ·rw [if_pos c10] at H
        have c10b0 : decide (a1 ≤ t313) = true := decide_eq_true c10
        clear c10
        by_cases c11 : x5_1.length < 17592186044416
        ·rw [if_pos c11] at H
         have LMc11 := zQ c11
         clear c11
         obtain ⟨y316, hy316⟩ : ∃ y_ : List Int, y_ = (x5_1 ++ [(rd_T96 l0 x12_1).f1]) := ⟨_, rfl⟩
         replace H : (impl_openAt.l0 k1 l0 a1 y316 a1 (wrap64 (x12_1 + 1))) = some r := by first | (rw [hy316]; with_reducible exact H) | (have H2_ := (Option.bind_some _ _).symm.trans H; rw [hy316]; with_reducible exact H2_) | (have H2_ := (Option.bind_some _ _).symm.trans H; with_reducible exact H2_) | with_reducible exact H | (rw [hy316]; exact H) | exact H
         have Ny316 := zQ hy316
         clear hy316
         have H' := zQ H
         clear H
         have p311 : 0 ≤ (x12_1 : Int) := zA
         have q311 : x12_1 < (l0.length : Int) := zA
         obtain ⟨ad311, e311, hx311_0, hx311_1⟩ := at_T96 HR0.out x12_1 p311 q311
         cases e311
         replace hx311_0 := zX HB.out hx311_0
         replace hx311_1 := zX HB.out hx311_1
         replace p311 := eq_true p311
         replace q311 := eq_true q311
         go_wp2_with (first | ((with_reducible refine gate_callee (f := 141) rfl ?_); refine goesL_ (some 24) rfl rfl Try.func141 (by kernel_rfl) rfl #[.slice (some ad311) l0.length c0, .int .i64 x12_1] rfl (by (try simp only [List.map_toArray, List.map_cons, List.map_nil]); first | done | rfl | (simp only [List.length_drop, List.length_take]; rfl)) ?_; (with_reducible refine (impl_match.calls k1 _ _ l0 x12_1 t312 t313 t314 _ ?side1 ?side2 A9.out).mono ?_); (case side1 => exact zC (Kd.C_below HR0.out HB.out)); (case side2 => exact HC0.out); rintro e w' ⟨rfl, ⟨nd, rfl⟩⟩; refine ⟨_, rfl, ?_⟩; have p315 : 0 ≤ (x12_1 : Int) := zA; have q315 : x12_1 < (l0.length : Int) := zA; obtain ⟨ad315, e315, hx315_0, hx315_1⟩ := at_T96 HR0.out x12_1 p315 q315; obtain rfl : ad311 = ad315 := (by injection e315); replace hx315_0 := zX HB.out hx315_0; replace hx315_1 := zX HB.out hx315_1; replace p315 := eq_true p315; replace q315 := eq_true q315) | ((with_reducible refine gate_builtin (b := .append) (xs := #[.tmp 31, .tmp 37]) rfl ?_); at_builtin; refine Kd.R_append (Kd.int .i64) (w0 := w) w.heap.size rfl (.tmp 31) (.tmp 37) 23 3 (.int .i64 0) 8 rfl Try.underlying23 info3 rfl (by decide) (by omega) u5 x5_1 ((rd_T96 l0 x12_1).f1) [.int .i64 ((rd_T96 l0 x12_1).f1)] (fun _ => True) (fun _ => False) rfl rfl ?aP (fun _ hk => hk.elim) ?aF ?aO ?aB ?aS ?aL ?_; (case aP => exact rfl); (case aB => exact (zB HB.out)); (case aF => exact (fun _ _ => trivial)); (case aO => exact (zR HO_5.out)); (case aS => exact (below_size (zB HB.out))); (case aL => have := LMc11.out; omega); intro v317 w12 ho hb hg hat; rw [← Ny316.out] at ho; have n0_ := zQ (hb); have n1_ := zQ (ho); clear HB; clear HO_5; have HB := n0_; have HO318 := n1_; clear n0_ n1_; clear ho hb hg hat))
         go_roundg k1
         case measure => have := HK1.out; omega
         case rel => exact ⟨(y316), (wrap64 (x12_1 + 1)), (by first | rfl | (simp; done) | (simp [*]; done)), H', ⟨by have := HK1.out; omega⟩, ⟨by (with_reducible repeat (first | apply Kd.R_alloc | apply Kd.R_drewN | apply Kd.R_drew)); exact HO318.out⟩, ⟨zB HB.out⟩⟩
        ·rw [if_neg c11] at H
         exact absurd H (by simp)
       ·rw [if_neg c10] at H
        have c10b0 : decide (a1 ≤ t313) = false := decide_eq_false c10
        clear c10
        have H' := zQ H
        clear H
        have p311 : 0 ≤ (x12_1 : Int) := zA
        have q311 : x12_1 < (l0.length : Int) := zA
        obtain ⟨ad311, e311, hx311_0, hx311_1⟩ := at_T96 HR0.out x12_1 p311 q311
        cases e311
        replace hx311_0 := zX HB.out hx311_0
        replace hx311_1 := zX HB.out hx311_1
        replace p311 := eq_true p311
        replace q311 := eq_true q311
        go_wp2_with (first | ((with_reducible refine gate_callee (f := 141) rfl ?_); refine goesL_ (some 24) rfl rfl Try.func141 (by kernel_rfl) rfl #[.slice (some ad311) l0.length c0, .int .i64 x12_1] rfl (by (try simp only [List.map_toArray, List.map_cons, List.map_nil]); first | done | rfl | (simp only [List.length_drop, List.length_take]; rfl)) ?_; (with_reducible refine (impl_match.calls k1 _ _ l0 x12_1 t312 t313 t314 _ ?side1 ?side2 A9.out).mono ?_); (case side1 => exact zC (Kd.C_below HR0.out HB.out)); (case side2 => exact HC0.out); rintro e w' ⟨rfl, ⟨nd, rfl⟩⟩; refine ⟨_, rfl, ?_⟩))
        go_roundg k1
        case measure => have := HK1.out; omega
        case rel => exact ⟨(x5_1), (wrap64 (x12_1 + 1)), (by first | rfl | (simp; done) | (simp [*]; done)), H', ⟨by have := HK1.out; omega⟩, ⟨by (with_reducible repeat (first | apply Kd.R_alloc | apply Kd.R_drewN | apply Kd.R_drew)); exact HO_5.out⟩, ⟨zB HB.out⟩⟩
      ·rw [if_neg c8] at H
       have c8b0 : (((rd_T96 l0 x12_1).f0) == 24) = false := beq_eq_false_iff_ne.mpr c8
       have c8b1 : (((rd_T96 l0 x12_1).f0) != 24) = true := bne_iff_ne.mpr c8
       have H' := zQ H
       clear H
       have p311 : 0 ≤ (x12_1 : Int) := zA
       have q311 : x12_1 < (l0.length : Int) := zA
       obtain ⟨ad311, e311, hx311_0, hx311_1⟩ := at_T96 HR0.out x12_1 p311 q311
       cases e311
       replace hx311_0 := zX HB.out hx311_0
       replace hx311_1 := zX HB.out hx311_1
       replace p311 := eq_true p311
       replace q311 := eq_true q311
       go_wp2
       go_roundg k1
       case measure => have := HK1.out; omega
       case rel => exact ⟨(x5_1), (wrap64 (x12_1 + 1)), (by first | rfl | (simp; done) | (simp [*]; done)), H', ⟨by have := HK1.out; omega⟩, ⟨by (with_reducible repeat (first | apply Kd.R_alloc | apply Kd.R_drewN | apply Kd.R_drew)); exact HO_5.out⟩, ⟨zB HB.out⟩⟩
     ·rw [if_neg c7] at H
      exact absurd H (by simp)
    ·rw [if_neg c6] at H
     exact absurd H (by simp)
   ·rw [if_neg c5] at H
    have c5b0 : decide (x12_1 < a1) = false := decide_eq_false c5
    clear c5
    obtain rfl := Option.some.inj H
    go_wp2
    go_ret
    exact ⟨_, by first | rfl | (simp [errW_none, errW_some] <;> rfl) | (simp [*, errW_none, errW_some] <;> rfl), by (with_reducible repeat (first | apply Kd.R_alloc | apply Kd.R_drewN | apply Kd.R_drew)); exact HO_5.out, zB HB.out⟩

end Go.Proofs.Ytkegjmkdnfpfdaa.MFnExactCoreOK

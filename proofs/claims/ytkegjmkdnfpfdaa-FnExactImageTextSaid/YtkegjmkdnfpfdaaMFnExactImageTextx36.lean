-- By a program of this session.
import Derived.Test.YtkegjmkdnfpfdaaMFnExactImageTextx0
import Derived.Test.YtkegjmkdnfpfdaaMFnExactImageTextx35
namespace Go.Proofs.Ytkegjmkdnfpfdaa.MFnExactImageText
open Go.RowKit Go.Proofs.YtkegjmkdnfpfdaaW.PrintWords Go.Proofs.YtkegjmkdnfpfdaaW.PrintLast Go.Proofs.YtkegjmkdnfpfdaaW.PrintMore
attribute [local go_sem] max2_int min2_int max_two min_two max_three min_three max_four min_four
set_option linter.unusedVariables false
set_option linter.unusedSimpArgs false
set_option maxHeartbeats 8000000
set_option maxRecDepth 100000

/-! ### impl_verifyAll: function 96 -/
def impl_verifyAll.l0 : Nat → List Int → List (S124) → Int → Int → Option (Int × Int × Int)
 | 0, _, _, _, _ => none
 | k + 1, x1, x12, x13, x14 => if x14 < x13 then (if 0 ≤ x14 then (if x14 < (x12.length : Int) then ((impl_verify.f ((rd_T124 x12 x14).f0) x1 x14).bind fun bt296 => (if bt296.2.2 = 0 then (impl_verifyAll.l0 k x1 x12 x13 (wrap64 (x14 + 1))) else (some (x14, bt296.2.1, bt296.2.2)))) else (none)) else (none)) else (some (0, 0, 0))
def impl_verifyAll.f (k : Nat) (l0 : List (S124)) (l1 : List Int) : Option (Int × Int × Int) := impl_verifyAll.l0 k l1 l0 (l0.length : Int) 0
theorem impl_verifyAll.mono_l : ∀ k, (∀ y0 y1 y2 y3, LeO (impl_verifyAll.l0 k y0 y1 y2 y3) (impl_verifyAll.l0 (k + 1) y0 y1 y2 y3))
 | 0 => fun _ _ _ _ r h => by simp [impl_verifyAll.l0] at h
 | k + 1 => by
  have ih0 := impl_verifyAll.mono_l k
  ·intro y0 y1 y2 y3
   unfold impl_verifyAll.l0
   repeat' first
   | (with_reducible exact ih0 _ _ _ _)
   | (with_reducible exact LeO.refl _)
   | (with_reducible exact LeO.none _)
   | (with_reducible refine LeO.ite ?_ ?_)
   | (with_reducible refine LeO.bind ?_ (fun _ => ?_))
theorem impl_verifyAll.mono : ∀ a0 a1 k, LeO (impl_verifyAll.f k a0 a1) (impl_verifyAll.f (k + 1) a0 a1) := by
 intro a0 a1 k
 have ih0 := impl_verifyAll.mono_l k
 unfold impl_verifyAll.f
 repeat' first
  | (with_reducible exact ih0 _ _ _ _)
  | (with_reducible exact LeO.refl _)
  | (with_reducible exact LeO.none _)
  | (with_reducible refine LeO.ite ?_ ?_)
  | (with_reducible refine LeO.bind ?_ (fun _ => ?_))
theorem impl_verifyAll.calls (k : Nat) (A0 : Option Addr) (c0 : Nat) (l0 : List (S124)) (A1 : Option Addr) (c1 : Nat) (l1 : List Int) (r1 : Int) (r2 : Int) (r3 : Int) (w : World) (hr0 : Kd.C k124 w A0 l0.length l0) (hc0 : l0.length ≤ c0) (hr1 : Kd.C (Kd.int .i64) w A1 l1.length l1) (hc1 : l1.length ≤ c1) (h : impl_verifyAll.f k l0 l1 = some (r1, r2, r3)) :
 Calls Try.prog 96 #[.slice A0 l0.length c0, .slice A1 l1.length c1] w fun e w' => e = .returned (.tuple #[.int .i64 r1, .int .i64 r2, .int .i64 r3]) ∧ Below w.heap.size w w' := by
 have hu124 := Try.underlying124
 have HR0 := zQ hr0
 have HC0 := zQ hc0
 clear hr0 hc0
 have HR1 := zQ hr1
 have HC1 := zQ hc1
 clear hr1 hc1
 have HB := zQ (Below.refl w.heap.size w)
 have H : (impl_verifyAll.l0 k l1 l0 (l0.length : Int) 0) = some (r1, r2, r3) := h
 clear h
 have H' := zQ H
 clear H
 go_enter Try.func96, Try.ntmps96
 go_wp2
 go_loopg [14] k (fun kq v14 w' => ∃ (x14_1 : Int), v14 = .int .i64 x14_1 ∧ Aside0 (impl_verifyAll.l0 kq l1 l0 (l0.length : Int) x14_1 = some (r1, r2, r3)) ∧ Aside0 (kq ≤ k) ∧ Aside0 (Below w.heap.size w w'))
 case atStart => exact ⟨(0), (by first | rfl | (simp; done) | (simp [*]; done)), H', ⟨Nat.le_refl _⟩, ⟨zB HB.out⟩⟩
 case round =>
  clear H'
  try clear c1
  try clear p2
  obtain ⟨x14_1, rfl, HA, HK1, HB⟩ := hrel
  cases gk with
  | zero => exact absurd HA.out (by simp [impl_verifyAll.l0])
  | succ k1 =>
   have H := HA.out
   clear HA
   simp only [impl_verifyAll.l0] at H
   by_cases c3 : x14_1 < (l0.length : Int)
   ·rw [if_pos c3] at H
    have c3b0 : decide (x14_1 < (l0.length : Int)) = true := decide_eq_true c3
    clear c3
    by_cases c4 : 0 ≤ x14_1
    ·rw [if_pos c4] at H
     have c4b0 : decide (0 ≤ x14_1) = true := decide_eq_true c4
     clear c4
     by_cases c5 : x14_1 < (l0.length : Int)
     ·rw [if_pos c5] at H
      have c5b0 : decide (x14_1 < (l0.length : Int)) = true := decide_eq_true c5
      clear c5
      replace H := Option.bind_eq_some_iff.mp H
      obtain ⟨⟨t296, t297, t298⟩, A60, H⟩ := H
      replace H : (if t298 = 0 then (impl_verifyAll.l0 k1 l1 l0 (l0.length : Int) (wrap64 (x14_1 + 1))) else (some (x14_1, t297, t298))) = some (r1, r2, r3) := H
      have A6 := zQ A60
      clear A60
      by_cases c7 : t298 = 0
      ·rw [if_pos c7] at H
       have c7b0 : (t298 == 0) = true := beq_iff_eq.mpr c7
       have c7b1 : (t298 != 0) = false := bne_eq_false_iff_eq.mpr c7
       clear c7
       have H' := zQ H
       clear H
       have p294 : 0 ≤ (x14_1 : Int) := zA
       have q294 : x14_1 < (l0.length : Int) := zA
       obtain ⟨ad294, A294_0, c294_0, e294, hx294_0, hl294_0, hi294_0⟩ := at_T124 HR0.out x14_1 p294 q294
       cases e294
       replace hx294_0 := zX HB.out hx294_0
       have HR294_0 := zQ hi294_0
       have HC294_0 := zQ hl294_0
       clear hi294_0 hl294_0
       replace p294 := eq_true p294
       replace q294 := eq_true q294
       go_wp2_with (first | ((with_reducible refine gate_dst (N := 8) rfl ?_); refine box_event ?hg (N := 8) ?hd (cs := #[.slice none 0 0]) (t := 124) ?hr ?_; (case hd => rfl); (case hg => rfl); (case hr => first | (go_simp; done) | (go_simp; rfl)); intro gb295 hg w8 hbox hb; have n0_ := zQ (below_step (zB HB.out) hb); have n1_ := zQ (hbox); have n2_ := zQ ((zG hg HB.out)); have n3_ := zQ ((zG hg HB.out)); clear HB; have HB := n0_; have BK295 := n1_; have GW295 := n2_; have GE295 := n3_; clear n0_ n1_ n2_ n3_; clear hb hbox hg; obtain ⟨hcz9_0, hfz9_0⟩ := zc1 BK295.out) | ((with_reducible refine gate_callee (f := 140) rfl ?_); refine goesL_ (some 24) rfl rfl Try.func140 (by kernel_rfl) rfl #[.slice A294_0 ((rd_T124 l0 x14_1).f0).length c294_0, .slice A1 l1.length c1, .int .i64 x14_1] rfl zS ?_; (with_reducible refine (impl_verify.calls _ _ ((rd_T124 l0 x14_1).f0) _ _ l1 x14_1 t296 t297 t298 _ ?side1 ?side2 ?side3 ?side4 A6.out).mono ?_); (case side1 => exact Kd.C_below HR294_0.out (zB HB.out)); (case side2 => exact HC294_0.out); (case side3 => exact Kd.C_below HR1.out (zB HB.out)); (case side4 => exact HC1.out); rintro e w10 ⟨v299, rfl, ho0, hb⟩; refine ⟨_, rfl, ?_⟩; have n0_ := zQ (Kd.R_lower ho0 (below_size (zB HB.out))); have n1_ := zQ (blk_below (g := gb295) (o := .cells #[.slice A294_0 ((rd_T124 l0 x14_1).f0).length c294_0] 124 (0, 0)) (zP BK295.out) hb); have n2_ := zQ (below_step (zB HB.out) hb); clear BK295; clear HB; have HO300 := n0_; have BK295 := n1_; have HB := n2_; clear n0_ n1_ n2_; (try clear hb); (try clear hb2); (try clear hk); (try clear hi); (try clear ho0)))
       go_roundg k1
       case measure => have := HK1.out; omega
       case rel => exact ⟨(wrap64 (x14_1 + 1)), (by first | rfl | (simp; done) | (simp [*]; done)), H', ⟨by have := HK1.out; omega⟩, ⟨zB HB.out⟩⟩
      ·rw [if_neg c7] at H
       have c7b0 : (t298 == 0) = false := beq_eq_false_iff_ne.mpr c7
       have c7b1 : (t298 != 0) = true := bne_iff_ne.mpr c7
       simp only [Option.some.injEq, Prod.mk.injEq] at H
       obtain ⟨rfl, rfl, rfl⟩ := H
       have p294 : 0 ≤ (x14_1 : Int) := zA
       have q294 : x14_1 < (l0.length : Int) := zA
       obtain ⟨ad294, A294_0, c294_0, e294, hx294_0, hl294_0, hi294_0⟩ := at_T124 HR0.out x14_1 p294 q294
       cases e294
       replace hx294_0 := zX HB.out hx294_0
       have HR294_0 := zQ hi294_0
       have HC294_0 := zQ hl294_0
       clear hi294_0 hl294_0
       replace p294 := eq_true p294
       replace q294 := eq_true q294
       go_wp2_with (first | ((with_reducible refine gate_dst (N := 8) rfl ?_); refine box_event ?hg (N := 8) ?hd (cs := #[.slice none 0 0]) (t := 124) ?hr ?_; (case hd => rfl); (case hg => rfl); (case hr => first | (go_simp; done) | (go_simp; rfl)); intro gb295 hg w11 hbox hb; have n0_ := zQ (below_step (zB HB.out) hb); have n1_ := zQ (hbox); have n2_ := zQ ((zG hg HB.out)); have n3_ := zQ ((zG hg HB.out)); clear HB; have HB := n0_; have BK295 := n1_; have GW295 := n2_; have GE295 := n3_; clear n0_ n1_ n2_ n3_; clear hb hbox hg; obtain ⟨hcz12_0, hfz12_0⟩ := zc1 BK295.out) | ((with_reducible refine gate_callee (f := 140) rfl ?_); refine goesL_ (some 24) rfl rfl Try.func140 (by kernel_rfl) rfl #[.slice A294_0 ((rd_T124 l0 x14_1).f0).length c294_0, .slice A1 l1.length c1, .int .i64 x14_1] rfl zS ?_; (with_reducible refine (impl_verify.calls _ _ ((rd_T124 l0 x14_1).f0) _ _ l1 x14_1 t296 t297 t298 _ ?side1 ?side2 ?side3 ?side4 A6.out).mono ?_); (case side1 => exact Kd.C_below HR294_0.out (zB HB.out)); (case side2 => exact HC294_0.out); (case side3 => exact Kd.C_below HR1.out (zB HB.out)); (case side4 => exact HC1.out); rintro e w13 ⟨v299, rfl, ho0, hb⟩; refine ⟨_, rfl, ?_⟩; have n0_ := zQ (Kd.R_lower ho0 (below_size (zB HB.out))); have n1_ := zQ (blk_below (g := gb295) (o := .cells #[.slice A294_0 ((rd_T124 l0 x14_1).f0).length c294_0] 124 (0, 0)) (zP BK295.out) hb); have n2_ := zQ (below_step (zB HB.out) hb); clear BK295; clear HB; have HO300 := n0_; have BK295 := n1_; have HB := n2_; clear n0_ n1_ n2_; (try clear hb); (try clear hb2); (try clear hk); (try clear hi); (try clear ho0)))
       go_ret3
       exact ⟨by first | rfl | (simp [errW_none, errW_some] <;> rfl) | (simp [*, errW_none, errW_some] <;> rfl), zB HB.out⟩
     ·rw [if_neg c5] at H
      exact absurd H (by simp)
    ·rw [if_neg c4] at H
     exact absurd H (by simp)
   ·rw [if_neg c3] at H
    have c3b0 : decide (x14_1 < (l0.length : Int)) = false := decide_eq_false c3
    clear c3
    simp only [Option.some.injEq, Prod.mk.injEq] at H
    obtain ⟨rfl, rfl, rfl⟩ := H
    go_wp2
    go_ret3
    exact ⟨by first | rfl | (simp [errW_none, errW_some] <;> rfl) | (simp [*, errW_none, errW_some] <;> rfl), zB HB.out⟩

end Go.Proofs.Ytkegjmkdnfpfdaa.MFnExactImageText

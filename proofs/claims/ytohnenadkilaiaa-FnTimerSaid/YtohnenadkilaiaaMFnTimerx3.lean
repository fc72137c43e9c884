-- Text written by a program of this session (wip/tools: the kit's printer with additions of ours).
import Derived.Test.YtohnenadkilaiaaMFnTimerx0
import Derived.Test.YtohnenadkilaiaaMFnTimerx1
import Derived.Test.YtohnenadkilaiaaMFnTimerx2
namespace Go.Proofs.Ytohnenadkilaiaa.MFnTimer
open Go.RowKit Go.Proofs.YtohnenadkilaiaaW.PrintWords Go.Proofs.YtohnenadkilaiaaW.PrintLast Go.Proofs.YtohnenadkilaiaaW.PrintMore
attribute [local go_sem] max2_int min2_int max_two min_two max_three min_three max_four min_four   -- for this text's walks alone
set_option linter.unusedVariables false
set_option linter.unusedSimpArgs false

/-! ### laws_FnTimer: function 11 -/
mutual
def laws_FnTimer.j0 : Nat → List Int → List Int → Bool → Option (Bool)
  | 0, _, _, _ => none
  | k + 1, x0, x1, x24 => if x24 = true then (some true) else ((impl_NewFb.f 1).bind fun bt140 => (if bt140.2.2.2.2 = 0 then ((laws_at.f x1 0 12).bind fun t146 => (laws_FnTimer.l0 k x0 x1 t146 (-1) 0 0 bt140.1 bt140.2.1 bt140.2.2.1 bt140.2.2.2.1)) else (some false)))
def laws_FnTimer.l0 : Nat → List Int → List Int → Int → Int → Int → Int → Int → Bool → Int → Int → Option (Bool)
  | 0, _, _, _, _, _, _, _, _, _, _ => none
  | k + 1, x0, x1, x7, x8, x9, x10, x146000, x146001, x146002, x146003 => if x10 < 20 then ((laws_at.f x0 x10 4).bind fun t147 => ((laws_at.f x1 (wrap64 (x10 + 1)) 4).bind fun t148 => (if t148 > 0 then (if x8 < 0 then (laws_FnTimer.j2 k x0 x1 x7 (wrap64 (x9 + t147)) (wrap64 (x9 + t147)) x10 (decide (t148 > 0)) x146000 x146001 x146002 x146003) else (laws_FnTimer.j2 k x0 x1 x7 x8 (wrap64 (x9 + t147)) x10 (decide (t148 > 0)) x146000 x146001 x146002 x146003)) else (laws_FnTimer.j2 k x0 x1 x7 (-1) (wrap64 (x9 + t147)) x10 (decide (t148 > 0)) x146000 x146001 x146002 x146003)))) else (some true)
def laws_FnTimer.j2 : Nat → List Int → List Int → Int → Int → Int → Int → Bool → Int → Bool → Int → Int → Option (Bool)
  | 0, _, _, _, _, _, _, _, _, _, _, _ => none
  | k + 1, x0, x1, x7, x8, x9, x10, x11, x146000, x146001, x146002, x146003 => (impl_StepBlock.f k x146000 x146001 x146002 x146003 x11 false x7 x9).bind fun bt149 => ((impl_ValueOf.f k bt149.1 bt149.2.1 bt149.2.2.1 bt149.2.2.2.1).bind fun bt156 => (if bt149.2.2.2.2.2 = 0 then (if bt156.2 = 0 then ((impl_FbOK.f k bt149.1 bt149.2.1 bt149.2.2.1 bt149.2.2.2.1).bind fun t158 => (if t158 = true then (if x11 = true then (if (bt149.2.2.2.2.1 != (decide ((wrap64 (x9 - x8)) ≥ x7))) = true then (some false) else (if bt156.1 = (mn (wrap64 (x9 - x8)) x7) then (laws_FnTimer.l0 k x0 x1 x7 x8 x9 (wrap64 (x10 + 1)) bt149.1 bt149.2.1 bt149.2.2.1 bt149.2.2.2.1) else (some false))) else (if (bt149.2.2.2.2.1 != false) = true then (some false) else (if bt156.1 = 0 then (laws_FnTimer.l0 k x0 x1 x7 x8 x9 (wrap64 (x10 + 1)) bt149.1 bt149.2.1 bt149.2.2.1 bt149.2.2.2.1) else (some false)))) else (some false))) else (some false)) else (some false)))
end
def laws_FnTimer.f (k : Nat) (l0 : List Int) (l1 : List Int) : Option (Bool) := if (l0.length : Int) > 1048576 then (laws_FnTimer.j0 k l0 l1 true) else (laws_FnTimer.j0 k l0 l1 (decide ((l1.length : Int) > 1048576)))
theorem laws_FnTimer.mono_l : ∀ k, (∀ y0 y1 y2, LeO (laws_FnTimer.j0 k y0 y1 y2) (laws_FnTimer.j0 (k + 1) y0 y1 y2)) ∧ (∀ y0 y1 y2 y3 y4 y5 y6 y7 y8 y9, LeO (laws_FnTimer.l0 k y0 y1 y2 y3 y4 y5 y6 y7 y8 y9) (laws_FnTimer.l0 (k + 1) y0 y1 y2 y3 y4 y5 y6 y7 y8 y9)) ∧ (∀ y0 y1 y2 y3 y4 y5 y6 y7 y8 y9 y10, LeO (laws_FnTimer.j2 k y0 y1 y2 y3 y4 y5 y6 y7 y8 y9 y10) (laws_FnTimer.j2 (k + 1) y0 y1 y2 y3 y4 y5 y6 y7 y8 y9 y10))
  | 0 => ⟨fun _ _ _ r h => by simp [laws_FnTimer.j0] at h, fun _ _ _ _ _ _ _ _ _ _ r h => by simp [laws_FnTimer.l0] at h, fun _ _ _ _ _ _ _ _ _ _ _ r h => by simp [laws_FnTimer.j2] at h⟩
  | k + 1 => by
    obtain ⟨ih0, ih1, ih2⟩ := laws_FnTimer.mono_l k
    refine ⟨?_, ?_, ?_⟩
    · intro y0 y1 y2
      unfold laws_FnTimer.j0
      repeat' first
      | (with_reducible exact ih0 _ _ _)
      | (with_reducible exact ih1 _ _ _ _ _ _ _ _ _ _)
      | (with_reducible exact ih2 _ _ _ _ _ _ _ _ _ _ _)
      | (with_reducible exact impl_FbOK.mono _ _ _ _ _)
      | (with_reducible exact impl_StepBlock.mono _ _ _ _ _ _ _ _ _)
      | (with_reducible exact impl_ValueOf.mono _ _ _ _ _)
      | (with_reducible exact LeO.refl _)
      | (with_reducible exact LeO.none _)
      | (with_reducible refine LeO.ite ?_ ?_)
      | (with_reducible refine LeO.bind ?_ (fun _ => ?_))
      | exact ih0 _ _ _
      | exact ih1 _ _ _ _ _ _ _ _ _ _
      | exact ih2 _ _ _ _ _ _ _ _ _ _ _
      | exact impl_FbOK.mono _ _ _ _ _
      | exact impl_StepBlock.mono _ _ _ _ _ _ _ _ _
      | exact impl_ValueOf.mono _ _ _ _ _
      | exact LeO.none _
      | refine LeO.ite ?_ ?_
      | refine LeO.bind ?_ (fun _ => ?_)
    · intro y0 y1 y2 y3 y4 y5 y6 y7 y8 y9
      unfold laws_FnTimer.l0
      repeat' first
      | (with_reducible exact ih0 _ _ _)
      | (with_reducible exact ih1 _ _ _ _ _ _ _ _ _ _)
      | (with_reducible exact ih2 _ _ _ _ _ _ _ _ _ _ _)
      | (with_reducible exact impl_FbOK.mono _ _ _ _ _)
      | (with_reducible exact impl_StepBlock.mono _ _ _ _ _ _ _ _ _)
      | (with_reducible exact impl_ValueOf.mono _ _ _ _ _)
      | (with_reducible exact LeO.refl _)
      | (with_reducible exact LeO.none _)
      | (with_reducible refine LeO.ite ?_ ?_)
      | (with_reducible refine LeO.bind ?_ (fun _ => ?_))
      | exact ih0 _ _ _
      | exact ih1 _ _ _ _ _ _ _ _ _ _
      | exact ih2 _ _ _ _ _ _ _ _ _ _ _
      | exact impl_FbOK.mono _ _ _ _ _
      | exact impl_StepBlock.mono _ _ _ _ _ _ _ _ _
      | exact impl_ValueOf.mono _ _ _ _ _
      | exact LeO.none _
      | refine LeO.ite ?_ ?_
      | refine LeO.bind ?_ (fun _ => ?_)
    · intro y0 y1 y2 y3 y4 y5 y6 y7 y8 y9 y10
      unfold laws_FnTimer.j2
      repeat' first
      | (with_reducible exact ih0 _ _ _)
      | (with_reducible exact ih1 _ _ _ _ _ _ _ _ _ _)
      | (with_reducible exact ih2 _ _ _ _ _ _ _ _ _ _ _)
      | (with_reducible exact impl_FbOK.mono _ _ _ _ _)
      | (with_reducible exact impl_StepBlock.mono _ _ _ _ _ _ _ _ _)
      | (with_reducible exact impl_ValueOf.mono _ _ _ _ _)
      | (with_reducible exact LeO.refl _)
      | (with_reducible exact LeO.none _)
      | (with_reducible refine LeO.ite ?_ ?_)
      | (with_reducible refine LeO.bind ?_ (fun _ => ?_))
      | exact ih0 _ _ _
      | exact ih1 _ _ _ _ _ _ _ _ _ _
      | exact ih2 _ _ _ _ _ _ _ _ _ _ _
      | exact impl_FbOK.mono _ _ _ _ _
      | exact impl_StepBlock.mono _ _ _ _ _ _ _ _ _
      | exact impl_ValueOf.mono _ _ _ _ _
      | exact LeO.none _
      | refine LeO.ite ?_ ?_
      | refine LeO.bind ?_ (fun _ => ?_)
theorem laws_FnTimer.mono : ∀ a0 a1 k, LeO (laws_FnTimer.f k a0 a1) (laws_FnTimer.f (k + 1) a0 a1) := by
  intro a0 a1 k
  obtain ⟨ih0, ih1, ih2⟩ := laws_FnTimer.mono_l k
  unfold laws_FnTimer.f
  repeat' first
      | (with_reducible exact ih0 _ _ _)
      | (with_reducible exact ih1 _ _ _ _ _ _ _ _ _ _)
      | (with_reducible exact ih2 _ _ _ _ _ _ _ _ _ _ _)
      | (with_reducible exact impl_FbOK.mono _ _ _ _ _)
      | (with_reducible exact impl_StepBlock.mono _ _ _ _ _ _ _ _ _)
      | (with_reducible exact impl_ValueOf.mono _ _ _ _ _)
      | (with_reducible exact LeO.refl _)
      | (with_reducible exact LeO.none _)
      | (with_reducible refine LeO.ite ?_ ?_)
      | (with_reducible refine LeO.bind ?_ (fun _ => ?_))
      | exact ih0 _ _ _
      | exact ih1 _ _ _ _ _ _ _ _ _ _
      | exact ih2 _ _ _ _ _ _ _ _ _ _ _
      | exact impl_FbOK.mono _ _ _ _ _
      | exact impl_StepBlock.mono _ _ _ _ _ _ _ _ _
      | exact impl_ValueOf.mono _ _ _ _ _
      | exact LeO.none _
      | refine LeO.ite ?_ ?_
      | refine LeO.bind ?_ (fun _ => ?_)
set_option maxHeartbeats 8000000 in
set_option maxRecDepth 100000 in
theorem laws_FnTimer.calls (k : Nat) (A0 : Option Addr) (c0 : Nat) (l0 : List Int) (A1 : Option Addr) (c1 : Nat) (l1 : List Int) (r : Bool) (w : World) (hr0 : Kd.C (Kd.int .u8) w A0 l0.length l0) (hc0 : l0.length ≤ c0) (hr1 : Kd.C (Kd.int .u8) w A1 l1.length l1) (hc1 : l1.length ≤ c1) (h : laws_FnTimer.f k l0 l1 = some r) (hlaw0 : r = true) :
    Calls Try.prog 11 #[.slice A0 l0.length c0, .slice A1 l1.length c1] w fun e w' => e = .returned (.bool r) ∧ Below w.heap.size w w' := by
  have hu26 := Try.underlying26
  have HR0 := Aside0.mk hr0
  have HC0 := Aside0.mk hc0
  clear hr0 hc0
  have HR1 := Aside0.mk hr1
  have HC1 := Aside0.mk hc1
  clear hr1 hc1
  have HB := Aside0.mk (Below.refl w.heap.size w)
  have hlaw_ := Aside0.mk hlaw0
  clear hlaw0
  have H : (if (l0.length : Int) > 1048576 then (laws_FnTimer.j0 k l0 l1 true) else (laws_FnTimer.j0 k l0 l1 (decide ((l1.length : Int) > 1048576)))) = some r := h
  clear h
  have HC3 := Aside0.mk H
  clear H
  go_enter Try.func11, Try.ntmps11
  go_upto_region 1 with (fail)
  go_cut [24] (fun v24 wc => ∃ (kq : Nat) (x24_2 : Bool), v24 = .bool x24_2 ∧ Aside0 (laws_FnTimer.j0 kq l0 l1 x24_2 = some r) ∧ Aside0 (kq ≤ k) ∧ Aside0 (Below w.heap.size w wc))
  case first =>
    have H := HC3.out
    clear HC3
    by_cases c4 : (l0.length : Int) > 1048576
    · rw [if_pos c4] at H
      have c4b0 : decide (1048576 < (l0.length : Int)) = true := decide_eq_true c4
      have c4b1 : decide (1048576 < l0.length) = true := decide_eq_true (by omega)
      clear c4
      (first | rw [c4b0] | (simp only [i64_w, i32_w]; rw [c4b0]) | skip)
      have H' := Aside0.mk H
      clear H
      go_wp2
      (first | go_meet | (refine Met.intro ?_; go_step; (repeat apply Exists.intro); refine ⟨?rel, ?eqm_⟩; (case eqm_ => (simp only [c4b1, c4b0]; rfl))))
      case rel => exact ⟨_, (true), (by first | rfl | (simp; done) | (simp [*]; done)), H', ⟨by first | omega | exact Nat.le_refl _⟩, ⟨by repeat (first | (with_reducible first | exact HB.out | apply below_alloc | apply pw_below_drewN | apply below_drew1) | exact HB.out)⟩⟩
    · rw [if_neg c4] at H
      have c4b0 : decide (1048576 < (l0.length : Int)) = false := decide_eq_false c4
      have c4b1 : decide (1048576 < l0.length) = false := decide_eq_false (by omega)
      clear c4
      (first | rw [c4b0] | (simp only [i64_w, i32_w]; rw [c4b0]) | skip)
      have H' := Aside0.mk H
      clear H
      go_wp2
      (first | go_meet | (refine Met.intro ?_; go_step; (repeat apply Exists.intro); refine ⟨?rel, ?eqm_⟩; (case eqm_ => (simp only [c4b1, c4b0]; rfl))))
      case rel => exact ⟨_, (decide ((l1.length : Int) > 1048576)), (by first | rfl | (simp; done) | (simp [*]; done)), H', ⟨by first | omega | exact Nat.le_refl _⟩, ⟨by repeat (first | (with_reducible first | exact HB.out | apply below_alloc | apply pw_below_drewN | apply below_drew1) | exact HB.out)⟩⟩
  case rest =>
    clear HC3
    try clear c1
    try clear p2
    try clear c4
    try clear c4b0
    try clear c4b1
    obtain ⟨kq, x24_2, rfl, HA, HJ2, HB⟩ := hcut
    cases kq with
    | zero => exact absurd HA.out (by simp [laws_FnTimer.j0])
    | succ kj2 =>
      have H := HA.out
      clear HA
      simp only [laws_FnTimer.j0] at H
      by_cases c5 : x24_2 = true
      · subst c5
        have H1 : (some true) = some r := by rw [if_pos rfl] at H; exact H
        clear H
        have H := H1
        clear H1
        obtain rfl := Option.some.inj H
        go_wp2
        go_ret
        exact ⟨by first | rfl | (simp [errW_none, errW_some] <;> rfl) | (simp [*, errW_none, errW_some] <;> rfl), by repeat (first | (with_reducible first | exact HB.out | apply below_alloc | apply pw_below_drewN | apply below_drew1) | exact HB.out)⟩
      · replace c5 := Bool.eq_false_iff.mpr c5
        subst c5
        have H1 : ((impl_NewFb.f 1).bind fun bt140 => (if bt140.2.2.2.2 = 0 then ((laws_at.f l1 0 12).bind fun t146 => (laws_FnTimer.l0 kj2 l0 l1 t146 (-1) 0 0 bt140.1 bt140.2.1 bt140.2.2.1 bt140.2.2.2.1)) else (some false))) = some r := by rw [if_neg (show ¬ (false = true) by decide)] at H; exact H
        clear H
        have H := H1
        clear H1
        replace H := Option.bind_eq_some_iff.mp H
        obtain ⟨⟨t140, t141, t142, t143, t144⟩, A60, H⟩ := H
        replace H : (if t144 = 0 then ((laws_at.f l1 0 12).bind fun t146 => (laws_FnTimer.l0 kj2 l0 l1 t146 (-1) 0 0 t140 t141 t142 t143)) else (some false)) = some r := H
        have A6 := Aside0.mk A60
        clear A60
        by_cases c7 : t144 = 0
        · rw [if_pos c7] at H
          have c7b0 : (t144 == 0) = true := beq_iff_eq.mpr c7
          have c7b1 : (t144 != 0) = false := bne_eq_false_iff_eq.mpr c7
          clear c7
          replace H := Option.bind_eq_some_iff.mp H
          obtain ⟨t146, A80, H⟩ := H
          replace H : (laws_FnTimer.l0 kj2 l0 l1 t146 (-1) 0 0 t140 t141 t142 t143) = some r := H
          have A8 := Aside0.mk A80
          clear A80
          have H' := Aside0.mk H
          clear H
          go_wp2_with (first | ((with_reducible refine gate_callee (f := 31) rfl ?_); refine goesL_ (some 26) rfl rfl Try.func31 (by kernel_rfl) rfl #[.int .i64 1] rfl (by (try simp only [List.map_toArray, List.map_cons, List.map_nil]); first | done | rfl | (simp only [List.length_drop, List.length_take]; rfl)) ?_; (with_reducible refine (impl_NewFb.calls 1 t140 t141 t142 t143 t144 _ A6.out).mono ?_); rintro e w9 ⟨rfl, hb⟩; refine ⟨_, rfl, ?_⟩; have n0_ := Aside0.mk (below_step (by repeat (first | (with_reducible first | exact HB.out | apply below_alloc | apply pw_below_drewN | apply below_drew1) | exact HB.out)) hb); clear HB; have HB := n0_; clear n0_; (try clear hb); (try clear hb2); (try clear hk); (try clear hi)) | ((with_reducible refine gate_dst (N := 5) rfl ?_); (try (refine gate_guard (by rfl) ?_; dsimp only)); refine box_event ?hg (N := 5) ?hd (cs := #[.int .i64 0, .bool false, .int .i64 0, .int .i64 0]) (t := 26) ?hr ?_; (case hd => rfl); (case hg => rfl); (case hr => first | (go_simp; done) | (go_simp; rfl)); intro gb145 hg w10 hbox hb; have n0_ := Aside0.mk (below_step (by repeat (first | (with_reducible first | exact HB.out | apply below_alloc | apply pw_below_drewN | apply below_drew1) | exact HB.out)) hb); have n1_ := Aside0.mk (hbox); have n2_ := Aside0.mk ((by rw [hg]; exact (below_size (by repeat (first | (with_reducible first | exact HB.out | apply below_alloc | apply pw_below_drewN | apply below_drew1) | exact HB.out))) : w.heap.size ≤ gb145)); have n3_ := Aside0.mk ((by rw [hg]; exact (below_size (by repeat (first | (with_reducible first | exact HB.out | apply below_alloc | apply pw_below_drewN | apply below_drew1) | exact HB.out))) : w.heap.size ≤ gb145)); clear HB; have HB := n0_; have BK145 := n1_; have GW145 := n2_; have GE145 := n3_; clear n0_ n1_ n2_ n3_; clear hb hbox hg; have hcz11_0 : w10.cell? ⟨gb145, 0, none⟩ = some (.int .i64 0) := (blk_cell BK145.out 0).trans rfl; have hcz11_1 : w10.cell? ⟨gb145, 1, none⟩ = some (.bool false) := (blk_cell BK145.out 1).trans rfl; have hcz11_2 : w10.cell? ⟨gb145, 2, none⟩ = some (.int .i64 0) := (blk_cell BK145.out 2).trans rfl; have hcz11_3 : w10.cell? ⟨gb145, 3, none⟩ = some (.int .i64 0) := (blk_cell BK145.out 3).trans rfl; have hfz11_0 := blk_frozen BK145.out 0; have hfz11_1 := blk_frozen BK145.out 1; have hfz11_2 := blk_frozen BK145.out 2; have hfz11_3 := blk_frozen BK145.out 3) | ((with_reducible refine gate_callee (f := 32) rfl ?_); refine goesL_ (some 32) rfl rfl Try.func32 (by kernel_rfl) rfl #[.slice A1 l1.length c1, .int .i64 0, .int .i64 12] rfl (by (try simp only [List.map_toArray, List.map_cons, List.map_nil]); first | done | rfl | (simp only [List.length_drop, List.length_take]; rfl)) ?_; (with_reducible refine (laws_at.calls _ _ l1 0 12 t146 _ ?side1 ?side2 A8.out).mono ?_); (case side1 => exact Kd.C_below HR1.out (by repeat (first | (with_reducible first | exact HB.out | apply below_alloc | apply pw_below_drewN | apply below_drew1 | refine below_set ?_ GE145.out) | exact HB.out))); (case side2 => exact HC1.out); rintro e w' ⟨rfl, ⟨nd, rfl⟩⟩; refine ⟨_, rfl, ?_⟩))
          go_loopg [8, 9, 10] kj2 (fun kq v8 v9 v10 w' => ∃ (x8_2 : Int) (x9_2 : Int) (x10_2 : Int) (x146000_2 : Int) (x146001_2 : Bool) (x146002_2 : Int) (x146003_2 : Int), v8 = .int .i64 x8_2 ∧ v9 = .int .i64 x9_2 ∧ v10 = .int .i64 x10_2 ∧ Aside0 (laws_FnTimer.l0 kq l0 l1 t146 x8_2 x9_2 x10_2 x146000_2 x146001_2 x146002_2 x146003_2 = some r) ∧ Aside0 (kq ≤ kj2) ∧ Aside0 (w'.heap[gb145]? = some (.cells #[.int .i64 x146000_2, .bool x146001_2, .int .i64 x146002_2, .int .i64 x146003_2] 26 (0, 0))) ∧ Aside0 (Below w.heap.size w w'))
          case atStart => exact ⟨((-1)), (0), (0), (t140), (t141), (t142), (t143), (by first | rfl | (simp; done) | (simp [*]; done)), (by first | rfl | (simp; done) | (simp [*]; done)), (by first | rfl | (simp; done) | (simp [*]; done)), H', ⟨Nat.le_refl _⟩, ⟨by (with_reducible repeat (first | refine blk_drewN ?_ _ | refine blk_drew ?_ | refine blk_alloc ?_ _)); refine blk_put (cs := #[.int .i64 t140, .bool t141, .int .i64 t142, .int .i64 0]) ?_ 3 _ rfl; (with_reducible repeat (first | refine blk_drewN ?_ _ | refine blk_drew ?_ | refine blk_alloc ?_ _)); refine blk_put (cs := #[.int .i64 t140, .bool t141, .int .i64 0, .int .i64 0]) ?_ 2 _ rfl; (with_reducible repeat (first | refine blk_drewN ?_ _ | refine blk_drew ?_ | refine blk_alloc ?_ _)); refine blk_put (cs := #[.int .i64 t140, .bool false, .int .i64 0, .int .i64 0]) ?_ 1 _ rfl; (with_reducible repeat (first | refine blk_drewN ?_ _ | refine blk_drew ?_ | refine blk_alloc ?_ _)); refine blk_put (cs := #[.int .i64 0, .bool false, .int .i64 0, .int .i64 0]) ?_ 0 _ rfl; (with_reducible repeat (first | refine blk_drewN ?_ _ | refine blk_drew ?_ | refine blk_alloc ?_ _)); exact BK145.out⟩, ⟨by repeat (first | (with_reducible first | exact HB.out | apply below_alloc | apply pw_below_drewN | apply below_drew1 | refine below_set ?_ GE145.out) | exact HB.out)⟩⟩
          case round =>
            clear H'
            try clear c1
            try clear p2
            try clear c3
            try clear c4
            try clear c4b0
            try clear c4b1
            try clear c5
            try clear c7
            try clear c7b0
            try clear c7b1
            try clear c11
            try clear hcz11_0
            try clear hcz11_1
            try clear hcz11_2
            try clear hcz11_3
            try clear hfz11_0
            try clear hfz11_1
            try clear hfz11_2
            try clear hfz11_3
            try clear p2
            obtain ⟨x8_2, x9_2, x10_2, x146000_2, x146001_2, x146002_2, x146003_2, rfl, rfl, rfl, HA, HK2, BK145, HB⟩ := hrel
            cases gk with
            | zero => exact absurd HA.out (by simp [laws_FnTimer.l0])
            | succ k2 =>
              have H := HA.out
              clear HA
              simp only [laws_FnTimer.l0] at H
              by_cases c12 : x10_2 < 20
              · rw [if_pos c12] at H
                have c12b0 : decide (x10_2 < 20) = true := decide_eq_true c12
                clear c12
                replace H := Option.bind_eq_some_iff.mp H
                obtain ⟨t147, A130, H⟩ := H
                replace H : ((laws_at.f l1 (wrap64 (x10_2 + 1)) 4).bind fun t148 => (if t148 > 0 then (if x8_2 < 0 then (laws_FnTimer.j2 k2 l0 l1 t146 (wrap64 (x9_2 + t147)) (wrap64 (x9_2 + t147)) x10_2 (decide (t148 > 0)) x146000_2 x146001_2 x146002_2 x146003_2) else (laws_FnTimer.j2 k2 l0 l1 t146 x8_2 (wrap64 (x9_2 + t147)) x10_2 (decide (t148 > 0)) x146000_2 x146001_2 x146002_2 x146003_2)) else (laws_FnTimer.j2 k2 l0 l1 t146 (-1) (wrap64 (x9_2 + t147)) x10_2 (decide (t148 > 0)) x146000_2 x146001_2 x146002_2 x146003_2))) = some r := H
                have A13 := Aside0.mk A130
                clear A130
                replace H := Option.bind_eq_some_iff.mp H
                obtain ⟨t148, A140, H⟩ := H
                replace H : (if t148 > 0 then (if x8_2 < 0 then (laws_FnTimer.j2 k2 l0 l1 t146 (wrap64 (x9_2 + t147)) (wrap64 (x9_2 + t147)) x10_2 (decide (t148 > 0)) x146000_2 x146001_2 x146002_2 x146003_2) else (laws_FnTimer.j2 k2 l0 l1 t146 x8_2 (wrap64 (x9_2 + t147)) x10_2 (decide (t148 > 0)) x146000_2 x146001_2 x146002_2 x146003_2)) else (laws_FnTimer.j2 k2 l0 l1 t146 (-1) (wrap64 (x9_2 + t147)) x10_2 (decide (t148 > 0)) x146000_2 x146001_2 x146002_2 x146003_2)) = some r := H
                have A14 := Aside0.mk A140
                clear A140
                have HC15 := Aside0.mk H
                clear H
                go_upto_if 48 with (first | ((with_reducible refine gate_callee (f := 32) rfl ?_); refine goesL_ (some 40) rfl rfl Try.func32 (by kernel_rfl) rfl #[.slice A0 l0.length c0, .int .i64 x10_2, .int .i64 4] rfl (by (try simp only [List.map_toArray, List.map_cons, List.map_nil]); first | done | rfl | (simp only [List.length_drop, List.length_take]; rfl)) ?_; (with_reducible refine (laws_at.calls _ _ l0 x10_2 4 t147 _ ?side1 ?side2 A13.out).mono ?_); (case side1 => repeat (first | exact (Kd.C_below HR0.out HB.out) | (with_reducible refine Kd.C_alloc ?_ _) | (with_reducible refine Kd.C_drewN ?_ _) | (with_reducible refine Kd.C_drew ?_))); (case side2 => exact HC0.out); rintro e w' ⟨rfl, ⟨nd, rfl⟩⟩; refine ⟨_, rfl, ?_⟩) | ((with_reducible refine gate_callee (f := 32) rfl ?_); refine goesL_ (some 45) rfl rfl Try.func32 (by kernel_rfl) rfl #[.slice A1 l1.length c1, .int .i64 (wrap64 (x10_2 + 1)), .int .i64 4] rfl (by (try simp only [List.map_toArray, List.map_cons, List.map_nil]); first | done | rfl | (simp only [List.length_drop, List.length_take]; rfl)) ?_; (with_reducible refine (laws_at.calls _ _ l1 (wrap64 (x10_2 + 1)) 4 t148 _ ?side1 ?side2 A14.out).mono ?_); (case side1 => repeat (first | exact (Kd.C_below HR1.out (by repeat (first | (with_reducible first | exact HB.out | apply below_alloc | apply pw_below_drewN | apply below_drew1 | refine below_set ?_ GE145.out) | exact HB.out))) | (with_reducible refine Kd.C_alloc ?_ _) | (with_reducible refine Kd.C_drewN ?_ _) | (with_reducible refine Kd.C_drew ?_))); (case side2 => exact HC1.out); rintro e w' ⟨rfl, ⟨nd, rfl⟩⟩; refine ⟨_, rfl, ?_⟩))
                (try simp only [Act.put, List.setIfInBounds_toArray, List.set_cons_zero, List.set_cons_succ])
                go_cut [8] (fun v8 wc => ∃ (kq : Nat) (x8_14 : Int), v8 = .int .i64 x8_14 ∧ Aside0 (laws_FnTimer.j2 kq l0 l1 t146 x8_14 (wrap64 (x9_2 + t147)) x10_2 (decide (t148 > 0)) x146000_2 x146001_2 x146002_2 x146003_2 = some r) ∧ Aside0 (kq ≤ k2) ∧ Aside0 (wc.heap[gb145]? = some (.cells #[.int .i64 x146000_2, .bool x146001_2, .int .i64 x146002_2, .int .i64 x146003_2] 26 (0, 0))) ∧ Aside0 (Below w.heap.size w wc))
                case first =>
                  have H := HC15.out
                  clear HC15
                  by_cases c16 : t148 > 0
                  · rw [if_pos c16] at H
                    have c16b0 : decide (0 < t148) = true := decide_eq_true c16
                    clear c16
                    (first | rw [c16b0] | (simp only [i64_w, i32_w]; rw [c16b0]) | skip)
                    by_cases c17 : x8_2 < 0
                    · rw [if_pos c17] at H
                      have c17b0 : decide (x8_2 < 0) = true := decide_eq_true c17
                      clear c17
                      have H' := Aside0.mk H
                      clear H
                      go_wp2
                      (first | go_meet | (refine Met.intro ?_; go_step; (repeat apply Exists.intro); refine ⟨?rel, ?eqm_⟩; (case eqm_ => (simp only [c17b0, c16b0]; rfl))))
                      case rel => exact ⟨_, (wrap64 (x9_2 + t147)), (by first | rfl | (simp; done) | (simp [*]; done)), H', ⟨by have := HJ2.out; have := HK2.out; first | omega | exact Nat.le_refl _⟩, ⟨by (with_reducible repeat (first | refine blk_drewN ?_ _ | refine blk_drew ?_ | refine blk_alloc ?_ _)); exact BK145.out⟩, ⟨by repeat (first | (with_reducible first | exact HB.out | apply below_alloc | apply pw_below_drewN | apply below_drew1 | refine below_set ?_ GE145.out) | exact HB.out)⟩⟩
                    · rw [if_neg c17] at H
                      have c17b0 : decide (x8_2 < 0) = false := decide_eq_false c17
                      clear c17
                      have H' := Aside0.mk H
                      clear H
                      go_wp2
                      (first | go_meet | (refine Met.intro ?_; go_step; (repeat apply Exists.intro); refine ⟨?rel, ?eqm_⟩; (case eqm_ => (simp only [c17b0, c16b0]; rfl))))
                      case rel => exact ⟨_, (x8_2), (by first | rfl | (simp; done) | (simp [*]; done)), H', ⟨by have := HJ2.out; have := HK2.out; first | omega | exact Nat.le_refl _⟩, ⟨by (with_reducible repeat (first | refine blk_drewN ?_ _ | refine blk_drew ?_ | refine blk_alloc ?_ _)); exact BK145.out⟩, ⟨by repeat (first | (with_reducible first | exact HB.out | apply below_alloc | apply pw_below_drewN | apply below_drew1 | refine below_set ?_ GE145.out) | exact HB.out)⟩⟩
                  · rw [if_neg c16] at H
                    have c16b0 : decide (0 < t148) = false := decide_eq_false c16
                    clear c16
                    (first | rw [c16b0] | (simp only [i64_w, i32_w]; rw [c16b0]) | skip)
                    have H' := Aside0.mk H
                    clear H
                    go_wp2
                    (first | go_meet | (refine Met.intro ?_; go_step; (repeat apply Exists.intro); refine ⟨?rel, ?eqm_⟩; (case eqm_ => (simp only [c16b0]; rfl))))
                    case rel => exact ⟨_, ((-1)), (by first | rfl | (simp; done) | (simp [*]; done)), H', ⟨by have := HJ2.out; have := HK2.out; first | omega | exact Nat.le_refl _⟩, ⟨by (with_reducible repeat (first | refine blk_drewN ?_ _ | refine blk_drew ?_ | refine blk_alloc ?_ _)); exact BK145.out⟩, ⟨by repeat (first | (with_reducible first | exact HB.out | apply below_alloc | apply pw_below_drewN | apply below_drew1 | refine below_set ?_ GE145.out) | exact HB.out)⟩⟩
                case rest =>
                  clear HC15
                  try clear c1
                  try clear p2
                  try clear c3
                  try clear c4
                  try clear c4b0
                  try clear c4b1
                  try clear c5
                  try clear p6
                  try clear c7
                  try clear c7b0
                  try clear c7b1
                  try clear c11
                  try clear c12
                  try clear c12b0
                  try clear c16
                  try clear c16b0
                  try clear c17
                  try clear c17b0
                  try clear hcz11_0
                  try clear hcz11_1
                  try clear hcz11_2
                  try clear hcz11_3
                  try clear hfz11_0
                  try clear hfz11_1
                  try clear hfz11_2
                  try clear hfz11_3
                  try clear p2
                  obtain ⟨kq, x8_14, rfl, HA, HJ14, BK145, HB⟩ := hcut
                  cases kq with
                  | zero => exact absurd HA.out (by simp [laws_FnTimer.j2])
                  | succ kj14 =>
                    have H := HA.out
                    clear HA
                    simp only [laws_FnTimer.j2] at H
                    replace H := Option.bind_eq_some_iff.mp H
                    obtain ⟨⟨t149, t150, t151, t152, t153, t154⟩, A180, H⟩ := H
                    replace H : ((impl_ValueOf.f kj14 t149 t150 t151 t152).bind fun bt156 => (if t154 = 0 then (if bt156.2 = 0 then ((impl_FbOK.f kj14 t149 t150 t151 t152).bind fun t158 => (if t158 = true then (if (decide (t148 > 0)) = true then (if (t153 != (decide ((wrap64 ((wrap64 (x9_2 + t147)) - x8_14)) ≥ t146))) = true then (some false) else (if bt156.1 = (mn (wrap64 ((wrap64 (x9_2 + t147)) - x8_14)) t146) then (laws_FnTimer.l0 kj14 l0 l1 t146 x8_14 (wrap64 (x9_2 + t147)) (wrap64 (x10_2 + 1)) t149 t150 t151 t152) else (some false))) else (if (t153 != false) = true then (some false) else (if bt156.1 = 0 then (laws_FnTimer.l0 kj14 l0 l1 t146 x8_14 (wrap64 (x9_2 + t147)) (wrap64 (x10_2 + 1)) t149 t150 t151 t152) else (some false)))) else (some false))) else (some false)) else (some false))) = some r := H
                    have A18 := Aside0.mk A180
                    clear A180
                    replace H := Option.bind_eq_some_iff.mp H
                    obtain ⟨⟨t156, t157⟩, A190, H⟩ := H
                    replace H : (if t154 = 0 then (if t157 = 0 then ((impl_FbOK.f kj14 t149 t150 t151 t152).bind fun t158 => (if t158 = true then (if (decide (t148 > 0)) = true then (if (t153 != (decide ((wrap64 ((wrap64 (x9_2 + t147)) - x8_14)) ≥ t146))) = true then (some false) else (if t156 = (mn (wrap64 ((wrap64 (x9_2 + t147)) - x8_14)) t146) then (laws_FnTimer.l0 kj14 l0 l1 t146 x8_14 (wrap64 (x9_2 + t147)) (wrap64 (x10_2 + 1)) t149 t150 t151 t152) else (some false))) else (if (t153 != false) = true then (some false) else (if t156 = 0 then (laws_FnTimer.l0 kj14 l0 l1 t146 x8_14 (wrap64 (x9_2 + t147)) (wrap64 (x10_2 + 1)) t149 t150 t151 t152) else (some false)))) else (some false))) else (some false)) else (some false)) = some r := H
                    have A19 := Aside0.mk A190
                    clear A190
                    by_cases c20 : t154 = 0
                    · rw [if_pos c20] at H
                      have c20b0 : (t154 == 0) = true := beq_iff_eq.mpr c20
                      have c20b1 : (t154 != 0) = false := bne_eq_false_iff_eq.mpr c20
                      clear c20
                      by_cases c21 : t157 = 0
                      · rw [if_pos c21] at H
                        have c21b0 : (t157 == 0) = true := beq_iff_eq.mpr c21
                        have c21b1 : (t157 != 0) = false := bne_eq_false_iff_eq.mpr c21
                        clear c21
                        replace H := Option.bind_eq_some_iff.mp H
                        obtain ⟨t158, A220, H⟩ := H
                        replace H : (if t158 = true then (if (decide (t148 > 0)) = true then (if (t153 != (decide ((wrap64 ((wrap64 (x9_2 + t147)) - x8_14)) ≥ t146))) = true then (some false) else (if t156 = (mn (wrap64 ((wrap64 (x9_2 + t147)) - x8_14)) t146) then (laws_FnTimer.l0 kj14 l0 l1 t146 x8_14 (wrap64 (x9_2 + t147)) (wrap64 (x10_2 + 1)) t149 t150 t151 t152) else (some false))) else (if (t153 != false) = true then (some false) else (if t156 = 0 then (laws_FnTimer.l0 kj14 l0 l1 t146 x8_14 (wrap64 (x9_2 + t147)) (wrap64 (x10_2 + 1)) t149 t150 t151 t152) else (some false)))) else (some false)) = some r := H
                        have A22 := Aside0.mk A220
                        clear A220
                        by_cases c23 : t158 = true
                        · subst c23
                          have H1 : (if (decide (t148 > 0)) = true then (if (t153 != (decide ((wrap64 ((wrap64 (x9_2 + t147)) - x8_14)) ≥ t146))) = true then (some false) else (if t156 = (mn (wrap64 ((wrap64 (x9_2 + t147)) - x8_14)) t146) then (laws_FnTimer.l0 kj14 l0 l1 t146 x8_14 (wrap64 (x9_2 + t147)) (wrap64 (x10_2 + 1)) t149 t150 t151 t152) else (some false))) else (if (t153 != false) = true then (some false) else (if t156 = 0 then (laws_FnTimer.l0 kj14 l0 l1 t146 x8_14 (wrap64 (x9_2 + t147)) (wrap64 (x10_2 + 1)) t149 t150 t151 t152) else (some false)))) = some r := by rw [if_pos rfl] at H; exact H
                          clear H
                          have H := H1
                          clear H1
                          by_cases c24 : (decide (t148 > 0)) = true
                          · rw [if_pos c24] at H
                            have c24b0 : (decide (t148 > 0)) = true := c24
                            clear c24
                            by_cases c25 : (t153 != (decide ((wrap64 ((wrap64 (x9_2 + t147)) - x8_14)) ≥ t146))) = true
                            · rw [if_pos c25] at H
                              have c25b0 : (t153 != (decide ((wrap64 ((wrap64 (x9_2 + t147)) - x8_14)) ≥ t146))) = true := c25
                              (try (have c25b1 : decide (t153 = (decide ((wrap64 ((wrap64 (x9_2 + t147)) - x8_14)) ≥ t146))) = false := by simpa using c25))
                              (try (have c25b2 : (t153 == (decide ((wrap64 ((wrap64 (x9_2 + t147)) - x8_14)) ≥ t146))) = false := by simpa using c25))
                              (try (have c25b3 : ¬ (t153 = (decide ((wrap64 ((wrap64 (x9_2 + t147)) - x8_14)) ≥ t146))) := by simpa using c25))
                              clear c25
                              exact absurd ((Option.some.inj H).trans hlaw_.out) (by decide)
                            · rw [if_neg c25] at H
                              have c25b0 : (t153 != (decide ((wrap64 ((wrap64 (x9_2 + t147)) - x8_14)) ≥ t146))) = false := by simpa using c25
                              (try (have c25b1 : decide (t153 = (decide ((wrap64 ((wrap64 (x9_2 + t147)) - x8_14)) ≥ t146))) = true := by simpa using c25))
                              (try (have c25b2 : (t153 == (decide ((wrap64 ((wrap64 (x9_2 + t147)) - x8_14)) ≥ t146))) = true := by simpa using c25))
                              clear c25
                              obtain ⟨ji26, hji26⟩ : ∃ j_ : Int, (mn (wrap64 ((wrap64 (x9_2 + t147)) - x8_14)) t146) = j_ := ⟨_, rfl⟩
                              replace H : (if t156 = (ji26) then (laws_FnTimer.l0 kj14 l0 l1 t146 x8_14 (wrap64 (x9_2 + t147)) (wrap64 (x10_2 + 1)) t149 t150 t151 t152) else (some false)) = some r := by first | (rw [hji26] at H; exact H) | (simp only [hji26] at H ⊢; exact H)
                              (try rw [hji26] at A18)
                              (try rw [hji26] at A19)
                              (try rw [hji26] at A22)
                              have hji26_ : (if t146 < (wrap64 ((wrap64 (x9_2 + t147)) - x8_14)) then t146 else (wrap64 ((wrap64 (x9_2 + t147)) - x8_14))) = ji26 := hji26
                              by_cases c27 : t156 = (ji26)
                              · rw [if_pos c27] at H
                                have c27b0 : (t156 == (ji26)) = true := beq_iff_eq.mpr c27
                                have c27b1 : (t156 != (ji26)) = false := bne_eq_false_iff_eq.mpr c27
                                clear c27
                                have H' := Aside0.mk H
                                clear H
                                have hcz28_0 : wc.cell? ⟨gb145, 0, none⟩ = some (.int .i64 x146000_2) := (blk_cell BK145.out 0).trans rfl
                                have hcz28_1 : wc.cell? ⟨gb145, 1, none⟩ = some (.bool x146001_2) := (blk_cell BK145.out 1).trans rfl
                                have hcz28_2 : wc.cell? ⟨gb145, 2, none⟩ = some (.int .i64 x146002_2) := (blk_cell BK145.out 2).trans rfl
                                have hcz28_3 : wc.cell? ⟨gb145, 3, none⟩ = some (.int .i64 x146003_2) := (blk_cell BK145.out 3).trans rfl
                                have hfz28_0 := blk_frozen BK145.out 0
                                have hfz28_1 := blk_frozen BK145.out 1
                                have hfz28_2 := blk_frozen BK145.out 2
                                have hfz28_3 := blk_frozen BK145.out 3
                                go_wp2_with (first | ((with_reducible refine gate_callee (f := 33) rfl ?_); refine goesL_ (some 57) rfl rfl Try.func33 (by kernel_rfl) rfl #[.agg #[.int .i64 x146000_2, .bool x146001_2, .int .i64 x146002_2, .int .i64 x146003_2], .bool (decide (t148 > 0)), .bool false, .int .i64 t146, .int .i64 (wrap64 (x9_2 + t147))] rfl (by (try simp only [List.map_toArray, List.map_cons, List.map_nil]); first | done | rfl | (simp only [List.length_drop, List.length_take]; rfl)) ?_; (with_reducible refine (impl_StepBlock.calls kj14 x146000_2 x146001_2 x146002_2 x146003_2 (decide (t148 > 0)) false t146 (wrap64 (x9_2 + t147)) t149 t150 t151 t152 t153 t154 _ A18.out).mono ?_); rintro e w29 ⟨rfl, hb⟩; refine ⟨_, rfl, ?_⟩; have n0_ := Aside0.mk (blk_below (g := gb145) (o := .cells #[.int .i64 x146000_2, .bool x146001_2, .int .i64 x146002_2, .int .i64 x146003_2] 26 (0, 0)) (by (with_reducible repeat (first | refine blk_drewN ?_ _ | refine blk_drew ?_ | refine blk_alloc ?_ _)); exact BK145.out) hb); have n1_ := Aside0.mk (below_step (by repeat (first | (with_reducible first | exact HB.out | apply below_alloc | apply pw_below_drewN | apply below_drew1 | refine below_set ?_ GE145.out) | exact HB.out)) hb); clear BK145; clear HB; have BK145 := n0_; have HB := n1_; clear n0_ n1_; (try clear hb); (try clear hb2); (try clear hk); (try clear hi)) | ((with_reducible refine gate_dst (N := 12) rfl ?_); (try (refine gate_guard (by rfl) ?_; dsimp only)); refine box_event ?hg (N := 12) ?hd (cs := #[.int .i64 0, .bool false, .int .i64 0, .int .i64 0]) (t := 26) ?hr ?_; (case hd => rfl); (case hg => rfl); (case hr => first | (go_simp; done) | (go_simp; rfl)); intro gb155 hg w30 hbox hb; have n0_ := Aside0.mk (blk_below (g := gb145) (o := .cells #[.int .i64 x146000_2, .bool x146001_2, .int .i64 x146002_2, .int .i64 x146003_2] 26 (0, 0)) (by (with_reducible repeat (first | refine blk_drewN ?_ _ | refine blk_drew ?_ | refine blk_alloc ?_ _)); exact BK145.out) hb); have n1_ := Aside0.mk (below_step (by repeat (first | (with_reducible first | exact HB.out | apply below_alloc | apply pw_below_drewN | apply below_drew1 | refine below_set ?_ GE145.out) | exact HB.out)) hb); have n2_ := Aside0.mk (hbox); have n3_ := Aside0.mk ((by rw [hg]; exact (below_size (by repeat (first | (with_reducible first | exact HB.out | apply below_alloc | apply pw_below_drewN | apply below_drew1 | refine below_set ?_ GE145.out) | exact HB.out))) : w.heap.size ≤ gb155)); have n4_ := Aside0.mk ((by rw [hg]; exact (below_size (by repeat (first | (with_reducible first | exact HB.out | apply below_alloc | apply pw_below_drewN | apply below_drew1 | refine below_set ?_ GE145.out) | exact HB.out))) : w.heap.size ≤ gb155)); have n5_ := Aside0.mk ((by rw [hg]; exact Nat.ne_of_lt (blk_lt (g := gb145) (o := .cells #[.int .i64 x146000_2, .bool x146001_2, .int .i64 x146002_2, .int .i64 x146003_2] 26 (0, 0)) (by (with_reducible repeat (first | refine blk_drewN ?_ _ | refine blk_drew ?_ | refine blk_alloc ?_ _)); exact BK145.out)) : gb145 ≠ gb155)); have n6_ := Aside0.mk ((by rw [hg]; exact Nat.ne_of_gt (blk_lt (g := gb145) (o := .cells #[.int .i64 x146000_2, .bool x146001_2, .int .i64 x146002_2, .int .i64 x146003_2] 26 (0, 0)) (by (with_reducible repeat (first | refine blk_drewN ?_ _ | refine blk_drew ?_ | refine blk_alloc ?_ _)); exact BK145.out)) : gb155 ≠ gb145)); clear BK145; clear HB; have BK145 := n0_; have HB := n1_; have BK155 := n2_; have GW155 := n3_; have GE155 := n4_; have NB145_155 := n5_; have NB155_145 := n6_; clear n0_ n1_ n2_ n3_ n4_ n5_ n6_; clear hb hbox hg; have hnb31 := NB155_145.out; have hnc31 := NB145_155.out; have hcz32_0 : w30.cell? ⟨gb155, 0, none⟩ = some (.int .i64 0) := (blk_cell BK155.out 0).trans rfl; have hcz32_1 : w30.cell? ⟨gb155, 1, none⟩ = some (.bool false) := (blk_cell BK155.out 1).trans rfl; have hcz32_2 : w30.cell? ⟨gb155, 2, none⟩ = some (.int .i64 0) := (blk_cell BK155.out 2).trans rfl; have hcz32_3 : w30.cell? ⟨gb155, 3, none⟩ = some (.int .i64 0) := (blk_cell BK155.out 3).trans rfl; have hfz32_0 := blk_frozen BK155.out 0; have hfz32_1 := blk_frozen BK155.out 1; have hfz32_2 := blk_frozen BK155.out 2; have hfz32_3 := blk_frozen BK155.out 3) | ((with_reducible refine gate_callee (f := 17) rfl ?_); refine goesL_ (some 63) rfl rfl Try.func17 (by kernel_rfl) rfl #[.agg #[.int .i64 t149, .bool t150, .int .i64 t151, .int .i64 t152]] rfl (by (try simp only [List.map_toArray, List.map_cons, List.map_nil]); first | done | rfl | (simp only [List.length_drop, List.length_take]; rfl)) ?_; (with_reducible refine (impl_ValueOf.calls kj14 t149 t150 t151 t152 t156 t157 _ A19.out).mono ?_); rintro e w33 ⟨rfl, hb⟩; refine ⟨_, rfl, ?_⟩; have n0_ := Aside0.mk (blk_below (g := gb145) (o := .cells #[.int .i64 x146000_2, .bool x146001_2, .int .i64 x146002_2, .int .i64 x146003_2] 26 (0, 0)) (by (with_reducible repeat (first | refine blk_drewN ?_ _ | refine blk_drew ?_ | refine blk_alloc ?_ _)); refine blk_far ?_ NB145_155.out _; (with_reducible repeat (first | refine blk_drewN ?_ _ | refine blk_drew ?_ | refine blk_alloc ?_ _)); refine blk_far ?_ NB145_155.out _; (with_reducible repeat (first | refine blk_drewN ?_ _ | refine blk_drew ?_ | refine blk_alloc ?_ _)); refine blk_far ?_ NB145_155.out _; (with_reducible repeat (first | refine blk_drewN ?_ _ | refine blk_drew ?_ | refine blk_alloc ?_ _)); refine blk_far ?_ NB145_155.out _; (with_reducible repeat (first | refine blk_drewN ?_ _ | refine blk_drew ?_ | refine blk_alloc ?_ _)); exact BK145.out) hb); have n1_ := Aside0.mk (blk_below (g := gb155) (o := .cells #[.int .i64 t149, .bool t150, .int .i64 t151, .int .i64 t152] 26 (0, 0)) (by (with_reducible repeat (first | refine blk_drewN ?_ _ | refine blk_drew ?_ | refine blk_alloc ?_ _)); refine blk_put (cs := #[.int .i64 t149, .bool t150, .int .i64 t151, .int .i64 0]) ?_ 3 _ rfl; (with_reducible repeat (first | refine blk_drewN ?_ _ | refine blk_drew ?_ | refine blk_alloc ?_ _)); refine blk_put (cs := #[.int .i64 t149, .bool t150, .int .i64 0, .int .i64 0]) ?_ 2 _ rfl; (with_reducible repeat (first | refine blk_drewN ?_ _ | refine blk_drew ?_ | refine blk_alloc ?_ _)); refine blk_put (cs := #[.int .i64 t149, .bool false, .int .i64 0, .int .i64 0]) ?_ 1 _ rfl; (with_reducible repeat (first | refine blk_drewN ?_ _ | refine blk_drew ?_ | refine blk_alloc ?_ _)); refine blk_put (cs := #[.int .i64 0, .bool false, .int .i64 0, .int .i64 0]) ?_ 0 _ rfl; (with_reducible repeat (first | refine blk_drewN ?_ _ | refine blk_drew ?_ | refine blk_alloc ?_ _)); exact BK155.out) hb); have n2_ := Aside0.mk (below_step (by repeat (first | (with_reducible first | exact HB.out | apply below_alloc | apply pw_below_drewN | apply below_drew1 | refine below_set ?_ GE145.out | refine below_set ?_ GE155.out) | exact HB.out)) hb); clear BK145; clear BK155; clear HB; have BK145 := n0_; have BK155 := n1_; have HB := n2_; clear n0_ n1_ n2_; (try clear hb); (try clear hb2); (try clear hk); (try clear hi); have hcz34_0 : w33.cell? ⟨gb155, 0, none⟩ = some (.int .i64 t149) := (blk_cell BK155.out 0).trans rfl; have hcz34_1 : w33.cell? ⟨gb155, 1, none⟩ = some (.bool t150) := (blk_cell BK155.out 1).trans rfl; have hcz34_2 : w33.cell? ⟨gb155, 2, none⟩ = some (.int .i64 t151) := (blk_cell BK155.out 2).trans rfl; have hcz34_3 : w33.cell? ⟨gb155, 3, none⟩ = some (.int .i64 t152) := (blk_cell BK155.out 3).trans rfl; have hfz34_0 := blk_frozen BK155.out 0; have hfz34_1 := blk_frozen BK155.out 1; have hfz34_2 := blk_frozen BK155.out 2; have hfz34_3 := blk_frozen BK155.out 3) | (go_at_call 34; (with_reducible refine (impl_FbOK.calls kj14 t149 t150 t151 t152 true _ A22.out).mono ?_); rintro e w35 ⟨rfl, hb⟩; have n0_ := Aside0.mk (blk_below (g := gb145) (o := .cells #[.int .i64 x146000_2, .bool x146001_2, .int .i64 x146002_2, .int .i64 x146003_2] 26 (0, 0)) (by (with_reducible repeat (first | refine blk_drewN ?_ _ | refine blk_drew ?_ | refine blk_alloc ?_ _)); exact BK145.out) hb); have n1_ := Aside0.mk (blk_below (g := gb155) (o := .cells #[.int .i64 t149, .bool t150, .int .i64 t151, .int .i64 t152] 26 (0, 0)) (by (with_reducible repeat (first | refine blk_drewN ?_ _ | refine blk_drew ?_ | refine blk_alloc ?_ _)); exact BK155.out) hb); have n2_ := Aside0.mk (below_step (by repeat (first | (with_reducible first | exact HB.out | apply below_alloc | apply pw_below_drewN | apply below_drew1 | refine below_set ?_ GE145.out | refine below_set ?_ GE155.out) | exact HB.out)) hb); clear BK145; clear BK155; clear HB; have BK145 := n0_; have BK155 := n1_; have HB := n2_; clear n0_ n1_ n2_; (try clear hb); (try clear hb2); (try clear hk); (try clear hi); have hcz36_0 : w35.cell? ⟨gb155, 0, none⟩ = some (.int .i64 t149) := (blk_cell BK155.out 0).trans rfl; have hcz36_1 : w35.cell? ⟨gb155, 1, none⟩ = some (.bool t150) := (blk_cell BK155.out 1).trans rfl; have hcz36_2 : w35.cell? ⟨gb155, 2, none⟩ = some (.int .i64 t151) := (blk_cell BK155.out 2).trans rfl; have hcz36_3 : w35.cell? ⟨gb155, 3, none⟩ = some (.int .i64 t152) := (blk_cell BK155.out 3).trans rfl; have hfz36_0 := blk_frozen BK155.out 0; have hfz36_1 := blk_frozen BK155.out 1; have hfz36_2 := blk_frozen BK155.out 2; have hfz36_3 := blk_frozen BK155.out 3; have hcz37_0 : w35.cell? ⟨gb145, 0, none⟩ = some (.int .i64 x146000_2) := (blk_cell BK145.out 0).trans rfl; have hcz37_1 : w35.cell? ⟨gb145, 1, none⟩ = some (.bool x146001_2) := (blk_cell BK145.out 1).trans rfl; have hcz37_2 : w35.cell? ⟨gb145, 2, none⟩ = some (.int .i64 x146002_2) := (blk_cell BK145.out 2).trans rfl; have hcz37_3 : w35.cell? ⟨gb145, 3, none⟩ = some (.int .i64 x146003_2) := (blk_cell BK145.out 3).trans rfl; have hfz37_0 := blk_frozen BK145.out 0; have hfz37_1 := blk_frozen BK145.out 1; have hfz37_2 := blk_frozen BK145.out 2; have hfz37_3 := blk_frozen BK145.out 3))
                                go_roundg kj14
                                case measure => have := HJ2.out; have := HK2.out; have := HJ14.out; omega
                                case rel => exact ⟨(x8_14), ((wrap64 (x9_2 + t147))), (wrap64 (x10_2 + 1)), (t149), (t150), (t151), (t152), (by first | rfl | (simp; done) | (simp [*]; done)), (by first | rfl | (simp; done) | (simp [*]; done)), (by first | rfl | (simp; done) | (simp [*]; done)), H', ⟨by have := HJ2.out; have := HK2.out; have := HJ14.out; omega⟩, ⟨by (with_reducible repeat (first | refine blk_drewN ?_ _ | refine blk_drew ?_ | refine blk_alloc ?_ _)); refine blk_put (cs := #[.int .i64 t149, .bool t150, .int .i64 t151, .int .i64 x146003_2]) ?_ 3 _ rfl; (with_reducible repeat (first | refine blk_drewN ?_ _ | refine blk_drew ?_ | refine blk_alloc ?_ _)); refine blk_put (cs := #[.int .i64 t149, .bool t150, .int .i64 x146002_2, .int .i64 x146003_2]) ?_ 2 _ rfl; (with_reducible repeat (first | refine blk_drewN ?_ _ | refine blk_drew ?_ | refine blk_alloc ?_ _)); refine blk_put (cs := #[.int .i64 t149, .bool x146001_2, .int .i64 x146002_2, .int .i64 x146003_2]) ?_ 1 _ rfl; (with_reducible repeat (first | refine blk_drewN ?_ _ | refine blk_drew ?_ | refine blk_alloc ?_ _)); refine blk_put (cs := #[.int .i64 x146000_2, .bool x146001_2, .int .i64 x146002_2, .int .i64 x146003_2]) ?_ 0 _ rfl; (with_reducible repeat (first | refine blk_drewN ?_ _ | refine blk_drew ?_ | refine blk_alloc ?_ _)); exact BK145.out⟩, ⟨by repeat (first | (with_reducible first | exact HB.out | apply below_alloc | apply pw_below_drewN | apply below_drew1 | refine below_set ?_ GE145.out | refine below_set ?_ GE155.out) | exact HB.out)⟩⟩
                              · rw [if_neg c27] at H
                                have c27b0 : (t156 == (ji26)) = false := beq_eq_false_iff_ne.mpr c27
                                have c27b1 : (t156 != (ji26)) = true := bne_iff_ne.mpr c27
                                exact absurd ((Option.some.inj H).trans hlaw_.out) (by decide)
                          · rw [if_neg c24] at H
                            have c24b0 : (decide (t148 > 0)) = false := by simpa using c24
                            clear c24
                            by_cases c38 : (t153 != false) = true
                            · rw [if_pos c38] at H
                              have c38b0 : (t153 != false) = true := c38
                              (try (have c38b1 : decide (t153 = false) = false := by simpa using c38))
                              (try (have c38b2 : (t153 == false) = false := by simpa using c38))
                              (try (have c38b3 : ¬ (t153 = false) := by simpa using c38))
                              clear c38
                              exact absurd ((Option.some.inj H).trans hlaw_.out) (by decide)
                            · rw [if_neg c38] at H
                              have c38b0 : (t153 != false) = false := by simpa using c38
                              (try (have c38b1 : decide (t153 = false) = true := by simpa using c38))
                              (try (have c38b2 : (t153 == false) = true := by simpa using c38))
                              clear c38
                              by_cases c39 : t156 = 0
                              · rw [if_pos c39] at H
                                have c39b0 : (t156 == 0) = true := beq_iff_eq.mpr c39
                                have c39b1 : (t156 != 0) = false := bne_eq_false_iff_eq.mpr c39
                                clear c39
                                have H' := Aside0.mk H
                                clear H
                                have hcz40_0 : wc.cell? ⟨gb145, 0, none⟩ = some (.int .i64 x146000_2) := (blk_cell BK145.out 0).trans rfl
                                have hcz40_1 : wc.cell? ⟨gb145, 1, none⟩ = some (.bool x146001_2) := (blk_cell BK145.out 1).trans rfl
                                have hcz40_2 : wc.cell? ⟨gb145, 2, none⟩ = some (.int .i64 x146002_2) := (blk_cell BK145.out 2).trans rfl
                                have hcz40_3 : wc.cell? ⟨gb145, 3, none⟩ = some (.int .i64 x146003_2) := (blk_cell BK145.out 3).trans rfl
                                have hfz40_0 := blk_frozen BK145.out 0
                                have hfz40_1 := blk_frozen BK145.out 1
                                have hfz40_2 := blk_frozen BK145.out 2
                                have hfz40_3 := blk_frozen BK145.out 3
                                go_wp2_with (first | ((with_reducible refine gate_callee (f := 33) rfl ?_); refine goesL_ (some 57) rfl rfl Try.func33 (by kernel_rfl) rfl #[.agg #[.int .i64 x146000_2, .bool x146001_2, .int .i64 x146002_2, .int .i64 x146003_2], .bool (decide (t148 > 0)), .bool false, .int .i64 t146, .int .i64 (wrap64 (x9_2 + t147))] rfl (by (try simp only [List.map_toArray, List.map_cons, List.map_nil]); first | done | rfl | (simp only [List.length_drop, List.length_take]; rfl)) ?_; (with_reducible refine (impl_StepBlock.calls kj14 x146000_2 x146001_2 x146002_2 x146003_2 (decide (t148 > 0)) false t146 (wrap64 (x9_2 + t147)) t149 t150 t151 t152 t153 t154 _ A18.out).mono ?_); rintro e w41 ⟨rfl, hb⟩; refine ⟨_, rfl, ?_⟩; have n0_ := Aside0.mk (blk_below (g := gb145) (o := .cells #[.int .i64 x146000_2, .bool x146001_2, .int .i64 x146002_2, .int .i64 x146003_2] 26 (0, 0)) (by (with_reducible repeat (first | refine blk_drewN ?_ _ | refine blk_drew ?_ | refine blk_alloc ?_ _)); exact BK145.out) hb); have n1_ := Aside0.mk (below_step (by repeat (first | (with_reducible first | exact HB.out | apply below_alloc | apply pw_below_drewN | apply below_drew1 | refine below_set ?_ GE145.out) | exact HB.out)) hb); clear BK145; clear HB; have BK145 := n0_; have HB := n1_; clear n0_ n1_; (try clear hb); (try clear hb2); (try clear hk); (try clear hi)) | ((with_reducible refine gate_dst (N := 12) rfl ?_); (try (refine gate_guard (by rfl) ?_; dsimp only)); refine box_event ?hg (N := 12) ?hd (cs := #[.int .i64 0, .bool false, .int .i64 0, .int .i64 0]) (t := 26) ?hr ?_; (case hd => rfl); (case hg => rfl); (case hr => first | (go_simp; done) | (go_simp; rfl)); intro gb155 hg w42 hbox hb; have n0_ := Aside0.mk (blk_below (g := gb145) (o := .cells #[.int .i64 x146000_2, .bool x146001_2, .int .i64 x146002_2, .int .i64 x146003_2] 26 (0, 0)) (by (with_reducible repeat (first | refine blk_drewN ?_ _ | refine blk_drew ?_ | refine blk_alloc ?_ _)); exact BK145.out) hb); have n1_ := Aside0.mk (below_step (by repeat (first | (with_reducible first | exact HB.out | apply below_alloc | apply pw_below_drewN | apply below_drew1 | refine below_set ?_ GE145.out) | exact HB.out)) hb); have n2_ := Aside0.mk (hbox); have n3_ := Aside0.mk ((by rw [hg]; exact (below_size (by repeat (first | (with_reducible first | exact HB.out | apply below_alloc | apply pw_below_drewN | apply below_drew1 | refine below_set ?_ GE145.out) | exact HB.out))) : w.heap.size ≤ gb155)); have n4_ := Aside0.mk ((by rw [hg]; exact (below_size (by repeat (first | (with_reducible first | exact HB.out | apply below_alloc | apply pw_below_drewN | apply below_drew1 | refine below_set ?_ GE145.out) | exact HB.out))) : w.heap.size ≤ gb155)); have n5_ := Aside0.mk ((by rw [hg]; exact Nat.ne_of_lt (blk_lt (g := gb145) (o := .cells #[.int .i64 x146000_2, .bool x146001_2, .int .i64 x146002_2, .int .i64 x146003_2] 26 (0, 0)) (by (with_reducible repeat (first | refine blk_drewN ?_ _ | refine blk_drew ?_ | refine blk_alloc ?_ _)); exact BK145.out)) : gb145 ≠ gb155)); have n6_ := Aside0.mk ((by rw [hg]; exact Nat.ne_of_gt (blk_lt (g := gb145) (o := .cells #[.int .i64 x146000_2, .bool x146001_2, .int .i64 x146002_2, .int .i64 x146003_2] 26 (0, 0)) (by (with_reducible repeat (first | refine blk_drewN ?_ _ | refine blk_drew ?_ | refine blk_alloc ?_ _)); exact BK145.out)) : gb155 ≠ gb145)); clear BK145; clear HB; have BK145 := n0_; have HB := n1_; have BK155 := n2_; have GW155 := n3_; have GE155 := n4_; have NB145_155 := n5_; have NB155_145 := n6_; clear n0_ n1_ n2_ n3_ n4_ n5_ n6_; clear hb hbox hg; have hnb43 := NB155_145.out; have hnc43 := NB145_155.out; have hcz44_0 : w42.cell? ⟨gb155, 0, none⟩ = some (.int .i64 0) := (blk_cell BK155.out 0).trans rfl; have hcz44_1 : w42.cell? ⟨gb155, 1, none⟩ = some (.bool false) := (blk_cell BK155.out 1).trans rfl; have hcz44_2 : w42.cell? ⟨gb155, 2, none⟩ = some (.int .i64 0) := (blk_cell BK155.out 2).trans rfl; have hcz44_3 : w42.cell? ⟨gb155, 3, none⟩ = some (.int .i64 0) := (blk_cell BK155.out 3).trans rfl; have hfz44_0 := blk_frozen BK155.out 0; have hfz44_1 := blk_frozen BK155.out 1; have hfz44_2 := blk_frozen BK155.out 2; have hfz44_3 := blk_frozen BK155.out 3) | ((with_reducible refine gate_callee (f := 17) rfl ?_); refine goesL_ (some 63) rfl rfl Try.func17 (by kernel_rfl) rfl #[.agg #[.int .i64 t149, .bool t150, .int .i64 t151, .int .i64 t152]] rfl (by (try simp only [List.map_toArray, List.map_cons, List.map_nil]); first | done | rfl | (simp only [List.length_drop, List.length_take]; rfl)) ?_; (with_reducible refine (impl_ValueOf.calls kj14 t149 t150 t151 t152 t156 t157 _ A19.out).mono ?_); rintro e w45 ⟨rfl, hb⟩; refine ⟨_, rfl, ?_⟩; have n0_ := Aside0.mk (blk_below (g := gb145) (o := .cells #[.int .i64 x146000_2, .bool x146001_2, .int .i64 x146002_2, .int .i64 x146003_2] 26 (0, 0)) (by (with_reducible repeat (first | refine blk_drewN ?_ _ | refine blk_drew ?_ | refine blk_alloc ?_ _)); refine blk_far ?_ NB145_155.out _; (with_reducible repeat (first | refine blk_drewN ?_ _ | refine blk_drew ?_ | refine blk_alloc ?_ _)); refine blk_far ?_ NB145_155.out _; (with_reducible repeat (first | refine blk_drewN ?_ _ | refine blk_drew ?_ | refine blk_alloc ?_ _)); refine blk_far ?_ NB145_155.out _; (with_reducible repeat (first | refine blk_drewN ?_ _ | refine blk_drew ?_ | refine blk_alloc ?_ _)); refine blk_far ?_ NB145_155.out _; (with_reducible repeat (first | refine blk_drewN ?_ _ | refine blk_drew ?_ | refine blk_alloc ?_ _)); exact BK145.out) hb); have n1_ := Aside0.mk (blk_below (g := gb155) (o := .cells #[.int .i64 t149, .bool t150, .int .i64 t151, .int .i64 t152] 26 (0, 0)) (by (with_reducible repeat (first | refine blk_drewN ?_ _ | refine blk_drew ?_ | refine blk_alloc ?_ _)); refine blk_put (cs := #[.int .i64 t149, .bool t150, .int .i64 t151, .int .i64 0]) ?_ 3 _ rfl; (with_reducible repeat (first | refine blk_drewN ?_ _ | refine blk_drew ?_ | refine blk_alloc ?_ _)); refine blk_put (cs := #[.int .i64 t149, .bool t150, .int .i64 0, .int .i64 0]) ?_ 2 _ rfl; (with_reducible repeat (first | refine blk_drewN ?_ _ | refine blk_drew ?_ | refine blk_alloc ?_ _)); refine blk_put (cs := #[.int .i64 t149, .bool false, .int .i64 0, .int .i64 0]) ?_ 1 _ rfl; (with_reducible repeat (first | refine blk_drewN ?_ _ | refine blk_drew ?_ | refine blk_alloc ?_ _)); refine blk_put (cs := #[.int .i64 0, .bool false, .int .i64 0, .int .i64 0]) ?_ 0 _ rfl; (with_reducible repeat (first | refine blk_drewN ?_ _ | refine blk_drew ?_ | refine blk_alloc ?_ _)); exact BK155.out) hb); have n2_ := Aside0.mk (below_step (by repeat (first | (with_reducible first | exact HB.out | apply below_alloc | apply pw_below_drewN | apply below_drew1 | refine below_set ?_ GE145.out | refine below_set ?_ GE155.out) | exact HB.out)) hb); clear BK145; clear BK155; clear HB; have BK145 := n0_; have BK155 := n1_; have HB := n2_; clear n0_ n1_ n2_; (try clear hb); (try clear hb2); (try clear hk); (try clear hi); have hcz46_0 : w45.cell? ⟨gb155, 0, none⟩ = some (.int .i64 t149) := (blk_cell BK155.out 0).trans rfl; have hcz46_1 : w45.cell? ⟨gb155, 1, none⟩ = some (.bool t150) := (blk_cell BK155.out 1).trans rfl; have hcz46_2 : w45.cell? ⟨gb155, 2, none⟩ = some (.int .i64 t151) := (blk_cell BK155.out 2).trans rfl; have hcz46_3 : w45.cell? ⟨gb155, 3, none⟩ = some (.int .i64 t152) := (blk_cell BK155.out 3).trans rfl; have hfz46_0 := blk_frozen BK155.out 0; have hfz46_1 := blk_frozen BK155.out 1; have hfz46_2 := blk_frozen BK155.out 2; have hfz46_3 := blk_frozen BK155.out 3) | (go_at_call 34; (with_reducible refine (impl_FbOK.calls kj14 t149 t150 t151 t152 true _ A22.out).mono ?_); rintro e w47 ⟨rfl, hb⟩; have n0_ := Aside0.mk (blk_below (g := gb145) (o := .cells #[.int .i64 x146000_2, .bool x146001_2, .int .i64 x146002_2, .int .i64 x146003_2] 26 (0, 0)) (by (with_reducible repeat (first | refine blk_drewN ?_ _ | refine blk_drew ?_ | refine blk_alloc ?_ _)); exact BK145.out) hb); have n1_ := Aside0.mk (blk_below (g := gb155) (o := .cells #[.int .i64 t149, .bool t150, .int .i64 t151, .int .i64 t152] 26 (0, 0)) (by (with_reducible repeat (first | refine blk_drewN ?_ _ | refine blk_drew ?_ | refine blk_alloc ?_ _)); exact BK155.out) hb); have n2_ := Aside0.mk (below_step (by repeat (first | (with_reducible first | exact HB.out | apply below_alloc | apply pw_below_drewN | apply below_drew1 | refine below_set ?_ GE145.out | refine below_set ?_ GE155.out) | exact HB.out)) hb); clear BK145; clear BK155; clear HB; have BK145 := n0_; have BK155 := n1_; have HB := n2_; clear n0_ n1_ n2_; (try clear hb); (try clear hb2); (try clear hk); (try clear hi); have hcz48_0 : w47.cell? ⟨gb155, 0, none⟩ = some (.int .i64 t149) := (blk_cell BK155.out 0).trans rfl; have hcz48_1 : w47.cell? ⟨gb155, 1, none⟩ = some (.bool t150) := (blk_cell BK155.out 1).trans rfl; have hcz48_2 : w47.cell? ⟨gb155, 2, none⟩ = some (.int .i64 t151) := (blk_cell BK155.out 2).trans rfl; have hcz48_3 : w47.cell? ⟨gb155, 3, none⟩ = some (.int .i64 t152) := (blk_cell BK155.out 3).trans rfl; have hfz48_0 := blk_frozen BK155.out 0; have hfz48_1 := blk_frozen BK155.out 1; have hfz48_2 := blk_frozen BK155.out 2; have hfz48_3 := blk_frozen BK155.out 3; have hcz49_0 : w47.cell? ⟨gb145, 0, none⟩ = some (.int .i64 x146000_2) := (blk_cell BK145.out 0).trans rfl; have hcz49_1 : w47.cell? ⟨gb145, 1, none⟩ = some (.bool x146001_2) := (blk_cell BK145.out 1).trans rfl; have hcz49_2 : w47.cell? ⟨gb145, 2, none⟩ = some (.int .i64 x146002_2) := (blk_cell BK145.out 2).trans rfl; have hcz49_3 : w47.cell? ⟨gb145, 3, none⟩ = some (.int .i64 x146003_2) := (blk_cell BK145.out 3).trans rfl; have hfz49_0 := blk_frozen BK145.out 0; have hfz49_1 := blk_frozen BK145.out 1; have hfz49_2 := blk_frozen BK145.out 2; have hfz49_3 := blk_frozen BK145.out 3))
                                go_roundg kj14
                                case measure => have := HJ2.out; have := HK2.out; have := HJ14.out; omega
                                case rel => exact ⟨(x8_14), ((wrap64 (x9_2 + t147))), (wrap64 (x10_2 + 1)), (t149), (t150), (t151), (t152), (by first | rfl | (simp; done) | (simp [*]; done)), (by first | rfl | (simp; done) | (simp [*]; done)), (by first | rfl | (simp; done) | (simp [*]; done)), H', ⟨by have := HJ2.out; have := HK2.out; have := HJ14.out; omega⟩, ⟨by (with_reducible repeat (first | refine blk_drewN ?_ _ | refine blk_drew ?_ | refine blk_alloc ?_ _)); refine blk_put (cs := #[.int .i64 t149, .bool t150, .int .i64 t151, .int .i64 x146003_2]) ?_ 3 _ rfl; (with_reducible repeat (first | refine blk_drewN ?_ _ | refine blk_drew ?_ | refine blk_alloc ?_ _)); refine blk_put (cs := #[.int .i64 t149, .bool t150, .int .i64 x146002_2, .int .i64 x146003_2]) ?_ 2 _ rfl; (with_reducible repeat (first | refine blk_drewN ?_ _ | refine blk_drew ?_ | refine blk_alloc ?_ _)); refine blk_put (cs := #[.int .i64 t149, .bool x146001_2, .int .i64 x146002_2, .int .i64 x146003_2]) ?_ 1 _ rfl; (with_reducible repeat (first | refine blk_drewN ?_ _ | refine blk_drew ?_ | refine blk_alloc ?_ _)); refine blk_put (cs := #[.int .i64 x146000_2, .bool x146001_2, .int .i64 x146002_2, .int .i64 x146003_2]) ?_ 0 _ rfl; (with_reducible repeat (first | refine blk_drewN ?_ _ | refine blk_drew ?_ | refine blk_alloc ?_ _)); exact BK145.out⟩, ⟨by repeat (first | (with_reducible first | exact HB.out | apply below_alloc | apply pw_below_drewN | apply below_drew1 | refine below_set ?_ GE145.out | refine below_set ?_ GE155.out) | exact HB.out)⟩⟩
                              · rw [if_neg c39] at H
                                have c39b0 : (t156 == 0) = false := beq_eq_false_iff_ne.mpr c39
                                have c39b1 : (t156 != 0) = true := bne_iff_ne.mpr c39
                                exact absurd ((Option.some.inj H).trans hlaw_.out) (by decide)
                        · replace c23 := Bool.eq_false_iff.mpr c23
                          subst c23
                          have H1 : (some false) = some r := by rw [if_neg (show ¬ (false = true) by decide)] at H; exact H
                          clear H
                          have H := H1
                          clear H1
                          exact absurd ((Option.some.inj H).trans hlaw_.out) (by decide)
                      · rw [if_neg c21] at H
                        have c21b0 : (t157 == 0) = false := beq_eq_false_iff_ne.mpr c21
                        have c21b1 : (t157 != 0) = true := bne_iff_ne.mpr c21
                        exact absurd ((Option.some.inj H).trans hlaw_.out) (by decide)
                    · rw [if_neg c20] at H
                      have c20b0 : (t154 == 0) = false := beq_eq_false_iff_ne.mpr c20
                      have c20b1 : (t154 != 0) = true := bne_iff_ne.mpr c20
                      exact absurd ((Option.some.inj H).trans hlaw_.out) (by decide)
              · rw [if_neg c12] at H
                have c12b0 : decide (x10_2 < 20) = false := decide_eq_false c12
                clear c12
                obtain rfl := Option.some.inj H
                go_wp2
                go_ret
                exact ⟨by first | rfl | (simp [errW_none, errW_some] <;> rfl) | (simp [*, errW_none, errW_some] <;> rfl), by repeat (first | (with_reducible first | exact HB.out | apply below_alloc | apply pw_below_drewN | apply below_drew1 | refine below_set ?_ GE145.out) | exact HB.out)⟩
        · rw [if_neg c7] at H
          have c7b0 : (t144 == 0) = false := beq_eq_false_iff_ne.mpr c7
          have c7b1 : (t144 != 0) = true := bne_iff_ne.mpr c7
          exact absurd ((Option.some.inj H).trans hlaw_.out) (by decide)

/-- THE ONE PURE STATEMENT of laws_FnTimer: yours. -/
def laws_FnTimer.Pure : Prop := ∀ (l0 : List Int) (l1 : List Int), l0.length ≤ maxLen → l0.length * 1 ≤ 140737488351232 → (∀ x ∈ l0, (Lit.int .u8 x).wf = true) → l1.length ≤ maxLen → l1.length * 1 ≤ 140737488351232 → (∀ x ∈ l1, (Lit.int .u8 x).wf = true) → ∃ k, laws_FnTimer.f k l0 l1 = some true
theorem laws_FnTimer.walk (P : laws_FnTimer.Pure) (a0 : Option Addr) (len0 cap0 : Nat) (z0 : List Int) (a1 : Option Addr) (len1 cap1 : Nat) (z1 : List Int) (w : World) (w0 : (a0 = none ∧ len0 = 0 ∧ cap0 = 0 ∧ z0 = []) ∨ ∃ x, a0 = some x ∧ len0 ≤ cap0 ∧ cap0 ≤ maxLen ∧ z0.length = cap0 ∧ (∀ i, i < z0.length → w.cell? (x.add i) = some (.int .u8 (z0.getD i 0))) ∧ ∀ n ∈ z0, (Lit.int .u8 n).wf = true) (y0 : len0 * 1 ≤ 140737488351232) (w1 : (a1 = none ∧ len1 = 0 ∧ cap1 = 0 ∧ z1 = []) ∨ ∃ x, a1 = some x ∧ len1 ≤ cap1 ∧ cap1 ≤ maxLen ∧ z1.length = cap1 ∧ (∀ i, i < z1.length → w.cell? (x.add i) = some (.int .u8 (z1.getD i 0))) ∧ ∀ n ∈ z1, (Lit.int .u8 n).wf = true) (y1 : len1 * 1 ≤ 140737488351232) :
    Calls Try.prog 11 #[.slice a0 len0 cap0, .slice a1 len1 cap1] w fun e w' => e = .returned (.bool true) ∧ Below w.heap.size w w' := by
  obtain ⟨l0, rfl, hr0, hm0, hw0, hc0⟩ := ReadsInt.ofRowC w0
  obtain ⟨l1, rfl, hr1, hm1, hw1, hc1⟩ := ReadsInt.ofRowC w1
  obtain ⟨k, h⟩ := P l0 l1 hm0 y0 hw0 hm1 y1 hw1
  refine (laws_FnTimer.calls k _ _ l0 _ _ l1 true w (Kd.C_of_reads (d := (0 : Int)) (h1 := fun _ => rfl) hr0) hc0 (Kd.C_of_reads (d := (0 : Int)) (h1 := fun _ => rfl) hr1) hc1 h rfl).mono ?_
  rintro e w' ⟨rfl, hd⟩
  exact ⟨rfl, hd⟩

end Go.Proofs.Ytohnenadkilaiaa.MFnTimer

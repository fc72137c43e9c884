-- Text written by a program of this session (wip/tools: the kit's printer with additions of ours).
import Derived.Test.YtohnenadkilaiaaMFnCheckedx0
import Derived.Test.YtohnenadkilaiaaMFnCheckedx1
import Derived.Test.YtohnenadkilaiaaMFnCheckedx2
namespace Go.Proofs.Ytohnenadkilaiaa.MFnChecked
open Go.RowKit Go.Proofs.YtohnenadkilaiaaW.PrintWords Go.Proofs.YtohnenadkilaiaaW.PrintLast Go.Proofs.YtohnenadkilaiaaW.PrintMore
attribute [local go_sem] max2_int min2_int max_two min_two max_three min_three max_four min_four   -- for this text's walks alone
set_option linter.unusedVariables false
set_option linter.unusedSimpArgs false

/-! ### spec_l00Src_value: function 53 -/
def spec_l00Src_value.f (s0_0 : List Int) (s0_1 : Int) (s0_2 : Int) : Option (Int × Int × Int) := (spec_l00Src_next.f s0_0 s0_1 s0_2 8).bind fun bt126 => (if bt126.1 = 0 then ((spec_l00Src_next.f s0_0 bt126.2.1 bt126.2.2 3).bind fun bt129 => (some (wrap64 (2147483647 - bt129.1), bt129.2.1, bt129.2.2))) else (if bt126.1 = 1 then ((spec_l00Src_next.f s0_0 bt126.2.1 bt126.2.2 3).bind fun bt132 => (some (wrap64 ((-2147483648) + bt132.1), bt132.2.1, bt132.2.2))) else (if bt126.1 = 2 then ((spec_l00Src_byte.f s0_0 bt126.2.1 bt126.2.2).bind fun bt135 => ((spec_l00Src_byte.f s0_0 bt135.2.1 bt135.2.2).bind fun bt138 => ((spec_l00Src_byte.f s0_0 bt138.2.1 bt138.2.2).bind fun bt141 => ((spec_l00Src_byte.f s0_0 bt141.2.1 bt141.2.2).bind fun bt144 => (some (wrap64 ((wrap64 ((wrap64 ((wrap64 ((wrap64 ((wrap64 (bt135.1 * 16777216)) + (wrap64 (bt138.1 * 65536)))) + (wrap64 (bt141.1 * 256)))) + bt144.1)) - 2147483647)) - 1), bt144.2.1, bt144.2.2)))))) else (if bt126.1 = 3 then ((spec_l00Src_next.f s0_0 bt126.2.1 bt126.2.2 300).bind fun bt147 => (some (wrap64 (-bt147.1), bt147.2.1, bt147.2.2))) else ((spec_l00Src_next.f s0_0 bt126.2.1 bt126.2.2 200).bind fun bt150 => (some (bt150.1, bt150.2.1, bt150.2.2)))))))
set_option maxHeartbeats 8000000 in
set_option maxRecDepth 100000 in
theorem spec_l00Src_value.calls (g : Nat) (s0_0 : List Int) (s0_1 : Int) (s0_2 : Int) (r1 : Int) (r2 : Int) (r3 : Int) (w0 w : World) (hI : IsS90 w0 w g s0_0 s0_1 s0_2) (hB : Below w0.heap.size w0 w) (h : spec_l00Src_value.f s0_0 s0_1 s0_2 = some (r1, r2, r3)) :
    Calls Try.prog 53 #[.pointer (some ⟨g, 0, none⟩)] w fun e w' => e = .returned (.int .i64 r1) ∧ IsS90 w0 w' g s0_0 r2 r3 ∧ Below w0.heap.size w0 w' ∧ KeepBut w w' g none := by
  have HI0 := Aside0.mk hI
  have HK := Aside0.mk (KeepBut.refl w g none)
  have HL := Aside0.mk hB.size
  clear hI
  have HW0 := Aside0.mk hB.size
  have HB := Aside0.mk hB
  clear hB
  have H : ((spec_l00Src_next.f s0_0 s0_1 s0_2 8).bind fun bt126 => (if bt126.1 = 0 then ((spec_l00Src_next.f s0_0 bt126.2.1 bt126.2.2 3).bind fun bt129 => (some (wrap64 (2147483647 - bt129.1), bt129.2.1, bt129.2.2))) else (if bt126.1 = 1 then ((spec_l00Src_next.f s0_0 bt126.2.1 bt126.2.2 3).bind fun bt132 => (some (wrap64 ((-2147483648) + bt132.1), bt132.2.1, bt132.2.2))) else (if bt126.1 = 2 then ((spec_l00Src_byte.f s0_0 bt126.2.1 bt126.2.2).bind fun bt135 => ((spec_l00Src_byte.f s0_0 bt135.2.1 bt135.2.2).bind fun bt138 => ((spec_l00Src_byte.f s0_0 bt138.2.1 bt138.2.2).bind fun bt141 => ((spec_l00Src_byte.f s0_0 bt141.2.1 bt141.2.2).bind fun bt144 => (some (wrap64 ((wrap64 ((wrap64 ((wrap64 ((wrap64 ((wrap64 (bt135.1 * 16777216)) + (wrap64 (bt138.1 * 65536)))) + (wrap64 (bt141.1 * 256)))) + bt144.1)) - 2147483647)) - 1), bt144.2.1, bt144.2.2)))))) else (if bt126.1 = 3 then ((spec_l00Src_next.f s0_0 bt126.2.1 bt126.2.2 300).bind fun bt147 => (some (wrap64 (-bt147.1), bt147.2.1, bt147.2.2))) else ((spec_l00Src_next.f s0_0 bt126.2.1 bt126.2.2 200).bind fun bt150 => (some (bt150.1, bt150.2.1, bt150.2.2)))))))) = some (r1, r2, r3) := h
  clear h
  replace H := Option.bind_eq_some_iff.mp H
  obtain ⟨⟨t126, t127, t128⟩, A20, H⟩ := H
  replace H : (if t126 = 0 then ((spec_l00Src_next.f s0_0 t127 t128 3).bind fun bt129 => (some (wrap64 (2147483647 - bt129.1), bt129.2.1, bt129.2.2))) else (if t126 = 1 then ((spec_l00Src_next.f s0_0 t127 t128 3).bind fun bt132 => (some (wrap64 ((-2147483648) + bt132.1), bt132.2.1, bt132.2.2))) else (if t126 = 2 then ((spec_l00Src_byte.f s0_0 t127 t128).bind fun bt135 => ((spec_l00Src_byte.f s0_0 bt135.2.1 bt135.2.2).bind fun bt138 => ((spec_l00Src_byte.f s0_0 bt138.2.1 bt138.2.2).bind fun bt141 => ((spec_l00Src_byte.f s0_0 bt141.2.1 bt141.2.2).bind fun bt144 => (some (wrap64 ((wrap64 ((wrap64 ((wrap64 ((wrap64 ((wrap64 (bt135.1 * 16777216)) + (wrap64 (bt138.1 * 65536)))) + (wrap64 (bt141.1 * 256)))) + bt144.1)) - 2147483647)) - 1), bt144.2.1, bt144.2.2)))))) else (if t126 = 3 then ((spec_l00Src_next.f s0_0 t127 t128 300).bind fun bt147 => (some (wrap64 (-bt147.1), bt147.2.1, bt147.2.2))) else ((spec_l00Src_next.f s0_0 t127 t128 200).bind fun bt150 => (some (bt150.1, bt150.2.1, bt150.2.2))))))) = some (r1, r2, r3) := H
  have A2 := Aside0.mk A20
  clear A20
  by_cases c3 : t126 = 0
  · rw [if_pos c3] at H
    have c3b0 : (t126 == 0) = true := beq_iff_eq.mpr c3
    have c3b1 : (t126 != 0) = false := bne_eq_false_iff_eq.mpr c3
    clear c3
    replace H := Option.bind_eq_some_iff.mp H
    obtain ⟨⟨t129, t130, t131⟩, A40, H⟩ := H
    replace H : (some (wrap64 (2147483647 - t129), t130, t131)) = some (r1, r2, r3) := H
    have A4 := Aside0.mk A40
    clear A40
    simp only [Option.some.injEq, Prod.mk.injEq] at H
    obtain ⟨rfl, rfl, rfl⟩ := H
    go_enter Try.func53, Try.ntmps53
    go_wp2_with (first | ((with_reducible refine gate_callee (f := 76) rfl ?_); refine goesL_ (some 4) rfl rfl Try.func76 (by kernel_rfl) rfl #[.pointer (some ⟨g, 0, none⟩), .int .i64 8] rfl (by (try simp only [List.map_toArray, List.map_cons, List.map_nil]); first | done | rfl | (simp only [List.length_drop, List.length_take]; rfl)) ?_; (with_reducible refine (spec_l00Src_next.calls g s0_0 s0_1 s0_2 8 t126 t127 t128 w0 _ ?side1 ?side2 A2.out).mono ?_); (case side1 => repeat (first | (with_reducible first | exact HI0.out | apply IsS90.alloc | apply IsS90.drewN | apply IsS90.drew | apply IsS90.set_1 | apply IsS90.set_2) | exact HI0.out)); (case side2 => repeat (first | (with_reducible first | exact HB.out | apply below_alloc | apply pw_below_drewN | apply below_drew1 | refine below_set ?_ (IsS90.ge HI0.out)) | exact HB.out)); rintro e w5 ⟨rfl, hi, hb, hk⟩; refine ⟨_, rfl, ?_⟩; have n0_ := Aside0.mk (KeepBut.trans (by repeat (first | (with_reducible first | exact HK.out | apply KeepBut.set_ | apply keep_drewN | apply keep_drew | apply keep_alloc) | exact HK.out)) hk (.inl rfl)); have n1_ := Aside0.mk (hb); have n2_ := Aside0.mk (hi); clear HK; clear HB; clear HI0; have HK := n0_; have HB := n1_; have HI0 := n2_; clear n0_ n1_ n2_; (try clear hb); (try clear hb2); (try clear hk); (try clear hi)) | ((with_reducible refine gate_callee (f := 76) rfl ?_); refine goesL_ (some 8) rfl rfl Try.func76 (by kernel_rfl) rfl #[.pointer (some ⟨g, 0, none⟩), .int .i64 3] rfl (by (try simp only [List.map_toArray, List.map_cons, List.map_nil]); first | done | rfl | (simp only [List.length_drop, List.length_take]; rfl)) ?_; (with_reducible refine (spec_l00Src_next.calls g s0_0 t127 t128 3 t129 t130 t131 w0 _ ?side1 ?side2 A4.out).mono ?_); (case side1 => repeat (first | (with_reducible first | exact HI0.out | apply IsS90.alloc | apply IsS90.drewN | apply IsS90.drew | apply IsS90.set_1 | apply IsS90.set_2) | exact HI0.out)); (case side2 => repeat (first | (with_reducible first | exact HB.out | apply below_alloc | apply pw_below_drewN | apply below_drew1 | refine below_set ?_ (IsS90.ge HI0.out)) | exact HB.out)); rintro e w6 ⟨rfl, hi, hb, hk⟩; refine ⟨_, rfl, ?_⟩; have n0_ := Aside0.mk (KeepBut.trans (by repeat (first | (with_reducible first | exact HK.out | apply KeepBut.set_ | apply keep_drewN | apply keep_drew | apply keep_alloc) | exact HK.out)) hk (.inl rfl)); have n1_ := Aside0.mk (hb); have n2_ := Aside0.mk (hi); clear HK; clear HB; clear HI0; have HK := n0_; have HB := n1_; have HI0 := n2_; clear n0_ n1_ n2_; (try clear hb); (try clear hb2); (try clear hk); (try clear hi)))
    go_ret
    exact ⟨by first | rfl | (simp [errW_none, errW_some] <;> rfl) | (simp [*, errW_none, errW_some] <;> rfl), by repeat (first | (with_reducible first | exact HI0.out | apply IsS90.alloc | apply IsS90.drewN | apply IsS90.drew | apply IsS90.set_1 | apply IsS90.set_2) | exact HI0.out), by repeat (first | (with_reducible first | exact HB.out | apply below_alloc | apply pw_below_drewN | apply below_drew1 | refine below_set ?_ (IsS90.ge HI0.out)) | exact HB.out), by repeat (first | (with_reducible first | exact HK.out | apply KeepBut.set_ | apply keep_drewN | apply keep_drew | apply keep_alloc) | exact HK.out)⟩
  · rw [if_neg c3] at H
    have c3b0 : (t126 == 0) = false := beq_eq_false_iff_ne.mpr c3
    have c3b1 : (t126 != 0) = true := bne_iff_ne.mpr c3
    by_cases c7 : t126 = 1
    · rw [if_pos c7] at H
      have c7b0 : (t126 == 1) = true := beq_iff_eq.mpr c7
      have c7b1 : (t126 != 1) = false := bne_eq_false_iff_eq.mpr c7
      clear c7
      replace H := Option.bind_eq_some_iff.mp H
      obtain ⟨⟨t132, t133, t134⟩, A80, H⟩ := H
      replace H : (some (wrap64 ((-2147483648) + t132), t133, t134)) = some (r1, r2, r3) := H
      have A8 := Aside0.mk A80
      clear A80
      simp only [Option.some.injEq, Prod.mk.injEq] at H
      obtain ⟨rfl, rfl, rfl⟩ := H
      go_enter Try.func53, Try.ntmps53
      go_wp2_with (first | ((with_reducible refine gate_callee (f := 76) rfl ?_); refine goesL_ (some 4) rfl rfl Try.func76 (by kernel_rfl) rfl #[.pointer (some ⟨g, 0, none⟩), .int .i64 8] rfl (by (try simp only [List.map_toArray, List.map_cons, List.map_nil]); first | done | rfl | (simp only [List.length_drop, List.length_take]; rfl)) ?_; (with_reducible refine (spec_l00Src_next.calls g s0_0 s0_1 s0_2 8 t126 t127 t128 w0 _ ?side1 ?side2 A2.out).mono ?_); (case side1 => repeat (first | (with_reducible first | exact HI0.out | apply IsS90.alloc | apply IsS90.drewN | apply IsS90.drew | apply IsS90.set_1 | apply IsS90.set_2) | exact HI0.out)); (case side2 => repeat (first | (with_reducible first | exact HB.out | apply below_alloc | apply pw_below_drewN | apply below_drew1 | refine below_set ?_ (IsS90.ge HI0.out)) | exact HB.out)); rintro e w9 ⟨rfl, hi, hb, hk⟩; refine ⟨_, rfl, ?_⟩; have n0_ := Aside0.mk (KeepBut.trans (by repeat (first | (with_reducible first | exact HK.out | apply KeepBut.set_ | apply keep_drewN | apply keep_drew | apply keep_alloc) | exact HK.out)) hk (.inl rfl)); have n1_ := Aside0.mk (hb); have n2_ := Aside0.mk (hi); clear HK; clear HB; clear HI0; have HK := n0_; have HB := n1_; have HI0 := n2_; clear n0_ n1_ n2_; (try clear hb); (try clear hb2); (try clear hk); (try clear hi)) | ((with_reducible refine gate_callee (f := 76) rfl ?_); refine goesL_ (some 13) rfl rfl Try.func76 (by kernel_rfl) rfl #[.pointer (some ⟨g, 0, none⟩), .int .i64 3] rfl (by (try simp only [List.map_toArray, List.map_cons, List.map_nil]); first | done | rfl | (simp only [List.length_drop, List.length_take]; rfl)) ?_; (with_reducible refine (spec_l00Src_next.calls g s0_0 t127 t128 3 t132 t133 t134 w0 _ ?side1 ?side2 A8.out).mono ?_); (case side1 => repeat (first | (with_reducible first | exact HI0.out | apply IsS90.alloc | apply IsS90.drewN | apply IsS90.drew | apply IsS90.set_1 | apply IsS90.set_2) | exact HI0.out)); (case side2 => repeat (first | (with_reducible first | exact HB.out | apply below_alloc | apply pw_below_drewN | apply below_drew1 | refine below_set ?_ (IsS90.ge HI0.out)) | exact HB.out)); rintro e w10 ⟨rfl, hi, hb, hk⟩; refine ⟨_, rfl, ?_⟩; have n0_ := Aside0.mk (KeepBut.trans (by repeat (first | (with_reducible first | exact HK.out | apply KeepBut.set_ | apply keep_drewN | apply keep_drew | apply keep_alloc) | exact HK.out)) hk (.inl rfl)); have n1_ := Aside0.mk (hb); have n2_ := Aside0.mk (hi); clear HK; clear HB; clear HI0; have HK := n0_; have HB := n1_; have HI0 := n2_; clear n0_ n1_ n2_; (try clear hb); (try clear hb2); (try clear hk); (try clear hi)))
      go_ret
      exact ⟨by first | rfl | (simp [errW_none, errW_some] <;> rfl) | (simp [*, errW_none, errW_some] <;> rfl), by repeat (first | (with_reducible first | exact HI0.out | apply IsS90.alloc | apply IsS90.drewN | apply IsS90.drew | apply IsS90.set_1 | apply IsS90.set_2) | exact HI0.out), by repeat (first | (with_reducible first | exact HB.out | apply below_alloc | apply pw_below_drewN | apply below_drew1 | refine below_set ?_ (IsS90.ge HI0.out)) | exact HB.out), by repeat (first | (with_reducible first | exact HK.out | apply KeepBut.set_ | apply keep_drewN | apply keep_drew | apply keep_alloc) | exact HK.out)⟩
    · rw [if_neg c7] at H
      have c7b0 : (t126 == 1) = false := beq_eq_false_iff_ne.mpr c7
      have c7b1 : (t126 != 1) = true := bne_iff_ne.mpr c7
      by_cases c11 : t126 = 2
      · rw [if_pos c11] at H
        have c11b0 : (t126 == 2) = true := beq_iff_eq.mpr c11
        have c11b1 : (t126 != 2) = false := bne_eq_false_iff_eq.mpr c11
        clear c11
        replace H := Option.bind_eq_some_iff.mp H
        obtain ⟨⟨t135, t136, t137⟩, A120, H⟩ := H
        replace H : ((spec_l00Src_byte.f s0_0 t136 t137).bind fun bt138 => ((spec_l00Src_byte.f s0_0 bt138.2.1 bt138.2.2).bind fun bt141 => ((spec_l00Src_byte.f s0_0 bt141.2.1 bt141.2.2).bind fun bt144 => (some (wrap64 ((wrap64 ((wrap64 ((wrap64 ((wrap64 ((wrap64 (t135 * 16777216)) + (wrap64 (bt138.1 * 65536)))) + (wrap64 (bt141.1 * 256)))) + bt144.1)) - 2147483647)) - 1), bt144.2.1, bt144.2.2))))) = some (r1, r2, r3) := H
        have A12 := Aside0.mk A120
        clear A120
        replace H := Option.bind_eq_some_iff.mp H
        obtain ⟨⟨t138, t139, t140⟩, A130, H⟩ := H
        replace H : ((spec_l00Src_byte.f s0_0 t139 t140).bind fun bt141 => ((spec_l00Src_byte.f s0_0 bt141.2.1 bt141.2.2).bind fun bt144 => (some (wrap64 ((wrap64 ((wrap64 ((wrap64 ((wrap64 ((wrap64 (t135 * 16777216)) + (wrap64 (t138 * 65536)))) + (wrap64 (bt141.1 * 256)))) + bt144.1)) - 2147483647)) - 1), bt144.2.1, bt144.2.2)))) = some (r1, r2, r3) := H
        have A13 := Aside0.mk A130
        clear A130
        replace H := Option.bind_eq_some_iff.mp H
        obtain ⟨⟨t141, t142, t143⟩, A140, H⟩ := H
        replace H : ((spec_l00Src_byte.f s0_0 t142 t143).bind fun bt144 => (some (wrap64 ((wrap64 ((wrap64 ((wrap64 ((wrap64 ((wrap64 (t135 * 16777216)) + (wrap64 (t138 * 65536)))) + (wrap64 (t141 * 256)))) + bt144.1)) - 2147483647)) - 1), bt144.2.1, bt144.2.2))) = some (r1, r2, r3) := H
        have A14 := Aside0.mk A140
        clear A140
        replace H := Option.bind_eq_some_iff.mp H
        obtain ⟨⟨t144, t145, t146⟩, A150, H⟩ := H
        replace H : (some (wrap64 ((wrap64 ((wrap64 ((wrap64 ((wrap64 ((wrap64 (t135 * 16777216)) + (wrap64 (t138 * 65536)))) + (wrap64 (t141 * 256)))) + t144)) - 2147483647)) - 1), t145, t146)) = some (r1, r2, r3) := H
        have A15 := Aside0.mk A150
        clear A150
        simp only [Option.some.injEq, Prod.mk.injEq] at H
        obtain ⟨rfl, rfl, rfl⟩ := H
        go_enter Try.func53, Try.ntmps53
        go_wp2_with (first | ((with_reducible refine gate_callee (f := 76) rfl ?_); refine goesL_ (some 4) rfl rfl Try.func76 (by kernel_rfl) rfl #[.pointer (some ⟨g, 0, none⟩), .int .i64 8] rfl (by (try simp only [List.map_toArray, List.map_cons, List.map_nil]); first | done | rfl | (simp only [List.length_drop, List.length_take]; rfl)) ?_; (with_reducible refine (spec_l00Src_next.calls g s0_0 s0_1 s0_2 8 t126 t127 t128 w0 _ ?side1 ?side2 A2.out).mono ?_); (case side1 => repeat (first | (with_reducible first | exact HI0.out | apply IsS90.alloc | apply IsS90.drewN | apply IsS90.drew | apply IsS90.set_1 | apply IsS90.set_2) | exact HI0.out)); (case side2 => repeat (first | (with_reducible first | exact HB.out | apply below_alloc | apply pw_below_drewN | apply below_drew1 | refine below_set ?_ (IsS90.ge HI0.out)) | exact HB.out)); rintro e w16 ⟨rfl, hi, hb, hk⟩; refine ⟨_, rfl, ?_⟩; have n0_ := Aside0.mk (KeepBut.trans (by repeat (first | (with_reducible first | exact HK.out | apply KeepBut.set_ | apply keep_drewN | apply keep_drew | apply keep_alloc) | exact HK.out)) hk (.inl rfl)); have n1_ := Aside0.mk (hb); have n2_ := Aside0.mk (hi); clear HK; clear HB; clear HI0; have HK := n0_; have HB := n1_; have HI0 := n2_; clear n0_ n1_ n2_; (try clear hb); (try clear hb2); (try clear hk); (try clear hi)) | ((with_reducible refine gate_callee (f := 77) rfl ?_); refine goesL_ (some 18) rfl rfl Try.func77 (by kernel_rfl) rfl #[.pointer (some ⟨g, 0, none⟩)] rfl (by (try simp only [List.map_toArray, List.map_cons, List.map_nil]); first | done | rfl | (simp only [List.length_drop, List.length_take]; rfl)) ?_; (with_reducible refine (spec_l00Src_byte.calls g s0_0 t127 t128 t135 t136 t137 w0 _ ?side1 ?side2 A12.out).mono ?_); (case side1 => repeat (first | (with_reducible first | exact HI0.out | apply IsS90.alloc | apply IsS90.drewN | apply IsS90.drew | apply IsS90.set_1 | apply IsS90.set_2) | exact HI0.out)); (case side2 => repeat (first | (with_reducible first | exact HB.out | apply below_alloc | apply pw_below_drewN | apply below_drew1 | refine below_set ?_ (IsS90.ge HI0.out)) | exact HB.out)); rintro e w17 ⟨rfl, hi, hb, hk⟩; refine ⟨_, rfl, ?_⟩; have n0_ := Aside0.mk (KeepBut.trans (by repeat (first | (with_reducible first | exact HK.out | apply KeepBut.set_ | apply keep_drewN | apply keep_drew | apply keep_alloc) | exact HK.out)) hk (.inl rfl)); have n1_ := Aside0.mk (hb); have n2_ := Aside0.mk (hi); clear HK; clear HB; clear HI0; have HK := n0_; have HB := n1_; have HI0 := n2_; clear n0_ n1_ n2_; (try clear hb); (try clear hb2); (try clear hk); (try clear hi)) | ((with_reducible refine gate_callee (f := 77) rfl ?_); refine goesL_ (some 21) rfl rfl Try.func77 (by kernel_rfl) rfl #[.pointer (some ⟨g, 0, none⟩)] rfl (by (try simp only [List.map_toArray, List.map_cons, List.map_nil]); first | done | rfl | (simp only [List.length_drop, List.length_take]; rfl)) ?_; (with_reducible refine (spec_l00Src_byte.calls g s0_0 t136 t137 t138 t139 t140 w0 _ ?side1 ?side2 A13.out).mono ?_); (case side1 => repeat (first | (with_reducible first | exact HI0.out | apply IsS90.alloc | apply IsS90.drewN | apply IsS90.drew | apply IsS90.set_1 | apply IsS90.set_2) | exact HI0.out)); (case side2 => repeat (first | (with_reducible first | exact HB.out | apply below_alloc | apply pw_below_drewN | apply below_drew1 | refine below_set ?_ (IsS90.ge HI0.out)) | exact HB.out)); rintro e w18 ⟨rfl, hi, hb, hk⟩; refine ⟨_, rfl, ?_⟩; have n0_ := Aside0.mk (KeepBut.trans (by repeat (first | (with_reducible first | exact HK.out | apply KeepBut.set_ | apply keep_drewN | apply keep_drew | apply keep_alloc) | exact HK.out)) hk (.inl rfl)); have n1_ := Aside0.mk (hb); have n2_ := Aside0.mk (hi); clear HK; clear HB; clear HI0; have HK := n0_; have HB := n1_; have HI0 := n2_; clear n0_ n1_ n2_; (try clear hb); (try clear hb2); (try clear hk); (try clear hi)) | ((with_reducible refine gate_callee (f := 77) rfl ?_); refine goesL_ (some 25) rfl rfl Try.func77 (by kernel_rfl) rfl #[.pointer (some ⟨g, 0, none⟩)] rfl (by (try simp only [List.map_toArray, List.map_cons, List.map_nil]); first | done | rfl | (simp only [List.length_drop, List.length_take]; rfl)) ?_; (with_reducible refine (spec_l00Src_byte.calls g s0_0 t139 t140 t141 t142 t143 w0 _ ?side1 ?side2 A14.out).mono ?_); (case side1 => repeat (first | (with_reducible first | exact HI0.out | apply IsS90.alloc | apply IsS90.drewN | apply IsS90.drew | apply IsS90.set_1 | apply IsS90.set_2) | exact HI0.out)); (case side2 => repeat (first | (with_reducible first | exact HB.out | apply below_alloc | apply pw_below_drewN | apply below_drew1 | refine below_set ?_ (IsS90.ge HI0.out)) | exact HB.out)); rintro e w19 ⟨rfl, hi, hb, hk⟩; refine ⟨_, rfl, ?_⟩; have n0_ := Aside0.mk (KeepBut.trans (by repeat (first | (with_reducible first | exact HK.out | apply KeepBut.set_ | apply keep_drewN | apply keep_drew | apply keep_alloc) | exact HK.out)) hk (.inl rfl)); have n1_ := Aside0.mk (hb); have n2_ := Aside0.mk (hi); clear HK; clear HB; clear HI0; have HK := n0_; have HB := n1_; have HI0 := n2_; clear n0_ n1_ n2_; (try clear hb); (try clear hb2); (try clear hk); (try clear hi)) | ((with_reducible refine gate_callee (f := 77) rfl ?_); refine goesL_ (some 29) rfl rfl Try.func77 (by kernel_rfl) rfl #[.pointer (some ⟨g, 0, none⟩)] rfl (by (try simp only [List.map_toArray, List.map_cons, List.map_nil]); first | done | rfl | (simp only [List.length_drop, List.length_take]; rfl)) ?_; (with_reducible refine (spec_l00Src_byte.calls g s0_0 t142 t143 t144 t145 t146 w0 _ ?side1 ?side2 A15.out).mono ?_); (case side1 => repeat (first | (with_reducible first | exact HI0.out | apply IsS90.alloc | apply IsS90.drewN | apply IsS90.drew | apply IsS90.set_1 | apply IsS90.set_2) | exact HI0.out)); (case side2 => repeat (first | (with_reducible first | exact HB.out | apply below_alloc | apply pw_below_drewN | apply below_drew1 | refine below_set ?_ (IsS90.ge HI0.out)) | exact HB.out)); rintro e w20 ⟨rfl, hi, hb, hk⟩; refine ⟨_, rfl, ?_⟩; have n0_ := Aside0.mk (KeepBut.trans (by repeat (first | (with_reducible first | exact HK.out | apply KeepBut.set_ | apply keep_drewN | apply keep_drew | apply keep_alloc) | exact HK.out)) hk (.inl rfl)); have n1_ := Aside0.mk (hb); have n2_ := Aside0.mk (hi); clear HK; clear HB; clear HI0; have HK := n0_; have HB := n1_; have HI0 := n2_; clear n0_ n1_ n2_; (try clear hb); (try clear hb2); (try clear hk); (try clear hi)))
        go_ret
        exact ⟨by first | rfl | (simp [errW_none, errW_some] <;> rfl) | (simp [*, errW_none, errW_some] <;> rfl), by repeat (first | (with_reducible first | exact HI0.out | apply IsS90.alloc | apply IsS90.drewN | apply IsS90.drew | apply IsS90.set_1 | apply IsS90.set_2) | exact HI0.out), by repeat (first | (with_reducible first | exact HB.out | apply below_alloc | apply pw_below_drewN | apply below_drew1 | refine below_set ?_ (IsS90.ge HI0.out)) | exact HB.out), by repeat (first | (with_reducible first | exact HK.out | apply KeepBut.set_ | apply keep_drewN | apply keep_drew | apply keep_alloc) | exact HK.out)⟩
      · rw [if_neg c11] at H
        have c11b0 : (t126 == 2) = false := beq_eq_false_iff_ne.mpr c11
        have c11b1 : (t126 != 2) = true := bne_iff_ne.mpr c11
        by_cases c21 : t126 = 3
        · rw [if_pos c21] at H
          have c21b0 : (t126 == 3) = true := beq_iff_eq.mpr c21
          have c21b1 : (t126 != 3) = false := bne_eq_false_iff_eq.mpr c21
          clear c21
          replace H := Option.bind_eq_some_iff.mp H
          obtain ⟨⟨t147, t148, t149⟩, A220, H⟩ := H
          replace H : (some (wrap64 (-t147), t148, t149)) = some (r1, r2, r3) := H
          have A22 := Aside0.mk A220
          clear A220
          simp only [Option.some.injEq, Prod.mk.injEq] at H
          obtain ⟨rfl, rfl, rfl⟩ := H
          go_enter Try.func53, Try.ntmps53
          go_wp2_with (first | ((with_reducible refine gate_callee (f := 76) rfl ?_); refine goesL_ (some 4) rfl rfl Try.func76 (by kernel_rfl) rfl #[.pointer (some ⟨g, 0, none⟩), .int .i64 8] rfl (by (try simp only [List.map_toArray, List.map_cons, List.map_nil]); first | done | rfl | (simp only [List.length_drop, List.length_take]; rfl)) ?_; (with_reducible refine (spec_l00Src_next.calls g s0_0 s0_1 s0_2 8 t126 t127 t128 w0 _ ?side1 ?side2 A2.out).mono ?_); (case side1 => repeat (first | (with_reducible first | exact HI0.out | apply IsS90.alloc | apply IsS90.drewN | apply IsS90.drew | apply IsS90.set_1 | apply IsS90.set_2) | exact HI0.out)); (case side2 => repeat (first | (with_reducible first | exact HB.out | apply below_alloc | apply pw_below_drewN | apply below_drew1 | refine below_set ?_ (IsS90.ge HI0.out)) | exact HB.out)); rintro e w23 ⟨rfl, hi, hb, hk⟩; refine ⟨_, rfl, ?_⟩; have n0_ := Aside0.mk (KeepBut.trans (by repeat (first | (with_reducible first | exact HK.out | apply KeepBut.set_ | apply keep_drewN | apply keep_drew | apply keep_alloc) | exact HK.out)) hk (.inl rfl)); have n1_ := Aside0.mk (hb); have n2_ := Aside0.mk (hi); clear HK; clear HB; clear HI0; have HK := n0_; have HB := n1_; have HI0 := n2_; clear n0_ n1_ n2_; (try clear hb); (try clear hb2); (try clear hk); (try clear hi)) | ((with_reducible refine gate_callee (f := 76) rfl ?_); refine goesL_ (some 36) rfl rfl Try.func76 (by kernel_rfl) rfl #[.pointer (some ⟨g, 0, none⟩), .int .i64 300] rfl (by (try simp only [List.map_toArray, List.map_cons, List.map_nil]); first | done | rfl | (simp only [List.length_drop, List.length_take]; rfl)) ?_; (with_reducible refine (spec_l00Src_next.calls g s0_0 t127 t128 300 t147 t148 t149 w0 _ ?side1 ?side2 A22.out).mono ?_); (case side1 => repeat (first | (with_reducible first | exact HI0.out | apply IsS90.alloc | apply IsS90.drewN | apply IsS90.drew | apply IsS90.set_1 | apply IsS90.set_2) | exact HI0.out)); (case side2 => repeat (first | (with_reducible first | exact HB.out | apply below_alloc | apply pw_below_drewN | apply below_drew1 | refine below_set ?_ (IsS90.ge HI0.out)) | exact HB.out)); rintro e w24 ⟨rfl, hi, hb, hk⟩; refine ⟨_, rfl, ?_⟩; have n0_ := Aside0.mk (KeepBut.trans (by repeat (first | (with_reducible first | exact HK.out | apply KeepBut.set_ | apply keep_drewN | apply keep_drew | apply keep_alloc) | exact HK.out)) hk (.inl rfl)); have n1_ := Aside0.mk (hb); have n2_ := Aside0.mk (hi); clear HK; clear HB; clear HI0; have HK := n0_; have HB := n1_; have HI0 := n2_; clear n0_ n1_ n2_; (try clear hb); (try clear hb2); (try clear hk); (try clear hi)))
          go_ret
          exact ⟨by first | rfl | (simp [errW_none, errW_some] <;> rfl) | (simp [*, errW_none, errW_some] <;> rfl), by repeat (first | (with_reducible first | exact HI0.out | apply IsS90.alloc | apply IsS90.drewN | apply IsS90.drew | apply IsS90.set_1 | apply IsS90.set_2) | exact HI0.out), by repeat (first | (with_reducible first | exact HB.out | apply below_alloc | apply pw_below_drewN | apply below_drew1 | refine below_set ?_ (IsS90.ge HI0.out)) | exact HB.out), by repeat (first | (with_reducible first | exact HK.out | apply KeepBut.set_ | apply keep_drewN | apply keep_drew | apply keep_alloc) | exact HK.out)⟩
        · rw [if_neg c21] at H
          have c21b0 : (t126 == 3) = false := beq_eq_false_iff_ne.mpr c21
          have c21b1 : (t126 != 3) = true := bne_iff_ne.mpr c21
          replace H := Option.bind_eq_some_iff.mp H
          obtain ⟨⟨t150, t151, t152⟩, A250, H⟩ := H
          replace H : (some (t150, t151, t152)) = some (r1, r2, r3) := H
          have A25 := Aside0.mk A250
          clear A250
          simp only [Option.some.injEq, Prod.mk.injEq] at H
          obtain ⟨rfl, rfl, rfl⟩ := H
          go_enter Try.func53, Try.ntmps53
          go_wp2_with (first | ((with_reducible refine gate_callee (f := 76) rfl ?_); refine goesL_ (some 4) rfl rfl Try.func76 (by kernel_rfl) rfl #[.pointer (some ⟨g, 0, none⟩), .int .i64 8] rfl (by (try simp only [List.map_toArray, List.map_cons, List.map_nil]); first | done | rfl | (simp only [List.length_drop, List.length_take]; rfl)) ?_; (with_reducible refine (spec_l00Src_next.calls g s0_0 s0_1 s0_2 8 t126 t127 t128 w0 _ ?side1 ?side2 A2.out).mono ?_); (case side1 => repeat (first | (with_reducible first | exact HI0.out | apply IsS90.alloc | apply IsS90.drewN | apply IsS90.drew | apply IsS90.set_1 | apply IsS90.set_2) | exact HI0.out)); (case side2 => repeat (first | (with_reducible first | exact HB.out | apply below_alloc | apply pw_below_drewN | apply below_drew1 | refine below_set ?_ (IsS90.ge HI0.out)) | exact HB.out)); rintro e w26 ⟨rfl, hi, hb, hk⟩; refine ⟨_, rfl, ?_⟩; have n0_ := Aside0.mk (KeepBut.trans (by repeat (first | (with_reducible first | exact HK.out | apply KeepBut.set_ | apply keep_drewN | apply keep_drew | apply keep_alloc) | exact HK.out)) hk (.inl rfl)); have n1_ := Aside0.mk (hb); have n2_ := Aside0.mk (hi); clear HK; clear HB; clear HI0; have HK := n0_; have HB := n1_; have HI0 := n2_; clear n0_ n1_ n2_; (try clear hb); (try clear hb2); (try clear hk); (try clear hi)) | ((with_reducible refine gate_callee (f := 76) rfl ?_); refine goesL_ (some 39) rfl rfl Try.func76 (by kernel_rfl) rfl #[.pointer (some ⟨g, 0, none⟩), .int .i64 200] rfl (by (try simp only [List.map_toArray, List.map_cons, List.map_nil]); first | done | rfl | (simp only [List.length_drop, List.length_take]; rfl)) ?_; (with_reducible refine (spec_l00Src_next.calls g s0_0 t127 t128 200 t150 t151 t152 w0 _ ?side1 ?side2 A25.out).mono ?_); (case side1 => repeat (first | (with_reducible first | exact HI0.out | apply IsS90.alloc | apply IsS90.drewN | apply IsS90.drew | apply IsS90.set_1 | apply IsS90.set_2) | exact HI0.out)); (case side2 => repeat (first | (with_reducible first | exact HB.out | apply below_alloc | apply pw_below_drewN | apply below_drew1 | refine below_set ?_ (IsS90.ge HI0.out)) | exact HB.out)); rintro e w27 ⟨rfl, hi, hb, hk⟩; refine ⟨_, rfl, ?_⟩; have n0_ := Aside0.mk (KeepBut.trans (by repeat (first | (with_reducible first | exact HK.out | apply KeepBut.set_ | apply keep_drewN | apply keep_drew | apply keep_alloc) | exact HK.out)) hk (.inl rfl)); have n1_ := Aside0.mk (hb); have n2_ := Aside0.mk (hi); clear HK; clear HB; clear HI0; have HK := n0_; have HB := n1_; have HI0 := n2_; clear n0_ n1_ n2_; (try clear hb); (try clear hb2); (try clear hk); (try clear hi)))
          go_ret
          exact ⟨by first | rfl | (simp [errW_none, errW_some] <;> rfl) | (simp [*, errW_none, errW_some] <;> rfl), by repeat (first | (with_reducible first | exact HI0.out | apply IsS90.alloc | apply IsS90.drewN | apply IsS90.drew | apply IsS90.set_1 | apply IsS90.set_2) | exact HI0.out), by repeat (first | (with_reducible first | exact HB.out | apply below_alloc | apply pw_below_drewN | apply below_drew1 | refine below_set ?_ (IsS90.ge HI0.out)) | exact HB.out), by repeat (first | (with_reducible first | exact HK.out | apply KeepBut.set_ | apply keep_drewN | apply keep_drew | apply keep_alloc) | exact HK.out)⟩

/-! ### spec_ValueDrawn: function 23 -/
def spec_ValueDrawn.f (l0 : List Int) : Option (Int) := (spec_l00Source.f l0).bind fun bt153 => ((spec_l00Src_value.f bt153.1 bt153.2.1 bt153.2.2).bind fun bt157 => (some bt157.1))
set_option maxHeartbeats 8000000 in
set_option maxRecDepth 100000 in
theorem spec_ValueDrawn.calls (A0 : Option Addr) (c0 : Nat) (l0 : List Int) (r : Int) (w : World) (hr0 : Kd.C (Kd.int .u8) w A0 l0.length l0) (hc0 : l0.length ≤ c0) (h : spec_ValueDrawn.f l0 = some r) :
    Calls Try.prog 23 #[.slice A0 l0.length c0] w fun e w' => e = .returned (.int .i64 r) ∧ Below w.heap.size w w' := by
  have HR0 := Aside0.mk hr0
  have HC0 := Aside0.mk hc0
  clear hr0 hc0
  have HB := Aside0.mk (Below.refl w.heap.size w)
  have H : ((spec_l00Source.f l0).bind fun bt153 => ((spec_l00Src_value.f bt153.1 bt153.2.1 bt153.2.2).bind fun bt157 => (some bt157.1))) = some r := h
  clear h
  replace H := Option.bind_eq_some_iff.mp H
  obtain ⟨⟨t153, t154, t155⟩, A20, H⟩ := H
  replace H : ((spec_l00Src_value.f t153 t154 t155).bind fun bt157 => (some bt157.1)) = some r := H
  have A2 := Aside0.mk A20
  clear A20
  replace H := Option.bind_eq_some_iff.mp H
  obtain ⟨⟨t157, t158, t159⟩, A30, H⟩ := H
  replace H : (some t157) = some r := H
  have A3 := Aside0.mk A30
  clear A30
  obtain rfl := Option.some.inj H
  go_enter Try.func23, Try.ntmps23
  go_wp2_with (first | ((with_reducible refine gate_callee (f := 52) rfl ?_); refine goesL_ (some 4) rfl rfl Try.func52 (by kernel_rfl) rfl #[.slice A0 l0.length c0] rfl (by (try simp only [List.map_toArray, List.map_cons, List.map_nil]); first | done | rfl | (simp only [List.length_drop, List.length_take]; rfl)) ?_; (with_reducible refine (spec_l00Source.calls _ _ l0 t153 t154 t155 w _ ?side1 ?side2 ?side3 A2.out).mono ?_); (case side1 => repeat (first | (with_reducible first | exact HB.out | apply below_alloc | apply pw_below_drewN | apply below_drew1) | exact HB.out)); (case side2 => exact HR0.out); (case side3 => exact HC0.out); rintro e w4 ⟨g156, rfl, hi, hb, hb2⟩; refine ⟨_, rfl, ?_⟩; have n0_ := Aside0.mk (hb); have n1_ := Aside0.mk (hi); clear HB; have HB := n0_; have HI156 := n1_; clear n0_ n1_; (try clear hb); (try clear hb2); (try clear hk); (try clear hi)) | ((with_reducible refine gate_callee (f := 53) rfl ?_); refine goesL_ (some 5) rfl rfl Try.func53 (by kernel_rfl) rfl #[.pointer (some ⟨g156, 0, none⟩)] rfl (by (try simp only [List.map_toArray, List.map_cons, List.map_nil]); first | done | rfl | (simp only [List.length_drop, List.length_take]; rfl)) ?_; (with_reducible refine (spec_l00Src_value.calls g156 t153 t154 t155 t157 t158 t159 w _ ?side1 ?side2 A3.out).mono ?_); (case side1 => repeat (first | (with_reducible first | exact HI156.out | apply IsS90.alloc | apply IsS90.drewN | apply IsS90.drew | apply IsS90.set_1 | apply IsS90.set_2) | exact HI156.out)); (case side2 => repeat (first | (with_reducible first | exact HB.out | apply below_alloc | apply pw_below_drewN | apply below_drew1 | refine below_set ?_ (IsS90.ge HI156.out)) | exact HB.out)); rintro e w5 ⟨rfl, hi, hb, hk⟩; refine ⟨_, rfl, ?_⟩; have n0_ := Aside0.mk (hb); have n1_ := Aside0.mk (hi); clear HB; clear HI156; have HB := n0_; have HI156 := n1_; clear n0_ n1_; (try clear hb); (try clear hb2); (try clear hk); (try clear hi)))
  go_ret
  exact ⟨by first | rfl | (simp [errW_none, errW_some] <;> rfl) | (simp [*, errW_none, errW_some] <;> rfl), by repeat (first | (with_reducible first | exact HB.out | apply below_alloc | apply pw_below_drewN | apply below_drew1 | refine below_set ?_ (IsS90.ge HI156.out)) | exact HB.out)⟩

/-! ### laws_FnChecked: function 6 -/
mutual
def laws_FnChecked.j0 : Nat → List Int → List Int → Bool → Option (Bool)
  | 0, _, _, _ => none
  | k + 1, x0, x1, x27 => if x27 = true then (some true) else ((spec_ValueDrawn.f x0).bind fun t160 => ((spec_ValueDrawn.f x1).bind fun t161 => ((some (([wrap64 (t160 + t161), wrap64 (t160 - t161), wrap64 (t160 * t161), 0] : List Int) : List Int)).bind fun y162 => (if t161 = 0 then (laws_FnChecked.j1 k t160 t161 y162) else (if 3 < (y162.length : Int) then (laws_FnChecked.j1 k t160 t161 (y162.set (3 : Int).toNat (wrap64 (Int.tdiv t160 t161)))) else (none))))))
def laws_FnChecked.j1 : Nat → Int → Int → List Int → Option (Bool)
  | 0, _, _, _ => none
  | k + 1, x5, x6, x7 => laws_FnChecked.l0 k x5 x6 x7 0
def laws_FnChecked.l0 : Nat → Int → Int → List Int → Int → Option (Bool)
  | 0, _, _, _, _ => none
  | k + 1, x5, x6, x7, x8 => if x8 < 4 then ((impl_Checked.f x8 x5 x6).bind fun bt166 => (if 0 ≤ x8 then (if x8 < (x7.length : Int) then (if (rd x7 x8) ≥ (-2147483648) then (if (rd x7 x8) ≤ 2147483647 then (if x8 < 3 then (if bt166.2.2 = 0 then (if (bt166.2.1 == true) = true then (some false) else (if bt166.1 = (rd x7 x8) then (laws_FnChecked.l0 k x5 x6 x7 (wrap64 (x8 + 1))) else (some false))) else (some false)) else (if bt166.2.2 = 0 then (if (bt166.2.1 == (x6 != 0)) = true then (some false) else (if x6 = 0 then (if bt166.1 = 0 then (laws_FnChecked.l0 k x5 x6 x7 (wrap64 (x8 + 1))) else (some false)) else (if bt166.1 = (rd x7 x8) then (laws_FnChecked.l0 k x5 x6 x7 (wrap64 (x8 + 1))) else (some false)))) else (some false))) else (if bt166.2.2 = 0 then (if (bt166.2.1 == false) = true then (some false) else (if bt166.1 = 0 then (laws_FnChecked.l0 k x5 x6 x7 (wrap64 (x8 + 1))) else (some false))) else (some false))) else (if bt166.2.2 = 0 then (if (bt166.2.1 == false) = true then (some false) else (if bt166.1 = 0 then (laws_FnChecked.l0 k x5 x6 x7 (wrap64 (x8 + 1))) else (some false))) else (some false))) else (none)) else (none))) else ((impl_Checked.f 3 x5 x6).bind fun bt173 => ((impl_Checked.f 4 x5 x6).bind fun bt176 => (if bt176.2.2 = 4 then (if bt173.2.1 = true then (some true) else (if (wrap64 (x5 - (wrap64 (bt173.1 * x6)))) = 0 then (some true) else (some ((decide ((wrap64 (x5 - (wrap64 (bt173.1 * x6)))) < 0)) == (decide (x5 < 0)))))) else (some false))))
end
def laws_FnChecked.f (k : Nat) (l0 : List Int) (l1 : List Int) : Option (Bool) := if (l0.length : Int) > 1048576 then (laws_FnChecked.j0 k l0 l1 true) else (laws_FnChecked.j0 k l0 l1 (decide ((l1.length : Int) > 1048576)))
theorem laws_FnChecked.mono_l : ∀ k, (∀ y0 y1 y2, LeO (laws_FnChecked.j0 k y0 y1 y2) (laws_FnChecked.j0 (k + 1) y0 y1 y2)) ∧ (∀ y0 y1 y2, LeO (laws_FnChecked.j1 k y0 y1 y2) (laws_FnChecked.j1 (k + 1) y0 y1 y2)) ∧ (∀ y0 y1 y2 y3, LeO (laws_FnChecked.l0 k y0 y1 y2 y3) (laws_FnChecked.l0 (k + 1) y0 y1 y2 y3))
  | 0 => ⟨fun _ _ _ r h => by simp [laws_FnChecked.j0] at h, fun _ _ _ r h => by simp [laws_FnChecked.j1] at h, fun _ _ _ _ r h => by simp [laws_FnChecked.l0] at h⟩
  | k + 1 => by
    obtain ⟨ih0, ih1, ih2⟩ := laws_FnChecked.mono_l k
    refine ⟨?_, ?_, ?_⟩
    · intro y0 y1 y2
      unfold laws_FnChecked.j0
      repeat' first
      | (with_reducible exact ih0 _ _ _)
      | (with_reducible exact ih1 _ _ _)
      | (with_reducible exact ih2 _ _ _ _)
      | (with_reducible exact LeO.refl _)
      | (with_reducible exact LeO.none _)
      | (with_reducible refine LeO.ite ?_ ?_)
      | (with_reducible refine LeO.bind ?_ (fun _ => ?_))
      | exact ih0 _ _ _
      | exact ih1 _ _ _
      | exact ih2 _ _ _ _
      | exact LeO.none _
      | refine LeO.ite ?_ ?_
      | refine LeO.bind ?_ (fun _ => ?_)
    · intro y0 y1 y2
      unfold laws_FnChecked.j1
      repeat' first
      | (with_reducible exact ih0 _ _ _)
      | (with_reducible exact ih1 _ _ _)
      | (with_reducible exact ih2 _ _ _ _)
      | (with_reducible exact LeO.refl _)
      | (with_reducible exact LeO.none _)
      | (with_reducible refine LeO.ite ?_ ?_)
      | (with_reducible refine LeO.bind ?_ (fun _ => ?_))
      | exact ih0 _ _ _
      | exact ih1 _ _ _
      | exact ih2 _ _ _ _
      | exact LeO.none _
      | refine LeO.ite ?_ ?_
      | refine LeO.bind ?_ (fun _ => ?_)
    · intro y0 y1 y2 y3
      unfold laws_FnChecked.l0
      repeat' first
      | (with_reducible exact ih0 _ _ _)
      | (with_reducible exact ih1 _ _ _)
      | (with_reducible exact ih2 _ _ _ _)
      | (with_reducible exact LeO.refl _)
      | (with_reducible exact LeO.none _)
      | (with_reducible refine LeO.ite ?_ ?_)
      | (with_reducible refine LeO.bind ?_ (fun _ => ?_))
      | exact ih0 _ _ _
      | exact ih1 _ _ _
      | exact ih2 _ _ _ _
      | exact LeO.none _
      | refine LeO.ite ?_ ?_
      | refine LeO.bind ?_ (fun _ => ?_)
theorem laws_FnChecked.mono : ∀ a0 a1 k, LeO (laws_FnChecked.f k a0 a1) (laws_FnChecked.f (k + 1) a0 a1) := by
  intro a0 a1 k
  obtain ⟨ih0, ih1, ih2⟩ := laws_FnChecked.mono_l k
  unfold laws_FnChecked.f
  repeat' first
      | (with_reducible exact ih0 _ _ _)
      | (with_reducible exact ih1 _ _ _)
      | (with_reducible exact ih2 _ _ _ _)
      | (with_reducible exact LeO.refl _)
      | (with_reducible exact LeO.none _)
      | (with_reducible refine LeO.ite ?_ ?_)
      | (with_reducible refine LeO.bind ?_ (fun _ => ?_))
      | exact ih0 _ _ _
      | exact ih1 _ _ _
      | exact ih2 _ _ _ _
      | exact LeO.none _
      | refine LeO.ite ?_ ?_
      | refine LeO.bind ?_ (fun _ => ?_)
set_option maxHeartbeats 8000000 in
set_option maxRecDepth 100000 in
theorem laws_FnChecked.calls (k : Nat) (A0 : Option Addr) (c0 : Nat) (l0 : List Int) (A1 : Option Addr) (c1 : Nat) (l1 : List Int) (r : Bool) (w : World) (hr0 : Kd.C (Kd.int .u8) w A0 l0.length l0) (hc0 : l0.length ≤ c0) (hr1 : Kd.C (Kd.int .u8) w A1 l1.length l1) (hc1 : l1.length ≤ c1) (h : laws_FnChecked.f k l0 l1 = some r) (hlaw0 : r = true) :
    Calls Try.prog 6 #[.slice A0 l0.length c0, .slice A1 l1.length c1] w fun e w' => e = .returned (.bool r) ∧ Below w.heap.size w w' := by
  have HR0 := Aside0.mk hr0
  have HC0 := Aside0.mk hc0
  clear hr0 hc0
  have HR1 := Aside0.mk hr1
  have HC1 := Aside0.mk hc1
  clear hr1 hc1
  have HB := Aside0.mk (Below.refl w.heap.size w)
  have hlaw_ := Aside0.mk hlaw0
  clear hlaw0
  have H : (if (l0.length : Int) > 1048576 then (laws_FnChecked.j0 k l0 l1 true) else (laws_FnChecked.j0 k l0 l1 (decide ((l1.length : Int) > 1048576)))) = some r := h
  clear h
  have HC3 := Aside0.mk H
  clear H
  go_enter Try.func6, Try.ntmps6
  go_upto_region 1 with (fail)
  go_cut [27] (fun v27 wc => ∃ (kq : Nat) (x27_2 : Bool), v27 = .bool x27_2 ∧ Aside0 (laws_FnChecked.j0 kq l0 l1 x27_2 = some r) ∧ Aside0 (kq ≤ k) ∧ Aside0 (Below w.heap.size w wc))
  case first =>
    have H := HC3.out
    clear HC3
    by_cases c4 : (l0.length : Int) > 1048576
    · rw [if_pos c4] at H
      have c4b0 : decide (1048576 < (l0.length : Int)) = true := decide_eq_true c4
      have c4b1 : decide (1048576 < l0.length) = true := decide_eq_true (by omega)
      clear c4
      (first | rw [c4b0] | (simp only [i64_w, i32_w]; rw [c4b0]) | skip)
      have H' := Aside0.mk H
      clear H
      go_wp2
      (first | go_meet | (refine Met.intro ?_; go_step; (repeat apply Exists.intro); refine ⟨?rel, ?eqm_⟩; (case eqm_ => (simp only [c4b1, c4b0]; rfl))))
      case rel => exact ⟨_, (true), (by first | rfl | (simp; done) | (simp [*]; done)), H', ⟨by first | omega | exact Nat.le_refl _⟩, ⟨by repeat (first | (with_reducible first | exact HB.out | apply below_alloc | apply pw_below_drewN | apply below_drew1) | exact HB.out)⟩⟩
    · rw [if_neg c4] at H
      have c4b0 : decide (1048576 < (l0.length : Int)) = false := decide_eq_false c4
      have c4b1 : decide (1048576 < l0.length) = false := decide_eq_false (by omega)
      clear c4
      (first | rw [c4b0] | (simp only [i64_w, i32_w]; rw [c4b0]) | skip)
      have H' := Aside0.mk H
      clear H
      go_wp2
      (first | go_meet | (refine Met.intro ?_; go_step; (repeat apply Exists.intro); refine ⟨?rel, ?eqm_⟩; (case eqm_ => (simp only [c4b1, c4b0]; rfl))))
      case rel => exact ⟨_, (decide ((l1.length : Int) > 1048576)), (by first | rfl | (simp; done) | (simp [*]; done)), H', ⟨by first | omega | exact Nat.le_refl _⟩, ⟨by repeat (first | (with_reducible first | exact HB.out | apply below_alloc | apply pw_below_drewN | apply below_drew1) | exact HB.out)⟩⟩
  case rest =>
    clear HC3
    try clear c1
    try clear p2
    try clear c4
    try clear c4b0
    try clear c4b1
    obtain ⟨kq, x27_2, rfl, HA, HJ2, HB⟩ := hcut
    cases kq with
    | zero => exact absurd HA.out (by simp [laws_FnChecked.j0])
    | succ kj2 =>
      have H := HA.out
      clear HA
      simp only [laws_FnChecked.j0] at H
      by_cases c5 : x27_2 = true
      · subst c5
        have H1 : (some true) = some r := by rw [if_pos rfl] at H; exact H
        clear H
        have H := H1
        clear H1
        obtain rfl := Option.some.inj H
        go_wp2
        go_ret
        exact ⟨by first | rfl | (simp [errW_none, errW_some] <;> rfl) | (simp [*, errW_none, errW_some] <;> rfl), by repeat (first | (with_reducible first | exact HB.out | apply below_alloc | apply pw_below_drewN | apply below_drew1) | exact HB.out)⟩
      · replace c5 := Bool.eq_false_iff.mpr c5
        subst c5
        have H1 : ((spec_ValueDrawn.f l0).bind fun t160 => ((spec_ValueDrawn.f l1).bind fun t161 => ((some (([wrap64 (t160 + t161), wrap64 (t160 - t161), wrap64 (t160 * t161), 0] : List Int) : List Int)).bind fun y162 => (if t161 = 0 then (laws_FnChecked.j1 kj2 t160 t161 y162) else (if 3 < (y162.length : Int) then (laws_FnChecked.j1 kj2 t160 t161 (y162.set (3 : Int).toNat (wrap64 (Int.tdiv t160 t161)))) else (none)))))) = some r := by rw [if_neg (show ¬ (false = true) by decide)] at H; exact H
        clear H
        have H := H1
        clear H1
        replace H := Option.bind_eq_some_iff.mp H
        obtain ⟨t160, A60, H⟩ := H
        replace H : ((spec_ValueDrawn.f l1).bind fun t161 => ((some (([wrap64 (t160 + t161), wrap64 (t160 - t161), wrap64 (t160 * t161), 0] : List Int) : List Int)).bind fun y162 => (if t161 = 0 then (laws_FnChecked.j1 kj2 t160 t161 y162) else (if 3 < (y162.length : Int) then (laws_FnChecked.j1 kj2 t160 t161 (y162.set (3 : Int).toNat (wrap64 (Int.tdiv t160 t161)))) else (none))))) = some r := H
        have A6 := Aside0.mk A60
        clear A60
        replace H := Option.bind_eq_some_iff.mp H
        obtain ⟨t161, A70, H⟩ := H
        replace H : ((some (([wrap64 (t160 + t161), wrap64 (t160 - t161), wrap64 (t160 * t161), 0] : List Int) : List Int)).bind fun y162 => (if t161 = 0 then (laws_FnChecked.j1 kj2 t160 t161 y162) else (if 3 < (y162.length : Int) then (laws_FnChecked.j1 kj2 t160 t161 (y162.set (3 : Int).toNat (wrap64 (Int.tdiv t160 t161)))) else (none)))) = some r := H
        have A7 := Aside0.mk A70
        clear A70
        obtain ⟨y162, hy162⟩ : ∃ y_ : List Int, y_ = (([wrap64 (t160 + t161), wrap64 (t160 - t161), wrap64 (t160 * t161), 0] : List Int)) := ⟨_, rfl⟩
        replace H : (if t161 = 0 then (laws_FnChecked.j1 kj2 t160 t161 y162) else (if 3 < (y162.length : Int) then (laws_FnChecked.j1 kj2 t160 t161 (y162.set (3 : Int).toNat (wrap64 (Int.tdiv t160 t161)))) else (none))) = some r := by first | (rw [hy162]; with_reducible exact H) | (have H2_ := (Option.bind_some _ _).symm.trans H; rw [hy162]; with_reducible exact H2_) | (have H2_ := (Option.bind_some _ _).symm.trans H; with_reducible exact H2_) | with_reducible exact H | (rw [hy162]; exact H) | exact H
        have Ny162 := Aside0.mk hy162
        clear hy162
        have HC8 := Aside0.mk H
        clear H
        go_upto_if 43 with (first | ((with_reducible refine gate_callee (f := 23) rfl ?_); refine goesL_ (some 29) rfl rfl Try.func23 (by kernel_rfl) rfl #[.slice A0 l0.length c0] rfl (by (try simp only [List.map_toArray, List.map_cons, List.map_nil]); first | done | rfl | (simp only [List.length_drop, List.length_take]; rfl)) ?_; (with_reducible refine (spec_ValueDrawn.calls _ _ l0 t160 _ ?side1 ?side2 A6.out).mono ?_); (case side1 => repeat (first | exact (Kd.C_below HR0.out HB.out) | (with_reducible refine Kd.C_alloc ?_ _) | (with_reducible refine Kd.C_drewN ?_ _) | (with_reducible refine Kd.C_drew ?_))); (case side2 => exact HC0.out); rintro e w9 ⟨rfl, hb⟩; refine ⟨_, rfl, ?_⟩; have n0_ := Aside0.mk (below_step (by repeat (first | (with_reducible first | exact HB.out | apply below_alloc | apply pw_below_drewN | apply below_drew1) | exact HB.out)) hb); clear HB; have HB := n0_; clear n0_; (try clear hb); (try clear hb2); (try clear hk); (try clear hi)) | ((with_reducible refine gate_callee (f := 23) rfl ?_); refine goesL_ (some 31) rfl rfl Try.func23 (by kernel_rfl) rfl #[.slice A1 l1.length c1] rfl (by (try simp only [List.map_toArray, List.map_cons, List.map_nil]); first | done | rfl | (simp only [List.length_drop, List.length_take]; rfl)) ?_; (with_reducible refine (spec_ValueDrawn.calls _ _ l1 t161 _ ?side1 ?side2 A7.out).mono ?_); (case side1 => repeat (first | exact (Kd.C_below HR1.out HB.out) | (with_reducible refine Kd.C_alloc ?_ _) | (with_reducible refine Kd.C_drewN ?_ _) | (with_reducible refine Kd.C_drew ?_))); (case side2 => exact HC1.out); rintro e w10 ⟨rfl, hb⟩; refine ⟨_, rfl, ?_⟩; have n0_ := Aside0.mk (below_step (by repeat (first | (with_reducible first | exact HB.out | apply below_alloc | apply pw_below_drewN | apply below_drew1) | exact HB.out)) hb); clear HB; have HB := n0_; clear n0_; (try clear hb); (try clear hb2); (try clear hk); (try clear hi)) | ((with_reducible refine gate_dst (N := 41) rfl ?_); (try (refine gate_guard (by rfl) ?_; dsimp only)); refine Kd.R_lit (Kd.int .i64) _ 3 ?hg (N := 41) ?hd (xs := ([wrap64 (t160 + t161), wrap64 (t160 - t161), wrap64 (t160 * t161), 0] : List Int)) (inner := [.int .i64 (wrap64 (t160 + t161)), .int .i64 (wrap64 (t160 - t161)), .int .i64 (wrap64 (t160 * t161)), .int .i64 0]) (ok := fun _ => True) (okp := fun _ => True) ?hr ?hp (fun _ hk => hk) trivial (Below.refl _ _) (Nat.le_refl _) (by simp) ?_; (case hd => rfl); (case hg => rfl); (case hr => first | (go_simp; done) | (go_simp; rfl)); (case hp => exact (Reps.one (show Kd.M (Kd.int .i64) _ _ _ (wrap64 (t160 + t161)) [.int .i64 (wrap64 (t160 + t161))] from rfl) (Reps.one (show Kd.M (Kd.int .i64) _ _ _ (wrap64 (t160 - t161)) [.int .i64 (wrap64 (t160 - t161))] from rfl) (Reps.one (show Kd.M (Kd.int .i64) _ _ _ (wrap64 (t160 * t161)) [.int .i64 (wrap64 (t160 * t161))] from rfl) (Reps.one (show Kd.M (Kd.int .i64) _ _ _ 0 [.int .i64 0] from rfl) (Reps.none _ _)))))); intro v163 w11 ho12 hb hg_ hnew_; clear hg_ hnew_; (first | rw [← Ny162.out] at ho12 | (simp only [Int.reduceToNat] at ho12; rw [← Ny162.out] at ho12)); have n0_ := Aside0.mk (Kd.R_lower ho12 (below_size (by repeat (first | (with_reducible first | exact HB.out | apply below_alloc | apply pw_below_drewN | apply below_drew1) | exact HB.out)))); have n1_ := Aside0.mk (below_step (by repeat (first | (with_reducible first | exact HB.out | apply below_alloc | apply pw_below_drewN | apply below_drew1) | exact HB.out)) hb); clear HB; have HO164 := n0_; have HB := n1_; clear n0_ n1_; clear hb ho12))
        (try simp only [Act.put, List.setIfInBounds_toArray, List.set_cons_zero, List.set_cons_succ])
        go_cut [] (fun wc => ∃ (kq : Nat) (x7_7 : List Int), Aside0 (laws_FnChecked.j1 kq t160 t161 x7_7 = some r) ∧ Aside0 (kq ≤ kj2) ∧ Aside0 (Kd.R (Kd.int .i64) 3 wc w.heap.size (fun _ => True) v163 x7_7) ∧ Aside0 (Below w.heap.size w wc))
        case first =>
          have H := HC8.out
          clear HC8
          by_cases c13 : t161 = 0
          · rw [if_pos c13] at H
            have c13b0 : (t161 == 0) = true := beq_iff_eq.mpr c13
            have c13b1 : (t161 != 0) = false := bne_eq_false_iff_eq.mpr c13
            clear c13
            (first | rw [c13b0] | (simp only [i64_w, i32_w]; rw [c13b0]) | skip)
            have H' := Aside0.mk H
            clear H
            go_wp2
            (first | go_meet | (refine Met.intro ?_; go_step; (repeat apply Exists.intro); refine ⟨?rel, ?eqm_⟩; (case eqm_ => (simp only [c13b1, c13b0]; rfl))))
            case rel => exact ⟨_, (y162), H', ⟨by have := HJ2.out; first | omega | exact Nat.le_refl _⟩, ⟨by (with_reducible repeat (first | apply Kd.R_alloc | apply Kd.R_drewN | apply Kd.R_drew)); exact HO164.out⟩, ⟨by repeat (first | (with_reducible first | exact HB.out | apply below_alloc | apply pw_below_drewN | apply below_drew1) | exact HB.out)⟩⟩
          · rw [if_neg c13] at H
            have c13b0 : (t161 == 0) = false := beq_eq_false_iff_ne.mpr c13
            have c13b1 : (t161 != 0) = true := bne_iff_ne.mpr c13
            (first | rw [c13b0] | (simp only [i64_w, i32_w]; rw [c13b0]) | skip)
            by_cases c14 : 3 < (y162.length : Int)
            · rw [if_pos c14] at H
              have c14b0 : decide (3 < (y162.length : Int)) = true := decide_eq_true c14
              have c14b1 : decide (3 < y162.length) = true := decide_eq_true (by omega)
              clear c14
              obtain ⟨y165, hy165⟩ : ∃ y_ : List Int, y_ = (y162.set (3 : Int).toNat (wrap64 (Int.tdiv t160 t161))) := ⟨_, rfl⟩
              replace H : (laws_FnChecked.j1 kj2 t160 t161 y165) = some r := by first | (rw [hy165]; with_reducible exact H) | (have H2_ := (Option.bind_some _ _).symm.trans H; rw [hy165]; with_reducible exact H2_) | (have H2_ := (Option.bind_some _ _).symm.trans H; with_reducible exact H2_) | with_reducible exact H | (rw [hy165]; exact H) | exact H
              have Ny165 := Aside0.mk hy165
              clear hy165
              have H' := Aside0.mk H
              clear H
              have p15 : 0 ≤ (3 : Int) := (by omega)
              have q15 : (3 : Int) < ((y162.length : Int) : Int) := of_decide_eq_true (by first | (with_reducible assumption) | assumption)
              have qi15 : (3 < y162.length) = True := eq_true (by omega)
              obtain ⟨go15, co15, eo15, gb15, gl15, cl15, HG15⟩ := Kd.R_form HO164.out (by omega)
              (first | cases eo15 | (injection eo15 with ea_ en_ ec_; (first | subst ea_ | (injection ea_ with ea_; subst ea_)); subst ec_; clear en_))
              have GB15 := Aside0.mk gb15
              have GG15 := Aside0.mk HG15
              clear gb15 gl15 HG15
              obtain ⟨hx15_0, hf15_0⟩ := Kd.R_celln 0 HO164.out (3 : Int) p15 q15
              (try rw [show ((3 : Int)).toNat = 3 from rfl] at hx15_0)
              (try simp only [Nat.reduceMul, Nat.zero_mul, Nat.zero_add, Nat.reduceAdd] at hx15_0)
              (try rw [show ((3 : Int)).toNat = 3 from rfl] at hf15_0)
              (try simp only [Nat.reduceMul, Nat.zero_mul, Nat.zero_add, Nat.reduceAdd] at hf15_0)
              replace p15 := eq_true p15
              replace q15 := eq_true q15
              have HP16 := Kd.R_putg HO164.out (3 : Int) (wrap64 (Int.tdiv t160 t161))
              go_wp2_with (first | ((with_reducible refine gate_store (t := 3) (p := 48) rfl ?_); refine store_event (t := 3) (p := 48) (v := ?vo_w17) (w1 := (w11.setCell ⟨go15, (3 : Int).toNat, none⟩ (.int .i64 (wrap64 (Int.tdiv t160 t161))))) ?hg ?ho ?hn ?hr ?_; (case ho => rfl); (case hg => rfl); (case hn => rfl); (case hr => first | (go_simp; done) | (go_simp; rfl)); intro w17 hw; have hg : w11.grownBy w17 (some go15) := (by rw [hw]; exact HP16.2); have hp_ : Kd.R (Kd.int .i64) 3 w17 w.heap.size (fun _ => True) (.slice (some ⟨go15, 0, none⟩) y162.length co15) y165 := (by rw [hw, Ny165.out]; exact HP16.1); clear HP16; have n0_ := Aside0.mk (hp_); have n1_ := Aside0.mk ((by rw [hw]; exact below_set (HB.out) GB15.out : Below w.heap.size w w17)); clear HO164; clear HB; have HO164 := n0_; have HB := n1_; clear n0_ n1_; clear hg hw hp_))
              (first | go_meet | (refine Met.intro ?_; go_step; (repeat apply Exists.intro); refine ⟨?rel, ?eqm_⟩; (case eqm_ => (simp only [c14b1, c14b0, c13b1, c13b0]; rfl))))
              case rel => exact ⟨_, (y165), H', ⟨by have := HJ2.out; first | omega | exact Nat.le_refl _⟩, ⟨by (with_reducible repeat (first | apply Kd.R_alloc | apply Kd.R_drewN | apply Kd.R_drew)); exact HO164.out⟩, ⟨by repeat (first | (with_reducible first | exact HB.out | apply below_alloc | apply pw_below_drewN | apply below_drew1) | exact HB.out)⟩⟩
            · rw [if_neg c14] at H
              exact absurd H (by simp)
        case rest =>
          clear HC8
          try clear c1
          try clear p1
          try clear q1
          try clear hx1
          try clear qi1
          try clear c2
          try clear p2
          try clear c4
          try clear c4b0
          try clear c4b1
          try clear c5
          try clear c6
          try clear p6
          try clear c13
          try clear c13b0
          try clear c13b1
          try clear c14
          try clear c14b0
          try clear c14b1
          try clear p15
          try clear q15
          try clear hx15
          try clear qi15
          try clear hf15
          try clear hx15_0
          try clear p15
          try clear p2
          try clear q15
          obtain ⟨kq, x7_7, HA, HJ7, HO_7, HB⟩ := hcut
          cases kq with
          | zero => exact absurd HA.out (by simp [laws_FnChecked.j1])
          | succ kj7 =>
            have H := HA.out
            clear HA
            simp only [laws_FnChecked.j1] at H
            have H' := Aside0.mk H
            clear H
            go_wp2
            go_loopg [8] kj7 (fun kq v8 w' => ∃ (x8_3 : Int), v8 = .int .i64 x8_3 ∧ Aside0 (laws_FnChecked.l0 kq t160 t161 x7_7 x8_3 = some r) ∧ Aside0 (kq ≤ kj7) ∧ Aside0 (Kd.R (Kd.int .i64) 3 w' w.heap.size (fun _ => True) v163 x7_7) ∧ Aside0 (Below w.heap.size w w'))
            case atStart => exact ⟨(0), (by first | rfl | (simp; done) | (simp [*]; done)), H', ⟨Nat.le_refl _⟩, ⟨by (with_reducible repeat (first | apply Kd.R_alloc | apply Kd.R_drewN | apply Kd.R_drew)); exact HO_7.out⟩, ⟨by repeat (first | (with_reducible first | exact HB.out | apply below_alloc | apply pw_below_drewN | apply below_drew1) | exact HB.out)⟩⟩
            case round =>
              clear H'
              try clear c1
              try clear p1
              try clear q1
              try clear hx1
              try clear qi1
              try clear c2
              try clear p2
              try clear c4
              try clear c4b0
              try clear c4b1
              try clear c5
              try clear c6
              try clear p6
              try clear c13
              try clear c13b0
              try clear c13b1
              try clear c14
              try clear c14b0
              try clear c14b1
              try clear p15
              try clear q15
              try clear hx15
              try clear qi15
              try clear hf15
              try clear hx15_0
              try clear p1
              try clear p15
              try clear p2
              try clear p6
              try clear q1
              try clear q15
              obtain ⟨x8_3, rfl, HA, HK3, HO_7, HB⟩ := hrel
              cases gk with
              | zero => exact absurd HA.out (by simp [laws_FnChecked.l0])
              | succ k3 =>
                have H := HA.out
                clear HA
                simp only [laws_FnChecked.l0] at H
                by_cases c18 : x8_3 < 4
                · rw [if_pos c18] at H
                  have c18b0 : decide (x8_3 < 4) = true := decide_eq_true c18
                  clear c18
                  replace H := Option.bind_eq_some_iff.mp H
                  obtain ⟨⟨t166, t167, t168⟩, A190, H⟩ := H
                  replace H : (if 0 ≤ x8_3 then (if x8_3 < (x7_7.length : Int) then (if (rd x7_7 x8_3) ≥ (-2147483648) then (if (rd x7_7 x8_3) ≤ 2147483647 then (if x8_3 < 3 then (if t168 = 0 then (if (t167 == true) = true then (some false) else (if t166 = (rd x7_7 x8_3) then (laws_FnChecked.l0 k3 t160 t161 x7_7 (wrap64 (x8_3 + 1))) else (some false))) else (some false)) else (if t168 = 0 then (if (t167 == (t161 != 0)) = true then (some false) else (if t161 = 0 then (if t166 = 0 then (laws_FnChecked.l0 k3 t160 t161 x7_7 (wrap64 (x8_3 + 1))) else (some false)) else (if t166 = (rd x7_7 x8_3) then (laws_FnChecked.l0 k3 t160 t161 x7_7 (wrap64 (x8_3 + 1))) else (some false)))) else (some false))) else (if t168 = 0 then (if (t167 == false) = true then (some false) else (if t166 = 0 then (laws_FnChecked.l0 k3 t160 t161 x7_7 (wrap64 (x8_3 + 1))) else (some false))) else (some false))) else (if t168 = 0 then (if (t167 == false) = true then (some false) else (if t166 = 0 then (laws_FnChecked.l0 k3 t160 t161 x7_7 (wrap64 (x8_3 + 1))) else (some false))) else (some false))) else (none)) else (none)) = some r := H
                  have A19 := Aside0.mk A190
                  clear A190
                  by_cases c20 : 0 ≤ x8_3
                  · rw [if_pos c20] at H
                    have c20b0 : decide (0 ≤ x8_3) = true := decide_eq_true c20
                    clear c20
                    by_cases c21 : x8_3 < (x7_7.length : Int)
                    · rw [if_pos c21] at H
                      have c21b0 : decide (x8_3 < (x7_7.length : Int)) = true := decide_eq_true c21
                      clear c21
                      by_cases c22 : (rd x7_7 x8_3) ≥ (-2147483648)
                      · rw [if_pos c22] at H
                        have c22b0 : decide ((-2147483648) ≤ (rd x7_7 x8_3)) = true := decide_eq_true c22
                        clear c22
                        by_cases c23 : (rd x7_7 x8_3) ≤ 2147483647
                        · rw [if_pos c23] at H
                          have c23b0 : decide ((rd x7_7 x8_3) ≤ 2147483647) = true := decide_eq_true c23
                          clear c23
                          by_cases c24 : x8_3 < 3
                          · rw [if_pos c24] at H
                            have c24b0 : decide (x8_3 < 3) = true := decide_eq_true c24
                            clear c24
                            by_cases c25 : t168 = 0
                            · rw [if_pos c25] at H
                              have c25b0 : (t168 == 0) = true := beq_iff_eq.mpr c25
                              have c25b1 : (t168 != 0) = false := bne_eq_false_iff_eq.mpr c25
                              clear c25
                              by_cases c26 : (t167 == true) = true
                              · rw [if_pos c26] at H
                                have c26b0 : (t167 == true) = true := c26
                                (try (have c26b1 : decide (t167 = true) = true := by simpa using c26))
                                (try (have c26b2 : (t167 == true) = true := by simpa using c26))
                                clear c26
                                exact absurd ((Option.some.inj H).trans hlaw_.out) (by decide)
                              · rw [if_neg c26] at H
                                have c26b0 : (t167 == true) = false := by simpa using c26
                                (try (have c26b1 : decide (t167 = true) = false := by simpa using c26))
                                (try (have c26b2 : (t167 == true) = false := by simpa using c26))
                                (try (have c26b3 : ¬ (t167 = true) := by simpa using c26))
                                clear c26
                                by_cases c27 : t166 = (rd x7_7 x8_3)
                                · rw [if_pos c27] at H
                                  have c27b0 : (t166 == (rd x7_7 x8_3)) = true := beq_iff_eq.mpr c27
                                  have c27b1 : (t166 != (rd x7_7 x8_3)) = false := bne_eq_false_iff_eq.mpr c27
                                  clear c27
                                  have H' := Aside0.mk H
                                  clear H
                                  go_wp2_with (first | ((with_reducible refine gate_callee (f := 19) rfl ?_); refine goesL_ (some 57) rfl rfl Try.func19 (by kernel_rfl) rfl #[.int .i64 x8_3, .int .i64 t160, .int .i64 t161] rfl (by (try simp only [List.map_toArray, List.map_cons, List.map_nil]); first | done | rfl | (simp only [List.length_drop, List.length_take]; rfl)) ?_; (with_reducible refine (impl_Checked.calls x8_3 t160 t161 t166 t167 t168 _ A19.out).mono ?_); rintro e w' ⟨rfl, ⟨nd, rfl⟩⟩; refine ⟨_, rfl, ?_⟩; obtain ⟨Ao28, co28, eo28⟩ := Kd.R_slice HO_7.out; subst eo28; have p169 : 0 ≤ (x8_3 : Int) := of_decide_eq_true (by first | (with_reducible assumption) | assumption); have q169 : x8_3 < (x7_7.length : Int) := of_decide_eq_true (by first | (with_reducible assumption) | assumption); obtain ⟨ad169, e169, hx169_0⟩ := Kd.at_int (Kd.R_reads' HO_7.out).2.2 x8_3 p169 q169; cases e169; replace p169 := eq_true p169; replace q169 := eq_true q169; have p170 : 0 ≤ (x8_3 : Int) := of_decide_eq_true (by first | (with_reducible assumption) | assumption); have q170 : x8_3 < (x7_7.length : Int) := of_decide_eq_true (by first | (with_reducible assumption) | assumption); obtain ⟨ad170, e170, hx170_0⟩ := Kd.at_int (Kd.R_reads' HO_7.out).2.2 x8_3 p170 q170; obtain rfl : ad169 = ad170 := (by injection e170); replace p170 := eq_true p170; replace q170 := eq_true q170; have p171 : 0 ≤ (x8_3 : Int) := of_decide_eq_true (by first | (with_reducible assumption) | assumption); have q171 : x8_3 < (x7_7.length : Int) := of_decide_eq_true (by first | (with_reducible assumption) | assumption); obtain ⟨ad171, e171, hx171_0⟩ := Kd.at_int (Kd.R_reads' HO_7.out).2.2 x8_3 p171 q171; obtain rfl : ad169 = ad171 := (by injection e171); replace p171 := eq_true p171; replace q171 := eq_true q171))
                                  go_roundg k3
                                  case measure => have := HJ2.out; have := HJ7.out; have := HK3.out; omega
                                  case rel => exact ⟨(wrap64 (x8_3 + 1)), (by first | rfl | (simp; done) | (simp [*]; done)), H', ⟨by have := HJ2.out; have := HJ7.out; have := HK3.out; omega⟩, ⟨by (with_reducible repeat (first | apply Kd.R_alloc | apply Kd.R_drewN | apply Kd.R_drew)); exact HO_7.out⟩, ⟨by repeat (first | (with_reducible first | exact HB.out | apply below_alloc | apply pw_below_drewN | apply below_drew1) | exact HB.out)⟩⟩
                                · rw [if_neg c27] at H
                                  have c27b0 : (t166 == (rd x7_7 x8_3)) = false := beq_eq_false_iff_ne.mpr c27
                                  have c27b1 : (t166 != (rd x7_7 x8_3)) = true := bne_iff_ne.mpr c27
                                  exact absurd ((Option.some.inj H).trans hlaw_.out) (by decide)
                            · rw [if_neg c25] at H
                              have c25b0 : (t168 == 0) = false := beq_eq_false_iff_ne.mpr c25
                              have c25b1 : (t168 != 0) = true := bne_iff_ne.mpr c25
                              exact absurd ((Option.some.inj H).trans hlaw_.out) (by decide)
                          · rw [if_neg c24] at H
                            have c24b0 : decide (x8_3 < 3) = false := decide_eq_false c24
                            clear c24
                            by_cases c29 : t168 = 0
                            · rw [if_pos c29] at H
                              have c29b0 : (t168 == 0) = true := beq_iff_eq.mpr c29
                              have c29b1 : (t168 != 0) = false := bne_eq_false_iff_eq.mpr c29
                              clear c29
                              by_cases c30 : (t167 == (t161 != 0)) = true
                              · rw [if_pos c30] at H
                                have c30b0 : (t167 == (t161 != 0)) = true := c30
                                (try (have c30b1 : decide (t167 = (t161 != 0)) = true := by simpa using c30))
                                (try (have c30b2 : (t167 == (t161 != 0)) = true := by simpa using c30))
                                clear c30
                                exact absurd ((Option.some.inj H).trans hlaw_.out) (by decide)
                              · rw [if_neg c30] at H
                                have c30b0 : (t167 == (t161 != 0)) = false := by simpa using c30
                                (try (have c30b1 : decide (t167 = (t161 != 0)) = false := by simpa using c30))
                                (try (have c30b2 : (t167 == (t161 != 0)) = false := by simpa using c30))
                                (try (have c30b3 : ¬ (t167 = (t161 != 0)) := by simpa using c30))
                                clear c30
                                by_cases c31 : t161 = 0
                                · rw [if_pos c31] at H
                                  have c31b0 : (t161 == 0) = true := beq_iff_eq.mpr c31
                                  have c31b1 : (t161 != 0) = false := bne_eq_false_iff_eq.mpr c31
                                  obtain rfl : t167 = true := by simpa [c31b1] using c30b0
                                  clear c31
                                  by_cases c32 : t166 = 0
                                  · rw [if_pos c32] at H
                                    have c32b0 : (t166 == 0) = true := beq_iff_eq.mpr c32
                                    have c32b1 : (t166 != 0) = false := bne_eq_false_iff_eq.mpr c32
                                    clear c32
                                    have H' := Aside0.mk H
                                    clear H
                                    go_wp2_with (first | ((with_reducible refine gate_callee (f := 19) rfl ?_); refine goesL_ (some 57) rfl rfl Try.func19 (by kernel_rfl) rfl #[.int .i64 x8_3, .int .i64 t160, .int .i64 t161] rfl (by (try simp only [List.map_toArray, List.map_cons, List.map_nil]); first | done | rfl | (simp only [List.length_drop, List.length_take]; rfl)) ?_; (with_reducible refine (impl_Checked.calls x8_3 t160 t161 t166 true t168 _ A19.out).mono ?_); rintro e w' ⟨rfl, ⟨nd, rfl⟩⟩; refine ⟨_, rfl, ?_⟩; obtain ⟨Ao33, co33, eo33⟩ := Kd.R_slice HO_7.out; subst eo33; have p169 : 0 ≤ (x8_3 : Int) := of_decide_eq_true (by first | (with_reducible assumption) | assumption); have q169 : x8_3 < (x7_7.length : Int) := of_decide_eq_true (by first | (with_reducible assumption) | assumption); obtain ⟨ad169, e169, hx169_0⟩ := Kd.at_int (Kd.R_reads' HO_7.out).2.2 x8_3 p169 q169; cases e169; replace p169 := eq_true p169; replace q169 := eq_true q169; have p170 : 0 ≤ (x8_3 : Int) := of_decide_eq_true (by first | (with_reducible assumption) | assumption); have q170 : x8_3 < (x7_7.length : Int) := of_decide_eq_true (by first | (with_reducible assumption) | assumption); obtain ⟨ad170, e170, hx170_0⟩ := Kd.at_int (Kd.R_reads' HO_7.out).2.2 x8_3 p170 q170; obtain rfl : ad169 = ad170 := (by injection e170); replace p170 := eq_true p170; replace q170 := eq_true q170))
                                    go_roundg k3
                                    case measure => have := HJ2.out; have := HJ7.out; have := HK3.out; omega
                                    case rel => exact ⟨(wrap64 (x8_3 + 1)), (by first | rfl | (simp; done) | (simp [*]; done)), H', ⟨by have := HJ2.out; have := HJ7.out; have := HK3.out; omega⟩, ⟨by (with_reducible repeat (first | apply Kd.R_alloc | apply Kd.R_drewN | apply Kd.R_drew)); exact HO_7.out⟩, ⟨by repeat (first | (with_reducible first | exact HB.out | apply below_alloc | apply pw_below_drewN | apply below_drew1) | exact HB.out)⟩⟩
                                  · rw [if_neg c32] at H
                                    have c32b0 : (t166 == 0) = false := beq_eq_false_iff_ne.mpr c32
                                    have c32b1 : (t166 != 0) = true := bne_iff_ne.mpr c32
                                    exact absurd ((Option.some.inj H).trans hlaw_.out) (by decide)
                                · rw [if_neg c31] at H
                                  have c31b0 : (t161 == 0) = false := beq_eq_false_iff_ne.mpr c31
                                  have c31b1 : (t161 != 0) = true := bne_iff_ne.mpr c31
                                  obtain rfl : t167 = false := by simpa [c31b1] using c30b0
                                  by_cases c34 : t166 = (rd x7_7 x8_3)
                                  · rw [if_pos c34] at H
                                    have c34b0 : (t166 == (rd x7_7 x8_3)) = true := beq_iff_eq.mpr c34
                                    have c34b1 : (t166 != (rd x7_7 x8_3)) = false := bne_eq_false_iff_eq.mpr c34
                                    clear c34
                                    have H' := Aside0.mk H
                                    clear H
                                    go_wp2_with (first | ((with_reducible refine gate_callee (f := 19) rfl ?_); refine goesL_ (some 57) rfl rfl Try.func19 (by kernel_rfl) rfl #[.int .i64 x8_3, .int .i64 t160, .int .i64 t161] rfl (by (try simp only [List.map_toArray, List.map_cons, List.map_nil]); first | done | rfl | (simp only [List.length_drop, List.length_take]; rfl)) ?_; (with_reducible refine (impl_Checked.calls x8_3 t160 t161 t166 false t168 _ A19.out).mono ?_); rintro e w' ⟨rfl, ⟨nd, rfl⟩⟩; refine ⟨_, rfl, ?_⟩; obtain ⟨Ao35, co35, eo35⟩ := Kd.R_slice HO_7.out; subst eo35; have p169 : 0 ≤ (x8_3 : Int) := of_decide_eq_true (by first | (with_reducible assumption) | assumption); have q169 : x8_3 < (x7_7.length : Int) := of_decide_eq_true (by first | (with_reducible assumption) | assumption); obtain ⟨ad169, e169, hx169_0⟩ := Kd.at_int (Kd.R_reads' HO_7.out).2.2 x8_3 p169 q169; cases e169; replace p169 := eq_true p169; replace q169 := eq_true q169; have p170 : 0 ≤ (x8_3 : Int) := of_decide_eq_true (by first | (with_reducible assumption) | assumption); have q170 : x8_3 < (x7_7.length : Int) := of_decide_eq_true (by first | (with_reducible assumption) | assumption); obtain ⟨ad170, e170, hx170_0⟩ := Kd.at_int (Kd.R_reads' HO_7.out).2.2 x8_3 p170 q170; obtain rfl : ad169 = ad170 := (by injection e170); replace p170 := eq_true p170; replace q170 := eq_true q170; have p172 : 0 ≤ (x8_3 : Int) := of_decide_eq_true (by first | (with_reducible assumption) | assumption); have q172 : x8_3 < (x7_7.length : Int) := of_decide_eq_true (by first | (with_reducible assumption) | assumption); obtain ⟨ad172, e172, hx172_0⟩ := Kd.at_int (Kd.R_reads' HO_7.out).2.2 x8_3 p172 q172; obtain rfl : ad169 = ad172 := (by injection e172); replace p172 := eq_true p172; replace q172 := eq_true q172))
                                    go_roundg k3
                                    case measure => have := HJ2.out; have := HJ7.out; have := HK3.out; omega
                                    case rel => exact ⟨(wrap64 (x8_3 + 1)), (by first | rfl | (simp; done) | (simp [*]; done)), H', ⟨by have := HJ2.out; have := HJ7.out; have := HK3.out; omega⟩, ⟨by (with_reducible repeat (first | apply Kd.R_alloc | apply Kd.R_drewN | apply Kd.R_drew)); exact HO_7.out⟩, ⟨by repeat (first | (with_reducible first | exact HB.out | apply below_alloc | apply pw_below_drewN | apply below_drew1) | exact HB.out)⟩⟩
                                  · rw [if_neg c34] at H
                                    have c34b0 : (t166 == (rd x7_7 x8_3)) = false := beq_eq_false_iff_ne.mpr c34
                                    have c34b1 : (t166 != (rd x7_7 x8_3)) = true := bne_iff_ne.mpr c34
                                    exact absurd ((Option.some.inj H).trans hlaw_.out) (by decide)
                            · rw [if_neg c29] at H
                              have c29b0 : (t168 == 0) = false := beq_eq_false_iff_ne.mpr c29
                              have c29b1 : (t168 != 0) = true := bne_iff_ne.mpr c29
                              exact absurd ((Option.some.inj H).trans hlaw_.out) (by decide)
                        · rw [if_neg c23] at H
                          have c23b0 : decide ((rd x7_7 x8_3) ≤ 2147483647) = false := decide_eq_false c23
                          clear c23
                          by_cases c36 : t168 = 0
                          · rw [if_pos c36] at H
                            have c36b0 : (t168 == 0) = true := beq_iff_eq.mpr c36
                            have c36b1 : (t168 != 0) = false := bne_eq_false_iff_eq.mpr c36
                            clear c36
                            by_cases c37 : (t167 == false) = true
                            · rw [if_pos c37] at H
                              have c37b0 : (t167 == false) = true := c37
                              (try (have c37b1 : decide (t167 = false) = true := by simpa using c37))
                              (try (have c37b2 : (t167 == false) = true := by simpa using c37))
                              clear c37
                              exact absurd ((Option.some.inj H).trans hlaw_.out) (by decide)
                            · rw [if_neg c37] at H
                              have c37b0 : (t167 == false) = false := by simpa using c37
                              (try (have c37b1 : decide (t167 = false) = false := by simpa using c37))
                              (try (have c37b2 : (t167 == false) = false := by simpa using c37))
                              (try (have c37b3 : ¬ (t167 = false) := by simpa using c37))
                              clear c37
                              by_cases c38 : t166 = 0
                              · rw [if_pos c38] at H
                                have c38b0 : (t166 == 0) = true := beq_iff_eq.mpr c38
                                have c38b1 : (t166 != 0) = false := bne_eq_false_iff_eq.mpr c38
                                clear c38
                                have H' := Aside0.mk H
                                clear H
                                go_wp2_with (first | ((with_reducible refine gate_callee (f := 19) rfl ?_); refine goesL_ (some 57) rfl rfl Try.func19 (by kernel_rfl) rfl #[.int .i64 x8_3, .int .i64 t160, .int .i64 t161] rfl (by (try simp only [List.map_toArray, List.map_cons, List.map_nil]); first | done | rfl | (simp only [List.length_drop, List.length_take]; rfl)) ?_; (with_reducible refine (impl_Checked.calls x8_3 t160 t161 t166 t167 t168 _ A19.out).mono ?_); rintro e w' ⟨rfl, ⟨nd, rfl⟩⟩; refine ⟨_, rfl, ?_⟩; obtain ⟨Ao39, co39, eo39⟩ := Kd.R_slice HO_7.out; subst eo39; have p169 : 0 ≤ (x8_3 : Int) := of_decide_eq_true (by first | (with_reducible assumption) | assumption); have q169 : x8_3 < (x7_7.length : Int) := of_decide_eq_true (by first | (with_reducible assumption) | assumption); obtain ⟨ad169, e169, hx169_0⟩ := Kd.at_int (Kd.R_reads' HO_7.out).2.2 x8_3 p169 q169; cases e169; replace p169 := eq_true p169; replace q169 := eq_true q169; have p170 : 0 ≤ (x8_3 : Int) := of_decide_eq_true (by first | (with_reducible assumption) | assumption); have q170 : x8_3 < (x7_7.length : Int) := of_decide_eq_true (by first | (with_reducible assumption) | assumption); obtain ⟨ad170, e170, hx170_0⟩ := Kd.at_int (Kd.R_reads' HO_7.out).2.2 x8_3 p170 q170; obtain rfl : ad169 = ad170 := (by injection e170); replace p170 := eq_true p170; replace q170 := eq_true q170))
                                go_roundg k3
                                case measure => have := HJ2.out; have := HJ7.out; have := HK3.out; omega
                                case rel => exact ⟨(wrap64 (x8_3 + 1)), (by first | rfl | (simp; done) | (simp [*]; done)), H', ⟨by have := HJ2.out; have := HJ7.out; have := HK3.out; omega⟩, ⟨by (with_reducible repeat (first | apply Kd.R_alloc | apply Kd.R_drewN | apply Kd.R_drew)); exact HO_7.out⟩, ⟨by repeat (first | (with_reducible first | exact HB.out | apply below_alloc | apply pw_below_drewN | apply below_drew1) | exact HB.out)⟩⟩
                              · rw [if_neg c38] at H
                                have c38b0 : (t166 == 0) = false := beq_eq_false_iff_ne.mpr c38
                                have c38b1 : (t166 != 0) = true := bne_iff_ne.mpr c38
                                exact absurd ((Option.some.inj H).trans hlaw_.out) (by decide)
                          · rw [if_neg c36] at H
                            have c36b0 : (t168 == 0) = false := beq_eq_false_iff_ne.mpr c36
                            have c36b1 : (t168 != 0) = true := bne_iff_ne.mpr c36
                            exact absurd ((Option.some.inj H).trans hlaw_.out) (by decide)
                      · rw [if_neg c22] at H
                        have c22b0 : decide ((-2147483648) ≤ (rd x7_7 x8_3)) = false := decide_eq_false c22
                        clear c22
                        by_cases c40 : t168 = 0
                        · rw [if_pos c40] at H
                          have c40b0 : (t168 == 0) = true := beq_iff_eq.mpr c40
                          have c40b1 : (t168 != 0) = false := bne_eq_false_iff_eq.mpr c40
                          clear c40
                          by_cases c41 : (t167 == false) = true
                          · rw [if_pos c41] at H
                            have c41b0 : (t167 == false) = true := c41
                            (try (have c41b1 : decide (t167 = false) = true := by simpa using c41))
                            (try (have c41b2 : (t167 == false) = true := by simpa using c41))
                            clear c41
                            exact absurd ((Option.some.inj H).trans hlaw_.out) (by decide)
                          · rw [if_neg c41] at H
                            have c41b0 : (t167 == false) = false := by simpa using c41
                            (try (have c41b1 : decide (t167 = false) = false := by simpa using c41))
                            (try (have c41b2 : (t167 == false) = false := by simpa using c41))
                            (try (have c41b3 : ¬ (t167 = false) := by simpa using c41))
                            clear c41
                            by_cases c42 : t166 = 0
                            · rw [if_pos c42] at H
                              have c42b0 : (t166 == 0) = true := beq_iff_eq.mpr c42
                              have c42b1 : (t166 != 0) = false := bne_eq_false_iff_eq.mpr c42
                              clear c42
                              have H' := Aside0.mk H
                              clear H
                              go_wp2_with (first | ((with_reducible refine gate_callee (f := 19) rfl ?_); refine goesL_ (some 57) rfl rfl Try.func19 (by kernel_rfl) rfl #[.int .i64 x8_3, .int .i64 t160, .int .i64 t161] rfl (by (try simp only [List.map_toArray, List.map_cons, List.map_nil]); first | done | rfl | (simp only [List.length_drop, List.length_take]; rfl)) ?_; (with_reducible refine (impl_Checked.calls x8_3 t160 t161 t166 t167 t168 _ A19.out).mono ?_); rintro e w' ⟨rfl, ⟨nd, rfl⟩⟩; refine ⟨_, rfl, ?_⟩; obtain ⟨Ao43, co43, eo43⟩ := Kd.R_slice HO_7.out; subst eo43; have p169 : 0 ≤ (x8_3 : Int) := of_decide_eq_true (by first | (with_reducible assumption) | assumption); have q169 : x8_3 < (x7_7.length : Int) := of_decide_eq_true (by first | (with_reducible assumption) | assumption); obtain ⟨ad169, e169, hx169_0⟩ := Kd.at_int (Kd.R_reads' HO_7.out).2.2 x8_3 p169 q169; cases e169; replace p169 := eq_true p169; replace q169 := eq_true q169))
                              go_roundg k3
                              case measure => have := HJ2.out; have := HJ7.out; have := HK3.out; omega
                              case rel => exact ⟨(wrap64 (x8_3 + 1)), (by first | rfl | (simp; done) | (simp [*]; done)), H', ⟨by have := HJ2.out; have := HJ7.out; have := HK3.out; omega⟩, ⟨by (with_reducible repeat (first | apply Kd.R_alloc | apply Kd.R_drewN | apply Kd.R_drew)); exact HO_7.out⟩, ⟨by repeat (first | (with_reducible first | exact HB.out | apply below_alloc | apply pw_below_drewN | apply below_drew1) | exact HB.out)⟩⟩
                            · rw [if_neg c42] at H
                              have c42b0 : (t166 == 0) = false := beq_eq_false_iff_ne.mpr c42
                              have c42b1 : (t166 != 0) = true := bne_iff_ne.mpr c42
                              exact absurd ((Option.some.inj H).trans hlaw_.out) (by decide)
                        · rw [if_neg c40] at H
                          have c40b0 : (t168 == 0) = false := beq_eq_false_iff_ne.mpr c40
                          have c40b1 : (t168 != 0) = true := bne_iff_ne.mpr c40
                          exact absurd ((Option.some.inj H).trans hlaw_.out) (by decide)
                    · rw [if_neg c21] at H
                      exact absurd H (by simp)
                  · rw [if_neg c20] at H
                    exact absurd H (by simp)
                · rw [if_neg c18] at H
                  have c18b0 : decide (x8_3 < 4) = false := decide_eq_false c18
                  clear c18
                  replace H := Option.bind_eq_some_iff.mp H
                  obtain ⟨⟨t173, t174, t175⟩, A440, H⟩ := H
                  replace H : ((impl_Checked.f 4 t160 t161).bind fun bt176 => (if bt176.2.2 = 4 then (if t174 = true then (some true) else (if (wrap64 (t160 - (wrap64 (t173 * t161)))) = 0 then (some true) else (some ((decide ((wrap64 (t160 - (wrap64 (t173 * t161)))) < 0)) == (decide (t160 < 0)))))) else (some false))) = some r := H
                  have A44 := Aside0.mk A440
                  clear A440
                  replace H := Option.bind_eq_some_iff.mp H
                  obtain ⟨⟨t176, t177, t178⟩, A450, H⟩ := H
                  replace H : (if t178 = 4 then (if t174 = true then (some true) else (if (wrap64 (t160 - (wrap64 (t173 * t161)))) = 0 then (some true) else (some ((decide ((wrap64 (t160 - (wrap64 (t173 * t161)))) < 0)) == (decide (t160 < 0)))))) else (some false)) = some r := H
                  have A45 := Aside0.mk A450
                  clear A450
                  by_cases c46 : t178 = 4
                  · rw [if_pos c46] at H
                    have c46b0 : (t178 == 4) = true := beq_iff_eq.mpr c46
                    have c46b1 : (t178 != 4) = false := bne_eq_false_iff_eq.mpr c46
                    clear c46
                    by_cases c47 : t174 = true
                    · subst c47
                      have H1 : (some true) = some r := by rw [if_pos rfl] at H; exact H
                      clear H
                      have H := H1
                      clear H1
                      obtain rfl := Option.some.inj H
                      go_wp2_with (first | ((with_reducible refine gate_callee (f := 19) rfl ?_); refine goesL_ (some 110) rfl rfl Try.func19 (by kernel_rfl) rfl #[.int .i64 3, .int .i64 t160, .int .i64 t161] rfl (by (try simp only [List.map_toArray, List.map_cons, List.map_nil]); first | done | rfl | (simp only [List.length_drop, List.length_take]; rfl)) ?_; (with_reducible refine (impl_Checked.calls 3 t160 t161 t173 true t175 _ A44.out).mono ?_); rintro e w' ⟨rfl, ⟨nd, rfl⟩⟩; refine ⟨_, rfl, ?_⟩) | ((with_reducible refine gate_callee (f := 19) rfl ?_); refine goesL_ (some 122) rfl rfl Try.func19 (by kernel_rfl) rfl #[.int .i64 4, .int .i64 t160, .int .i64 t161] rfl (by (try simp only [List.map_toArray, List.map_cons, List.map_nil]); first | done | rfl | (simp only [List.length_drop, List.length_take]; rfl)) ?_; (with_reducible refine (impl_Checked.calls 4 t160 t161 t176 t177 t178 _ A45.out).mono ?_); rintro e w' ⟨rfl, ⟨nd, rfl⟩⟩; refine ⟨_, rfl, ?_⟩))
                      go_ret
                      exact ⟨by first | rfl | (simp [errW_none, errW_some] <;> rfl) | (simp [*, errW_none, errW_some] <;> rfl), by repeat (first | (with_reducible first | exact HB.out | apply below_alloc | apply pw_below_drewN | apply below_drew1) | exact HB.out)⟩
                    · replace c47 := Bool.eq_false_iff.mpr c47
                      subst c47
                      have H1 : (if (wrap64 (t160 - (wrap64 (t173 * t161)))) = 0 then (some true) else (some ((decide ((wrap64 (t160 - (wrap64 (t173 * t161)))) < 0)) == (decide (t160 < 0))))) = some r := by rw [if_neg (show ¬ (false = true) by decide)] at H; exact H
                      clear H
                      have H := H1
                      clear H1
                      by_cases c48 : (wrap64 (t160 - (wrap64 (t173 * t161)))) = 0
                      · rw [if_pos c48] at H
                        have c48b0 : ((wrap64 (t160 - (wrap64 (t173 * t161)))) == 0) = true := beq_iff_eq.mpr c48
                        have c48b1 : ((wrap64 (t160 - (wrap64 (t173 * t161)))) != 0) = false := bne_eq_false_iff_eq.mpr c48
                        clear c48
                        obtain rfl := Option.some.inj H
                        go_wp2_with (first | ((with_reducible refine gate_callee (f := 19) rfl ?_); refine goesL_ (some 110) rfl rfl Try.func19 (by kernel_rfl) rfl #[.int .i64 3, .int .i64 t160, .int .i64 t161] rfl (by (try simp only [List.map_toArray, List.map_cons, List.map_nil]); first | done | rfl | (simp only [List.length_drop, List.length_take]; rfl)) ?_; (with_reducible refine (impl_Checked.calls 3 t160 t161 t173 false t175 _ A44.out).mono ?_); rintro e w' ⟨rfl, ⟨nd, rfl⟩⟩; refine ⟨_, rfl, ?_⟩) | ((with_reducible refine gate_callee (f := 19) rfl ?_); refine goesL_ (some 122) rfl rfl Try.func19 (by kernel_rfl) rfl #[.int .i64 4, .int .i64 t160, .int .i64 t161] rfl (by (try simp only [List.map_toArray, List.map_cons, List.map_nil]); first | done | rfl | (simp only [List.length_drop, List.length_take]; rfl)) ?_; (with_reducible refine (impl_Checked.calls 4 t160 t161 t176 t177 t178 _ A45.out).mono ?_); rintro e w' ⟨rfl, ⟨nd, rfl⟩⟩; refine ⟨_, rfl, ?_⟩))
                        go_ret
                        exact ⟨by first | rfl | (simp [errW_none, errW_some] <;> rfl) | (simp [*, errW_none, errW_some] <;> rfl), by repeat (first | (with_reducible first | exact HB.out | apply below_alloc | apply pw_below_drewN | apply below_drew1) | exact HB.out)⟩
                      · rw [if_neg c48] at H
                        have c48b0 : ((wrap64 (t160 - (wrap64 (t173 * t161)))) == 0) = false := beq_eq_false_iff_ne.mpr c48
                        have c48b1 : ((wrap64 (t160 - (wrap64 (t173 * t161)))) != 0) = true := bne_iff_ne.mpr c48
                        obtain rfl := Option.some.inj H
                        go_wp2_with (first | ((with_reducible refine gate_callee (f := 19) rfl ?_); refine goesL_ (some 110) rfl rfl Try.func19 (by kernel_rfl) rfl #[.int .i64 3, .int .i64 t160, .int .i64 t161] rfl (by (try simp only [List.map_toArray, List.map_cons, List.map_nil]); first | done | rfl | (simp only [List.length_drop, List.length_take]; rfl)) ?_; (with_reducible refine (impl_Checked.calls 3 t160 t161 t173 false t175 _ A44.out).mono ?_); rintro e w' ⟨rfl, ⟨nd, rfl⟩⟩; refine ⟨_, rfl, ?_⟩) | ((with_reducible refine gate_callee (f := 19) rfl ?_); refine goesL_ (some 122) rfl rfl Try.func19 (by kernel_rfl) rfl #[.int .i64 4, .int .i64 t160, .int .i64 t161] rfl (by (try simp only [List.map_toArray, List.map_cons, List.map_nil]); first | done | rfl | (simp only [List.length_drop, List.length_take]; rfl)) ?_; (with_reducible refine (impl_Checked.calls 4 t160 t161 t176 t177 t178 _ A45.out).mono ?_); rintro e w' ⟨rfl, ⟨nd, rfl⟩⟩; refine ⟨_, rfl, ?_⟩))
                        go_ret
                        exact ⟨by first | rfl | (simp [errW_none, errW_some] <;> rfl) | (simp [*, errW_none, errW_some] <;> rfl), by repeat (first | (with_reducible first | exact HB.out | apply below_alloc | apply pw_below_drewN | apply below_drew1) | exact HB.out)⟩
                  · rw [if_neg c46] at H
                    have c46b0 : (t178 == 4) = false := beq_eq_false_iff_ne.mpr c46
                    have c46b1 : (t178 != 4) = true := bne_iff_ne.mpr c46
                    exact absurd ((Option.some.inj H).trans hlaw_.out) (by decide)

/-- THE ONE PURE STATEMENT of laws_FnChecked: yours. -/
def laws_FnChecked.Pure : Prop := ∀ (l0 : List Int) (l1 : List Int), l0.length ≤ maxLen → l0.length * 1 ≤ 140737488351232 → (∀ x ∈ l0, (Lit.int .u8 x).wf = true) → l1.length ≤ maxLen → l1.length * 1 ≤ 140737488351232 → (∀ x ∈ l1, (Lit.int .u8 x).wf = true) → ∃ k, laws_FnChecked.f k l0 l1 = some true
theorem laws_FnChecked.walk (P : laws_FnChecked.Pure) (a0 : Option Addr) (len0 cap0 : Nat) (z0 : List Int) (a1 : Option Addr) (len1 cap1 : Nat) (z1 : List Int) (w : World) (w0 : (a0 = none ∧ len0 = 0 ∧ cap0 = 0 ∧ z0 = []) ∨ ∃ x, a0 = some x ∧ len0 ≤ cap0 ∧ cap0 ≤ maxLen ∧ z0.length = cap0 ∧ (∀ i, i < z0.length → w.cell? (x.add i) = some (.int .u8 (z0.getD i 0))) ∧ ∀ n ∈ z0, (Lit.int .u8 n).wf = true) (y0 : len0 * 1 ≤ 140737488351232) (w1 : (a1 = none ∧ len1 = 0 ∧ cap1 = 0 ∧ z1 = []) ∨ ∃ x, a1 = some x ∧ len1 ≤ cap1 ∧ cap1 ≤ maxLen ∧ z1.length = cap1 ∧ (∀ i, i < z1.length → w.cell? (x.add i) = some (.int .u8 (z1.getD i 0))) ∧ ∀ n ∈ z1, (Lit.int .u8 n).wf = true) (y1 : len1 * 1 ≤ 140737488351232) :
    Calls Try.prog 6 #[.slice a0 len0 cap0, .slice a1 len1 cap1] w fun e w' => e = .returned (.bool true) ∧ Below w.heap.size w w' := by
  obtain ⟨l0, rfl, hr0, hm0, hw0, hc0⟩ := ReadsInt.ofRowC w0
  obtain ⟨l1, rfl, hr1, hm1, hw1, hc1⟩ := ReadsInt.ofRowC w1
  obtain ⟨k, h⟩ := P l0 l1 hm0 y0 hw0 hm1 y1 hw1
  refine (laws_FnChecked.calls k _ _ l0 _ _ l1 true w (Kd.C_of_reads (d := (0 : Int)) (h1 := fun _ => rfl) hr0) hc0 (Kd.C_of_reads (d := (0 : Int)) (h1 := fun _ => rfl) hr1) hc1 h rfl).mono ?_
  rintro e w' ⟨rfl, hd⟩
  exact ⟨rfl, hd⟩

end Go.Proofs.Ytohnenadkilaiaa.MFnChecked

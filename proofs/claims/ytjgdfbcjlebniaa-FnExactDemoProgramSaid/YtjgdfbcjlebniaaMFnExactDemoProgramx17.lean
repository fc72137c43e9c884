import Derived.Test.YtjgdfbcjlebniaaMFnExactDemoProgramx16
-- Text written by a program of this session (wip/tools: the kit's printer with additions of ours).
namespace Go.Proofs.Ytjgdfbcjlebniaa.MFnExactDemoProgram
open Go.RowKit Go.Proofs.YtjgdfbcjlebniaaW.PrintWords Go.Proofs.YtjgdfbcjlebniaaW.PrintLast Go.Proofs.YtjgdfbcjlebniaaW.PrintMore
attribute [local go_sem] max2_int min2_int max_two min_two max_three min_three max_four min_four   -- for this text's walks alone
set_option linter.unusedVariables false
set_option linter.unusedSimpArgs false

set_option maxHeartbeats 8000000 in
set_option maxRecDepth 100000 in
theorem laws_FnExactDemoProgram.walk (w : World) : Calls Try.prog 6 #[] w fun e w' => e = .returned (.bool true) ∧ Below w.heap.size w w' := by
  have hu46 := Try.underlying46
  go_enter Try.func6, Try.ntmps6
  go_wp2_with (first
    | (go_at_call 29; refine (heldD.calls g1 g5 g6 g7 _ (HM.out.below HZ.out.1)).mono ?_; rintro e w14 ⟨rfl, hb⟩; have n_ := Aside0.mk (HZ.out.below hb); clear HZ hb; have HZ := n_; clear n_)
    | ((with_reducible refine gate_dst (N := 28) rfl ?_); refine ldE (N := 28) rfl 0 (HY.out.below HZ.out.1) rfl rfl rfl rfl Try.underlying46 rfl (by kernel_rfl) ?_)
    | (go_at_call 27; refine (eqD.calls k1 k5 k6 k7 B0 B1 B2 B3 c0 c1 c2 c3 HC.out _ (rowsD_reads HZ.out) (HR.out.below (HX.out.below (HY.out.below HZ.out.1).1).1)).mono ?_; rintro e w13 ⟨rfl, hb⟩; have n_ := Aside0.mk (HZ.out.below hb); clear HZ hb; have HZ := n_; clear n_)
    | ((with_reducible refine gate_dst (N := 25) rfl ?_); refine ldE (N := 25) rfl 0 (HX.out.below (HY.out.below HZ.out.1).1) rfl rfl rfl rfl Try.underlying46 rfl (by kernel_rfl) ?_)
    | ((with_reducible refine gate_dst (N := 24) rfl ?_); refine ldE (N := 24) rfl 0 HZ.out rfl rfl rfl rfl Try.underlying46 rfl (by kernel_rfl) ?_)
    | ((with_reducible refine gate_store (t := 46) (p := 5) rfl ?_); refine stE (cs' := csP k1 k5 k6 k7) (u := .agg (csP k1 k5 k6 k7)) (seg := (csP k1 k5 k6 k7).toList) 0 0 HZ.out rfl rfl rfl rfl rfl rfl rfl (by kernel_rfl) (by intro q hq; simp only [csP, List.mem_cons, List.not_mem_nil, or_false] at hq; rcases hq with rfl | rfl | rfl | rfl <;> rfl) (Nat.le_refl 4) rfl ?_; intro w12 h1; have n_ : Aside0 (Bx w9 w12 ([(b5, csP k1 k5 k6 k7, 46)] ++ DemoL k1 k2 k3 k4 k5 k6 k7)) := ⟨h1⟩; clear HZ h1; have HZ := n_; clear n_)
    | ((with_reducible refine gate_dst (N := 5) rfl ?_); refine bxV (N := 5) (cs := #[.slice none 0 0, .slice none 0 0, .slice none 0 0, .slice none 0 0]) (t := 46) (fun g => .pointer (some ⟨g, 0, none⟩)) rfl rfl HZ.out ?h5 ?_; (case h5 => first | (go_simp; done) | (go_simp; rfl)); clear HZ; intro b5 w11 HZ)
    | (go_at_call 26; refine (impl_Demo.blocks _).mono ?_; rintro e w10 ⟨k1, k2, k3, k4, k5, k6, k7, rfl, hB⟩; have hm_ := HM.out; clear hm_; have HZ := Aside0.mk hB; clear hB)
    | (go_at_call 29; refine (heldD.calls g1 g5 g6 g7 _ HM.out).mono ?_; rintro e w9 ⟨rfl, hb⟩; have n_ := Aside0.mk (HY.out.below hb); have n2_ := Aside0.mk (HM.out.below hb); clear HY HM hb; have HY := n_; have HM := n2_; clear n_ n2_)
    | ((with_reducible refine gate_dst (N := 15) rfl ?_); refine ldE (N := 15) rfl 0 HY.out rfl rfl rfl rfl Try.underlying46 rfl (by kernel_rfl) ?_)
    | (go_at_call 28; refine (markD.calls b2 g1 g2 g3 g4 g5 g6 g7 (csP g1 g5 g6 g7) w3 _ HY.out).mono ?_; rintro e w8 ⟨rfl, hrd, hge, hbk, hb⟩; have HM := Aside0.mk hrd; have n_ : Aside0 (Bx w3 w8 [(b2, csP g1 g5 g6 g7, 46)]) := ⟨hb, fun p hp => (by rw [List.mem_singleton.1 hp]; exact ⟨hge, hbk⟩), List.pairwise_singleton _ _⟩; clear HY hrd hge hbk hb; have HY := n_; clear n_)
    | ((with_reducible refine gate_dst (N := 12) rfl ?_); refine ldE (N := 12) rfl 0 HY.out rfl rfl rfl rfl Try.underlying46 rfl (by kernel_rfl) ?_)
    | (go_at_call 27; refine (eqD.calls g1 g5 g6 g7 B0 B1 B2 B3 c0 c1 c2 c3 HC.out _ (rowsD_reads HY.out) (HR.out.below (HX.out.below HY.out.1).1)).mono ?_; rintro e w7 ⟨rfl, hb⟩; have n_ := Aside0.mk (HY.out.below hb); clear HY hb; have HY := n_; clear n_)
    | ((with_reducible refine gate_dst (N := 9) rfl ?_); refine ldE (N := 9) rfl 0 (HX.out.below HY.out.1) rfl rfl rfl rfl Try.underlying46 rfl (by kernel_rfl) ?_)
    | ((with_reducible refine gate_dst (N := 8) rfl ?_); refine ldE (N := 8) rfl 0 HY.out rfl rfl rfl rfl Try.underlying46 rfl (by kernel_rfl) ?_)
    | ((with_reducible refine gate_store (t := 46) (p := 2) rfl ?_); refine stE (cs' := csP g1 g5 g6 g7) (u := .agg (csP g1 g5 g6 g7)) (seg := (csP g1 g5 g6 g7).toList) 0 0 HY.out rfl rfl rfl rfl rfl rfl rfl (by kernel_rfl) (by intro q hq; simp only [csP, List.mem_cons, List.not_mem_nil, or_false] at hq; rcases hq with rfl | rfl | rfl | rfl <;> rfl) (Nat.le_refl 4) rfl ?_; intro w6 h1; have n_ : Aside0 (Bx w3 w6 ([(b2, csP g1 g5 g6 g7, 46)] ++ DemoL g1 g2 g3 g4 g5 g6 g7)) := ⟨h1⟩; clear HY h1; have HY := n_; clear n_)
    | ((with_reducible refine gate_dst (N := 2) rfl ?_); refine bxV (N := 2) (cs := #[.slice none 0 0, .slice none 0 0, .slice none 0 0, .slice none 0 0]) (t := 46) (fun g => .pointer (some ⟨g, 0, none⟩)) rfl rfl HY.out ?h2 ?_; (case h2 => first | (go_simp; done) | (go_simp; rfl)); clear HY; intro b2 w5 HY)
    | (go_at_call 26; refine (impl_Demo.blocks _).mono ?_; rintro e w4 ⟨g1, g2, g3, g4, g5, g6, g7, rfl, hB⟩; have HY := Aside0.mk hB; clear hB)
    | ((with_reducible refine gate_store (t := 46) (p := 1) rfl ?_); refine stE (cs' := csS B0 B1 B2 B3 c0 c1 c2 c3) (u := .agg (csS B0 B1 B2 B3 c0 c1 c2 c3)) (seg := (csS B0 B1 B2 B3 c0 c1 c2 c3).toList) 0 0 HX.out rfl rfl rfl rfl rfl rfl rfl (by kernel_rfl) (by intro q hq; simp only [csS, List.mem_cons, List.not_mem_nil, or_false] at hq; rcases hq with rfl | rfl | rfl | rfl <;> rfl) (Nat.le_refl 4) rfl ?_; intro w3 h1; have n_ : Aside0 (Bx w1 w3 [(b1, csS B0 B1 B2 B3 c0 c1 c2 c3, 46)]) := ⟨h1⟩; clear HX h1; have HX := n_; clear n_)
    | ((with_reducible refine gate_dst (N := 1) rfl ?_); refine bxV (N := 1) (cs := #[.slice none 0 0, .slice none 0 0, .slice none 0 0, .slice none 0 0]) (t := 46) (fun g => .pointer (some ⟨g, 0, none⟩)) rfl rfl HX.out ?h1 ?_; (case h1 => first | (go_simp; done) | (go_simp; rfl)); clear HX; intro b1 w2 HX)
    | (go_at_call 25; refine (specD.calls _).mono ?_; rintro e w1 ⟨B0, B1, B2, B3, c0, c1, c2, c3, rfl, hc, hrd, hb⟩; have HC := Aside0.mk hc; have HR := Aside0.mk hrd; have HB : Aside0 (Below w.heap.size w w1) := ⟨below_step (by repeat (first | exact Below.refl _ _ | apply below_alloc | apply pw_below_drewN | apply below_drew1)) hb⟩; have HX := Aside0.mk (Bx.nil w1); clear hc hrd hb))
  go_ret
  exact ⟨rfl, below_step HB.out (HX.out.below (HY.out.below HZ.out.1).1).1⟩
end Go.Proofs.Ytjgdfbcjlebniaa.MFnExactDemoProgram

import Derived.Test.YtjgdfbcjlebniaaMFnExactDemoProgramx7
import Derived.Test.YtjgdfbcjlebniaaMFnExactDemoProgramx9
-- Text written by a program of this session (wip/tools: the kit's printer with additions of ours).
namespace Go.Proofs.Ytjgdfbcjlebniaa.MFnExactDemoProgram
open Go.RowKit Go.Proofs.YtjgdfbcjlebniaaW.PrintWords Go.Proofs.YtjgdfbcjlebniaaW.PrintLast Go.Proofs.YtjgdfbcjlebniaaW.PrintMore
attribute [local go_sem] max2_int min2_int max_two min_two max_three min_three max_four min_four   -- for this text's walks alone
set_option linter.unusedVariables false
set_option linter.unusedSimpArgs false

/-! ### laws_heldProgram: function 29 -/
def markRS.g (k : Nat) : List (S93) → Int → Option (Int × List (S93))
  | [], a => some (a, [])
  | x :: xs, a => (laws_markInstrS.f k x.f0 a).bind fun p => (markRS.g k xs p.1).bind fun q => some (q.1, ⟨p.2⟩ :: q.2)
theorem markRS_step (d l0 : List (S93)) (i : Nat) (hd : d.length = i) (h : i < l0.length) (y : S93) : (d ++ l0.drop i).set i y = (d ++ [y]) ++ l0.drop (i + 1) := by
  rw [List.set_append_right _ _ (by omega), hd, Nat.sub_self, List.drop_eq_getElem_cons h, List.set_cons_zero, List.append_assoc]
  rfl
set_option maxHeartbeats 8000000 in
set_option maxRecDepth 100000 in
theorem markRS.calls (k : Nat) (P0_ : Nat → Prop) (u9000_ : Value) (l0 : List (S93)) (a1 : Int) (r1 : Int) (r2 : List (S93)) (w0 w : World) (hB : Below w0.heap.size w0 w) (ho0 : Kd.S k93 93 w w0.heap.size P0_ u9000_ l0) (h : markRS.g k l0 a1 = some (r1, r2)) :
    Calls Try.prog 74 #[u9000_, .int .i64 a1] w fun e w' => e = .returned (.int .i64 r1) ∧ Kd.S k93 93 w' w0.heap.size P0_ u9000_ r2 ∧ Below w0.heap.size w0 w' ∧ Kept w w' P0_ := by
  obtain ⟨A_, c_, e_⟩ := Kd.S_slice ho0
  subst e_
  have hlen : l0.length ≤ 9223372036854775807 := by
    obtain ⟨inner, hi⟩ := Kd.S_own ho0
    rcases hi.2 with ⟨_, h0⟩ | ⟨g', cap', cur', he, _, _, h1, h2, h3, _⟩
    · omega
    · simp only [maxLen] at h2; omega
  have HS := Aside0.mk ho0
  have HB := Aside0.mk hB
  have HK := Aside0.mk (Kept.refl w P0_)
  have HH := Aside0.mk h
  clear hB ho0 h
  go_enter Try.func74, Try.ntmps74
  go_wp2
  go_loopg [1, 5] (l0.length) (fun kq v1 v5 w' => ∃ (i : Nat) (d r : List (S93)) (T : Int), v1 = .int .i64 T ∧ v5 = .int .i64 (i : Int) ∧ Aside0 (kq + i = l0.length) ∧ Aside0 (d.length = i) ∧ Aside0 (markRS.g k (l0.drop i) T = some (r1, r)) ∧ Aside0 (r2 = d ++ r) ∧ Aside0 (Kd.S k93 93 w' w0.heap.size P0_ (.slice A_ l0.length c_) (d ++ l0.drop i)) ∧ Aside0 (Kept w w' P0_) ∧ Aside0 (Below w0.heap.size w0 w'))
  case atStart => exact ⟨0, [], r2, a1, by first | rfl | (simp; done) | (simp [*]; done), rfl, ⟨by omega⟩, ⟨rfl⟩, ⟨HH.out⟩, ⟨rfl⟩, ⟨by (with_reducible repeat (first | apply Kd.S_alloc | apply Kd.S_drewN | apply Kd.S_drew)); exact HS.out⟩, ⟨by repeat (first | (with_reducible first | exact HK.out | apply Kept.alloc | apply Kept.drewN | apply Kept.drew) | exact HK.out)⟩, ⟨by repeat (first | (with_reducible first | exact HB.out | apply below_alloc | apply pw_below_drewN | apply below_drew1) | exact HB.out)⟩⟩
  case round =>
    clear HS HB HK HH
    obtain ⟨i, d, r, T, rfl, rfl, HG, HD, HH, HE, HS, HK, HB⟩ := hrel
    have hg0 := HG.out
    by_cases hlt : i < l0.length
    · cases gk with
      | zero => omega
      | succ k1 =>
        have hxl : (d ++ l0.drop i).length = l0.length := by rw [List.length_append, HD.out, List.length_drop]; omega
        have hix : i < (d ++ l0.drop i).length := by omega
        obtain ⟨g_, cap_, e_, _⟩ := Kd.S_form HS.out (Nat.lt_of_le_of_lt (Nat.zero_le _) hix)
        injection e_ with e1_ e2_ e3_
        subst e1_
        subst e3_
        clear e2_
        have hxi : (d ++ l0.drop i)[i]'hix = l0[i] := by
          rw [List.getElem_append_right (by rw [HD.out]; exact Nat.le_refl _)]
          simp [HD.out]
        have hh := HH.out
        rw [List.drop_eq_getElem_cons hlt] at hh
        simp only [markRS.g] at hh
        replace hh := Option.bind_eq_some_iff.mp hh
        obtain ⟨⟨p1, p2⟩, hf, hh⟩ := hh
        replace hh := Option.bind_eq_some_iff.mp hh
        obtain ⟨⟨q1, q2⟩, hf2, hh⟩ := hh
        simp only [Option.some.injEq, Prod.mk.injEq] at hh
        obtain ⟨rfl, rfl⟩ := hh
        obtain ⟨oki, v0, hcell, hR, hsub, hback⟩ := rout_lend HS.out i hix
        rw [hxi] at hR
        obtain ⟨A1, c1, e_⟩ := Kd.R_slice hR
        subst e_
        have HR := Aside0.mk hR
        have HF := Aside0.mk hf
        have HF2 := Aside0.mk hf2
        have HBK := Aside0.mk hback
        have HSB := Aside0.mk hsub
        have HQ := Aside0.mk (markRS_step d l0 i HD.out hlt ⟨p2⟩)
        have HE2 := Aside0.mk (show r2 = (d ++ [⟨p2⟩]) ++ q2 by rw [HE.out, List.append_assoc]; rfl)
        have HD2 := Aside0.mk (show (d ++ [(⟨p2⟩ : S93)]).length = i + 1 by rw [List.length_append, HD.out]; rfl)
        have c3b0 : decide ((i : Int) < (l0.length : Int)) = true := decide_eq_true (by omega)
        have c4b0 : decide ((0 : Int) ≤ (i : Int)) = true := decide_eq_true (by omega)
        have b1 : (i : Int) ≤ 9223372036854775806 := by omega
        have b2 : (0 : Int) ≤ (i : Int) := by omega
        have q5 : ((i : Int) < (l0.length : Int)) = True := eq_true (by omega)
        have HG1 := Aside0.mk (show k1 + (i + 1) = l0.length by omega)
        clear hR hf hf2 hback hsub hg0 hxi hxl hlen HH HE HD HG
        go_wp2_with (first | (go_at_call 112; (with_reducible refine (laws_markInstrS.calls k oki _ l0[i].f0 _ _ p2 w0 _ HB.out HR.out HF.out).mono ?_); rintro e w2 ⟨rfl, hr, hb, hkp⟩))
        go_roundg k1
        case measure => omega
        case rel => exact ⟨i + 1, d ++ [⟨p2⟩], q2, p1, rfl, by go_num, HG1, HD2, HF2, HE2, ⟨by rw [← HQ.out]; exact HBK.out _ _ _ hkp hr⟩, ⟨Kept.then_ HK.out hkp (fun k hk => .inl (HSB.out k hk))⟩, ⟨hb⟩⟩
    · have e_ : i = l0.length := by have := HG.out; omega
      subst e_
      have c3b0 : decide ((l0.length : Int) < (l0.length : Int)) = false := decide_eq_false (by omega)
      have hh := HH.out
      rw [List.drop_of_length_le (Nat.le_refl _)] at hh
      simp only [markRS.g] at hh
      simp only [Option.some.injEq, Prod.mk.injEq] at hh
      obtain ⟨rfl, rfl⟩ := hh
      have HS2 : Aside0 (Kd.S k93 93 wr w0.heap.size P0_ (.slice A_ l0.length c_) r2) := ⟨by have h_ := HS.out; rw [List.drop_of_length_le (Nat.le_refl _)] at h_; rw [HE.out]; exact h_⟩
      clear hlt hg0 HH HS HE HD
      go_wp2
      go_ret
      exact ⟨rfl, HS2.out, HB.out, HK.out⟩
set_option maxHeartbeats 8000000 in
set_option maxRecDepth 100000 in
theorem markP.calls (k : Nat) (P0 P1 P2 P3 : Nat → Prop) (A0 A1 A2 A3 : Option Addr) (c0 c1 c2 c3 : Nat) (l0 m0 : List Int) (l1 m1 : List (S93)) (l2 m2 : List (S95)) (l3 m3 : List Bool) (a1 t1 t2 t3 t4 : Int) (w0 w : World) (hB : Below w0.heap.size w0 w)
    (h0 : Kd.R (Kd.int .i64) 3 w w0.heap.size P0 (.slice A0 l0.length c0) l0) (h1 : Kd.S k93 93 w w0.heap.size P1 (.slice A1 l1.length c1) l1) (h2 : Kd.R k95 95 w w0.heap.size P2 (.slice A2 l2.length c2) l2) (h3 : Kd.R Kd.bool 4 w w0.heap.size P3 (.slice A3 l3.length c3) l3)
    (d01 : ∀ k, P0 k → ¬ P1 k) (d02 : ∀ k, P0 k → ¬ P2 k) (d03 : ∀ k, P0 k → ¬ P3 k) (d12 : ∀ k, P1 k → ¬ P2 k) (d13 : ∀ k, P1 k → ¬ P3 k) (d23 : ∀ k, P2 k → ¬ P3 k) (hlt : ∀ k, P0 k ∨ P1 k ∨ P2 k ∨ P3 k → k < w.heap.size)
    (f0 : laws_markIntS.f k l0 a1 = some (t1, m0)) (f1 : markRS.g k l1 t1 = some (t2, m1)) (f2 : laws_markTaskS.f k l2 t2 = some (t3, m2)) (f3 : laws_markBoolS.f k l3 t3 = some (t4, m3)) :
    Calls Try.prog 28 #[.agg #[.slice A0 l0.length c0, .slice A1 l1.length c1, .slice A2 l2.length c2, .slice A3 l3.length c3], .int .i64 a1] w fun e w' => e = .returned (.int .i64 t4) ∧ Kd.R (Kd.int .i64) 3 w' w0.heap.size P0 (.slice A0 l0.length c0) m0 ∧ Kd.S k93 93 w' w0.heap.size P1 (.slice A1 l1.length c1) m1 ∧ Kd.R k95 95 w' w0.heap.size P2 (.slice A2 l2.length c2) m2 ∧ Kd.R Kd.bool 4 w' w0.heap.size P3 (.slice A3 l3.length c3) m3 ∧ Below w0.heap.size w0 w' ∧ Kept w w' (fun k => P0 k ∨ P1 k ∨ P2 k ∨ P3 k) := by
  have hu46 := Try.underlying46
  have F0 := Aside0.mk f0
  have F1 := Aside0.mk f1
  have F2 := Aside0.mk f2
  have F3 := Aside0.mk f3
  have H0 := Aside0.mk h0
  have H1 := Aside0.mk h1
  have H2 := Aside0.mk h2
  have H3 := Aside0.mk h3
  have D01 := Aside0.mk d01
  have D02 := Aside0.mk d02
  have D03 := Aside0.mk d03
  have D12 := Aside0.mk d12
  have D13 := Aside0.mk d13
  have D23 := Aside0.mk d23
  have HL := Aside0.mk hlt
  have HB := Aside0.mk hB
  have HK := Aside0.mk (Kept.refl w (fun k => P0 k ∨ P1 k ∨ P2 k ∨ P3 k))
  clear f0 f1 f2 f3 h0 h1 h2 h3 d01 d02 d03 d12 d13 d23 hlt hB
  go_enter Try.func28, Try.ntmps28
  go_wp2_with (first
    | ((with_reducible refine gate_dst (N := 2) rfl ?_); refine box_event ?hg (N := 2) ?hd (cs := #[.slice A0 l0.length c0, .slice A1 l1.length c1, .slice A2 l2.length c2, .slice A3 l3.length c3]) (t := 46) ?hr ?_; (case hd => rfl); (case hg => rfl); (case hr => first | (go_simp; done) | (go_simp; rfl)); intro gb hgb w5 hbox hb; have n0_ := Aside0.mk (below_step HB.out hb); have n1_ := Aside0.mk (Kd.R_below H0.out hb); have n2_ := Aside0.mk (Kd.S_below H1.out hb); have n3_ := Aside0.mk (Kd.R_below H2.out hb); have n4_ := Aside0.mk (Kd.R_below H3.out hb); have n5_ := Aside0.mk (Kept.below HK.out hb); have NB := Aside0.mk (show ∀ k, P0 k ∨ P1 k ∨ P2 k ∨ P3 k → k ≠ gb from fun k hk e_ => by have := HL.out k hk; omega); have BK := Aside0.mk hbox; clear HB H0 H1 H2 H3 HK HL hb hbox hgb; have HB := n0_; have H0 := n1_; have H1 := n2_; have H2 := n3_; have H3 := n4_; have HK := n5_; clear n0_ n1_ n2_ n3_ n4_ n5_; have hcz0 : w5.cell? ⟨gb, 0, none⟩ = some (.slice A0 l0.length c0) := (blk_cell BK.out 0).trans rfl)
    | (go_at_call 20; (with_reducible refine (laws_markIntS.calls k P0 _ l0 a1 t1 m0 w0 _ HB.out H0.out F0.out).mono ?_); rintro e w6 ⟨rfl, hr, hb, hkp⟩; have n0_ := Aside0.mk (Kd.R_reok rfl hr (fun k_ e_ => H0.out.1 k_ e_)); have n1_ := Aside0.mk (Kd.S_mono (Kd.S_keptB H1.out hkp (fun k_ hk_ hs_ => D01.out k_ hs_ hk_)) (fun _ h_ => h_.1)); have n2_ := Aside0.mk (Kd.R_mono (Kd.R_keptB H2.out hkp (fun k_ hk_ hs_ => D02.out k_ hs_ hk_)) (fun _ h_ => h_.1)); have n3_ := Aside0.mk (Kd.R_mono (Kd.R_keptB H3.out hkp (fun k_ hk_ hs_ => D03.out k_ hs_ hk_)) (fun _ h_ => h_.1)); have n4_ := Aside0.mk (blk_kept BK.out hkp (fun hs_ => NB.out _ (.inl hs_) rfl)); have n5_ := Aside0.mk (Kept.then_ HK.out hkp (fun _ h_ => .inl (.inl h_))); clear H0 H1 H2 H3 BK HB HK hkp hr hcz0; have H0 := n0_; have H1 := n1_; have H2 := n2_; have H3 := n3_; have BK := n4_; have HK := n5_; have HB := Aside0.mk hb; clear n0_ n1_ n2_ n3_ n4_ n5_ hb; have hcz1 : w6.cell? ⟨gb, 1, none⟩ = some (.slice A1 l1.length c1) := (blk_cell BK.out 1).trans rfl)
    | (go_at_call 74; (with_reducible refine (markRS.calls k P1 _ l1 t1 t2 m1 w0 _ HB.out H1.out F1.out).mono ?_); rintro e w7 ⟨rfl, hr, hb, hkp⟩; have n0_ := Aside0.mk (Kd.R_mono (Kd.R_keptB H0.out hkp (fun k_ hk_ hs_ => D01.out k_ hk_ hs_)) (fun _ h_ => h_.1)); have n1_ := Aside0.mk hr; have n2_ := Aside0.mk (Kd.R_mono (Kd.R_keptB H2.out hkp (fun k_ hk_ hs_ => D12.out k_ hs_ hk_)) (fun _ h_ => h_.1)); have n3_ := Aside0.mk (Kd.R_mono (Kd.R_keptB H3.out hkp (fun k_ hk_ hs_ => D13.out k_ hs_ hk_)) (fun _ h_ => h_.1)); have n4_ := Aside0.mk (blk_kept BK.out hkp (fun hs_ => NB.out _ (.inr (.inl hs_)) rfl)); have n5_ := Aside0.mk (Kept.then_ HK.out hkp (fun _ h_ => .inl (.inr (.inl h_)))); clear H0 H1 H2 H3 BK HB HK hkp hr hcz1; have H0 := n0_; have H1 := n1_; have H2 := n2_; have H3 := n3_; have BK := n4_; have HK := n5_; have HB := Aside0.mk hb; clear n0_ n1_ n2_ n3_ n4_ n5_ hb; have hcz2 : w7.cell? ⟨gb, 2, none⟩ = some (.slice A2 l2.length c2) := (blk_cell BK.out 2).trans rfl)
    | (go_at_call 75; (with_reducible refine (laws_markTaskS.calls k P2 _ l2 t2 t3 m2 w0 _ HB.out H2.out F2.out).mono ?_); rintro e w8 ⟨rfl, hr, hb, hkp⟩; have n0_ := Aside0.mk (Kd.R_mono (Kd.R_keptB H0.out hkp (fun k_ hk_ hs_ => D02.out k_ hk_ hs_)) (fun _ h_ => h_.1)); have n1_ := Aside0.mk (Kd.S_mono (Kd.S_keptB H1.out hkp (fun k_ hk_ hs_ => D12.out k_ hk_ hs_)) (fun _ h_ => h_.1)); have n2_ := Aside0.mk (Kd.R_reok rfl hr (fun k_ e_ => H2.out.1 k_ e_)); have n3_ := Aside0.mk (Kd.R_mono (Kd.R_keptB H3.out hkp (fun k_ hk_ hs_ => D23.out k_ hs_ hk_)) (fun _ h_ => h_.1)); have n4_ := Aside0.mk (blk_kept BK.out hkp (fun hs_ => NB.out _ (.inr (.inr (.inl hs_))) rfl)); have n5_ := Aside0.mk (Kept.then_ HK.out hkp (fun _ h_ => .inl (.inr (.inr (.inl h_))))); clear H0 H1 H2 H3 BK HB HK hkp hr hcz2; have H0 := n0_; have H1 := n1_; have H2 := n2_; have H3 := n3_; have BK := n4_; have HK := n5_; have HB := Aside0.mk hb; clear n0_ n1_ n2_ n3_ n4_ n5_ hb; have hcz3 : w8.cell? ⟨gb, 3, none⟩ = some (.slice A3 l3.length c3) := (blk_cell BK.out 3).trans rfl)
    | (go_at_call 68; (with_reducible refine (laws_markBoolS.calls k P3 _ l3 t3 t4 m3 w0 _ HB.out H3.out F3.out).mono ?_); rintro e w9 ⟨rfl, hr, hb, hkp⟩; have n0_ := Aside0.mk (Kd.R_mono (Kd.R_keptB H0.out hkp (fun k_ hk_ hs_ => D03.out k_ hk_ hs_)) (fun _ h_ => h_.1)); have n1_ := Aside0.mk (Kd.S_mono (Kd.S_keptB H1.out hkp (fun k_ hk_ hs_ => D13.out k_ hk_ hs_)) (fun _ h_ => h_.1)); have n2_ := Aside0.mk (Kd.R_mono (Kd.R_keptB H2.out hkp (fun k_ hk_ hs_ => D23.out k_ hk_ hs_)) (fun _ h_ => h_.1)); have n3_ := Aside0.mk (Kd.R_reok rfl hr (fun k_ e_ => H3.out.1 k_ e_)); have n5_ := Aside0.mk (Kept.then_ HK.out hkp (fun _ h_ => .inl (.inr (.inr (.inr h_))))); clear H0 H1 H2 H3 BK HB HK hkp hr hcz3; have H0 := n0_; have H1 := n1_; have H2 := n2_; have H3 := n3_; have HK := n5_; have HB := Aside0.mk hb; clear n0_ n1_ n2_ n3_ n5_ hb))
  go_ret
  exact ⟨rfl, H0.out, H1.out, H2.out, H3.out, HB.out, HK.out⟩
end Go.Proofs.Ytjgdfbcjlebniaa.MFnExactDemoProgram

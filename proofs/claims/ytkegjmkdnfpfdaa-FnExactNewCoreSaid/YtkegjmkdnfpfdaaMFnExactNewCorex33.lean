-- By a program of this session.
import Derived.Test.YtkegjmkdnfpfdaaMFnExactNewCorex0
import Derived.Test.YtkegjmkdnfpfdaaMFnExactNewCorex2
namespace Go.Proofs.Ytkegjmkdnfpfdaa.MFnExactNewCore
open Go.RowKit Go.Proofs.YtkegjmkdnfpfdaaW.PrintWords Go.Proofs.YtkegjmkdnfpfdaaW.PrintLast Go.Proofs.YtkegjmkdnfpfdaaW.PrintMore
attribute [local go_sem] max2_int min2_int max_two min_two max_three min_three max_four min_four
set_option linter.unusedVariables false
set_option linter.unusedSimpArgs false
set_option maxHeartbeats 8000000
set_option maxRecDepth 100000

/-! ### laws_markCore: function 34 -/
def totF (l : List (S184)) : Nat := (l.map fun x => x.f2.length + 2).sum
def seqI (a : Int) (n : Nat) : List Int := (List.range n).map fun (j : Nat) => a + (j : Int)
def markF : List (S184) → Int → List (S184)
 | [], _ => []
 | x :: xs, a => ⟨a, a + 1, seqI (a + 2) x.f2.length⟩ :: markF xs (a + 2 + (x.f2.length : Int))
theorem markF_len : ∀ (l : List (S184)) (a : Int), (markF l a).length = l.length
 | [], _ => rfl
 | x :: xs, a => by simp [markF, markF_len xs]
theorem totF_take (l : List (S184)) (i : Nat) (h : i < l.length) : totF (l.take (i + 1)) = totF (l.take i) + (l[i].f2.length + 2) := by
 unfold totF
 rw [List.take_succ_eq_append_getElem h]
 simp only [List.map_append, List.sum_append, List.map_cons, List.map_nil, List.sum_cons, List.sum_nil, Nat.add_zero]
theorem totF_le (l : List (S184)) (i : Nat) : totF (l.take i) ≤ totF l := by
 conv => rhs; rw [← List.take_append_drop i l]
 unfold totF
 rw [List.map_append, List.sum_append]
 omega
theorem markF_app : ∀ (l m : List (S184)) (a : Int), markF (l ++ m) a = markF l a ++ markF m (a + (totF l : Int))
 | [], m, a => by simp [markF, totF]
 | x :: xs, m, a => by
  have e : (totF (x :: xs) : Int) = x.f2.length + 2 + totF xs := by simp [totF]
  simp only [List.cons_append, markF, markF_app xs m, e]
  rw [show a + 2 + (x.f2.length : Int) + (totF xs : Int) = a + (x.f2.length + 2 + totF xs) by omega]
theorem markF_take (l : List (S184)) (i : Nat) (h : i < l.length) (a : Int) : markF (l.take (i + 1)) a = markF (l.take i) a ++ [⟨a + (totF (l.take i) : Int), a + (totF (l.take i) : Int) + 1, seqI (a + (totF (l.take i) : Int) + 2) l[i].f2.length⟩] := by
 rw [List.take_succ_eq_append_getElem h, markF_app]
 rfl
theorem markI_from (n : Nat) : ∀ (d k i : Nat) (l : List Int) (a : Int), l.length = n → n - i ≤ d → d < k → i ≤ n → 0 ≤ a → a + (n : Int) ≤ 4611686018427387904 → (∀ j : Nat, j < i → l[j]? = some (a + (j : Int))) → laws_markIntS.l0 k l (a + i) (i : Int) = some (a + n, seqI a n) := by
 intro d
 induction d with
 | zero =>
  intro k i l a hn hd hk hi h0 h1 hA
  obtain ⟨k, rfl⟩ : ∃ m, k = m + 1 := ⟨k - 1, by omega⟩
  simp only [laws_markIntS.l0]
  rw [if_neg (by omega)]
  obtain rfl : i = n := by omega
  have e : l = seqI a i := List.ext_getElem? (fun j => by
   unfold seqI
   rw [List.getElem?_map]
   by_cases c : j < i
   ·rw [hA j c, List.getElem?_range c]; rfl
   ·rw [List.getElem?_eq_none (by omega), List.getElem?_eq_none (by simp; omega)]; rfl)
  rw [e]
 | succ d ih =>
  intro k i l a hn hd hk hi h0 h1 hA
  obtain ⟨k, rfl⟩ : ∃ m, k = m + 1 := ⟨k - 1, by omega⟩
  by_cases h : i < n
  ·simp only [laws_markIntS.l0]
   have hw : wrap64 ((i : Int) + 1) = ((i + 1 : Nat) : Int) := by unfold wrap64; omega
   have e1 : wrap64 (a + i + 1) = a + ((i + 1 : Nat) : Int) := by unfold wrap64; omega
   rw [if_pos (by omega), if_pos (by omega), hw, e1, Int.toNat_natCast]
   refine ih k (i + 1) (l.set i (a + i)) a (by simpa using hn) (by omega) (by omega) (by omega) h0 h1 (fun j hj => ?_)
   rw [List.getElem?_set]
   by_cases c : i = j
   ·subst c; rw [if_pos rfl, if_pos (by omega)]
   ·rw [if_neg c]; exact hA j (by omega)
  ·obtain rfl : i = n := by omega
   exact ih (k + 1) i l a hn (by omega) (by omega) (by omega) h0 h1 hA
theorem markI_tot (l : List Int) (a : Int) (h0 : 0 ≤ a) (h1 : a + (l.length : Int) ≤ 4611686018427387904) : laws_markIntS.f (l.length + 1) l a = some (a + l.length, seqI a l.length) := by
 have h := markI_from l.length l.length (l.length + 1) 0 l a rfl (by omega) (by omega) (by omega) h0 h1 (fun j hj => by omega)
 unfold laws_markIntS.f
 simpa using h
section
variable {W : World} {base g n cap : Nat} {ok : Nat → Prop} {xs : List (S184)}
/-- One frame's numbers are written, its loops stay. -/
theorem frame_put0 (h : Kd.S k184 184 W base ok (.slice (some ⟨g, 0, none⟩) n cap) xs) (i : Nat) (hi : i < xs.length) (a : Int) :
 W.cell? ⟨g, i * 3, none⟩ = some (.int .i64 xs[i].f0) ∧ W.frozen? ⟨g, i * 3, none⟩ = false ∧ Kd.S k184 184 (W.setCell ⟨g, i * 3, none⟩ (.int .i64 a)) base ok (.slice (some ⟨g, 0, none⟩) n cap) (xs.set i ⟨a, xs[i].f1, xs[i].f2⟩) ∧ W.grownBy (W.setCell ⟨g, i * 3, none⟩ (.int .i64 a)) (some g) := by
 have hn := (Kd.S_reads' h).1
 obtain ⟨oki, c, hcl, hM, hcc, hfr, hoki, hH⟩ := Kd.S_elem h z184 (i : Int) (by omega) (by omega)
 have e : xs.getD ((i : Int)).toNat z184 = xs[i] := by simp [List.getD_eq_getElem?_getD, hi]
 rw [e] at hM
 obtain ⟨v2, rfl, hR⟩ := k184_openM hM
 have h2 := Kd.S_seg0 (okp := oki) hH (by omega) (by omega) (seg := [.int .i64 a]) (j := 0) (x' := ⟨a, xs[i].f1, xs[i].f2⟩) (show 1 ≤ 3 by decide) (k184_mkM W base oki ⟨a, xs[i].f1, xs[i].f2⟩ hR) (fun _ hk => hk)
 have s3 : k184.sz = 3 := rfl
 exact ⟨by simpa [s3] using hcc 0 _ rfl, by simpa [s3] using hfr 0, by simpa [World.setCells, s3] using h2.1, by simpa [World.setCells, s3] using h2.2⟩
theorem frame_put1 (h : Kd.S k184 184 W base ok (.slice (some ⟨g, 0, none⟩) n cap) xs) (i : Nat) (hi : i < xs.length) (a : Int) :
 W.cell? ⟨g, i * 3 + 1, none⟩ = some (.int .i64 xs[i].f1) ∧ W.frozen? ⟨g, i * 3 + 1, none⟩ = false ∧ Kd.S k184 184 (W.setCell ⟨g, i * 3 + 1, none⟩ (.int .i64 a)) base ok (.slice (some ⟨g, 0, none⟩) n cap) (xs.set i ⟨xs[i].f0, a, xs[i].f2⟩) ∧ W.grownBy (W.setCell ⟨g, i * 3 + 1, none⟩ (.int .i64 a)) (some g) := by
 have hn := (Kd.S_reads' h).1
 obtain ⟨oki, c, hcl, hM, hcc, hfr, hoki, hH⟩ := Kd.S_elem h z184 (i : Int) (by omega) (by omega)
 have e : xs.getD ((i : Int)).toNat z184 = xs[i] := by simp [List.getD_eq_getElem?_getD, hi]
 rw [e] at hM
 obtain ⟨v2, rfl, hR⟩ := k184_openM hM
 have h2 := Kd.S_seg0 (okp := oki) hH (by omega) (by omega) (seg := [.int .i64 a]) (j := 1) (x' := ⟨xs[i].f0, a, xs[i].f2⟩) (show 2 ≤ 3 by decide) (k184_mkM W base oki ⟨xs[i].f0, a, xs[i].f2⟩ hR) (fun _ hk => hk)
 have s3 : k184.sz = 3 := rfl
 exact ⟨by simpa [s3] using hcc 1 _ rfl, by simpa [s3] using hfr 1, by simpa [World.setCells, s3] using h2.1, by simpa [World.setCells, s3] using h2.2⟩
/-- One frame's loops are lent. -/
theorem frame_lend (h : Kd.S k184 184 W base ok (.slice (some ⟨g, 0, none⟩) n cap) xs) (i : Nat) (hi : i < xs.length) :
 ∃ (oki : Nat → Prop) (v0 : Value), W.cell? ⟨g, i * 3 + 2, none⟩ = some v0 ∧ Kd.R (Kd.int .i64) 3 W base oki v0 xs[i].f2 ∧ (∀ k, oki k → ok k) ∧
  ∀ (w1 : World) (r : List Int) (ok' : Nat → Prop), Kept W w1 oki → Kd.R (Kd.int .i64) 3 w1 base ok' v0 r → Kd.S k184 184 w1 base ok (.slice (some ⟨g, 0, none⟩) n cap) (xs.set i ⟨xs[i].f0, xs[i].f1, r⟩) := by
 have hn := (Kd.S_reads' h).1
 obtain ⟨oki, c, hcl, hM, hcc, hoki, hH⟩ := Kd.S_lend h z184 (i : Int) (by omega) (by omega)
 have e : xs.getD ((i : Int)).toNat z184 = xs[i] := by simp [List.getD_eq_getElem?_getD, hi]
 rw [e] at hM
 obtain ⟨v0, rfl, hR⟩ := k184_openM hM
 refine ⟨oki, v0, by simpa [show k184.sz = 3 from rfl] using hcc 2 v0 rfl, hR, fun k hk => (hoki k hk).1, fun w1 r ok' hk hr => ?_⟩
 have h1 := Kd.H_kept hH hk (fun k hk hn => hn)
 have hr' : Kd.R (Kd.int .i64) 3 w1 base oki v0 r := Kd.R_reok rfl hr (fun k e_ => hR.1 k e_)
 have := Kd.H_back h1 (k184_mkM w1 base oki ⟨xs[i].f0, xs[i].f1, r⟩ hr') (fun _ hk => hk)
 simpa using this
end
theorem mark_step (l0 : List (S184)) (i : Nat) (h : i < l0.length) (a1 T : Int) (hT : T = a1 + (totF (l0.take i) : Int)) (x : List (S184)) (hx : x = markF (l0.take i) a1 ++ l0.drop i) (y z : S184) :
 (((x.set i y).set i z).set i ⟨T, T + 1, seqI (T + 1 + 1) l0[i].f2.length⟩) = markF (l0.take (i + 1)) a1 ++ l0.drop (i + 1) := by
 have hl : (markF (l0.take i) a1).length = i := by rw [markF_len]; simp; omega
 rw [List.set_set, List.set_set, hx, List.set_append_right _ _ (by omega), hl, Nat.sub_self, markF_take l0 i h a1, ← hT, List.drop_eq_getElem_cons h, List.set_cons_zero, List.append_assoc, show T + 2 = T + 1 + 1 by omega]
 rfl
theorem laws_markIntS.calls0 (A : Option Addr) (l : List Int) (hl : l = []) (c : Nat) (a1 : Int) (w : World) : Calls Try.prog 21 #[.slice A l.length c, .int .i64 a1] w fun e w' => e = .returned (.int .i64 a1) ∧ Below w.heap.size w w' := by
 subst hl
 show Calls Try.prog 21 #[.slice A 0 c, .int .i64 a1] w _
 have HB := zQ (Below.refl w.heap.size w)
 go_enter Try.func21, Try.ntmps21
 go_wp2
 go_loopg [1, 5] 0 (fun kq v1 v5 w' => v1 = .int .i64 a1 ∧ v5 = .int .i64 0 ∧ Aside0 (Below w.heap.size w w'))
 case atStart => exact ⟨rfl, rfl, ⟨zB HB.out⟩⟩
 case round =>
  clear HB
  obtain ⟨rfl, rfl, HB⟩ := hrel
  go_wp2
  go_ret
  exact ⟨rfl, HB.out⟩
theorem laws_markFrameS.callsE (P0_ : Nat → Prop) (u9000_ : Value) (l0 : List (S184)) (a1 : Int) (w0 w : World) (hB : Below w0.heap.size w0 w) (ho0 : Kd.S k184 184 w w0.heap.size P0_ u9000_ l0) (hE : ∀ x ∈ l0, x.f2 = []) (hc : 0 ≤ a1 ∧ a1 + (totF l0 : Int) ≤ 4611686018427387904) :
 Calls Try.prog 87 #[u9000_, .int .i64 a1] w fun e w' => e = .returned (.int .i64 (a1 + (totF l0 : Int))) ∧ Kd.S k184 184 w' w0.heap.size P0_ u9000_ (markF l0 a1) ∧ Below w0.heap.size w0 w' ∧ Kept w w' (fun k_ => some k_ = u9000_.ownBlock) := by
 have HC := zQ hc
 clear hc
 obtain ⟨A_, c_, e_⟩ := Kd.S_slice ho0
 subst e_
 have hlen : l0.length ≤ 9223372036854775807 := by
  obtain ⟨inner, hi⟩ := Kd.S_own ho0
  rcases hi.2 with ⟨_, h0⟩ | ⟨g', cap', cur', he, _, _, h1, h2, h3, _⟩
  ·omega
  ·simp only [maxLen] at h2; omega
 have HS := zQ ho0
 have HE := zQ hE
 have HB := zQ hB
 have HK := zQ (Kept.refl w (fun k_ => some k_ = (Value.slice A_ l0.length c_).ownBlock))
 clear hB ho0 hE
 go_enter Try.func87, Try.ntmps87
 go_wp2
 go_loopg [1, 5] (l0.length) (fun kq v1 v5 w' => ∃ (i : Nat) (x : List (S184)) (T : Int), v1 = .int .i64 T ∧ v5 = .int .i64 (i : Int) ∧ Aside0 (kq + i = l0.length) ∧ Aside0 (x = markF (l0.take i) a1 ++ l0.drop i) ∧ Aside0 (T = a1 + (totF (l0.take i) : Int)) ∧ Aside0 (Kd.S k184 184 w' w0.heap.size P0_ (.slice A_ l0.length c_) x) ∧ Aside0 (Kept w w' (fun k_ => some k_ = (Value.slice A_ l0.length c_).ownBlock)) ∧ Aside0 (Below w0.heap.size w0 w'))
 case atStart => exact ⟨0, l0, a1, by first | rfl | (simp; done) | (simp [*]; done), rfl, ⟨by omega⟩, ⟨by simp [markF]⟩, ⟨by simp [totF]⟩, ⟨by (with_reducible repeat (first | apply Kd.S_alloc | apply Kd.S_drewN | apply Kd.S_drew)); exact HS.out⟩, ⟨by repeat (first | (with_reducible first | exact HK.out | apply Kept.alloc | apply Kept.drewN | apply Kept.drew) | exact HK.out)⟩, ⟨zB HB.out⟩⟩
 case round =>
  clear HS HB HK
  obtain ⟨i, x, T, rfl, rfl, HG, HL, HT, HS, HK, HB⟩ := hrel
  have hxl : x.length = l0.length := by rw [HL.out]; simp [markF_len]; omega
  have hg0 := HG.out
  by_cases hlt : i < l0.length
  ·cases gk with
   | zero => omega
   | succ k1 =>
    have hix : i < x.length := by omega
    obtain ⟨g_, cap_, e_, _⟩ := Kd.S_form HS.out (Nat.lt_of_le_of_lt (Nat.zero_le _) hix)
    injection e_ with e1_ e2_ e3_
    subst e1_
    subst e3_
    clear e2_
    have hxi : x[i]'hix = l0[i] := by
     have e0 := HL.out
     subst e0
     have hl : (markF (l0.take i) a1).length = i := by rw [markF_len]; simp; omega
     rw [List.getElem_append_right (by omega)]
     simp [hl]
    have hle := totF_le l0 (i + 1)
    rw [totF_take l0 i hlt] at hle
    have hc_ := HC.out
    have hT0 := HT.out
    have b1 : (i : Int) ≤ 9223372036854775806 := by omega
    have b2 : (0 : Int) ≤ (i : Int) := by omega
    have b3 : 0 ≤ T := by omega
    have b4 : T ≤ 4611686018427387904 := by omega
    have b5 : T + 2 + (l0[i].f2.length : Int) ≤ 4611686018427387904 := by omega
    have hge : w0.heap.size ≤ g_ := Kd.S_base HS.out g_ rfl
    have hok : ∀ k_, some g_ = some k_ → some k_ = (Value.slice (some ⟨g_, 0, none⟩) l0.length c_).ownBlock := fun k_ e_ => e_.symm
    obtain ⟨q0, q1, q2, q3⟩ := frame_put0 HS.out i hix T
    have hix1 : i < (x.set i ⟨T, (x[i]'hix).f1, (x[i]'hix).f2⟩).length := by simpa using hix
    obtain ⟨s0, s1, s2, s3⟩ := frame_put1 q2 i hix1 (T + 1)
    have hb1 := below_set (j := i * 3) (v := .int .i64 T) HB.out hge
    have hb2 := below_set (j := i * 3 + 1) (v := .int .i64 (T + 1)) hb1 hge
    have hk1 := Kept.of_grown (S := (fun k_ => some k_ = (Value.slice (some ⟨g_, 0, none⟩) l0.length c_).ownBlock)) q3 HK.out (fun k e => .inl (hok k e))
    have hk2 := Kept.of_grown (S := (fun k_ => some k_ = (Value.slice (some ⟨g_, 0, none⟩) l0.length c_).ownBlock)) s3 hk1 (fun k e => .inl (hok k e))
    generalize hw1 : wr.setCell ⟨g_, i * 3, none⟩ (.int .i64 T) = wA at *
    generalize hw2 : wA.setCell ⟨g_, i * 3 + 1, none⟩ (.int .i64 (T + 1)) = wC at *
    have hix2 : i < ((x.set i ⟨T, (x[i]'hix).f1, (x[i]'hix).f2⟩).set i ⟨((x.set i ⟨T, (x[i]'hix).f1, (x[i]'hix).f2⟩)[i]'hix1).f0, T + 1, ((x.set i ⟨T, (x[i]'hix).f1, (x[i]'hix).f2⟩)[i]'hix1).f2⟩).length := by simpa using hix
    obtain ⟨oki, v0, hcell, hR, hsub, hback⟩ := frame_lend s2 i hix2
    simp only [List.getElem_set_self] at hR hback
    rw [hxi] at hR
    obtain ⟨A1, c1, e_⟩ := Kd.R_slice hR
    subst e_
    have hem : l0[i].f2 = [] := HE.out _ (List.getElem_mem hlt)
    rw [hem] at hR
    have HS2 := zQ s2
    have HEM := zQ hem
    simp only [List.length_nil] at *
    have HK2 := zQ hk2
    have HB2 := zQ hb2
    have HW1 := zQ hw1
    have HW2 := zQ hw2
    have c3b0 : decide ((i : Int) < (l0.length : Int)) = true := decide_eq_true (by omega)
    have c4b0 : decide ((0 : Int) ≤ (i : Int)) = true := decide_eq_true (by omega)
    have q5 : ((i : Int) < (l0.length : Int)) = True := eq_true (by omega)
    have HG1 := zQ (show k1 + (i + 1) = l0.length by omega)
    have HT1 := zQ (show T + 1 + 1 = a1 + (totF (l0.take (i + 1)) : Int) by rw [totF_take l0 i hlt, HEM.out, List.length_nil]; omega)
    have HL1 := zQ (show (x.set i ⟨T, (x[i]'hix).f1, (x[i]'hix).f2⟩).set i ⟨T, T + 1, (x[i]'hix).f2⟩ = markF (l0.take (i + 1)) a1 ++ l0.drop (i + 1) by
     have h_ := mark_step l0 i hlt a1 T HT.out x HL.out ⟨T, (x[i]'hix).f1, (x[i]'hix).f2⟩ ⟨T, T + 1, (x[i]'hix).f2⟩
     rw [← h_, hxi, HEM.out]
     simp only [List.set_set]
     rfl)
    clear hR hback hsub hem hle hc_ hT0 hk1 hk2 hb1 hb2 q2 q3 s2 s3 hxi hxl hlen hg0 hok hge hw1 hw2 HG HT
    go_wp2_with (first
     | ((with_reducible refine gate_store (t := 3) (p := 16) rfl ?_); refine store_event (t := 3) (p := 16) (v := ?vo1) (w1 := wA) ?hg1 ?ho1 ?hn1 ?hr1 ?_; (case ho1 => rfl); (case hg1 => rfl); (case hn1 => rfl); (case hr1 => rw [← HW1.out]; first | (go_simp; done) | (go_simp; rfl)); intro w11 hw; subst hw)
     | ((with_reducible refine gate_store (t := 3) (p := 23) rfl ?_); refine store_event (t := 3) (p := 23) (v := ?vo2) (w1 := wC) ?hg2 ?ho2 ?hn2 ?hr2 ?_; (case ho2 => rfl); (case hg2 => rfl); (case hn2 => rfl); (case hr2 => rw [← HW2.out]; first | (go_simp; done) | (go_simp; rfl)); intro w12 hw; subst hw)
     | (go_at_call 21; (with_reducible refine (laws_markIntS.calls0 _ _ HEM.out _ _ _).mono ?_); rintro e w2 ⟨rfl, hb⟩))
    go_roundg k1
    case measure => omega
    case rel => exact ⟨i + 1, _, _, congrArg (Value.int .i64) HT1.out, by go_num, HG1, HL1, ⟨rfl⟩, ⟨by have h_ := Kd.S_below HS2.out hb; simpa using h_⟩, ⟨Kept.below HK2.out hb⟩, ⟨below_then HB2.out HB2.out.size hb⟩⟩
  ·have e_ : i = l0.length := by omega
   subst e_
   have c3b0 : decide ((l0.length : Int) < (l0.length : Int)) = false := decide_eq_false (by omega)
   have hx := HL.out
   rw [List.take_of_length_le (Nat.le_refl _), List.drop_of_length_le (Nat.le_refl _), List.append_nil] at hx
   subst hx
   have hT := HT.out
   rw [List.take_of_length_le (Nat.le_refl _)] at hT
   subst hT
   clear hlt hg0 hxl HL HT
   go_wp2
   go_ret
   exact ⟨rfl, HS.out, HB.out, HK.out⟩
/-- Frames without loops (as they are at a start) are marked, then the stack. -/
def laws_markCore.f (k : Nat) (l0_0 : List (S184)) (l0_1 : List Int) (a1 : Int) : Option (Int × (List (S184)) × List Int) :=
 if (l0_0.all fun x => x.f2.isEmpty) = true ∧ 0 ≤ a1 ∧ a1 + (totF l0_0 : Int) ≤ 4611686018427387904 then (laws_markIntS.f k l0_1 (a1 + (totF l0_0 : Int))).bind fun b => some (b.1, markF l0_0 a1, b.2) else none
theorem laws_markCore.mono : ∀ a0 a1 a2 k, LeO (laws_markCore.f k a0 a1 a2) (laws_markCore.f (k + 1) a0 a1 a2) := by
 intro a0 a1 a2 k
 unfold laws_markCore.f
 exact LeO.ite (LeO.bind (laws_markIntS.mono _ _ _) (fun _ => LeO.refl _)) (LeO.none _)
theorem laws_markCore.callsE (k : Nat) (P0_0_ : Nat → Prop) (u9000_ : Value) (l0_0 : List (S184)) (P0_1_ : Nat → Prop) (u9001_ : Value) (l0_1 : List Int) (a1 : Int) (r1 : Int) (r2 : List (S184)) (r3 : List Int) (w0 w : World) (hB : Below w0.heap.size w0 w) (ho0_0 : Kd.S k184 184 w w0.heap.size P0_0_ u9000_ l0_0) (hne : ∀ k_, P0_0_ k_ → some k_ ≠ u9001_.ownBlock) (ho0_1 : Kd.R (Kd.int .i64) 3 w w0.heap.size P0_1_ u9001_ l0_1) (h : laws_markCore.f k l0_0 l0_1 a1 = some (r1, r2, r3)) :
 Calls Try.prog 34 #[.agg #[u9000_, u9001_], .int .i64 a1] w fun e w' => e = .returned (.int .i64 r1) ∧ Kd.S k184 184 w' w0.heap.size P0_0_ u9000_ r2 ∧ Kd.R (Kd.int .i64) 3 w' w0.heap.size P0_1_ u9001_ r3 ∧ Below w0.heap.size w0 w' ∧ Kept w w' (fun k_ => some k_ = u9000_.ownBlock ∨ some k_ = u9001_.ownBlock) := by
 unfold laws_markCore.f at h
 split at h
 case isFalse => cases h
 case isTrue hc =>
 obtain ⟨he, hc⟩ := hc
 obtain ⟨⟨b1, b2⟩, hb, h⟩ := Option.bind_eq_some_iff.mp h
 simp only [Option.some.injEq, Prod.mk.injEq] at h
 obtain ⟨rfl, rfl, rfl⟩ := h
 have hE : ∀ x ∈ l0_0, x.f2 = [] := fun x hx => by simpa using List.all_eq_true.1 he x hx
 obtain ⟨A0, c0, e0⟩ := Kd.S_slice ho0_0
 obtain ⟨A1, c1, e1⟩ := Kd.R_slice ho0_1
 have hty : some 0 = some 0 := rfl
 have hne2 : ∀ k_, u9000_.ownBlock = some k_ → some k_ ≠ u9001_.ownBlock := fun k_ e => hne k_ ((Kd.S_R ho0_0).1 k_ e)
 have HNE := zQ hne
 have HNE2 := zQ hne2
 have HS := zQ ho0_0
 have HR := zQ ho0_1
 have HE := zQ hE
 have HC := zQ hc
 have HBM := zQ hb
 have HB := zQ hB
 clear hB ho0_0 ho0_1 hE hc hb he hne hne2 hty
 subst e0
 subst e1
 have HB0 := zQ (Below.refl w.heap.size w)
 have hb0 := HC.out
 have b1_ : a1 + (totF l0_0 : Int) ≤ 4611686018427387904 := hb0.2
 clear hb0
 go_enter Try.func34, Try.ntmps34
 go_wp2_with (first
  | ((with_reducible refine gate_dst (N := 2) rfl ?_); refine box_event ?hg (N := 2) ?hd (cs := #[.slice A0 l0_0.length c0, .slice A1 l0_1.length c1]) (t := 45) ?hr ?_; (case hd => rfl); (case hg => rfl); (case hr => first | (go_simp; done) | (go_simp; rfl)); intro gb hgb w1 hbox hb; have HBX := zQ hbox; have n0_ := zQ (Kd.S_below HS.out hb); have n1_ := zQ (Kd.R_below HR.out hb); have n2_ := zQ (below_then HB.out HB.out.size hb); have HKB := zQ (Kept.of_below hb (fun k_ => some k_ = (Value.slice A0 l0_0.length c0).ownBlock ∨ some k_ = (Value.slice A1 l0_1.length c1).ownBlock)); have HG0 := zQ (Kd.S_lt HS.out); have HG1 := zQ (Kd.R_lt HR.out); have HGE := zQ hgb; clear HS HR HB hb hbox hgb; have HS := n0_; have HR := n1_; have HB := n2_; clear n0_ n1_ n2_; have hcz0 : w1.cell? ⟨gb, 0, none⟩ = some (.slice A0 l0_0.length c0) := (blk_cell HBX.out 0).trans rfl)
  | (go_at_call 87; (with_reducible refine (laws_markFrameS.callsE P0_0_ _ l0_0 a1 w0 _ HB.out HS.out HE.out HC.out).mono ?_); rintro e w2 ⟨rfl, hs, hb, hk⟩; have HBX2 := zQ (show w2.heap[gb]? = some (.cells #[.slice A0 l0_0.length c0, .slice A1 l0_1.length c1] 45 (0, 0)) from (hk.2 gb (blk_lt HBX.out) (fun e_ => by have h_ := HG0.out gb e_.symm; have h2_ := HGE.out; omega)).trans HBX.out); have n1_ := zQ (Kd.R_mono (ok' := P0_1_) (Kd.R_keptB (Kd.R_mono (ok' := fun k_ => P0_1_ k_ ∧ some k_ = (Value.slice A1 l0_1.length c1).ownBlock) (Kd.R_tight rfl HR.out) (fun k_ e_ => ⟨HR.out.1 k_ e_.symm, e_⟩)) hk (fun k_ h_ e_ => HNE2.out k_ e_.symm h_.2)) (fun k_ h_ => h_.1.1)); have n3_ := zQ (HKB.out.then_ hk (fun k_ e_ => .inl (.inl e_))); clear HR HS HB HKB HBX; have HR := n1_; have HS := zQ hs; have HB := zQ hb; have HKB := n3_; clear n1_ n3_ hs hb hk; have hcz1 : w2.cell? ⟨gb, 1, none⟩ = some (.slice A1 l0_1.length c1) := (blk_cell HBX2.out 1).trans rfl)
  | (go_at_call 21; (with_reducible refine (laws_markIntS.calls k (fun k_ => some k_ = (Value.slice A1 l0_1.length c1).ownBlock) _ l0_1 _ b1 b2 w0 _ HB.out (Kd.R_tight rfl HR.out) HBM.out).mono ?_); rintro e w3 ⟨rfl, hr, hb, hk⟩))
 go_ret
 refine ⟨rfl, ?_, Kd.R_reok rfl hr (fun k_ e_ => HR.out.1 k_ e_), hb, HKB.out.then_ hk (fun k_ e_ => .inl (.inr e_))⟩
 exact Kd.S_mono (ok' := P0_0_) (Kd.S_keptB HS.out hk (fun k_ h_ e_ => HNE.out k_ h_ e_)) (fun k_ h_ => h_.1)

end Go.Proofs.Ytkegjmkdnfpfdaa.MFnExactNewCore

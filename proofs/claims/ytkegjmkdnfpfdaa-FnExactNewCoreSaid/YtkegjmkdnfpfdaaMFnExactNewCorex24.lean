-- By a program of this session.
import Derived.Test.YtkegjmkdnfpfdaaMFnExactNewCorex0
import Derived.Test.YtkegjmkdnfpfdaaMFnExactNewCorex7
import Derived.Test.YtkegjmkdnfpfdaaMFnExactNewCorex22
import Derived.Test.YtkegjmkdnfpfdaaMFnExactNewCorex23
namespace Go.Proofs.Ytkegjmkdnfpfdaa.MFnExactNewCore
open Go.RowKit Go.Proofs.YtkegjmkdnfpfdaaW.PrintWords Go.Proofs.YtkegjmkdnfpfdaaW.PrintLast Go.Proofs.YtkegjmkdnfpfdaaW.PrintMore
attribute [local go_sem] max2_int min2_int max_two min_two max_three min_three max_four min_four
set_option linter.unusedVariables false
set_option linter.unusedSimpArgs false
set_option maxHeartbeats 8000000
set_option maxRecDepth 100000

theorem veff {w : World} {g c : Nat} {ak : Option Addr} {ks : List Int} {op a : Int} (h0 : w.cell? ⟨g, 0, none⟩ = some (.slice ak ks.length c)) (hC : Kd.C (Kd.int .i64) w ak ks.length ks) (hv : vOK ks op a) (hg : ¬ ((op = 19 ∨ op = 20) ∧ (ks.length : Int) ≤ a)) :
 Calls Try.prog 199 #[.pointer (some ⟨g, 0, none⟩), .agg #[.int .i64 op, .int .i64 a]] w fun e w' => e = .returned (.tuple #[.string (vEff ks op a).1, .string (vEff ks op a).2]) ∧ Below w.heap.size w w' := by
 obtain ⟨v1, v2, v3, v4⟩ := hv
 have hc : op = 1 ∨ op = 2 ∨ op = 3 ∨ op = 4 ∨ op = 5 ∨ op = 6 ∨ op = 7 ∨ op = 8 ∨ op = 9 ∨ op = 10 ∨ op = 11 ∨ op = 12 ∨ op = 13 ∨ op = 14 ∨ op = 15 ∨ op = 16 ∨ op = 17 ∨ op = 18 ∨ op = 19 ∨ op = 20 ∨ op = 21 ∨ op = 22 ∨ op = 23 ∨ op = 24 ∨ op = 25 ∨ op = 26 := by omega
 rcases hc with rfl | rfl | rfl | rfl | rfl | rfl | rfl | rfl | rfl | rfl | rfl | rfl | rfl | rfl | rfl | rfl | rfl | rfl | rfl | rfl | rfl | rfl | rfl | rfl | rfl | rfl
 ·exact veff_1 w g a
 ·exact veff_2 w g a
 ·exact veff_3 w g a
 ·exact veff_4 w g a
 ·exact veff_5 w g a
 ·exact veff_6 w g a
 ·exact veff_7 w g a
 ·exact veff_8 w g a
 ·exact veff_9 w g a
 ·exact veff_10 w g a
 ·exact veff_11 w g a
 ·exact veff_12 w g a
 ·exact veff_13 w g a
 ·exact veff_14 w g a
 ·exact veff_15 w g a
 ·exact veff_16 w g a
 ·exact veff_17 w g a
 ·exact veff_18 w g a
 ·have a0 := v3 (.inl rfl)
  have a1 : a < (ks.length : Int) := by omega
  obtain ⟨ad, rfl, hx⟩ := Kd.at_int hC a a0 a1
  obtain ⟨n, rfl⟩ : ∃ n : Nat, a = n := ⟨a.toNat, by omega⟩
  have hn : n < ks.length := by omega
  have hx' : w.cell? (ad.add n) = some (.int .i64 (rd ks n)) := by simpa using hx
  have hk : 1 ≤ rd ks n ∧ rd ks n ≤ 4 := by
   apply v4
   unfold rd
   rw [List.getD_eq_getElem?_getD, Int.toNat_natCast, List.getElem?_eq_getElem hn]
   exact List.getElem_mem hn
  have hc : rd ks n = 1 ∨ rd ks n = 2 ∨ rd ks n = 3 ∨ rd ks n = 4 := by omega
  have he : vEff ks 19 (n : Int) = (vTakes (rd ks n), ⟨#[98]⟩) := rfl
  rw [he]
  rcases hc with hc | hc | hc | hc
  all_goals rw [hc] at hx'; rw [hc]
  ·exact veff_19_1 w g _ c ad n hn h0 hx'
  ·exact veff_19_2 w g _ c ad n hn h0 hx'
  ·exact veff_19_3 w g _ c ad n hn h0 hx'
  ·exact veff_19_4 w g _ c ad n hn h0 hx'
 ·exact veff_20 w g a
 ·exact veff_21 w g a
 ·exact veff_22 w g a
 ·exact veff_23 w g a
 ·exact veff_24 w g a
 ·exact veff_25 w g a
 ·exact veff_26 w g a

def SPost (w : World) (B g : Nat) (ak : Option Addr) (nk ck : Nat) (R : Int) (v : Value) (r : Int × ByteArray × List VO) (e : Ending) (w' : World) : Prop :=
 e = .returned (.int .i64 r.1) ∧ ∃ v', VS w' B g ak nk ck R r.2.1 v' r.2.2 ∧ VF w w' g v v'
theorem vguard_19 (w : World) (g nk ck : Nat) (ak : Option Addr) (at_ a : Int) (h0 : w.cell? ⟨g, 0, none⟩ = some (.slice ak nk ck)) (ga : decide (a ≥ (nk : Int)) = true) :
 Calls Try.prog 210 #[.pointer (some ⟨g, 0, none⟩), .int .i64 at_, .agg #[.int .i64 19, .int .i64 a]] w fun e w' => e = .returned (.int .i64 5) ∧ Below w.heap.size w w' := by
 have h0a : ∀ o, (w.alloc o).cell? ⟨g, 0, none⟩ = some (.slice ak nk ck) := fun o => (World.cell?_alloc_lt w o _ (World.block_lt_of_cell? w _ h0)).trans h0
 go_enter Try.func210, Try.ntmps210
 go_wp2
 go_quiet (fail)
 go_wp2
 go_ret
 exact ⟨rfl, by repeat (first | exact below_alloc (Below.refl _ _) _ | apply pw_below_drewN)⟩
theorem vguard_20 (w : World) (g nk ck : Nat) (ak : Option Addr) (at_ a : Int) (h0 : w.cell? ⟨g, 0, none⟩ = some (.slice ak nk ck)) (ga : decide (a ≥ (nk : Int)) = true) :
 Calls Try.prog 210 #[.pointer (some ⟨g, 0, none⟩), .int .i64 at_, .agg #[.int .i64 20, .int .i64 a]] w fun e w' => e = .returned (.int .i64 5) ∧ Below w.heap.size w w' := by
 have h0a : ∀ o, (w.alloc o).cell? ⟨g, 0, none⟩ = some (.slice ak nk ck) := fun o => (World.cell?_alloc_lt w o _ (World.block_lt_of_cell? w _ h0)).trans h0
 go_enter Try.func210, Try.ntmps210
 go_wp2
 go_quiet (fail)
 go_wp2
 go_ret
 exact ⟨rfl, by repeat (first | exact below_alloc (Below.refl _ _) _ | apply pw_below_drewN)⟩
theorem vguard_26 (w : World) (g nk ck : Nat) (ak : Option Addr) (R at_ a : Int) (h0 : w.cell? ⟨g, 0, none⟩ = some (.slice ak nk ck)) (h1 : w.cell? ⟨g, 1, none⟩ = some (.int .i64 R)) (ga : decide (a ≥ R) = true) :
 Calls Try.prog 210 #[.pointer (some ⟨g, 0, none⟩), .int .i64 at_, .agg #[.int .i64 26, .int .i64 a]] w fun e w' => e = .returned (.int .i64 15) ∧ Below w.heap.size w w' := by
 have h0a : ∀ o, (w.alloc o).cell? ⟨g, 0, none⟩ = some (.slice ak nk ck) := fun o => (World.cell?_alloc_lt w o _ (World.block_lt_of_cell? w _ h0)).trans h0
 have h1a : ∀ o, (w.alloc o).cell? ⟨g, 1, none⟩ = some (.int .i64 R) := fun o => (World.cell?_alloc_lt w o _ (World.block_lt_of_cell? w _ h1)).trans h1
 go_enter Try.func210, Try.ntmps210
 go_wp2
 go_quiet (fail)
 go_wp2
 go_quiet (fail)
 go_wp2
 go_ret
 exact ⟨rfl, by repeat (first | exact below_alloc (Below.refl _ _) _ | apply pw_below_drewN)⟩
theorem vstep {w : World} {B g ck : Nat} {ak : Option Addr} {ks : List Int} {R : Int} {S : ByteArray} {v : Value} {O : List VO} (hs : VS w B g ak ks.length ck R S v O) (hB : B ≤ w.heap.size) (hC : Kd.C (Kd.int .i64) w ak ks.length ks) (hi : vInv S O) (at_ op a : Int) (hv : vOK ks op a) :
 Calls Try.prog 210 #[.pointer (some ⟨g, 0, none⟩), .int .i64 at_, .agg #[.int .i64 op, .int .i64 a]] w (SPost w B g ak ks.length ck R v (vStep ks R at_ op a S O)) := by
 have same : ∀ (c : Int), (∀ e w', e = .returned (.int .i64 c) ∧ Below w.heap.size w w' → SPost w B g ak ks.length ck R v (c, S, O) e w') := by
  rintro c e w' ⟨rfl, hb⟩
  exact ⟨rfl, v, hs.below hb, VF.of_below hb g v⟩
 by_cases h1 : (op = 19 ∨ op = 20) ∧ (ks.length : Int) ≤ a
 ·rw [show vStep ks R at_ op a S O = (5, S, O) from by unfold vStep; rw [if_pos h1]]
  obtain ⟨h1 | h1, h2⟩ := h1
  ·subst h1
   exact (vguard_19 w g _ ck ak at_ a hs.c0 (decide_eq_true h2)).mono (same 5)
  ·subst h1
   exact (vguard_20 w g _ ck ak at_ a hs.c0 (decide_eq_true h2)).mono (same 5)
 by_cases h2 : op = 26 ∧ R ≤ a
 ·rw [show vStep ks R at_ op a S O = (15, S, O) from by unfold vStep; rw [if_neg h1, if_pos h2]]
  obtain ⟨rfl, h2⟩ := h2
  exact (vguard_26 w g _ ck ak R at_ a hs.c0 hs.c1 (decide_eq_true h2)).mono (same 15)
 have hz := vEff_size ks op a
 have hE : Aside0 (∀ W : World, Below w.heap.size w W → Calls Try.prog 199 #[.pointer (some ⟨g, 0, none⟩), .agg #[.int .i64 op, .int .i64 a]] W fun e w' => e = .returned (.tuple #[.string (vEff ks op a).1, .string (vEff ks op a).2]) ∧ Below W.heap.size W w') :=
  ⟨fun W hb => veff (hs.below hb).c0 (Kd.C_below hC hb) hv h1⟩
 have hBa : Aside0 (∀ W : World, Below w.heap.size w W → Calls Try.prog 242 #[.pointer (some ⟨g, 0, none⟩)] W fun e w' => e = .returned (.int .i64 (vBase O)) ∧ Drawn0 W w') :=
  ⟨fun W hb => vbase (hs.below hb) hi⟩
 by_cases h3 : (S.size : Int) - ((vEff ks op a).1.size : Int) < vBase O
 ·rw [show vStep ks R at_ op a S O = (13, S, O) from by unfold vStep; rw [if_neg h1, if_neg h2, if_pos h3]]
  have h13 : Aside0 (∀ W : World, Below w.heap.size w W → SPost w B g ak ks.length ck R v (13, S, O) (.returned (.int .i64 13)) W) := ⟨fun W hb => same 13 _ _ ⟨rfl, hb⟩⟩
  by_cases e19 : op = 19
  ·subst e19
   exact vstep_19_lo w g _ ck ak R at_ a _ S _ _ _ hs.lt hs.c0 hs.c1 hs.c2 (hs.fz 2) (decide_eq_false (fun e => h1 ⟨.inl rfl, e⟩)) hi.1 hz.1 hz.2 (vBase_nonneg hi) hE hBa h13 (decide_eq_true h3)
  by_cases e20 : op = 20
  ·subst e20
   exact vstep_20_lo w g _ ck ak R at_ a _ S _ _ _ hs.lt hs.c0 hs.c1 hs.c2 (hs.fz 2) (decide_eq_false (fun e => h1 ⟨.inr rfl, e⟩)) hi.1 hz.1 hz.2 (vBase_nonneg hi) hE hBa h13 (decide_eq_true h3)
  by_cases e26 : op = 26
  ·subst e26
   exact vstep_26_lo w g _ ck ak R at_ a _ S _ _ _ hs.lt hs.c0 hs.c1 hs.c2 (hs.fz 2) (decide_eq_false (fun e => h2 ⟨rfl, e⟩)) hi.1 hz.1 hz.2 (vBase_nonneg hi) hE hBa h13 (decide_eq_true h3)
  exact vstep_o_lo w g _ ck ak R at_ op a _ S _ _ _ hs.lt hs.c0 hs.c1 hs.c2 (hs.fz 2) (by simpa using e19) (by simpa using e20) (by simpa using e26) hi.1 hz.1 hz.2 (vBase_nonneg hi) hE hBa h13 (decide_eq_true h3)
 have hnb := vBase_nonneg hi
 have hle : (vEff ks op a).1.size ≤ S.size := by omega
 have key : SPost w B g ak ks.length ck R v (vStep ks R at_ op a S O) = (fun e w' => SPost w B g ak ks.length ck R v (vStep ks R at_ op a S O) e w') := rfl
 have hst : vStep ks R at_ op a S O = (if S.extract (S.size - (vEff ks op a).1.size) S.size = (vEff ks op a).1 then
  (if S.size - (vEff ks op a).1.size + (vEff ks op a).2.size ≤ 8 then ((vNest at_ op (S.extract 0 (S.size - (vEff ks op a).1.size) ++ (vEff ks op a).2) O).1, S.extract 0 (S.size - (vEff ks op a).1.size) ++ (vEff ks op a).2, (vNest at_ op (S.extract 0 (S.size - (vEff ks op a).1.size) ++ (vEff ks op a).2) O).2)
  else (7, S.extract 0 (S.size - (vEff ks op a).1.size) ++ (vEff ks op a).2, O)) else (12, S, O)) := by unfold vStep; rw [if_neg h1, if_neg h2, if_neg h3]
 rw [hst]
 clear hst key
 generalize hP : (vEff ks op a).1 = P at *
 generalize hQ : (vEff ks op a).2 = Q at *
 have hN : Aside0 (S.extract (S.size - P.size) S.size = P → S.size - P.size + Q.size ≤ 8 → ∀ W : World, Below w.heap.size w W → Calls Try.prog 243 #[.pointer (some ⟨g, 0, none⟩), .int .i64 at_, .int .i64 op] (W.setCell ⟨g, 2, none⟩ (.string (S.extract 0 (S.size - P.size) ++ Q))) fun e w' => ∃ c : Int, e = .returned (.int .i64 c) ∧ SPost w B g ak ks.length ck R v (if S.extract (S.size - P.size) S.size = P then (if S.size - P.size + Q.size ≤ 8 then ((vNest at_ op (S.extract 0 (S.size - P.size) ++ Q) O).1, S.extract 0 (S.size - P.size) ++ Q, (vNest at_ op (S.extract 0 (S.size - P.size) ++ Q) O).2) else (7, S.extract 0 (S.size - P.size) ++ Q, O)) else (12, S, O)) e w') := by
  refine ⟨fun e1 e2 W hb => ?_⟩
  rw [if_pos e1, if_pos e2]
  have hs1 := (hs.below hb).stack (S.extract 0 (S.size - P.size) ++ Q)
  refine (vnest hs1 (by have := hb.size; simp [World.setCell]; omega) ⟨by rw [ByteArray.size_append, ByteArray.size_extract]; omega, hi.2.1, hi.2.2⟩ at_ op).mono ?_
  rintro e w' ⟨rfl, v', hv', hf⟩
  refine ⟨_, rfl, rfl, v', hv', ?_⟩
  exact hf.after (fun i hi1 hig => (Below.heap_setCell _ _ _ _ hig).trans (hb.block i hi1)) hb.os hb.tape hb.output (by have := hb.size; simp [World.setCell]; omega)
 have h7 : Aside0 (S.extract (S.size - P.size) S.size = P → 8 < S.size - P.size + Q.size → ∀ W : World, Below w.heap.size w W → SPost w B g ak ks.length ck R v (if S.extract (S.size - P.size) S.size = P then (if S.size - P.size + Q.size ≤ 8 then ((vNest at_ op (S.extract 0 (S.size - P.size) ++ Q) O).1, S.extract 0 (S.size - P.size) ++ Q, (vNest at_ op (S.extract 0 (S.size - P.size) ++ Q) O).2) else (7, S.extract 0 (S.size - P.size) ++ Q, O)) else (12, S, O)) (.returned (.int .i64 7)) (W.setCell ⟨g, 2, none⟩ (.string (S.extract 0 (S.size - P.size) ++ Q)))) := by
  refine ⟨fun e1 e2 W hb => ?_⟩
  rw [if_pos e1, if_neg (by omega)]
  exact ⟨rfl, v, (hs.below hb).stack _, (VF.of_below hb g v).set 2 _ v rfl⟩
 have h12 : Aside0 (S.extract (S.size - P.size) S.size ≠ P → ∀ W : World, Below w.heap.size w W → SPost w B g ak ks.length ck R v (if S.extract (S.size - P.size) S.size = P then (if S.size - P.size + Q.size ≤ 8 then ((vNest at_ op (S.extract 0 (S.size - P.size) ++ Q) O).1, S.extract 0 (S.size - P.size) ++ Q, (vNest at_ op (S.extract 0 (S.size - P.size) ++ Q) O).2) else (7, S.extract 0 (S.size - P.size) ++ Q, O)) else (12, S, O)) (.returned (.int .i64 12)) W) := by
  refine ⟨fun e1 W hb => ?_⟩
  rw [if_neg e1]
  exact same 12 _ _ ⟨rfl, hb⟩
 by_cases e19 : op = 19
 ·subst e19
  exact vstep_19 w g _ ck ak R at_ a _ S _ _ _ hs.lt hs.c0 hs.c1 hs.c2 (hs.fz 2) (decide_eq_false (fun e => h1 ⟨.inl rfl, e⟩)) hi.1 hz.1 hz.2 (vBase_nonneg hi) hE hBa hN h7 h12 hle (decide_eq_false h3)
 by_cases e20 : op = 20
 ·subst e20
  exact vstep_20 w g _ ck ak R at_ a _ S _ _ _ hs.lt hs.c0 hs.c1 hs.c2 (hs.fz 2) (decide_eq_false (fun e => h1 ⟨.inr rfl, e⟩)) hi.1 hz.1 hz.2 (vBase_nonneg hi) hE hBa hN h7 h12 hle (decide_eq_false h3)
 by_cases e26 : op = 26
 ·subst e26
  exact vstep_26 w g _ ck ak R at_ a _ S _ _ _ hs.lt hs.c0 hs.c1 hs.c2 (hs.fz 2) (decide_eq_false (fun e => h2 ⟨rfl, e⟩)) hi.1 hz.1 hz.2 (vBase_nonneg hi) hE hBa hN h7 h12 hle (decide_eq_false h3)
 exact vstep_o w g _ ck ak R at_ op a _ S _ _ _ hs.lt hs.c0 hs.c1 hs.c2 (hs.fz 2) (by simpa using e19) (by simpa using e20) (by simpa using e26) hi.1 hz.1 hz.2 (vBase_nonneg hi) hE hBa hN h7 h12 hle (decide_eq_false h3)

def vLoop (ks : List Int) (R : Int) : List S96 → Int → ByteArray → List VO → List ByteArray → List ByteArray × Int × Int
 | [], at_, S, O, out => match O with
  | o :: _ => ([], o.at_, 14)
  | [] => if S.size = 0 then (out ++ [⟨#[]⟩], 0, 0) else ([], at_, 13)
 | x :: xs, at_, S, O, out => if (vStep ks R at_ x.f0 x.f1 S O).1 = 0 then vLoop ks R xs (at_ + 1) (vStep ks R at_ x.f0 x.f1 S O).2.1 (vStep ks R at_ x.f0 x.f1 S O).2.2 (out ++ [S]) else ([], at_, (vStep ks R at_ x.f0 x.f1 S O).1)
theorem vinfoS : (Try.prog.info? 9).map (fun i => (i.zero, i.size, i.bytes)) = some (some (.string ⟨#[]⟩), 1, 16) := by kernel_rfl

theorem v_strR {w : World} {B : Nat} {v : Value} {xs : List ByteArray} (h : w.ownsRow B 9 1 v xs.length (pw_strs xs)) : Kd.R Kd.string 9 w B (fun _ => True) v xs := by
 refine ⟨fun _ _ => trivial, pw_strs xs, h, ?_, fun j p hj => ?_⟩
 ·simp only [pw_strs, List.length_map]; exact (Nat.mul_one _).symm
 ·have hj' : j < xs.length := (List.getElem?_eq_some_iff.1 hj).1
  have hp : xs[j] = p := (List.getElem?_eq_some_iff.1 hj).2
  show ((pw_strs xs).drop (j * 1)).take 1 = [Value.string p]
  rw [Nat.mul_one, List.drop_eq_getElem_cons (by simpa [pw_strs] using hj')]
  simp [pw_strs, hp]
theorem VS.grown {w w' : World} {B g nk ck : Nat} {ak : Option Addr} {R : Int} {S : ByteArray} {v u : Value} {O : List VO} {b n : Nat} {xs : List Value} (h : VS w B g ak nk ck R S v O) (hu : w.ownsRow b 9 1 u n xs) (hg : w.grownBy w' u.ownBlock) : VS w' B g ak nk ck R S v O :=
 ⟨blk_grown h.blk hg (own_ne hu h.blk (by decide)), own_other h.own hg (own_type_ne h.own hu (by decide)), h.ge⟩
theorem v_tri {a b c : Value} {a' b' c' : Value} (h1 : a = a') (h2 : b = b') (h3 : c = c') : Ending.returned (.tuple #[a, b, c]) = .returned (.tuple #[a', b', c']) := by rw [h1, h2, h3]
set_option maxHeartbeats 4000000 in
theorem vverify {w : World} {A0 A1 : Option Addr} {c0 c1 : Nat} {l0 : List S96} {l1 : List Int} {R : Int} {r1 : List ByteArray} {r2 r3 : Int} (hr0 : Kd.C k96 w A0 l0.length l0) (hc0 : l0.length ≤ c0) (hr1 : Kd.C (Kd.int .i64) w A1 l1.length l1) (hc1 : l1.length ≤ c1)
 (hl : l0.length ≤ 4096) (hv : ∀ x ∈ l0, vOK l1 x.f0 x.f1) (h : vLoop l1 R l0 0 ⟨#[]⟩ [] [] = (r1, r2, r3)) :
 Calls Try.prog 140 #[.slice A0 l0.length c0, .slice A1 l1.length c1, .int .i64 R] w fun e w' => ∃ v0_ : Value, e = .returned (.tuple #[v0_, .int .i64 r2, .int .i64 r3]) ∧ Kd.R Kd.string 9 w' w.heap.size (fun _ => True) v0_ r1 ∧ Below w.heap.size w w' := by
 have HR0 := zQ hr0
 have HR1 := zQ hr1
 have HC0 := zQ hc0
 have HC1 := zQ hc1
 have HV := zQ hv
 have HH := zQ h
 clear hr0 hr1 hc0 hc1 hv h
 go_enter Try.func140, Try.ntmps140
 go_wp2_with (first | ((with_reducible refine gate_dst (N := 17) rfl ?_); refine box_event ?hg (N := 17) ?hd (cs := #[.slice A1 l1.length c1, .int .i64 R, .string ⟨#[]⟩, .slice none 0 0]) (t := 232) ?hr ?_; (case hd => rfl); (case hg => rfl); (case hr => first | (go_simp; done) | (go_simp; rfl)); intro gb hg w2 hbox hb; have BK := zQ hbox; have HB := zQ hb; have HG := zQ hg; clear hb hbox hg))
 go_loopg [10, 21] (l0.length + 1) (fun kq v10 v21 w' => ∃ (k : Nat) (S : ByteArray) (v : Value) (O : List VO) (out : List ByteArray), v21 = .int .i64 k ∧ Aside0 (k ≤ l0.length ∧ kq + k = l0.length + 1) ∧ Aside0 (VS w' w.heap.size gb A1 l1.length c1 R S v O) ∧ Aside0 (vInv S O) ∧ Aside0 (w'.ownsRow w.heap.size 9 1 v10 out.length (pw_strs out)) ∧ Aside0 (out.length = k) ∧ Aside0 (Below w.heap.size w w') ∧ Aside0 (vLoop l1 R (l0.drop k) k S O out = (r1, r2, r3)))
 case atStart => exact ⟨0, ⟨#[]⟩, .slice none 0 0, [], [], by rfl, ⟨Nat.zero_le _, rfl⟩, ⟨⟨blk_alloc BK.out _, own_nil _ _ _ _, by have := HG.out; omega⟩⟩, ⟨⟨by decide, by decide, by simp⟩⟩, ⟨World.ownsRow_lit (base := w.heap.size) (e := 9) (size := 1) w2 #[] 0 (by have := HB.out.size; omega) (by decide) rfl⟩, ⟨rfl⟩, ⟨HB.out.alloc (by have := HB.out.size; omega) _⟩, by simpa using HH⟩
 case round =>
  obtain ⟨k, S, v, O, out, rfl, HK, HS, HI, HO, HN, HBL, HA⟩ := hrel
  by_cases hk : k < l0.length
  ·have hd : l0.drop k = rd_T96 l0 k :: l0.drop (k + 1) := by
    rw [List.drop_eq_getElem_cons hk]
    simp [rd_T96, List.getD_eq_getElem?_getD, List.getElem?_eq_getElem hk]
   have HX := HA.out
   rw [hd] at HX
   clear hd
   obtain ⟨ad, e0, hx0, hx1⟩ := at_T96 HR0.out (k : Int) (by omega) (by omega)
   cases e0
   replace hx0 := pw_cell_below' HBL.out hx0
   replace hx1 := pw_cell_below' HBL.out hx1
   simp only [Int.toNat_natCast] at hx0 hx1
   have hmem : rd_T96 l0 k ∈ l0 := by
    simp only [rd_T96, List.getD_eq_getElem?_getD, Int.toNat_natCast, List.getElem?_eq_getElem hk]
    exact List.getElem_mem hk
   have hok := HV.out _ hmem
   clear hmem
   generalize rd_T96 l0 k = x at *
   obtain ⟨op, a⟩ := x
   dsimp only at hx0 hx1 hok
   obtain ⟨c, S', O', hst⟩ : ∃ c S' O', vStep l1 R k op a S O = (c, S', O') := ⟨_, _, _, rfl⟩
   rw [vLoop] at HX
   dsimp only at HX
   rw [hst] at HX
   have hinv := fun e => vStep_inv (ks := l1) (R := R) (at_ := (k : Int)) (op := op) (a := a) HI.out e
   rw [hst] at hinv
   have STEP : Aside0 (∀ (W : World) (v : Value), VS W w.heap.size gb A1 l1.length c1 R S v O → Below w.heap.size w W → Calls Try.prog 210 #[.pointer (some ⟨gb, 0, none⟩), .int .i64 k, .agg #[.int .i64 op, .int .i64 a]] W fun e w' => e = .returned (.int .i64 c) ∧ ∃ v', VS w' w.heap.size gb A1 l1.length c1 R S' v' O' ∧ VF W w' gb v v') := by
    refine ⟨fun W v hs hb => ?_⟩
    have h := vstep hs hb.size (Kd.C_below HR1.out hb) HI.out (k : Int) op a hok
    rw [hst] at h
    exact h
   have HINV := zQ hinv
   have HS' := zQ hst
   have HOK := zQ hok
   clear hinv hst hok
   have hk1 := decide_eq_true hk
   have hcS : wr.cell? ⟨gb, 2, none⟩ = some (.string S) := HS.out.c2
   have hcSa : ∀ o, (wr.alloc o).cell? ⟨gb, 2, none⟩ = some (.string S) := fun o => (World.cell?_alloc_lt wr o _ HS.out.lt).trans hcS
   have HNB : Aside0 ((wr.alloc (.cells #[.int .i64 op, .int .i64 a] 96)).heap[wr.heap.size]? = some (.cells #[.int .i64 op, .int .i64 a] 96 (0, 0))) := ⟨blk_new wr _⟩
   cases gk with
   | zero => exact absurd HK.out.2 (by omega)
   | succ k1 =>
   by_cases hc : c = 0
   all_goals
    (first | (have hcb : (c != 0) = false := by simp [hc]) | (have hcb : (c != 0) = true := by simp [hc]))
    have HC := zQ hc
    have HHX := zQ HX
    clear hc HX
    go_wp2_with (first | ((with_reducible refine gate_dst (N := 32) rfl ?_); go_must (refine print_append_cells (W := wr.alloc (.cells #[.int .i64 op, .int .i64 a] 96)) (w0 := w) w.heap.size rfl (.tmp 26) (.tmp 31) 177 9 (.string ⟨#[]⟩) 1 16 rfl Try.underlying177 vinfoS rfl (by decide) (by decide) u10 out.length (pw_strs out) [.string S] rfl (by simp [Act.eval]) rfl (by simp [Value.oneCell']) (HO.out.alloc _) (HBL.out.alloc HBL.out.size _) (by have := HBL.out.size; simp; omega) (by have := HN.out; omega) ?_; intro vv w5 hown hbel hgrow hat; have hxa : w5.cell? ⟨wr.heap.size, 0, none⟩ = some (.int .i64 op) := hgrow.cell ((blk_cell HNB.out 0).trans rfl) (own_ne (HO.out.alloc _) HNB.out (by decide)); have hxb : w5.cell? ⟨wr.heap.size, 1, none⟩ = some (.int .i64 a) := hgrow.cell ((blk_cell HNB.out 1).trans rfl) (own_ne (HO.out.alloc _) HNB.out (by decide)); have HS5 := zQ ((HS.out.below (below_alloc (Below.refl _ _) _)).grown (HO.out.alloc _) hgrow); have HO5 := zQ hown; have HB5 := zQ hbel; clear hown hbel hgrow hat)) | (go_at_call 210; go_must ((with_reducible refine (STEP.out _ _ HS5.out HB5.out).mono ?_); rintro e w6 ⟨rfl, v', hvs, hvf⟩; have HS6 := zQ hvs; have HF6 := zQ hvf; clear hvs hvf)))
   ·have H0 := HHX.out
    rw [if_pos HC.out] at H0
    have HF := zQ H0
    clear H0
    have HOW : Aside0 (w6.ownsRow w.heap.size 9 1 vv (out ++ [S]).length (pw_strs (out ++ [S]))) := ⟨by have h := HF6.out.own HS5.out.blk HS5.out.own HO5.out (by decide) (by decide); simpa [pw_strs] using h⟩
    have HBW : Aside0 (Below w.heap.size w w6) := ⟨HB5.out.trans (HF6.out.below HS.out.ge (own_base HS5.out.own) HB5.out.size)⟩
    have HIW : Aside0 (vInv S' O') := ⟨HINV.out HC.out⟩
    go_roundg k1
    case measure => have := HK.out.2; omega
    case rel => exact ⟨k + 1, S', v', O', out ++ [S], by go_num, ⟨by have := HK.out.1; omega, by have := HK.out.2; omega⟩, HS6, HIW, HOW, ⟨by have := HN.out; simp; omega⟩, HBW, ⟨by have := HF.out; simpa using this⟩⟩
   ·have H0 := HHX.out
    rw [if_neg HC.out] at H0
    injection H0 with e1 e2
    injection e2 with e2 e3
    subst e1
    have E2 := zQ e2
    have E3 := zQ e3
    clear e2 e3
    have HBW : Aside0 (Below w.heap.size w w6) := ⟨HB5.out.trans (HF6.out.below HS.out.ge (own_base HS5.out.own) HB5.out.size)⟩
    go_ret3
    exact ⟨_, v_tri rfl (by rw [← E2.out]; rfl) (by rw [← E3.out]; rfl), Kd.R_nil _ _ _ _ _, HBW.out⟩
  ·have hke : k = l0.length := by have := HK.out.1; omega
   have HX := HA.out
   rw [hke, List.drop_length] at HX
   clear hke
   have hk1 : decide (k < l0.length) = false := decide_eq_false hk
   clear hk
   have hc3 := HS.out.c3
   have hc2 := HS.out.c2
   cases O with
   | cons o P =>
    simp only [vLoop] at HX
    obtain ⟨e1, e2, e3⟩ : [] = r1 ∧ o.at_ = r2 ∧ 14 = r3 := by simpa using HX
    subst e1
    have E2 := zQ e2
    have E3 := zQ e3
    clear e2 e3
    obtain ⟨q, cq, rfl, hq, _⟩ := HS.out.own.form (by simp)
    have hcc := (HS.out.own.cellAt (P.length * 4) (by simp)).trans (vcells_at o P 0 (by decide))
    have hn : P.length ≤ 4 := by have := HI.out.2.1; simp at this; omega
    clear hq
    have hc3' : wr.cell? ⟨gb, 3, none⟩ = some (.slice (some ⟨q, 0, none⟩) (P.length + 1) cq) := hc3
    have hcc' : wr.cell? ⟨q, P.length * 4, none⟩ = some (.int .i64 o.at_) := hcc
    clear hc3 hcc
    have hu := Try.underlying230
    go_wp2
    go_quiet (fail)
    go_wp2
    go_ret3
    exact ⟨_, v_tri rfl (by rw [← E2.out]; rfl) (by rw [← E3.out]; rfl), Kd.R_nil _ _ _ _ _, pw_below_drewN HBL.out _⟩
   | nil =>
    simp only [vLoop] at HX
    obtain ⟨A, cq, rfl⟩ := own_slice HS.out.own
    have hc3' : wr.cell? ⟨gb, 3, none⟩ = some (.slice A 0 cq) := hc3
    clear hc3
    by_cases hS : S.size = 0
    ·rw [if_pos hS] at HX
     injection HX with e1 e2
     injection e2 with e2 e3
     have E1 := zQ e1
     have E2 := zQ e2
     have E3 := zQ e3
     clear e1 e2 e3
     have hS' : S = ⟨#[]⟩ := ByteArray.ext (Array.eq_empty_of_size_eq_zero hS)
     subst hS'
     clear hS
     go_wp2_with (first | ((with_reducible refine gate_dst (N := 72) rfl ?_); go_must (refine print_append_cells (W := wr) (w0 := w) w.heap.size rfl (.tmp 70) (.tmp 71) 177 9 (.string ⟨#[]⟩) 1 16 rfl Try.underlying177 vinfoS rfl (by decide) (by decide) u10 out.length (pw_strs out) [.string ⟨#[]⟩] rfl (by simp [Act.eval]) rfl (by simp [Value.oneCell']) HO.out HBL.out HBL.out.size (by have := HN.out; have := HK.out.1; omega) ?_; intro vv w5 hown hbel hgrow hat; have HO5 := zQ hown; have HB5 := zQ hbel; clear hown hbel hgrow hat)))
     go_ret3
     exact ⟨_, v_tri rfl (by rw [← E2.out]; rfl) (by rw [← E3.out]; rfl), by rw [← E1.out]; exact v_strR (by have h := HO5.out; simpa [pw_strs] using h), HB5.out⟩
    ·rw [if_neg hS] at HX
     obtain ⟨e1, e2, e3⟩ : [] = r1 ∧ (l0.length : Int) = r2 ∧ 13 = r3 := by simpa using HX
     subst e1
     have E2 := zQ e2
     have E3 := zQ e3
     have hse : S.toList.isEmpty = false := by rw [ByteArray.toList_eq]; cases hh : S.data.toList with
      | nil => exact absurd (by have := congrArg List.length hh; simpa using this) hS
      | cons => rfl
     clear e2 e3 hS
     go_wp2_with (fail)
     go_ret3
     exact ⟨_, v_tri rfl (by rw [← E2.out]; rfl) (by rw [← E3.out]; rfl), Kd.R_nil _ _ _ _ _, HBL.out⟩

def impl_verify.f (l0 : List (S96)) (l1 : List Int) (a2 : Int) : Option ((List ByteArray) × Int × Int) := if l0.length ≤ 4096 ∧ (l0.all fun x => vOKb l1 x.f0 x.f1) = true then some (vLoop l1 a2 l0 0 ⟨#[]⟩ [] []) else none
theorem impl_verify.calls (A0 : Option Addr) (c0 : Nat) (l0 : List (S96)) (A1 : Option Addr) (c1 : Nat) (l1 : List Int) (a2 : Int) (r1 : List ByteArray) (r2 : Int) (r3 : Int) (w : World) (hr0 : Kd.C k96 w A0 l0.length l0) (hc0 : l0.length ≤ c0) (hr1 : Kd.C (Kd.int .i64) w A1 l1.length l1) (hc1 : l1.length ≤ c1) (h : impl_verify.f l0 l1 a2 = some (r1, r2, r3)) :
 Calls Try.prog 140 #[.slice A0 l0.length c0, .slice A1 l1.length c1, .int .i64 a2] w fun e w' => ∃ v0_ : Value, e = .returned (.tuple #[v0_, .int .i64 r2, .int .i64 r3]) ∧ Kd.R Kd.string 9 w' w.heap.size (fun _ => True) v0_ r1 ∧ Below w.heap.size w w' := by
 unfold impl_verify.f at h
 split at h
 ·rename_i hp
  exact vverify hr0 hc0 hr1 hc1 hp.1 (fun x hx => vOK_of (List.all_eq_true.1 hp.2 x hx)) (Option.some.inj h)
 ·cases h

end Go.Proofs.Ytkegjmkdnfpfdaa.MFnExactNewCore

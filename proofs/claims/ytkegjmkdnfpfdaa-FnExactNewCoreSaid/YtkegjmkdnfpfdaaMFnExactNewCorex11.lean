-- By a program of this session.
import Derived.Test.YtkegjmkdnfpfdaaMFnExactNewCorex0
import Derived.Test.YtkegjmkdnfpfdaaMFnExactNewCorex7
import Derived.Test.YtkegjmkdnfpfdaaMFnExactNewCorex8
import Derived.Test.YtkegjmkdnfpfdaaMFnExactNewCorex9
import Derived.Test.YtkegjmkdnfpfdaaMFnExactNewCorex10
namespace Go.Proofs.Ytkegjmkdnfpfdaa.MFnExactNewCore
open Go.RowKit Go.Proofs.YtkegjmkdnfpfdaaW.PrintWords Go.Proofs.YtkegjmkdnfpfdaaW.PrintLast Go.Proofs.YtkegjmkdnfpfdaaW.PrintMore
attribute [local go_sem] max2_int min2_int max_two min_two max_three min_three max_four min_four
set_option linter.unusedVariables false
set_option linter.unusedSimpArgs false
set_option maxHeartbeats 8000000
set_option maxRecDepth 100000


structure WS (w : World) (B g : Nat) (S : ByteArray) (v : Value) (O : List SO) : Prop where
 blk : w.heap[g]? = some (.cells #[.string S, v] 171 (0, 0))
 own : w.ownsRow B 174 3 v O.length (scells O)
 ge : B ≤ g
section
variable {w w' : World} {B g : Nat} {S : ByteArray} {v : Value} {O : List SO}
theorem WS.lt (h : WS w B g S v O) : g < w.heap.size := blk_lt h.blk
theorem WS.c0 (h : WS w B g S v O) : w.cell? ⟨g, 0, none⟩ = some (.string S) := (blk_cell h.blk 0).trans rfl
theorem WS.c1 (h : WS w B g S v O) : w.cell? ⟨g, 1, none⟩ = some v := (blk_cell h.blk 1).trans rfl
theorem WS.fz (h : WS w B g S v O) (j : Nat) : w.frozen? ⟨g, j, none⟩ = false := blk_frozen h.blk j
theorem WS.ne (h : WS w B g S v O) : some g ≠ v.ownBlock := own_ne h.own h.blk (by decide)
theorem WS.below (h : WS w B g S v O) (hb : Below w.heap.size w w') : WS w' B g S v O := ⟨blk_below h.blk hb, pw_own_below h.own hb, h.ge⟩
theorem WS.drewN (h : WS w B g S v O) (n : Nat) : WS (w.drewN n) B g S v O := ⟨h.blk, h.own, h.ge⟩
theorem WS.stack (h : WS w B g S v O) (S' : ByteArray) : WS (w.setCell ⟨g, 0, none⟩ (.string S')) B g S' v O := ⟨(blk_set h.blk 0 _).trans rfl, own_setCell h.own h.ne _, h.ge⟩
end
def MPost (w : World) (B g : Nat) (S : ByteArray) (v : Value) (r : Int × List SO) (e : Ending) (w' : World) : Prop :=
 e = .returned (.int .i64 r.1) ∧ ∃ v', WS w' B g S v' r.2 ∧ VF w w' g v v'
def TPost (w : World) (B g : Nat) (v : Value) (r : Int × ByteArray × List SO) (e : Ending) (w' : World) : Prop :=
 e = .returned (.int .i64 r.1) ∧ ∃ v', WS w' B g r.2.1 v' r.2.2 ∧ VF w w' g v v'
theorem sfloor {w : World} {B g : Nat} {S : ByteArray} {v : Value} {O : List SO} (hs : WS w B g S v O) (hi : sInv S O) :
 Calls Try.prog 208 #[.pointer (some ⟨g, 0, none⟩)] w fun e w' => e = .returned (.int .i64 (sBase O)) ∧ ∃ m, w' = w.drewN m := by
 cases O with
 | nil =>
  obtain ⟨A, c, rfl⟩ := own_slice hs.own
  exact sfloor0 w g A c hs.c1
 | cons o P =>
  obtain ⟨q, c, rfl, hq, _⟩ := hs.own.form (by simp)
  exact sfloorS w g q P.length c o.stack (by have := hi.2.1; simp at this; omega) (hi.2.2 o (by simp)) hs.c1 ((hs.own.cellAt (P.length * 3 + 2) (by simp; omega)).trans (scells_at o P 2 (by decide)))
theorem snest {w : World} {B g : Nat} {S : ByteArray} {v : Value} {O : List SO} (hs : WS w B g S v O) (hB : B ≤ w.heap.size) (hi : sInv S O) (at_ op a : Int) (hr : 21 ≤ op ∧ op ≤ 24) :
 Calls Try.prog 209 #[.pointer (some ⟨g, 0, none⟩), .agg #[.int .i64 op, .int .i64 a], .int .i64 at_] w (MPost w B g S v (sNest at_ op S O)) := by
 have same : ∀ (c : Int), (∀ e w', e = .returned (.int .i64 c) ∧ Below w.heap.size w w' → MPost w B g S v (c, O) e w') := by
  rintro c e w' ⟨rfl, hb⟩
  exact ⟨rfl, v, hs.below hb, VF.of_below hb g v⟩
 by_cases h1 : op = 21 ∨ op = 24
 ·by_cases h4 : O.length = 4
  ·rw [show sNest at_ op S O = (17, O) from by unfold sNest; rw [if_pos h1, if_pos h4]]
   obtain ⟨A, c, rfl⟩ := own_slice hs.own
   have c1 := hs.c1
   rw [h4] at c1
   rcases h1 with rfl | rfl
   ·exact (snest_deep21 w g c A at_ a c1).mono (same 17)
   ·exact (snest_deep24 w g c A at_ a c1).mono (same 17)
  ·rw [show sNest at_ op S O = (0, ⟨at_, op, S⟩ :: O) from by unfold sNest; rw [if_pos h1, if_neg h4]]
   have hn : O.length < 4 := by have := hi.2.1; omega
   have fin : ∀ (e : Ending) (w' : World), (e = .returned (.int .i64 0) ∧ ∃ W w1 v1, Below w.heap.size w W ∧ w1.ownsRow B 174 3 v1 (O.length + 1) (scells O ++ [.int .i64 at_, .int .i64 op, .string S]) ∧ W.grownBy w1 v.ownBlock ∧ (v1.ownBlock = v.ownBlock ∨ ∃ b, v1.ownBlock = some b ∧ W.heap.size ≤ b) ∧ w' = w1.setCell ⟨g, 1, none⟩ v1) → MPost w B g S v (0, ⟨at_, op, S⟩ :: O) e w' := by
    rintro e w' ⟨rfl, W, w1, v1, hb, ho, hg, ha, rfl⟩
    have hb1 : w1.heap[g]? = some (.cells #[.string S, v] 171 (0, 0)) := blk_grown (hs.below hb).blk hg hs.ne
    refine ⟨rfl, v1, ⟨(blk_set hb1 1 _).trans rfl, own_setCell ho (own_ne ho hb1 (by decide)) _, hs.ge⟩, ?_⟩
    exact ((VF.of_grown hg ha).set 1 v1 v1 rfl).before hb
   obtain ⟨A, c, rfl⟩ := own_slice hs.own
   rcases h1 with rfl | rfl
   ·exact (snest_push21 w B g O.length _ at_ a S _ hn hi.1 hB hs.c0 hs.c1 (hs.fz 1) (fun e => hs.ne e.symm) ⟨A, c, rfl⟩ hs.own).mono fin
   ·exact (snest_push24 w B g O.length _ at_ a S _ hn hi.1 hB hs.c0 hs.c1 (hs.fz 1) (fun e => hs.ne e.symm) ⟨A, c, rfl⟩ hs.own).mono fin
 have h23 : op = 22 ∨ op = 23 := by omega
 cases O with
 | nil =>
  rw [show sNest at_ op S [] = (14, []) from by unfold sNest; rw [if_neg h1]]
  obtain ⟨A, c, rfl⟩ := own_slice hs.own
  rcases h23 with rfl | rfl
  ·exact (snest_none22 w g c A at_ a hs.c1).mono (same 14)
  ·exact (snest_none23 w g c A at_ a hs.c1).mono (same 14)
 | cons o P =>
  obtain ⟨q, c, rfl, hq, _⟩ := hs.own.form (by simp)
  have hn : P.length ≤ 4 := by have := hi.2.1; simp at this; omega
  have ht : o.stack.size ≤ 8 := hi.2.2 o (by simp)
  have hc := fun (j : Nat) (hj : j < 3) => (hs.own.cellAt (P.length * 3 + j) (by simp; omega)).trans (scells_at o P j hj)
  have h5 : sNest at_ op S (o :: P) = if op = 22 ∧ o.op ≠ 21 then (14, o :: P) else if S = o.stack then (if op = 22 then (0, { o with op := 22 } :: P) else (0, P)) else (13, o :: P) := by unfold sNest; rw [if_neg h1]
  rw [h5]
  have hne : ∀ {T : ByteArray}, ¬ S = T → (!S.toList == T.toList) = true := by
   intro T hT
   cases hh : (!S.toList == T.toList) with
   | true => rfl
   | false => exact absurd (v_eq hh) hT
  rcases h23 with rfl | rfl
  ·by_cases hb : o.op = 21
   ·rw [if_neg (by simp [hb])]
    have c1 : w.cell? ⟨q, P.length * 3 + 1, none⟩ = some (.int .i64 21) := by rw [← hb]; exact hc 1 (by decide)
    by_cases he : S = o.stack
    ·rw [if_pos he, if_pos rfl]
     refine (snest_else w g q P.length c at_ a S hn hi.1 hs.c0 hs.c1 c1 (by rw [he]; exact hc 2 (by decide)) (hs.own.frozenAt _)).mono ?_
     rintro e w' ⟨rfl, W, hbW, rfl⟩
     have hsW := hs.below hbW
     have hgq : g ≠ q := fun e => hs.ne (by rw [e]; rfl)
     obtain ⟨st, sg⟩ := hsW.own.stored (P.length * 3 + 1) (.int .i64 22)
     rw [scells_else] at st
     exact ⟨rfl, _, (⟨blk_far hsW.blk hgq _, st, hs.ge⟩ : WS _ B g S _ ({ o with op := 22 } :: P)), (VF.of_grown sg (.inl rfl)).before hbW⟩
    ·rw [if_neg he]
     exact (snest_st22 w g q P.length c at_ a S o.stack hn hi.1 ht hs.c0 hs.c1 c1 (hc 2 (by decide)) (hne he)).mono (same 13)
   ·rw [if_pos ⟨rfl, hb⟩]
    exact (snest_bad22 w g q P.length c at_ a o.op hn hs.c1 (hc 1 (by decide)) (by simpa using hb)).mono (same 14)
  ·rw [if_neg (by rintro ⟨e, _⟩; exact absurd e (by decide) : ¬ ((23 : Int) = 22 ∧ o.op ≠ 21))]
   by_cases he : S = o.stack
   ·rw [if_pos he, if_neg (by decide)]
    refine (snest_end w g q P.length c at_ a S hn hi.1 hs.c0 hs.c1 (by rw [he]; exact hc 2 (by decide)) (hs.fz 1) (own_le hs.own)).mono ?_
    rintro e w' ⟨rfl, W, hbW, rfl⟩
    have hsW := hs.below hbW
    have hp : W.ownsRow B 174 3 (.slice (some ⟨q, 0, none⟩) P.length c) P.length (scells P) := ownsRow_pop (scells_length P) hsW.own
    exact ⟨rfl, _, (⟨(blk_set hsW.blk 1 _).trans rfl, own_setCell hp hsW.ne _, hs.ge⟩ : WS _ B g S _ P), ((VF.refl W g (.slice (some ⟨q, 0, none⟩) (P.length + 1) c)).set 1 (.slice (some ⟨q, 0, none⟩) P.length c) (.slice (some ⟨q, 0, none⟩) P.length c) rfl).before hbW⟩
   ·rw [if_neg he]
    exact (snest_st23 w g q P.length c at_ a S o.stack hn hi.1 ht hs.c0 hs.c1 (hc 2 (by decide)) (hne he)).mono (same 13)
theorem seff {w : World} {c : Nat} {ak : Option Addr} {ks : List Int} {op a : Int} (hC : Kd.C (Kd.int .i64) w ak ks.length ks) (hv : vOK ks op a) (hg : ¬ ((op = 19 ∨ op = 20) ∧ (ks.length : Int) ≤ a)) :
 Calls Try.prog 187 #[.agg #[.int .i64 op, .int .i64 a], .slice ak ks.length c] w fun e w' => e = .returned (.tuple #[.string (vEff ks op a).1, .string (vEff ks op a).2]) ∧ Below w.heap.size w w' := by
 obtain ⟨v1, v2, v3, v4⟩ := hv
 have hc : op = 1 ∨ op = 2 ∨ op = 3 ∨ op = 4 ∨ op = 5 ∨ op = 6 ∨ op = 7 ∨ op = 8 ∨ op = 9 ∨ op = 10 ∨ op = 11 ∨ op = 12 ∨ op = 13 ∨ op = 14 ∨ op = 15 ∨ op = 16 ∨ op = 17 ∨ op = 18 ∨ op = 19 ∨ op = 20 ∨ op = 21 ∨ op = 22 ∨ op = 23 ∨ op = 24 ∨ op = 25 ∨ op = 26 := by omega
 rcases hc with rfl | rfl | rfl | rfl | rfl | rfl | rfl | rfl | rfl | rfl | rfl | rfl | rfl | rfl | rfl | rfl | rfl | rfl | rfl | rfl | rfl | rfl | rfl | rfl | rfl | rfl
 ·exact seff_1 w _ c _ a
 ·exact seff_2 w _ c _ a
 ·exact seff_3 w _ c _ a
 ·exact seff_4 w _ c _ a
 ·exact seff_5 w _ c _ a
 ·exact seff_6 w _ c _ a
 ·exact seff_7 w _ c _ a
 ·exact seff_8 w _ c _ a
 ·exact seff_9 w _ c _ a
 ·exact seff_10 w _ c _ a
 ·exact seff_11 w _ c _ a
 ·exact seff_12 w _ c _ a
 ·exact seff_13 w _ c _ a
 ·exact seff_14 w _ c _ a
 ·exact seff_15 w _ c _ a
 ·exact seff_16 w _ c _ a
 ·exact seff_17 w _ c _ a
 ·exact seff_18 w _ c _ a
 ·have a0 := v3 (.inl rfl)
  have a1 : a < (ks.length : Int) := by omega
  obtain ⟨ad, rfl, hx⟩ := Kd.at_int hC a a0 a1
  obtain ⟨n, rfl⟩ : ∃ n : Nat, a = n := ⟨a.toNat, by omega⟩
  have hn : n < ks.length := by omega
  have hx' : w.cell? (ad.add n) = some (.int .i64 (rd ks n)) := by simpa using hx
  have hk : 1 ≤ rd ks n ∧ rd ks n ≤ 4 := by
   apply v4
   unfold rd
   rw [List.getD_eq_getElem?_getD, Int.toNat_natCast, List.getElem?_eq_getElem hn]
   exact List.getElem_mem hn
  have hc : rd ks n = 1 ∨ rd ks n = 2 ∨ rd ks n = 3 ∨ rd ks n = 4 := by omega
  have he : vEff ks 19 (n : Int) = (vTakes (rd ks n), ⟨#[98]⟩) := rfl
  rw [he]
  rcases hc with hc | hc | hc | hc
  all_goals rw [hc] at hx'; rw [hc]
  ·exact seff_19_1 w _ c ad n hn hx'
  ·exact seff_19_2 w _ c ad n hn hx'
  ·exact seff_19_3 w _ c ad n hn hx'
  ·exact seff_19_4 w _ c ad n hn hx'
 ·exact seff_20 w _ c _ a
 ·exact seff_21 w _ c _ a
 ·exact seff_22 w _ c _ a
 ·exact seff_23 w _ c _ a
 ·exact seff_24 w _ c _ a
 ·exact seff_25 w _ c _ a
 ·exact seff_26 w _ c _ a

theorem sguard_19 (w : World) (g nk ck : Nat) (ak : Option Addr) (R at_ a : Int) (ga : decide (a ≥ (nk : Int)) = true) :
 Calls Try.prog 137 #[.pointer (some ⟨g, 0, none⟩), .agg #[.int .i64 19, .int .i64 a], .int .i64 at_, .slice ak nk ck, .int .i64 R] w fun e w' => e = .returned (.int .i64 5) ∧ Below w.heap.size w w' := by
 go_enter Try.func137, Try.ntmps137
 go_wp2
 go_ret
 exact ⟨rfl, by repeat (first | exact below_alloc (Below.refl _ _) _ | apply pw_below_drewN)⟩
theorem sguard_20 (w : World) (g nk ck : Nat) (ak : Option Addr) (R at_ a : Int) (ga : decide (a ≥ (nk : Int)) = true) :
 Calls Try.prog 137 #[.pointer (some ⟨g, 0, none⟩), .agg #[.int .i64 20, .int .i64 a], .int .i64 at_, .slice ak nk ck, .int .i64 R] w fun e w' => e = .returned (.int .i64 5) ∧ Below w.heap.size w w' := by
 go_enter Try.func137, Try.ntmps137
 go_wp2
 go_ret
 exact ⟨rfl, by repeat (first | exact below_alloc (Below.refl _ _) _ | apply pw_below_drewN)⟩
theorem sguard_26 (w : World) (g nk ck : Nat) (ak : Option Addr) (R at_ a : Int) (ga : decide (a ≥ R) = true) :
 Calls Try.prog 137 #[.pointer (some ⟨g, 0, none⟩), .agg #[.int .i64 26, .int .i64 a], .int .i64 at_, .slice ak nk ck, .int .i64 R] w fun e w' => e = .returned (.int .i64 15) ∧ Below w.heap.size w w' := by
 go_enter Try.func137, Try.ntmps137
 go_wp2
 go_ret
 exact ⟨rfl, by repeat (first | exact below_alloc (Below.refl _ _) _ | apply pw_below_drewN)⟩
set_option maxHeartbeats 1000000 in
theorem sstep {w : World} {B g ck : Nat} {ak : Option Addr} {ks : List Int} {S : ByteArray} {v : Value} {O : List SO} (hs : WS w B g S v O) (hB : B ≤ w.heap.size) (hC : Kd.C (Kd.int .i64) w ak ks.length ks) (hi : sInv S O) (R at_ op a : Int) (hv : vOK ks op a) :
 Calls Try.prog 137 #[.pointer (some ⟨g, 0, none⟩), .agg #[.int .i64 op, .int .i64 a], .int .i64 at_, .slice ak ks.length ck, .int .i64 R] w (TPost w B g v (sStep ks R at_ op a S O)) := by
 have same : ∀ (c : Int), (∀ e w', e = .returned (.int .i64 c) ∧ Below w.heap.size w w' → TPost w B g v (c, S, O) e w') := by
  rintro c e w' ⟨rfl, hb⟩
  exact ⟨rfl, v, hs.below hb, VF.of_below hb g v⟩
 by_cases h1 : (op = 19 ∨ op = 20) ∧ (ks.length : Int) ≤ a
 ·rw [show sStep ks R at_ op a S O = (5, S, O) from by unfold sStep; rw [if_pos h1]]
  obtain ⟨h1 | h1, h2⟩ := h1
  ·subst h1
   exact (sguard_19 w g _ ck ak R at_ a (decide_eq_true h2)).mono (same 5)
  ·subst h1
   exact (sguard_20 w g _ ck ak R at_ a (decide_eq_true h2)).mono (same 5)
 by_cases h2 : op = 26 ∧ R ≤ a
 ·rw [show sStep ks R at_ op a S O = (15, S, O) from by unfold sStep; rw [if_neg h1, if_pos h2]]
  obtain ⟨rfl, h2⟩ := h2
  exact (sguard_26 w g _ ck ak R at_ a (decide_eq_true h2)).mono (same 15)
 have hz := vEff_size ks op a
 have hb := sBase_range hi
 have hE : Aside0 (∀ W : World, Below w.heap.size w W → Calls Try.prog 187 #[.agg #[.int .i64 op, .int .i64 a], .slice ak ks.length ck] W fun e w' => e = .returned (.tuple #[.string (vEff ks op a).1, .string (vEff ks op a).2]) ∧ Below W.heap.size W w') :=
  ⟨fun W hb => seff (Kd.C_below hC hb) hv h1⟩
 have hFl : Aside0 (∀ W : World, Below w.heap.size w W → Calls Try.prog 208 #[.pointer (some ⟨g, 0, none⟩)] W fun e w' => e = .returned (.int .i64 (sBase O)) ∧ ∃ m, w' = W.drewN m) :=
  ⟨fun W hb => sfloor (hs.below hb) hi⟩
 have err : ∀ (T : ByteArray) (cc : Int), (cc != 0) = true → Aside0 (∀ W : World, Calls Try.prog 207 #[.string S, .string (vEff ks op a).1, .int .i64 (sBase O)] W fun e w' => e = .returned (.tuple #[.string T, .int .i64 cc]) ∧ w' = W) →
  Calls Try.prog 137 #[.pointer (some ⟨g, 0, none⟩), .agg #[.int .i64 op, .int .i64 a], .int .i64 at_, .slice ak ks.length ck, .int .i64 R] w (TPost w B g v (cc, S, O)) := by
  intro T cc hcc hT
  have hK : Aside0 (∀ W : World, Below w.heap.size w W → TPost w B g v (cc, S, O) (.returned (.int .i64 cc)) W) := ⟨fun W hb => same cc _ _ ⟨rfl, hb⟩⟩
  by_cases e19 : op = 19
  ·subst e19
   exact sstep_19_err w g _ ck ak R at_ a _ cc S _ _ T _ hs.c0 (hs.fz 0) (decide_eq_false (fun e => h1 ⟨.inl rfl, e⟩)) hz.2 hE hFl hT hcc hK
  by_cases e20 : op = 20
  ·subst e20
   exact sstep_20_err w g _ ck ak R at_ a _ cc S _ _ T _ hs.c0 (hs.fz 0) (decide_eq_false (fun e => h1 ⟨.inr rfl, e⟩)) hz.2 hE hFl hT hcc hK
  by_cases e26 : op = 26
  ·subst e26
   exact sstep_26_err w g _ ck ak R at_ a _ cc S _ _ T _ hs.c0 (hs.fz 0) (decide_eq_false (fun e => h2 ⟨rfl, e⟩)) hz.2 hE hFl hT hcc hK
  exact sstep_o_err w g _ ck ak R at_ op a _ cc S _ _ T _ hs.c0 (hs.fz 0) (by simpa using e19) (by simpa using e20) (by simpa using e26) hz.2 hE hFl hT hcc hK
 by_cases h3 : (S.size : Int) - sBase O < ((vEff ks op a).1.size : Int)
 ·rw [show sStep ks R at_ op a S O = (13, S, O) from by unfold sStep; rw [if_neg h1, if_neg h2, if_pos h3]]
  exact err _ 13 (by decide) ⟨fun W => stake_lo W S _ _ hi.1 hz.1 hb.1 hb.2 (decide_eq_true h3)⟩
 have hle : (vEff ks op a).1.size ≤ S.size := by omega
 by_cases h4 : S.extract (S.size - (vEff ks op a).1.size) S.size = (vEff ks op a).1
 case neg =>
  rw [show sStep ks R at_ op a S O = (12, S, O) from by unfold sStep; rw [if_neg h1, if_neg h2, if_neg h3, if_neg h4]]
  exact err _ 12 (by decide) ⟨fun W => (stake W S _ _ hi.1 hz.1 hb.1 hb.2 hle (decide_eq_false h3)).mono fun e w' h => ⟨h.2.1 h4, h.2.2⟩⟩
 obtain ⟨T, hTT⟩ : ∃ T, T = S.extract 0 (S.size - (vEff ks op a).1.size) := ⟨_, rfl⟩
 have hT : Aside0 (∀ W : World, Calls Try.prog 207 #[.string S, .string (vEff ks op a).1, .int .i64 (sBase O)] W fun e w' => e = .returned (.tuple #[.string T, .int .i64 0]) ∧ w' = W) :=
  ⟨fun W => (stake W S _ _ hi.1 hz.1 hb.1 hb.2 hle (decide_eq_false h3)).mono fun e w' h => ⟨by rw [hTT]; exact h.1 h4, h.2.2⟩⟩
 have hts : T.size = S.size - (vEff ks op a).1.size := by rw [hTT, ByteArray.size_extract]; omega
 have hst : sStep ks R at_ op a S O = (if T.size + (vEff ks op a).2.size ≤ 8 then
  (if 21 ≤ op ∧ op ≤ 24 then ((sNest at_ op (T ++ (vEff ks op a).2) O).1, T ++ (vEff ks op a).2, (sNest at_ op (T ++ (vEff ks op a).2) O).2) else (0, T ++ (vEff ks op a).2, O))
  else (7, S, O)) := by unfold sStep; rw [if_neg h1, if_neg h2, if_neg h3, if_pos h4, hts, hTT]
 rw [hst]
 clear hst err hTT h4
 generalize hP : (vEff ks op a).1 = P at *
 generalize hQ : (vEff ks op a).2 = Q at *
 have hi' : T.size + Q.size ≤ 8 → sInv (T ++ Q) O := fun h => ⟨by rw [ByteArray.size_append]; exact h, hi.2.1, hi.2.2⟩
 have h7 : Aside0 (8 < T.size + Q.size → ∀ W : World, Below w.heap.size w W → TPost w B g v (if T.size + Q.size ≤ 8 then (if 21 ≤ op ∧ op ≤ 24 then ((sNest at_ op (T ++ Q) O).1, T ++ Q, (sNest at_ op (T ++ Q) O).2) else (0, T ++ Q, O)) else (7, S, O)) (.returned (.int .i64 7)) W) := by
  refine ⟨fun e1 W hb => ?_⟩
  rw [if_neg (by omega)]
  exact same 7 _ _ ⟨rfl, hb⟩
 have htl : T.size ≤ 8 := by have := hi.1; omega
 by_cases hr : 21 ≤ op ∧ op ≤ 24
 ·have hN : Aside0 (T.size + Q.size ≤ 8 → ∀ W : World, Below w.heap.size w W → Calls Try.prog 209 #[.pointer (some ⟨g, 0, none⟩), .agg #[.int .i64 op, .int .i64 a], .int .i64 at_] (W.setCell ⟨g, 0, none⟩ (.string (T ++ Q))) fun e w' => ∃ c : Int, e = .returned (.int .i64 c) ∧ TPost w B g v (if T.size + Q.size ≤ 8 then (if 21 ≤ op ∧ op ≤ 24 then ((sNest at_ op (T ++ Q) O).1, T ++ Q, (sNest at_ op (T ++ Q) O).2) else (0, T ++ Q, O)) else (7, S, O)) e w') := by
   refine ⟨fun e1 W hb => ?_⟩
   rw [if_pos e1, if_pos hr]
   have hs1 := (hs.below hb).stack (T ++ Q)
   refine (snest hs1 (by have := hb.size; simp [World.setCell]; omega) (hi' e1) at_ op a hr).mono ?_
   rintro e w' ⟨rfl, v', hv', hf⟩
   refine ⟨_, rfl, rfl, v', hv', ?_⟩
   exact hf.after (fun i hi1 hig => (Below.heap_setCell _ _ _ _ hig).trans (hb.block i hi1)) hb.os hb.tape hb.output (by have := hb.size; simp [World.setCell]; omega)
  exact sstep_o_nest w g _ ck ak R at_ op a _ 0 S _ _ T _ hs.c0 (hs.fz 0) (by simp; omega) (by simp; omega) (by simp; omega) hz.2 hE hFl hT (by decide) htl h7 ⟨hr⟩ hN
 ·have hZ : Aside0 (T.size + Q.size ≤ 8 → ∀ W : World, Below w.heap.size w W → TPost w B g v (if T.size + Q.size ≤ 8 then (if 21 ≤ op ∧ op ≤ 24 then ((sNest at_ op (T ++ Q) O).1, T ++ Q, (sNest at_ op (T ++ Q) O).2) else (0, T ++ Q, O)) else (7, S, O)) (.returned (.int .i64 0)) (W.setCell ⟨g, 0, none⟩ (.string (T ++ Q)))) := by
   refine ⟨fun e1 W hb => ?_⟩
   rw [if_pos e1, if_neg hr]
   exact ⟨rfl, v, (hs.below hb).stack _, (VF.of_below hb g v).set 0 _ v rfl⟩
  by_cases e19 : op = 19
  ·subst e19
   exact sstep_19_flat w g _ ck ak R at_ a _ 0 S _ _ T _ hs.c0 (hs.fz 0) (decide_eq_false (fun e => h1 ⟨.inl rfl, e⟩)) hz.2 hE hFl hT (by decide) htl h7 hZ
  by_cases e20 : op = 20
  ·subst e20
   exact sstep_20_flat w g _ ck ak R at_ a _ 0 S _ _ T _ hs.c0 (hs.fz 0) (decide_eq_false (fun e => h1 ⟨.inr rfl, e⟩)) hz.2 hE hFl hT (by decide) htl h7 hZ
  by_cases e26 : op = 26
  ·subst e26
   exact sstep_26_flat w g _ ck ak R at_ a _ 0 S _ _ T _ hs.c0 (hs.fz 0) (decide_eq_false (fun e => h2 ⟨rfl, e⟩)) hz.2 hE hFl hT (by decide) htl h7 hZ
  exact sstep_o_flat w g _ ck ak R at_ op a _ 0 S _ _ T _ hs.c0 (hs.fz 0) (by simpa using e19) (by simpa using e20) (by simpa using e26) hz.2 hE hFl hT (by decide) htl h7 ⟨hr⟩ hZ

end Go.Proofs.Ytkegjmkdnfpfdaa.MFnExactNewCore

-- Text written by a program of this session (wip/tools: the kit's printer with additions of ours).
import Derived.Test.YtjgdfbcjlebniaaMFnExactVerifyCodex0
import Derived.Test.YtjgdfbcjlebniaaMFnExactVerifyCodex2
import Derived.Test.YtjgdfbcjlebniaaMFnExactVerifyCodex3
namespace Go.Proofs.Ytjgdfbcjlebniaa.MFnExactVerifyCode
open Go.RowKit Go.Proofs.YtjgdfbcjlebniaaW.PrintWords Go.Proofs.YtjgdfbcjlebniaaW.PrintLast Go.Proofs.YtjgdfbcjlebniaaW.PrintMore
attribute [local go_sem] max2_int min2_int max_two min_two max_three min_three max_four min_four   -- for this text's walks alone
set_option linter.unusedVariables false
set_option linter.unusedSimpArgs false


structure WS (w : World) (B g : Nat) (S : ByteArray) (v : Value) (O : List SO) : Prop where
  blk : w.heap[g]? = some (.cells #[.string S, v] 110 (0, 0))
  own : w.ownsRow B 131 3 v O.length (scells O)
  ge : B ≤ g
section
variable {w w' : World} {B g : Nat} {S : ByteArray} {v : Value} {O : List SO}
theorem WS.lt (h : WS w B g S v O) : g < w.heap.size := blk_lt h.blk
theorem WS.c0 (h : WS w B g S v O) : w.cell? ⟨g, 0, none⟩ = some (.string S) := (blk_cell h.blk 0).trans rfl
theorem WS.c1 (h : WS w B g S v O) : w.cell? ⟨g, 1, none⟩ = some v := (blk_cell h.blk 1).trans rfl
theorem WS.fz (h : WS w B g S v O) (j : Nat) : w.frozen? ⟨g, j, none⟩ = false := blk_frozen h.blk j
theorem WS.ne (h : WS w B g S v O) : some g ≠ v.ownBlock := own_ne h.own h.blk (by decide)
theorem WS.below (h : WS w B g S v O) (hb : Below w.heap.size w w') : WS w' B g S v O := ⟨blk_below h.blk hb, pw_own_below h.own hb, h.ge⟩
theorem WS.drewN (h : WS w B g S v O) (n : Nat) : WS (w.drewN n) B g S v O := ⟨h.blk, h.own, h.ge⟩
theorem WS.stack (h : WS w B g S v O) (S' : ByteArray) : WS (w.setCell ⟨g, 0, none⟩ (.string S')) B g S' v O := ⟨(blk_set h.blk 0 _).trans rfl, own_setCell h.own h.ne _, h.ge⟩
end
def MPost (w : World) (B g : Nat) (S : ByteArray) (v : Value) (r : Int × List SO) (e : Ending) (w' : World) : Prop :=
  e = .returned (.int .i64 r.1) ∧ ∃ v', WS w' B g S v' r.2 ∧ VF w w' g v v'
def TPost (w : World) (B g : Nat) (v : Value) (r : Int × ByteArray × List SO) (e : Ending) (w' : World) : Prop :=
  e = .returned (.int .i64 r.1) ∧ ∃ v', WS w' B g r.2.1 v' r.2.2 ∧ VF w w' g v v'
theorem sfloor {w : World} {B g : Nat} {S : ByteArray} {v : Value} {O : List SO} (hs : WS w B g S v O) (hi : sInv S O) :
    Calls Try.prog 120 #[.pointer (some ⟨g, 0, none⟩)] w fun e w' => e = .returned (.int .i64 (sBase O)) ∧ ∃ m, w' = w.drewN m := by
  cases O with
  | nil =>
    obtain ⟨A, c, rfl⟩ := own_slice hs.own
    exact sfloor0 w g A c hs.c1
  | cons o P =>
    obtain ⟨q, c, rfl, hq, _⟩ := hs.own.form (by simp)
    exact sfloorS w g q P.length c o.stack (by have := hi.2.1; simp at this; omega) (hi.2.2 o (by simp)) hs.c1 ((hs.own.cellAt (P.length * 3 + 2) (by simp; omega)).trans (scells_at o P 2 (by decide)))
theorem snest {w : World} {B g : Nat} {S : ByteArray} {v : Value} {O : List SO} (hs : WS w B g S v O) (hB : B ≤ w.heap.size) (hi : sInv S O) (at_ op a : Int) (hr : 21 ≤ op ∧ op ≤ 24) :
    Calls Try.prog 121 #[.pointer (some ⟨g, 0, none⟩), .agg #[.int .i64 op, .int .i64 a], .int .i64 at_] w (MPost w B g S v (sNest at_ op S O)) := by
  have same : ∀ (c : Int), (∀ e w', e = .returned (.int .i64 c) ∧ Below w.heap.size w w' → MPost w B g S v (c, O) e w') := by
    rintro c e w' ⟨rfl, hb⟩
    exact ⟨rfl, v, hs.below hb, VF.of_below hb g v⟩
  by_cases h1 : op = 21 ∨ op = 24
  · by_cases h4 : O.length = 4
    · rw [show sNest at_ op S O = (17, O) from by unfold sNest; rw [if_pos h1, if_pos h4]]
      obtain ⟨A, c, rfl⟩ := own_slice hs.own
      have c1 := hs.c1
      rw [h4] at c1
      rcases h1 with rfl | rfl
      · exact (snest_deep21 w g c A at_ a c1).mono (same 17)
      · exact (snest_deep24 w g c A at_ a c1).mono (same 17)
    · rw [show sNest at_ op S O = (0, ⟨at_, op, S⟩ :: O) from by unfold sNest; rw [if_pos h1, if_neg h4]]
      have hn : O.length < 4 := by have := hi.2.1; omega
      have fin : ∀ (e : Ending) (w' : World), (e = .returned (.int .i64 0) ∧ ∃ W w1 v1, Below w.heap.size w W ∧ w1.ownsRow B 131 3 v1 (O.length + 1) (scells O ++ [.int .i64 at_, .int .i64 op, .string S]) ∧ W.grownBy w1 v.ownBlock ∧ (v1.ownBlock = v.ownBlock ∨ ∃ b, v1.ownBlock = some b ∧ W.heap.size ≤ b) ∧ w' = w1.setCell ⟨g, 1, none⟩ v1) → MPost w B g S v (0, ⟨at_, op, S⟩ :: O) e w' := by
        rintro e w' ⟨rfl, W, w1, v1, hb, ho, hg, ha, rfl⟩
        have hb1 : w1.heap[g]? = some (.cells #[.string S, v] 110 (0, 0)) := blk_grown (hs.below hb).blk hg hs.ne
        refine ⟨rfl, v1, ⟨(blk_set hb1 1 _).trans rfl, own_setCell ho (own_ne ho hb1 (by decide)) _, hs.ge⟩, ?_⟩
        exact ((VF.of_grown hg ha).set 1 v1 v1 rfl).before hb
      obtain ⟨A, c, rfl⟩ := own_slice hs.own
      rcases h1 with rfl | rfl
      · exact (snest_push21 w B g O.length _ at_ a S _ hn hi.1 hB hs.c0 hs.c1 (hs.fz 1) (fun e => hs.ne e.symm) ⟨A, c, rfl⟩ hs.own).mono fin
      · exact (snest_push24 w B g O.length _ at_ a S _ hn hi.1 hB hs.c0 hs.c1 (hs.fz 1) (fun e => hs.ne e.symm) ⟨A, c, rfl⟩ hs.own).mono fin
  have h23 : op = 22 ∨ op = 23 := by omega
  cases O with
  | nil =>
    rw [show sNest at_ op S [] = (14, []) from by unfold sNest; rw [if_neg h1]]
    obtain ⟨A, c, rfl⟩ := own_slice hs.own
    rcases h23 with rfl | rfl
    · exact (snest_none22 w g c A at_ a hs.c1).mono (same 14)
    · exact (snest_none23 w g c A at_ a hs.c1).mono (same 14)
  | cons o P =>
    obtain ⟨q, c, rfl, hq, _⟩ := hs.own.form (by simp)
    have hn : P.length ≤ 4 := by have := hi.2.1; simp at this; omega
    have ht : o.stack.size ≤ 8 := hi.2.2 o (by simp)
    have hc := fun (j : Nat) (hj : j < 3) => (hs.own.cellAt (P.length * 3 + j) (by simp; omega)).trans (scells_at o P j hj)
    have h5 : sNest at_ op S (o :: P) = if op = 22 ∧ o.op ≠ 21 then (14, o :: P) else if S = o.stack then (if op = 22 then (0, { o with op := 22 } :: P) else (0, P)) else (13, o :: P) := by unfold sNest; rw [if_neg h1]
    rw [h5]
    have hne : ∀ {T : ByteArray}, ¬ S = T → (!S.toList == T.toList) = true := by
      intro T hT
      cases hh : (!S.toList == T.toList) with
      | true => rfl
      | false => exact absurd (v_eq hh) hT
    rcases h23 with rfl | rfl
    · by_cases hb : o.op = 21
      · rw [if_neg (by simp [hb])]
        have c1 : w.cell? ⟨q, P.length * 3 + 1, none⟩ = some (.int .i64 21) := by rw [← hb]; exact hc 1 (by decide)
        by_cases he : S = o.stack
        · rw [if_pos he, if_pos rfl]
          refine (snest_else w g q P.length c at_ a S hn hi.1 hs.c0 hs.c1 c1 (by rw [he]; exact hc 2 (by decide)) (hs.own.frozenAt _)).mono ?_
          rintro e w' ⟨rfl, W, hbW, rfl⟩
          have hsW := hs.below hbW
          have hgq : g ≠ q := fun e => hs.ne (by rw [e]; rfl)
          obtain ⟨st, sg⟩ := hsW.own.stored (P.length * 3 + 1) (.int .i64 22)
          rw [scells_else] at st
          exact ⟨rfl, _, (⟨blk_far hsW.blk hgq _, st, hs.ge⟩ : WS _ B g S _ ({ o with op := 22 } :: P)), (VF.of_grown sg (.inl rfl)).before hbW⟩
        · rw [if_neg he]
          exact (snest_st22 w g q P.length c at_ a S o.stack hn hi.1 ht hs.c0 hs.c1 c1 (hc 2 (by decide)) (hne he)).mono (same 13)
      · rw [if_pos ⟨rfl, hb⟩]
        exact (snest_bad22 w g q P.length c at_ a o.op hn hs.c1 (hc 1 (by decide)) (by simpa using hb)).mono (same 14)
    · rw [if_neg (by rintro ⟨e, _⟩; exact absurd e (by decide) : ¬ ((23 : Int) = 22 ∧ o.op ≠ 21))]
      by_cases he : S = o.stack
      · rw [if_pos he, if_neg (by decide)]
        refine (snest_end w g q P.length c at_ a S hn hi.1 hs.c0 hs.c1 (by rw [he]; exact hc 2 (by decide)) (hs.fz 1) (own_le hs.own)).mono ?_
        rintro e w' ⟨rfl, W, hbW, rfl⟩
        have hsW := hs.below hbW
        have hp : W.ownsRow B 131 3 (.slice (some ⟨q, 0, none⟩) P.length c) P.length (scells P) := ownsRow_pop (scells_length P) hsW.own
        exact ⟨rfl, _, (⟨(blk_set hsW.blk 1 _).trans rfl, own_setCell hp hsW.ne _, hs.ge⟩ : WS _ B g S _ P), ((VF.refl W g (.slice (some ⟨q, 0, none⟩) (P.length + 1) c)).set 1 (.slice (some ⟨q, 0, none⟩) P.length c) (.slice (some ⟨q, 0, none⟩) P.length c) rfl).before hbW⟩
      · rw [if_neg he]
        exact (snest_st23 w g q P.length c at_ a S o.stack hn hi.1 ht hs.c0 hs.c1 (hc 2 (by decide)) (hne he)).mono (same 13)
theorem seff {w : World} {c : Nat} {ak : Option Addr} {ks : List Int} {op a : Int} (hC : Kd.C (Kd.int .i64) w ak ks.length ks) (hv : vOK ks op a) (hg : ¬ ((op = 19 ∨ op = 20) ∧ (ks.length : Int) ≤ a)) :
    Calls Try.prog 118 #[.agg #[.int .i64 op, .int .i64 a], .slice ak ks.length c] w fun e w' => e = .returned (.tuple #[.string (vEff ks op a).1, .string (vEff ks op a).2]) ∧ Below w.heap.size w w' := by
  obtain ⟨v1, v2, v3, v4⟩ := hv
  have hc : op = 1 ∨ op = 2 ∨ op = 3 ∨ op = 4 ∨ op = 5 ∨ op = 6 ∨ op = 7 ∨ op = 8 ∨ op = 9 ∨ op = 10 ∨ op = 11 ∨ op = 12 ∨ op = 13 ∨ op = 14 ∨ op = 15 ∨ op = 16 ∨ op = 17 ∨ op = 18 ∨ op = 19 ∨ op = 20 ∨ op = 21 ∨ op = 22 ∨ op = 23 ∨ op = 24 ∨ op = 25 ∨ op = 26 := by omega
  rcases hc with rfl | rfl | rfl | rfl | rfl | rfl | rfl | rfl | rfl | rfl | rfl | rfl | rfl | rfl | rfl | rfl | rfl | rfl | rfl | rfl | rfl | rfl | rfl | rfl | rfl | rfl
  · exact seff_1 w _ c _ a
  · exact seff_2 w _ c _ a
  · exact seff_3 w _ c _ a
  · exact seff_4 w _ c _ a
  · exact seff_5 w _ c _ a
  · exact seff_6 w _ c _ a
  · exact seff_7 w _ c _ a
  · exact seff_8 w _ c _ a
  · exact seff_9 w _ c _ a
  · exact seff_10 w _ c _ a
  · exact seff_11 w _ c _ a
  · exact seff_12 w _ c _ a
  · exact seff_13 w _ c _ a
  · exact seff_14 w _ c _ a
  · exact seff_15 w _ c _ a
  · exact seff_16 w _ c _ a
  · exact seff_17 w _ c _ a
  · exact seff_18 w _ c _ a
  · have a0 := v3 (.inl rfl)
    have a1 : a < (ks.length : Int) := by omega
    obtain ⟨ad, rfl, hx⟩ := Kd.at_int hC a a0 a1
    obtain ⟨n, rfl⟩ : ∃ n : Nat, a = n := ⟨a.toNat, by omega⟩
    have hn : n < ks.length := by omega
    have hx' : w.cell? (ad.add n) = some (.int .i64 (rd ks n)) := by simpa using hx
    have hk : 1 ≤ rd ks n ∧ rd ks n ≤ 4 := by
      apply v4
      unfold rd
      rw [List.getD_eq_getElem?_getD, Int.toNat_natCast, List.getElem?_eq_getElem hn]
      exact List.getElem_mem hn
    have hc : rd ks n = 1 ∨ rd ks n = 2 ∨ rd ks n = 3 ∨ rd ks n = 4 := by omega
    have he : vEff ks 19 (n : Int) = (vTakes (rd ks n), ⟨#[98]⟩) := rfl
    rw [he]
    rcases hc with hc | hc | hc | hc
    all_goals rw [hc] at hx'; rw [hc]
    · exact seff_19_1 w _ c ad n hn hx'
    · exact seff_19_2 w _ c ad n hn hx'
    · exact seff_19_3 w _ c ad n hn hx'
    · exact seff_19_4 w _ c ad n hn hx'
  · exact seff_20 w _ c _ a
  · exact seff_21 w _ c _ a
  · exact seff_22 w _ c _ a
  · exact seff_23 w _ c _ a
  · exact seff_24 w _ c _ a
  · exact seff_25 w _ c _ a
  · exact seff_26 w _ c _ a

set_option maxRecDepth 100000 in
theorem sguard_19 (w : World) (g nk ck : Nat) (ak : Option Addr) (R at_ a : Int) (ga : decide (a ≥ (nk : Int)) = true) :
    Calls Try.prog 86 #[.pointer (some ⟨g, 0, none⟩), .agg #[.int .i64 19, .int .i64 a], .int .i64 at_, .slice ak nk ck, .int .i64 R] w fun e w' => e = .returned (.int .i64 5) ∧ Below w.heap.size w w' := by
  go_enter Try.func86, Try.ntmps86
  go_wp2
  go_ret
  exact ⟨rfl, by repeat (first | exact below_alloc (Below.refl _ _) _ | apply pw_below_drewN)⟩
set_option maxRecDepth 100000 in
theorem sguard_20 (w : World) (g nk ck : Nat) (ak : Option Addr) (R at_ a : Int) (ga : decide (a ≥ (nk : Int)) = true) :
    Calls Try.prog 86 #[.pointer (some ⟨g, 0, none⟩), .agg #[.int .i64 20, .int .i64 a], .int .i64 at_, .slice ak nk ck, .int .i64 R] w fun e w' => e = .returned (.int .i64 5) ∧ Below w.heap.size w w' := by
  go_enter Try.func86, Try.ntmps86
  go_wp2
  go_ret
  exact ⟨rfl, by repeat (first | exact below_alloc (Below.refl _ _) _ | apply pw_below_drewN)⟩
set_option maxRecDepth 100000 in
theorem sguard_26 (w : World) (g nk ck : Nat) (ak : Option Addr) (R at_ a : Int) (ga : decide (a ≥ R) = true) :
    Calls Try.prog 86 #[.pointer (some ⟨g, 0, none⟩), .agg #[.int .i64 26, .int .i64 a], .int .i64 at_, .slice ak nk ck, .int .i64 R] w fun e w' => e = .returned (.int .i64 15) ∧ Below w.heap.size w w' := by
  go_enter Try.func86, Try.ntmps86
  go_wp2
  go_ret
  exact ⟨rfl, by repeat (first | exact below_alloc (Below.refl _ _) _ | apply pw_below_drewN)⟩
set_option maxHeartbeats 1000000 in
theorem sstep {w : World} {B g ck : Nat} {ak : Option Addr} {ks : List Int} {S : ByteArray} {v : Value} {O : List SO} (hs : WS w B g S v O) (hB : B ≤ w.heap.size) (hC : Kd.C (Kd.int .i64) w ak ks.length ks) (hi : sInv S O) (R at_ op a : Int) (hv : vOK ks op a) :
    Calls Try.prog 86 #[.pointer (some ⟨g, 0, none⟩), .agg #[.int .i64 op, .int .i64 a], .int .i64 at_, .slice ak ks.length ck, .int .i64 R] w (TPost w B g v (sStep ks R at_ op a S O)) := by
  have same : ∀ (c : Int), (∀ e w', e = .returned (.int .i64 c) ∧ Below w.heap.size w w' → TPost w B g v (c, S, O) e w') := by
    rintro c e w' ⟨rfl, hb⟩
    exact ⟨rfl, v, hs.below hb, VF.of_below hb g v⟩
  by_cases h1 : (op = 19 ∨ op = 20) ∧ (ks.length : Int) ≤ a
  · rw [show sStep ks R at_ op a S O = (5, S, O) from by unfold sStep; rw [if_pos h1]]
    obtain ⟨h1 | h1, h2⟩ := h1
    · subst h1
      exact (sguard_19 w g _ ck ak R at_ a (decide_eq_true h2)).mono (same 5)
    · subst h1
      exact (sguard_20 w g _ ck ak R at_ a (decide_eq_true h2)).mono (same 5)
  by_cases h2 : op = 26 ∧ R ≤ a
  · rw [show sStep ks R at_ op a S O = (15, S, O) from by unfold sStep; rw [if_neg h1, if_pos h2]]
    obtain ⟨rfl, h2⟩ := h2
    exact (sguard_26 w g _ ck ak R at_ a (decide_eq_true h2)).mono (same 15)
  have hz := vEff_size ks op a
  have hb := sBase_range hi
  have hE : Aside0 (∀ W : World, Below w.heap.size w W → Calls Try.prog 118 #[.agg #[.int .i64 op, .int .i64 a], .slice ak ks.length ck] W fun e w' => e = .returned (.tuple #[.string (vEff ks op a).1, .string (vEff ks op a).2]) ∧ Below W.heap.size W w') :=
    ⟨fun W hb => seff (Kd.C_below hC hb) hv h1⟩
  have hFl : Aside0 (∀ W : World, Below w.heap.size w W → Calls Try.prog 120 #[.pointer (some ⟨g, 0, none⟩)] W fun e w' => e = .returned (.int .i64 (sBase O)) ∧ ∃ m, w' = W.drewN m) :=
    ⟨fun W hb => sfloor (hs.below hb) hi⟩
  have err : ∀ (T : ByteArray) (cc : Int), (cc != 0) = true → Aside0 (∀ W : World, Calls Try.prog 119 #[.string S, .string (vEff ks op a).1, .int .i64 (sBase O)] W fun e w' => e = .returned (.tuple #[.string T, .int .i64 cc]) ∧ w' = W) →
      Calls Try.prog 86 #[.pointer (some ⟨g, 0, none⟩), .agg #[.int .i64 op, .int .i64 a], .int .i64 at_, .slice ak ks.length ck, .int .i64 R] w (TPost w B g v (cc, S, O)) := by
    intro T cc hcc hT
    have hK : Aside0 (∀ W : World, Below w.heap.size w W → TPost w B g v (cc, S, O) (.returned (.int .i64 cc)) W) := ⟨fun W hb => same cc _ _ ⟨rfl, hb⟩⟩
    by_cases e19 : op = 19
    · subst e19
      exact sstep_19_err w g _ ck ak R at_ a _ cc S _ _ T _ hs.c0 (hs.fz 0) (decide_eq_false (fun e => h1 ⟨.inl rfl, e⟩)) hz.2 hE hFl hT hcc hK
    by_cases e20 : op = 20
    · subst e20
      exact sstep_20_err w g _ ck ak R at_ a _ cc S _ _ T _ hs.c0 (hs.fz 0) (decide_eq_false (fun e => h1 ⟨.inr rfl, e⟩)) hz.2 hE hFl hT hcc hK
    by_cases e26 : op = 26
    · subst e26
      exact sstep_26_err w g _ ck ak R at_ a _ cc S _ _ T _ hs.c0 (hs.fz 0) (decide_eq_false (fun e => h2 ⟨rfl, e⟩)) hz.2 hE hFl hT hcc hK
    exact sstep_o_err w g _ ck ak R at_ op a _ cc S _ _ T _ hs.c0 (hs.fz 0) (by simpa using e19) (by simpa using e20) (by simpa using e26) hz.2 hE hFl hT hcc hK
  by_cases h3 : (S.size : Int) - sBase O < ((vEff ks op a).1.size : Int)
  · rw [show sStep ks R at_ op a S O = (13, S, O) from by unfold sStep; rw [if_neg h1, if_neg h2, if_pos h3]]
    exact err _ 13 (by decide) ⟨fun W => stake_lo W S _ _ hi.1 hz.1 hb.1 hb.2 (decide_eq_true h3)⟩
  have hle : (vEff ks op a).1.size ≤ S.size := by omega
  by_cases h4 : S.extract (S.size - (vEff ks op a).1.size) S.size = (vEff ks op a).1
  case neg =>
    rw [show sStep ks R at_ op a S O = (12, S, O) from by unfold sStep; rw [if_neg h1, if_neg h2, if_neg h3, if_neg h4]]
    exact err _ 12 (by decide) ⟨fun W => (stake W S _ _ hi.1 hz.1 hb.1 hb.2 hle (decide_eq_false h3)).mono fun e w' h => ⟨h.2.1 h4, h.2.2⟩⟩
  obtain ⟨T, hTT⟩ : ∃ T, T = S.extract 0 (S.size - (vEff ks op a).1.size) := ⟨_, rfl⟩
  have hT : Aside0 (∀ W : World, Calls Try.prog 119 #[.string S, .string (vEff ks op a).1, .int .i64 (sBase O)] W fun e w' => e = .returned (.tuple #[.string T, .int .i64 0]) ∧ w' = W) :=
    ⟨fun W => (stake W S _ _ hi.1 hz.1 hb.1 hb.2 hle (decide_eq_false h3)).mono fun e w' h => ⟨by rw [hTT]; exact h.1 h4, h.2.2⟩⟩
  have hts : T.size = S.size - (vEff ks op a).1.size := by rw [hTT, ByteArray.size_extract]; omega
  have hst : sStep ks R at_ op a S O = (if T.size + (vEff ks op a).2.size ≤ 8 then
      (if 21 ≤ op ∧ op ≤ 24 then ((sNest at_ op (T ++ (vEff ks op a).2) O).1, T ++ (vEff ks op a).2, (sNest at_ op (T ++ (vEff ks op a).2) O).2) else (0, T ++ (vEff ks op a).2, O))
    else (7, S, O)) := by unfold sStep; rw [if_neg h1, if_neg h2, if_neg h3, if_pos h4, hts, hTT]
  rw [hst]
  clear hst err hTT h4
  generalize hP : (vEff ks op a).1 = P at *
  generalize hQ : (vEff ks op a).2 = Q at *
  have hi' : T.size + Q.size ≤ 8 → sInv (T ++ Q) O := fun h => ⟨by rw [ByteArray.size_append]; exact h, hi.2.1, hi.2.2⟩
  have h7 : Aside0 (8 < T.size + Q.size → ∀ W : World, Below w.heap.size w W → TPost w B g v (if T.size + Q.size ≤ 8 then (if 21 ≤ op ∧ op ≤ 24 then ((sNest at_ op (T ++ Q) O).1, T ++ Q, (sNest at_ op (T ++ Q) O).2) else (0, T ++ Q, O)) else (7, S, O)) (.returned (.int .i64 7)) W) := by
    refine ⟨fun e1 W hb => ?_⟩
    rw [if_neg (by omega)]
    exact same 7 _ _ ⟨rfl, hb⟩
  have htl : T.size ≤ 8 := by have := hi.1; omega
  by_cases hr : 21 ≤ op ∧ op ≤ 24
  · have hN : Aside0 (T.size + Q.size ≤ 8 → ∀ W : World, Below w.heap.size w W → Calls Try.prog 121 #[.pointer (some ⟨g, 0, none⟩), .agg #[.int .i64 op, .int .i64 a], .int .i64 at_] (W.setCell ⟨g, 0, none⟩ (.string (T ++ Q))) fun e w' => ∃ c : Int, e = .returned (.int .i64 c) ∧ TPost w B g v (if T.size + Q.size ≤ 8 then (if 21 ≤ op ∧ op ≤ 24 then ((sNest at_ op (T ++ Q) O).1, T ++ Q, (sNest at_ op (T ++ Q) O).2) else (0, T ++ Q, O)) else (7, S, O)) e w') := by
      refine ⟨fun e1 W hb => ?_⟩
      rw [if_pos e1, if_pos hr]
      have hs1 := (hs.below hb).stack (T ++ Q)
      refine (snest hs1 (by have := hb.size; simp [World.setCell]; omega) (hi' e1) at_ op a hr).mono ?_
      rintro e w' ⟨rfl, v', hv', hf⟩
      refine ⟨_, rfl, rfl, v', hv', ?_⟩
      exact hf.after (fun i hi1 hig => (Below.heap_setCell _ _ _ _ hig).trans (hb.block i hi1)) hb.os hb.tape hb.output (by have := hb.size; simp [World.setCell]; omega)
    exact sstep_o_nest w g _ ck ak R at_ op a _ 0 S _ _ T _ hs.c0 (hs.fz 0) (by simp; omega) (by simp; omega) (by simp; omega) hz.2 hE hFl hT (by decide) htl h7 ⟨hr⟩ hN
  · have hZ : Aside0 (T.size + Q.size ≤ 8 → ∀ W : World, Below w.heap.size w W → TPost w B g v (if T.size + Q.size ≤ 8 then (if 21 ≤ op ∧ op ≤ 24 then ((sNest at_ op (T ++ Q) O).1, T ++ Q, (sNest at_ op (T ++ Q) O).2) else (0, T ++ Q, O)) else (7, S, O)) (.returned (.int .i64 0)) (W.setCell ⟨g, 0, none⟩ (.string (T ++ Q)))) := by
      refine ⟨fun e1 W hb => ?_⟩
      rw [if_pos e1, if_neg hr]
      exact ⟨rfl, v, (hs.below hb).stack _, (VF.of_below hb g v).set 0 _ v rfl⟩
    by_cases e19 : op = 19
    · subst e19
      exact sstep_19_flat w g _ ck ak R at_ a _ 0 S _ _ T _ hs.c0 (hs.fz 0) (decide_eq_false (fun e => h1 ⟨.inl rfl, e⟩)) hz.2 hE hFl hT (by decide) htl h7 hZ
    by_cases e20 : op = 20
    · subst e20
      exact sstep_20_flat w g _ ck ak R at_ a _ 0 S _ _ T _ hs.c0 (hs.fz 0) (decide_eq_false (fun e => h1 ⟨.inr rfl, e⟩)) hz.2 hE hFl hT (by decide) htl h7 hZ
    by_cases e26 : op = 26
    · subst e26
      exact sstep_26_flat w g _ ck ak R at_ a _ 0 S _ _ T _ hs.c0 (hs.fz 0) (decide_eq_false (fun e => h2 ⟨rfl, e⟩)) hz.2 hE hFl hT (by decide) htl h7 hZ
    exact sstep_o_flat w g _ ck ak R at_ op a _ 0 S _ _ T _ hs.c0 (hs.fz 0) (by simpa using e19) (by simpa using e20) (by simpa using e26) hz.2 hE hFl hT (by decide) htl h7 ⟨hr⟩ hZ


def sLoop (ks : List Int) (R : Int) : List S91 → Int → ByteArray → List SO → Int × Int
  | [], at_, S, O => match O with
    | o :: _ => (o.at_, 14)
    | [] => if S.size = 0 then (0, 0) else (at_, 13)
  | x :: xs, at_, S, O => if (sStep ks R at_ x.f0 x.f1 S O).1 = 0 then sLoop ks R xs (at_ + 1) (sStep ks R at_ x.f0 x.f1 S O).2.1 (sStep ks R at_ x.f0 x.f1 S O).2.2 else (at_, (sStep ks R at_ x.f0 x.f1 S O).1)

theorem v_two {a b : Value} {a' b' : Value} (h1 : a = a') (h2 : b = b') : Ending.returned (.tuple #[a, b]) = .returned (.tuple #[a', b']) := by rw [h1, h2]
set_option maxRecDepth 100000 in
set_option maxHeartbeats 4000000 in
theorem sverify {w : World} {A0 A1 : Option Addr} {c0 c1 : Nat} {l0 : List S91} {l1 : List Int} {R : Int} {r2 r3 : Int} (hr0 : Kd.C k91 w A0 l0.length l0) (hc0 : l0.length ≤ c0) (hr1 : Kd.C (Kd.int .i64) w A1 l1.length l1) (hc1 : l1.length ≤ c1)
    (hl : l0.length ≤ 4096) (hv : ∀ x ∈ l0, vOK l1 x.f0 x.f1) (h : sLoop l1 R l0 0 ⟨#[]⟩ [] = (r2, r3)) :
    Calls Try.prog 81 #[.slice A0 l0.length c0, .slice A1 l1.length c1, .int .i64 R] w fun e w' => e = .returned (.tuple #[.int .i64 r2, .int .i64 r3]) ∧ Below w.heap.size w w' := by
  have HR0 := Aside0.mk hr0
  have HR1 := Aside0.mk hr1
  have HV := Aside0.mk hv
  have HH := Aside0.mk h
  clear hr0 hr1 hc0 hc1 hv h
  go_enter Try.func81, Try.ntmps81
  go_wp2_with (first | ((with_reducible refine gate_dst (N := 12) rfl ?_); refine box_event ?hg (N := 12) ?hd (cs := #[.string ⟨#[]⟩, .slice none 0 0]) (t := 110) ?hr ?_; (case hd => rfl); (case hg => rfl); (case hr => first | (go_simp; done) | (go_simp; rfl)); intro gb hg w2 hbox hb; have BK := Aside0.mk hbox; have HB := Aside0.mk hb; have HG := Aside0.mk hg; clear hb hbox hg))
  go_loopg [9] (l0.length + 1) (fun kq v9 w' => ∃ (k : Nat) (S : ByteArray) (v : Value) (O : List SO), v9 = .int .i64 k ∧ Aside0 (k ≤ l0.length ∧ kq + k = l0.length + 1) ∧ Aside0 (WS w' w.heap.size gb S v O) ∧ Aside0 (sInv S O) ∧ Aside0 (Below w.heap.size w w') ∧ Aside0 (sLoop l1 R (l0.drop k) k S O = (r2, r3)))
  case atStart => exact ⟨0, ⟨#[]⟩, .slice none 0 0, [], by rfl, ⟨Nat.zero_le _, rfl⟩, ⟨⟨BK.out, own_nil _ _ _ _, by have := HG.out; omega⟩⟩, ⟨⟨by decide, by decide, by simp⟩⟩, HB, by simpa using HH⟩
  case round =>
    obtain ⟨k, S, v, O, rfl, HK, HS, HI, HBL, HA⟩ := hrel
    by_cases hk : k < l0.length
    · have hd : l0.drop k = rd_T91 l0 k :: l0.drop (k + 1) := by
        rw [List.drop_eq_getElem_cons hk]
        simp [rd_T91, List.getD_eq_getElem?_getD, List.getElem?_eq_getElem hk]
      have HX := HA.out
      rw [hd] at HX
      clear hd
      obtain ⟨ad, e0, hx0, hx1⟩ := at_T91 HR0.out (k : Int) (by omega) (by omega)
      cases e0
      replace hx0 := pw_cell_below' HBL.out hx0
      replace hx1 := pw_cell_below' HBL.out hx1
      simp only [Int.toNat_natCast] at hx0 hx1
      have hmem : rd_T91 l0 k ∈ l0 := by
        simp only [rd_T91, List.getD_eq_getElem?_getD, Int.toNat_natCast, List.getElem?_eq_getElem hk]
        exact List.getElem_mem hk
      have hok := HV.out _ hmem
      clear hmem
      generalize rd_T91 l0 k = x at *
      obtain ⟨op, a⟩ := x
      dsimp only at hx0 hx1 hok
      obtain ⟨c, S', O', hst⟩ : ∃ c S' O', sStep l1 R k op a S O = (c, S', O') := ⟨_, _, _, rfl⟩
      rw [sLoop] at HX
      dsimp only at HX
      rw [hst] at HX
      have hinv := fun e => sStep_inv (ks := l1) (R := R) (at_ := (k : Int)) (op := op) (a := a) HI.out e
      rw [hst] at hinv
      have STEP : Aside0 (∀ (W : World) (v : Value), WS W w.heap.size gb S v O → Below w.heap.size w W → Calls Try.prog 86 #[.pointer (some ⟨gb, 0, none⟩), .agg #[.int .i64 op, .int .i64 a], .int .i64 k, .slice A1 l1.length c1, .int .i64 R] W fun e w' => e = .returned (.int .i64 c) ∧ ∃ v', WS w' w.heap.size gb S' v' O' ∧ VF W w' gb v v') := by
        refine ⟨fun W v hs hb => ?_⟩
        have h := sstep (ck := c1) hs hb.size (Kd.C_below HR1.out hb) HI.out R (k : Int) op a hok
        rw [hst] at h
        exact h
      have HINV := Aside0.mk hinv
      have HS' := Aside0.mk hst
      have HOK := Aside0.mk hok
      clear hinv hst hok
      have hk1 := decide_eq_true hk
      have hk2 : ((0 : Int) ≤ (k : Int)) = True := eq_true (by omega)
      cases gk with
      | zero => exact absurd HK.out.2 (by omega)
      | succ k1 =>
      by_cases hc : c = 0
      all_goals
        (first | (have hcb : (c != 0) = false := by simp [hc]) | (have hcb : (c != 0) = true := by simp [hc]))
        have HC := Aside0.mk hc
        have HHX := Aside0.mk HX
        clear hc HX
        go_wp2_with (go_at_call 86; go_must ((with_reducible refine (STEP.out _ _ HS.out HBL.out).mono ?_); rintro e w6 ⟨rfl, v', hvs, hvf⟩; have HS6 := Aside0.mk hvs; have HF6 := Aside0.mk hvf; clear hvs hvf))
      · have H0 := HHX.out
        rw [if_pos HC.out] at H0
        have HF := Aside0.mk H0
        clear H0
        have HBW : Aside0 (Below w.heap.size w w6) := ⟨HBL.out.trans (HF6.out.below HS.out.ge (own_base HS.out.own) HBL.out.size)⟩
        have HIW : Aside0 (sInv S' O') := ⟨HINV.out HC.out⟩
        go_roundg k1
        case measure => have := HK.out.2; omega
        case rel => exact ⟨k + 1, S', v', O', by go_num, ⟨by have := HK.out.1; omega, by have := HK.out.2; omega⟩, HS6, HIW, HBW, ⟨by have := HF.out; simpa using this⟩⟩
      · have H0 := HHX.out
        rw [if_neg HC.out] at H0
        obtain ⟨e2, e3⟩ : (k : Int) = r2 ∧ c = r3 := by simpa using H0
        have E2 := Aside0.mk e2
        have E3 := Aside0.mk e3
        clear e2 e3 H0
        have HBW : Aside0 (Below w.heap.size w w6) := ⟨HBL.out.trans (HF6.out.below HS.out.ge (own_base HS.out.own) HBL.out.size)⟩
        go_ret2
        exact ⟨v_two (by rw [← E2.out]; rfl) (by rw [← E3.out]; rfl), HBW.out⟩
    · have hke : k = l0.length := by have := HK.out.1; omega
      have HX := HA.out
      rw [hke, List.drop_length] at HX
      clear hke
      have hk1 : decide (k < l0.length) = false := decide_eq_false hk
      clear hk
      have hc3 := HS.out.c1
      have hc2 := HS.out.c0
      cases O with
      | cons o P =>
        simp only [sLoop] at HX
        obtain ⟨e2, e3⟩ : o.at_ = r2 ∧ 14 = r3 := by simpa using HX
        have E2 := Aside0.mk e2
        have E3 := Aside0.mk e3
        clear e2 e3
        obtain ⟨q, cq, rfl, hq, _⟩ := HS.out.own.form (by simp)
        have hcc := (HS.out.own.cellAt (P.length * 3) (by simp)).trans (scells_at o P 0 (by decide))
        have hn : P.length ≤ 4 := by have := HI.out.2.1; simp at this; omega
        clear hq
        have hc3' : wr.cell? ⟨gb, 1, none⟩ = some (.slice (some ⟨q, 0, none⟩) (P.length + 1) cq) := hc3
        have hcc' : wr.cell? ⟨q, P.length * 3, none⟩ = some (.int .i64 o.at_) := hcc
        clear hc3 hcc
        have hu := Try.underlying108
        go_wp2
        go_quiet (fail)
        go_wp2
        go_ret2
        exact ⟨v_two (by rw [← E2.out]; rfl) (by rw [← E3.out]; rfl), pw_below_drewN HBL.out _⟩
      | nil =>
        simp only [sLoop] at HX
        obtain ⟨A, cq, rfl⟩ := own_slice HS.out.own
        have hc3' : wr.cell? ⟨gb, 1, none⟩ = some (.slice A 0 cq) := hc3
        clear hc3
        by_cases hS : S.size = 0
        · rw [if_pos hS] at HX
          obtain ⟨e2, e3⟩ : 0 = r2 ∧ 0 = r3 := by simpa using HX
          have E2 := Aside0.mk e2
          have E3 := Aside0.mk e3
          clear e2 e3
          have hS' : S = ⟨#[]⟩ := ByteArray.ext (Array.eq_empty_of_size_eq_zero hS)
          subst hS'
          clear hS
          go_wp2
          go_ret2
          exact ⟨v_two (by rw [← E2.out]; rfl) (by rw [← E3.out]; rfl), HBL.out⟩
        · rw [if_neg hS] at HX
          obtain ⟨e2, e3⟩ : (l0.length : Int) = r2 ∧ 13 = r3 := by simpa using HX
          have E2 := Aside0.mk e2
          have E3 := Aside0.mk e3
          have hse : S.toList.isEmpty = false := by rw [ByteArray.toList_eq]; cases hh : S.data.toList with
            | nil => exact absurd (by have := congrArg List.length hh; simpa using this) hS
            | cons => rfl
          clear e2 e3 hS
          go_wp2
          go_ret2
          exact ⟨v_two (by rw [← E2.out]; rfl) (by rw [← E3.out]; rfl), HBL.out⟩

def spec_l04Verify.f (l0 : List (S91)) (l1 : List Int) (a2 : Int) : Option (Int × Int) := if l0.length ≤ 4096 ∧ (l0.all fun x => vOKb l1 x.f0 x.f1) = true then some (sLoop l1 a2 l0 0 ⟨#[]⟩ []) else none
theorem spec_l04Verify.calls (A0 : Option Addr) (c0 : Nat) (l0 : List (S91)) (A1 : Option Addr) (c1 : Nat) (l1 : List Int) (a2 : Int) (r1 : Int) (r2 : Int) (w : World) (hr0 : Kd.C k91 w A0 l0.length l0) (hc0 : l0.length ≤ c0) (hr1 : Kd.C (Kd.int .i64) w A1 l1.length l1) (hc1 : l1.length ≤ c1) (h : spec_l04Verify.f l0 l1 a2 = some (r1, r2)) :
    Calls Try.prog 81 #[.slice A0 l0.length c0, .slice A1 l1.length c1, .int .i64 a2] w fun e w' => e = .returned (.tuple #[.int .i64 r1, .int .i64 r2]) ∧ Below w.heap.size w w' := by
  unfold spec_l04Verify.f at h
  split at h
  · rename_i hp
    exact sverify hr0 hc0 hr1 hc1 hp.1 (fun x hx => vOK_of (List.all_eq_true.1 hp.2 x hx)) (Option.some.inj h)
  · cases h

/-! ### spec_VerifyCode: function 34 -/
def spec_VerifyCode.j0 : Nat → List (S91) → List Int → Int → Bool → Option (Int × Int)
  | 0, _, _, _, _ => none
  | k + 1, x0, x1, x2, x16 => if x16 = true then (some (0, 2)) else ((spec_l04Ask.f k x0 x1 x2).bind fun t123 => (if t123 = 0 then ((spec_l04Verify.f x0 x1 x2).bind fun bt124 => (some (bt124.1, bt124.2))) else (some (0, t123))))
def spec_VerifyCode.f (k : Nat) (l0 : List (S91)) (l1 : List Int) (a2 : Int) : Option (Int × Int) := if (l0.length : Int) > 4096 then (spec_VerifyCode.j0 k l0 l1 a2 true) else (spec_VerifyCode.j0 k l0 l1 a2 (decide ((l1.length : Int) > 4096)))
theorem spec_VerifyCode.mono_l : ∀ k, (∀ y0 y1 y2 y3, LeO (spec_VerifyCode.j0 k y0 y1 y2 y3) (spec_VerifyCode.j0 (k + 1) y0 y1 y2 y3))
  | 0 => fun _ _ _ _ r h => by simp [spec_VerifyCode.j0] at h
  | k + 1 => by
    have ih0 := spec_VerifyCode.mono_l k
    · intro y0 y1 y2 y3
      unfold spec_VerifyCode.j0
      repeat' first
      | (with_reducible exact ih0 _ _ _ _)
      | (with_reducible exact spec_l04Ask.mono _ _ _ _)
      | (with_reducible exact LeO.refl _)
      | (with_reducible exact LeO.none _)
      | (with_reducible refine LeO.ite ?_ ?_)
      | (with_reducible refine LeO.bind ?_ (fun _ => ?_))
      | exact ih0 _ _ _ _
      | exact spec_l04Ask.mono _ _ _ _
      | exact LeO.none _
      | refine LeO.ite ?_ ?_
      | refine LeO.bind ?_ (fun _ => ?_)
theorem spec_VerifyCode.mono : ∀ a0 a1 a2 k, LeO (spec_VerifyCode.f k a0 a1 a2) (spec_VerifyCode.f (k + 1) a0 a1 a2) := by
  intro a0 a1 a2 k
  have ih0 := spec_VerifyCode.mono_l k
  unfold spec_VerifyCode.f
  repeat' first
      | (with_reducible exact ih0 _ _ _ _)
      | (with_reducible exact spec_l04Ask.mono _ _ _ _)
      | (with_reducible exact LeO.refl _)
      | (with_reducible exact LeO.none _)
      | (with_reducible refine LeO.ite ?_ ?_)
      | (with_reducible refine LeO.bind ?_ (fun _ => ?_))
      | exact ih0 _ _ _ _
      | exact spec_l04Ask.mono _ _ _ _
      | exact LeO.none _
      | refine LeO.ite ?_ ?_
      | refine LeO.bind ?_ (fun _ => ?_)
set_option maxHeartbeats 8000000 in
set_option maxRecDepth 100000 in
theorem spec_VerifyCode.calls (k : Nat) (A0 : Option Addr) (c0 : Nat) (l0 : List (S91)) (A1 : Option Addr) (c1 : Nat) (l1 : List Int) (a2 : Int) (r1 : Int) (r2 : Int) (w : World) (hr0 : Kd.C k91 w A0 l0.length l0) (hc0 : l0.length ≤ c0) (hr1 : Kd.C (Kd.int .i64) w A1 l1.length l1) (hc1 : l1.length ≤ c1) (h : spec_VerifyCode.f k l0 l1 a2 = some (r1, r2)) :
    Calls Try.prog 34 #[.slice A0 l0.length c0, .slice A1 l1.length c1, .int .i64 a2] w fun e w' => e = .returned (.tuple #[.int .i64 r1, .int .i64 r2]) ∧ Below w.heap.size w w' := by
  have HR0 := Aside0.mk hr0
  have HC0 := Aside0.mk hc0
  clear hr0 hc0
  have HR1 := Aside0.mk hr1
  have HC1 := Aside0.mk hc1
  clear hr1 hc1
  have HB := Aside0.mk (Below.refl w.heap.size w)
  have H : (if (l0.length : Int) > 4096 then (spec_VerifyCode.j0 k l0 l1 a2 true) else (spec_VerifyCode.j0 k l0 l1 a2 (decide ((l1.length : Int) > 4096)))) = some (r1, r2) := h
  clear h
  have HC4 := Aside0.mk H
  clear H
  go_enter Try.func34, Try.ntmps34
  go_upto_region 1 with (fail)
  go_cut [16] (fun v16 wc => ∃ (kq : Nat) (x16_3 : Bool), v16 = .bool x16_3 ∧ Aside0 (spec_VerifyCode.j0 kq l0 l1 a2 x16_3 = some (r1, r2)) ∧ Aside0 (kq ≤ k) ∧ Aside0 (Below w.heap.size w wc))
  case first =>
    have H := HC4.out
    clear HC4
    by_cases c5 : (l0.length : Int) > 4096
    · rw [if_pos c5] at H
      have c5b0 : decide (4096 < (l0.length : Int)) = true := decide_eq_true c5
      have c5b1 : decide (4096 < l0.length) = true := decide_eq_true (by omega)
      clear c5
      (first | rw [c5b0] | (simp only [i64_w, i32_w]; rw [c5b0]) | skip)
      have H' := Aside0.mk H
      clear H
      go_wp2
      (first | go_meet | (refine Met.intro ?_; go_step; (repeat apply Exists.intro); refine ⟨?rel, ?eqm_⟩; (case eqm_ => (simp only [c5b1, c5b0]; rfl))))
      case rel => exact ⟨_, (true), (by first | rfl | (simp; done) | (simp [*]; done)), H', ⟨by first | omega | exact Nat.le_refl _⟩, ⟨by repeat (first | (with_reducible first | exact HB.out | apply below_alloc | apply pw_below_drewN | apply below_drew1) | exact HB.out)⟩⟩
    · rw [if_neg c5] at H
      have c5b0 : decide (4096 < (l0.length : Int)) = false := decide_eq_false c5
      have c5b1 : decide (4096 < l0.length) = false := decide_eq_false (by omega)
      clear c5
      (first | rw [c5b0] | (simp only [i64_w, i32_w]; rw [c5b0]) | skip)
      have H' := Aside0.mk H
      clear H
      go_wp2
      (first | go_meet | (refine Met.intro ?_; go_step; (repeat apply Exists.intro); refine ⟨?rel, ?eqm_⟩; (case eqm_ => (simp only [c5b1, c5b0]; rfl))))
      case rel => exact ⟨_, (decide ((l1.length : Int) > 4096)), (by first | rfl | (simp; done) | (simp [*]; done)), H', ⟨by first | omega | exact Nat.le_refl _⟩, ⟨by repeat (first | (with_reducible first | exact HB.out | apply below_alloc | apply pw_below_drewN | apply below_drew1) | exact HB.out)⟩⟩
  case rest =>
    clear HC4
    try clear c1
    try clear p2
    try clear c3
    try clear c5
    try clear c5b0
    try clear c5b1
    obtain ⟨kq, x16_3, rfl, HA, HJ3, HB⟩ := hcut
    cases kq with
    | zero => exact absurd HA.out (by simp [spec_VerifyCode.j0])
    | succ kj3 =>
      have H := HA.out
      clear HA
      simp only [spec_VerifyCode.j0] at H
      by_cases c6 : x16_3 = true
      · subst c6
        have H1 : (some (0, 2)) = some (r1, r2) := by rw [if_pos rfl] at H; exact H
        clear H
        have H := H1
        clear H1
        simp only [Option.some.injEq, Prod.mk.injEq] at H
        obtain ⟨rfl, rfl⟩ := H
        go_wp2
        go_ret2
        exact ⟨by first | rfl | (simp [errW_none, errW_some] <;> rfl) | (simp [*, errW_none, errW_some] <;> rfl), by repeat (first | (with_reducible first | exact HB.out | apply below_alloc | apply pw_below_drewN | apply below_drew1) | exact HB.out)⟩
      · replace c6 := Bool.eq_false_iff.mpr c6
        subst c6
        have H1 : ((spec_l04Ask.f kj3 l0 l1 a2).bind fun t123 => (if t123 = 0 then ((spec_l04Verify.f l0 l1 a2).bind fun bt124 => (some (bt124.1, bt124.2))) else (some (0, t123)))) = some (r1, r2) := by rw [if_neg (show ¬ (false = true) by decide)] at H; exact H
        clear H
        have H := H1
        clear H1
        replace H := Option.bind_eq_some_iff.mp H
        obtain ⟨t123, A70, H⟩ := H
        replace H : (if t123 = 0 then ((spec_l04Verify.f l0 l1 a2).bind fun bt124 => (some (bt124.1, bt124.2))) else (some (0, t123))) = some (r1, r2) := H
        have A7 := Aside0.mk A70
        clear A70
        by_cases c8 : t123 = 0
        · rw [if_pos c8] at H
          have c8b0 : (t123 == 0) = true := beq_iff_eq.mpr c8
          have c8b1 : (t123 != 0) = false := bne_eq_false_iff_eq.mpr c8
          clear c8
          replace H := Option.bind_eq_some_iff.mp H
          obtain ⟨⟨t124, t125⟩, A90, H⟩ := H
          replace H : (some (t124, t125)) = some (r1, r2) := H
          have A9 := Aside0.mk A90
          clear A90
          simp only [Option.some.injEq, Prod.mk.injEq] at H
          obtain ⟨rfl, rfl⟩ := H
          go_wp2_with (first | ((with_reducible refine gate_callee (f := 80) rfl ?_); refine goesL_ (some 20) rfl rfl Try.func80 (by kernel_rfl) rfl #[.slice A0 l0.length c0, .slice A1 l1.length c1, .int .i64 a2] rfl (by (try simp only [List.map_toArray, List.map_cons, List.map_nil]); first | done | rfl | (simp only [List.length_drop, List.length_take]; rfl)) ?_; (with_reducible refine (spec_l04Ask.calls kj3 _ _ l0 _ _ l1 a2 t123 _ ?side1 ?side2 ?side3 ?side4 A7.out).mono ?_); (case side1 => repeat (first | exact (Kd.C_below HR0.out HB.out) | (with_reducible refine Kd.C_alloc ?_ _) | (with_reducible refine Kd.C_drewN ?_ _) | (with_reducible refine Kd.C_drew ?_))); (case side2 => exact HC0.out); (case side3 => repeat (first | exact (Kd.C_below HR1.out HB.out) | (with_reducible refine Kd.C_alloc ?_ _) | (with_reducible refine Kd.C_drewN ?_ _) | (with_reducible refine Kd.C_drew ?_))); (case side4 => exact HC1.out); rintro e w10 ⟨rfl, hb⟩; refine ⟨_, rfl, ?_⟩; have n0_ := Aside0.mk (below_step (by repeat (first | (with_reducible first | exact HB.out | apply below_alloc | apply pw_below_drewN | apply below_drew1) | exact HB.out)) hb); clear HB; have HB := n0_; clear n0_; (try clear hb); (try clear hb2); (try clear hk); (try clear hi)) | ((with_reducible refine gate_callee (f := 81) rfl ?_); refine goesL_ (some 27) rfl rfl Try.func81 (by kernel_rfl) rfl #[.slice A0 l0.length c0, .slice A1 l1.length c1, .int .i64 a2] rfl (by (try simp only [List.map_toArray, List.map_cons, List.map_nil]); first | done | rfl | (simp only [List.length_drop, List.length_take]; rfl)) ?_; (with_reducible refine (spec_l04Verify.calls _ _ l0 _ _ l1 a2 t124 t125 _ ?side1 ?side2 ?side3 ?side4 A9.out).mono ?_); (case side1 => repeat (first | exact (Kd.C_below HR0.out HB.out) | (with_reducible refine Kd.C_alloc ?_ _) | (with_reducible refine Kd.C_drewN ?_ _) | (with_reducible refine Kd.C_drew ?_))); (case side2 => exact HC0.out); (case side3 => repeat (first | exact (Kd.C_below HR1.out HB.out) | (with_reducible refine Kd.C_alloc ?_ _) | (with_reducible refine Kd.C_drewN ?_ _) | (with_reducible refine Kd.C_drew ?_))); (case side4 => exact HC1.out); rintro e w11 ⟨rfl, hb⟩; refine ⟨_, rfl, ?_⟩; have n0_ := Aside0.mk (below_step (by repeat (first | (with_reducible first | exact HB.out | apply below_alloc | apply pw_below_drewN | apply below_drew1) | exact HB.out)) hb); clear HB; have HB := n0_; clear n0_; (try clear hb); (try clear hb2); (try clear hk); (try clear hi)))
          go_ret2
          exact ⟨by first | rfl | (simp [errW_none, errW_some] <;> rfl) | (simp [*, errW_none, errW_some] <;> rfl), by repeat (first | (with_reducible first | exact HB.out | apply below_alloc | apply pw_below_drewN | apply below_drew1) | exact HB.out)⟩
        · rw [if_neg c8] at H
          have c8b0 : (t123 == 0) = false := beq_eq_false_iff_ne.mpr c8
          have c8b1 : (t123 != 0) = true := bne_iff_ne.mpr c8
          simp only [Option.some.injEq, Prod.mk.injEq] at H
          obtain ⟨rfl, rfl⟩ := H
          go_wp2_with (first | ((with_reducible refine gate_callee (f := 80) rfl ?_); refine goesL_ (some 20) rfl rfl Try.func80 (by kernel_rfl) rfl #[.slice A0 l0.length c0, .slice A1 l1.length c1, .int .i64 a2] rfl (by (try simp only [List.map_toArray, List.map_cons, List.map_nil]); first | done | rfl | (simp only [List.length_drop, List.length_take]; rfl)) ?_; (with_reducible refine (spec_l04Ask.calls kj3 _ _ l0 _ _ l1 a2 t123 _ ?side1 ?side2 ?side3 ?side4 A7.out).mono ?_); (case side1 => repeat (first | exact (Kd.C_below HR0.out HB.out) | (with_reducible refine Kd.C_alloc ?_ _) | (with_reducible refine Kd.C_drewN ?_ _) | (with_reducible refine Kd.C_drew ?_))); (case side2 => exact HC0.out); (case side3 => repeat (first | exact (Kd.C_below HR1.out HB.out) | (with_reducible refine Kd.C_alloc ?_ _) | (with_reducible refine Kd.C_drewN ?_ _) | (with_reducible refine Kd.C_drew ?_))); (case side4 => exact HC1.out); rintro e w12 ⟨rfl, hb⟩; refine ⟨_, rfl, ?_⟩; have n0_ := Aside0.mk (below_step (by repeat (first | (with_reducible first | exact HB.out | apply below_alloc | apply pw_below_drewN | apply below_drew1) | exact HB.out)) hb); clear HB; have HB := n0_; clear n0_; (try clear hb); (try clear hb2); (try clear hk); (try clear hi)))
          go_ret2
          exact ⟨by first | rfl | (simp [errW_none, errW_some] <;> rfl) | (simp [*, errW_none, errW_some] <;> rfl), by repeat (first | (with_reducible first | exact HB.out | apply below_alloc | apply pw_below_drewN | apply below_drew1) | exact HB.out)⟩

/-! ### laws_toInstr: function 82 -/
def laws_toInstr.f (a0_0 : Int) (a0_1 : Int) : Option (Int × Int) := some (a0_0, a0_1)
set_option maxHeartbeats 8000000 in
set_option maxRecDepth 100000 in
theorem laws_toInstr.calls (a0_0 : Int) (a0_1 : Int) (r1 : Int) (r2 : Int) (w : World) (h : laws_toInstr.f a0_0 a0_1 = some (r1, r2)) :
    Calls Try.prog 82 #[.agg #[.int .i64 a0_0, .int .i64 a0_1]] w fun e w' => e = .returned (.agg #[.int .i64 r1, .int .i64 r2]) ∧ Below w.heap.size w w' := by
  have hu102 := Try.underlying102
  have hu91 := Try.underlying91
  have HB := Aside0.mk (Below.refl w.heap.size w)
  have H : (some (a0_0, a0_1)) = some (r1, r2) := h
  clear h
  simp only [Option.some.injEq, Prod.mk.injEq] at H
  obtain ⟨rfl, rfl⟩ := H
  go_enter Try.func82, Try.ntmps82
  go_wp2_with (first | ((with_reducible refine gate_dst (N := 1) rfl ?_); refine box_event ?hg (N := 1) ?hd (cs := #[.int .i64 a0_0, .int .i64 a0_1]) (t := 102) ?hr ?_; (case hd => rfl); (case hg => rfl); (case hr => first | (go_simp; done) | (go_simp; rfl)); intro gb126 hg w2 hbox hb; have n0_ := Aside0.mk (below_step (by repeat (first | (with_reducible first | exact HB.out | apply below_alloc | apply pw_below_drewN | apply below_drew1) | exact HB.out)) hb); have n1_ := Aside0.mk (hbox); have n2_ := Aside0.mk ((by rw [hg]; exact (below_size (by repeat (first | (with_reducible first | exact HB.out | apply below_alloc | apply pw_below_drewN | apply below_drew1) | exact HB.out))) : w.heap.size ≤ gb126)); have n3_ := Aside0.mk ((by rw [hg]; exact (below_size (by repeat (first | (with_reducible first | exact HB.out | apply below_alloc | apply pw_below_drewN | apply below_drew1) | exact HB.out))) : w.heap.size ≤ gb126)); clear HB; have HB := n0_; have BK126 := n1_; have GW126 := n2_; have GE126 := n3_; clear n0_ n1_ n2_ n3_; clear hb hbox hg) | ((with_reducible refine gate_dst (N := 2) rfl ?_); refine box_event ?hg (N := 2) ?hd (cs := #[.int .i64 0, .int .i64 0]) (t := 91) ?hr ?_; (case hd => rfl); (case hg => rfl); (case hr => first | (go_simp; done) | (go_simp; rfl)); intro gb127 hg w3 hbox hb; have n0_ := Aside0.mk (blk_below (g := gb126) (o := .cells #[.int .i64 a0_0, .int .i64 a0_1] 102 (0, 0)) (by (with_reducible repeat (first | refine blk_drewN ?_ _ | refine blk_drew ?_ | refine blk_alloc ?_ _)); exact BK126.out) hb); have n1_ := Aside0.mk (below_step (by repeat (first | (with_reducible first | exact HB.out | apply below_alloc | apply pw_below_drewN | apply below_drew1 | refine below_set ?_ GE126.out) | exact HB.out)) hb); have n2_ := Aside0.mk (hbox); have n3_ := Aside0.mk ((by rw [hg]; exact (below_size (by repeat (first | (with_reducible first | exact HB.out | apply below_alloc | apply pw_below_drewN | apply below_drew1 | refine below_set ?_ GE126.out) | exact HB.out))) : w.heap.size ≤ gb127)); have n4_ := Aside0.mk ((by rw [hg]; exact (below_size (by repeat (first | (with_reducible first | exact HB.out | apply below_alloc | apply pw_below_drewN | apply below_drew1 | refine below_set ?_ GE126.out) | exact HB.out))) : w.heap.size ≤ gb127)); have n5_ := Aside0.mk ((by rw [hg]; exact Nat.ne_of_lt (blk_lt (g := gb126) (o := .cells #[.int .i64 a0_0, .int .i64 a0_1] 102 (0, 0)) (by (with_reducible repeat (first | refine blk_drewN ?_ _ | refine blk_drew ?_ | refine blk_alloc ?_ _)); exact BK126.out)) : gb126 ≠ gb127)); have n6_ := Aside0.mk ((by rw [hg]; exact Nat.ne_of_gt (blk_lt (g := gb126) (o := .cells #[.int .i64 a0_0, .int .i64 a0_1] 102 (0, 0)) (by (with_reducible repeat (first | refine blk_drewN ?_ _ | refine blk_drew ?_ | refine blk_alloc ?_ _)); exact BK126.out)) : gb127 ≠ gb126)); clear BK126; clear HB; have BK126 := n0_; have HB := n1_; have BK127 := n2_; have GW127 := n3_; have GE127 := n4_; have NB126_127 := n5_; have NB127_126 := n6_; clear n0_ n1_ n2_ n3_ n4_ n5_ n6_; clear hb hbox hg) | ((with_reducible refine gate_dst (N := 3) rfl ?_); refine box_event ?hg (N := 3) ?hd (cs := #[.int .i64 0, .int .i64 0]) (t := 91) ?hr ?_; (case hd => rfl); (case hg => rfl); (case hr => first | (go_simp; done) | (go_simp; rfl)); intro gb128 hg w4 hbox hb; have n0_ := Aside0.mk (blk_below (g := gb126) (o := .cells #[.int .i64 a0_0, .int .i64 a0_1] 102 (0, 0)) (by (with_reducible repeat (first | refine blk_drewN ?_ _ | refine blk_drew ?_ | refine blk_alloc ?_ _)); exact BK126.out) hb); have n1_ := Aside0.mk (blk_below (g := gb127) (o := .cells #[.int .i64 0, .int .i64 0] 91 (0, 0)) (by (with_reducible repeat (first | refine blk_drewN ?_ _ | refine blk_drew ?_ | refine blk_alloc ?_ _)); exact BK127.out) hb); have n2_ := Aside0.mk (below_step (by repeat (first | (with_reducible first | exact HB.out | apply below_alloc | apply pw_below_drewN | apply below_drew1 | refine below_set ?_ GE126.out | refine below_set ?_ GE127.out) | exact HB.out)) hb); have n3_ := Aside0.mk (hbox); have n4_ := Aside0.mk ((by rw [hg]; exact (below_size (by repeat (first | (with_reducible first | exact HB.out | apply below_alloc | apply pw_below_drewN | apply below_drew1 | refine below_set ?_ GE126.out | refine below_set ?_ GE127.out) | exact HB.out))) : w.heap.size ≤ gb128)); have n5_ := Aside0.mk ((by rw [hg]; exact (below_size (by repeat (first | (with_reducible first | exact HB.out | apply below_alloc | apply pw_below_drewN | apply below_drew1 | refine below_set ?_ GE126.out | refine below_set ?_ GE127.out) | exact HB.out))) : w.heap.size ≤ gb128)); have n6_ := Aside0.mk ((by rw [hg]; exact Nat.ne_of_lt (blk_lt (g := gb126) (o := .cells #[.int .i64 a0_0, .int .i64 a0_1] 102 (0, 0)) (by (with_reducible repeat (first | refine blk_drewN ?_ _ | refine blk_drew ?_ | refine blk_alloc ?_ _)); exact BK126.out)) : gb126 ≠ gb128)); have n7_ := Aside0.mk ((by rw [hg]; exact Nat.ne_of_gt (blk_lt (g := gb126) (o := .cells #[.int .i64 a0_0, .int .i64 a0_1] 102 (0, 0)) (by (with_reducible repeat (first | refine blk_drewN ?_ _ | refine blk_drew ?_ | refine blk_alloc ?_ _)); exact BK126.out)) : gb128 ≠ gb126)); have n8_ := Aside0.mk ((by rw [hg]; exact Nat.ne_of_lt (blk_lt (g := gb127) (o := .cells #[.int .i64 0, .int .i64 0] 91 (0, 0)) (by (with_reducible repeat (first | refine blk_drewN ?_ _ | refine blk_drew ?_ | refine blk_alloc ?_ _)); exact BK127.out)) : gb127 ≠ gb128)); have n9_ := Aside0.mk ((by rw [hg]; exact Nat.ne_of_gt (blk_lt (g := gb127) (o := .cells #[.int .i64 0, .int .i64 0] 91 (0, 0)) (by (with_reducible repeat (first | refine blk_drewN ?_ _ | refine blk_drew ?_ | refine blk_alloc ?_ _)); exact BK127.out)) : gb128 ≠ gb127)); clear BK126; clear BK127; clear HB; have BK126 := n0_; have BK127 := n1_; have HB := n2_; have BK128 := n3_; have GW128 := n4_; have GE128 := n5_; have NB126_128 := n6_; have NB128_126 := n7_; have NB127_128 := n8_; have NB128_127 := n9_; clear n0_ n1_ n2_ n3_ n4_ n5_ n6_ n7_ n8_ n9_; clear hb hbox hg; have hnb5 := NB126_127.out; have hnc5 := NB127_126.out; have hnb6 := NB126_128.out; have hnc6 := NB128_126.out; have hcz7_0 : w4.cell? ⟨gb126, 0, none⟩ = some (.int .i64 a0_0) := (blk_cell BK126.out 0).trans rfl; have hcz7_1 : w4.cell? ⟨gb126, 1, none⟩ = some (.int .i64 a0_1) := (blk_cell BK126.out 1).trans rfl; have hfz7_0 := blk_frozen BK126.out 0; have hfz7_1 := blk_frozen BK126.out 1; have hnb8 := NB128_127.out; have hnc8 := NB127_128.out; have hcz9_0 : w4.cell? ⟨gb128, 0, none⟩ = some (.int .i64 0) := (blk_cell BK128.out 0).trans rfl; have hcz9_1 : w4.cell? ⟨gb128, 1, none⟩ = some (.int .i64 0) := (blk_cell BK128.out 1).trans rfl; have hfz9_0 := blk_frozen BK128.out 0; have hfz9_1 := blk_frozen BK128.out 1; have hcz10_0 : w4.cell? ⟨gb127, 0, none⟩ = some (.int .i64 0) := (blk_cell BK127.out 0).trans rfl; have hcz10_1 : w4.cell? ⟨gb127, 1, none⟩ = some (.int .i64 0) := (blk_cell BK127.out 1).trans rfl; have hfz10_0 := blk_frozen BK127.out 0; have hfz10_1 := blk_frozen BK127.out 1))
  refine bodyPost_ret (results_cell_row rfl _ _ gb127 91 #[.int .i64 a0_0, .int .i64 a0_1] (0, 0) _ rfl (by (with_reducible repeat (first | refine blk_drewN ?_ _ | refine blk_drew ?_ | refine blk_alloc ?_ _)); refine blk_put (cs := #[.int .i64 a0_0, .int .i64 0]) ?_ 1 _ rfl; (with_reducible repeat (first | refine blk_drewN ?_ _ | refine blk_drew ?_ | refine blk_alloc ?_ _)); refine blk_put (cs := #[.int .i64 0, .int .i64 0]) ?_ 0 _ rfl; (with_reducible repeat (first | refine blk_drewN ?_ _ | refine blk_drew ?_ | refine blk_alloc ?_ _)); refine blk_far ?_ NB127_128.out _; (with_reducible repeat (first | refine blk_drewN ?_ _ | refine blk_drew ?_ | refine blk_alloc ?_ _)); refine blk_far ?_ NB127_128.out _; (with_reducible repeat (first | refine blk_drewN ?_ _ | refine blk_drew ?_ | refine blk_alloc ?_ _)); exact BK127.out) Try.underlying91 rfl (by kernel_rfl)) rfl ?_
  exact ⟨by first | rfl | (simp [errW_none, errW_some] <;> rfl) | (simp [*, errW_none, errW_some] <;> rfl), by repeat (first | (with_reducible first | exact HB.out | apply below_alloc | apply pw_below_drewN | apply below_drew1 | refine below_set ?_ GE126.out | refine below_set ?_ GE127.out | refine below_set ?_ GE128.out) | exact HB.out)⟩

/-! ### laws_toInstrS: function 35 -/
def laws_toInstrS.l0 : Nat → List (S102) → List (S91) → Int → Option ((List (S91)))
  | 0, _, _, _ => none
  | k + 1, x0, x3, x4 => if x4 < (x0.length : Int) then (if 0 ≤ x4 then ((laws_toInstr.f ((rd_T102 x0 x4).f0) ((rd_T102 x0 x4).f1)).bind fun bt133 => (if x4 < (x3.length : Int) then (laws_toInstrS.l0 k x0 (x3.set (x4 : Int).toNat (⟨bt133.1, bt133.2⟩ : S91)) (wrap64 (x4 + 1))) else (none))) else (none)) else (some x3)
def laws_toInstrS.f (k : Nat) (l0 : List (S102)) : Option ((List (S91))) := if 0 ≤ (l0.length : Int) then (if ((l0.length : Int) : Int).toNat ≤ 17592186044416 then (laws_toInstrS.l0 k l0 (List.replicate ((l0.length : Int) : Int).toNat z91) 0) else (none)) else (none)
theorem laws_toInstrS.mono_l : ∀ k, (∀ y0 y1 y2, LeO (laws_toInstrS.l0 k y0 y1 y2) (laws_toInstrS.l0 (k + 1) y0 y1 y2))
  | 0 => fun _ _ _ r h => by simp [laws_toInstrS.l0] at h
  | k + 1 => by
    have ih0 := laws_toInstrS.mono_l k
    · intro y0 y1 y2
      unfold laws_toInstrS.l0
      repeat' first
      | (with_reducible exact ih0 _ _ _)
      | (with_reducible exact LeO.refl _)
      | (with_reducible exact LeO.none _)
      | (with_reducible refine LeO.ite ?_ ?_)
      | (with_reducible refine LeO.bind ?_ (fun _ => ?_))
      | exact ih0 _ _ _
      | exact LeO.none _
      | refine LeO.ite ?_ ?_
      | refine LeO.bind ?_ (fun _ => ?_)
theorem laws_toInstrS.mono : ∀ a0 k, LeO (laws_toInstrS.f k a0) (laws_toInstrS.f (k + 1) a0) := by
  intro a0 k
  have ih0 := laws_toInstrS.mono_l k
  unfold laws_toInstrS.f
  repeat' first
      | (with_reducible exact ih0 _ _ _)
      | (with_reducible exact LeO.refl _)
      | (with_reducible exact LeO.none _)
      | (with_reducible refine LeO.ite ?_ ?_)
      | (with_reducible refine LeO.bind ?_ (fun _ => ?_))
      | exact ih0 _ _ _
      | exact LeO.none _
      | refine LeO.ite ?_ ?_
      | refine LeO.bind ?_ (fun _ => ?_)
set_option maxHeartbeats 8000000 in
set_option maxRecDepth 100000 in
theorem laws_toInstrS.calls (k : Nat) (A0 : Option Addr) (c0 : Nat) (l0 : List (S102)) (r : List (S91)) (w : World) (hr0 : Kd.C k102 w A0 l0.length l0) (hc0 : l0.length ≤ c0) (h : laws_toInstrS.f k l0 = some r) :
    Calls Try.prog 35 #[.slice A0 l0.length c0] w fun e w' => ∃ v0_ : Value, e = .returned (v0_) ∧ Kd.R k91 91 w' w.heap.size (fun _ => True) v0_ r ∧ Below w.heap.size w w' := by
  have hu102 := Try.underlying102
  have hu91 := Try.underlying91
  have HR0 := Aside0.mk hr0
  have HC0 := Aside0.mk hc0
  clear hr0 hc0
  have HB := Aside0.mk (Below.refl w.heap.size w)
  have H : (if 0 ≤ (l0.length : Int) then (if ((l0.length : Int) : Int).toNat ≤ 17592186044416 then (laws_toInstrS.l0 k l0 (List.replicate ((l0.length : Int) : Int).toNat z91) 0) else (none)) else (none)) = some r := h
  clear h
  by_cases c2 : 0 ≤ (l0.length : Int)
  · rw [if_pos c2] at H
    have c2b0 := eq_true c2
    have c2b1 : decide (0 ≤ (l0.length : Int)) = true := decide_eq_true c2
    clear c2
    by_cases c3 : ((l0.length : Int) : Int).toNat ≤ 17592186044416
    · rw [if_pos c3] at H
      have c3b0 := eq_true c3
      have c3b1 : decide (((l0.length : Int) : Int).toNat ≤ 17592186044416) = true := decide_eq_true c3
      clear c3
      obtain ⟨y129, hy129⟩ : ∃ y_ : List (S91), y_ = (List.replicate ((l0.length : Int) : Int).toNat z91) := ⟨_, rfl⟩
      replace H : (laws_toInstrS.l0 k l0 y129 0) = some r := by first | (rw [hy129]; with_reducible exact H) | (have H2_ := (Option.bind_some _ _).symm.trans H; rw [hy129]; with_reducible exact H2_) | (have H2_ := (Option.bind_some _ _).symm.trans H; with_reducible exact H2_) | with_reducible exact H | (rw [hy129]; exact H) | exact H
      have Ny129 := Aside0.mk hy129
      clear hy129
      have H' := Aside0.mk H
      clear H
      go_enter Try.func35, Try.ntmps35
      go_wp2_with (first | ((with_reducible refine gate_dst (N := 7) rfl ?_); refine Kd.R_make k91 _ 91 rfl (N := 7) rfl 57 _ _ rfl (l0.length : Int) rfl rfl Try.underlying57 (.agg #[(.int .i64 0), (.int .i64 0)]) 16 info91 rfl (by decide) (by omega) z91 (ok := fun _ => True) (okp := fun _ => True) (k91_mkM _ _ _ z91 ) (fun _ hk => hk) trivial (of_decide_eq_true (by first | (with_reducible assumption) | assumption)) (Nat.le_trans (Nat.mul_le_mul_right _ (of_decide_eq_true (by first | (with_reducible assumption) | assumption) : (l0.length : Int).toNat ≤ 17592186044416)) (by omega)) (Below.refl _ _) (Nat.le_refl _) ?_; intro v130 w4 ho5 hb hg_ hnew_; clear hg_ hnew_; (first | rw [← Ny129.out] at ho5 | (simp only [Int.reduceToNat] at ho5; rw [← Ny129.out] at ho5)); have n0_ := Aside0.mk (Kd.R_lower ho5 (below_size (by repeat (first | (with_reducible first | exact HB.out | apply below_alloc | apply pw_below_drewN | apply below_drew1) | exact HB.out)))); have n1_ := Aside0.mk (below_step (by repeat (first | (with_reducible first | exact HB.out | apply below_alloc | apply pw_below_drewN | apply below_drew1) | exact HB.out)) hb); clear HB; have HO131 := n0_; have HB := n1_; clear n0_ n1_; clear hb ho5))
      go_loopg [4] k (fun kq v4 w' => ∃ (x3_1 : List (S91)) (x4_1 : Int), v4 = .int .i64 x4_1 ∧ Aside0 (laws_toInstrS.l0 kq l0 x3_1 x4_1 = some r) ∧ Aside0 (kq ≤ k) ∧ Aside0 (Kd.R k91 91 w' w.heap.size (fun _ => True) v130 x3_1) ∧ Aside0 (Below w.heap.size w w'))
      case atStart => exact ⟨(y129), (0), (by first | rfl | (simp; done) | (simp [*]; done)), H', ⟨Nat.le_refl _⟩, ⟨by (with_reducible repeat (first | apply Kd.R_alloc | apply Kd.R_drewN | apply Kd.R_drew)); exact HO131.out⟩, ⟨by repeat (first | (with_reducible first | exact HB.out | apply below_alloc | apply pw_below_drewN | apply below_drew1) | exact HB.out)⟩⟩
      case round =>
        clear H'
        try clear c2
        try clear c2b0
        try clear c2b1
        try clear p2
        try clear c3
        try clear c3b0
        try clear c3b1
        obtain ⟨x3_1, x4_1, rfl, HA, HK1, HO_3, HB⟩ := hrel
        cases gk with
        | zero => exact absurd HA.out (by simp [laws_toInstrS.l0])
        | succ k1 =>
          have H := HA.out
          clear HA
          simp only [laws_toInstrS.l0] at H
          by_cases c6 : x4_1 < (l0.length : Int)
          · rw [if_pos c6] at H
            have c6b0 : decide (x4_1 < (l0.length : Int)) = true := decide_eq_true c6
            clear c6
            by_cases c7 : 0 ≤ x4_1
            · rw [if_pos c7] at H
              have c7b0 : decide (0 ≤ x4_1) = true := decide_eq_true c7
              clear c7
              replace H := Option.bind_eq_some_iff.mp H
              obtain ⟨⟨t133, t134⟩, A80, H⟩ := H
              replace H : (if x4_1 < (x3_1.length : Int) then (laws_toInstrS.l0 k1 l0 (x3_1.set (x4_1 : Int).toNat (⟨t133, t134⟩ : S91)) (wrap64 (x4_1 + 1))) else (none)) = some r := H
              have A8 := Aside0.mk A80
              clear A80
              by_cases c9 : x4_1 < (x3_1.length : Int)
              · rw [if_pos c9] at H
                have c9b0 : decide (x4_1 < (x3_1.length : Int)) = true := decide_eq_true c9
                clear c9
                obtain ⟨y135, hy135⟩ : ∃ y_ : List (S91), y_ = (x3_1.set (x4_1 : Int).toNat (⟨t133, t134⟩ : S91)) := ⟨_, rfl⟩
                replace H : (laws_toInstrS.l0 k1 l0 y135 (wrap64 (x4_1 + 1))) = some r := by first | (rw [hy135]; with_reducible exact H) | (have H2_ := (Option.bind_some _ _).symm.trans H; rw [hy135]; with_reducible exact H2_) | (have H2_ := (Option.bind_some _ _).symm.trans H; with_reducible exact H2_) | with_reducible exact H | (rw [hy135]; exact H) | exact H
                have Ny135 := Aside0.mk hy135
                clear hy135
                have H' := Aside0.mk H
                clear H
                have p132 : 0 ≤ (x4_1 : Int) := of_decide_eq_true (by first | (with_reducible assumption) | assumption)
                have q132 : x4_1 < (l0.length : Int) := of_decide_eq_true (by first | (with_reducible assumption) | assumption)
                obtain ⟨ad132, e132, hx132_0, hx132_1⟩ := at_T102 HR0.out x4_1 p132 q132
                cases e132
                replace hx132_0 := (HB.out.cell (World.block_lt_of_cell? w _ hx132_0)).trans hx132_0
                replace hx132_1 := (HB.out.cell (World.block_lt_of_cell? w _ hx132_1)).trans hx132_1
                replace p132 := eq_true p132
                replace q132 := eq_true q132
                go_wp2_with (first | ((with_reducible refine gate_callee (f := 82) rfl ?_); refine goesL_ (some 20) rfl rfl Try.func82 (by kernel_rfl) rfl #[.agg #[.int .i64 ((rd_T102 l0 x4_1).f0), .int .i64 ((rd_T102 l0 x4_1).f1)]] rfl (by (try simp only [List.map_toArray, List.map_cons, List.map_nil]); first | done | rfl | (simp only [List.length_drop, List.length_take]; rfl)) ?_; (with_reducible refine (laws_toInstr.calls ((rd_T102 l0 x4_1).f0) ((rd_T102 l0 x4_1).f1) t133 t134 _ A8.out).mono ?_); rintro e w11 ⟨rfl, hb⟩; refine ⟨_, rfl, ?_⟩; have n0_ := Aside0.mk (Kd.R_below (by (with_reducible repeat (first | apply Kd.R_alloc | apply Kd.R_drewN | apply Kd.R_drew)); exact HO_3.out) hb); have n1_ := Aside0.mk (below_step (by repeat (first | (with_reducible first | exact HB.out | apply below_alloc | apply pw_below_drewN | apply below_drew1) | exact HB.out)) hb); clear HO_3; clear HB; have HO_3 := n0_; have HB := n1_; clear n0_ n1_; (try clear hb); (try clear hb2); (try clear hk); (try clear hi); have p10 : 0 ≤ (x4_1 : Int) := of_decide_eq_true (by first | (with_reducible assumption) | assumption); have q10 : (x4_1 : Int) < ((x3_1.length : Int) : Int) := of_decide_eq_true (by first | (with_reducible assumption) | assumption); obtain ⟨go10, co10, eo10, gb10, gl10, cl10, HG10⟩ := Kd.R_form HO_3.out (by omega); (first | cases eo10 | (injection eo10 with ea_ en_ ec_; (first | subst ea_ | (injection ea_ with ea_; subst ea_)); subst ec_; clear en_)); have GB10 := Aside0.mk gb10; have GG10 := Aside0.mk HG10; clear gb10 gl10 HG10; obtain ⟨ce10, hcl10, hM10, hcc10, hfr10⟩ := Kd.R_elem HO_3.out z91 (x4_1 : Int) p10 q10; obtain rfl := k91_openM hM10; have hx10_0 : w11.cell? ⟨go10, (x4_1 : Int).toNat * 2, none⟩ = some (.int .i64 ((rd_T91 x3_1 x4_1).f0)) := hcc10 0 _ rfl; have hx10_1 : w11.cell? ⟨go10, (x4_1 : Int).toNat * 2 + 1, none⟩ = some (.int .i64 ((rd_T91 x3_1 x4_1).f1)) := hcc10 1 _ rfl; have hf10_0 : w11.frozen? ⟨go10, (x4_1 : Int).toNat * 2, none⟩ = false := hfr10 0; have hf10_1 : w11.frozen? ⟨go10, (x4_1 : Int).toNat * 2 + 1, none⟩ = false := hfr10 1; clear hcl10 hcc10 hfr10 hM10; replace p10 := eq_true p10; replace q10 := eq_true q10; have HX12 := Aside0.mk (show Kd.R k91 91 w11 w.heap.size (fun _ => True) (.slice (some ⟨go10, 0, none⟩) x3_1.length co10) x3_1 from (by (with_reducible repeat (first | apply Kd.R_alloc | apply Kd.R_drewN | apply Kd.R_drew)); exact HO_3.out)); obtain ⟨ce12, hcl12, hM12, hcc12, hfr12⟩ := Kd.R_elem HX12.out z91 (x4_1 : Int) (of_decide_eq_true (by first | (with_reducible assumption) | assumption)) (by have h_ : (x4_1 : Int) < ((x3_1.length : Int) : Int) := of_decide_eq_true (by first | (with_reducible assumption) | assumption); first | exact h_ | (have e_ := (Kd.R_reads' HO_3.out).1; omega) | simpa using h_); obtain rfl := k91_openM hM12; have HP12 := Kd.R_seg HX12.out (x4_1 : Int) (of_decide_eq_true (by first | (with_reducible assumption) | assumption)) (by have h_ : (x4_1 : Int) < ((x3_1.length : Int) : Int) := of_decide_eq_true (by first | (with_reducible assumption) | assumption); first | exact h_ | (have e_ := (Kd.R_reads' HO_3.out).1; omega) | simpa using h_) (seg := [.int .i64 t133, .int .i64 t134]) (j := 0) hcl12 hcc12 (show 2 ≤ 2 from by decide) (x' := (⟨t133, t134⟩ : S91)) (k91_mkM _ _ _ (⟨t133, t134⟩ : S91) ) (fun _ hk => hk); have hx12_0 := hcc12 0 _ rfl; (try simp only [show (k91).sz = 2 from rfl, Nat.mul_one, Nat.add_zero] at hx12_0); have hf12_0 := hfr12 0; (try simp only [show (k91).sz = 2 from rfl, Nat.mul_one, Nat.add_zero] at hf12_0); have hx12_1 := hcc12 1 _ rfl; (try simp only [show (k91).sz = 2 from rfl, Nat.mul_one, Nat.add_zero] at hx12_1); have hf12_1 := hfr12 1; (try simp only [show (k91).sz = 2 from rfl, Nat.mul_one, Nat.add_zero] at hf12_1); clear hcl12 hcc12 hfr12 hM12) | ((with_reducible refine gate_store (t := 91) (p := 21) rfl ?_); refine store_event (t := 91) (p := 21) (v := ?vo_w13) (w1 := ((w11.setCell ⟨go10, (x4_1 : Int).toNat * 2, none⟩ (.int .i64 t133)).setCell ⟨go10, (x4_1 : Int).toNat * 2 + 1, none⟩ (.int .i64 t134))) ?hg ?ho ?hn ?hr ?_; (case ho => rfl); (case hg => rfl); (case hn => rfl); (case hr => first | (go_simp; done) | (go_simp; rfl)); intro w13 hw; have hg : w11.grownBy w13 (some go10) := (by rw [hw]; exact HP12.2); have hp_ : Kd.R k91 91 w13 w.heap.size (fun _ => True) (.slice (some ⟨go10, 0, none⟩) x3_1.length co10) y135 := (by rw [hw, Ny135.out]; exact HP12.1); clear HP12; have n0_ := Aside0.mk (hp_); have n1_ := Aside0.mk ((by rw [hw]; exact below_set (below_set (HB.out) GB10.out) GB10.out : Below w.heap.size w w13)); clear HO_3; clear HB; have HO_3 := n0_; have HB := n1_; clear n0_ n1_; clear hg hw hp_))
                go_roundg k1
                case measure => have := HK1.out; omega
                case rel => exact ⟨(y135), (wrap64 (x4_1 + 1)), (by first | rfl | (simp; done) | (simp [*]; done)), H', ⟨by have := HK1.out; omega⟩, ⟨by (with_reducible repeat (first | apply Kd.R_alloc | apply Kd.R_drewN | apply Kd.R_drew)); exact HO_3.out⟩, ⟨by repeat (first | (with_reducible first | exact HB.out | apply below_alloc | apply pw_below_drewN | apply below_drew1) | exact HB.out)⟩⟩
              · rw [if_neg c9] at H
                exact absurd H (by simp)
            · rw [if_neg c7] at H
              exact absurd H (by simp)
          · rw [if_neg c6] at H
            have c6b0 : decide (x4_1 < (l0.length : Int)) = false := decide_eq_false c6
            clear c6
            obtain rfl := Option.some.inj H
            go_wp2
            go_ret
            exact ⟨_, by first | rfl | (simp [errW_none, errW_some] <;> rfl) | (simp [*, errW_none, errW_some] <;> rfl), by (with_reducible repeat (first | apply Kd.R_alloc | apply Kd.R_drewN | apply Kd.R_drew)); exact HO_3.out, by repeat (first | (with_reducible first | exact HB.out | apply below_alloc | apply pw_below_drewN | apply below_drew1) | exact HB.out)⟩
    · rw [if_neg c3] at H
      exact absurd H (by simp)
  · rw [if_neg c2] at H
    exact absurd H (by simp)

/-! ### impl_first: function 62 -/
def impl_first.l0 : Nat → List Int → Int → Int → Option (Int)
  | 0, _, _, _ => none
  | k + 1, x5, x6, x7 => if x7 < x6 then (if 0 ≤ x7 then (if x7 < (x5.length : Int) then (if (rd x5 x7) = 0 then (impl_first.l0 k x5 x6 (wrap64 (x7 + 1))) else (some (rd x5 x7))) else (none)) else (none)) else (some 0)
def impl_first.f (k : Nat) (l0 : List Int) : Option (Int) := impl_first.l0 k l0 (l0.length : Int) 0
theorem impl_first.mono_l : ∀ k, (∀ y0 y1 y2, LeO (impl_first.l0 k y0 y1 y2) (impl_first.l0 (k + 1) y0 y1 y2))
  | 0 => fun _ _ _ r h => by simp [impl_first.l0] at h
  | k + 1 => by
    have ih0 := impl_first.mono_l k
    · intro y0 y1 y2
      unfold impl_first.l0
      repeat' first
      | (with_reducible exact ih0 _ _ _)
      | (with_reducible exact LeO.refl _)
      | (with_reducible exact LeO.none _)
      | (with_reducible refine LeO.ite ?_ ?_)
      | (with_reducible refine LeO.bind ?_ (fun _ => ?_))
      | exact ih0 _ _ _
      | exact LeO.none _
      | refine LeO.ite ?_ ?_
      | refine LeO.bind ?_ (fun _ => ?_)
theorem impl_first.mono : ∀ a0 k, LeO (impl_first.f k a0) (impl_first.f (k + 1) a0) := by
  intro a0 k
  have ih0 := impl_first.mono_l k
  unfold impl_first.f
  repeat' first
      | (with_reducible exact ih0 _ _ _)
      | (with_reducible exact LeO.refl _)
      | (with_reducible exact LeO.none _)
      | (with_reducible refine LeO.ite ?_ ?_)
      | (with_reducible refine LeO.bind ?_ (fun _ => ?_))
      | exact ih0 _ _ _
      | exact LeO.none _
      | refine LeO.ite ?_ ?_
      | refine LeO.bind ?_ (fun _ => ?_)
set_option maxHeartbeats 8000000 in
set_option maxRecDepth 100000 in
theorem impl_first.calls (k : Nat) (A0 : Option Addr) (c0 : Nat) (l0 : List Int) (r : Int) (w : World) (hr0 : Kd.C (Kd.int .i64) w A0 l0.length l0) (hc0 : l0.length ≤ c0) (h : impl_first.f k l0 = some r) :
    Calls Try.prog 62 #[.slice A0 l0.length c0] w fun e w' => e = .returned (.int .i64 r) ∧ Drawn0 w w' := by
  have HR0 := Aside0.mk hr0
  have HC0 := Aside0.mk hc0
  clear hr0 hc0
  have H : (impl_first.l0 k l0 (l0.length : Int) 0) = some r := h
  clear h
  have H' := Aside0.mk H
  clear H
  go_enter Try.func62, Try.ntmps62
  go_wp2
  go_loopg [7] k (fun kq v7 w' => ∃ (x7_1 : Int), v7 = .int .i64 x7_1 ∧ Aside0 (impl_first.l0 kq l0 (l0.length : Int) x7_1 = some r) ∧ Aside0 (kq ≤ k) ∧ Drawn0 w w')
  case atStart => exact ⟨(0), (by first | rfl | (simp; done) | (simp [*]; done)), H', ⟨Nat.le_refl _⟩, by repeat (first | exact Drawn0.refl _ | apply Drawn0.step)⟩
  case round =>
    clear H'
    obtain ⟨x7_1, rfl, HA, HK1, ⟨m1, rfl⟩⟩ := hrel
    cases gk with
    | zero => exact absurd HA.out (by simp [impl_first.l0])
    | succ k1 =>
      have H := HA.out
      clear HA
      simp only [impl_first.l0] at H
      by_cases c2 : x7_1 < (l0.length : Int)
      · rw [if_pos c2] at H
        have c2b0 : decide (x7_1 < (l0.length : Int)) = true := decide_eq_true c2
        clear c2
        by_cases c3 : 0 ≤ x7_1
        · rw [if_pos c3] at H
          have c3b0 : decide (0 ≤ x7_1) = true := decide_eq_true c3
          clear c3
          by_cases c4 : x7_1 < (l0.length : Int)
          · rw [if_pos c4] at H
            have c4b0 : decide (x7_1 < (l0.length : Int)) = true := decide_eq_true c4
            clear c4
            by_cases c5 : (rd l0 x7_1) = 0
            · rw [if_pos c5] at H
              have c5b0 : ((rd l0 x7_1) == 0) = true := beq_iff_eq.mpr c5
              have c5b1 : ((rd l0 x7_1) != 0) = false := bne_eq_false_iff_eq.mpr c5
              clear c5
              have H' := Aside0.mk H
              clear H
              have p136 : 0 ≤ (x7_1 : Int) := of_decide_eq_true (by first | (with_reducible assumption) | assumption)
              have q136 : x7_1 < (l0.length : Int) := of_decide_eq_true (by first | (with_reducible assumption) | assumption)
              obtain ⟨ad136, e136, hx136_0⟩ := Kd.at_int HR0.out x7_1 p136 q136
              cases e136
              replace p136 := eq_true p136
              replace q136 := eq_true q136
              go_wp2
              go_roundg k1
              case measure => have := HK1.out; omega
              case rel => exact ⟨(wrap64 (x7_1 + 1)), (by first | rfl | (simp; done) | (simp [*]; done)), H', ⟨by have := HK1.out; omega⟩, by repeat (first | exact Drawn0.refl _ | apply Drawn0.step)⟩
            · rw [if_neg c5] at H
              have c5b0 : ((rd l0 x7_1) == 0) = false := beq_eq_false_iff_ne.mpr c5
              have c5b1 : ((rd l0 x7_1) != 0) = true := bne_iff_ne.mpr c5
              obtain rfl := Option.some.inj H
              have p136 : 0 ≤ (x7_1 : Int) := of_decide_eq_true (by first | (with_reducible assumption) | assumption)
              have q136 : x7_1 < (l0.length : Int) := of_decide_eq_true (by first | (with_reducible assumption) | assumption)
              obtain ⟨ad136, e136, hx136_0⟩ := Kd.at_int HR0.out x7_1 p136 q136
              cases e136
              replace p136 := eq_true p136
              replace q136 := eq_true q136
              go_wp2
              go_ret
              exact ⟨by first | rfl | (simp; done) | (simp [*]; done), by repeat (first | exact Drawn0.refl _ | apply Drawn0.step)⟩
          · rw [if_neg c4] at H
            exact absurd H (by simp)
        · rw [if_neg c3] at H
          exact absurd H (by simp)
      · rw [if_neg c2] at H
        have c2b0 : decide (x7_1 < (l0.length : Int)) = false := decide_eq_false c2
        clear c2
        obtain rfl := Option.some.inj H
        go_wp2
        go_ret
        exact ⟨by first | rfl | (simp; done) | (simp [*]; done), by repeat (first | exact Drawn0.refl _ | apply Drawn0.step)⟩

/-! ### impl_when: function 64 -/
def impl_when.f (a0 : Bool) (a1 : Int) : Option (Int) := if a0 = true then (some a1) else (some 0)
set_option maxHeartbeats 8000000 in
set_option maxRecDepth 100000 in
theorem impl_when.calls (a0 : Bool) (a1 : Int) (r : Int) (w : World) (h : impl_when.f a0 a1 = some r) :
    Calls Try.prog 64 #[.bool a0, .int .i64 a1] w fun e w' => e = .returned (.int .i64 r) ∧ Drawn0 w w' := by
  have H : (if a0 = true then (some a1) else (some 0)) = some r := h
  clear h
  by_cases c3 : a0 = true
  · subst c3
    have H1 : (some a1) = some r := by rw [if_pos rfl] at H; exact H
    clear H
    have H := H1
    clear H1
    obtain rfl := Option.some.inj H
    go_enter Try.func64, Try.ntmps64
    go_wp2
    go_ret
    exact ⟨by first | rfl | (simp; done) | (simp [*]; done), by repeat (first | exact Drawn0.refl _ | apply Drawn0.step)⟩
  · replace c3 := Bool.eq_false_iff.mpr c3
    subst c3
    have H1 : (some 0) = some r := by rw [if_neg (show ¬ (false = true) by decide)] at H; exact H
    clear H
    have H := H1
    clear H1
    obtain rfl := Option.some.inj H
    go_enter Try.func64, Try.ntmps64
    go_wp2
    go_ret
    exact ⟨by first | rfl | (simp; done) | (simp [*]; done), by repeat (first | exact Drawn0.refl _ | apply Drawn0.step)⟩

/-! ### impl_many_int: function 63 -/
def impl_many_int.f (l0 : List Int) : Option (Int) := (impl_when.f (decide ((l0.length : Int) > 4096)) 2).bind fun t137 => (some t137)
set_option maxHeartbeats 8000000 in
set_option maxRecDepth 100000 in
theorem impl_many_int.calls (A0 : Option Addr) (c0 : Nat) (l0 : List Int) (r : Int) (w : World) (hr0 : Kd.C (Kd.int .i64) w A0 l0.length l0) (hc0 : l0.length ≤ c0) (h : impl_many_int.f l0 = some r) :
    Calls Try.prog 63 #[.slice A0 l0.length c0] w fun e w' => e = .returned (.int .i64 r) ∧ Drawn0 w w' := by
  have HR0 := Aside0.mk hr0
  have HC0 := Aside0.mk hc0
  clear hr0 hc0
  have H : ((impl_when.f (decide ((l0.length : Int) > 4096)) 2).bind fun t137 => (some t137)) = some r := h
  clear h
  replace H := Option.bind_eq_some_iff.mp H
  obtain ⟨t137, A20, H⟩ := H
  replace H : (some t137) = some r := H
  have A2 := Aside0.mk A20
  clear A20
  obtain rfl := Option.some.inj H
  go_enter Try.func63, Try.ntmps63
  go_wp2_with (first | ((with_reducible refine gate_callee (f := 64) rfl ?_); refine goesL_ (some 6) rfl rfl Try.func64 (by kernel_rfl) rfl #[.bool (decide ((l0.length : Int) > 4096)), .int .i64 2] rfl (by (try simp only [List.map_toArray, List.map_cons, List.map_nil]); first | done | rfl | (simp only [List.length_drop, List.length_take]; rfl)) ?_; (with_reducible refine (impl_when.calls (decide ((l0.length : Int) > 4096)) 2 t137 _ A2.out).mono ?_); rintro e w' ⟨rfl, ⟨nd, rfl⟩⟩; refine ⟨_, rfl, ?_⟩))
  go_ret
  exact ⟨by first | rfl | (simp; done) | (simp [*]; done), by repeat (first | exact Drawn0.refl _ | apply Drawn0.step)⟩

-- NOT PRINTED: function 125 (slices_IndexFunc_int_int)

-- NOT PRINTED: function 98 (slices_ContainsFunc_int_int)

-- NOT PRINTED: function 53 (impl_all_int)

/-! ### impl_within: function 87 -/
def impl_within.f (a0 : Int) (a1 : Int) (a2 : Int) : Option (Bool) := if a0 ≥ a1 then (some (decide (a0 ≤ a2))) else (some false)
set_option maxHeartbeats 8000000 in
set_option maxRecDepth 100000 in
theorem impl_within.calls (a0 : Int) (a1 : Int) (a2 : Int) (r : Bool) (w : World) (h : impl_within.f a0 a1 a2 = some r) :
    Calls Try.prog 87 #[.int .i64 a0, .int .i64 a1, .int .i64 a2] w fun e w' => e = .returned (.bool r) ∧ Drawn0 w w' := by
  have H : (if a0 ≥ a1 then (some (decide (a0 ≤ a2))) else (some false)) = some r := h
  clear h
  by_cases c4 : a0 ≥ a1
  · rw [if_pos c4] at H
    have c4b0 : decide (a1 ≤ a0) = true := decide_eq_true c4
    clear c4
    obtain rfl := Option.some.inj H
    go_enter Try.func87, Try.ntmps87
    go_wp2
    go_ret
    exact ⟨by first | rfl | (simp; done) | (simp [*]; done), by repeat (first | exact Drawn0.refl _ | apply Drawn0.step)⟩
  · rw [if_neg c4] at H
    have c4b0 : decide (a1 ≤ a0) = false := decide_eq_false c4
    clear c4
    obtain rfl := Option.some.inj H
    go_enter Try.func87, Try.ntmps87
    go_wp2
    go_ret
    exact ⟨by first | rfl | (simp; done) | (simp [*]; done), by repeat (first | exact Drawn0.refl _ | apply Drawn0.step)⟩

end Go.Proofs.Ytjgdfbcjlebniaa.MFnExactVerifyCode

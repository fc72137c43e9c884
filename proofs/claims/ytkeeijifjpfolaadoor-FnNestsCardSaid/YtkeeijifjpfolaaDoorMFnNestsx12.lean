-- Text written by a program of this session (wip/tools: the kit's printer with additions of ours).
import Derived.Test.YtkeeijifjpfolaaDoorMFnNestsx0
import Derived.Test.YtkeeijifjpfolaaDoorMFnNestsx8
import Derived.Test.YtkeeijifjpfolaaDoorMFnNestsx11
namespace Go.Proofs.YtkeeijifjpfolaaDoor.MFnNests
open Go.RowKit Go.Proofs.YtkeeijifjpfolaaDoorW.PrintWords Go.Proofs.YtkeeijifjpfolaaDoorW.PrintLast Go.Proofs.YtkeeijifjpfolaaDoorW.PrintMore
attribute [local go_sem] max2_int min2_int max_two min_two max_three min_three max_four min_four   -- for this text's walks alone
set_option linter.unusedVariables false
set_option linter.unusedSimpArgs false

/-! ### impl_OpName: function 8 -/
theorem tab_below {name : String} {kd_ : IntKind} {zs : List Int} {w w' : World} (h : Lib.TabIs Tryd.prog w name kd_ zs) (hb : Below w.heap.size w w') : Lib.TabIs Tryd.prog w' name kd_ zs := by
  unfold Lib.TabIs World.var? at h ⊢
  cases hg : Tryd.prog.globalNamed name with
  | none => simp [hg] at h
  | some g =>
    simp only [hg, Option.bind_some] at h ⊢
    have hlt : g < w.heap.size := by
      rcases Nat.lt_or_ge g w.heap.size with h' | h'
      · exact h'
      · simp [Array.getElem?_eq_none h'] at h
    rw [hb.block g hlt]
    exact h
theorem bcell0 {W w1 : World} (hb : Below W.heap.size W w1) : ∀ b o, b < W.heap.size → w1.cell? ⟨b, o, none⟩ = W.cell? ⟨b, o, none⟩ := fun b o h => hb.cell (p := ⟨b, o, none⟩) h
/-- What a call hands back that makes a list of words. -/
def Words (ws : List ByteArray) (w : World) (e : Ending) (w' : World) : Prop := ∃ A c, e = .returned (.slice A ws.length c) ∧ ws.length ≤ c ∧ Kd.C Kd.string w' A ws.length ws ∧ Below w.heap.size w w'
theorem words_of_fields (s : ByteArray) (ws : List ByteArray) (hw : (Lib.fields s.data.toList).map (fun l => (⟨l.toArray⟩ : ByteArray)) = ws) (hn : ws.length ≤ 1000) (hs : s.size < 4294967281) (ha : s.data.toList.all (fun b => decide (b.toNat < 128)) = true) (w : World) (hT : Lib.TabIs Tryd.prog w "strings.asciiSpace" .u8 Lib.asciiSpaceTab) :
    Calls Tryd.prog 22 #[.string s] w (Words ws w) := by
  refine (Tryd.strings_Fields_laid s w hs (fun j b h => of_decide_eq_true (List.all_eq_true.1 ha b (List.mem_of_getElem? h))) hT).mono ?_
  rintro e w' ⟨rfl, rfl⟩
  have e0 : ((Lib.fields s.data.toList).map fun l => Value.string ⟨l.toArray⟩) = ws.map Value.string := by rw [← hw, List.map_map]; rfl
  have e2 : (Lib.fields s.data.toList).length = ws.length := by rw [← hw, List.length_map]
  rw [e0, e2]
  refine ⟨_, _, rfl, Nat.le_refl _, ⟨rfl, by omega, fun _ => ⟨_, rfl, fun j p hp => ⟨[.string p], rfl, rfl, fun i u hu => ?_⟩⟩⟩, (Below.refl _ _).alloc (Nat.le_refl _) _⟩
  have hi : i = 0 := by
    rcases Nat.eq_zero_or_pos i with h | h
    · exact h
    · rw [List.getElem?_eq_none (by simp; omega)] at hu; cases hu
  subst hi
  obtain rfl : Value.string p = u := by simpa using hu
  have e1 : Kd.string.sz = 1 := rfl
  rw [e1, Nat.mul_one, Nat.add_zero, Go.Proofs.YtkeeijifjpfolaaDoorW.PrintWords.add_plain]
  rw [World.cell?_alloc_at _ _ _ _ rfl, List.getElem?_toArray, List.getElem?_map, hp]
  rfl
/-- The place of a text among others. -/
def plc : List ByteArray → ByteArray → Int → Int
  | [], _, _ => -1
  | w :: ws, s, i => if w.toList = s.toList then i else plc ws s (i + 1)
theorem str_at {w : World} {A : Option Addr} {n : Nat} {xs : List ByteArray} (h : Kd.C Kd.string w A n xs) (i : Int) (h0 : 0 ≤ i) (h1 : i < n) : ∃ ad, A = some ad ∧ w.cell? (ad.add i.toNat) = some (.string (xs.getD i.toNat ByteArray.empty)) := by
  obtain ⟨ad, c, e, _, hK, hc⟩ := Kd.C_get h ByteArray.empty i h0 h1
  have hK' : c = [Value.string (xs.getD i.toNat ByteArray.empty)] := hK
  subst hK'
  have q := hc 0 _ rfl
  have e1 : Kd.string.sz = 1 := rfl
  rw [e1, Nat.mul_one, Nat.add_zero] at q
  exact ⟨ad, e, q⟩
def ow : List ByteArray := [(⟨#[112, 117, 115, 104]⟩ : ByteArray), (⟨#[102, 108, 97, 103]⟩ : ByteArray), (⟨#[108, 111, 97, 100]⟩ : ByteArray), (⟨#[115, 116, 111, 114, 101]⟩ : ByteArray), (⟨#[105, 110]⟩ : ByteArray), (⟨#[111, 117, 116]⟩ : ByteArray), (⟨#[112, 101, 101, 107]⟩ : ByteArray), (⟨#[112, 111, 107, 101]⟩ : ByteArray), (⟨#[97, 100, 100]⟩ : ByteArray), (⟨#[115, 117, 98]⟩ : ByteArray), (⟨#[109, 117, 108]⟩ : ByteArray), (⟨#[100, 105, 118]⟩ : ByteArray), (⟨#[108, 101, 115, 115]⟩ : ByteArray), (⟨#[115, 97, 109, 101]⟩ : ByteArray), (⟨#[97, 110, 100]⟩ : ByteArray), (⟨#[111, 114]⟩ : ByteArray), (⟨#[110, 111, 116]⟩ : ByteArray), (⟨#[115, 101, 108]⟩ : ByteArray), (⟨#[98, 108, 111, 99, 107]⟩ : ByteArray), (⟨#[118, 97, 108, 117, 101]⟩ : ByteArray), (⟨#[105, 102]⟩ : ByteArray), (⟨#[101, 108, 115, 101]⟩ : ByteArray), (⟨#[101, 110, 100]⟩ : ByteArray), (⟨#[114, 101, 112, 101, 97, 116]⟩ : ByteArray), (⟨#[99, 117, 116]⟩ : ByteArray), (⟨#[99, 97, 108, 108]⟩ : ByteArray)]
theorem opNames_calls (w : World) (hT : Lib.TabIs Tryd.prog w "strings.asciiSpace" .u8 Lib.asciiSpaceTab) : Calls Tryd.prog 19 #[] w (Words ow w) := by
  have cF := words_of_fields (⟨#[112, 117, 115, 104, 32, 102, 108, 97, 103, 32, 108, 111, 97, 100, 32, 115, 116, 111, 114, 101, 32, 105, 110, 32, 111, 117, 116, 32, 112, 101, 101, 107, 32, 112, 111, 107, 101, 32, 97, 100, 100, 32, 115, 117, 98, 32, 109, 117, 108, 32, 100, 105, 118, 32, 108, 101, 115, 115, 32, 115, 97, 109, 101, 32, 97, 110, 100, 32, 111, 114, 32, 110, 111, 116, 32, 115, 101, 108, 32, 98, 108, 111, 99, 107, 32, 118, 97, 108, 117, 101, 32, 105, 102, 32, 101, 108, 115, 101, 32, 101, 110, 100, 32, 114, 101, 112, 101, 97, 116, 32, 99, 117, 116, 32, 99, 97, 108, 108]⟩ : ByteArray) ow (by kernel_rfl) (by decide +kernel) (by decide +kernel) (by kernel_rfl) w hT
  clear hT
  go_enter Tryd.func19, Tryd.ntmps19
  go_wp2_with (first | (go_at_call 22; refine cF.mono ?_; rintro e w' ⟨A, c, rfl, hl, hC, hb⟩; have HL := Aside0.mk hl; have HC := Aside0.mk hC; have HB := Aside0.mk hb; clear hl hC hb))
  go_ret
  exact ⟨A, c, rfl, HL.out, HC.out, HB.out⟩
def owAt (a : Int) : ByteArray := if 1 ≤ a ∧ a ≤ 26 then ow.getD (a - 1).toNat ByteArray.empty else ⟨#[]⟩
theorem isOp_f (a : Int) : impl_isOp.f a = some (decide (1 ≤ a ∧ a ≤ 26)) := by
  unfold impl_isOp.f impl_within.f
  by_cases h0 : 1 ≤ a
  · rw [if_pos h0]; simp [h0]
  · rw [if_neg h0, decide_eq_false (fun h => h0 h.1)]; rfl
theorem OpName_calls (a : Int) (w : World) (hT : Lib.TabIs Tryd.prog w "strings.asciiSpace" .u8 Lib.asciiSpaceTab) :
    Calls Tryd.prog 8 #[.int .i64 a] w fun e w' => e = .returned (.string (owAt a)) ∧ Below w.heap.size w w' := by
  by_cases h : 1 ≤ a ∧ a ≤ 26
  · have ha : owAt a = ow.getD (a - 1).toNat ByteArray.empty := if_pos h
    have cI := impl_isOp.calls a true w (by rw [isOp_f, decide_eq_true h])
    obtain ⟨x, hx⟩ : ∃ x, x = ow.getD (a - 1).toNat ByteArray.empty := ⟨_, rfl⟩
    rw [ha, ← hx]
    have HX := Aside0.mk hx
    have HT := Aside0.mk hT
    obtain ⟨h0, h26⟩ := h
    have hlt : a - 1 < (ow.length : Int) := by have : ow.length = 26 := by decide
                                               omega
    have h00 : 0 ≤ a - 1 := by omega
    have HI := Aside0.mk h00
    have HTN := Aside0.mk (show (a - 1).toNat = a.toNat - 1 by omega)
    have HJ := Aside0.mk hlt
    have p5 := eq_true h00
    have q5 := eq_true hlt
    clear hT ha hlt hx h00
    go_enter Tryd.func8, Tryd.ntmps8
    go_wp2_with (first | (go_at_call 18; refine cI.mono ?_; rintro e w1 ⟨rfl, hd⟩; have HB1 := Aside0.mk hd.below; clear hd) | (go_at_call 19; refine (opNames_calls _ (tab_below HT.out HB1.out)).mono ?_; rintro e w2 ⟨A, c, rfl, hl, hC, hb⟩; have HB2 := Aside0.mk (below_then HB1.out HB1.out.size hb); obtain ⟨ad, rfl, hcell⟩ := str_at hC (a - 1) HI.out HJ.out; rw [← HX.out, HTN.out] at hcell; clear hl hC hb))
    go_ret
    exact ⟨rfl, HB2.out⟩
  · have ha : owAt a = ⟨#[]⟩ := if_neg h
    have cI := impl_isOp.calls a false w (by rw [isOp_f, decide_eq_false h])
    rw [ha]
    clear hT ha h
    go_enter Tryd.func8, Tryd.ntmps8
    go_wp2_with (first | (go_at_call 18; refine cI.mono ?_; rintro e w1 ⟨rfl, hd⟩; have HB1 := Aside0.mk hd.below; clear hd))
    go_ret
    exact ⟨rfl, HB1.out⟩
def impl_OpName.f (a0 : Int) : Option (ByteArray) := some (owAt a0)
theorem impl_OpName.calls (a0 : Int) (r : ByteArray) (w : World) (h : impl_OpName.f a0 = some r) (hT : Lib.TabIs Tryd.prog w "strings.asciiSpace" .u8 Lib.asciiSpaceTab) :
    Calls Tryd.prog 8 #[.int .i64 a0] w fun e w' => e = .returned (.string r) ∧ Below w.heap.size w w' := by
  obtain rfl := Option.some.inj h
  exact OpName_calls a0 w hT

end Go.Proofs.YtkeeijifjpfolaaDoor.MFnNests

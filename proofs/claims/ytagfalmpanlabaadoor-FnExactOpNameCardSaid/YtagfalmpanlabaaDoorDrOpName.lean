/- Proved: the tied card of the law FnExactOpName of the given program: for every input the law returns true, the listed package-level variables reading as the program's own initialisers lay them (tied by the given Tie text). Conditions: none beyond the card's own. -/
import Derived.Test.YtagfalmpanlabaaDoorCards
import Derived.Test.YtagfalmpanlabaaDoorTie
import Derived.Test.YtagfalmpanlabaaDoorMFnExactOpNamex1
import Derived.Shelf.LaysM
import Derived.Shelf.Strings.SplitShaped
import Derived.Lib.LaidTab
import Derived.Stop.LaidErr
import Derived.MakeChecks
import Derived.LaidMore
import Derived.WalkKit
import Derived.ProofKit
import Derived.OpenShut
import Derived.ShutString
import Derived.ChangeOld
import Derived.Below
import Derived.SizedLaws
import Derived.ChangeSame
import Derived.Stop.Joined
import Derived.SevenTiedAt
set_option linter.unusedVariables false
set_option linter.unusedSimpArgs false
namespace Go.Proofs
open Go.Shelf
def Tryd.laysM157_ren : Go.Shelf.Ren := ⟨fun | 157 => 23 | 229 => 25 | 199 => 26 | 261 => 27 | 311 => 28 | 312 => 29 | n => n, fun | 9 => 9 | 31 => 26 | 3 => 3 | 5 => 5 | 4 => 4 | 119 => 31 | 0 => 0 | 40 => 33 | 152 => 34 | 21 => 21 | 154 => 36 | 51 => 37 | 141 => 39 | 196 => 43 | 193 => 40 | 198 => 46 | 49 => 44 | 194 => 41 | 201 => 49 | 226 => 51 | 46 => 52 | 227 => 53 | n => n, fun | 0 => 0 | 6 => 1 | n => n⟩
theorem Tryd.laysM157 : Go.Proofs.LaysM.n157 Tryd.prog Tryd.laysM157_ren := {
  mixed := by kernel_rfl
  f157 := Tryd.func23.trans (congrArg some (by kernel_rfl))
  f199 := Tryd.func26.trans (congrArg some (by kernel_rfl))
  f229 := Tryd.func25.trans (congrArg some (by kernel_rfl))
  f261 := Tryd.func27.trans (congrArg some (by kernel_rfl))
  f311 := Tryd.func28.trans (congrArg some (by kernel_rfl))
  f312 := Tryd.func29.trans (congrArg some (by kernel_rfl))
  t0 := Tryd.underlying0
  a0 := Tryd.isAgg0
  z0 := Tryd.sizeOf0
  v0 := Tryd.zeroValue0
  t3 := Tryd.underlying3
  a3 := Tryd.isAgg3
  z3 := Tryd.sizeOf3
  v3 := Tryd.zeroValue3
  t4 := Tryd.underlying4
  a4 := Tryd.isAgg4
  z4 := Tryd.sizeOf4
  v4 := Tryd.zeroValue4
  t5 := Tryd.underlying5
  a5 := Tryd.isAgg5
  z5 := Tryd.sizeOf5
  v5 := Tryd.zeroValue5
  t9 := Tryd.underlying9
  a9 := Tryd.isAgg9
  z9 := Tryd.sizeOf9
  v9 := Tryd.zeroValue9
  t21 := Tryd.underlying21
  a21 := Tryd.isAgg21
  z21 := Tryd.sizeOf21
  v21 := Tryd.zeroValue21
  t31 := Tryd.underlying26
  a31 := Tryd.isAgg26
  z31 := Tryd.sizeOf26
  v31 := Tryd.zeroValue26
  t40 := Tryd.underlying33
  a40 := Tryd.isAgg33
  z40 := Tryd.sizeOf33
  v40 := Tryd.zeroValue33
  t46 := Tryd.underlying52
  a46 := Tryd.isAgg52
  z46 := Tryd.sizeOf52
  v46 := Tryd.zeroValue52
  t49 := Tryd.underlying44
  a49 := Tryd.isAgg44
  z49 := Tryd.sizeOf44
  v49 := Tryd.zeroValue44
  t51 := Tryd.underlying37
  a51 := Tryd.isAgg37
  z51 := Tryd.sizeOf37
  v51 := Tryd.zeroValue37
  t119 := Tryd.underlying31
  a119 := Tryd.isAgg31
  z119 := Tryd.sizeOf31
  t141 := Tryd.underlying39
  a141 := Tryd.isAgg39
  z141 := Tryd.sizeOf39
  v141 := Tryd.zeroValue39
  t152 := Tryd.underlying34
  a152 := Tryd.isAgg34
  z152 := Tryd.sizeOf34
  v152 := Tryd.zeroValue34
  t154 := Tryd.underlying36
  a154 := Tryd.isAgg36
  z154 := Tryd.sizeOf36
  v154 := Tryd.zeroValue36
  t193 := Tryd.underlying40
  a193 := Tryd.isAgg40
  z193 := Tryd.sizeOf40
  v193 := Tryd.zeroValue40
  t194 := Tryd.underlying41
  a194 := Tryd.isAgg41
  z194 := Tryd.sizeOf41
  v194 := Tryd.zeroValue41
  t196 := Tryd.underlying43
  a196 := Tryd.isAgg43
  z196 := Tryd.sizeOf43
  v196 := Tryd.zeroValue43
  t198 := Tryd.underlying46
  a198 := Tryd.isAgg46
  z198 := Tryd.sizeOf46
  v198 := Tryd.zeroValue46
  t201 := Tryd.underlying49
  a201 := Tryd.isAgg49
  z201 := Tryd.sizeOf49
  v201 := Tryd.zeroValue49
  t226 := Tryd.underlying51
  a226 := Tryd.isAgg51
  z226 := Tryd.sizeOf51
  v226 := Tryd.zeroValue51
  t227 := Tryd.underlying53
  a227 := Tryd.isAgg53
  z227 := Tryd.sizeOf53
  v227 := Tryd.zeroValue53
  g0 := by kernel_rfl
  g6 := by kernel_rfl
  i0 := by kernel_rfl
  i3 := by kernel_rfl
  i4 := by kernel_rfl
  i5 := by kernel_rfl
  i9 := by kernel_rfl
  i21 := by kernel_rfl
  i31 := by kernel_rfl
  i40 := by kernel_rfl
  i46 := by kernel_rfl
  i49 := by kernel_rfl
  i51 := by kernel_rfl
  i141 := by kernel_rfl
  i152 := by kernel_rfl
  i154 := by kernel_rfl
  i193 := by kernel_rfl
  i194 := by kernel_rfl
  i196 := by kernel_rfl
  i198 := by kernel_rfl
  i201 := by kernel_rfl
  i226 := by kernel_rfl
  i227 := by kernel_rfl
  m0 := by kernel_rfl
  m6 := by kernel_rfl }
open Go.RowKit Go.Lib in
theorem Tryd.strings_Fields_laid (s : ByteArray) (w : World) (hs : s.size < 4294967281) (hascii : ∀ (j : Nat) b, s.data.toList[j]? = some b → b.toNat < 128) (htab : Lib.TabIs Tryd.prog w "strings.asciiSpace" .u8 Lib.asciiSpaceTab) :
    Calls Tryd.prog 23 #[.string s] w fun e w' =>
      e = .returned (.slice (some ⟨w.heap.size, 0, none⟩) (Lib.fields s.data.toList).length (Lib.fields s.data.toList).length) ∧ w' = w.alloc (.cells ((Lib.fields s.data.toList).map fun l => Value.string ⟨l.toArray⟩).toArray 9) := Any.strings_Fields_laid Tryd.laysM157 s w hs hascii htab

end Go.Proofs
namespace Go.Proofs.YtagfalmpanlabaaDoor.DOpName
open Go.ChangeShapes Go.WideShapes Go.ChangeAt Go.RowKit
open Go.ChangeMaps (open_string shut_string)
open Go.Proofs.YtagfalmpanlabaaDoor.MFnExactOpName Go.Proofs.YtagfalmpanlabaaDoorW.PrintWords Go.Proofs.YtagfalmpanlabaaDoorW.PrintLast
/-- What a call hands back that makes a list of words. -/
def Words (ws : List ByteArray) (w : World) (e : Ending) (w' : World) : Prop := ∃ A c, e = .returned (.slice A ws.length c) ∧ ws.length ≤ c ∧ Kd.C Kd.string w' A ws.length ws ∧ Below w.heap.size w w'
theorem words_of_fields (s : ByteArray) (ws : List ByteArray) (hw : (Lib.fields s.data.toList).map (fun l => (⟨l.toArray⟩ : ByteArray)) = ws) (hn : ws.length ≤ 1000) (hs : s.size < 4294967281) (ha : s.data.toList.all (fun b => decide (b.toNat < 128)) = true) (w : World) (hT : Lib.TabIs Tryd.prog w "strings.asciiSpace" .u8 Lib.asciiSpaceTab) :
    Calls Tryd.prog 23 #[.string s] w (Words ws w) := by
  refine (Tryd.strings_Fields_laid s w hs (fun j b h => of_decide_eq_true (List.all_eq_true.1 ha b (List.mem_of_getElem? h))) hT).mono ?_
  rintro e w' ⟨rfl, rfl⟩
  have e0 : ((Lib.fields s.data.toList).map fun l => Value.string ⟨l.toArray⟩) = ws.map Value.string := by rw [← hw, List.map_map]; rfl
  have e2 : (Lib.fields s.data.toList).length = ws.length := by rw [← hw, List.length_map]
  rw [e0, e2]
  refine ⟨_, _, rfl, Nat.le_refl _, ⟨rfl, by omega, fun _ => ⟨_, rfl, fun j p hp => ⟨[.string p], rfl, rfl, fun i u hu => ?_⟩⟩⟩, (Below.refl _ _).alloc (Nat.le_refl _) _⟩
  have hi : i = 0 := by
    rcases Nat.eq_zero_or_pos i with h | h
    · exact h
    · rw [List.getElem?_eq_none (by simp; omega)] at hu; cases hu
  subst hi
  obtain rfl : Value.string p = u := by simpa using hu
  have e1 : Kd.string.sz = 1 := rfl
  rw [e1, Nat.mul_one, Nat.add_zero, Go.Proofs.YtagfalmpanlabaaDoorW.PrintWords.add_plain]
  rw [World.cell?_alloc_at _ _ _ _ rfl, List.getElem?_toArray, List.getElem?_map, hp]
  rfl
theorem tab_of_laid {W : World} (h : laidMetH Tryd.prog [("unicode.White_Space", Rows.laid_unicode_White_Space), ("strings.asciiSpace", Rows.laid_strings_asciiSpace)] W) : Lib.TabIs Tryd.prog W "strings.asciiSpace" .u8 Lib.asciiSpaceTab := by
  rw [MakeChecks.laidMetH_plain _ _ _ (by kernel_rfl)] at h
  have h2 := h.tail
  rw [show (Rows.laid_strings_asciiSpace : DataW Unit) = Lib.tabData .u8 Lib.asciiSpaceTab from by kernel_rfl] at h2
  exact Lib.tabIs_of_head (g := 0) (t := 31) (e := 5) (n := 256) (by kernel_rfl) (by kernel_rfl) (by kernel_rfl) (by kernel_rfl) (by kernel_rfl) (by kernel_rfl) h2
/-- The place of a text among others. -/
def plc : List ByteArray → ByteArray → Int → Int
  | [], _, _ => -1
  | w :: ws, s, i => if w.toList = s.toList then i else plc ws s (i + 1)
theorem tab_below {w w' : World} (h : Lib.TabIs Tryd.prog w "strings.asciiSpace" .u8 Lib.asciiSpaceTab) (hb : Below w.heap.size w w') : Lib.TabIs Tryd.prog w' "strings.asciiSpace" .u8 Lib.asciiSpaceTab := by
  unfold Lib.TabIs World.var? at h ⊢
  cases hg : Tryd.prog.globalNamed "strings.asciiSpace" with
  | none => simp [hg] at h
  | some g =>
    simp only [hg, Option.bind_some] at h ⊢
    have hlt : g < w.heap.size := by
      rcases Nat.lt_or_ge g w.heap.size with h' | h'
      · exact h'
      · simp [Array.getElem?_eq_none h'] at h
    rw [hb.block g hlt]
    exact h
theorem str_at {w : World} {A : Option Addr} {n : Nat} {xs : List ByteArray} (h : Kd.C Kd.string w A n xs) (i : Int) (h0 : 0 ≤ i) (h1 : i < n) : ∃ ad, A = some ad ∧ w.cell? (ad.add i.toNat) = some (.string (xs.getD i.toNat ByteArray.empty)) := by
  obtain ⟨ad, c, e, _, hK, hc⟩ := Kd.C_get h ByteArray.empty i h0 h1
  have hK' : c = [Value.string (xs.getD i.toNat ByteArray.empty)] := hK
  subst hK'
  have q := hc 0 _ rfl
  have e1 : Kd.string.sz = 1 := rfl
  rw [e1, Nat.mul_one, Nat.add_zero] at q
  exact ⟨ad, e, q⟩
def ow : List ByteArray := [(⟨#[112, 117, 115, 104]⟩ : ByteArray), (⟨#[102, 108, 97, 103]⟩ : ByteArray), (⟨#[108, 111, 97, 100]⟩ : ByteArray), (⟨#[115, 116, 111, 114, 101]⟩ : ByteArray), (⟨#[105, 110]⟩ : ByteArray), (⟨#[111, 117, 116]⟩ : ByteArray), (⟨#[112, 101, 101, 107]⟩ : ByteArray), (⟨#[112, 111, 107, 101]⟩ : ByteArray), (⟨#[97, 100, 100]⟩ : ByteArray), (⟨#[115, 117, 98]⟩ : ByteArray), (⟨#[109, 117, 108]⟩ : ByteArray), (⟨#[100, 105, 118]⟩ : ByteArray), (⟨#[108, 101, 115, 115]⟩ : ByteArray), (⟨#[115, 97, 109, 101]⟩ : ByteArray), (⟨#[97, 110, 100]⟩ : ByteArray), (⟨#[111, 114]⟩ : ByteArray), (⟨#[110, 111, 116]⟩ : ByteArray), (⟨#[115, 101, 108]⟩ : ByteArray), (⟨#[98, 108, 111, 99, 107]⟩ : ByteArray), (⟨#[118, 97, 108, 117, 101]⟩ : ByteArray), (⟨#[105, 102]⟩ : ByteArray), (⟨#[101, 108, 115, 101]⟩ : ByteArray), (⟨#[101, 110, 100]⟩ : ByteArray), (⟨#[114, 101, 112, 101, 97, 116]⟩ : ByteArray), (⟨#[99, 117, 116]⟩ : ByteArray), (⟨#[99, 97, 108, 108]⟩ : ByteArray)]
theorem opNames_calls (w : World) (hT : Lib.TabIs Tryd.prog w "strings.asciiSpace" .u8 Lib.asciiSpaceTab) : Calls Tryd.prog 20 #[] w (Words ow w) := by
  have cF := words_of_fields (⟨#[112, 117, 115, 104, 32, 102, 108, 97, 103, 32, 108, 111, 97, 100, 32, 115, 116, 111, 114, 101, 32, 105, 110, 32, 111, 117, 116, 32, 112, 101, 101, 107, 32, 112, 111, 107, 101, 32, 97, 100, 100, 32, 115, 117, 98, 32, 109, 117, 108, 32, 100, 105, 118, 32, 108, 101, 115, 115, 32, 115, 97, 109, 101, 32, 97, 110, 100, 32, 111, 114, 32, 110, 111, 116, 32, 115, 101, 108, 32, 98, 108, 111, 99, 107, 32, 118, 97, 108, 117, 101, 32, 105, 102, 32, 101, 108, 115, 101, 32, 101, 110, 100, 32, 114, 101, 112, 101, 97, 116, 32, 99, 117, 116, 32, 99, 97, 108, 108]⟩ : ByteArray) ow (by kernel_rfl) (by decide +kernel) (by decide +kernel) (by kernel_rfl) w hT
  clear hT
  go_enter Tryd.func20, Tryd.ntmps20
  go_wp2_with (first | (go_at_call 23; refine cF.mono ?_; rintro e w' ⟨A, c, rfl, hl, hC, hb⟩; have HL := Aside0.mk hl; have HC := Aside0.mk hC; have HB := Aside0.mk hb; clear hl hC hb))
  go_ret
  exact ⟨A, c, rfl, HL.out, HC.out, HB.out⟩
def owAt (a : Int) : ByteArray := if 1 ≤ a ∧ a ≤ 26 then ow.getD (a - 1).toNat ByteArray.empty else ⟨#[]⟩
theorem isOp_f (a : Int) : impl_isOp.f a = some (decide (1 ≤ a ∧ a ≤ 26)) := by
  unfold impl_isOp.f impl_within.f
  by_cases h0 : 1 ≤ a
  · rw [if_pos h0]; simp [h0]
  · rw [if_neg h0, decide_eq_false (fun h => h0 h.1)]; rfl
theorem OpName_calls (a : Int) (w : World) (hT : Lib.TabIs Tryd.prog w "strings.asciiSpace" .u8 Lib.asciiSpaceTab) :
    Calls Tryd.prog 10 #[.int .i64 a] w fun e w' => e = .returned (.string (owAt a)) ∧ Below w.heap.size w w' := by
  by_cases h : 1 ≤ a ∧ a ≤ 26
  · have ha : owAt a = ow.getD (a - 1).toNat ByteArray.empty := if_pos h
    have cI := impl_isOp.calls a true w (by rw [isOp_f, decide_eq_true h])
    obtain ⟨x, hx⟩ : ∃ x, x = ow.getD (a - 1).toNat ByteArray.empty := ⟨_, rfl⟩
    rw [ha, ← hx]
    have HX := Aside0.mk hx
    have HT := Aside0.mk hT
    obtain ⟨h0, h26⟩ := h
    have hlt : a - 1 < (ow.length : Int) := by have : ow.length = 26 := by decide
                                               omega
    have h00 : 0 ≤ a - 1 := by omega
    have HI := Aside0.mk h00
    have HTN := Aside0.mk (show (a - 1).toNat = a.toNat - 1 by omega)
    have HJ := Aside0.mk hlt
    have p5 := eq_true h00
    have q5 := eq_true hlt
    clear hT ha hlt hx h00
    go_enter Tryd.func10, Tryd.ntmps10
    go_wp2_with (first | (go_at_call 19; refine cI.mono ?_; rintro e w1 ⟨rfl, hd⟩; have HB1 := Aside0.mk hd.below; clear hd) | (go_at_call 20; refine (opNames_calls _ (tab_below HT.out HB1.out)).mono ?_; rintro e w2 ⟨A, c, rfl, hl, hC, hb⟩; have HB2 := Aside0.mk (below_then HB1.out HB1.out.size hb); obtain ⟨ad, rfl, hcell⟩ := str_at hC (a - 1) HI.out HJ.out; rw [← HX.out, HTN.out] at hcell; clear hl hC hb))
    go_ret
    exact ⟨rfl, HB2.out⟩
  · have ha : owAt a = ⟨#[]⟩ := if_neg h
    have cI := impl_isOp.calls a false w (by rw [isOp_f, decide_eq_false h])
    rw [ha]
    clear hT ha h
    go_enter Tryd.func10, Tryd.ntmps10
    go_wp2_with (first | (go_at_call 19; refine cI.mono ?_; rintro e w1 ⟨rfl, hd⟩; have HB1 := Aside0.mk hd.below; clear hd))
    go_ret
    exact ⟨rfl, HB1.out⟩
theorem specOpName (a : Int) : spec_OpName.f a = some (owAt a) := by
  have h1 : spec_l02Op.f a = some (decide (1 ≤ a ∧ a ≤ 26)) := by
    unfold spec_l02Op.f spec_l01In.f
    by_cases h0 : 1 ≤ a
    · rw [if_pos h0]; simp [h0]
    · rw [if_neg h0, decide_eq_false (fun h => h0 h.1)]; rfl
  have hlen : ow.length = 26 := by decide
  unfold spec_OpName.f
  rw [h1]
  simp only [Option.bind_some]
  unfold owAt
  by_cases h : 1 ≤ a ∧ a ≤ 26
  · have hw : wrap64 (a - 1) = a - 1 := by unfold wrap64; omega
    rw [decide_eq_true h, if_pos rfl, if_pos h, hw]
    change (if 0 ≤ a - 1 then (if a - 1 < (ow.length : Int) then some (rdOf ByteArray.empty ow (a - 1)) else none) else none) = _
    rw [if_pos (by omega), if_pos (by omega)]
    rfl
  · rw [decide_eq_false h, if_neg h]
    rfl
theorem walk (a : Int) (w : World) (hT : Lib.TabIs Tryd.prog w "strings.asciiSpace" .u8 Lib.asciiSpaceTab) :
    Calls Tryd.prog 4 #[.int .i64 a] w fun e w' => e = .returned (.bool true) ∧ Below w.heap.size w w' := by
  have cS := spec_OpName.calls a (owAt a) w (specOpName a)
  have HT := Aside0.mk hT
  clear hT
  obtain ⟨s, hs⟩ : ∃ s, s = owAt a := ⟨_, rfl⟩
  rw [← hs] at cS
  have HS := Aside0.mk hs
  clear hs
  go_enter Tryd.func4, Tryd.ntmps4
  go_wp2_with (first | (go_at_call 9; refine cS.mono ?_; rintro e w1 ⟨rfl, hb⟩; have HB1 := Aside0.mk hb; clear hb) | (go_at_call 10; refine (OpName_calls a _ (tab_below HT.out HB1.out)).mono ?_; rintro e w2 ⟨rfl, hb⟩; have HB2 := Aside0.mk (below_then HB1.out HB1.out.size hb); clear hb; rw [← HS.out]))
  go_ret
  exact ⟨rfl, HB2.out⟩
theorem own : ownKnob Tryd.prog.godebug = none := by kernel_rfl
theorem laidOut : laidOutB Tryd.prog = true := by kernel_rfl
theorem door_met (os : Os) (args : Array Value) : laidMetH Tryd.prog [("unicode.White_Space", Rows.laid_unicode_White_Space), ("strings.asciiSpace", Rows.laid_strings_asciiSpace)] ((World.doorLaid Tryd.prog 48 os).forCall (fun _ _ => 0) ⟨#[], args, []⟩).memory :=
  laidMetH_of_parts3 (fuel := 8) (laidMet_of_run' 8 (by kernel_rfl) (by kernel_rfl)) (by kernel_rfl) (by kernel_rfl)
set_option maxRecDepth 100000 in
theorem lifted (os : Os) (started : os.Started) (H : Type) (enc : TypeId × Value → H) :
    ReturnsInHanded {} Tryd.checked os 4 .any (fun w args => (Rows.fnExactOpNameSpec.pre enc Tryd.prog Tryd.f4 [] false w args ∧ laidMetH Tryd.prog [("unicode.White_Space", Rows.laid_unicode_White_Space), ("strings.asciiSpace", Rows.laid_strings_asciiSpace)] w) ∧ sizedMet enc Tryd.prog Tryd.f4 (OpenSpec.ofChange Rows.fnExactOpNameSpec) false w args)
      (Rows.fnExactOpNameSpec.post enc Tryd.prog Tryd.f4 false true false false) := by
  refine returnsInHanded_of_change_and (C := Tryd.checked) (X := fun w _ => laidMetH Tryd.prog [("unicode.White_Space", Rows.laid_unicode_White_Space), ("strings.asciiSpace", Rows.laid_strings_asciiSpace)] w) (fun _ _ _ hh h => h.of_heap hh) own started (by kernel_rfl) Tryd.func4
    (ChangeSpec.witness_shaped (enc := enc) (C := Tryd.checked) (os := os) (X := fun w _ => laidMetH Tryd.prog [("unicode.White_Space", Rows.laid_unicode_White_Space), ("strings.asciiSpace", Rows.laid_strings_asciiSpace)] w) false (World.doorLaid Tryd.prog 48 os) #[.int .i64 0] 8 rfl (World.shaped_of_RefB (by kernel_rfl) (by kernel_rfl)) (by kernel_rfl) (by kernel_rfl) (by kernel_rfl) (door_met os _)) ?_
  intro W base args ds gs before hval0 hW _ _ hL _
  have hval : ∀ (j : Nat) t v, Tryd.f4.params[j]? = some t → args[j]? = some v → Value.okWide Tryd.prog W .any base t v := hval0
  have hW' := hW
  obtain ⟨p, q, hA0, hV, rfl, hfz, hnd⟩ := hW
  have hA : DataW.TrodAll enc Tryd.prog W 0 (fun _ => true) true Tryd.f4.params.toList args.toList ds p := hA0
  rw [Tryd.params4] at hA hval
  obtain ⟨v0, d0, rfl, rfl, h0⟩ := trodAll_one hA
  obtain ⟨rfl, rfl⟩ := trodVars_none hV
  obtain ⟨a, rfl, rfl, rfl, w0⟩ := open_int Tryd.underlying3 (hval 0 3 v0 rfl rfl) h0
  have hT := tab_of_laid hL
  clear hA0 hval0 hL
  refine (walk a W hT).mono fun e W' ⟨he, bel⟩ => ?_
  subst he
  exact ⟨_, rfl, _, _, _, [], _, [], hW', trodAll_mk1 (shut_bool Tryd.underlying4 _), (trodAll_cons_mk (shut_int Tryd.underlying3 w0) trodAll_mk0), rfl, bel.frame _, fun h => by cases h⟩
theorem said : Rows.FnExactOpNameSaid :=
  OpenClaim.holds_of_wide 4 Tryd.f4 rfl rfl rfl rfl rfl rfl rfl ⟨rfl, rfl, rfl, rfl, rfl⟩ rfl rfl rfl rfl rfl (by kernel_rfl) Tryd.func4 (by kernel_rfl)
    (of_decide_eq_true (by kernel_rfl)) (by unfold Func.isWrapper; first | (rw [if_pos (by decide +kernel)]; kernel_rfl) | (rw [if_neg (by decide +kernel)]; exact ⟨rfl, rfl⟩))
    (fun os started H enc _ => lifted os started H enc)
theorem card : Rows.FnExactOpNameCardSaid :=
  Claim7.holds_tied_plain_at .later [] [.listed, .data] true (true, "a5b434aa81040b1492803dfe0177db432638e12e5099c10b72422604e9be9bf4") false
    said (fun _ h => by cases h) (by kernel_rfl) (fun _ h => by cases h) fnExactOpName_row_tie rfl ⟨rfl, rfl⟩ (by kernel_rfl) rfl
    (fun f fn hf hfn => by
      obtain rfl : f = 4 := Option.some.inj ((show Tryd.prog.funcNamed "loop.example/g00684/laws.FnExactOpName" = some 4 by kernel_rfl).symm.trans hf) |>.symm
      obtain rfl : fn = Tryd.f4 := (Option.some.inj (Tryd.func4.symm.trans hfn)).symm
      exact ⟨by kernel_rfl, fun j t ht => by
        rw [Tryd.params4] at ht
        have hm : t ∈ [3] := by simpa using Array.mem_of_getElem? ht
        have hall : ([3].all fun u => !Tryd.prog.wantsStandIn u) = true := by kernel_rfl
        exact (show Tryd.prog.wantsStandIn t = false by simpa using List.all_eq_true.1 hall t hm)⟩)
    (by kernel_rfl)
#print axioms card
end Go.Proofs.YtagfalmpanlabaaDoor.DOpName
namespace Go.Proofs.YtagfalmpanlabaaDoor
/-- The card, under a short name, for the claim. -/
theorem fnExactOpNameCard_holds : Rows.FnExactOpNameCardSaid := DOpName.card
end Go.Proofs.YtagfalmpanlabaaDoor

/- Proved: the tied card of the law FnExactOpOf of the given program: for every input the law returns true, the listed package-level variables reading as the program's own initialisers lay them (tied by the given Tie text). Conditions: none beyond the card's own. -/
import Derived.Test.YtagfalmpanlabaaDoorCards
import Derived.Test.YtagfalmpanlabaaDoorTie
import Derived.Test.YtagfalmpanlabaaDoorMFnExactOpOfx1
import Derived.Shelf.LaysM
import Derived.Shelf.Strings.SplitShaped
import Derived.Lib.LaidTab
import Derived.Stop.LaidErr
import Derived.MakeChecks
import Derived.LaidMore
import Derived.WalkKit
import Derived.ProofKit
import Derived.OpenShut
import Derived.ShutString
import Derived.ChangeOld
import Derived.Below
import Derived.SizedLaws
import Derived.ChangeSame
import Derived.Stop.Joined
import Derived.SevenTiedAt
set_option linter.unusedVariables false
set_option linter.unusedSimpArgs false
namespace Go.Proofs
open Go.Shelf
def Tryd.laysM157_ren : Go.Shelf.Ren := ⟨fun | 157 => 23 | 229 => 25 | 199 => 26 | 261 => 27 | 311 => 28 | 312 => 29 | n => n, fun | 9 => 9 | 31 => 26 | 3 => 3 | 5 => 5 | 4 => 4 | 119 => 31 | 0 => 0 | 40 => 33 | 152 => 34 | 21 => 21 | 154 => 36 | 51 => 37 | 141 => 39 | 196 => 43 | 193 => 40 | 198 => 46 | 49 => 44 | 194 => 41 | 201 => 49 | 226 => 51 | 46 => 52 | 227 => 53 | n => n, fun | 0 => 0 | 6 => 1 | n => n⟩
theorem Tryd.laysM157 : Go.Proofs.LaysM.n157 Tryd.prog Tryd.laysM157_ren := {
  mixed := by kernel_rfl
  f157 := Tryd.func23.trans (congrArg some (by kernel_rfl))
  f199 := Tryd.func26.trans (congrArg some (by kernel_rfl))
  f229 := Tryd.func25.trans (congrArg some (by kernel_rfl))
  f261 := Tryd.func27.trans (congrArg some (by kernel_rfl))
  f311 := Tryd.func28.trans (congrArg some (by kernel_rfl))
  f312 := Tryd.func29.trans (congrArg some (by kernel_rfl))
  t0 := Tryd.underlying0
  a0 := Tryd.isAgg0
  z0 := Tryd.sizeOf0
  v0 := Tryd.zeroValue0
  t3 := Tryd.underlying3
  a3 := Tryd.isAgg3
  z3 := Tryd.sizeOf3
  v3 := Tryd.zeroValue3
  t4 := Tryd.underlying4
  a4 := Tryd.isAgg4
  z4 := Tryd.sizeOf4
  v4 := Tryd.zeroValue4
  t5 := Tryd.underlying5
  a5 := Tryd.isAgg5
  z5 := Tryd.sizeOf5
  v5 := Tryd.zeroValue5
  t9 := Tryd.underlying9
  a9 := Tryd.isAgg9
  z9 := Tryd.sizeOf9
  v9 := Tryd.zeroValue9
  t21 := Tryd.underlying21
  a21 := Tryd.isAgg21
  z21 := Tryd.sizeOf21
  v21 := Tryd.zeroValue21
  t31 := Tryd.underlying26
  a31 := Tryd.isAgg26
  z31 := Tryd.sizeOf26
  v31 := Tryd.zeroValue26
  t40 := Tryd.underlying33
  a40 := Tryd.isAgg33
  z40 := Tryd.sizeOf33
  v40 := Tryd.zeroValue33
  t46 := Tryd.underlying52
  a46 := Tryd.isAgg52
  z46 := Tryd.sizeOf52
  v46 := Tryd.zeroValue52
  t49 := Tryd.underlying44
  a49 := Tryd.isAgg44
  z49 := Tryd.sizeOf44
  v49 := Tryd.zeroValue44
  t51 := Tryd.underlying37
  a51 := Tryd.isAgg37
  z51 := Tryd.sizeOf37
  v51 := Tryd.zeroValue37
  t119 := Tryd.underlying31
  a119 := Tryd.isAgg31
  z119 := Tryd.sizeOf31
  t141 := Tryd.underlying39
  a141 := Tryd.isAgg39
  z141 := Tryd.sizeOf39
  v141 := Tryd.zeroValue39
  t152 := Tryd.underlying34
  a152 := Tryd.isAgg34
  z152 := Tryd.sizeOf34
  v152 := Tryd.zeroValue34
  t154 := Tryd.underlying36
  a154 := Tryd.isAgg36
  z154 := Tryd.sizeOf36
  v154 := Tryd.zeroValue36
  t193 := Tryd.underlying40
  a193 := Tryd.isAgg40
  z193 := Tryd.sizeOf40
  v193 := Tryd.zeroValue40
  t194 := Tryd.underlying41
  a194 := Tryd.isAgg41
  z194 := Tryd.sizeOf41
  v194 := Tryd.zeroValue41
  t196 := Tryd.underlying43
  a196 := Tryd.isAgg43
  z196 := Tryd.sizeOf43
  v196 := Tryd.zeroValue43
  t198 := Tryd.underlying46
  a198 := Tryd.isAgg46
  z198 := Tryd.sizeOf46
  v198 := Tryd.zeroValue46
  t201 := Tryd.underlying49
  a201 := Tryd.isAgg49
  z201 := Tryd.sizeOf49
  v201 := Tryd.zeroValue49
  t226 := Tryd.underlying51
  a226 := Tryd.isAgg51
  z226 := Tryd.sizeOf51
  v226 := Tryd.zeroValue51
  t227 := Tryd.underlying53
  a227 := Tryd.isAgg53
  z227 := Tryd.sizeOf53
  v227 := Tryd.zeroValue53
  g0 := by kernel_rfl
  g6 := by kernel_rfl
  i0 := by kernel_rfl
  i3 := by kernel_rfl
  i4 := by kernel_rfl
  i5 := by kernel_rfl
  i9 := by kernel_rfl
  i21 := by kernel_rfl
  i31 := by kernel_rfl
  i40 := by kernel_rfl
  i46 := by kernel_rfl
  i49 := by kernel_rfl
  i51 := by kernel_rfl
  i141 := by kernel_rfl
  i152 := by kernel_rfl
  i154 := by kernel_rfl
  i193 := by kernel_rfl
  i194 := by kernel_rfl
  i196 := by kernel_rfl
  i198 := by kernel_rfl
  i201 := by kernel_rfl
  i226 := by kernel_rfl
  i227 := by kernel_rfl
  m0 := by kernel_rfl
  m6 := by kernel_rfl }
open Go.RowKit Go.Lib in
theorem Tryd.strings_Fields_laid (s : ByteArray) (w : World) (hs : s.size < 4294967281) (hascii : ∀ (j : Nat) b, s.data.toList[j]? = some b → b.toNat < 128) (htab : Lib.TabIs Tryd.prog w "strings.asciiSpace" .u8 Lib.asciiSpaceTab) :
    Calls Tryd.prog 23 #[.string s] w fun e w' =>
      e = .returned (.slice (some ⟨w.heap.size, 0, none⟩) (Lib.fields s.data.toList).length (Lib.fields s.data.toList).length) ∧ w' = w.alloc (.cells ((Lib.fields s.data.toList).map fun l => Value.string ⟨l.toArray⟩).toArray 9) := Any.strings_Fields_laid Tryd.laysM157 s w hs hascii htab

end Go.Proofs
namespace Go.Proofs.YtagfalmpanlabaaDoor.DOpOf
open Go.ChangeShapes Go.WideShapes Go.ChangeAt Go.RowKit
open Go.ChangeMaps (open_string shut_string)
open Go.Proofs.YtagfalmpanlabaaDoor.MFnExactOpOf Go.Proofs.YtagfalmpanlabaaDoorW.PrintWords Go.Proofs.YtagfalmpanlabaaDoorW.PrintLast
/-- What a call hands back that makes a list of words. -/
def Words (ws : List ByteArray) (w : World) (e : Ending) (w' : World) : Prop := ∃ A c, e = .returned (.slice A ws.length c) ∧ ws.length ≤ c ∧ Kd.C Kd.string w' A ws.length ws ∧ Below w.heap.size w w'
theorem words_of_fields (s : ByteArray) (ws : List ByteArray) (hw : (Lib.fields s.data.toList).map (fun l => (⟨l.toArray⟩ : ByteArray)) = ws) (hn : ws.length ≤ 1000) (hs : s.size < 4294967281) (ha : s.data.toList.all (fun b => decide (b.toNat < 128)) = true) (w : World) (hT : Lib.TabIs Tryd.prog w "strings.asciiSpace" .u8 Lib.asciiSpaceTab) :
    Calls Tryd.prog 23 #[.string s] w (Words ws w) := by
  refine (Tryd.strings_Fields_laid s w hs (fun j b h => of_decide_eq_true (List.all_eq_true.1 ha b (List.mem_of_getElem? h))) hT).mono ?_
  rintro e w' ⟨rfl, rfl⟩
  have e0 : ((Lib.fields s.data.toList).map fun l => Value.string ⟨l.toArray⟩) = ws.map Value.string := by rw [← hw, List.map_map]; rfl
  have e2 : (Lib.fields s.data.toList).length = ws.length := by rw [← hw, List.length_map]
  rw [e0, e2]
  refine ⟨_, _, rfl, Nat.le_refl _, ⟨rfl, by omega, fun _ => ⟨_, rfl, fun j p hp => ⟨[.string p], rfl, rfl, fun i u hu => ?_⟩⟩⟩, (Below.refl _ _).alloc (Nat.le_refl _) _⟩
  have hi : i = 0 := by
    rcases Nat.eq_zero_or_pos i with h | h
    · exact h
    · rw [List.getElem?_eq_none (by simp; omega)] at hu; cases hu
  subst hi
  obtain rfl : Value.string p = u := by simpa using hu
  have e1 : Kd.string.sz = 1 := rfl
  rw [e1, Nat.mul_one, Nat.add_zero, Go.Proofs.YtagfalmpanlabaaDoorW.PrintWords.add_plain]
  rw [World.cell?_alloc_at _ _ _ _ rfl, List.getElem?_toArray, List.getElem?_map, hp]
  rfl
theorem tab_of_laid {W : World} (h : laidMetH Tryd.prog [("unicode.White_Space", Rows.laid_unicode_White_Space), ("strings.asciiSpace", Rows.laid_strings_asciiSpace)] W) : Lib.TabIs Tryd.prog W "strings.asciiSpace" .u8 Lib.asciiSpaceTab := by
  rw [MakeChecks.laidMetH_plain _ _ _ (by kernel_rfl)] at h
  have h2 := h.tail
  rw [show (Rows.laid_strings_asciiSpace : DataW Unit) = Lib.tabData .u8 Lib.asciiSpaceTab from by kernel_rfl] at h2
  exact Lib.tabIs_of_head (g := 0) (t := 31) (e := 5) (n := 256) (by kernel_rfl) (by kernel_rfl) (by kernel_rfl) (by kernel_rfl) (by kernel_rfl) (by kernel_rfl) h2
/-- The place of a text among others. -/
def plc : List ByteArray → ByteArray → Int → Int
  | [], _, _ => -1
  | w :: ws, s, i => if w.toList = s.toList then i else plc ws s (i + 1)
theorem tab_below {w w' : World} (h : Lib.TabIs Tryd.prog w "strings.asciiSpace" .u8 Lib.asciiSpaceTab) (hb : Below w.heap.size w w') : Lib.TabIs Tryd.prog w' "strings.asciiSpace" .u8 Lib.asciiSpaceTab := by
  unfold Lib.TabIs World.var? at h ⊢
  cases hg : Tryd.prog.globalNamed "strings.asciiSpace" with
  | none => simp [hg] at h
  | some g =>
    simp only [hg, Option.bind_some] at h ⊢
    have hlt : g < w.heap.size := by
      rcases Nat.lt_or_ge g w.heap.size with h' | h'
      · exact h'
      · simp [Array.getElem?_eq_none h'] at h
    rw [hb.block g hlt]
    exact h
theorem str_at {w : World} {A : Option Addr} {n : Nat} {xs : List ByteArray} (h : Kd.C Kd.string w A n xs) (i : Int) (h0 : 0 ≤ i) (h1 : i < n) : ∃ ad, A = some ad ∧ w.cell? (ad.add i.toNat) = some (.string (xs.getD i.toNat ByteArray.empty)) := by
  obtain ⟨ad, c, e, _, hK, hc⟩ := Kd.C_get h ByteArray.empty i h0 h1
  have hK' : c = [Value.string (xs.getD i.toNat ByteArray.empty)] := hK
  subst hK'
  have q := hc 0 _ rfl
  have e1 : Kd.string.sz = 1 := rfl
  rw [e1, Nat.mul_one, Nat.add_zero] at q
  exact ⟨ad, e, q⟩
def ow : List ByteArray := [(⟨#[112, 117, 115, 104]⟩ : ByteArray), (⟨#[102, 108, 97, 103]⟩ : ByteArray), (⟨#[108, 111, 97, 100]⟩ : ByteArray), (⟨#[115, 116, 111, 114, 101]⟩ : ByteArray), (⟨#[105, 110]⟩ : ByteArray), (⟨#[111, 117, 116]⟩ : ByteArray), (⟨#[112, 101, 101, 107]⟩ : ByteArray), (⟨#[112, 111, 107, 101]⟩ : ByteArray), (⟨#[97, 100, 100]⟩ : ByteArray), (⟨#[115, 117, 98]⟩ : ByteArray), (⟨#[109, 117, 108]⟩ : ByteArray), (⟨#[100, 105, 118]⟩ : ByteArray), (⟨#[108, 101, 115, 115]⟩ : ByteArray), (⟨#[115, 97, 109, 101]⟩ : ByteArray), (⟨#[97, 110, 100]⟩ : ByteArray), (⟨#[111, 114]⟩ : ByteArray), (⟨#[110, 111, 116]⟩ : ByteArray), (⟨#[115, 101, 108]⟩ : ByteArray), (⟨#[98, 108, 111, 99, 107]⟩ : ByteArray), (⟨#[118, 97, 108, 117, 101]⟩ : ByteArray), (⟨#[105, 102]⟩ : ByteArray), (⟨#[101, 108, 115, 101]⟩ : ByteArray), (⟨#[101, 110, 100]⟩ : ByteArray), (⟨#[114, 101, 112, 101, 97, 116]⟩ : ByteArray), (⟨#[99, 117, 116]⟩ : ByteArray), (⟨#[99, 97, 108, 108]⟩ : ByteArray)]
theorem opNames_calls (w : World) (hT : Lib.TabIs Tryd.prog w "strings.asciiSpace" .u8 Lib.asciiSpaceTab) : Calls Tryd.prog 20 #[] w (Words ow w) := by
  have cF := words_of_fields (⟨#[112, 117, 115, 104, 32, 102, 108, 97, 103, 32, 108, 111, 97, 100, 32, 115, 116, 111, 114, 101, 32, 105, 110, 32, 111, 117, 116, 32, 112, 101, 101, 107, 32, 112, 111, 107, 101, 32, 97, 100, 100, 32, 115, 117, 98, 32, 109, 117, 108, 32, 100, 105, 118, 32, 108, 101, 115, 115, 32, 115, 97, 109, 101, 32, 97, 110, 100, 32, 111, 114, 32, 110, 111, 116, 32, 115, 101, 108, 32, 98, 108, 111, 99, 107, 32, 118, 97, 108, 117, 101, 32, 105, 102, 32, 101, 108, 115, 101, 32, 101, 110, 100, 32, 114, 101, 112, 101, 97, 116, 32, 99, 117, 116, 32, 99, 97, 108, 108]⟩ : ByteArray) ow (by kernel_rfl) (by decide +kernel) (by decide +kernel) (by kernel_rfl) w hT
  clear hT
  go_enter Tryd.func20, Tryd.ntmps20
  go_wp2_with (first | (go_at_call 23; refine cF.mono ?_; rintro e w' ⟨A, c, rfl, hl, hC, hb⟩; have HL := Aside0.mk hl; have HC := Aside0.mk hC; have HB := Aside0.mk hb; clear hl hC hb))
  go_ret
  exact ⟨A, c, rfl, HL.out, HC.out, HB.out⟩
theorem plc_drop (ws : List ByteArray) (s : ByteArray) (i : Nat) (h : i < ws.length) : plc (ws.drop i) s (i : Int) = if (ws.getD i ByteArray.empty).toList = s.toList then (i : Int) else plc (ws.drop (i + 1)) s ((i + 1 : Nat) : Int) := by
  rw [List.drop_eq_getElem_cons h]
  simp only [plc, List.getD_eq_getElem?_getD, List.getElem?_eq_getElem h, Option.getD_some]
  rfl
theorem plc_range : ∀ (ws : List ByteArray) (s : ByteArray) (i : Int), plc ws s i = -1 ∨ (i ≤ plc ws s i ∧ plc ws s i < i + ws.length)
  | [], s, i => .inl rfl
  | x :: ws, s, i => by
    simp only [plc]
    split
    · exact .inr ⟨Int.le_refl _, by simp; omega⟩
    · rcases plc_range ws s (i + 1) with h | h
      · exact .inl h
      · exact .inr ⟨by omega, by simp only [List.length_cons]; omega⟩
theorem place_from (ws : List ByteArray) (s : ByteArray) (hl : ws.length ≤ 1000) : ∀ (d k i : Nat), ws.length - i ≤ d → d < k → i ≤ ws.length → spec_l02Place.l0 k ws s (i : Int) = some (plc (ws.drop i) s (i : Int)) := by
  intro d
  induction d with
  | zero =>
    intro k i hd hk hi
    obtain ⟨k, rfl⟩ : ∃ m, k = m + 1 := ⟨k - 1, by omega⟩
    simp only [spec_l02Place.l0]
    rw [if_neg (by omega), List.drop_of_length_le (by omega)]
    simp only [plc]
  | succ d ih =>
    intro k i hd hk hi
    obtain ⟨k, rfl⟩ : ∃ m, k = m + 1 := ⟨k - 1, by omega⟩
    by_cases h : i < ws.length
    · have hw : wrap64 ((i : Int) + 1) = ((i + 1 : Nat) : Int) := by unfold wrap64; omega
      have e : rdOf ByteArray.empty ws (i : Int) = ws.getD i ByteArray.empty := rfl
      have ih1 := ih k (i + 1) (by omega) (by omega) (by omega)
      have p1 : (i : Int) < (ws.length : Int) := by omega
      have p2 : (0 : Int) ≤ (i : Int) := by omega
      simp only [spec_l02Place.l0, if_pos p1, if_pos p2, e, hw, ih1]
      rw [plc_drop ws s i h]
      split <;> rfl
    · simp only [spec_l02Place.l0]
      rw [if_neg (by omega), List.drop_of_length_le (by omega)]
      simp only [plc]
theorem ow_long (s : ByteArray) (h : 65536 < s.size) : plc ow s 0 = -1 := by
  have key : ∀ (ws : List ByteArray) (i : Int), (ws.all fun x => decide (x.toList.length ≤ 10)) = true → plc ws s i = -1 := by
    intro ws
    induction ws with
    | nil => intro i _; rfl
    | cons x ws ih =>
      intro i hx
      rw [List.all_cons, Bool.and_eq_true] at hx
      simp only [plc]
      rw [if_neg, ih _ hx.2]
      intro he
      have h1 := of_decide_eq_true hx.1
      rw [he, ByteArray.toList_eq, Array.length_toList] at h1
      have h2 : s.data.size = s.size := rfl
      omega
  exact key ow 0 (by decide +kernel)
/-- What the law's two sides tell. -/
theorem specOf (s : ByteArray) : spec_OpOf.f 30 s = some (plc ow s 0 + 1) := by
  have hlen : ow.length = 26 := by decide
  unfold spec_OpOf.f
  by_cases h : (s.size : Int) > 65536
  · rw [if_pos h, ow_long s (by omega)]; rfl
  · rw [if_neg h]
    have hp : spec_l02Place.f 30 ow s = some (plc ow s 0) := by
      unfold spec_l02Place.f
      have := place_from ow s (by omega) 26 30 0 (by omega) (by omega) (by omega)
      simpa using this
    change ((spec_l02Place.f 30 ow s).bind fun t108 => (some (wrap64 (t108 + 1)))) = _
    rw [hp]
    simp only [Option.bind_some]
    have := plc_range ow s 0
    have hw : wrap64 (plc ow s 0 + 1) = plc ow s 0 + 1 := by unfold wrap64; omega
    rw [hw]
set_option maxHeartbeats 4000000 in
set_option maxRecDepth 100000 in
theorem OpOf_calls (s : ByteArray) (w : World) (hT : Lib.TabIs Tryd.prog w "strings.asciiSpace" .u8 Lib.asciiSpaceTab) :
    Calls Tryd.prog 14 #[.string s] w fun e w' => e = .returned (.int .i64 (plc ow s 0 + 1)) ∧ Below w.heap.size w w' := by
  obtain ⟨r, hr⟩ : ∃ r, r = plc ow s 0 + 1 := ⟨_, rfl⟩
  rw [← hr]
  have HR := Aside0.mk hr
  have hlen : ow.length = 26 := by decide
  obtain ⟨n, hn⟩ : ∃ n, n = ow.length := ⟨_, rfl⟩
  have HN := Aside0.mk hn
  have H26 := Aside0.mk (hn.trans hlen)
  have HT := Aside0.mk hT
  clear hT hr hlen hn
  go_enter Tryd.func14, Tryd.ntmps14
  go_upto_region 2 with (first | (go_at_call 20; refine (opNames_calls _ HT.out).mono ?_; rintro e w1 ⟨A, c, rfl, hl, hC, hb⟩; have HB1 := Aside0.mk hb; rw [← HN.out] at hC; have HC := Aside0.mk hC; clear hl hC hb; rw [← HN.out]))
  go_loopg [7] (n) (fun kq v7 w' => ∃ i : Nat, v7 = .int .i64 (i : Int) ∧ Aside0 (kq + i = n) ∧ Aside0 (plc (ow.drop i) s (i : Int) = plc ow s 0) ∧ Aside0 (w' = w1))
  case atStart => exact ⟨0, rfl, ⟨by omega⟩, ⟨rfl⟩, ⟨rfl⟩⟩
  case round =>
    obtain ⟨i, rfl, HG, HP, HW⟩ := hrel
    obtain rfl := HW.out
    have h26 := H26.out
    have hn := HN.out
    have hg := HG.out
    by_cases hlt : i < n
    · cases gk with
      | zero => omega
      | succ k1 =>
        obtain ⟨ad, rfl, hcell⟩ := str_at HC.out (i : Int) (by omega) (by omega)
        obtain ⟨x, hx⟩ : ∃ x, x = ow.getD i ByteArray.empty := ⟨_, rfl⟩
        have HX := Aside0.mk hx
        have hcell2 : wr.cell? (ad.add i) = some (.string x) := by rw [hx]; exact hcell
        have hd := plc_drop ow s i (by omega)
        rw [← hx] at hd
        have p1 := eq_true (show (i : Int) < (n : Int) by omega)
        have p2 := eq_true (show (0 : Int) ≤ (i : Int) by omega)
        have p3 : decide ((i : Int) < (n : Int)) = true := decide_eq_true (by omega)
        have b1 : (i : Int) ≤ 100 := by omega
        have b2 : (0 : Int) ≤ (i : Int) := by omega
        have HG1 := Aside0.mk (show k1 + (i + 1) = n by omega)
        by_cases hc : x.toList = s.toList
        · have HF := Aside0.mk (show (i : Int) + 1 = r by rw [HR.out, ← HP.out, hd, if_pos hc])
          have c0 : (x.toList == s.toList) = true := by simpa using hc
          clear hcell hx hd hc h26 hn hg hlt HW
          go_wp2
          go_ret
          exact ⟨(show Ending.returned (.int .i64 ((i : Int) + 1)) = Ending.returned (.int .i64 r) by rw [HF.out]), HB1.out⟩
        · have HF := Aside0.mk (show plc (ow.drop (i + 1)) s ((i + 1 : Nat) : Int) = plc ow s 0 by rw [← HP.out, hd, if_neg hc])
          have c0 : (x.toList == s.toList) = false := by simpa using hc
          clear hcell hx hd hc h26 hn hg hlt HW
          go_wp2
          go_roundg k1
          case measure => omega
          case rel => exact ⟨i + 1, by go_num, HG1, HF, ⟨rfl⟩⟩
    · have e : i = n := by omega
      have HF := Aside0.mk (show (0 : Int) = r by rw [HR.out, ← HP.out, List.drop_of_length_le (by omega)]; rfl)
      have p3 : decide (i < n) = false := decide_eq_false (by omega)
      have p4 : (i < n) = False := eq_false (by omega)
      clear h26 hn hg hlt HW e
      go_wp2
      go_ret
      exact ⟨(show Ending.returned (.int .i64 0) = Ending.returned (.int .i64 r) by rw [HF.out]), HB1.out⟩
theorem both (a : ByteArray) (hz : a.size ≤ 1048576) : ∃ s : Int, (∀ w, Calls Tryd.prog 13 #[.string a] w fun e w' => e = .returned (.int .i64 s) ∧ Below w.heap.size w w') ∧
    (∀ w, Lib.TabIs Tryd.prog w "strings.asciiSpace" .u8 Lib.asciiSpaceTab → Calls Tryd.prog 14 #[.string a] w fun e w' => e = .returned (.int .i64 s) ∧ Below w.heap.size w w') :=
  ⟨plc ow a 0 + 1, fun w => spec_OpOf.calls 30 a _ w (specOf a), fun w hT => OpOf_calls a w hT⟩
theorem walk (a : ByteArray) (w : World) (hT : Lib.TabIs Tryd.prog w "strings.asciiSpace" .u8 Lib.asciiSpaceTab) :
    Calls Tryd.prog 6 #[.string a] w fun e w' => e = .returned (.bool true) ∧ Below w.heap.size w w' := by
  by_cases hz : a.size ≤ 1048576
  · obtain ⟨s, cS, cI⟩ := both a hz
    have HT := Aside0.mk hT
    have c1 : decide ((1048576 : Int) < (a.size : Int)) = false := decide_eq_false (by omega)
    have c2 : (1048576 < a.size) = False := eq_false (by omega)
    have c3 : ((a.size : Int) > 1048576) = False := eq_false (by omega)
    clear hT hz
    go_enter Tryd.func6, Tryd.ntmps6
    go_wp2_with (first | (go_at_call 13; refine (cS _).mono ?_; rintro e w1 ⟨rfl, hb⟩; have HB1 := Aside0.mk hb; clear hb) | (go_at_call 14; refine (cI _ (tab_below HT.out HB1.out)).mono ?_; rintro e w2 ⟨rfl, hb⟩; have HB2 := Aside0.mk (below_then HB1.out HB1.out.size hb); clear hb))
    go_ret
    exact ⟨rfl, HB2.out⟩
  · have c1 : decide ((1048576 : Int) < (a.size : Int)) = true := decide_eq_true (by omega)
    have c2 : (1048576 < a.size) = True := eq_true (by omega)
    have c3 : ((a.size : Int) > 1048576) = True := eq_true (by omega)
    clear hT hz
    go_enter Tryd.func6, Tryd.ntmps6
    go_wp2
    go_ret
    exact ⟨rfl, Below.refl _ _⟩
theorem own : ownKnob Tryd.prog.godebug = none := by kernel_rfl
theorem laidOut : laidOutB Tryd.prog = true := by kernel_rfl
theorem door_met (os : Os) (args : Array Value) : laidMetH Tryd.prog [("unicode.White_Space", Rows.laid_unicode_White_Space), ("strings.asciiSpace", Rows.laid_strings_asciiSpace)] ((World.doorLaid Tryd.prog 48 os).forCall (fun _ _ => 0) ⟨#[], args, []⟩).memory :=
  laidMetH_of_parts3 (fuel := 8) (laidMet_of_run' 8 (by kernel_rfl) (by kernel_rfl)) (by kernel_rfl) (by kernel_rfl)
set_option maxRecDepth 100000 in
theorem lifted (os : Os) (started : os.Started) (H : Type) (enc : TypeId × Value → H) :
    ReturnsInHanded {} Tryd.checked os 6 .any (fun w args => (Rows.fnExactOpOfSpec.pre enc Tryd.prog Tryd.f6 [] false w args ∧ laidMetH Tryd.prog [("unicode.White_Space", Rows.laid_unicode_White_Space), ("strings.asciiSpace", Rows.laid_strings_asciiSpace)] w) ∧ sizedMet enc Tryd.prog Tryd.f6 (OpenSpec.ofChange Rows.fnExactOpOfSpec) false w args)
      (Rows.fnExactOpOfSpec.post enc Tryd.prog Tryd.f6 false true false false) := by
  refine returnsInHanded_of_change_and (C := Tryd.checked) (X := fun w _ => laidMetH Tryd.prog [("unicode.White_Space", Rows.laid_unicode_White_Space), ("strings.asciiSpace", Rows.laid_strings_asciiSpace)] w) (fun _ _ _ hh h => h.of_heap hh) own started (by kernel_rfl) Tryd.func6
    (ChangeSpec.witness_shaped (enc := enc) (C := Tryd.checked) (os := os) (X := fun w _ => laidMetH Tryd.prog [("unicode.White_Space", Rows.laid_unicode_White_Space), ("strings.asciiSpace", Rows.laid_strings_asciiSpace)] w) false (World.doorLaid Tryd.prog 48 os) #[.string ByteArray.empty] 8 rfl (World.shaped_of_RefB (by kernel_rfl) (by kernel_rfl)) (by kernel_rfl) (by kernel_rfl) (by kernel_rfl) (door_met os _)) ?_
  intro W base args ds gs before hval0 hW _ _ hL _
  have hval : ∀ (j : Nat) t v, Tryd.f6.params[j]? = some t → args[j]? = some v → Value.okWide Tryd.prog W .any base t v := hval0
  have hW' := hW
  obtain ⟨p, q, hA0, hV, rfl, hfz, hnd⟩ := hW
  have hA : DataW.TrodAll enc Tryd.prog W 0 (fun _ => true) true Tryd.f6.params.toList args.toList ds p := hA0
  rw [Tryd.params6] at hA hval
  obtain ⟨v0, d0, rfl, rfl, h0⟩ := trodAll_one hA
  obtain ⟨rfl, rfl⟩ := trodVars_none hV
  obtain ⟨a, rfl, rfl, rfl, y0⟩ := open_string Tryd.underlying9 (hval 0 9 v0 rfl rfl) h0
  have hT := tab_of_laid hL
  clear hA0 hval0 hL
  refine (walk a W hT).mono fun e W' ⟨he, bel⟩ => ?_
  subst he
  exact ⟨_, rfl, _, _, _, [], _, [], hW', trodAll_mk1 (shut_bool Tryd.underlying4 _), (trodAll_cons_mk (shut_string Tryd.underlying9 y0) trodAll_mk0), rfl, bel.frame _, fun h => by cases h⟩
theorem said : Rows.FnExactOpOfSaid :=
  OpenClaim.holds_of_wide 6 Tryd.f6 rfl rfl rfl rfl rfl rfl rfl ⟨rfl, rfl, rfl, rfl, rfl⟩ rfl rfl rfl rfl rfl (by kernel_rfl) Tryd.func6 (by kernel_rfl)
    (of_decide_eq_true (by kernel_rfl)) (by unfold Func.isWrapper; first | (rw [if_pos (by decide +kernel)]; kernel_rfl) | (rw [if_neg (by decide +kernel)]; exact ⟨rfl, rfl⟩))
    (fun os started H enc _ => lifted os started H enc)
theorem card : Rows.FnExactOpOfCardSaid :=
  Claim7.holds_tied_plain_at .later [] [.listed, .data] true (true, "a5b434aa81040b1492803dfe0177db432638e12e5099c10b72422604e9be9bf4") false
    said (fun _ h => by cases h) (by kernel_rfl) (fun _ h => by cases h) fnExactOpOf_row_tie rfl ⟨rfl, rfl⟩ (by kernel_rfl) rfl
    (fun f fn hf hfn => by
      obtain rfl : f = 6 := Option.some.inj ((show Tryd.prog.funcNamed "loop.example/g00684/laws.FnExactOpOf" = some 6 by kernel_rfl).symm.trans hf) |>.symm
      obtain rfl : fn = Tryd.f6 := (Option.some.inj (Tryd.func6.symm.trans hfn)).symm
      exact ⟨by kernel_rfl, fun j t ht => by
        rw [Tryd.params6] at ht
        have hm : t ∈ [9] := by simpa using Array.mem_of_getElem? ht
        have hall : ([9].all fun u => !Tryd.prog.wantsStandIn u) = true := by kernel_rfl
        exact (show Tryd.prog.wantsStandIn t = false by simpa using List.all_eq_true.1 hall t hm)⟩)
    (by kernel_rfl)
#print axioms card
end Go.Proofs.YtagfalmpanlabaaDoor.DOpOf
namespace Go.Proofs.YtagfalmpanlabaaDoor
/-- The card, under a short name, for the claim. -/
theorem fnExactOpOfCard_holds : Rows.FnExactOpOfCardSaid := DOpOf.card
end Go.Proofs.YtagfalmpanlabaaDoor

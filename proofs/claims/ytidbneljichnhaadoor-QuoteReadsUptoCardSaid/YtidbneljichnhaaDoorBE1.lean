/- Texts that stand behind one another, laid into one: functions of the program and of its reference, what each comes to, and plain laws of that. -/
import Derived.Test.YtidbneljichnhaaDoorBE0
import Derived.Test.YtidbneljichnhaaDoorWMore
import Derived.Outline
import Derived.Test.YtidbneljichnhaaDoorWWords
import Derived.Laws.BitsAllLaws
import Derived.Lib.Walk
import Derived.Lib.Hide
import Derived.Lib.ConvBytes
import Derived.Laws.BitsLemmas
import Derived.Laws.Closers25
import Derived.Laws.Closers25b
import Derived.WalkKit
import Derived.KernelRfl
import Derived.Shelf.Strings.Builder1
import Derived.Shelf.Strings.Builder2
import Derived.Shelf.Strings.Trim
import Derived.Shelf.Small.Utf8
import Derived.Shelf.Small.Strs
import Derived.Shelf.Strings.BuilderF
import Derived.Shelf.Strings.BuilderK
import Derived.Shelf.Strings.BuilderRune
import Derived.Shelf.Utf8.RuneCount
import Derived.Shelf.Strconv.Itoa0
import Derived.Shelf.Strconv.Itoa1
import Derived.Shelf.LaysM
import Derived.Shelf.Strconv.Itoa2
import Derived.Shelf.Strconv.Itoa3
import Derived.Shelf.Strconv.Clone
import Derived.Shelf.Strconv.SyntaxError
import Derived.Shelf.LaysC
import Derived.Shelf.Strconv.ToError
import Derived.Shelf.Strconv.Lower
import Derived.Shelf.Strconv.ParseUint10
import Derived.Shelf.Strconv.ParseUint10Empty
import Derived.Shelf.Strconv.ParseUint10Any
import Derived.Shelf.Strconv.RangeError
import Derived.Shelf.Strconv.ToErrorRange
import Derived.Shelf.Strings.Search1
import Derived.Shelf.Strings.Search2
import Derived.Shelf.Strings.Search3
import Derived.Shelf.Strings.Count
import Derived.Shelf.Strings.Shaped
import Derived.Shelf.Strings.Prefix
import Derived.Shelf.Strings.Split
import Derived.Shelf.Strings.Replace
import Derived.Shelf.Strings.SplitShaped
import Derived.Shelf.Unicode.Decode
import Derived.Shelf.Strings.Runes
import Derived.Shelf.Strings.RuneCount
import Derived.Shelf.Strings.AsciiSet
import Derived.Shelf.Bits.Mul64
import Derived.Shelf.Strings.Repeat
import Derived.Shelf.Unicode.DecodeSlow
import Derived.Shelf.Unicode.DecodeAny
import Derived.Shelf.Unicode.DecodeLast
import Derived.Test.YtidbneljichnhaaDoorProg
import Derived.Lib.IndexLaws
/- The program's escapes (quote.escape), by hand, in the form in which the printed functions are told. Conditions: the text lies in memory. -/
namespace Go.Proofs.YtidbneljichnhaaDoor.Plug
open Go.RowKit Go.Proofs.YtidbneljichnhaaDoor Go.Proofs.YtidbneljichnhaaDoor.PX Go.Proofs.YtidbneljichnhaaDoor.Utf Go.Proofs.YtidbneljichnhaaDoorW.PrintWords Go.Proofs.YtidbneljichnhaaDoorW.PrintLast Go.Proofs.YtidbneljichnhaaDoorW.PrintMore
attribute [local go_sem] min2_int min_two

theorem enc_one (n : Int) : utf_Encode.f [n] = some (if sgn n = true then (⟨(enc n).toArray⟩, 0) else (⟨#[]⟩, 8)) := by
  unfold utf_Encode.f
  rw [if_pos (by simp)]
  unfold encB
  by_cases h : sgn n = true
  · rw [if_pos h, if_pos h]; rfl
  · rw [if_neg h, if_neg h]
theorem extract_list (s : ByteArray) (i j : Nat) : (s.extract i j).data.toList = (s.data.toList.drop i).take (j - i) := by
  rw [Lib.extract_data]
theorem one_row (n : Int) (w : World) : Kd.C (Kd.int .i64) (w.alloc (.cells #[.int .i64 n] 3)) (some ⟨w.heap.size, 0, none⟩) ([n] : List Int).length [n] := by
  have h := World.ownsRow_lit (base := 0) (e := 3) (size := 1) w #[.int .i64 n] 1 (Nat.zero_le _) (by decide) rfl
  exact (Kd.R_reads' (Kd.R_of_own (enc := Value.int .i64) (h1 := fun _ => rfl) (xs := [n]) (ok := fun _ => True) h (fun _ _ => trivial))).2.2

set_option maxHeartbeats 1600000 in
set_option maxRecDepth 100000 in
theorem esc_hex (s : ByteArray) (w : World) (hG : Glob.G w) (hs : s.size ≤ 140737488351232) (h2 : 2 ≤ s.size) (m N2 : Nat) (C M2 M0 : Int) (hcm : (m = 2 ∧ N2 = 4 ∧ C = 120 ∧ M2 = 4 ∧ M0 = 2) ∨ (m = 4 ∧ N2 = 6 ∧ C = 117 ∧ M2 = 6 ∧ M0 = 4) ∨ (m = 8 ∧ N2 = 10 ∧ C = 85 ∧ M2 = 10 ∧ M0 = 8)) (hx : ∀ h : 1 < s.size, ((s[1]'h).toNat : Int) = C) :
    Calls Tryd.prog 32 #[.string s] w fun e w' => e = .returned (.tuple #[.int .i64 (hexE s.data.toList m).1, .int .i64 ((hexE s.data.toList m).2.1 : Int), .int .i64 (hexE s.data.toList m).2.2]) ∧ Below w.heap.size w w' := by
  have hL := size_list s
  obtain ⟨e, he⟩ : ∃ e, e = min (2 + m) s.size := ⟨_, rfl⟩
  have hD : (s.extract 2 e).data.toList = (s.data.toList.drop 2).take m := by
    rw [extract_list, he]
    by_cases c : 2 + m ≤ s.size
    · rw [show min (2 + m) s.size - 2 = m by omega]
    · rw [show min (2 + m) s.size - 2 = s.size - 2 by omega, List.take_of_length_le (by rw [List.length_drop]; omega), List.take_of_length_le (by rw [List.length_drop]; omega)]
  have hDs : (s.extract 2 e).size = min m (s.size - 2) := by
    rw [size_list, hD, List.length_take, List.length_drop, ← hL]
  have hmin : (if (s.size : Int) < M2 then (s.size : Int) else M2) = (e : Int) := by split <;> omega
  have e1 : 2 ≤ e := by omega
  have e2 : e ≤ s.size := by omega
  have i1 : ((2 : Int) ≤ (s.size : Int)) = True := eq_true (by omega)
  have i2 : ((2 : Int) ≤ (e : Int)) = True := eq_true (by omega)
  have i3 : ((e : Int) ≤ (s.size : Int)) = True := eq_true (by omega)
  have hT : strings_Trim.f (s.extract 2 e) (⟨#[48, 49, 50, 51, 52, 53, 54, 55, 56, 57, 97, 98, 99, 100, 101, 102, 65, 66, 67, 68, 69, 70]⟩ : ByteArray) = some ⟨(Lib.trimS (s.extract 2 e).data.toList hexSet).toArray⟩ := by
    unfold strings_Trim.f
    rw [if_pos ⟨by omega, by decide, by decide⟩]; rfl
  have hxh := trim_hex (s.extract 2 e).data.toList
  rw [hD] at hxh hT
  have hc2 : decide ((s.size : Int) < 2) = false := by simp; omega
  have hd := digs_take m (s.data.toList.drop 2) 0
  rw [List.length_drop, ← hL] at hd
  by_cases q : hexAll ((s.data.toList.drop 2).take m) = true
  · rw [if_pos q] at hd
    have HT := Lib.hid hT
    rw [hxh.2 q] at HT
    by_cases r : s.size - 2 < m
    · rw [if_pos r] at hd
      rw [show hexE s.data.toList m = (0, 0, 4) by unfold hexE; rw [hd]; rfl]
      clear hd
      have hlt : decide (((s.size - 2 : Nat) : Int) < M0) = true := by simp; omega
      obtain rfl : e = s.size := by omega
      clear hT hxh hD hDs hL q he hmin i2 i3
      rcases hcm with ⟨rfl, rfl, rfl, rfl, rfl⟩ | ⟨rfl, rfl, rfl, rfl, rfl⟩ | ⟨rfl, rfl, rfl, rfl, rfl⟩
      all_goals
        go_enter Tryd.func32, Tryd.ntmps32
        go_wp2_with (first | (go_at_call 48; refine (strings_Trim.calls _ _ _ _ hG HT.out).mono ?_; rintro e w1 ⟨rfl, hb1⟩))
        go_ret3
        exact ⟨rfl, hb1⟩
    · rw [if_neg r] at hd
      rw [show hexE s.data.toList m = if sgn (hexNum ((s.data.toList.drop 2).take m) 0) = true then (hexNum ((s.data.toList.drop 2).take m) 0, 2 + m, 0) else (0, 0, 3) by unfold hexE; rw [hd]; rfl]
      clear hd
      have j3 : ((M2 : Int) ≤ (s.size : Int)) = True := eq_true (by omega)
      have j4 : N2 ≤ s.size := by omega
      obtain rfl : e = N2 := by omega
      have hr := num_range ((s.data.toList.drop 2).take m) 0 q (by omega)
      rw [List.length_take, List.length_drop, ← hL, show min m (s.size - 2) = m by omega] at hr
      have hr2 : hexNum ((s.data.toList.drop 2).take m) 0 < 4294967296 := by
        rcases hcm with ⟨rfl, _⟩ | ⟨rfl, _⟩ | ⟨rfl, _⟩
        · have := hr.2; simp at this; omega
        · have := hr.2; simp at this; omega
        · have := hr.2; simp at this; omega
      have hr1 := hr.1
      have hP : strconv_ParseUint.f (s.extract 2 e) 16 64 = some (hexNum ((s.data.toList.drop 2).take m) 0, none) := by
        unfold strconv_ParseUint.f
        rw [if_pos ⟨by omega, by omega, by rw [hD]; exact q, rfl, rfl⟩, hD]
      have HP := Lib.hid hP
      have hE := enc_one (hexNum ((s.data.toList.drop 2).take m) 0)
      clear hT hxh hD hDs hL q hr hP he hmin
      obtain ⟨n, hn⟩ : ∃ n, n = hexNum ((s.data.toList.drop 2).take m) 0 := ⟨_, rfl⟩
      rw [← hn] at HP hE hr1 hr2 ⊢
      clear hn
      by_cases g : sgn n = true
      · rw [if_pos g]
        rw [if_pos g] at hE
        have HE := Lib.hid hE
        clear hE g
        rcases hcm with ⟨rfl, rfl, rfl, rfl, rfl⟩ | ⟨rfl, rfl, rfl, rfl, rfl⟩ | ⟨rfl, rfl, rfl, rfl, rfl⟩
        all_goals
          go_enter Tryd.func32, Tryd.ntmps32
          go_wp2_with (first | (go_at_call 48; refine (strings_Trim.calls _ _ _ _ hG HT.out).mono ?_; rintro e w1 ⟨rfl, hb1⟩) | (go_at_call 49; refine (strconv_ParseUint.calls _ _ _ _ _ _ (hG.below hb1) HP.out).mono ?_; rintro e w2 ⟨rfl, hb2⟩) | (go_at_call 33; refine (utf_Encode.calls _ _ [n] _ _ _ (one_row n w2) (by simp) (hG.below ((hb1.trans (hb2.mono hb1.size)).alloc (Nat.le_trans hb1.size hb2.size) _)) HE.out).mono ?_; rintro e w3 ⟨rfl, hb3⟩))
          go_ret3
          exact ⟨rfl, ((hb1.trans (hb2.mono hb1.size)).alloc (Nat.le_trans hb1.size hb2.size) _).trans (hb3.mono (by have := hb1.size; have := hb2.size; simp; omega))⟩
      · rw [if_neg g]
        rw [if_neg g] at hE
        have HE := Lib.hid hE
        clear hE g
        rcases hcm with ⟨rfl, rfl, rfl, rfl, rfl⟩ | ⟨rfl, rfl, rfl, rfl, rfl⟩ | ⟨rfl, rfl, rfl, rfl, rfl⟩
        all_goals
          go_enter Tryd.func32, Tryd.ntmps32
          go_wp2_with (first | (go_at_call 48; refine (strings_Trim.calls _ _ _ _ hG HT.out).mono ?_; rintro e w1 ⟨rfl, hb1⟩) | (go_at_call 49; refine (strconv_ParseUint.calls _ _ _ _ _ _ (hG.below hb1) HP.out).mono ?_; rintro e w2 ⟨rfl, hb2⟩) | (go_at_call 33; refine (utf_Encode.calls _ _ [n] _ _ _ (one_row n w2) (by simp) (hG.below ((hb1.trans (hb2.mono hb1.size)).alloc (Nat.le_trans hb1.size hb2.size) _)) HE.out).mono ?_; rintro e w3 ⟨rfl, hb3⟩))
          go_ret3
          exact ⟨rfl, ((hb1.trans (hb2.mono hb1.size)).alloc (Nat.le_trans hb1.size hb2.size) _).trans (hb3.mono (by have := hb1.size; have := hb2.size; simp; omega))⟩
  · rw [if_neg q] at hd
    rw [show hexE s.data.toList m = (0, 0, 3) by unfold hexE; rw [hd]; rfl]
    clear hd
    have HT := Lib.hid hT
    have hne : ¬ Lib.trimS ((s.data.toList.drop 2).take m) hexSet = [] := fun e => q (hxh.1 e)
    have hem : (⟨(Lib.trimS ((s.data.toList.drop 2).take m) hexSet).toArray⟩ : ByteArray).toList.isEmpty = false := by
      rw [Lib.toList_data]; simpa using hne
    generalize (⟨(Lib.trimS ((s.data.toList.drop 2).take m) hexSet).toArray⟩ : ByteArray) = t at HT hem
    by_cases r : s.size - 2 < m
    · obtain rfl : e = s.size := by omega
      clear hT hxh hD hDs hL q hne he hmin i2 i3
      rcases hcm with ⟨rfl, rfl, rfl, rfl, rfl⟩ | ⟨rfl, rfl, rfl, rfl, rfl⟩ | ⟨rfl, rfl, rfl, rfl, rfl⟩
      all_goals
        go_enter Tryd.func32, Tryd.ntmps32
        go_wp2_with (first | (go_at_call 48; refine (strings_Trim.calls _ _ _ _ hG HT.out).mono ?_; rintro e w1 ⟨rfl, hb1⟩))
        go_ret3
        exact ⟨rfl, hb1⟩
    · have j3 : ((M2 : Int) ≤ (s.size : Int)) = True := eq_true (by omega)
      have j4 : N2 ≤ s.size := by omega
      obtain rfl : e = N2 := by omega
      clear hT hxh hD hDs hL q hne he hmin
      rcases hcm with ⟨rfl, rfl, rfl, rfl, rfl⟩ | ⟨rfl, rfl, rfl, rfl, rfl⟩ | ⟨rfl, rfl, rfl, rfl, rfl⟩
      all_goals
        go_enter Tryd.func32, Tryd.ntmps32
        go_wp2_with (first | (go_at_call 48; refine (strings_Trim.calls _ _ _ _ hG HT.out).mono ?_; rintro e w1 ⟨rfl, hb1⟩))
        go_ret3
        exact ⟨rfl, hb1⟩

def quote_escape.f (a0 : ByteArray) : Option (Int × Int × Int) := if a0.size ≤ 140737488351232 then some ((escB a0.data.toList).1, ((escB a0.data.toList).2.1 : Int), (escB a0.data.toList).2.2) else none

set_option maxHeartbeats 1600000 in
set_option maxRecDepth 100000 in
theorem quote_escape.calls (a0 : ByteArray) (r1 r2 r3 : Int) (w : World) (hG : Glob.G w) (h : quote_escape.f a0 = some (r1, r2, r3)) :
    Calls Tryd.prog 32 #[.string a0] w fun e w' => e = .returned (.tuple #[.int .i64 r1, .int .i64 r2, .int .i64 r3]) ∧ Below w.heap.size w w' := by
  unfold quote_escape.f at h
  by_cases hs : a0.size ≤ 140737488351232
  · rw [if_pos hs] at h
    simp only [Option.some.injEq, Prod.mk.injEq] at h
    obtain ⟨rfl, rfl, rfl⟩ := h
    have hL := size_list a0
    have hlt := at_lt a0.data.toList 1
    have hx : ∀ h : 1 < a0.size, ((a0[1]'h).toNat : Int) = (at_ a0.data.toList 1 : Int) := fun h => by rw [← bt_at_]; exact bt_at a0 1 h
    have hE : escB a0.data.toList = if a0.size < 2 then (0, 0, 4) else
      if at_ a0.data.toList 1 = 34 ∨ at_ a0.data.toList 1 = 92 then ((at_ a0.data.toList 1 : Int), 2, 0) else if at_ a0.data.toList 1 = 110 then (10, 2, 0) else if at_ a0.data.toList 1 = 116 then (9, 2, 0) else if at_ a0.data.toList 1 = 114 then (13, 2, 0) else
      if at_ a0.data.toList 1 = 48 then (0, 2, 0) else if at_ a0.data.toList 1 = 120 then hexE a0.data.toList 2 else if at_ a0.data.toList 1 = 117 then hexE a0.data.toList 4 else if at_ a0.data.toList 1 = 85 then hexE a0.data.toList 8 else (0, 0, 3) := by
      unfold escB; rw [hL]
    by_cases h2 : a0.size < 2
    · rw [hE, if_pos h2]
      have hc2 : decide ((a0.size : Int) < 2) = true := by simp; omega
      clear hE hx hL hlt hG
      go_enter Tryd.func32, Tryd.ntmps32
      go_wp2
      go_ret3
      exact ⟨rfl, Below.refl _ _⟩
    rw [if_neg h2] at hE
    have hc2 : decide ((a0.size : Int) < 2) = false := by simp; omega
    by_cases c7 : at_ a0.data.toList 1 = 120
    · rw [c7] at hx
      rw [show escB a0.data.toList = hexE a0.data.toList 2 by rw [hE, c7]; rfl]
      exact esc_hex a0 w hG hs (by omega) 2 4 120 4 2 (.inl ⟨rfl, rfl, rfl, rfl, rfl⟩) hx
    by_cases c8 : at_ a0.data.toList 1 = 117
    · rw [c8] at hx
      rw [show escB a0.data.toList = hexE a0.data.toList 4 by rw [hE, c8]; rfl]
      exact esc_hex a0 w hG hs (by omega) 4 6 117 6 4 (.inr (.inl ⟨rfl, rfl, rfl, rfl, rfl⟩)) hx
    by_cases c9 : at_ a0.data.toList 1 = 85
    · rw [c9] at hx
      rw [show escB a0.data.toList = hexE a0.data.toList 8 by rw [hE, c9]; rfl]
      exact esc_hex a0 w hG hs (by omega) 8 10 85 10 8 (.inr (.inr ⟨rfl, rfl, rfl, rfl, rfl⟩)) hx
    rw [hE]
    clear hE hL hG hs
    have h2' : 2 ≤ a0.size := by omega
    generalize at_ a0.data.toList 1 = x at *
    by_cases c1 : x = 34
    · subst c1
      go_enter Tryd.func32, Tryd.ntmps32
      go_wp2
      go_ret3
      exact ⟨rfl, Below.refl _ _⟩
    by_cases c2 : x = 92
    · subst c2
      go_enter Tryd.func32, Tryd.ntmps32
      go_wp2
      go_ret3
      exact ⟨rfl, Below.refl _ _⟩
    by_cases c3 : x = 110
    · subst c3
      go_enter Tryd.func32, Tryd.ntmps32
      go_wp2
      go_ret3
      exact ⟨rfl, Below.refl _ _⟩
    by_cases c4 : x = 116
    · subst c4
      go_enter Tryd.func32, Tryd.ntmps32
      go_wp2
      go_ret3
      exact ⟨rfl, Below.refl _ _⟩
    by_cases c5 : x = 114
    · subst c5
      go_enter Tryd.func32, Tryd.ntmps32
      go_wp2
      go_ret3
      exact ⟨rfl, Below.refl _ _⟩
    by_cases c6 : x = 48
    · subst c6
      go_enter Tryd.func32, Tryd.ntmps32
      go_wp2
      go_ret3
      exact ⟨rfl, Below.refl _ _⟩
    rw [if_neg (show ¬ (x = 34 ∨ x = 92) by omega), if_neg c3, if_neg c4, if_neg c5, if_neg c6, if_neg c7, if_neg c8, if_neg c9]
    have b1 : ((x : Int) == 34) = false := by rw [beq_eq_false_iff_ne]; omega
    have b2 : ((x : Int) == 92) = false := by rw [beq_eq_false_iff_ne]; omega
    have b3 : ((x : Int) == 110) = false := by rw [beq_eq_false_iff_ne]; omega
    have b4 : ((x : Int) == 116) = false := by rw [beq_eq_false_iff_ne]; omega
    have b5 : ((x : Int) == 114) = false := by rw [beq_eq_false_iff_ne]; omega
    have b6 : ((x : Int) == 48) = false := by rw [beq_eq_false_iff_ne]; omega
    have b7 : ((x : Int) == 120) = false := by rw [beq_eq_false_iff_ne]; omega
    have b8 : ((x : Int) == 117) = false := by rw [beq_eq_false_iff_ne]; omega
    have b9 : ((x : Int) == 85) = false := by rw [beq_eq_false_iff_ne]; omega
    clear c1 c2 c3 c4 c5 c6 c7 c8 c9
    go_enter Tryd.func32, Tryd.ntmps32
    go_wp2
    go_ret3
    exact ⟨rfl, Below.refl _ _⟩
  · rw [if_neg hs] at h; cases h
end Go.Proofs.YtidbneljichnhaaDoor.Plug

/- YtidbneljichnhaaDoorFQuoteOne: what print.py told of Go functions, for this claim. -/
namespace Go.Proofs.YtidbneljichnhaaDoor.PX
open Go.RowKit Go.Proofs.YtidbneljichnhaaDoorW.PrintWords Go.Proofs.YtidbneljichnhaaDoorW.PrintLast Go.Proofs.YtidbneljichnhaaDoorW.PrintMore Go.Proofs.YtidbneljichnhaaDoor Go.Proofs.YtidbneljichnhaaDoor.Plug
attribute [local go_sem] max2_int min2_int max_two min_two max_three min_three max_four min_four   -- for this text's walks alone
set_option linter.unusedVariables false
set_option linter.unusedSimpArgs false

/-! ### quote_one: function 17 -/
def quote_one.j0 : Nat → ByteArray → Bool → Option (ByteArray × Int × Int)
  | 0, _, _ => none
  | k + 1, x0, x32 => if x32 = true then ((quote_escape.f x0).bind fun bt101 => (if bt101.2.2 = 0 then ((utf_Encode.f (([bt101.1] : List Int))).bind fun bt107 => (some (bt107.1, bt101.2.1, 0))) else (some ((⟨#[]⟩ : ByteArray), 0, bt101.2.2)))) else ((utf_First.f x0).bind fun bt109 => ((quote_may.f bt109.1).bind fun t111 => (if t111 = true then (if 0 ≤ bt109.2 then (if bt109.2 ≤ (x0.size : Int) then (some (x0.extract 0 (bt109.2 : Int).toNat, bt109.2, 0)) else (none)) else (none)) else (some ((⟨#[]⟩ : ByteArray), 0, 8)))))
def quote_one.f (k : Nat) (a0 : ByteArray) (a1 : Int) : Option (ByteArray × Int × Int) := if 0 < (a0.size : Int) then (if (bt a0 0) = a1 then (if a1 = 39 then (if (a0.size : Int) > 1 then (if 1 < (a0.size : Int) then (if (bt a0 1) = a1 then (some ((⟨#[39]⟩ : ByteArray), 2, 0)) else (some ((⟨#[]⟩ : ByteArray), 0, 0))) else (none)) else (some ((⟨#[]⟩ : ByteArray), 0, 0))) else (some ((⟨#[]⟩ : ByteArray), 0, 0))) else (if a1 = 34 then (quote_one.j0 k a0 ((bt a0 0) == 92)) else (quote_one.j0 k a0 false))) else (none)
theorem quote_one.mono_l : ∀ k, (∀ y0 y1, LeO (quote_one.j0 k y0 y1) (quote_one.j0 (k + 1) y0 y1))
  | 0 => fun _ _ r h => by simp [quote_one.j0] at h
  | k + 1 => by
    have ih0 := quote_one.mono_l k
    · intro y0 y1
      unfold quote_one.j0
      repeat' first
      | (with_reducible exact ih0 _ _)
      | (with_reducible exact LeO.refl _)
      | (with_reducible exact LeO.none _)
      | (with_reducible refine LeO.ite ?_ ?_)
      | (with_reducible refine LeO.bind ?_ (fun _ => ?_))
      | exact ih0 _ _
      | exact LeO.none _
      | refine LeO.ite ?_ ?_
      | refine LeO.bind ?_ (fun _ => ?_)
theorem quote_one.mono : ∀ a0 a1 k, LeO (quote_one.f k a0 a1) (quote_one.f (k + 1) a0 a1) := by
  intro a0 a1 k
  have ih0 := quote_one.mono_l k
  unfold quote_one.f
  repeat' first
      | (with_reducible exact ih0 _ _)
      | (with_reducible exact LeO.refl _)
      | (with_reducible exact LeO.none _)
      | (with_reducible refine LeO.ite ?_ ?_)
      | (with_reducible refine LeO.bind ?_ (fun _ => ?_))
      | exact ih0 _ _
      | exact LeO.none _
      | refine LeO.ite ?_ ?_
      | refine LeO.bind ?_ (fun _ => ?_)
set_option maxHeartbeats 8000000 in
set_option maxRecDepth 100000 in
theorem quote_one.calls (k : Nat) (a0 : ByteArray) (a1 : Int) (r1 : ByteArray) (r2 : Int) (r3 : Int) (w : World) (hG : Glob.G w) (h : quote_one.f k a0 a1 = some (r1, r2, r3)) :
    Calls Tryd.prog 17 #[.string a0, .int .u8 a1] w fun e w' => e = .returned (.tuple #[.string r1, .int .i64 r2, .int .i64 r3]) ∧ Below w.heap.size w w' := by
  have HB := Aside0.mk (Below.refl w.heap.size w)
  have H : (if 0 < (a0.size : Int) then (if (bt a0 0) = a1 then (if a1 = 39 then (if (a0.size : Int) > 1 then (if 1 < (a0.size : Int) then (if (bt a0 1) = a1 then (some ((⟨#[39]⟩ : ByteArray), 2, 0)) else (some ((⟨#[]⟩ : ByteArray), 0, 0))) else (none)) else (some ((⟨#[]⟩ : ByteArray), 0, 0))) else (some ((⟨#[]⟩ : ByteArray), 0, 0))) else (if a1 = 34 then (quote_one.j0 k a0 ((bt a0 0) == 92)) else (quote_one.j0 k a0 false))) else (none)) = some (r1, r2, r3) := h
  clear h
  by_cases c3 : 0 < (a0.size : Int)
  · rw [if_pos c3] at H
    have c3b0 : decide (0 < (a0.size : Int)) = true := decide_eq_true c3
    have c3b1 : decide (0 < a0.size) = true := decide_eq_true (by omega)
    clear c3
    by_cases c5 : (bt a0 0) = a1
    · rw [if_pos c5] at H
      have c5b0 : ((bt a0 0) == a1) = true := beq_iff_eq.mpr c5
      have c5b1 : ((bt a0 0) != a1) = false := bne_eq_false_iff_eq.mpr c5
      clear c5
      by_cases c6 : a1 = 39
      · rw [if_pos c6] at H
        have c6b0 : (a1 == 39) = true := beq_iff_eq.mpr c6
        have c6b1 : (a1 != 39) = false := bne_eq_false_iff_eq.mpr c6
        clear c6
        by_cases c7 : (a0.size : Int) > 1
        · rw [if_pos c7] at H
          have c7b0 : decide (1 < (a0.size : Int)) = true := decide_eq_true c7
          have c7b1 : decide (1 < a0.size) = true := decide_eq_true (by omega)
          clear c7
          by_cases c8 : 1 < (a0.size : Int)
          · rw [if_pos c8] at H
            have c8b0 : decide (1 < (a0.size : Int)) = true := decide_eq_true c8
            have c8b1 : decide (1 < a0.size) = true := decide_eq_true (by omega)
            clear c8
            by_cases c10 : (bt a0 1) = a1
            · rw [if_pos c10] at H
              have c10b0 : ((bt a0 1) == a1) = true := beq_iff_eq.mpr c10
              have c10b1 : ((bt a0 1) != a1) = false := bne_eq_false_iff_eq.mpr c10
              clear c10
              simp only [Option.some.injEq, Prod.mk.injEq] at H
              obtain ⟨rfl, rfl, rfl⟩ := H
              have p4 : 0 ≤ (0 : Int) := (by omega)
              have q4 : 0 < a0.size := (by have : (0 : Int) < (a0.size : Int) := of_decide_eq_true (by first | (with_reducible assumption) | assumption); omega)
              have hx4 : ∀ h : 0 < a0.size, ((a0[0]'h).toNat : Int) = bt a0 0 := bt_at a0 0
              clear p4
              have qi4 : (0 < (a0.size : Int)) = True := eq_true (of_decide_eq_true (by first | (with_reducible assumption) | assumption))
              replace q4 := eq_true q4
              have p9 : 0 ≤ (1 : Int) := (by omega)
              have q9 : 1 < a0.size := (by have : (1 : Int) < (a0.size : Int) := of_decide_eq_true (by first | (with_reducible assumption) | assumption); omega)
              have hx9 : ∀ h : 1 < a0.size, ((a0[1]'h).toNat : Int) = bt a0 1 := bt_at a0 1
              clear p9
              have qi9 : (1 < (a0.size : Int)) = True := eq_true (of_decide_eq_true (by first | (with_reducible assumption) | assumption))
              replace q9 := eq_true q9
              go_enter Tryd.func17, Tryd.ntmps17
              go_wp2
              go_ret3
              exact ⟨by first | rfl | (simp [errW_none, errW_some] <;> rfl) | (simp [*, errW_none, errW_some] <;> rfl), by repeat (first | (with_reducible first | exact HB.out | apply below_alloc | apply pw_below_drewN | apply below_drew1) | exact HB.out)⟩
            · rw [if_neg c10] at H
              have c10b0 : ((bt a0 1) == a1) = false := beq_eq_false_iff_ne.mpr c10
              have c10b1 : ((bt a0 1) != a1) = true := bne_iff_ne.mpr c10
              simp only [Option.some.injEq, Prod.mk.injEq] at H
              obtain ⟨rfl, rfl, rfl⟩ := H
              have p4 : 0 ≤ (0 : Int) := (by omega)
              have q4 : 0 < a0.size := (by have : (0 : Int) < (a0.size : Int) := of_decide_eq_true (by first | (with_reducible assumption) | assumption); omega)
              have hx4 : ∀ h : 0 < a0.size, ((a0[0]'h).toNat : Int) = bt a0 0 := bt_at a0 0
              clear p4
              have qi4 : (0 < (a0.size : Int)) = True := eq_true (of_decide_eq_true (by first | (with_reducible assumption) | assumption))
              replace q4 := eq_true q4
              have p9 : 0 ≤ (1 : Int) := (by omega)
              have q9 : 1 < a0.size := (by have : (1 : Int) < (a0.size : Int) := of_decide_eq_true (by first | (with_reducible assumption) | assumption); omega)
              have hx9 : ∀ h : 1 < a0.size, ((a0[1]'h).toNat : Int) = bt a0 1 := bt_at a0 1
              clear p9
              have qi9 : (1 < (a0.size : Int)) = True := eq_true (of_decide_eq_true (by first | (with_reducible assumption) | assumption))
              replace q9 := eq_true q9
              go_enter Tryd.func17, Tryd.ntmps17
              go_wp2
              go_ret3
              exact ⟨by first | rfl | (simp [errW_none, errW_some] <;> rfl) | (simp [*, errW_none, errW_some] <;> rfl), by repeat (first | (with_reducible first | exact HB.out | apply below_alloc | apply pw_below_drewN | apply below_drew1) | exact HB.out)⟩
          · rw [if_neg c8] at H
            exact absurd H (by simp)
        · rw [if_neg c7] at H
          have c7b0 : decide (1 < (a0.size : Int)) = false := decide_eq_false c7
          have c7b1 : decide (1 < a0.size) = false := decide_eq_false (by omega)
          clear c7
          simp only [Option.some.injEq, Prod.mk.injEq] at H
          obtain ⟨rfl, rfl, rfl⟩ := H
          have p4 : 0 ≤ (0 : Int) := (by omega)
          have q4 : 0 < a0.size := (by have : (0 : Int) < (a0.size : Int) := of_decide_eq_true (by first | (with_reducible assumption) | assumption); omega)
          have hx4 : ∀ h : 0 < a0.size, ((a0[0]'h).toNat : Int) = bt a0 0 := bt_at a0 0
          clear p4
          have qi4 : (0 < (a0.size : Int)) = True := eq_true (of_decide_eq_true (by first | (with_reducible assumption) | assumption))
          replace q4 := eq_true q4
          go_enter Tryd.func17, Tryd.ntmps17
          go_wp2
          go_ret3
          exact ⟨by first | rfl | (simp [errW_none, errW_some] <;> rfl) | (simp [*, errW_none, errW_some] <;> rfl), by repeat (first | (with_reducible first | exact HB.out | apply below_alloc | apply pw_below_drewN | apply below_drew1) | exact HB.out)⟩
      · rw [if_neg c6] at H
        have c6b0 : (a1 == 39) = false := beq_eq_false_iff_ne.mpr c6
        have c6b1 : (a1 != 39) = true := bne_iff_ne.mpr c6
        simp only [Option.some.injEq, Prod.mk.injEq] at H
        obtain ⟨rfl, rfl, rfl⟩ := H
        have p4 : 0 ≤ (0 : Int) := (by omega)
        have q4 : 0 < a0.size := (by have : (0 : Int) < (a0.size : Int) := of_decide_eq_true (by first | (with_reducible assumption) | assumption); omega)
        have hx4 : ∀ h : 0 < a0.size, ((a0[0]'h).toNat : Int) = bt a0 0 := bt_at a0 0
        clear p4
        have qi4 : (0 < (a0.size : Int)) = True := eq_true (of_decide_eq_true (by first | (with_reducible assumption) | assumption))
        replace q4 := eq_true q4
        go_enter Tryd.func17, Tryd.ntmps17
        go_wp2
        go_ret3
        exact ⟨by first | rfl | (simp [errW_none, errW_some] <;> rfl) | (simp [*, errW_none, errW_some] <;> rfl), by repeat (first | (with_reducible first | exact HB.out | apply below_alloc | apply pw_below_drewN | apply below_drew1) | exact HB.out)⟩
    · rw [if_neg c5] at H
      have c5b0 : ((bt a0 0) == a1) = false := beq_eq_false_iff_ne.mpr c5
      have c5b1 : ((bt a0 0) != a1) = true := bne_iff_ne.mpr c5
      have HC11 := Aside0.mk H
      clear H
      have p4 : 0 ≤ (0 : Int) := (by omega)
      have q4 : 0 < a0.size := (by have : (0 : Int) < (a0.size : Int) := of_decide_eq_true (by first | (with_reducible assumption) | assumption); omega)
      have hx4 : ∀ h : 0 < a0.size, ((a0[0]'h).toNat : Int) = bt a0 0 := bt_at a0 0
      clear p4
      have qi4 : (0 < (a0.size : Int)) = True := eq_true (of_decide_eq_true (by first | (with_reducible assumption) | assumption))
      replace q4 := eq_true q4
      go_enter Tryd.func17, Tryd.ntmps17
      go_upto_region 5 with (fail)
      go_cut [32] (fun v32 wc => ∃ (kq : Nat) (x32_10 : Bool), v32 = .bool x32_10 ∧ Aside0 (quote_one.j0 kq a0 x32_10 = some (r1, r2, r3)) ∧ Aside0 (kq ≤ k) ∧ Aside0 (Below w.heap.size w wc))
      case first =>
        have H := HC11.out
        clear HC11
        by_cases c12 : a1 = 34
        · rw [if_pos c12] at H
          have c12b0 : (a1 == 34) = true := beq_iff_eq.mpr c12
          have c12b1 : (a1 != 34) = false := bne_eq_false_iff_eq.mpr c12
          clear c12
          (first | rw [c12b0] | (simp only [i64_w, i32_w]; rw [c12b0]) | skip)
          have H' := Aside0.mk H
          clear H
          have p13 : 0 ≤ (0 : Int) := (by omega)
          have q13 : 0 < a0.size := (by have : (0 : Int) < (a0.size : Int) := of_decide_eq_true (by first | (with_reducible assumption) | assumption); omega)
          have hx13 : ∀ h : 0 < a0.size, ((a0[0]'h).toNat : Int) = bt a0 0 := bt_at a0 0
          clear p13
          have qi13 : (0 < (a0.size : Int)) = True := eq_true (of_decide_eq_true (by first | (with_reducible assumption) | assumption))
          replace q13 := eq_true q13
          go_wp2
          go_meet
          case rel => exact ⟨_, (((bt a0 0) == 92)), (by first | rfl | (simp; done) | (simp [*]; done)), H', ⟨by first | omega | exact Nat.le_refl _⟩, ⟨by repeat (first | (with_reducible first | exact HB.out | apply below_alloc | apply pw_below_drewN | apply below_drew1) | exact HB.out)⟩⟩
        · rw [if_neg c12] at H
          have c12b0 : (a1 == 34) = false := beq_eq_false_iff_ne.mpr c12
          have c12b1 : (a1 != 34) = true := bne_iff_ne.mpr c12
          (first | rw [c12b0] | (simp only [i64_w, i32_w]; rw [c12b0]) | skip)
          have H' := Aside0.mk H
          clear H
          go_wp2
          go_meet
          case rel => exact ⟨_, (false), (by first | rfl | (simp; done) | (simp [*]; done)), H', ⟨by first | omega | exact Nat.le_refl _⟩, ⟨by repeat (first | (with_reducible first | exact HB.out | apply below_alloc | apply pw_below_drewN | apply below_drew1) | exact HB.out)⟩⟩
      case rest =>
        clear HC11
        try clear c1
        try clear p1
        try clear q1
        try clear hx1
        try clear qi1
        try clear p2
        try clear c3
        try clear c3b0
        try clear c3b1
        try clear p4
        try clear q4
        try clear hx4
        try clear qi4
        try clear c5
        try clear c5b0
        try clear c5b1
        try clear c6
        try clear c6b0
        try clear c6b1
        try clear c7
        try clear c7b0
        try clear c7b1
        try clear c8
        try clear c8b0
        try clear c8b1
        try clear p9
        try clear q9
        try clear hx9
        try clear qi9
        try clear c10
        try clear c10b0
        try clear c10b1
        try clear c12
        try clear c12b0
        try clear c12b1
        try clear p13
        try clear q13
        try clear hx13
        try clear qi13
        try clear p13
        try clear p4
        try clear p9
        try clear q13
        try clear q4
        try clear q9
        obtain ⟨kq, x32_10, rfl, HA, HJ10, HB⟩ := hcut
        cases kq with
        | zero => exact absurd HA.out (by simp [quote_one.j0])
        | succ kj10 =>
          have H := HA.out
          clear HA
          simp only [quote_one.j0] at H
          by_cases c14 : x32_10 = true
          · subst c14
            have H1 : ((quote_escape.f a0).bind fun bt101 => (if bt101.2.2 = 0 then ((utf_Encode.f (([bt101.1] : List Int))).bind fun bt107 => (some (bt107.1, bt101.2.1, 0))) else (some ((⟨#[]⟩ : ByteArray), 0, bt101.2.2)))) = some (r1, r2, r3) := by rw [if_pos rfl] at H; exact H
            clear H
            have H := H1
            clear H1
            replace H := Option.bind_eq_some_iff.mp H
            obtain ⟨⟨t101, t102, t103⟩, A150, H⟩ := H
            replace H : (if t103 = 0 then ((utf_Encode.f (([t101] : List Int))).bind fun bt107 => (some (bt107.1, t102, 0))) else (some ((⟨#[]⟩ : ByteArray), 0, t103))) = some (r1, r2, r3) := H
            have A15 := Aside0.mk A150
            clear A150
            by_cases c16 : t103 = 0
            · rw [if_pos c16] at H
              have c16b0 : (t103 == 0) = true := beq_iff_eq.mpr c16
              have c16b1 : (t103 != 0) = false := bne_eq_false_iff_eq.mpr c16
              clear c16
              obtain ⟨y104, hy104⟩ : ∃ y_ : List Int, y_ = (([t101] : List Int)) := ⟨_, rfl⟩
              replace H : ((utf_Encode.f y104).bind fun bt107 => (some (bt107.1, t102, 0))) = some (r1, r2, r3) := by first | (rw [hy104]; with_reducible exact H) | (have H2_ := (Option.bind_some _ _).symm.trans H; rw [hy104]; with_reducible exact H2_) | (have H2_ := (Option.bind_some _ _).symm.trans H; with_reducible exact H2_) | with_reducible exact H | (rw [hy104]; exact H) | exact H
              have Ny104 := Aside0.mk hy104
              clear hy104
              replace H := Option.bind_eq_some_iff.mp H
              obtain ⟨⟨t107, t108⟩, A170, H⟩ := H
              replace H : (some (t107, t102, 0)) = some (r1, r2, r3) := H
              have A17 := Aside0.mk A170
              clear A170
              simp only [Option.some.injEq, Prod.mk.injEq] at H
              obtain ⟨rfl, rfl, rfl⟩ := H
              go_wp2_with (first | ((with_reducible refine gate_callee (f := 32) rfl ?_); refine goesL_ (some 42) rfl rfl Tryd.func32 (by kernel_rfl) rfl #[.string a0] rfl (by (try simp only [List.map_toArray, List.map_cons, List.map_nil]); first | done | rfl | (simp only [List.length_drop, List.length_take]; rfl)) ?_; (with_reducible refine (quote_escape.calls a0 t101 t102 t103 _ (hG.below (by first | ((repeat (first | (with_reducible first | exact HB.out | apply below_alloc | apply pw_below_drewN | apply below_drew1 | (refine Glob.below_set ?_ (by assumption) _ _ _)) | exact HB.out)); done) | (refine Drawn0.below ?_; repeat (first | exact Drawn0.refl _ | assumption | apply Drawn0.step)))) A15.out).mono ?_); rintro e w18 ⟨rfl, hb⟩; refine ⟨_, rfl, ?_⟩; have n0_ := Aside0.mk (below_step (by repeat (first | (with_reducible first | exact HB.out | apply below_alloc | apply pw_below_drewN | apply below_drew1) | exact HB.out)) hb); clear HB; have HB := n0_; clear n0_; (try clear hb); (try clear hb2); (try clear hk); (try clear hi)) | ((with_reducible refine gate_dst (N := 51) rfl ?_); (try (refine gate_guard (by rfl) ?_; dsimp only)); refine Kd.R_lit (Kd.int .i64) _ 3 ?hg (N := 51) ?hd (xs := ([t101] : List Int)) (inner := [.int .i64 t101]) (ok := fun _ => True) (okp := fun _ => True) ?hr ?hp (fun _ hk => hk) trivial (Below.refl _ _) (Nat.le_refl _) (by simp) ?_; (case hd => rfl); (case hg => rfl); (case hr => first | (go_simp; done) | (go_simp; rfl)); (case hp => exact (Reps.one (show Kd.M (Kd.int .i64) _ _ _ t101 [.int .i64 t101] from rfl) (Reps.none _ _))); intro v105 w19 ho20 hb hg_ hnew_; clear hg_ hnew_; (first | rw [← Ny104.out] at ho20 | (simp only [Int.reduceToNat] at ho20; rw [← Ny104.out] at ho20)); have n0_ := Aside0.mk (Kd.R_lower ho20 (below_size (by repeat (first | (with_reducible first | exact HB.out | apply below_alloc | apply pw_below_drewN | apply below_drew1) | exact HB.out)))); have n1_ := Aside0.mk (below_step (by repeat (first | (with_reducible first | exact HB.out | apply below_alloc | apply pw_below_drewN | apply below_drew1) | exact HB.out)) hb); clear HB; have HO106 := n0_; have HB := n1_; clear n0_ n1_; clear hb ho20; obtain ⟨Ao21, co21, eo21⟩ := Kd.R_slice HO106.out; subst eo21) | ((with_reducible refine gate_callee (f := 33) rfl ?_); refine goesL_ (some 52) rfl rfl Tryd.func33 (by kernel_rfl) rfl #[.slice Ao21 y104.length co21] rfl (by (try simp only [List.map_toArray, List.map_cons, List.map_nil]); first | done | rfl | (simp only [List.length_drop, List.length_take]; rfl)) ?_; (with_reducible refine (utf_Encode.calls _ _ y104 t107 t108 _ ?side1 ?side2 (hG.below (by first | ((repeat (first | (with_reducible first | exact HB.out | apply below_alloc | apply pw_below_drewN | apply below_drew1 | (refine Glob.below_set ?_ (by assumption) _ _ _)) | exact HB.out)); done) | (refine Drawn0.below ?_; repeat (first | exact Drawn0.refl _ | assumption | apply Drawn0.step)))) A17.out).mono ?_); (case side1 => repeat (first | exact (Kd.R_reads' HO106.out).2.2 | (with_reducible refine Kd.C_alloc ?_ _) | (with_reducible refine Kd.C_drewN ?_ _) | (with_reducible refine Kd.C_drew ?_))); (case side2 => exact (Kd.R_reads' HO106.out).2.1); rintro e w22 ⟨rfl, hb⟩; refine ⟨_, rfl, ?_⟩; have n0_ := Aside0.mk (Kd.R_below (by (with_reducible repeat (first | apply Kd.R_alloc | apply Kd.R_drewN | apply Kd.R_drew)); exact HO106.out) hb); have n1_ := Aside0.mk (below_step (by repeat (first | (with_reducible first | exact HB.out | apply below_alloc | apply pw_below_drewN | apply below_drew1) | exact HB.out)) hb); clear HO106; clear HB; have HO106 := n0_; have HB := n1_; clear n0_ n1_; (try clear hb); (try clear hb2); (try clear hk); (try clear hi)))
              go_ret3
              exact ⟨by first | rfl | (simp [errW_none, errW_some] <;> rfl) | (simp [*, errW_none, errW_some] <;> rfl), by repeat (first | (with_reducible first | exact HB.out | apply below_alloc | apply pw_below_drewN | apply below_drew1) | exact HB.out)⟩
            · rw [if_neg c16] at H
              have c16b0 : (t103 == 0) = false := beq_eq_false_iff_ne.mpr c16
              have c16b1 : (t103 != 0) = true := bne_iff_ne.mpr c16
              simp only [Option.some.injEq, Prod.mk.injEq] at H
              obtain ⟨rfl, rfl, rfl⟩ := H
              go_wp2_with (first | ((with_reducible refine gate_callee (f := 32) rfl ?_); refine goesL_ (some 42) rfl rfl Tryd.func32 (by kernel_rfl) rfl #[.string a0] rfl (by (try simp only [List.map_toArray, List.map_cons, List.map_nil]); first | done | rfl | (simp only [List.length_drop, List.length_take]; rfl)) ?_; (with_reducible refine (quote_escape.calls a0 t101 t102 t103 _ (hG.below (by first | ((repeat (first | (with_reducible first | exact HB.out | apply below_alloc | apply pw_below_drewN | apply below_drew1 | (refine Glob.below_set ?_ (by assumption) _ _ _)) | exact HB.out)); done) | (refine Drawn0.below ?_; repeat (first | exact Drawn0.refl _ | assumption | apply Drawn0.step)))) A15.out).mono ?_); rintro e w23 ⟨rfl, hb⟩; refine ⟨_, rfl, ?_⟩; have n0_ := Aside0.mk (below_step (by repeat (first | (with_reducible first | exact HB.out | apply below_alloc | apply pw_below_drewN | apply below_drew1) | exact HB.out)) hb); clear HB; have HB := n0_; clear n0_; (try clear hb); (try clear hb2); (try clear hk); (try clear hi)))
              go_ret3
              exact ⟨by first | rfl | (simp [errW_none, errW_some] <;> rfl) | (simp [*, errW_none, errW_some] <;> rfl), by repeat (first | (with_reducible first | exact HB.out | apply below_alloc | apply pw_below_drewN | apply below_drew1) | exact HB.out)⟩
          · replace c14 := Bool.eq_false_iff.mpr c14
            subst c14
            have H1 : ((utf_First.f a0).bind fun bt109 => ((quote_may.f bt109.1).bind fun t111 => (if t111 = true then (if 0 ≤ bt109.2 then (if bt109.2 ≤ (a0.size : Int) then (some (a0.extract 0 (bt109.2 : Int).toNat, bt109.2, 0)) else (none)) else (none)) else (some ((⟨#[]⟩ : ByteArray), 0, 8))))) = some (r1, r2, r3) := by rw [if_neg (show ¬ (false = true) by decide)] at H; exact H
            clear H
            have H := H1
            clear H1
            replace H := Option.bind_eq_some_iff.mp H
            obtain ⟨⟨t109, t110⟩, A240, H⟩ := H
            replace H : ((quote_may.f t109).bind fun t111 => (if t111 = true then (if 0 ≤ t110 then (if t110 ≤ (a0.size : Int) then (some (a0.extract 0 (t110 : Int).toNat, t110, 0)) else (none)) else (none)) else (some ((⟨#[]⟩ : ByteArray), 0, 8)))) = some (r1, r2, r3) := H
            have A24 := Aside0.mk A240
            clear A240
            replace H := Option.bind_eq_some_iff.mp H
            obtain ⟨t111, A250, H⟩ := H
            replace H : (if t111 = true then (if 0 ≤ t110 then (if t110 ≤ (a0.size : Int) then (some (a0.extract 0 (t110 : Int).toNat, t110, 0)) else (none)) else (none)) else (some ((⟨#[]⟩ : ByteArray), 0, 8))) = some (r1, r2, r3) := H
            have A25 := Aside0.mk A250
            clear A250
            by_cases c26 : t111 = true
            · subst c26
              have H1 : (if 0 ≤ t110 then (if t110 ≤ (a0.size : Int) then (some (a0.extract 0 (t110 : Int).toNat, t110, 0)) else (none)) else (none)) = some (r1, r2, r3) := by rw [if_pos rfl] at H; exact H
              clear H
              have H := H1
              clear H1
              by_cases c27 : 0 ≤ t110
              · rw [if_pos c27] at H
                have c27b0 := eq_true c27
                have c27b1 : decide (0 ≤ t110) = true := decide_eq_true c27
                clear c27
                by_cases c28 : t110 ≤ (a0.size : Int)
                · rw [if_pos c28] at H
                  have c28b0 := eq_true c28
                  have c28b1 : decide (t110 ≤ (a0.size : Int)) = true := decide_eq_true c28
                  clear c28
                  simp only [Option.some.injEq, Prod.mk.injEq] at H
                  obtain ⟨rfl, rfl, rfl⟩ := H
                  go_wp2_with (first | ((with_reducible refine gate_callee (f := 16) rfl ?_); refine goesL_ (some 59) rfl rfl Tryd.func16 (by kernel_rfl) rfl #[.string a0] rfl (by (try simp only [List.map_toArray, List.map_cons, List.map_nil]); first | done | rfl | (simp only [List.length_drop, List.length_take]; rfl)) ?_; (with_reducible refine (utf_First.calls a0 t109 t110 _ (hG.below (by first | ((repeat (first | (with_reducible first | exact HB.out | apply below_alloc | apply pw_below_drewN | apply below_drew1 | (refine Glob.below_set ?_ (by assumption) _ _ _)) | exact HB.out)); done) | (refine Drawn0.below ?_; repeat (first | exact Drawn0.refl _ | assumption | apply Drawn0.step)))) A24.out).mono ?_); rintro e w29 ⟨rfl, hb⟩; refine ⟨_, rfl, ?_⟩; have n0_ := Aside0.mk (below_step (by repeat (first | (with_reducible first | exact HB.out | apply below_alloc | apply pw_below_drewN | apply below_drew1) | exact HB.out)) hb); clear HB; have HB := n0_; clear n0_; (try clear hb); (try clear hb2); (try clear hk); (try clear hi)) | ((with_reducible refine gate_callee (f := 30) rfl ?_); refine goesL_ (some 63) rfl rfl Tryd.func30 (by kernel_rfl) rfl #[.int .i64 t109] rfl (by (try simp only [List.map_toArray, List.map_cons, List.map_nil]); first | done | rfl | (simp only [List.length_drop, List.length_take]; rfl)) ?_; (with_reducible refine (quote_may.calls t109 true _ (hG.below (by first | ((repeat (first | (with_reducible first | exact HB.out | apply below_alloc | apply pw_below_drewN | apply below_drew1 | (refine Glob.below_set ?_ (by assumption) _ _ _)) | exact HB.out)); done) | (refine Drawn0.below ?_; repeat (first | exact Drawn0.refl _ | assumption | apply Drawn0.step)))) A25.out).mono ?_); rintro e w' ⟨rfl, ⟨nd, rfl⟩⟩; refine ⟨_, rfl, ?_⟩))
                  go_ret3
                  exact ⟨by first | rfl | (simp [errW_none, errW_some] <;> rfl) | (simp [*, errW_none, errW_some] <;> rfl), by repeat (first | (with_reducible first | exact HB.out | apply below_alloc | apply pw_below_drewN | apply below_drew1) | exact HB.out)⟩
                · rw [if_neg c28] at H
                  exact absurd H (by simp)
              · rw [if_neg c27] at H
                exact absurd H (by simp)
            · replace c26 := Bool.eq_false_iff.mpr c26
              subst c26
              have H1 : (some ((⟨#[]⟩ : ByteArray), 0, 8)) = some (r1, r2, r3) := by rw [if_neg (show ¬ (false = true) by decide)] at H; exact H
              clear H
              have H := H1
              clear H1
              simp only [Option.some.injEq, Prod.mk.injEq] at H
              obtain ⟨rfl, rfl, rfl⟩ := H
              go_wp2_with (first | ((with_reducible refine gate_callee (f := 16) rfl ?_); refine goesL_ (some 59) rfl rfl Tryd.func16 (by kernel_rfl) rfl #[.string a0] rfl (by (try simp only [List.map_toArray, List.map_cons, List.map_nil]); first | done | rfl | (simp only [List.length_drop, List.length_take]; rfl)) ?_; (with_reducible refine (utf_First.calls a0 t109 t110 _ (hG.below (by first | ((repeat (first | (with_reducible first | exact HB.out | apply below_alloc | apply pw_below_drewN | apply below_drew1 | (refine Glob.below_set ?_ (by assumption) _ _ _)) | exact HB.out)); done) | (refine Drawn0.below ?_; repeat (first | exact Drawn0.refl _ | assumption | apply Drawn0.step)))) A24.out).mono ?_); rintro e w30 ⟨rfl, hb⟩; refine ⟨_, rfl, ?_⟩; have n0_ := Aside0.mk (below_step (by repeat (first | (with_reducible first | exact HB.out | apply below_alloc | apply pw_below_drewN | apply below_drew1) | exact HB.out)) hb); clear HB; have HB := n0_; clear n0_; (try clear hb); (try clear hb2); (try clear hk); (try clear hi)) | ((with_reducible refine gate_callee (f := 30) rfl ?_); refine goesL_ (some 63) rfl rfl Tryd.func30 (by kernel_rfl) rfl #[.int .i64 t109] rfl (by (try simp only [List.map_toArray, List.map_cons, List.map_nil]); first | done | rfl | (simp only [List.length_drop, List.length_take]; rfl)) ?_; (with_reducible refine (quote_may.calls t109 false _ (hG.below (by first | ((repeat (first | (with_reducible first | exact HB.out | apply below_alloc | apply pw_below_drewN | apply below_drew1 | (refine Glob.below_set ?_ (by assumption) _ _ _)) | exact HB.out)); done) | (refine Drawn0.below ?_; repeat (first | exact Drawn0.refl _ | assumption | apply Drawn0.step)))) A25.out).mono ?_); rintro e w' ⟨rfl, ⟨nd, rfl⟩⟩; refine ⟨_, rfl, ?_⟩))
              go_ret3
              exact ⟨by first | rfl | (simp [errW_none, errW_some] <;> rfl) | (simp [*, errW_none, errW_some] <;> rfl), by repeat (first | (with_reducible first | exact HB.out | apply below_alloc | apply pw_below_drewN | apply below_drew1) | exact HB.out)⟩
  · rw [if_neg c3] at H
    exact absurd H (by simp)

end Go.Proofs.YtidbneljichnhaaDoor.PX

/- What the program reads at once in quotes, and its escapes, are those by definition; conditions: the text lies in memory. -/
namespace Go.Proofs.YtidbneljichnhaaDoor.Utf
open Go.RowKit Go.Proofs.YtidbneljichnhaaDoor.PX Go.Proofs.YtidbneljichnhaaDoor.Plug Go.Proofs.YtidbneljichnhaaDoorW.PrintWords Go.Proofs.YtidbneljichnhaaDoorW.PrintLast

theorem prog_may (n : Int) : quote_may.f n = some (may n) := by
  unfold quote_may.f
  rw [prog_printable, Option.bind_some]
  unfold may
  cases prt n
  · rfl
  · rw [if_pos rfl]
    by_cases a : n = 9
    · subst a; rfl
    rw [if_neg a]
    by_cases b : n = 10
    · subst b; rfl
    rw [if_neg b, bne_iff_ne.2 a, bne_iff_ne.2 b]; rfl

theorem prog_escape (s : ByteArray) (hs : s.size ≤ 140737488351232) : quote_escape.f s = some ((escB s.data.toList).1, ((escB s.data.toList).2.1 : Int), (escB s.data.toList).2.2) := by
  unfold quote_escape.f; rw [if_pos hs]

theorem prog_one (K : Nat) (s : ByteArray) (q : Nat) (hs : s.size ≤ 140737488351232) (h0 : 0 < s.size) :
    quote_one.f (K + 4) s (q : Int) = some (⟨(oneB s.data.toList q).1.toArray⟩, ((oneB s.data.toList q).2.1 : Int), (oneB s.data.toList q).2.2) := by
  have hL := size_list s
  have hb0 := bt_at_ s 0
  have hb1 := bt_at_ s 1
  rw [show ((0 : Nat) : Int) = 0 from rfl] at hb0
  rw [show ((1 : Nat) : Int) = 1 from rfl] at hb1
  have hne : s.data.toList ≠ [] := fun e => by rw [e, List.length_nil] at hL; omega
  have hj : ∀ b, quote_one.j0 (K + 4) s b = if b = true then ((quote_escape.f s).bind fun bt101 => (if bt101.2.2 = 0 then ((utf_Encode.f (([bt101.1] : List Int))).bind fun bt107 => (some (bt107.1, bt101.2.1, 0))) else (some ((⟨#[]⟩ : ByteArray), 0, bt101.2.2)))) else ((utf_First.f s).bind fun bt109 => ((quote_may.f bt109.1).bind fun t111 => (if t111 = true then (if 0 ≤ bt109.2 then (if bt109.2 ≤ (s.size : Int) then (some (s.extract 0 (bt109.2 : Int).toNat, bt109.2, 0)) else (none)) else (none)) else (some ((⟨#[]⟩ : ByteArray), 0, 8))))) := fun b => by
    rw [show K + 4 = K + 3 + 1 from rfl, quote_one.j0]
  unfold quote_one.f oneB
  rw [if_pos (by omega), hb0, hb1]
  by_cases a : at_ s.data.toList 0 = q
  · rw [if_pos a, if_pos (by omega)]
    by_cases b : q = 39
    · rw [if_pos (by omega)]
      by_cases c : 1 < s.size
      · rw [if_pos (by omega), if_pos (by omega)]
        by_cases d : at_ s.data.toList 1 = 39
        · rw [if_pos (by omega), if_pos ⟨b, by omega, d⟩]; rfl
        · rw [if_neg (by omega), if_neg (fun e => d e.2.2)]; rfl
      · rw [if_neg (by omega), if_neg (show ¬ (q = 39 ∧ 1 < s.data.toList.length ∧ at_ s.data.toList 1 = 39) from fun e => c (by rw [hL]; exact e.2.1))]; rfl
    · rw [if_neg (by omega), if_neg (fun e => b e.1)]; rfl
  · rw [if_neg a, if_neg (by omega)]
    have last : quote_one.j0 (K + 4) s false = some (⟨(if may (dec s.data.toList).1 = true then (s.data.toList.take (dec s.data.toList).2, (dec s.data.toList).2, (0 : Int)) else ([], 0, 8)).1.toArray⟩, ((if may (dec s.data.toList).1 = true then (s.data.toList.take (dec s.data.toList).2, (dec s.data.toList).2, (0 : Int)) else ([], 0, 8)).2.1 : Int), (if may (dec s.data.toList).1 = true then (s.data.toList.take (dec s.data.toList).2, (dec s.data.toList).2, (0 : Int)) else ([], 0, 8)).2.2) := by
      have hw := dec_len s.data.toList hne
      rw [hj, if_neg (by decide), prog_first, Option.bind_some]
      dsimp only
      rw [prog_may, Option.bind_some]
      cases hm : may (dec s.data.toList).1
      · rw [if_neg (by decide), if_neg (by decide)]; rfl
      · rw [if_pos rfl, if_pos rfl, if_pos (by omega), if_pos (by omega)]
        have : s.extract 0 (((dec s.data.toList).2 : Int)).toNat = ⟨(s.data.toList.take (dec s.data.toList).2).toArray⟩ := by
          have h5 := extract_list s 0 (dec s.data.toList).2
          rw [List.drop_zero, Nat.sub_zero] at h5
          rw [Int.toNat_natCast, ← h5]
        rw [this]
    by_cases b : q = 34
    · rw [if_pos (by omega)]
      by_cases c : at_ s.data.toList 0 = 92
      · rw [if_pos ⟨b, c⟩, c, hj, show ((((92 : Nat) : Int)) == 92) = true from rfl, if_pos rfl, prog_escape s hs, Option.bind_some]
        dsimp only
        by_cases d : (escB s.data.toList).2.2 = 0
        · have hsg := (escB_ok _ d).1
          rw [if_pos d, if_neg (by simpa using d), enc_one, if_pos hsg]; rfl
        · rw [if_neg d, if_pos d]; rfl
      · rw [if_neg (fun e => c e.2), show (((at_ s.data.toList 0 : Nat) : Int) == 92) = false by rw [beq_eq_false_iff_ne]; omega]
        exact last
    · rw [if_neg (by omega), if_neg (fun e => b e.1)]
      exact last
end Go.Proofs.YtidbneljichnhaaDoor.Utf

/- Quoted texts read (quote.Read), by hand, in the form in which the printed functions are told. Conditions: the text has at most 2^40 bytes. -/
namespace Go.Proofs.YtidbneljichnhaaDoor.Plug
open Go.RowKit Go.Proofs.YtidbneljichnhaaDoor Go.Proofs.YtidbneljichnhaaDoor.PX Go.Proofs.YtidbneljichnhaaDoor.Utf Go.Proofs.YtidbneljichnhaaDoorW.PrintWords Go.Proofs.YtidbneljichnhaaDoorW.PrintLast

theorem rowF_move {w w1 : World} {B : Nat} {e : TypeId} {v : Value} {n : Nat} {xs : List Value} (h : w.ownsRowF B e 1 v n xs) (hm : ∀ k, v.ownBlock = some k → w1.heap[k]? = w.heap[k]?) : w1.ownsRowF B e 1 v n xs := by
  obtain ⟨h1, h2⟩ := h
  refine ⟨h1, ?_⟩
  rcases h2 with h2 | ⟨g, cap, cur, fz, rfl, hg, hh, r⟩
  · exact .inl h2
  · exact .inr ⟨g, cap, cur, fz, rfl, hg, (hm g (by simp [Value.ownBlock])).trans hh, r⟩
theorem bld_below {T e : TypeId} {B b : Nat} {bs : List Value} {w w1 : World} (h : Lib.IsBuilderF T e B b bs w) (hb : Below w.heap.size w w1) : Lib.IsBuilderF T e B b bs w1 := by
  have key : ∀ p, Lib.BuilderAtF T e B b p bs w → Lib.BuilderAtF T e B b p bs w1 := by
    rintro p ⟨h1, v, h2, h3, h4⟩
    refine ⟨h1, v, (hb.block b (Bld.at_lt h2)).trans h2, rowF_move h3 (fun k hk => hb.block k ?_), h4⟩
    rcases h3.2 with ⟨rfl, _⟩ | ⟨g, cap, cur, fz, rfl, hg, hh, _⟩
    · simp [Value.ownBlock] at hk
    · have : g = k := by simpa [Value.ownBlock] using hk
      subst this; exact Bld.at_lt hh
  exact h.elim (fun x => .inl (key _ x)) (fun x => .inr (key _ x))

theorem one_len (l : List UInt8) (q : Nat) : (oneB l q).1.length ≤ 4 := by
  unfold oneB
  split
  · split <;> simp
  split
  · split
    · simp
    · exact (enc_len _).2
  split
  · by_cases h : l = []
    · subst h; simp
    · have := dec_wide l h; simp; omega
  · simp

theorem two_put {w2 : World} {B t : Nat} {x y : Value} (h : w2.heap[B]? = some (.cells #[x, y] t (0, 0))) (a b : Value) :
    ((w2.setCell ⟨B, 0, none⟩ a).setCell ⟨B, 1, none⟩ b).cell? ⟨B, 0, none⟩ = some a ∧ ((w2.setCell ⟨B, 0, none⟩ a).setCell ⟨B, 1, none⟩ b).cell? ⟨B, 1, none⟩ = some b := by
  have h1 := blk_set h 0 a
  have h3 := blk_set h1 1 b
  exact ⟨by rw [blk_cell h3]; rfl, by rw [blk_cell h3]; rfl⟩

def quote_Read.f (a0 : ByteArray) : Option (ByteArray × Int × Int × Int) :=
  if a0.size ≤ 1099511627775 then some (⟨(readB a0.data.toList).1.toArray⟩, ((readB a0.data.toList).2.1 : Int), (readB a0.data.toList).2.2.1, ((readB a0.data.toList).2.2.2 : Int)) else none

set_option maxHeartbeats 1600000 in
set_option maxRecDepth 100000 in
theorem read_go (s : ByteArray) (q : Nat) (hq : q = 39 ∨ q = 34) (w : World) (hG : Glob.G w) (hs : s.size ≤ 1099511627775) (h0 : 0 < s.size) (hx : ∀ h : 0 < s.size, ((s[0]'h).toNat : Int) = (q : Int)) :
    Calls Tryd.prog 8 #[.string s] w fun e w' => e = .returned (.tuple #[.string ⟨(readF s.data.toList.length (s.data.toList.drop 1) q 1 []).1.toArray⟩, .int .i64 ((readF s.data.toList.length (s.data.toList.drop 1) q 1 []).2.1 : Int), .agg #[.int .i64 (readF s.data.toList.length (s.data.toList.drop 1) q 1 []).2.2.1, .int .i64 ((readF s.data.toList.length (s.data.toList.drop 1) q 1 []).2.2.2 : Int)]]) ∧ Below w.heap.size w w' := by
  have hL := Lib.hid (size_list s)
  have he : s.toList.isEmpty = false := by
    rw [Lib.toList_data]
    have := size_list s
    cases h : s.data.toList with
    | nil => rw [h, List.length_nil] at this; omega
    | cons a b => rfl
  obtain ⟨RR, hRR⟩ : ∃ RR, RR = readF s.data.toList.length (s.data.toList.drop 1) q 1 [] := ⟨_, rfl⟩
  rw [← hRR]
  obtain ⟨Q, hQ⟩ : ∃ Q, Q = q := ⟨_, rfl⟩
  rw [← hQ] at hRR
  have HR := Lib.hid hRR
  clear hRR
  rcases hq with rfl | rfl
  all_goals
    go_enter Tryd.func8, Tryd.ntmps8
    go_wp2
    go_loopw [6] (fun a wr => ∃ (i k : Nat) (acc : List UInt8), 1 ≤ i ∧ i ≤ s.size ∧ s.size ≤ i + k ∧ acc.length ≤ 4 * i ∧ Hid (readF k (s.data.toList.drop i) Q i acc = RR) ∧ a = .int .i64 i ∧ Lib.IsBuilderF 42 5 (w.heap.size + 1) (w.heap.size + 1) (Lib.byteCells acc) wr ∧ Below (w.heap.size + 1) (w.alloc (.cells #[.int .i64 0, .int .i64 0] 24)) wr) (fun a _ => s.size - (intOf a).toNat)
    case atStart =>
      have hfr := Lib.fresh_isBuilder 42 5 (w.alloc (.cells #[.int .i64 0, .int .i64 0] 24))
      have hsz : (w.alloc (.cells #[.int .i64 0, .int .i64 0] 24)).heap.size = w.heap.size + 1 := by simp
      rw [hsz] at hfr
      exact ⟨1, s.size, [], Nat.le_refl _, by omega, by omega, by simp, by rw [hL.out]; exact Lib.hid HR.out.symm, rfl, Lib.IsBuilderF.of hfr, (Below.refl _ _).alloc (by simp) _⟩
    case round =>
      obtain ⟨i, k, acc, hi0, hi, hk, hal, hst, rfl, hI, hb⟩ := hrel
      have hbw := ((Below.refl w.heap.size w).alloc (Nat.le_refl _) (.cells #[.int .i64 0, .int .i64 0] 24)).trans (hb.mono (by omega))
      have hGr := hG.below hbw
      have hf0 : wr.heap[w.heap.size]? = some (.cells #[.int .i64 0, .int .i64 0] 24 (0, 0)) := (hb.block w.heap.size (by omega)).trans (heap_alloc_new w _)
      by_cases hlt : i < s.size
      · have hc : decide ((i : Int) < (s.size : Int)) = true := by simp; omega
        have hne : s.data.toList.drop i ≠ [] := fun e => by
          have h2 := congrArg List.length e; rw [List.length_drop, ← hL.out, List.length_nil] at h2; omega
        have hlen : (s.data.toList.drop i).length = s.size - i := by rw [List.length_drop, ← hL.out]
        have hone := prog_one 0 (s.extract i s.size) Q (by rw [size_list, drop_list, hlen]; omega) (by rw [size_list, drop_list, hlen]; omega)
        rw [drop_list, hQ] at hone
        have hstep := hst.out
        obtain ⟨k, rfl⟩ : ∃ m, k = m + 1 := ⟨k - 1, by omega⟩
        rw [readF, if_neg hne, hlen, hQ] at hstep
        have h4 := one_len (s.data.toList.drop i) Q
        have hok := oneB_ok (s.data.toList.drop i) Q hne
        rw [hlen, hQ] at hok
        rw [hQ] at h4
        have hH : Hid (Lib.IsBuilderF 42 5 (w.heap.size + 1) (w.heap.size + 1) (Lib.byteCells acc) wr.drew) := by
          rcases hI with h | h
          · exact .inl h.drew
          · exact .inr h.drew
        generalize oneB (s.data.toList.drop i) _ = o at *
        obtain ⟨t, n, e⟩ := o
        simp only at hone hstep h4 hok
        have HO := Lib.hid hone
        clear hone hst hlen hne hI
        have fin : ∀ (w2 : World), Below wr.drew.heap.size wr.drew w2 → w2.heap[w.heap.size]? = some (.cells #[.int .i64 0, .int .i64 0] 24 (0, 0)) ∧ Below w.heap.size w w2 ∧ Below (w.heap.size + 1) (w.alloc (.cells #[.int .i64 0, .int .i64 0] 24)) w2 ∧ Lib.IsBuilderF 42 5 (w.heap.size + 1) (w.heap.size + 1) (Lib.byteCells acc) w2 := by
          intro w2 h2
          have hz := Bld.at_lt hf0
          have hzb := hb.size
          simp at hzb
          exact ⟨(h2.block w.heap.size hz).trans hf0, hbw.drew.trans (h2.mono hbw.size), hb.drew.trans (h2.mono (by simp at hzb ⊢; omega)), bld_below hH.out h2⟩
        have HF := Lib.hid fin
        have HG : Hid (Glob.G wr.drew) := Lib.hid (hGr.below (Below.drew (Below.refl _ _)))
        clear fin hH hf0
        by_cases c4 : e = 4
        · subst c4
          rw [if_pos rfl] at hstep
          have HS : Hid (([], 0, 4, s.size) = RR) := Lib.hid (by rw [show i + (s.size - i) = s.size by omega] at hstep; exact hstep)
          clear hstep hok
          go_wp2
          go_region_with (go_at_call 17; refine (quote_one.calls _ _ _ _ _ _ _ HG.out HO.out).mono ?_; rintro e w2 ⟨rfl, hb2⟩)
          all_goals
            obtain ⟨hf2, hbel, hbelB, hI2⟩ := HF.out _ hb2
            have hc0 : w2.cell? ⟨w.heap.size, 0, none⟩ = some (.int .i64 0) := by rw [blk_cell hf2]; rfl
            have hc1 : w2.cell? ⟨w.heap.size, 1, none⟩ = some (.int .i64 0) := by rw [blk_cell hf2]; rfl
            have hz0 := blk_frozen hf2 0
            have hz1 := blk_frozen hf2 1
            go_wp2
            have hset := two_put hf2 (.int .i64 4) (.int .i64 s.size)
            refine bodyPost_ret (v := .tuple #[.string ⟨#[]⟩, .int .i64 0, .agg #[.int .i64 4, .int .i64 s.size]]) (by simp [results, Tryd.results8, go_sem, hset.1, hset.2]) rfl ⟨by rw [← HS.out]; rfl, ?_⟩
            exact (hbel.setCell (p := ⟨w.heap.size, 0, none⟩) (Nat.le_refl _) _).setCell (p := ⟨w.heap.size, 1, none⟩) (Nat.le_refl _) _
        · have d4 : (e == 4) = false := beq_eq_false_iff_ne.2 c4
          rw [if_neg c4] at hstep
          by_cases c0 : e = 0
          · subst c0
            rw [if_neg (show ¬ ((0 : Int) ≠ 0) by decide)] at hstep
            by_cases cn : n = 0
            · subst cn
              rw [if_pos rfl] at hstep
              have HS : Hid ((acc, i + 1, 0, 0) = RR) := Lib.hid hstep
              clear hstep hok
              go_wp2
              go_region_with (go_at_call 17; refine (quote_one.calls _ _ _ _ _ _ _ HG.out HO.out).mono ?_; rintro e w2 ⟨rfl, hb2⟩)
              all_goals
                obtain ⟨hf2, hbel, hbelB, hI2⟩ := HF.out _ hb2
                have hc0 : w2.cell? ⟨w.heap.size, 0, none⟩ = some (.int .i64 0) := by rw [blk_cell hf2]; rfl
                have hc1 : w2.cell? ⟨w.heap.size, 1, none⟩ = some (.int .i64 0) := by rw [blk_cell hf2]; rfl
                have hz0 := blk_frozen hf2 0
                have hz1 := blk_frozen hf2 1
                go_wp2_with (go_at_call 18; refine (Bld.got _ _ _ acc _ hI2 (by have := hbelB.size; simp at this; omega)).mono ?_; rintro e w3 ⟨rfl, hb3⟩; have hf3 := (hb3.block w.heap.size (by omega)).trans hf2; have hd0 : w3.cell? ⟨w.heap.size, 0, none⟩ = some (.int .i64 0) := by { rw [blk_cell hf3]; rfl }; have hd1 : w3.cell? ⟨w.heap.size, 1, none⟩ = some (.int .i64 0) := by { rw [blk_cell hf3]; rfl }; have hy0 := blk_frozen hf3 0; have hy1 := blk_frozen hf3 1)
                have hset := two_put hf3 (.int .i64 0) (.int .i64 0)
                refine bodyPost_ret (v := .tuple #[.string ⟨acc.toArray⟩, .int .i64 ((i : Int) + 1), .agg #[.int .i64 0, .int .i64 0]]) (by simp [results, Tryd.results8, go_sem, hset.1, hset.2]) rfl ⟨by rw [← HS.out]; rfl, ?_⟩
                exact ((hbel.trans (hb3.mono (by omega))).setCell (p := ⟨w.heap.size, 0, none⟩) (Nat.le_refl _) _).setCell (p := ⟨w.heap.size, 1, none⟩) (Nat.le_refl _) _
            · rw [if_neg cn] at hstep
              have hle := (hok rfl cn).1
              have HS := Lib.hid hstep
              have dn : (((n : Nat) : Int) == 0) = false := by rw [beq_eq_false_iff_ne]; omega
              clear hstep hok
              go_wp2
              go_region_with (go_at_call 17; refine (quote_one.calls _ _ _ _ _ _ _ HG.out HO.out).mono ?_; rintro e w2 ⟨rfl, hb2⟩)
              all_goals
                obtain ⟨hf2, hbel, hbelB, hI2⟩ := HF.out _ hb2
                have hc0 : w2.cell? ⟨w.heap.size, 0, none⟩ = some (.int .i64 0) := by rw [blk_cell hf2]; rfl
                have hc1 : w2.cell? ⟨w.heap.size, 1, none⟩ = some (.int .i64 0) := by rw [blk_cell hf2]; rfl
                have hz0 := blk_frozen hf2 0
                have hz1 := blk_frozen hf2 1
                go_wp2_with (go_at_call 19; refine (Bld.text 42 Bld.lies_plain _ _ _ ⟨t.toArray⟩ _ hI2 (by rw [Lib.byteCells_length]; show acc.length + t.length ≤ _; omega) (by have := hbelB.size; simp at this; omega)).mono ?_; rintro e w3 ⟨rfl, h3, b3, k3⟩)
                go_roundw
                case rel => exact ⟨i + n, k, acc ++ t, by omega, by omega, by omega, by rw [List.length_append]; omega, Lib.hid (by rw [List.drop_drop, hQ] at *; exact HS.out), by go_num, by rw [Lib.byteCells_append]; exact Or.inr h3, hbelB.trans b3⟩
                case measure => simp [intOf]; omega
          · rw [if_pos c0] at hstep
            have d0 : (e == 0) = false := beq_eq_false_iff_ne.2 c0
            have d0' : (e != 0) = true := bne_iff_ne.2 c0
            have HS : Hid (([], 0, e, i) = RR) := Lib.hid hstep
            clear hstep hok
            go_wp2
            go_region_with (go_at_call 17; refine (quote_one.calls _ _ _ _ _ _ _ HG.out HO.out).mono ?_; rintro e w2 ⟨rfl, hb2⟩)
            all_goals
              obtain ⟨hf2, hbel, hbelB, hI2⟩ := HF.out _ hb2
              have hc0 : w2.cell? ⟨w.heap.size, 0, none⟩ = some (.int .i64 0) := by rw [blk_cell hf2]; rfl
              have hc1 : w2.cell? ⟨w.heap.size, 1, none⟩ = some (.int .i64 0) := by rw [blk_cell hf2]; rfl
              have hz0 := blk_frozen hf2 0
              have hz1 := blk_frozen hf2 1
              go_wp2
              have hset := two_put hf2 (.int .i64 e) (.int .i64 i)
              refine bodyPost_ret (v := .tuple #[.string ⟨#[]⟩, .int .i64 0, .agg #[.int .i64 e, .int .i64 i]]) (by simp [results, Tryd.results8, go_sem, hset.1, hset.2]) rfl ⟨by rw [← HS.out]; rfl, ?_⟩
              exact (hbel.setCell (p := ⟨w.heap.size, 0, none⟩) (Nat.le_refl _) _).setCell (p := ⟨w.heap.size, 1, none⟩) (Nat.le_refl _) _
      · have hc : decide ((i : Int) < (s.size : Int)) = false := by simp; omega
        have hc0 : wr.cell? ⟨w.heap.size, 0, none⟩ = some (.int .i64 0) := by rw [blk_cell hf0]; rfl
        have hc1 : wr.cell? ⟨w.heap.size, 1, none⟩ = some (.int .i64 0) := by rw [blk_cell hf0]; rfl
        have hz0 := blk_frozen hf0 0
        have hz1 := blk_frozen hf0 1
        have hst2 := hst.out
        rw [List.drop_of_length_le (by rw [← hL.out]; omega), readF_nil, show i = s.size by omega] at hst2
        have HS := Lib.hid hst2
        clear hst hst2
        go_wp2
        have hset := two_put hf0 (.int .i64 4) (.int .i64 s.size)
        refine bodyPost_ret (v := .tuple #[.string ⟨#[]⟩, .int .i64 0, .agg #[.int .i64 4, .int .i64 s.size]]) (by simp [results, Tryd.results8, go_sem, hset.1, hset.2]) rfl ⟨by rw [← HS.out]; rfl, ?_⟩
        exact (hbw.setCell (p := ⟨w.heap.size, 0, none⟩) (Nat.le_refl _) _).setCell (p := ⟨w.heap.size, 1, none⟩) (Nat.le_refl _) _

set_option maxHeartbeats 1600000 in
set_option maxRecDepth 100000 in
theorem quote_Read.calls (a0 : ByteArray) (r1 : ByteArray) (r2 r3 r4 : Int) (w : World) (hG : Glob.G w) (h : quote_Read.f a0 = some (r1, r2, r3, r4)) :
    Calls Tryd.prog 8 #[.string a0] w fun e w' => e = .returned (.tuple #[.string r1, .int .i64 r2, .agg #[.int .i64 r3, .int .i64 r4]]) ∧ Below w.heap.size w w' := by
  unfold quote_Read.f at h
  by_cases hs : a0.size ≤ 1099511627775
  · rw [if_pos hs] at h
    simp only [Option.some.injEq, Prod.mk.injEq] at h
    obtain ⟨rfl, rfl, rfl, rfl⟩ := h
    have hL := size_list a0
    have hx : ∀ h : 0 < a0.size, ((a0[0]'h).toNat : Int) = (at_ a0.data.toList 0 : Int) := fun h => by rw [← bt_at_]; exact bt_at a0 0 h
    by_cases hc : a0.data.toList = [] ∨ (at_ a0.data.toList 0 ≠ 39 ∧ at_ a0.data.toList 0 ≠ 34)
    · rw [show readB a0.data.toList = ([], 0, 3, 0) by unfold readB; rw [if_pos hc]]
      by_cases h0 : a0.data.toList = []
      · have he : a0.toList.isEmpty = true := by rw [Lib.toList_data, h0]; rfl
        clear hc hx hL hs hG h0
        go_enter Tryd.func8, Tryd.ntmps8
        go_wp2
        refine bodyPost_ret (v := .tuple #[.string ⟨#[]⟩, .int .i64 0, .agg #[.int .i64 3, .int .i64 0]]) (by simp [results, Tryd.results8, go_sem]) rfl ⟨rfl, ?_⟩
        exact (Below.refl _ w).alloc (Nat.le_refl _) _
      · have h1 : 0 < a0.size := by rw [hL]; exact List.length_pos_iff.2 h0
        have he : a0.toList.isEmpty = false := by
          rw [Lib.toList_data]; simpa using h0
        have hq := hc.resolve_left h0
        generalize at_ a0.data.toList 0 = x at *
        have d1 : ((x : Int) == 39) = false := by rw [beq_eq_false_iff_ne]; omega
        have d2 : ((x : Int) == 34) = false := by rw [beq_eq_false_iff_ne]; omega
        have d3 : ((x : Int) != 39) = true := by rw [bne_iff_ne]; omega
        have d4 : ((x : Int) != 34) = true := by rw [bne_iff_ne]; omega
        clear hc hL hs hG h0 hq
        go_enter Tryd.func8, Tryd.ntmps8
        go_wp2
        refine bodyPost_ret (v := .tuple #[.string ⟨#[]⟩, .int .i64 0, .agg #[.int .i64 3, .int .i64 0]]) (by simp [results, Tryd.results8, go_sem]) rfl ⟨rfl, ?_⟩
        exact (Below.refl _ w).alloc (Nat.le_refl _) _
    · have h0 : a0.data.toList ≠ [] := fun e => hc (.inl e)
      have h1 : 0 < a0.size := by rw [hL]; exact List.length_pos_iff.2 h0
      have hq : at_ a0.data.toList 0 = 39 ∨ at_ a0.data.toList 0 = 34 := by
        by_cases c : at_ a0.data.toList 0 = 39
        · exact .inl c
        · by_cases d : at_ a0.data.toList 0 = 34
          · exact .inr d
          · exact absurd (.inr ⟨c, d⟩) hc
      rw [show readB a0.data.toList = readF a0.data.toList.length (a0.data.toList.drop 1) (at_ a0.data.toList 0) 1 [] by unfold readB; rw [if_neg hc]]
      exact read_go a0 _ hq w hG hs h1 hx
  · rw [if_neg hs] at h; cases h
end Go.Proofs.YtidbneljichnhaaDoor.Plug

/- A number's hexadecimal digits (strconv.FormatInt, base 16), and a text repeated no more than once, by hand. Conditions: numbers from 0 to 65535. -/
namespace Go.Proofs.YtidbneljichnhaaDoor.Plug
open Go.RowKit Go.Proofs.YtidbneljichnhaaDoor Go.Proofs.YtidbneljichnhaaDoor.Utf Go.Proofs.YtidbneljichnhaaDoorW.PrintWords Go.Proofs.YtidbneljichnhaaDoorW.PrintLast

theorem tz_idx : IntKind.u64.wrap (bits .and .u64 16 (IntKind.u64.wrap (-16)) * 285870213051353865) / 288230376151711744 = 15 := by decide +kernel
theorem tz_name : Tryd.prog.globalNamed "math/bits.deBruijn64tab" = some 7 := by kernel_rfl

set_option maxRecDepth 100000 in
theorem trail (w : World) (hG : Glob.G w) : Calls Tryd.prog 112 #[.int .u64 16] w fun e w' => e = .returned (.int .i64 4) ∧ w' = w := by
  have hc : w.cell? ⟨7, 15, none⟩ = some (.int .u8 4) := hG.tz.cell tz_name 15 (by decide)
  have hi := tz_idx
  go_enter Tryd.func112, Tryd.ntmps112
  go_wp2
  go_ret
  exact ⟨rfl, rfl⟩

/-- A number's hexadecimal digits, no more than are needed. -/
def hexD : Nat → Nat → List UInt8
  | 0, _ => []
  | k + 1, n => if n < 16 then [hexc n] else hexD k (n / 16) ++ [hexc (n % 16)]

theorem and15 (u : Nat) (h : u < 65536) : bits .and .u64 (u : Int) 15 = ((u % 16 : Nat) : Int) := by
  have h1 := u64_and_nat u 15 (by omega) (by decide)
  rw [show ((15 : Nat) : Int) = 15 from rfl, show u &&& 15 = u % 16 from Nat.and_two_pow_sub_one_eq_mod u 4] at h1
  exact h1
def digitsB : ByteArray := ⟨#[48, 49, 50, 51, 52, 53, 54, 55, 56, 57, 97, 98, 99, 100, 101, 102, 103, 104, 105, 106, 107, 108, 109, 110, 111, 112, 113, 114, 115, 116, 117, 118, 119, 120, 121, 122]⟩
theorem dig_fact : ∀ r : Fin 16, digitsB.data[r.val]? = some (hexc r.val) := by decide +kernel
theorem dig_at (r : Nat) (hr : r < 16) (h : r < (⟨#[48, 49, 50, 51, 52, 53, 54, 55, 56, 57, 97, 98, 99, 100, 101, 102, 103, 104, 105, 106, 107, 108, 109, 110, 111, 112, 113, 114, 115, 116, 117, 118, 119, 120, 121, 122]⟩ : ByteArray).size) :
    (((⟨#[48, 49, 50, 51, 52, 53, 54, 55, 56, 57, 97, 98, 99, 100, 101, 102, 103, 104, 105, 106, 107, 108, 109, 110, 111, 112, 113, 114, 115, 116, 117, 118, 119, 120, 121, 122]⟩ : ByteArray)[r]'h).toNat : Int) = ((hexc r).toNat : Int) := by
  have := dig_fact ⟨r, hr⟩
  simp only at this
  have h2 : digitsB.data[r]? = some (digitsB.data[r]'h) := Array.getElem?_eq_getElem h
  rw [h2] at this
  have h3 := Option.some.inj this
  exact congrArg (fun b : UInt8 => (b.toNat : Int)) h3

set_option maxHeartbeats 1600000 in
set_option maxRecDepth 100000 in
theorem fmt_bits (n : Nat) (hn : n < 65536) (w : World) (hG : Glob.G w) :
    Calls Tryd.prog 88 #[.slice none 0 0, .int .u64 (n : Int), .int .i64 16, .bool false, .bool false] w fun e w' => e = .returned (.tuple #[.slice none 0 0, .string ⟨(hexD 4 n).toArray⟩]) ∧ Below w.heap.size w w' := by
  have hz : Tryd.zeroCells132.size = 65 := by kernel_rfl
  go_enter Tryd.func88, Tryd.ntmps88
  go_wp2_with (first | (go_at_call 112; refine (trail _ (hG.below ((Below.refl _ _).alloc (Nat.le_refl _) _))).mono ?_; rintro e w1 ⟨rfl, rfl⟩) | (go_at_call 106; go_enter Tryd.func106, Tryd.ntmps106) | (go_at_call 105; go_enter Tryd.func105, Tryd.ntmps105))
  go_loopw [1, 13] (fun vu vi wr => ∃ (u q : Nat) (arr : Array Value) (ds : List UInt8), vu = .int .u64 u ∧ vi = .int .i64 ((q : Int) + 1) ∧ 60 < q ∧ q + ds.length = 64 ∧ u < 16 ^ (q - 60) ∧ Hid (hexD (q - 60) u ++ ds = hexD 4 n) ∧ wr.heap[w.heap.size]? = some (.cells arr 132 (0, 0)) ∧ arr.size = 65 ∧ Hid (∀ k (hk : k < ds.length), arr[q + 1 + k]? = some (.int .u8 (ds[k].toNat : Int))) ∧ Below w.heap.size w wr) (fun vu _ _ => (intOf vu).toNat)
  case atStart => exact ⟨n, 64, Tryd.zeroCells132, [], rfl, rfl, by decide, rfl, by omega, Lib.hid (by simp), heap_alloc_new w _, hz, Lib.hid (fun k hk => by simp at hk), (Below.refl _ _).alloc (Nat.le_refl _) _⟩
  case round =>
    obtain ⟨u, q, arr, ds, rfl, rfl, hq, hdl, hu, hst, hblk, har, hds, hb⟩ := hrel
    have hu2 : u < 65536 := by
      rcases (by omega : q = 61 ∨ q = 62 ∨ q = 63 ∨ q = 64) with rfl | rfl | rfl | rfl <;> simp at hu <;> omega
    have hand := and15 u hu2
    have hlt := Bld.at_lt hblk
    have hcell : wr.cell? ⟨w.heap.size, q, none⟩ = some (arr[q]'(by omega)) := by rw [blk_cell hblk]; exact Array.getElem?_eq_getElem (by omega)
    have hfz := blk_frozen hblk q
    by_cases hg : 16 ≤ u
    · have hc : decide ((u : Int) ≥ 16) = true := by simp; omega
      have hr : u % 16 < 16 := by omega
      have hdig := dig_at (u % 16) hr
      have hq2 : 61 < q := by
        rcases (by omega : q = 61 ∨ 61 < q) with rfl | h
        · simp at hu; omega
        · exact h
      have hset := blk_set hblk q (.int .u8 ((hexc (u % 16)).toNat : Int))
      have hst2 := hst.out
      rw [show q - 60 = (q - 1 - 60) + 1 by omega, hexD, if_neg (by omega), List.append_assoc, List.singleton_append] at hst2
      have HS := Lib.hid hst2
      have hu3 : u / 16 < 16 ^ (q - 1 - 60) := by
        rw [Nat.div_lt_iff_lt_mul (by decide), ← Nat.pow_succ]
        rw [show (q - 1 - 60).succ = q - 60 by omega]; exact hu
      have HD : Hid (∀ k (hk : k < (hexc (u % 16) :: ds).length), (arr.setIfInBounds q (.int .u8 ((hexc (u % 16)).toNat : Int)))[q - 1 + 1 + k]? = some (.int .u8 ((hexc (u % 16) :: ds)[k].toNat : Int))) := by
        refine Lib.hid fun k hk => ?_
        rw [show q - 1 + 1 + k = q + k by omega]
        cases k with
        | zero => rw [Nat.add_zero, Array.getElem?_setIfInBounds_self_of_lt (by omega)]; rfl
        | succ k => rw [Array.getElem?_setIfInBounds_ne (by omega)]; have := hds.out k (by simpa using hk); rw [show q + (k + 1) = q + 1 + k by omega]; exact this
      clear hst hst2 hds
      go_wp2
      refine ⟨⟨.int .u64 ((u : Int) / 16), .int .i64 (q : Int), _, _, _, _, _, _, _, _, _, _, _, _, _, _, ⟨u / 16, q - 1, _, hexc (u % 16) :: ds, by first | rfl | (congr 1; omega), by congr 1; omega, by omega, by simp; omega, hu3, Lib.hid HS.out, hset, by simp [har], Lib.hid HD.out, hb.setCell (p := ⟨w.heap.size, q, none⟩) (Nat.le_refl _) _⟩, rfl⟩, ?_⟩
      simp [intOf]; omega
    · have hc : decide ((u : Int) ≥ 16) = false := by simp; omega
      have hdig := dig_at u (by omega)
      have hset := blk_set hblk q (.int .u8 ((hexc u).toNat : Int))
      have hst2 := hst.out
      rw [show q - 60 = (q - 1 - 60) + 1 by omega, hexD, if_pos (by omega), List.singleton_append] at hst2
      have hcv := run_convert_bytes_back (P := Tryd.prog) (wr.setCell ⟨w.heap.size, q, none⟩ (.int .u8 ((hexc u).toNat : Int))) 40 9 5 ⟨w.heap.size, q, none⟩ (65 - q) (hexc u :: ds) (by kernel_rfl) (by kernel_rfl) (by kernel_rfl) (fun k hk => by
        rw [show (Addr.add ⟨w.heap.size, q, none⟩ k) = ⟨w.heap.size, q + k, none⟩ by simp [Addr.add], blk_cell hset]
        cases k with
        | zero => rw [Nat.add_zero, Array.getElem?_setIfInBounds_self_of_lt (by omega)]; rfl
        | succ k => rw [Array.getElem?_setIfInBounds_ne (by omega), show q + (k + 1) = q + 1 + k by omega]; exact hds.out k (by simpa using hk))
      rw [List.length_cons, show ds.length + 1 = 65 - q by omega] at hcv
      have HS := Lib.hid hst2
      have l1 : ((q : Int) ≤ 65) = True := eq_true (by omega)
      have l2 : q ≤ 65 := by omega
      clear hst hst2 hds hset
      go_wp2
      go_ret2
      exact ⟨by rw [← HS.out]; rfl, hb.setCell (p := ⟨w.heap.size, q, none⟩) (Nat.le_refl _) _⟩

set_option maxHeartbeats 1600000 in
set_option maxRecDepth 100000 in
theorem fmt_in (n : Nat) (hn : n < 65536) (w : World) (hG : Glob.G w) :
    Calls Tryd.prog 68 #[.int .i64 (n : Int), .int .i64 16] w fun e w' => e = .returned (.string ⟨(hexD 4 n).toArray⟩) ∧ Below w.heap.size w w' := by
  have hd : decide ((n : Int) < 0) = false := decide_eq_false (by omega)
  go_enter Tryd.func68, Tryd.ntmps68
  go_wp2_with (go_at_call 88; (try rw [hd]); refine (fmt_bits n hn _ hG).mono ?_; rintro e w1 ⟨rfl, hb⟩)
  go_ret
  exact ⟨rfl, hb⟩

set_option maxRecDepth 100000 in
theorem fmt_out (n : Nat) (hn : n < 65536) (w : World) (hG : Glob.G w) :
    Calls Tryd.prog 53 #[.int .i64 (n : Int), .int .i64 16] w fun e w' => e = .returned (.string ⟨(hexD 4 n).toArray⟩) ∧ Below w.heap.size w w' := by
  go_enter Tryd.func53, Tryd.ntmps53
  go_wp2_with (go_at_call 68; refine (fmt_in n hn _ hG).mono ?_; rintro e w1 ⟨rfl, hb⟩)
  go_ret
  exact ⟨rfl, hb⟩

set_option maxRecDepth 100000 in
theorem repeat_none (s : ByteArray) (w : World) : Calls Tryd.prog 54 #[.string s, .int .i64 0] w fun e w' => e = .returned (.string ⟨#[]⟩) ∧ w' = w := by
  go_enter Tryd.func54, Tryd.ntmps54
  go_wp2
  go_ret
  exact ⟨rfl, rfl⟩
set_option maxRecDepth 100000 in
theorem repeat_one (s : ByteArray) (w : World) : Calls Tryd.prog 54 #[.string s, .int .i64 1] w fun e w' => e = .returned (.string s) ∧ w' = w := by
  go_enter Tryd.func54, Tryd.ntmps54
  go_wp2
  go_ret
  exact ⟨rfl, rfl⟩

theorem hexs_two (n : Nat) (h : n < 256) : hexs n 2 = if n < 16 then 48 :: hexD 4 n else hexD 4 n := by
  by_cases c : n < 16
  · rw [if_pos c]
    simp only [hexs, hexD]
    rw [if_pos c, Nat.div_eq_of_lt c, Nat.mod_eq_of_lt c]; rfl
  · rw [if_neg c]
    simp only [hexs, hexD]
    rw [if_neg c, if_pos (by omega), show n / 16 % 16 = n / 16 from Nat.mod_eq_of_lt (by omega)]; rfl
theorem hexs_four (n : Nat) (h : n < 65536) (h2 : 4096 ≤ n) : hexs n 4 = hexD 4 n := by
  simp only [hexs, hexD]
  rw [if_neg (by omega), if_neg (by omega), if_neg (by omega), if_pos (by omega), show n / 16 / 16 / 16 % 16 = n / 16 / 16 / 16 from Nat.mod_eq_of_lt (by omega)]
  simp
theorem hexD_len (n : Nat) (h : n < 65536) : (hexD 4 n).length = if n < 16 then 1 else if n < 256 then 2 else if n < 4096 then 3 else 4 := by
  simp only [hexD]
  by_cases c1 : n < 16
  · rw [if_pos c1, if_pos c1]; rfl
  rw [if_neg c1, if_neg c1]
  by_cases c2 : n < 256
  · rw [if_pos c2, if_pos (by omega)]; rfl
  rw [if_neg c2, if_neg (by omega)]
  by_cases c3 : n < 4096
  · rw [if_pos c3, if_pos (by omega)]; rfl
  rw [if_neg c3, if_neg (by omega)]
  rw [if_pos (by omega)]; rfl
end Go.Proofs.YtidbneljichnhaaDoor.Plug

/- YtidbneljichnhaaDoorFQuoteShort: what print.py told of Go functions, for this claim. -/
namespace Go.Proofs.YtidbneljichnhaaDoor.PX
open Go.RowKit Go.Proofs.YtidbneljichnhaaDoorW.PrintWords Go.Proofs.YtidbneljichnhaaDoorW.PrintLast Go.Proofs.YtidbneljichnhaaDoorW.PrintMore Go.Proofs.YtidbneljichnhaaDoor
attribute [local go_sem] max2_int min2_int max_two min_two max_three min_three max_four min_four   -- for this text's walks alone
set_option linter.unusedVariables false
set_option linter.unusedSimpArgs false

/-! ### quote_short: function 42 -/
def quote_short.j0 : Nat → Int → Int → Bool → Option (Int)
  | 0, _, _, _ => none
  | k + 1, x0, x3, x4 => if x4 = true then (some ((x0) % 256)) else (if x3 = 10 then (some 110) else (if x3 = 9 then (some 116) else (if x3 = 13 then (some 114) else (if x3 = 0 then (some 48) else (some 0)))))
def quote_short.f (k : Nat) (a0 : Int) : Option (Int) := if a0 = 34 then (quote_short.j0 k a0 a0 (a0 == 34)) else (quote_short.j0 k a0 a0 (a0 == 92))
theorem quote_short.mono_l : ∀ k, (∀ y0 y1 y2, LeO (quote_short.j0 k y0 y1 y2) (quote_short.j0 (k + 1) y0 y1 y2))
  | 0 => fun _ _ _ r h => by simp [quote_short.j0] at h
  | k + 1 => by
    have ih0 := quote_short.mono_l k
    · intro y0 y1 y2
      unfold quote_short.j0
      repeat' first
      | (with_reducible exact ih0 _ _ _)
      | (with_reducible exact LeO.refl _)
      | (with_reducible exact LeO.none _)
      | (with_reducible refine LeO.ite ?_ ?_)
      | (with_reducible refine LeO.bind ?_ (fun _ => ?_))
      | exact ih0 _ _ _
      | exact LeO.none _
      | refine LeO.ite ?_ ?_
      | refine LeO.bind ?_ (fun _ => ?_)
theorem quote_short.mono : ∀ a0 k, LeO (quote_short.f k a0) (quote_short.f (k + 1) a0) := by
  intro a0 k
  have ih0 := quote_short.mono_l k
  unfold quote_short.f
  repeat' first
      | (with_reducible exact ih0 _ _ _)
      | (with_reducible exact LeO.refl _)
      | (with_reducible exact LeO.none _)
      | (with_reducible refine LeO.ite ?_ ?_)
      | (with_reducible refine LeO.bind ?_ (fun _ => ?_))
      | exact ih0 _ _ _
      | exact LeO.none _
      | refine LeO.ite ?_ ?_
      | refine LeO.bind ?_ (fun _ => ?_)
set_option maxHeartbeats 8000000 in
set_option maxRecDepth 100000 in
theorem quote_short.calls (k : Nat) (a0 : Int) (r : Int) (w : World) (hG : Glob.G w) (h : quote_short.f k a0 = some r) :
    Calls Tryd.prog 42 #[.int .i64 a0] w fun e w' => e = .returned (.int .u8 r) ∧ Drawn0 w w' := by
  have H : (if a0 = 34 then (quote_short.j0 k a0 a0 (a0 == 34)) else (quote_short.j0 k a0 a0 (a0 == 92))) = some r := h
  clear h
  have HC2 := Aside0.mk H
  clear H
  go_enter Tryd.func42, Tryd.ntmps42
  go_upto_if 4 with (fail)
  go_cut [4] (fun v4 wc => ∃ (kq : Nat) (x4_1 : Bool), v4 = .bool x4_1 ∧ Aside0 (quote_short.j0 kq a0 a0 x4_1 = some r) ∧ Aside0 (kq ≤ k) ∧ Drawn0 w wc)
  case first =>
    have H := HC2.out
    clear HC2
    by_cases c3 : a0 = 34
    · rw [if_pos c3] at H
      have c3b0 : (a0 == 34) = true := beq_iff_eq.mpr c3
      have c3b1 : (a0 != 34) = false := bne_eq_false_iff_eq.mpr c3
      clear c3
      (first | rw [c3b0] | (simp only [i64_w, i32_w]; rw [c3b0]) | skip)
      have H' := Aside0.mk H
      clear H
      go_wp2
      go_meet
      case rel => exact ⟨_, ((a0 == 34)), (by first | rfl | (simp; done) | (simp [*]; done)), H', ⟨by first | omega | exact Nat.le_refl _⟩, by repeat (first | exact Drawn0.refl _ | apply Drawn0.step)⟩
    · rw [if_neg c3] at H
      have c3b0 : (a0 == 34) = false := beq_eq_false_iff_ne.mpr c3
      have c3b1 : (a0 != 34) = true := bne_iff_ne.mpr c3
      (first | rw [c3b0] | (simp only [i64_w, i32_w]; rw [c3b0]) | skip)
      have H' := Aside0.mk H
      clear H
      go_wp2
      go_meet
      case rel => exact ⟨_, ((a0 == 92)), (by first | rfl | (simp; done) | (simp [*]; done)), H', ⟨by first | omega | exact Nat.le_refl _⟩, by repeat (first | exact Drawn0.refl _ | apply Drawn0.step)⟩
  case rest =>
    clear HC2
    try clear p2
    try clear c3
    try clear c3b0
    try clear c3b1
    obtain ⟨kq, x4_1, rfl, HA, HJ1, ⟨mc1, rfl⟩⟩ := hcut
    cases kq with
    | zero => exact absurd HA.out (by simp [quote_short.j0])
    | succ kj1 =>
      have H := HA.out
      clear HA
      simp only [quote_short.j0] at H
      by_cases c4 : x4_1 = true
      · subst c4
        have H1 : (some ((a0) % 256)) = some r := by rw [if_pos rfl] at H; exact H
        clear H
        have H := H1
        clear H1
        obtain rfl := Option.some.inj H
        go_wp2
        go_ret
        exact ⟨by first | rfl | (simp; done) | (simp [*]; done), by repeat (first | exact Drawn0.refl _ | apply Drawn0.step)⟩
      · replace c4 := Bool.eq_false_iff.mpr c4
        subst c4
        have H1 : (if a0 = 10 then (some 110) else (if a0 = 9 then (some 116) else (if a0 = 13 then (some 114) else (if a0 = 0 then (some 48) else (some 0))))) = some r := by rw [if_neg (show ¬ (false = true) by decide)] at H; exact H
        clear H
        have H := H1
        clear H1
        by_cases c5 : a0 = 10
        · rw [if_pos c5] at H
          have c5b0 : (a0 == 10) = true := beq_iff_eq.mpr c5
          have c5b1 : (a0 != 10) = false := bne_eq_false_iff_eq.mpr c5
          clear c5
          obtain rfl := Option.some.inj H
          go_wp2
          go_ret
          exact ⟨by first | rfl | (simp; done) | (simp [*]; done), by repeat (first | exact Drawn0.refl _ | apply Drawn0.step)⟩
        · rw [if_neg c5] at H
          have c5b0 : (a0 == 10) = false := beq_eq_false_iff_ne.mpr c5
          have c5b1 : (a0 != 10) = true := bne_iff_ne.mpr c5
          by_cases c6 : a0 = 9
          · rw [if_pos c6] at H
            have c6b0 : (a0 == 9) = true := beq_iff_eq.mpr c6
            have c6b1 : (a0 != 9) = false := bne_eq_false_iff_eq.mpr c6
            clear c6
            obtain rfl := Option.some.inj H
            go_wp2
            go_ret
            exact ⟨by first | rfl | (simp; done) | (simp [*]; done), by repeat (first | exact Drawn0.refl _ | apply Drawn0.step)⟩
          · rw [if_neg c6] at H
            have c6b0 : (a0 == 9) = false := beq_eq_false_iff_ne.mpr c6
            have c6b1 : (a0 != 9) = true := bne_iff_ne.mpr c6
            by_cases c7 : a0 = 13
            · rw [if_pos c7] at H
              have c7b0 : (a0 == 13) = true := beq_iff_eq.mpr c7
              have c7b1 : (a0 != 13) = false := bne_eq_false_iff_eq.mpr c7
              clear c7
              obtain rfl := Option.some.inj H
              go_wp2
              go_ret
              exact ⟨by first | rfl | (simp; done) | (simp [*]; done), by repeat (first | exact Drawn0.refl _ | apply Drawn0.step)⟩
            · rw [if_neg c7] at H
              have c7b0 : (a0 == 13) = false := beq_eq_false_iff_ne.mpr c7
              have c7b1 : (a0 != 13) = true := bne_iff_ne.mpr c7
              by_cases c8 : a0 = 0
              · rw [if_pos c8] at H
                have c8b0 : (a0 == 0) = true := beq_iff_eq.mpr c8
                have c8b1 : (a0 != 0) = false := bne_eq_false_iff_eq.mpr c8
                clear c8
                obtain rfl := Option.some.inj H
                go_wp2
                go_ret
                exact ⟨by first | rfl | (simp; done) | (simp [*]; done), by repeat (first | exact Drawn0.refl _ | apply Drawn0.step)⟩
              · rw [if_neg c8] at H
                have c8b0 : (a0 == 0) = false := beq_eq_false_iff_ne.mpr c8
                have c8b1 : (a0 != 0) = true := bne_iff_ne.mpr c8
                obtain rfl := Option.some.inj H
                go_wp2
                go_ret
                exact ⟨by first | rfl | (simp; done) | (simp [*]; done), by repeat (first | exact Drawn0.refl _ | apply Drawn0.step)⟩

end Go.Proofs.YtidbneljichnhaaDoor.PX

/- Signs put in double quotes (quote's builder: hex, put), by hand. Conditions: the text fits in memory. -/
namespace Go.Proofs.YtidbneljichnhaaDoor.Plug
open Go.RowKit Go.Proofs.YtidbneljichnhaaDoor Go.Proofs.YtidbneljichnhaaDoor.PX Go.Proofs.YtidbneljichnhaaDoor.Utf Go.Proofs.YtidbneljichnhaaDoorW.PrintWords Go.Proofs.YtidbneljichnhaaDoorW.PrintLast

/-- The program's builder at block b holds these bytes. -/
structure St (w0 : World) (b : Nat) (l : List UInt8) (w : World) : Prop where
  bld : Lib.IsBuilderF 55 5 w0.heap.size b (Lib.byteCells l) w
  bel : Below w0.heap.size w0 w
abbrev Kept (b : Nat) (w w' : World) : Prop := Lib.OthersKept 5 (some b) w w'

theorem kept_below {b : Nat} {w w' : World} (h : Below w.heap.size w w') : Kept b w w' := by
  intro k o hk _ _
  exact (h.block k (Bld.at_lt hk)).trans hk
theorem St.quiet {w0 : World} {b : Nat} {l : List UInt8} {w w' : World} (h : St w0 b l w) (hb : Below w.heap.size w w') : St w0 b l w' := ⟨bld_below h.bld hb, h.bel.trans (hb.mono h.bel.size)⟩

theorem st_byte {w0 : World} {b : Nat} {l : List UInt8} {w : World} (h : St w0 b l w) (c : UInt8) (hl : l.length ≤ 70368744177664) :
    Calls Tryd.prog 43 #[.pointer (some ⟨b, 0, none⟩), .int .u8 (c.toNat : Int)] w fun e w' => e = .returned .nilIface ∧ St w0 b (l ++ [c]) w' ∧ Kept b w w' :=
  (Bld.byte 55 Bld.lies_quote w0.heap.size b _ (c.toNat : Int) w h.bld (by rw [Lib.byteCells_length]; omega) h.bel.size).mono fun e w' ⟨he, h1, h2, h3⟩ => ⟨he, ⟨by rw [Lib.byteCells_append]; exact .inr h1, h.bel.trans h2⟩, h3⟩
theorem st_text {w0 : World} {b : Nat} {l : List UInt8} {w : World} (h : St w0 b l w) (t : List UInt8) (hl : l.length + t.length ≤ 70368744177664) :
    Calls Tryd.prog 19 #[.pointer (some ⟨b, 0, none⟩), .string ⟨t.toArray⟩] w fun e w' => ∃ n : Int, e = .returned (.tuple #[.int .i64 n, .nilIface]) ∧ St w0 b (l ++ t) w' ∧ Kept b w w' :=
  (Bld.text 55 Bld.lies_quote w0.heap.size b _ ⟨t.toArray⟩ w h.bld (by rw [Lib.byteCells_length]; show l.length + t.length ≤ _; omega) h.bel.size).mono fun e w' ⟨he, h1, h2, h3⟩ => ⟨_, he, ⟨by rw [Lib.byteCells_append]; exact .inr h1, h.bel.trans h2⟩, h3⟩
theorem st_sign {w0 : World} {b : Nat} {l : List UInt8} {w : World} (h : St w0 b l w) (n : Int) (hn : sgn n = true) (hl : l.length ≤ 70368744177664) :
    Calls Tryd.prog 44 #[.pointer (some ⟨b, 0, none⟩), .int .i32 n] w fun e w' => ∃ m : Int, e = .returned (.tuple #[.int .i64 m, .nilIface]) ∧ St w0 b (l ++ enc n) w' ∧ Kept b w w' :=
  (Bld.sign 55 Bld.lies_quote w0.heap.size b _ n ((sgn_iff n).1 hn) w h.bld (by rw [Lib.byteCells_length]; omega) h.bel.size).mono fun e w' ⟨he, h1, h2, h3⟩ => ⟨_, he, ⟨by rw [Lib.byteCells_append, enc_cells]; exact .inr h1, h.bel.trans h2⟩, h3⟩

set_option maxHeartbeats 1600000 in
set_option maxRecDepth 100000 in
theorem hex_is {w0 : World} {b : Nat} {l : List UInt8} {w : World} (hG : Glob.G w0) (h : St w0 b l w) (c : UInt8) (n m : Nat) (hnm : (m = 2 ∧ n < 256) ∨ (m = 4 ∧ 4096 ≤ n ∧ n < 65536)) (hl : l.length ≤ 35184372088832) :
    Calls Tryd.prog 45 #[.pointer (some ⟨b, 0, none⟩), .int .u8 (c.toNat : Int), .int .i64 (n : Int), .int .i64 (m : Int)] w fun e w' => e = .returned (.tuple #[]) ∧ St w0 b (l ++ 92 :: c :: hexs n m) w' ∧ Kept b w w' := by
  have hn : n < 65536 := by omega
  have hm4 : m ≤ 4 := by omega
  have hlen := hexD_len n hn
  have hF := fmt_out n hn w (hG.below h.bel)
  have hpad : (n < 16 ∧ m = 2 ∧ hexs n m = 48 :: hexD 4 n ∧ (hexD 4 n).length = 1) ∨ (hexs n m = hexD 4 n ∧ (hexD 4 n).length = m) := by
    rcases hnm with ⟨rfl, h1⟩ | ⟨rfl, h1, h2⟩
    · rw [hexs_two n h1]
      by_cases q : n < 16
      · rw [if_pos q] at hlen ⊢; exact .inl ⟨q, rfl, rfl, hlen⟩
      · rw [if_neg q, if_pos h1] at hlen; rw [if_neg q]; exact .inr ⟨rfl, hlen⟩
    · rw [hexs_four n h2 h1]
      rw [if_neg (by omega), if_neg (by omega), if_neg (by omega)] at hlen; exact .inr ⟨rfl, hlen⟩
  generalize hexD 4 n = d at *
  generalize hexs n m = x at *
  clear hlen
  have HF := Lib.hid hF
  have HS := Lib.hid h
  clear hF h hnm hn hG
  rcases hpad with ⟨_, rfl, rfl, hd⟩ | ⟨rfl, hd⟩
  · have hsz : (⟨d.toArray⟩ : ByteArray).size = 1 := hd
    go_enter Tryd.func45, Tryd.ntmps45
    go_wp2_with (go_at_call 53; refine HF.out.mono ?_)
    rintro e w1 ⟨rfl, hb1⟩
    have h1 := HS.out.quiet hb1
    go_wp2_with (go_at_call 43; refine (st_byte h1 92 (by omega)).mono ?_)
    rintro e w2 ⟨rfl, h2, k2⟩
    go_wp2_with (go_at_call 43; refine (st_byte h2 c (by simp; omega)).mono ?_)
    rintro e w3 ⟨rfl, h3, k3⟩
    have h3d := h3.quiet (Below.drew (Below.refl _ w3))
    have k3d := kept_below (b := b) (Below.drew (Below.refl w3.heap.size w3))
    have hp : l.length + 1 + 1 + 1 + 1 ≤ 70368744177664 := by omega
    go_wp2
    go_region_with (first | (go_at_call 54; refine (repeat_one _ _).mono ?_; rintro e w4 ⟨rfl, rfl⟩) | (go_at_call 19; refine (st_text h3d [48] (by simp; omega)).mono ?_; rintro e w5 ⟨n5, rfl, h5, k5⟩))
    all_goals
      go_wp2_with (go_at_call 19; refine (st_text h5 _ (by simp; omega)).mono ?_; rintro e w6 ⟨n6, rfl, h6, k6⟩)
      go_end0
      exact ⟨rfl, by simpa using h6, (kept_below hb1).trans (k2.trans (k3.trans (k3d.trans (k5.trans k6))))⟩
  · have hsz : (⟨x.toArray⟩ : ByteArray).size = m := hd
    go_enter Tryd.func45, Tryd.ntmps45
    go_wp2_with (go_at_call 53; refine HF.out.mono ?_)
    rintro e w1 ⟨rfl, hb1⟩
    have h1 := HS.out.quiet hb1
    go_wp2_with (go_at_call 43; refine (st_byte h1 92 (by omega)).mono ?_)
    rintro e w2 ⟨rfl, h2, k2⟩
    go_wp2_with (go_at_call 43; refine (st_byte h2 c (by simp; omega)).mono ?_)
    rintro e w3 ⟨rfl, h3, k3⟩
    have h3d := h3.quiet (Below.drew (Below.refl _ w3))
    have k3d := kept_below (b := b) (Below.drew (Below.refl w3.heap.size w3))
    have hp : l.length + 1 + 1 + 4 ≤ 70368744177664 := by omega
    go_wp2
    go_region_with (first | (go_at_call 54; (try rw [show (m : Int) - (m : Int) = 0 by omega]); refine (repeat_none _ _).mono ?_; rintro e w4 ⟨rfl, rfl⟩) | (go_at_call 19; refine (st_text h3d [] (by simp; omega)).mono ?_; rintro e w5 ⟨n5, rfl, h5, k5⟩))
    all_goals
      go_wp2_with (go_at_call 19; refine (st_text h5 _ (by simp; omega)).mono ?_; rintro e w6 ⟨n6, rfl, h6, k6⟩)
      go_end0
      exact ⟨rfl, by simpa using h6, (kept_below hb1).trans (k2.trans (k3.trans (k3d.trans (k5.trans k6))))⟩

theorem escS_len (n : Int) : (escS n).length ≤ 10 := by
  unfold escS
  have := enc_len n
  repeat' split
  all_goals first | decide | (simp [hexs_len]; done) | omega

/-- The short escape of a sign. -/
def shortOf (n : Int) : Int := if n = 34 then 34 else if n = 92 then 92 else if n = 10 then 110 else if n = 9 then 116 else if n = 13 then 114 else if n = 0 then 48 else 0
theorem prog_short (k : Nat) (n : Int) : quote_short.f (k + 1) n = some (shortOf n) := by
  have hj : ∀ b, quote_short.j0 (k + 1) n n b = if b = true then (some (n % 256)) else (if n = 10 then (some 110) else (if n = 9 then (some 116) else (if n = 13 then (some 114) else (if n = 0 then (some 48) else (some 0))))) := fun b => by rw [quote_short.j0]
  unfold quote_short.f shortOf
  rw [hj, hj]
  by_cases a : n = 34
  · subst a; rfl
  rw [if_neg a, if_neg a]
  by_cases b : n = 92
  · subst b; rfl
  rw [if_neg b, show (n == 92) = false from beq_eq_false_iff_ne.2 b, if_neg (by decide)]
  by_cases c : n = 10
  · rw [if_pos c, if_pos c]
  rw [if_neg c, if_neg c]
  by_cases d : n = 9
  · rw [if_pos d, if_pos d]
  rw [if_neg d, if_neg d]
  by_cases e : n = 13
  · rw [if_pos e, if_pos e]
  rw [if_neg e, if_neg e]
  by_cases f : n = 0
  · rw [if_pos f, if_pos f]
  rw [if_neg f, if_neg f]

theorem not_may (n : Int) (h : sgn n = true) (hm : may n ≠ true) : n < 65536 ∧ (256 ≤ n → 4096 ≤ n) := by
  have := (sgn_iff n).1 h
  unfold may prt at hm
  simp at hm
  by_cases c : n = 9 ∨ n = 10 ∨ n = 13
  · omega
  · omega

set_option maxHeartbeats 1600000 in
set_option maxRecDepth 100000 in
theorem put_is {w0 : World} {b : Nat} {l : List UInt8} {w : World} (hG : Glob.G w0) (h : St w0 b l w) (n : Int) (hs : sgn n = true) (hl : l.length ≤ 35184372088832) :
    Calls Tryd.prog 24 #[.pointer (some ⟨b, 0, none⟩), .int .i64 n] w fun e w' => e = .returned (.tuple #[]) ∧ St w0 b (l ++ escS n) w' ∧ Kept b w w' := by
  have hr := (sgn_nat hs)
  have hGw := hG.below h.bel
  have hsh := Lib.hid (prog_short 0 n)
  have hms := Lib.hid (prog_may n)
  by_cases hc : shortOf n = 0
  · have hne : n ≠ 34 ∧ n ≠ 92 ∧ n ≠ 9 ∧ n ≠ 10 ∧ n ≠ 13 ∧ n ≠ 0 := by
      unfold shortOf at hc
      repeat' split at hc
      all_goals omega
    rw [hc] at hsh
    have HE : Hid (escS n = if may n = true then enc n else if n < 256 then 92 :: 120 :: hexs n.toNat 2 else if n < 65536 then 92 :: 117 :: hexs n.toNat 4 else 92 :: 85 :: hexs n.toNat 8) := by
      unfold escS
      rw [if_neg hne.1, if_neg hne.2.1, if_neg hne.2.2.1, if_neg hne.2.2.2.1, if_neg hne.2.2.2.2.1, if_neg hne.2.2.2.2.2]
      exact Lib.hid rfl
    cases hm : may n with
    | true =>
      rw [hm] at hms HE
      clear hne hc
      go_enter Tryd.func24, Tryd.ntmps24
      go_wp2_with (first | (go_at_call 42; refine (quote_short.calls _ _ _ _ hGw hsh.out).mono ?_; rintro e w1 ⟨rfl, hb1⟩) | (go_at_call 30; refine (quote_may.calls _ _ _ (hGw.below (Drawn0.below hb1)) hms.out).mono ?_; rintro e w2 ⟨rfl, hb2⟩) | (go_at_call 44; refine (st_sign ((h.quiet (Drawn0.below hb1)).quiet (Drawn0.below hb2)) n hs (by omega)).mono ?_; rintro e w3 ⟨n3, rfl, h3, k3⟩))
      go_end0
      exact ⟨rfl, by rw [HE.out]; exact h3, (kept_below (Drawn0.below hb1)).trans ((kept_below (Drawn0.below hb2)).trans k3)⟩
    | false =>
      have hnm := not_may n hs (by rw [hm]; decide)
      rw [hm] at hms HE
      clear hne hc
      obtain ⟨N, rfl⟩ : ∃ N : Nat, n = (N : Int) := ⟨n.toNat, by omega⟩
      by_cases q : N < 256
      · have HH : Hid (escS (N : Int) = 92 :: 120 :: hexs N 2) := by rw [HE.out, if_neg (by decide), if_pos (by omega)]; exact Lib.hid rfl
        have hlt : decide ((N : Int) < 256) = true := decide_eq_true (by omega)
        clear HE hm
        go_enter Tryd.func24, Tryd.ntmps24
        go_wp2_with (first | (go_at_call 42; refine (quote_short.calls _ _ _ _ hGw hsh.out).mono ?_; rintro e w1 ⟨rfl, hb1⟩) | (go_at_call 30; refine (quote_may.calls _ _ _ (hGw.below (Drawn0.below hb1)) hms.out).mono ?_; rintro e w2 ⟨rfl, hb2⟩) | (go_at_call 45; refine (hex_is hG ((h.quiet (Drawn0.below hb1)).quiet (Drawn0.below hb2)) 120 N 2 (.inl ⟨rfl, q⟩) (by omega)).mono ?_; rintro e w3 ⟨rfl, h3, k3⟩))
        go_end0
        exact ⟨rfl, by rw [HH.out]; exact h3, (kept_below (Drawn0.below hb1)).trans ((kept_below (Drawn0.below hb2)).trans k3)⟩
      · have HH : Hid (escS (N : Int) = 92 :: 117 :: hexs N 4) := by rw [HE.out, if_neg (by decide), if_neg (by omega), if_pos (by omega)]; exact Lib.hid rfl
        have hlt : decide ((N : Int) < 256) = false := decide_eq_false (by omega)
        have hlt2 : decide ((N : Int) < 65536) = true := decide_eq_true (by omega)
        clear HE hm
        go_enter Tryd.func24, Tryd.ntmps24
        go_wp2_with (first | (go_at_call 42; refine (quote_short.calls _ _ _ _ hGw hsh.out).mono ?_; rintro e w1 ⟨rfl, hb1⟩) | (go_at_call 30; refine (quote_may.calls _ _ _ (hGw.below (Drawn0.below hb1)) hms.out).mono ?_; rintro e w2 ⟨rfl, hb2⟩) | (go_at_call 45; refine (hex_is hG ((h.quiet (Drawn0.below hb1)).quiet (Drawn0.below hb2)) 117 N 4 (.inr ⟨rfl, by omega, by omega⟩) (by omega)).mono ?_; rintro e w3 ⟨rfl, h3, k3⟩))
        go_end0
        exact ⟨rfl, by rw [HH.out]; exact h3, (kept_below (Drawn0.below hb1)).trans ((kept_below (Drawn0.below hb2)).trans k3)⟩
  · obtain ⟨c, hc2, hE2⟩ : ∃ c : UInt8, shortOf n = (c.toNat : Int) ∧ escS n = [92, c] := by
      unfold shortOf at hc ⊢
      unfold escS
      by_cases a : n = 34
      · subst a; exact ⟨34, rfl, rfl⟩
      by_cases b : n = 92
      · subst b; exact ⟨92, rfl, rfl⟩
      by_cases c : n = 10
      · subst c; exact ⟨110, rfl, rfl⟩
      by_cases d : n = 9
      · subst d; exact ⟨116, rfl, rfl⟩
      by_cases e : n = 13
      · subst e; exact ⟨114, rfl, rfl⟩
      by_cases f : n = 0
      · subst f; exact ⟨48, rfl, rfl⟩
      · rw [if_neg a, if_neg b, if_neg c, if_neg d, if_neg e, if_neg f] at hc; exact absurd rfl hc
    rw [hc2] at hsh hc
    rw [hE2]
    have hne : (((c.toNat : Nat) : Int) != 0) = true := bne_iff_ne.2 hc
    have hne2 : (((c.toNat : Nat) : Int) == 0) = false := beq_eq_false_iff_ne.2 hc
    clear hc hc2 hE2 hms
    go_enter Tryd.func24, Tryd.ntmps24
    go_wp2_with (first | (go_at_call 42; refine (quote_short.calls _ _ _ _ hGw hsh.out).mono ?_; rintro e w1 ⟨rfl, hb1⟩))
    go_wp2_with (go_at_call 43; refine (st_byte (h.quiet (Drawn0.below hb1)) 92 (by omega)).mono ?_)
    rintro e w2 ⟨rfl, h2, k2⟩
    go_wp2_with (go_at_call 43; refine (st_byte h2 c (by simp; omega)).mono ?_)
    rintro e w3 ⟨rfl, h3, k3⟩
    go_wp2
    go_end0
    exact ⟨rfl, by simpa using h3, (kept_below (Drawn0.below hb1)).trans (k2.trans k3)⟩
end Go.Proofs.YtidbneljichnhaaDoor.Plug

/- The signs of a text (utf.Decode), by hand, in the form in which the printed functions are told. Conditions: the text has at most 2^40 bytes. -/
namespace Go.Proofs.YtidbneljichnhaaDoor.Plug
open Go.RowKit Go.Proofs.YtidbneljichnhaaDoor Go.Proofs.YtidbneljichnhaaDoor.PX Go.Proofs.YtidbneljichnhaaDoor.Utf Go.Proofs.YtidbneljichnhaaDoorW.PrintWords Go.Proofs.YtidbneljichnhaaDoorW.PrintLast

/-- The signs that were told, and the place where it ended. -/
def goF : Nat → List UInt8 → Nat → List Int → List Int × Nat
  | 0, _, i, acc => (acc, i)
  | k + 1, l, i, acc => if i < l.length then (if (dec (l.drop i)).1 < 0 then (acc ++ [(dec (l.drop i)).1], i) else goF k l (i + (dec (l.drop i)).2) (acc ++ [(dec (l.drop i)).1])) else (acc, i)
def goB (l : List UInt8) : List Int × Nat := goF l.length l 0 []
def decodeB (l : List UInt8) : List Int × Int × Int := if (goB l).2 < l.length then ([], 8, ((goB l).2 : Int)) else ((goB l).1, 0, 0)

theorem goF_end (k : Nat) (l : List UInt8) (i : Nat) (acc : List Int) (h : ¬ i < l.length) : goF k l i acc = (acc, i) := by
  cases k with
  | zero => rfl
  | succ k => simp [goF, h]

theorem info_int : (Tryd.prog.info? 3).map (fun i => (i.zero, i.size, i.bytes)) = some (some (.int .i64 0), 1, 8) := by kernel_rfl
theorem row_int : Tryd.prog.underlying 31 = some (.slice 3) := by kernel_rfl

/-- What the walk's own function leaves. -/
structure Box (B g : Nat) (xs : List Int) (W : World) : Prop where
  ex : ∃ v, W.heap[g]? = some (.cells #[v] 31 (0, 0)) ∧ W.ownsRow B 3 1 v xs.length (nums .i64 xs)
/-- All else that stood there stands. -/
def Stays (B g : Nat) (W W' : World) : Prop := Below B W W' ∧ ∀ k c t, W.heap[k]? = some (.cells c t (0, 0)) → t ≠ 3 → k ≠ g → W'.heap[k]? = some (.cells c t (0, 0))
theorem Stays.refl (B g : Nat) (W : World) : Stays B g W W := ⟨Below.refl B W, fun _ _ _ h _ _ => h⟩
theorem Stays.trans {B g : Nat} {W W1 W2 : World} (h : Stays B g W W1) (h2 : Stays B g W1 W2) : Stays B g W W2 := ⟨h.1.trans h2.1, fun k c t a b d => h2.2 k c t (h.2 k c t a b d) b d⟩
theorem Stays.of_below {B g : Nat} {W W1 : World} (h : Below W.heap.size W W1) (hB : B ≤ W.heap.size) : Stays B g W W1 :=
  ⟨h.mono hB, fun k _ _ a _ _ => (h.block k (Bld.at_lt a)).trans a⟩
theorem Box.of_below {B g : Nat} {xs : List Int} {W W1 : World} (h : Box B g xs W) (hb : Below W.heap.size W W1) : Box B g xs W1 := by
  obtain ⟨v, h1, h2⟩ := h.ex
  exact ⟨v, (hb.block g (Bld.at_lt h1)).trans h1, own_move h2 (fun k hk => hb.block k (own_lt h2 k hk))⟩

set_option maxHeartbeats 2000000 in
set_option maxRecDepth 100000 in
theorem on_is (x : Int) (B g : Nat) (xs : List Int) (W : World) (hbx : Box B g xs W) (hlen : xs.length + 1 ≤ 1099511627776) (hB : B ≤ g) (hBw : B ≤ W.heap.size) :
    Calls Tryd.prog 26 #[.int .i64 x, .pointer (some ⟨g, 0, none⟩)] W fun e w' => e = .returned (.bool (decide (x ≥ 0))) ∧ Box B g (xs ++ [x]) w' ∧ Stays B g W w' := by
  obtain ⟨v, hg, hown⟩ := hbx.ex
  clear hbx
  obtain ⟨i0, hi, hz0, hz1, hz2⟩ := info_parts info_int
  have c0 : W.cell? ⟨g, 0, none⟩ = some v := by rw [Lib.cell_of_heap hg]; rfl
  have hne := own_ne hown hg (by decide)
  go_enter Tryd.func26, Tryd.ntmps26
  go_wp2_with (at_builtin; refine wpList_append_own _ rfl _ _ 31 rfl B 3 i0 (.int .i64 0) 1 8 row_int hi hz0 hz1 hz2 rfl (by decide) _ _ _ rfl (hown.alloc _) ⟨W.heap.size, 0, none⟩ 1 1 [.int .i64 x] rfl rfl ?c1 ?c2 ?c3 ?c4 ?c5 ?_)
  case c1 =>
    intro j u hj
    match j, hj with
    | 0, hj => simp at hj; subst hj; simp [Addr.add]
  case c2 => intro u hu; simp at hu; subst hu; rfl
  case c3 => unfold maxLen; omega
  case c4 => omega
  case c5 => simp; omega
  intro v' w2 hown' hgrow _
  obtain ⟨ao, cap, rfl⟩ : ∃ ao cap, v' = .slice ao (xs.length + 1) cap := own_slice hown'
  have hlt := Bld.at_lt hg
  have hb2 : w2.heap[g]? = some (.cells #[v] 31 (0, 0)) := by
    rw [hgrow.block g (by simp; omega) hne, Lib.alloc_old W _ g hlt]
    exact hg
  have d0 : w2.cell? ⟨g, 0, none⟩ = some v := by rw [Lib.cell_of_heap hb2]; rfl
  have f0 : w2.frozen? ⟨g, 0, none⟩ = false := Lib.frozen_of_heap hb2 0
  have hne2 := own_ne hown' hb2 (by decide)
  have HR : Hid (Box B g (xs ++ [x]) (w2.setCell ⟨g, 0, none⟩ (.slice ao (xs.length + 1) cap)) ∧ Stays B g W (w2.setCell ⟨g, 0, none⟩ (.slice ao (xs.length + 1) cap))) := by
    refine Lib.hid ⟨⟨.slice ao (xs.length + 1) cap, ?_, ?_⟩, ?_, ?_⟩
    · exact blk_set hb2 0 _
    · have h3 := own_setCell (p := ⟨g, 0, none⟩) hown' hne2 (.slice ao (xs.length + 1) cap)
      rw [List.length_append, List.length_singleton, nums_append]
      exact h3
    · exact ((((Below.refl B W).alloc hBw _).grown hgrow (by simp; omega) (fun k hk => own_base hown k hk)).setCell (p := ⟨g, 0, none⟩) hB _)
    · intro k c t hk ht hkg
      rw [Below.heap_setCell w2 ⟨g, 0, none⟩ _ k hkg, hgrow.block k (by have := Bld.at_lt hk; simp; omega) (own_ne hown hk (Ne.symm ht)), Lib.alloc_old W _ k (Bld.at_lt hk)]
      exact hk
  clear hown hown' hgrow hg hne hne2
  go_wp2
  go_ret
  exact ⟨rfl, HR.out⟩

set_option maxHeartbeats 2000000 in
theorem walk_dec (s : ByteArray) (B g : Nat) (w w0 : World) (hG : Glob.G w0) (hw0 : Below B w0 w) (hB0 : w0.heap.size = B) (hs : s.size ≤ 1099511627775) (hbx : Box B g [] w) (hB : B ≤ g) (hBw : B ≤ w.heap.size) :
    Calls Tryd.prog 25 #[.string s, .func (.func 26) #[] #[.pointer (some ⟨g, 0, none⟩)]] w fun e w' => e = .returned (.int .i64 (goB s.data.toList).2) ∧ Box B g (goB s.data.toList).1 w' ∧ Stays B g w w' := by
  have hL := Lib.hid (size_list s)
  go_enter Tryd.func25, Tryd.ntmps25
  go_wp2
  go_loopw [5] (fun a wr => ∃ (i k : Nat) (xs : List Int), i ≤ s.size ∧ s.size ≤ i + k ∧ xs.length ≤ i ∧ Hid (goF k s.data.toList i xs = goB s.data.toList) ∧ a = .int .i64 i ∧ Box B g xs wr ∧ Stays B g w wr) (fun a _ => s.size - (intOf a).toNat)
  case atStart => exact ⟨0, s.size, [], Nat.zero_le _, by omega, Nat.le_refl _, by rw [hL.out]; rfl, rfl, hbx, Stays.refl _ _ _⟩
  case round =>
    obtain ⟨i, k, xs, hi, hk, hxl, hst, rfl, hbx, hb⟩ := hrel
    have hGr : Glob.G wr := hG.below (by rw [hB0]; exact hw0.trans hb.1)
    by_cases hlt : i < s.size
    · have hne : s.data.toList.drop i ≠ [] := by
        intro e; have h2 := congrArg List.length e; rw [List.length_drop, ← hL.out, List.length_nil] at h2; omega
      have hw := dec_wide _ hne
      have hf := prog_first (s.extract i s.size)
      rw [drop_list] at hf
      have hlen : (s.data.toList.drop i).length = s.size - i := by rw [List.length_drop, ← hL.out]
      have hstep : goF k s.data.toList i xs = if (dec (s.data.toList.drop i)).1 < 0 then (xs ++ [(dec (s.data.toList.drop i)).1], i) else goF (k - 1) s.data.toList (i + (dec (s.data.toList.drop i)).2) (xs ++ [(dec (s.data.toList.drop i)).1]) := by
        obtain ⟨k, rfl⟩ : ∃ m, k = m + 1 := ⟨k - 1, by omega⟩
        rw [goF, if_pos (by have := hL.out; omega)]; rfl
      generalize dec (s.data.toList.drop i) = d at *
      obtain ⟨r, n⟩ := d
      simp only at hw hf hstep
      rw [hlen] at hw
      obtain ⟨hw1, hw2, hw3⟩ := hw
      have HF := Lib.hid hf; have HS := Lib.hid hstep
      clear hf hstep hlen hne
      by_cases hr : r < 0
      · rw [if_pos hr] at HS
        have hge : decide (r ≥ 0) = false := by simp; omega
        have HQ := Lib.hid (hst.out.symm.trans HS.out)
        clear hst HS
        go_wp2_with (first | (go_at_call 16; refine (utf_First.calls _ _ _ _ hGr HF.out).mono ?_; rintro e w1 ⟨rfl, hb1⟩) | (go_at_call 26; refine (on_is r B g xs _ (hbx.of_below hb1) (by omega) hB (Nat.le_trans hBw (Nat.le_trans hb.1.size hb1.size))).mono ?_; rw [hge]; rintro e w2 ⟨rfl, hbx2, hs2⟩))
        go_ret
        exact ⟨by rw [HQ.out]; rfl, by rw [HQ.out]; exact hbx2, hb.trans ((Stays.of_below hb1 (Nat.le_trans hBw hb.1.size)).trans hs2)⟩
      · rw [if_neg hr] at HS
        have hge : decide (r ≥ 0) = true := by simp; omega
        have HQ := Lib.hid (HS.out.symm.trans hst.out)
        clear hst HS
        go_wp2_with (first | (go_at_call 16; refine (utf_First.calls _ _ _ _ hGr HF.out).mono ?_; rintro e w1 ⟨rfl, hb1⟩) | (go_at_call 26; refine (on_is r B g xs _ (hbx.of_below hb1) (by omega) hB (Nat.le_trans hBw (Nat.le_trans hb.1.size hb1.size))).mono ?_; rw [hge]; rintro e w2 ⟨rfl, hbx2, hs2⟩))
        have hall := hb.trans ((Stays.of_below hb1 (Nat.le_trans hBw hb.1.size)).trans hs2)
        go_roundw
        case rel => exact ⟨i + n, k - 1, xs ++ [r], by omega, by omega, by rw [List.length_append]; simp; omega, Lib.hid HQ.out, by go_num, hbx2, hall⟩
        case measure => simp [intOf]; omega
    · have hc : decide ((i : Int) < (s.size : Int)) = false := by simp; omega
      have HE := Lib.hid (hst.out.symm.trans (goF_end k s.data.toList i xs (by rw [← hL.out]; exact hlt)))
      clear hst
      go_wp2
      go_ret
      exact ⟨by rw [HE.out]; rfl, by rw [HE.out]; exact hbx, hb⟩

theorem two_set {w2 : World} {B t : Nat} {x y : Value} (h : w2.heap[B]? = some (.cells #[x, y] t (0, 0))) (a b : Value) (o : Obj) :
    (((w2.setCell ⟨B, 0, none⟩ a).setCell ⟨B, 1, none⟩ b).alloc o).cell? ⟨B, 0, none⟩ = some a ∧ (((w2.setCell ⟨B, 0, none⟩ a).setCell ⟨B, 1, none⟩ b).alloc o).cell? ⟨B, 1, none⟩ = some b := by
  have h1 := blk_set h 0 a
  have h2 := blk_set h1 1 b
  have h3 : (((w2.setCell ⟨B, 0, none⟩ a).setCell ⟨B, 1, none⟩ b).alloc o).heap[B]? = some (.cells ((#[x, y].setIfInBounds 0 a).setIfInBounds 1 b) t (0, 0)) := (Lib.alloc_old _ _ _ (Bld.at_lt h2)).trans h2
  exact ⟨by rw [blk_cell h3]; rfl, by rw [blk_cell h3]; rfl⟩

def utf_Decode.f (a0 : ByteArray) : Option (List Int × Int × Int) := if a0.size ≤ 1099511627775 then some (decodeB a0.data.toList) else none

set_option maxHeartbeats 2000000 in
set_option maxRecDepth 100000 in
theorem utf_Decode.calls (a0 : ByteArray) (r1 : List Int) (r2 r3 : Int) (w : World) (hG : Glob.G w) (h : utf_Decode.f a0 = some (r1, r2, r3)) :
    Calls Tryd.prog 12 #[.string a0] w fun e w' => ∃ v0_ : Value, e = .returned (.tuple #[v0_, .agg #[.int .i64 r2, .int .i64 r3]]) ∧ Kd.R (Kd.int .i64) 3 w' w.heap.size (fun _ => True) v0_ r1 ∧ Below w.heap.size w w' := by
  unfold utf_Decode.f at h
  by_cases c : a0.size ≤ 1099511627775
  · rw [if_pos c] at h
    have hL := size_list a0
    unfold decodeB at h
    rw [← hL] at h
    have hH : Glob.G ((w.alloc (.cells #[.int .i64 0, .int .i64 0] 24)).alloc (.cells #[.slice none 0 0] 31)) := hG.below (((Below.refl _ w).alloc (Nat.le_refl _) _).alloc (by simp) _)
    obtain ⟨W0, hW0⟩ : ∃ W0, W0 = (w.alloc (.cells #[.int .i64 0, .int .i64 0] 24)).alloc (.cells #[.slice none 0 0] 31) := ⟨_, rfl⟩
    have hbx : Box w.heap.size (w.heap.size + 1) [] W0 := by
      refine ⟨.slice none 0 0, ?_, ?_⟩
      · rw [hW0]; have := heap_alloc_new (w.alloc (.cells #[.int .i64 0, .int .i64 0] 24)) (.cells #[.slice none 0 0] 31); simpa using this
      · exact ⟨rfl, .inl ⟨rfl, rfl⟩⟩
    have hf0 : W0.heap[w.heap.size]? = some (.cells #[.int .i64 0, .int .i64 0] 24 (0, 0)) := by
      rw [hW0, Lib.alloc_old _ _ _ (by simp)]; exact heap_alloc_new w _
    have hbel : Below w.heap.size w W0 := by rw [hW0]; exact ((Below.refl _ w).alloc (Nat.le_refl _) _).alloc (by simp) _
    have hsz : w.heap.size ≤ W0.heap.size := hbel.size
    have HW := Lib.hid (walk_dec a0 w.heap.size (w.heap.size + 1) W0 w hG hbel rfl c hbx (by omega) hsz)
    subst hW0
    go_enter Tryd.func12, Tryd.ntmps12
    go_wp2_with (first | (go_at_call 25; refine HW.out.mono ?_; rintro e w1 ⟨rfl, hbx1, hs1⟩))
    have hbel1 := hbel.trans hs1.1
    have hG1 := hG.below hbel1
    by_cases q : (goB a0.data.toList).2 < a0.size
    · rw [if_pos q] at h
      simp only [Option.some.injEq, Prod.mk.injEq] at h
      obtain ⟨rfl, rfl, rfl⟩ := h
      have h2 : utf_fault.f a0 (goB a0.data.toList).2 = some (8, ((goB a0.data.toList).2 : Int)) := by unfold utf_fault.f; rw [if_pos (by omega)]
      have H2 := Lib.hid h2
      clear h2 HW q
      go_wp2_with (first | (go_at_call 27; refine (utf_fault.calls _ _ _ _ _ hG1 H2.out).mono ?_; rintro e w2 ⟨rfl, hb2⟩; have hf2 := (hb2.block w.heap.size (Bld.at_lt (hs1.2 _ _ _ hf0 (by decide) (by omega)))).trans (hs1.2 _ _ _ hf0 (by decide) (by omega)); have hc0 : w2.cell? ⟨w.heap.size, 0, none⟩ = some (.int .i64 0) := by { rw [blk_cell hf2]; rfl }; have hc1 : w2.cell? ⟨w.heap.size, 1, none⟩ = some (.int .i64 0) := by { rw [blk_cell hf2]; rfl }; have hz0 := blk_frozen hf2 0; have hz1 := blk_frozen hf2 1; have hz := Bld.at_lt hf2))
      have HBel := Lib.hid (hbel1.trans (hb2.mono hbel1.size))
      have hzz := hb2.size
      go_region
      all_goals
        go_wp2
        have hset := two_set hf2 (.int .i64 8) (.int .i64 (goB a0.data.toList).2) (.cells #[.int .i64 8, .int .i64 (goB a0.data.toList).2] 24)
        refine bodyPost_ret (v := .tuple #[.slice none 0 0, .agg #[.int .i64 8, .int .i64 (goB a0.data.toList).2]]) (by simp [results, Tryd.results12, go_sem, hset.1, hset.2]) rfl ?_
        refine ⟨.slice none 0 0, rfl, Kd.R_nil _ _ _ _ _, ?_⟩
        exact Below.drew ((((HBel.out.setCell (p := ⟨w.heap.size, 0, none⟩) (Nat.le_refl _) _).setCell (p := ⟨w.heap.size, 1, none⟩) (Nat.le_refl _) _).alloc (by simp; omega) _))
    · rw [if_neg q] at h
      simp only [Option.some.injEq, Prod.mk.injEq] at h
      obtain ⟨rfl, rfl, rfl⟩ := h
      have h2 : utf_fault.f a0 (goB a0.data.toList).2 = some (0, 0) := by unfold utf_fault.f; rw [if_neg (by omega)]
      have H2 := Lib.hid h2
      clear h2 HW q
      generalize (goB a0.data.toList).2 = n at *
      go_wp2_with (first | (go_at_call 27; refine (utf_fault.calls _ _ _ _ _ hG1 H2.out).mono ?_; rintro e w2 ⟨rfl, hb2⟩; have hf2 := (hb2.block w.heap.size (Bld.at_lt (hs1.2 _ _ _ hf0 (by decide) (by omega)))).trans (hs1.2 _ _ _ hf0 (by decide) (by omega)); have hc0 : w2.cell? ⟨w.heap.size, 0, none⟩ = some (.int .i64 0) := by { rw [blk_cell hf2]; rfl }; have hc1 : w2.cell? ⟨w.heap.size, 1, none⟩ = some (.int .i64 0) := by { rw [blk_cell hf2]; rfl }; have hz0 := blk_frozen hf2 0; have hz1 := blk_frozen hf2 1; have hz := Bld.at_lt hf2; obtain ⟨v, hg2, hown⟩ := (hbx1.of_below hb2).ex; have hcg : w2.cell? ⟨w.heap.size + 1, 0, none⟩ = some v := by { rw [blk_cell hg2]; rfl }; obtain ⟨ao, cap, rfl⟩ := own_slice hown; have hzg := Bld.at_lt hg2))
      have HBel := Lib.hid (hbel1.trans (hb2.mono hbel1.size))
      have hzz := hb2.size
      have hset := two_set hf2 (.int .i64 0) (.int .i64 0) (.cells #[.int .i64 0, .int .i64 0] 24)
      refine bodyPost_ret (v := .tuple #[.slice ao (goB a0.data.toList).1.length cap, .agg #[.int .i64 0, .int .i64 0]]) (by simp [results, Tryd.results12, go_sem, hset.1, hset.2]) rfl ?_
      refine ⟨_, rfl, ?_, ((HBel.out.setCell (p := ⟨w.heap.size, 0, none⟩) (Nat.le_refl _) _).setCell (p := ⟨w.heap.size, 1, none⟩) (Nat.le_refl _) _).alloc (by simp; omega) _⟩
      have hne := own_ne hown hf2 (by decide)
      have hR : Kd.R (Kd.int .i64) 3 w2 w.heap.size (fun k => k ≠ w.heap.size) (.slice ao (goB a0.data.toList).1.length cap) (goB a0.data.toList).1 := Kd.R_of_own hown (fun k hk e => hne (by rw [hk, e]))
      exact Kd.R_mono (Kd.R_alloc (Kd.R_far (Kd.R_far hR (fun k hk => hk) _) (fun k hk => hk) _) _) (fun _ _ => trivial)
  · rw [if_neg c] at h; cases h
end Go.Proofs.YtidbneljichnhaaDoor.Plug

/- Texts put in double quotes (quote.Double), by hand, in the form in which the printed functions are told. Conditions: the text has at most 2^40 bytes. -/
namespace Go.Proofs.YtidbneljichnhaaDoor.Plug
open Go.RowKit Go.Proofs.YtidbneljichnhaaDoor Go.Proofs.YtidbneljichnhaaDoor.PX Go.Proofs.YtidbneljichnhaaDoor.Utf Go.Proofs.YtidbneljichnhaaDoorW.PrintWords Go.Proofs.YtidbneljichnhaaDoorW.PrintLast

theorem goF_signs : ∀ (k : Nat) (l : List UInt8) (i : Nat) (acc : List Int), i ≤ l.length → l.length ≤ i + k →
    (∀ zs, signsF k (l.drop i) = some zs → goF k l i acc = (acc ++ zs, l.length)) ∧ (signsF k (l.drop i) = none → (goF k l i acc).2 < l.length)
  | 0, l, i, acc, h1, h2 => by
    refine And.intro (fun zs h => ?_) (fun h => by simp [signsF] at h)
    simp only [signsF, Option.some.injEq] at h
    subst h
    rw [goF, List.append_nil, show i = l.length by omega]
  | k + 1, l, i, acc, h1, h2 => by
    by_cases c : i < l.length
    · have hne : l.drop i ≠ [] := fun e => by have := congrArg List.length e; rw [List.length_drop, List.length_nil] at this; omega
      have hw := dec_len _ hne
      rw [List.length_drop] at hw
      rw [goF, if_pos c, signsF, if_neg hne]
      by_cases d : (dec (l.drop i)).1 < 0
      · rw [if_pos d, if_pos d]; exact ⟨fun zs h => (by cases h), fun _ => c⟩
      · rw [if_neg d, if_neg d, List.drop_drop]
        obtain ⟨i1, i2⟩ := goF_signs k l (i + (dec (l.drop i)).2) (acc ++ [(dec (l.drop i)).1]) (by omega) (by omega)
        refine ⟨fun zs h => ?_, fun h => i2 (Option.map_eq_none_iff.1 h)⟩
        obtain ⟨ys, hy, rfl⟩ := Option.map_eq_some_iff.1 h
        rw [i1 ys hy, List.append_assoc]; rfl
    · have hi : i = l.length := by omega
      rw [goF_end _ _ _ _ c, hi, List.drop_length]
      refine And.intro (fun zs h => ?_) (fun h => by simp [signsF] at h)
      simp only [signsF, if_pos, Option.some.injEq] at h
      subst h; rw [List.append_nil]
theorem decode_some {l : List UInt8} {zs : List Int} (h : signs l = some zs) : decodeB l = (zs, 0, 0) := by
  have := (goF_signs l.length l 0 [] (Nat.zero_le _) (by omega)).1 zs (by rw [List.drop_zero]; exact h)
  unfold decodeB goB
  rw [this, if_neg (by simp)]; rfl
theorem decode_none {l : List UInt8} (h : signs l = none) : decodeB l = ([], 8, ((goB l).2 : Int)) := by
  have := (goF_signs l.length l 0 [] (Nat.zero_le _) (by omega)).2 (by rw [List.drop_zero]; exact h)
  unfold decodeB
  rw [if_pos (show (goB l).2 < l.length from this)]

theorem of_bytes {s : ByteArray} {l : List UInt8} (h : s.data.toList = l) : s = ⟨l.toArray⟩ := by
  cases s with
  | mk d => subst h; rfl
theorem app_bytes (a b : ByteArray) : (a ++ b).data.toList = a.data.toList ++ b.data.toList := by
  rw [ByteArray.data_append, Array.toList_append]

def doubleOf (l : List UInt8) : List UInt8 × Int := match signs l with
  | some zs => (doubleB zs, 0)
  | none => ([], 8)
def quote_Double.f (a0 : ByteArray) : Option (ByteArray × Int) := if a0.size ≤ 1099511627775 then some (⟨(doubleOf a0.data.toList).1.toArray⟩, (doubleOf a0.data.toList).2) else none

theorem signs_len : ∀ (k : Nat) (l : List UInt8) (zs : List Int), signsF k l = some zs → zs.length ≤ l.length
  | 0, l, zs, h => by simp [signsF] at h; subst h; simp
  | k + 1, l, zs, h => by
    unfold signsF at h
    by_cases hn : l = []
    · rw [if_pos hn] at h; cases Option.some.inj h; simp
    rw [if_neg hn] at h
    by_cases hd : (dec l).1 < 0
    · rw [if_pos hd] at h; cases h
    rw [if_neg hd] at h
    obtain ⟨ys, hy, rfl⟩ := Option.map_eq_some_iff.1 h
    have hw := dec_len l hn
    have := signs_len k _ ys hy
    rw [List.length_drop] at this
    rw [List.length_cons]; omega
theorem escs_len (zs : List Int) : (zs.flatMap escS).length ≤ 10 * zs.length := by
  induction zs with
  | nil => simp
  | cons z zs ih => rw [List.flatMap_cons, List.length_append, List.length_cons]; have := escS_len z; omega

set_option maxHeartbeats 1600000 in
set_option maxRecDepth 100000 in
theorem double_ok (s : ByteArray) (zs : List Int) (hs : s.size ≤ 1099511627775) (hz : signs s.data.toList = some zs) (w : World) (hG : Glob.G w) :
    Calls Tryd.prog 11 #[.string s] w fun e w' => e = .returned (.tuple #[.string ⟨(doubleB zs).toArray⟩, .int .i64 0]) ∧ Below w.heap.size w w' := by
  have hlen := signs_len _ _ _ hz
  rw [← size_list] at hlen
  have hall := (signs_some hz).2
  have hD : utf_Decode.f s = some (zs, 0, 0) := by unfold utf_Decode.f; rw [if_pos hs, decode_some hz]
  have HD := Lib.hid hD
  have HA := Lib.hid hall
  clear hD hall hz
  go_enter Tryd.func11, Tryd.ntmps11
  go_wp2_with (go_at_call 12; refine (utf_Decode.calls _ _ _ _ _ hG HD.out).mono ?_; rintro e w1 ⟨v, rfl, hR, hb1⟩; obtain ⟨A, c, rfl⟩ := Kd.R_slice hR)
  have hC := (Kd.R_reads' hR).2.2
  have HG0 : Hid (Glob.G (w1.alloc (.cells #[.int .i64 0, .int .i64 0] 24))) := Lib.hid ((hG.below hb1).below ((Below.refl _ _).alloc (Nat.le_refl _) _))
  have hfr := Lib.fresh_isBuilder 55 5 (w1.alloc (.cells #[.int .i64 0, .int .i64 0] 24))
  have hsz : (w1.alloc (.cells #[.int .i64 0, .int .i64 0] 24)).heap.size = w1.heap.size + 1 := by simp
  go_loopw [21] (fun a wr => ∃ i : Nat, i ≤ zs.length ∧ a = .int .i64 i ∧ St (w1.alloc (.cells #[.int .i64 0, .int .i64 0] 24)) (w1.heap.size + 1) ((zs.take i).flatMap escS) wr) (fun a _ => zs.length - (intOf a).toNat)
  case atStart =>
    refine ⟨0, Nat.zero_le _, rfl, ⟨?_, (Below.refl _ _).alloc (Nat.le_refl _) _⟩⟩
    rw [hsz] at hfr ⊢
    exact Lib.IsBuilderF.of hfr
  case round =>
    obtain ⟨i, hi, rfl, hst⟩ := hrel
    by_cases hlt : i < zs.length
    · have hc : decide ((i : Int) < (zs.length : Int)) = true := by simp; omega
      obtain ⟨ad, rfl, hx⟩ := Kd.at_int hC (i : Int) (by omega) (by omega)
      rw [rd_at zs i hlt, Int.toNat_natCast] at hx
      have hadlt := World.block_lt_of_cell? w1 _ hx
      have hx0 : (w1.alloc (.cells #[.int .i64 0, .int .i64 0] 24)).cell? (ad.add i) = some (.int .i64 zs[i]) := (((Below.refl w1.heap.size w1).alloc (Nat.le_refl _) _).cell hadlt).trans hx
      have hx1 := (hst.bel.cell (World.block_lt_of_cell? _ _ hx0)).trans hx0
      have p1 : (0 ≤ (i : Int)) = True := eq_true (by omega)
      have p2 : ((i : Int) < (zs.length : Int)) = True := eq_true (by omega)
      have hsg := HA.out zs[i] (List.getElem_mem hlt)
      have htk : (zs.take (i + 1)).flatMap escS = (zs.take i).flatMap escS ++ escS zs[i] := by rw [List.take_succ_eq_append_getElem hlt, List.flatMap_append]; simp
      have HT := Lib.hid htk
      have hl2 := escs_len (zs.take i)
      have hl3 : (zs.take i).length ≤ zs.length := by rw [List.length_take]; omega
      clear htk hx hx0 hC hR hfr
      generalize zs[i] = x at *
      go_wp2_with (go_at_call 24; refine (put_is HG0.out hst x hsg (by omega)).mono ?_; rintro e w2 ⟨rfl, h2, k2⟩)
      go_roundw
      case rel => exact ⟨i + 1, by omega, by go_num, by rw [HT.out]; exact h2⟩
      case measure => simp [intOf]; omega
    · have hc : decide ((i : Int) < (zs.length : Int)) = false := by simp; omega
      have hie : i = zs.length := by omega
      subst hie
      rw [List.take_length] at hst
      have hl2 := escs_len zs
      have hbS := hst.bel
      have hgot := Bld.got _ _ _ _ _ hst.bld hst.bel.size
      obtain ⟨t, ht⟩ : ∃ t : ByteArray, t = ⟨(zs.flatMap escS).toArray⟩ := ⟨_, rfl⟩
      have hts : t.size ≤ 10 * zs.length := by rw [ht]; exact hl2
      rw [← ht] at hgot
      have hfin : ((⟨#[34]⟩ : ByteArray) ++ t) ++ (⟨#[34]⟩ : ByteArray) = ⟨(doubleB zs).toArray⟩ := of_bytes (by rw [app_bytes, app_bytes, ht]; rfl)
      have HF := Lib.hid hfin
      have s1 : 1 + t.size ≤ 9223372036854775807 := by omega
      have s2 : ((⟨#[34]⟩ : ByteArray) ++ t).size + 1 ≤ 9223372036854775807 := by
        rw [size_list, app_bytes, List.length_append, ← size_list t]
        show 1 + t.size + 1 ≤ _
        omega
      clear hC hR hfr hfin ht hl2
      go_wp2_with (go_at_call 18; refine hgot.mono ?_; rintro e w3 ⟨rfl, hb3⟩)
      go_ret2
      refine ⟨by rw [← HF.out]; rfl, ?_⟩
      have q1 := (Below.refl w1.heap.size w1).alloc (Nat.le_refl _) (.cells #[.int .i64 0, .int .i64 0] 24)
      exact hb1.trans ((q1.trans ((hbS.trans hb3).mono (by omega))).mono hb1.size)

set_option maxHeartbeats 1600000 in
set_option maxRecDepth 100000 in
theorem double_bad (s : ByteArray) (hs : s.size ≤ 1099511627775) (hz : signs s.data.toList = none) (w : World) (hG : Glob.G w) :
    Calls Tryd.prog 11 #[.string s] w fun e w' => e = .returned (.tuple #[.string ⟨#[]⟩, .int .i64 8]) ∧ Below w.heap.size w w' := by
  have hD : utf_Decode.f s = some ([], 8, ((goB s.data.toList).2 : Int)) := by unfold utf_Decode.f; rw [if_pos hs, decode_none hz]
  have HD := Lib.hid hD
  clear hD hz
  go_enter Tryd.func11, Tryd.ntmps11
  go_wp2_with (go_at_call 12; refine (utf_Decode.calls _ _ _ _ _ hG HD.out).mono ?_; rintro e w1 ⟨v, rfl, hR, hb1⟩; obtain ⟨A, c, rfl⟩ := Kd.R_slice hR)
  go_ret2
  exact ⟨rfl, hb1.trans (((Below.refl w1.heap.size w1).alloc (Nat.le_refl _) _).mono hb1.size)⟩

theorem quote_Double.calls (a0 : ByteArray) (r1 : ByteArray) (r2 : Int) (w : World) (hG : Glob.G w) (h : quote_Double.f a0 = some (r1, r2)) :
    Calls Tryd.prog 11 #[.string a0] w fun e w' => e = .returned (.tuple #[.string r1, .int .i64 r2]) ∧ Below w.heap.size w w' := by
  unfold quote_Double.f at h
  by_cases hs : a0.size ≤ 1099511627775
  · rw [if_pos hs] at h
    obtain ⟨rfl, rfl⟩ := Prod.mk.inj (Option.some.inj h)
    unfold doubleOf
    cases hz : signs a0.data.toList with
    | some zs => exact double_ok a0 zs hs hz w hG
    | none => exact double_bad a0 hs hz w hG
  · rw [if_neg hs] at h; cases h
end Go.Proofs.YtidbneljichnhaaDoor.Plug

/- YtidbneljichnhaaDoorFGrommetlaw07Alive: what print.py told of Go functions, for this claim. -/
namespace Go.Proofs.YtidbneljichnhaaDoor.PX
open Go.RowKit Go.Proofs.YtidbneljichnhaaDoorW.PrintWords Go.Proofs.YtidbneljichnhaaDoorW.PrintLast Go.Proofs.YtidbneljichnhaaDoorW.PrintMore Go.Proofs.YtidbneljichnhaaDoor Go.Proofs.YtidbneljichnhaaDoor.Plug
attribute [local go_sem] max2_int min2_int max_two min_two max_three min_three max_four min_four   -- for this text's walks alone
set_option linter.unusedVariables false
set_option linter.unusedSimpArgs false

attribute [local go_sem high] eqA24
/-! ### grommetlaw07_alive: function 10 -/
def grommetlaw07_alive.f  : Option (Bool) := (quote_Read.f (⟨#[39, 105, 116, 39, 39, 115, 39, 32, 120]⟩ : ByteArray)).bind fun bt101 => ((quote_Read.f (⟨#[34, 92, 117, 48, 48, 101, 57, 34]⟩ : ByteArray)).bind fun bt106 => ((quote_Double.f (⟨#[97, 10, 34]⟩ : ByteArray)).bind fun bt111 => (if bt101.1.toList = ([105, 116, 39, 115] : List UInt8) then (if bt101.2.1 = 7 then (if (bt101.2.2.1 == 0 && (bt101.2.2.2 == 0)) = true then (if bt106.1.toList = ([195, 169] : List UInt8) then (if bt106.2.1 = 8 then (if (bt106.2.2.1 == 0 && (bt106.2.2.2 == 0)) = true then (if bt111.1.toList = ([34, 97, 92, 110, 92, 34, 34] : List UInt8) then (some (bt111.2 == 0)) else (some false)) else (some false)) else (some false)) else (some false)) else (some false)) else (some false)) else (some false))))
set_option maxHeartbeats 8000000 in
set_option maxRecDepth 100000 in
theorem grommetlaw07_alive.calls  (r : Bool) (w : World) (hG : Glob.G w) (h : grommetlaw07_alive.f  = some r) :
    Calls Tryd.prog 10 #[] w fun e w' => e = .returned (.bool r) ∧ Below w.heap.size w w' := by
  have hu24 := Tryd.underlying24
  have HB := Aside0.mk (Below.refl w.heap.size w)
  have H : ((quote_Read.f (⟨#[39, 105, 116, 39, 39, 115, 39, 32, 120]⟩ : ByteArray)).bind fun bt101 => ((quote_Read.f (⟨#[34, 92, 117, 48, 48, 101, 57, 34]⟩ : ByteArray)).bind fun bt106 => ((quote_Double.f (⟨#[97, 10, 34]⟩ : ByteArray)).bind fun bt111 => (if bt101.1.toList = ([105, 116, 39, 115] : List UInt8) then (if bt101.2.1 = 7 then (if (bt101.2.2.1 == 0 && (bt101.2.2.2 == 0)) = true then (if bt106.1.toList = ([195, 169] : List UInt8) then (if bt106.2.1 = 8 then (if (bt106.2.2.1 == 0 && (bt106.2.2.2 == 0)) = true then (if bt111.1.toList = ([34, 97, 92, 110, 92, 34, 34] : List UInt8) then (some (bt111.2 == 0)) else (some false)) else (some false)) else (some false)) else (some false)) else (some false)) else (some false)) else (some false))))) = some r := h
  clear h
  replace H := Option.bind_eq_some_iff.mp H
  obtain ⟨⟨t101, t102, t103, t104⟩, A10, H⟩ := H
  replace H : ((quote_Read.f (⟨#[34, 92, 117, 48, 48, 101, 57, 34]⟩ : ByteArray)).bind fun bt106 => ((quote_Double.f (⟨#[97, 10, 34]⟩ : ByteArray)).bind fun bt111 => (if t101.toList = ([105, 116, 39, 115] : List UInt8) then (if t102 = 7 then (if (t103 == 0 && (t104 == 0)) = true then (if bt106.1.toList = ([195, 169] : List UInt8) then (if bt106.2.1 = 8 then (if (bt106.2.2.1 == 0 && (bt106.2.2.2 == 0)) = true then (if bt111.1.toList = ([34, 97, 92, 110, 92, 34, 34] : List UInt8) then (some (bt111.2 == 0)) else (some false)) else (some false)) else (some false)) else (some false)) else (some false)) else (some false)) else (some false)))) = some r := H
  have A1 := Aside0.mk A10
  clear A10
  replace H := Option.bind_eq_some_iff.mp H
  obtain ⟨⟨t106, t107, t108, t109⟩, A20, H⟩ := H
  replace H : ((quote_Double.f (⟨#[97, 10, 34]⟩ : ByteArray)).bind fun bt111 => (if t101.toList = ([105, 116, 39, 115] : List UInt8) then (if t102 = 7 then (if (t103 == 0 && (t104 == 0)) = true then (if t106.toList = ([195, 169] : List UInt8) then (if t107 = 8 then (if (t108 == 0 && (t109 == 0)) = true then (if bt111.1.toList = ([34, 97, 92, 110, 92, 34, 34] : List UInt8) then (some (bt111.2 == 0)) else (some false)) else (some false)) else (some false)) else (some false)) else (some false)) else (some false)) else (some false))) = some r := H
  have A2 := Aside0.mk A20
  clear A20
  replace H := Option.bind_eq_some_iff.mp H
  obtain ⟨⟨t111, t112⟩, A30, H⟩ := H
  replace H : (if t101.toList = ([105, 116, 39, 115] : List UInt8) then (if t102 = 7 then (if (t103 == 0 && (t104 == 0)) = true then (if t106.toList = ([195, 169] : List UInt8) then (if t107 = 8 then (if (t108 == 0 && (t109 == 0)) = true then (if t111.toList = ([34, 97, 92, 110, 92, 34, 34] : List UInt8) then (some (t112 == 0)) else (some false)) else (some false)) else (some false)) else (some false)) else (some false)) else (some false)) else (some false)) = some r := H
  have A3 := Aside0.mk A30
  clear A30
  by_cases c4 : t101.toList = ([105, 116, 39, 115] : List UInt8)
  · rw [if_pos c4] at H
    have c4b0 : (t101.toList == ([105, 116, 39, 115] : List UInt8)) = true := beq_iff_eq.mpr c4
    have c4b1 : (t101.toList != ([105, 116, 39, 115] : List UInt8)) = false := bne_eq_false_iff_eq.mpr c4
    clear c4
    by_cases c5 : t102 = 7
    · rw [if_pos c5] at H
      have c5b0 : (t102 == 7) = true := beq_iff_eq.mpr c5
      have c5b1 : (t102 != 7) = false := bne_eq_false_iff_eq.mpr c5
      clear c5
      by_cases c6 : (t103 == 0 && (t104 == 0)) = true
      · rw [if_pos c6] at H
        have c6b0 : (t103 == 0 && (t104 == 0)) = true := c6
        (try (have c6b1 : decide (t103 = 0 && (t104 == 0)) = true := by simpa using c6))
        (try (have c6b2 : (t103 == 0 && (t104 == 0)) = true := by simpa using c6))
        clear c6
        by_cases c7 : t106.toList = ([195, 169] : List UInt8)
        · rw [if_pos c7] at H
          have c7b0 : (t106.toList == ([195, 169] : List UInt8)) = true := beq_iff_eq.mpr c7
          have c7b1 : (t106.toList != ([195, 169] : List UInt8)) = false := bne_eq_false_iff_eq.mpr c7
          clear c7
          by_cases c8 : t107 = 8
          · rw [if_pos c8] at H
            have c8b0 : (t107 == 8) = true := beq_iff_eq.mpr c8
            have c8b1 : (t107 != 8) = false := bne_eq_false_iff_eq.mpr c8
            clear c8
            by_cases c9 : (t108 == 0 && (t109 == 0)) = true
            · rw [if_pos c9] at H
              have c9b0 : (t108 == 0 && (t109 == 0)) = true := c9
              (try (have c9b1 : decide (t108 = 0 && (t109 == 0)) = true := by simpa using c9))
              (try (have c9b2 : (t108 == 0 && (t109 == 0)) = true := by simpa using c9))
              clear c9
              by_cases c10 : t111.toList = ([34, 97, 92, 110, 92, 34, 34] : List UInt8)
              · rw [if_pos c10] at H
                have c10b0 : (t111.toList == ([34, 97, 92, 110, 92, 34, 34] : List UInt8)) = true := beq_iff_eq.mpr c10
                have c10b1 : (t111.toList != ([34, 97, 92, 110, 92, 34, 34] : List UInt8)) = false := bne_eq_false_iff_eq.mpr c10
                clear c10
                obtain rfl := Option.some.inj H
                go_enter Tryd.func10, Tryd.ntmps10
                go_wp2_with (first | ((with_reducible refine gate_callee (f := 8) rfl ?_); refine goesL_ (some 10) rfl rfl Tryd.func8 (by kernel_rfl) rfl #[.string (⟨#[39, 105, 116, 39, 39, 115, 39, 32, 120]⟩ : ByteArray)] rfl (by (try simp only [List.map_toArray, List.map_cons, List.map_nil]); first | done | rfl | (simp only [List.length_drop, List.length_take]; rfl)) ?_; (with_reducible refine (quote_Read.calls (⟨#[39, 105, 116, 39, 39, 115, 39, 32, 120]⟩ : ByteArray) t101 t102 t103 t104 _ (hG.below (by first | ((repeat (first | (with_reducible first | exact HB.out | apply below_alloc | apply pw_below_drewN | apply below_drew1 | (refine Glob.below_set ?_ (by assumption) _ _ _)) | exact HB.out)); done) | (refine Drawn0.below ?_; repeat (first | exact Drawn0.refl _ | assumption | apply Drawn0.step)))) A1.out).mono ?_); rintro e w11 ⟨rfl, hb⟩; refine ⟨_, rfl, ?_⟩; have n0_ := Aside0.mk (below_step (by repeat (first | (with_reducible first | exact HB.out | apply below_alloc | apply pw_below_drewN | apply below_drew1) | exact HB.out)) hb); clear HB; have HB := n0_; clear n0_; (try clear hb); (try clear hb2); (try clear hk); (try clear hi)) | ((with_reducible refine gate_dst (N := 3) rfl ?_); refine box_event ?hg (N := 3) ?hd (cs := #[.int .i64 0, .int .i64 0]) (t := 24) ?hr ?_; (case hd => rfl); (case hg => rfl); (case hr => first | (go_simp; done) | (go_simp; rfl)); intro gb105 hg w12 hbox hb; have n0_ := Aside0.mk (below_step (by repeat (first | (with_reducible first | exact HB.out | apply below_alloc | apply pw_below_drewN | apply below_drew1) | exact HB.out)) hb); have n1_ := Aside0.mk (hbox); have n2_ := Aside0.mk ((by rw [hg]; exact (below_size (by repeat (first | (with_reducible first | exact HB.out | apply below_alloc | apply pw_below_drewN | apply below_drew1) | exact HB.out))) : w.heap.size ≤ gb105)); have n3_ := Aside0.mk ((by rw [hg]; exact (below_size (by repeat (first | (with_reducible first | exact HB.out | apply below_alloc | apply pw_below_drewN | apply below_drew1) | exact HB.out))) : w.heap.size ≤ gb105)); clear HB; have HB := n0_; have BK105 := n1_; have GW105 := n2_; have GE105 := n3_; clear n0_ n1_ n2_ n3_; clear hb hbox hg; have hcz13_0 : w12.cell? ⟨gb105, 0, none⟩ = some (.int .i64 0) := (blk_cell BK105.out 0).trans rfl; have hcz13_1 : w12.cell? ⟨gb105, 1, none⟩ = some (.int .i64 0) := (blk_cell BK105.out 1).trans rfl; have hfz13_0 := blk_frozen BK105.out 0; have hfz13_1 := blk_frozen BK105.out 1) | ((with_reducible refine gate_callee (f := 8) rfl ?_); refine goesL_ (some 15) rfl rfl Tryd.func8 (by kernel_rfl) rfl #[.string (⟨#[34, 92, 117, 48, 48, 101, 57, 34]⟩ : ByteArray)] rfl (by (try simp only [List.map_toArray, List.map_cons, List.map_nil]); first | done | rfl | (simp only [List.length_drop, List.length_take]; rfl)) ?_; (with_reducible refine (quote_Read.calls (⟨#[34, 92, 117, 48, 48, 101, 57, 34]⟩ : ByteArray) t106 t107 t108 t109 _ (hG.below (by first | ((repeat (first | (with_reducible first | exact HB.out | apply below_alloc | apply pw_below_drewN | apply below_drew1 | (refine Glob.below_set ?_ (by assumption) _ _ _)) | exact HB.out)); done) | (refine Drawn0.below ?_; repeat (first | exact Drawn0.refl _ | assumption | apply Drawn0.step)))) A2.out).mono ?_); rintro e w14 ⟨rfl, hb⟩; refine ⟨_, rfl, ?_⟩; have n0_ := Aside0.mk (blk_below (g := gb105) (o := .cells #[.int .i64 t103, .int .i64 t104] 24 (0, 0)) (by (with_reducible repeat (first | refine blk_drewN ?_ _ | refine blk_drew ?_ | refine blk_alloc ?_ _)); refine blk_put (cs := #[.int .i64 t103, .int .i64 0]) ?_ 1 _ rfl; (with_reducible repeat (first | refine blk_drewN ?_ _ | refine blk_drew ?_ | refine blk_alloc ?_ _)); refine blk_put (cs := #[.int .i64 0, .int .i64 0]) ?_ 0 _ rfl; (with_reducible repeat (first | refine blk_drewN ?_ _ | refine blk_drew ?_ | refine blk_alloc ?_ _)); exact BK105.out) hb); have n1_ := Aside0.mk (below_step (by repeat (first | (with_reducible first | exact HB.out | apply below_alloc | apply pw_below_drewN | apply below_drew1 | refine below_set ?_ GE105.out) | exact HB.out)) hb); clear BK105; clear HB; have BK105 := n0_; have HB := n1_; clear n0_ n1_; (try clear hb); (try clear hb2); (try clear hk); (try clear hi)) | ((with_reducible refine gate_dst (N := 6) rfl ?_); refine box_event ?hg (N := 6) ?hd (cs := #[.int .i64 0, .int .i64 0]) (t := 24) ?hr ?_; (case hd => rfl); (case hg => rfl); (case hr => first | (go_simp; done) | (go_simp; rfl)); intro gb110 hg w15 hbox hb; have n0_ := Aside0.mk (blk_below (g := gb105) (o := .cells #[.int .i64 t103, .int .i64 t104] 24 (0, 0)) (by (with_reducible repeat (first | refine blk_drewN ?_ _ | refine blk_drew ?_ | refine blk_alloc ?_ _)); exact BK105.out) hb); have n1_ := Aside0.mk (below_step (by repeat (first | (with_reducible first | exact HB.out | apply below_alloc | apply pw_below_drewN | apply below_drew1 | refine below_set ?_ GE105.out) | exact HB.out)) hb); have n2_ := Aside0.mk (hbox); have n3_ := Aside0.mk ((by rw [hg]; exact (below_size (by repeat (first | (with_reducible first | exact HB.out | apply below_alloc | apply pw_below_drewN | apply below_drew1 | refine below_set ?_ GE105.out) | exact HB.out))) : w.heap.size ≤ gb110)); have n4_ := Aside0.mk ((by rw [hg]; exact (below_size (by repeat (first | (with_reducible first | exact HB.out | apply below_alloc | apply pw_below_drewN | apply below_drew1 | refine below_set ?_ GE105.out) | exact HB.out))) : w.heap.size ≤ gb110)); have n5_ := Aside0.mk ((by rw [hg]; exact Nat.ne_of_lt (blk_lt (g := gb105) (o := .cells #[.int .i64 t103, .int .i64 t104] 24 (0, 0)) (by (with_reducible repeat (first | refine blk_drewN ?_ _ | refine blk_drew ?_ | refine blk_alloc ?_ _)); exact BK105.out)) : gb105 ≠ gb110)); have n6_ := Aside0.mk ((by rw [hg]; exact Nat.ne_of_gt (blk_lt (g := gb105) (o := .cells #[.int .i64 t103, .int .i64 t104] 24 (0, 0)) (by (with_reducible repeat (first | refine blk_drewN ?_ _ | refine blk_drew ?_ | refine blk_alloc ?_ _)); exact BK105.out)) : gb110 ≠ gb105)); clear BK105; clear HB; have BK105 := n0_; have HB := n1_; have BK110 := n2_; have GW110 := n3_; have GE110 := n4_; have NB105_110 := n5_; have NB110_105 := n6_; clear n0_ n1_ n2_ n3_ n4_ n5_ n6_; clear hb hbox hg; have hnb16 := NB110_105.out; have hnc16 := NB105_110.out; have hcz17_0 : w15.cell? ⟨gb110, 0, none⟩ = some (.int .i64 0) := (blk_cell BK110.out 0).trans rfl; have hcz17_1 : w15.cell? ⟨gb110, 1, none⟩ = some (.int .i64 0) := (blk_cell BK110.out 1).trans rfl; have hfz17_0 := blk_frozen BK110.out 0; have hfz17_1 := blk_frozen BK110.out 1) | ((with_reducible refine gate_callee (f := 11) rfl ?_); refine goesL_ (some 20) rfl rfl Tryd.func11 (by kernel_rfl) rfl #[.string (⟨#[97, 10, 34]⟩ : ByteArray)] rfl (by (try simp only [List.map_toArray, List.map_cons, List.map_nil]); first | done | rfl | (simp only [List.length_drop, List.length_take]; rfl)) ?_; (with_reducible refine (quote_Double.calls (⟨#[97, 10, 34]⟩ : ByteArray) t111 t112 _ (hG.below (by first | ((repeat (first | (with_reducible first | exact HB.out | apply below_alloc | apply pw_below_drewN | apply below_drew1 | (refine Glob.below_set ?_ (by assumption) _ _ _)) | exact HB.out)); done) | (refine Drawn0.below ?_; repeat (first | exact Drawn0.refl _ | assumption | apply Drawn0.step)))) A3.out).mono ?_); rintro e w18 ⟨rfl, hb⟩; refine ⟨_, rfl, ?_⟩; have n0_ := Aside0.mk (blk_below (g := gb105) (o := .cells #[.int .i64 t103, .int .i64 t104] 24 (0, 0)) (by (with_reducible repeat (first | refine blk_drewN ?_ _ | refine blk_drew ?_ | refine blk_alloc ?_ _)); refine blk_far ?_ NB105_110.out _; (with_reducible repeat (first | refine blk_drewN ?_ _ | refine blk_drew ?_ | refine blk_alloc ?_ _)); refine blk_far ?_ NB105_110.out _; (with_reducible repeat (first | refine blk_drewN ?_ _ | refine blk_drew ?_ | refine blk_alloc ?_ _)); exact BK105.out) hb); have n1_ := Aside0.mk (blk_below (g := gb110) (o := .cells #[.int .i64 t108, .int .i64 t109] 24 (0, 0)) (by (with_reducible repeat (first | refine blk_drewN ?_ _ | refine blk_drew ?_ | refine blk_alloc ?_ _)); refine blk_put (cs := #[.int .i64 t108, .int .i64 0]) ?_ 1 _ rfl; (with_reducible repeat (first | refine blk_drewN ?_ _ | refine blk_drew ?_ | refine blk_alloc ?_ _)); refine blk_put (cs := #[.int .i64 0, .int .i64 0]) ?_ 0 _ rfl; (with_reducible repeat (first | refine blk_drewN ?_ _ | refine blk_drew ?_ | refine blk_alloc ?_ _)); exact BK110.out) hb); have n2_ := Aside0.mk (below_step (by repeat (first | (with_reducible first | exact HB.out | apply below_alloc | apply pw_below_drewN | apply below_drew1 | refine below_set ?_ GE105.out | refine below_set ?_ GE110.out) | exact HB.out)) hb); clear BK105; clear BK110; clear HB; have BK105 := n0_; have BK110 := n1_; have HB := n2_; clear n0_ n1_ n2_; (try clear hb); (try clear hb2); (try clear hk); (try clear hi); have hcz19_0 : w18.cell? ⟨gb105, 0, none⟩ = some (.int .i64 t103) := (blk_cell BK105.out 0).trans rfl; have hcz19_1 : w18.cell? ⟨gb105, 1, none⟩ = some (.int .i64 t104) := (blk_cell BK105.out 1).trans rfl; have hfz19_0 := blk_frozen BK105.out 0; have hfz19_1 := blk_frozen BK105.out 1; have hcz20_0 : w18.cell? ⟨gb110, 0, none⟩ = some (.int .i64 t108) := (blk_cell BK110.out 0).trans rfl; have hcz20_1 : w18.cell? ⟨gb110, 1, none⟩ = some (.int .i64 t109) := (blk_cell BK110.out 1).trans rfl; have hfz20_0 := blk_frozen BK110.out 0; have hfz20_1 := blk_frozen BK110.out 1))
                go_ret
                exact ⟨by first | rfl | (simp [errW_none, errW_some] <;> rfl) | (simp [*, errW_none, errW_some] <;> rfl), by repeat (first | (with_reducible first | exact HB.out | apply below_alloc | apply pw_below_drewN | apply below_drew1 | refine below_set ?_ GE105.out | refine below_set ?_ GE110.out) | exact HB.out)⟩
              · rw [if_neg c10] at H
                have c10b0 : (t111.toList == ([34, 97, 92, 110, 92, 34, 34] : List UInt8)) = false := beq_eq_false_iff_ne.mpr c10
                have c10b1 : (t111.toList != ([34, 97, 92, 110, 92, 34, 34] : List UInt8)) = true := bne_iff_ne.mpr c10
                obtain rfl := Option.some.inj H
                go_enter Tryd.func10, Tryd.ntmps10
                go_wp2_with (first | ((with_reducible refine gate_callee (f := 8) rfl ?_); refine goesL_ (some 10) rfl rfl Tryd.func8 (by kernel_rfl) rfl #[.string (⟨#[39, 105, 116, 39, 39, 115, 39, 32, 120]⟩ : ByteArray)] rfl (by (try simp only [List.map_toArray, List.map_cons, List.map_nil]); first | done | rfl | (simp only [List.length_drop, List.length_take]; rfl)) ?_; (with_reducible refine (quote_Read.calls (⟨#[39, 105, 116, 39, 39, 115, 39, 32, 120]⟩ : ByteArray) t101 t102 t103 t104 _ (hG.below (by first | ((repeat (first | (with_reducible first | exact HB.out | apply below_alloc | apply pw_below_drewN | apply below_drew1 | (refine Glob.below_set ?_ (by assumption) _ _ _)) | exact HB.out)); done) | (refine Drawn0.below ?_; repeat (first | exact Drawn0.refl _ | assumption | apply Drawn0.step)))) A1.out).mono ?_); rintro e w21 ⟨rfl, hb⟩; refine ⟨_, rfl, ?_⟩; have n0_ := Aside0.mk (below_step (by repeat (first | (with_reducible first | exact HB.out | apply below_alloc | apply pw_below_drewN | apply below_drew1) | exact HB.out)) hb); clear HB; have HB := n0_; clear n0_; (try clear hb); (try clear hb2); (try clear hk); (try clear hi)) | ((with_reducible refine gate_dst (N := 3) rfl ?_); refine box_event ?hg (N := 3) ?hd (cs := #[.int .i64 0, .int .i64 0]) (t := 24) ?hr ?_; (case hd => rfl); (case hg => rfl); (case hr => first | (go_simp; done) | (go_simp; rfl)); intro gb105 hg w22 hbox hb; have n0_ := Aside0.mk (below_step (by repeat (first | (with_reducible first | exact HB.out | apply below_alloc | apply pw_below_drewN | apply below_drew1) | exact HB.out)) hb); have n1_ := Aside0.mk (hbox); have n2_ := Aside0.mk ((by rw [hg]; exact (below_size (by repeat (first | (with_reducible first | exact HB.out | apply below_alloc | apply pw_below_drewN | apply below_drew1) | exact HB.out))) : w.heap.size ≤ gb105)); have n3_ := Aside0.mk ((by rw [hg]; exact (below_size (by repeat (first | (with_reducible first | exact HB.out | apply below_alloc | apply pw_below_drewN | apply below_drew1) | exact HB.out))) : w.heap.size ≤ gb105)); clear HB; have HB := n0_; have BK105 := n1_; have GW105 := n2_; have GE105 := n3_; clear n0_ n1_ n2_ n3_; clear hb hbox hg; have hcz23_0 : w22.cell? ⟨gb105, 0, none⟩ = some (.int .i64 0) := (blk_cell BK105.out 0).trans rfl; have hcz23_1 : w22.cell? ⟨gb105, 1, none⟩ = some (.int .i64 0) := (blk_cell BK105.out 1).trans rfl; have hfz23_0 := blk_frozen BK105.out 0; have hfz23_1 := blk_frozen BK105.out 1) | ((with_reducible refine gate_callee (f := 8) rfl ?_); refine goesL_ (some 15) rfl rfl Tryd.func8 (by kernel_rfl) rfl #[.string (⟨#[34, 92, 117, 48, 48, 101, 57, 34]⟩ : ByteArray)] rfl (by (try simp only [List.map_toArray, List.map_cons, List.map_nil]); first | done | rfl | (simp only [List.length_drop, List.length_take]; rfl)) ?_; (with_reducible refine (quote_Read.calls (⟨#[34, 92, 117, 48, 48, 101, 57, 34]⟩ : ByteArray) t106 t107 t108 t109 _ (hG.below (by first | ((repeat (first | (with_reducible first | exact HB.out | apply below_alloc | apply pw_below_drewN | apply below_drew1 | (refine Glob.below_set ?_ (by assumption) _ _ _)) | exact HB.out)); done) | (refine Drawn0.below ?_; repeat (first | exact Drawn0.refl _ | assumption | apply Drawn0.step)))) A2.out).mono ?_); rintro e w24 ⟨rfl, hb⟩; refine ⟨_, rfl, ?_⟩; have n0_ := Aside0.mk (blk_below (g := gb105) (o := .cells #[.int .i64 t103, .int .i64 t104] 24 (0, 0)) (by (with_reducible repeat (first | refine blk_drewN ?_ _ | refine blk_drew ?_ | refine blk_alloc ?_ _)); refine blk_put (cs := #[.int .i64 t103, .int .i64 0]) ?_ 1 _ rfl; (with_reducible repeat (first | refine blk_drewN ?_ _ | refine blk_drew ?_ | refine blk_alloc ?_ _)); refine blk_put (cs := #[.int .i64 0, .int .i64 0]) ?_ 0 _ rfl; (with_reducible repeat (first | refine blk_drewN ?_ _ | refine blk_drew ?_ | refine blk_alloc ?_ _)); exact BK105.out) hb); have n1_ := Aside0.mk (below_step (by repeat (first | (with_reducible first | exact HB.out | apply below_alloc | apply pw_below_drewN | apply below_drew1 | refine below_set ?_ GE105.out) | exact HB.out)) hb); clear BK105; clear HB; have BK105 := n0_; have HB := n1_; clear n0_ n1_; (try clear hb); (try clear hb2); (try clear hk); (try clear hi)) | ((with_reducible refine gate_dst (N := 6) rfl ?_); refine box_event ?hg (N := 6) ?hd (cs := #[.int .i64 0, .int .i64 0]) (t := 24) ?hr ?_; (case hd => rfl); (case hg => rfl); (case hr => first | (go_simp; done) | (go_simp; rfl)); intro gb110 hg w25 hbox hb; have n0_ := Aside0.mk (blk_below (g := gb105) (o := .cells #[.int .i64 t103, .int .i64 t104] 24 (0, 0)) (by (with_reducible repeat (first | refine blk_drewN ?_ _ | refine blk_drew ?_ | refine blk_alloc ?_ _)); exact BK105.out) hb); have n1_ := Aside0.mk (below_step (by repeat (first | (with_reducible first | exact HB.out | apply below_alloc | apply pw_below_drewN | apply below_drew1 | refine below_set ?_ GE105.out) | exact HB.out)) hb); have n2_ := Aside0.mk (hbox); have n3_ := Aside0.mk ((by rw [hg]; exact (below_size (by repeat (first | (with_reducible first | exact HB.out | apply below_alloc | apply pw_below_drewN | apply below_drew1 | refine below_set ?_ GE105.out) | exact HB.out))) : w.heap.size ≤ gb110)); have n4_ := Aside0.mk ((by rw [hg]; exact (below_size (by repeat (first | (with_reducible first | exact HB.out | apply below_alloc | apply pw_below_drewN | apply below_drew1 | refine below_set ?_ GE105.out) | exact HB.out))) : w.heap.size ≤ gb110)); have n5_ := Aside0.mk ((by rw [hg]; exact Nat.ne_of_lt (blk_lt (g := gb105) (o := .cells #[.int .i64 t103, .int .i64 t104] 24 (0, 0)) (by (with_reducible repeat (first | refine blk_drewN ?_ _ | refine blk_drew ?_ | refine blk_alloc ?_ _)); exact BK105.out)) : gb105 ≠ gb110)); have n6_ := Aside0.mk ((by rw [hg]; exact Nat.ne_of_gt (blk_lt (g := gb105) (o := .cells #[.int .i64 t103, .int .i64 t104] 24 (0, 0)) (by (with_reducible repeat (first | refine blk_drewN ?_ _ | refine blk_drew ?_ | refine blk_alloc ?_ _)); exact BK105.out)) : gb110 ≠ gb105)); clear BK105; clear HB; have BK105 := n0_; have HB := n1_; have BK110 := n2_; have GW110 := n3_; have GE110 := n4_; have NB105_110 := n5_; have NB110_105 := n6_; clear n0_ n1_ n2_ n3_ n4_ n5_ n6_; clear hb hbox hg; have hnb26 := NB110_105.out; have hnc26 := NB105_110.out; have hcz27_0 : w25.cell? ⟨gb110, 0, none⟩ = some (.int .i64 0) := (blk_cell BK110.out 0).trans rfl; have hcz27_1 : w25.cell? ⟨gb110, 1, none⟩ = some (.int .i64 0) := (blk_cell BK110.out 1).trans rfl; have hfz27_0 := blk_frozen BK110.out 0; have hfz27_1 := blk_frozen BK110.out 1) | ((with_reducible refine gate_callee (f := 11) rfl ?_); refine goesL_ (some 20) rfl rfl Tryd.func11 (by kernel_rfl) rfl #[.string (⟨#[97, 10, 34]⟩ : ByteArray)] rfl (by (try simp only [List.map_toArray, List.map_cons, List.map_nil]); first | done | rfl | (simp only [List.length_drop, List.length_take]; rfl)) ?_; (with_reducible refine (quote_Double.calls (⟨#[97, 10, 34]⟩ : ByteArray) t111 t112 _ (hG.below (by first | ((repeat (first | (with_reducible first | exact HB.out | apply below_alloc | apply pw_below_drewN | apply below_drew1 | (refine Glob.below_set ?_ (by assumption) _ _ _)) | exact HB.out)); done) | (refine Drawn0.below ?_; repeat (first | exact Drawn0.refl _ | assumption | apply Drawn0.step)))) A3.out).mono ?_); rintro e w28 ⟨rfl, hb⟩; refine ⟨_, rfl, ?_⟩; have n0_ := Aside0.mk (blk_below (g := gb105) (o := .cells #[.int .i64 t103, .int .i64 t104] 24 (0, 0)) (by (with_reducible repeat (first | refine blk_drewN ?_ _ | refine blk_drew ?_ | refine blk_alloc ?_ _)); refine blk_far ?_ NB105_110.out _; (with_reducible repeat (first | refine blk_drewN ?_ _ | refine blk_drew ?_ | refine blk_alloc ?_ _)); refine blk_far ?_ NB105_110.out _; (with_reducible repeat (first | refine blk_drewN ?_ _ | refine blk_drew ?_ | refine blk_alloc ?_ _)); exact BK105.out) hb); have n1_ := Aside0.mk (blk_below (g := gb110) (o := .cells #[.int .i64 t108, .int .i64 t109] 24 (0, 0)) (by (with_reducible repeat (first | refine blk_drewN ?_ _ | refine blk_drew ?_ | refine blk_alloc ?_ _)); refine blk_put (cs := #[.int .i64 t108, .int .i64 0]) ?_ 1 _ rfl; (with_reducible repeat (first | refine blk_drewN ?_ _ | refine blk_drew ?_ | refine blk_alloc ?_ _)); refine blk_put (cs := #[.int .i64 0, .int .i64 0]) ?_ 0 _ rfl; (with_reducible repeat (first | refine blk_drewN ?_ _ | refine blk_drew ?_ | refine blk_alloc ?_ _)); exact BK110.out) hb); have n2_ := Aside0.mk (below_step (by repeat (first | (with_reducible first | exact HB.out | apply below_alloc | apply pw_below_drewN | apply below_drew1 | refine below_set ?_ GE105.out | refine below_set ?_ GE110.out) | exact HB.out)) hb); clear BK105; clear BK110; clear HB; have BK105 := n0_; have BK110 := n1_; have HB := n2_; clear n0_ n1_ n2_; (try clear hb); (try clear hb2); (try clear hk); (try clear hi); have hcz29_0 : w28.cell? ⟨gb105, 0, none⟩ = some (.int .i64 t103) := (blk_cell BK105.out 0).trans rfl; have hcz29_1 : w28.cell? ⟨gb105, 1, none⟩ = some (.int .i64 t104) := (blk_cell BK105.out 1).trans rfl; have hfz29_0 := blk_frozen BK105.out 0; have hfz29_1 := blk_frozen BK105.out 1; have hcz30_0 : w28.cell? ⟨gb110, 0, none⟩ = some (.int .i64 t108) := (blk_cell BK110.out 0).trans rfl; have hcz30_1 : w28.cell? ⟨gb110, 1, none⟩ = some (.int .i64 t109) := (blk_cell BK110.out 1).trans rfl; have hfz30_0 := blk_frozen BK110.out 0; have hfz30_1 := blk_frozen BK110.out 1))
                go_ret
                exact ⟨by first | rfl | (simp [errW_none, errW_some] <;> rfl) | (simp [*, errW_none, errW_some] <;> rfl), by repeat (first | (with_reducible first | exact HB.out | apply below_alloc | apply pw_below_drewN | apply below_drew1 | refine below_set ?_ GE105.out | refine below_set ?_ GE110.out) | exact HB.out)⟩
            · rw [if_neg c9] at H
              have c9b0 : (t108 == 0 && (t109 == 0)) = false := by simpa using c9
              (try (have c9b1 : decide (t108 = 0 && (t109 == 0)) = false := by simpa using c9))
              (try (have c9b2 : (t108 == 0 && (t109 == 0)) = false := by simpa using c9))
              (try (have c9b3 : ¬ (t108 = 0 && (t109 == 0)) := by simpa using c9))
              clear c9
              obtain rfl := Option.some.inj H
              go_enter Tryd.func10, Tryd.ntmps10
              go_wp2_with (first | ((with_reducible refine gate_callee (f := 8) rfl ?_); refine goesL_ (some 10) rfl rfl Tryd.func8 (by kernel_rfl) rfl #[.string (⟨#[39, 105, 116, 39, 39, 115, 39, 32, 120]⟩ : ByteArray)] rfl (by (try simp only [List.map_toArray, List.map_cons, List.map_nil]); first | done | rfl | (simp only [List.length_drop, List.length_take]; rfl)) ?_; (with_reducible refine (quote_Read.calls (⟨#[39, 105, 116, 39, 39, 115, 39, 32, 120]⟩ : ByteArray) t101 t102 t103 t104 _ (hG.below (by first | ((repeat (first | (with_reducible first | exact HB.out | apply below_alloc | apply pw_below_drewN | apply below_drew1 | (refine Glob.below_set ?_ (by assumption) _ _ _)) | exact HB.out)); done) | (refine Drawn0.below ?_; repeat (first | exact Drawn0.refl _ | assumption | apply Drawn0.step)))) A1.out).mono ?_); rintro e w31 ⟨rfl, hb⟩; refine ⟨_, rfl, ?_⟩; have n0_ := Aside0.mk (below_step (by repeat (first | (with_reducible first | exact HB.out | apply below_alloc | apply pw_below_drewN | apply below_drew1) | exact HB.out)) hb); clear HB; have HB := n0_; clear n0_; (try clear hb); (try clear hb2); (try clear hk); (try clear hi)) | ((with_reducible refine gate_dst (N := 3) rfl ?_); refine box_event ?hg (N := 3) ?hd (cs := #[.int .i64 0, .int .i64 0]) (t := 24) ?hr ?_; (case hd => rfl); (case hg => rfl); (case hr => first | (go_simp; done) | (go_simp; rfl)); intro gb105 hg w32 hbox hb; have n0_ := Aside0.mk (below_step (by repeat (first | (with_reducible first | exact HB.out | apply below_alloc | apply pw_below_drewN | apply below_drew1) | exact HB.out)) hb); have n1_ := Aside0.mk (hbox); have n2_ := Aside0.mk ((by rw [hg]; exact (below_size (by repeat (first | (with_reducible first | exact HB.out | apply below_alloc | apply pw_below_drewN | apply below_drew1) | exact HB.out))) : w.heap.size ≤ gb105)); have n3_ := Aside0.mk ((by rw [hg]; exact (below_size (by repeat (first | (with_reducible first | exact HB.out | apply below_alloc | apply pw_below_drewN | apply below_drew1) | exact HB.out))) : w.heap.size ≤ gb105)); clear HB; have HB := n0_; have BK105 := n1_; have GW105 := n2_; have GE105 := n3_; clear n0_ n1_ n2_ n3_; clear hb hbox hg; have hcz33_0 : w32.cell? ⟨gb105, 0, none⟩ = some (.int .i64 0) := (blk_cell BK105.out 0).trans rfl; have hcz33_1 : w32.cell? ⟨gb105, 1, none⟩ = some (.int .i64 0) := (blk_cell BK105.out 1).trans rfl; have hfz33_0 := blk_frozen BK105.out 0; have hfz33_1 := blk_frozen BK105.out 1) | ((with_reducible refine gate_callee (f := 8) rfl ?_); refine goesL_ (some 15) rfl rfl Tryd.func8 (by kernel_rfl) rfl #[.string (⟨#[34, 92, 117, 48, 48, 101, 57, 34]⟩ : ByteArray)] rfl (by (try simp only [List.map_toArray, List.map_cons, List.map_nil]); first | done | rfl | (simp only [List.length_drop, List.length_take]; rfl)) ?_; (with_reducible refine (quote_Read.calls (⟨#[34, 92, 117, 48, 48, 101, 57, 34]⟩ : ByteArray) t106 t107 t108 t109 _ (hG.below (by first | ((repeat (first | (with_reducible first | exact HB.out | apply below_alloc | apply pw_below_drewN | apply below_drew1 | (refine Glob.below_set ?_ (by assumption) _ _ _)) | exact HB.out)); done) | (refine Drawn0.below ?_; repeat (first | exact Drawn0.refl _ | assumption | apply Drawn0.step)))) A2.out).mono ?_); rintro e w34 ⟨rfl, hb⟩; refine ⟨_, rfl, ?_⟩; have n0_ := Aside0.mk (blk_below (g := gb105) (o := .cells #[.int .i64 t103, .int .i64 t104] 24 (0, 0)) (by (with_reducible repeat (first | refine blk_drewN ?_ _ | refine blk_drew ?_ | refine blk_alloc ?_ _)); refine blk_put (cs := #[.int .i64 t103, .int .i64 0]) ?_ 1 _ rfl; (with_reducible repeat (first | refine blk_drewN ?_ _ | refine blk_drew ?_ | refine blk_alloc ?_ _)); refine blk_put (cs := #[.int .i64 0, .int .i64 0]) ?_ 0 _ rfl; (with_reducible repeat (first | refine blk_drewN ?_ _ | refine blk_drew ?_ | refine blk_alloc ?_ _)); exact BK105.out) hb); have n1_ := Aside0.mk (below_step (by repeat (first | (with_reducible first | exact HB.out | apply below_alloc | apply pw_below_drewN | apply below_drew1 | refine below_set ?_ GE105.out) | exact HB.out)) hb); clear BK105; clear HB; have BK105 := n0_; have HB := n1_; clear n0_ n1_; (try clear hb); (try clear hb2); (try clear hk); (try clear hi)) | ((with_reducible refine gate_dst (N := 6) rfl ?_); refine box_event ?hg (N := 6) ?hd (cs := #[.int .i64 0, .int .i64 0]) (t := 24) ?hr ?_; (case hd => rfl); (case hg => rfl); (case hr => first | (go_simp; done) | (go_simp; rfl)); intro gb110 hg w35 hbox hb; have n0_ := Aside0.mk (blk_below (g := gb105) (o := .cells #[.int .i64 t103, .int .i64 t104] 24 (0, 0)) (by (with_reducible repeat (first | refine blk_drewN ?_ _ | refine blk_drew ?_ | refine blk_alloc ?_ _)); exact BK105.out) hb); have n1_ := Aside0.mk (below_step (by repeat (first | (with_reducible first | exact HB.out | apply below_alloc | apply pw_below_drewN | apply below_drew1 | refine below_set ?_ GE105.out) | exact HB.out)) hb); have n2_ := Aside0.mk (hbox); have n3_ := Aside0.mk ((by rw [hg]; exact (below_size (by repeat (first | (with_reducible first | exact HB.out | apply below_alloc | apply pw_below_drewN | apply below_drew1 | refine below_set ?_ GE105.out) | exact HB.out))) : w.heap.size ≤ gb110)); have n4_ := Aside0.mk ((by rw [hg]; exact (below_size (by repeat (first | (with_reducible first | exact HB.out | apply below_alloc | apply pw_below_drewN | apply below_drew1 | refine below_set ?_ GE105.out) | exact HB.out))) : w.heap.size ≤ gb110)); have n5_ := Aside0.mk ((by rw [hg]; exact Nat.ne_of_lt (blk_lt (g := gb105) (o := .cells #[.int .i64 t103, .int .i64 t104] 24 (0, 0)) (by (with_reducible repeat (first | refine blk_drewN ?_ _ | refine blk_drew ?_ | refine blk_alloc ?_ _)); exact BK105.out)) : gb105 ≠ gb110)); have n6_ := Aside0.mk ((by rw [hg]; exact Nat.ne_of_gt (blk_lt (g := gb105) (o := .cells #[.int .i64 t103, .int .i64 t104] 24 (0, 0)) (by (with_reducible repeat (first | refine blk_drewN ?_ _ | refine blk_drew ?_ | refine blk_alloc ?_ _)); exact BK105.out)) : gb110 ≠ gb105)); clear BK105; clear HB; have BK105 := n0_; have HB := n1_; have BK110 := n2_; have GW110 := n3_; have GE110 := n4_; have NB105_110 := n5_; have NB110_105 := n6_; clear n0_ n1_ n2_ n3_ n4_ n5_ n6_; clear hb hbox hg; have hnb36 := NB110_105.out; have hnc36 := NB105_110.out; have hcz37_0 : w35.cell? ⟨gb110, 0, none⟩ = some (.int .i64 0) := (blk_cell BK110.out 0).trans rfl; have hcz37_1 : w35.cell? ⟨gb110, 1, none⟩ = some (.int .i64 0) := (blk_cell BK110.out 1).trans rfl; have hfz37_0 := blk_frozen BK110.out 0; have hfz37_1 := blk_frozen BK110.out 1) | ((with_reducible refine gate_callee (f := 11) rfl ?_); refine goesL_ (some 20) rfl rfl Tryd.func11 (by kernel_rfl) rfl #[.string (⟨#[97, 10, 34]⟩ : ByteArray)] rfl (by (try simp only [List.map_toArray, List.map_cons, List.map_nil]); first | done | rfl | (simp only [List.length_drop, List.length_take]; rfl)) ?_; (with_reducible refine (quote_Double.calls (⟨#[97, 10, 34]⟩ : ByteArray) t111 t112 _ (hG.below (by first | ((repeat (first | (with_reducible first | exact HB.out | apply below_alloc | apply pw_below_drewN | apply below_drew1 | (refine Glob.below_set ?_ (by assumption) _ _ _)) | exact HB.out)); done) | (refine Drawn0.below ?_; repeat (first | exact Drawn0.refl _ | assumption | apply Drawn0.step)))) A3.out).mono ?_); rintro e w38 ⟨rfl, hb⟩; refine ⟨_, rfl, ?_⟩; have n0_ := Aside0.mk (blk_below (g := gb105) (o := .cells #[.int .i64 t103, .int .i64 t104] 24 (0, 0)) (by (with_reducible repeat (first | refine blk_drewN ?_ _ | refine blk_drew ?_ | refine blk_alloc ?_ _)); refine blk_far ?_ NB105_110.out _; (with_reducible repeat (first | refine blk_drewN ?_ _ | refine blk_drew ?_ | refine blk_alloc ?_ _)); refine blk_far ?_ NB105_110.out _; (with_reducible repeat (first | refine blk_drewN ?_ _ | refine blk_drew ?_ | refine blk_alloc ?_ _)); exact BK105.out) hb); have n1_ := Aside0.mk (blk_below (g := gb110) (o := .cells #[.int .i64 t108, .int .i64 t109] 24 (0, 0)) (by (with_reducible repeat (first | refine blk_drewN ?_ _ | refine blk_drew ?_ | refine blk_alloc ?_ _)); refine blk_put (cs := #[.int .i64 t108, .int .i64 0]) ?_ 1 _ rfl; (with_reducible repeat (first | refine blk_drewN ?_ _ | refine blk_drew ?_ | refine blk_alloc ?_ _)); refine blk_put (cs := #[.int .i64 0, .int .i64 0]) ?_ 0 _ rfl; (with_reducible repeat (first | refine blk_drewN ?_ _ | refine blk_drew ?_ | refine blk_alloc ?_ _)); exact BK110.out) hb); have n2_ := Aside0.mk (below_step (by repeat (first | (with_reducible first | exact HB.out | apply below_alloc | apply pw_below_drewN | apply below_drew1 | refine below_set ?_ GE105.out | refine below_set ?_ GE110.out) | exact HB.out)) hb); clear BK105; clear BK110; clear HB; have BK105 := n0_; have BK110 := n1_; have HB := n2_; clear n0_ n1_ n2_; (try clear hb); (try clear hb2); (try clear hk); (try clear hi); have hcz39_0 : w38.cell? ⟨gb105, 0, none⟩ = some (.int .i64 t103) := (blk_cell BK105.out 0).trans rfl; have hcz39_1 : w38.cell? ⟨gb105, 1, none⟩ = some (.int .i64 t104) := (blk_cell BK105.out 1).trans rfl; have hfz39_0 := blk_frozen BK105.out 0; have hfz39_1 := blk_frozen BK105.out 1; have hcz40_0 : w38.cell? ⟨gb110, 0, none⟩ = some (.int .i64 t108) := (blk_cell BK110.out 0).trans rfl; have hcz40_1 : w38.cell? ⟨gb110, 1, none⟩ = some (.int .i64 t109) := (blk_cell BK110.out 1).trans rfl; have hfz40_0 := blk_frozen BK110.out 0; have hfz40_1 := blk_frozen BK110.out 1))
              go_ret
              exact ⟨by first | rfl | (simp [errW_none, errW_some] <;> rfl) | (simp [*, errW_none, errW_some] <;> rfl), by repeat (first | (with_reducible first | exact HB.out | apply below_alloc | apply pw_below_drewN | apply below_drew1 | refine below_set ?_ GE105.out | refine below_set ?_ GE110.out) | exact HB.out)⟩
          · rw [if_neg c8] at H
            have c8b0 : (t107 == 8) = false := beq_eq_false_iff_ne.mpr c8
            have c8b1 : (t107 != 8) = true := bne_iff_ne.mpr c8
            obtain rfl := Option.some.inj H
            go_enter Tryd.func10, Tryd.ntmps10
            go_wp2_with (first | ((with_reducible refine gate_callee (f := 8) rfl ?_); refine goesL_ (some 10) rfl rfl Tryd.func8 (by kernel_rfl) rfl #[.string (⟨#[39, 105, 116, 39, 39, 115, 39, 32, 120]⟩ : ByteArray)] rfl (by (try simp only [List.map_toArray, List.map_cons, List.map_nil]); first | done | rfl | (simp only [List.length_drop, List.length_take]; rfl)) ?_; (with_reducible refine (quote_Read.calls (⟨#[39, 105, 116, 39, 39, 115, 39, 32, 120]⟩ : ByteArray) t101 t102 t103 t104 _ (hG.below (by first | ((repeat (first | (with_reducible first | exact HB.out | apply below_alloc | apply pw_below_drewN | apply below_drew1 | (refine Glob.below_set ?_ (by assumption) _ _ _)) | exact HB.out)); done) | (refine Drawn0.below ?_; repeat (first | exact Drawn0.refl _ | assumption | apply Drawn0.step)))) A1.out).mono ?_); rintro e w41 ⟨rfl, hb⟩; refine ⟨_, rfl, ?_⟩; have n0_ := Aside0.mk (below_step (by repeat (first | (with_reducible first | exact HB.out | apply below_alloc | apply pw_below_drewN | apply below_drew1) | exact HB.out)) hb); clear HB; have HB := n0_; clear n0_; (try clear hb); (try clear hb2); (try clear hk); (try clear hi)) | ((with_reducible refine gate_dst (N := 3) rfl ?_); refine box_event ?hg (N := 3) ?hd (cs := #[.int .i64 0, .int .i64 0]) (t := 24) ?hr ?_; (case hd => rfl); (case hg => rfl); (case hr => first | (go_simp; done) | (go_simp; rfl)); intro gb105 hg w42 hbox hb; have n0_ := Aside0.mk (below_step (by repeat (first | (with_reducible first | exact HB.out | apply below_alloc | apply pw_below_drewN | apply below_drew1) | exact HB.out)) hb); have n1_ := Aside0.mk (hbox); have n2_ := Aside0.mk ((by rw [hg]; exact (below_size (by repeat (first | (with_reducible first | exact HB.out | apply below_alloc | apply pw_below_drewN | apply below_drew1) | exact HB.out))) : w.heap.size ≤ gb105)); have n3_ := Aside0.mk ((by rw [hg]; exact (below_size (by repeat (first | (with_reducible first | exact HB.out | apply below_alloc | apply pw_below_drewN | apply below_drew1) | exact HB.out))) : w.heap.size ≤ gb105)); clear HB; have HB := n0_; have BK105 := n1_; have GW105 := n2_; have GE105 := n3_; clear n0_ n1_ n2_ n3_; clear hb hbox hg; have hcz43_0 : w42.cell? ⟨gb105, 0, none⟩ = some (.int .i64 0) := (blk_cell BK105.out 0).trans rfl; have hcz43_1 : w42.cell? ⟨gb105, 1, none⟩ = some (.int .i64 0) := (blk_cell BK105.out 1).trans rfl; have hfz43_0 := blk_frozen BK105.out 0; have hfz43_1 := blk_frozen BK105.out 1) | ((with_reducible refine gate_callee (f := 8) rfl ?_); refine goesL_ (some 15) rfl rfl Tryd.func8 (by kernel_rfl) rfl #[.string (⟨#[34, 92, 117, 48, 48, 101, 57, 34]⟩ : ByteArray)] rfl (by (try simp only [List.map_toArray, List.map_cons, List.map_nil]); first | done | rfl | (simp only [List.length_drop, List.length_take]; rfl)) ?_; (with_reducible refine (quote_Read.calls (⟨#[34, 92, 117, 48, 48, 101, 57, 34]⟩ : ByteArray) t106 t107 t108 t109 _ (hG.below (by first | ((repeat (first | (with_reducible first | exact HB.out | apply below_alloc | apply pw_below_drewN | apply below_drew1 | (refine Glob.below_set ?_ (by assumption) _ _ _)) | exact HB.out)); done) | (refine Drawn0.below ?_; repeat (first | exact Drawn0.refl _ | assumption | apply Drawn0.step)))) A2.out).mono ?_); rintro e w44 ⟨rfl, hb⟩; refine ⟨_, rfl, ?_⟩; have n0_ := Aside0.mk (blk_below (g := gb105) (o := .cells #[.int .i64 t103, .int .i64 t104] 24 (0, 0)) (by (with_reducible repeat (first | refine blk_drewN ?_ _ | refine blk_drew ?_ | refine blk_alloc ?_ _)); refine blk_put (cs := #[.int .i64 t103, .int .i64 0]) ?_ 1 _ rfl; (with_reducible repeat (first | refine blk_drewN ?_ _ | refine blk_drew ?_ | refine blk_alloc ?_ _)); refine blk_put (cs := #[.int .i64 0, .int .i64 0]) ?_ 0 _ rfl; (with_reducible repeat (first | refine blk_drewN ?_ _ | refine blk_drew ?_ | refine blk_alloc ?_ _)); exact BK105.out) hb); have n1_ := Aside0.mk (below_step (by repeat (first | (with_reducible first | exact HB.out | apply below_alloc | apply pw_below_drewN | apply below_drew1 | refine below_set ?_ GE105.out) | exact HB.out)) hb); clear BK105; clear HB; have BK105 := n0_; have HB := n1_; clear n0_ n1_; (try clear hb); (try clear hb2); (try clear hk); (try clear hi)) | ((with_reducible refine gate_dst (N := 6) rfl ?_); refine box_event ?hg (N := 6) ?hd (cs := #[.int .i64 0, .int .i64 0]) (t := 24) ?hr ?_; (case hd => rfl); (case hg => rfl); (case hr => first | (go_simp; done) | (go_simp; rfl)); intro gb110 hg w45 hbox hb; have n0_ := Aside0.mk (blk_below (g := gb105) (o := .cells #[.int .i64 t103, .int .i64 t104] 24 (0, 0)) (by (with_reducible repeat (first | refine blk_drewN ?_ _ | refine blk_drew ?_ | refine blk_alloc ?_ _)); exact BK105.out) hb); have n1_ := Aside0.mk (below_step (by repeat (first | (with_reducible first | exact HB.out | apply below_alloc | apply pw_below_drewN | apply below_drew1 | refine below_set ?_ GE105.out) | exact HB.out)) hb); have n2_ := Aside0.mk (hbox); have n3_ := Aside0.mk ((by rw [hg]; exact (below_size (by repeat (first | (with_reducible first | exact HB.out | apply below_alloc | apply pw_below_drewN | apply below_drew1 | refine below_set ?_ GE105.out) | exact HB.out))) : w.heap.size ≤ gb110)); have n4_ := Aside0.mk ((by rw [hg]; exact (below_size (by repeat (first | (with_reducible first | exact HB.out | apply below_alloc | apply pw_below_drewN | apply below_drew1 | refine below_set ?_ GE105.out) | exact HB.out))) : w.heap.size ≤ gb110)); have n5_ := Aside0.mk ((by rw [hg]; exact Nat.ne_of_lt (blk_lt (g := gb105) (o := .cells #[.int .i64 t103, .int .i64 t104] 24 (0, 0)) (by (with_reducible repeat (first | refine blk_drewN ?_ _ | refine blk_drew ?_ | refine blk_alloc ?_ _)); exact BK105.out)) : gb105 ≠ gb110)); have n6_ := Aside0.mk ((by rw [hg]; exact Nat.ne_of_gt (blk_lt (g := gb105) (o := .cells #[.int .i64 t103, .int .i64 t104] 24 (0, 0)) (by (with_reducible repeat (first | refine blk_drewN ?_ _ | refine blk_drew ?_ | refine blk_alloc ?_ _)); exact BK105.out)) : gb110 ≠ gb105)); clear BK105; clear HB; have BK105 := n0_; have HB := n1_; have BK110 := n2_; have GW110 := n3_; have GE110 := n4_; have NB105_110 := n5_; have NB110_105 := n6_; clear n0_ n1_ n2_ n3_ n4_ n5_ n6_; clear hb hbox hg; have hnb46 := NB110_105.out; have hnc46 := NB105_110.out; have hcz47_0 : w45.cell? ⟨gb110, 0, none⟩ = some (.int .i64 0) := (blk_cell BK110.out 0).trans rfl; have hcz47_1 : w45.cell? ⟨gb110, 1, none⟩ = some (.int .i64 0) := (blk_cell BK110.out 1).trans rfl; have hfz47_0 := blk_frozen BK110.out 0; have hfz47_1 := blk_frozen BK110.out 1) | ((with_reducible refine gate_callee (f := 11) rfl ?_); refine goesL_ (some 20) rfl rfl Tryd.func11 (by kernel_rfl) rfl #[.string (⟨#[97, 10, 34]⟩ : ByteArray)] rfl (by (try simp only [List.map_toArray, List.map_cons, List.map_nil]); first | done | rfl | (simp only [List.length_drop, List.length_take]; rfl)) ?_; (with_reducible refine (quote_Double.calls (⟨#[97, 10, 34]⟩ : ByteArray) t111 t112 _ (hG.below (by first | ((repeat (first | (with_reducible first | exact HB.out | apply below_alloc | apply pw_below_drewN | apply below_drew1 | (refine Glob.below_set ?_ (by assumption) _ _ _)) | exact HB.out)); done) | (refine Drawn0.below ?_; repeat (first | exact Drawn0.refl _ | assumption | apply Drawn0.step)))) A3.out).mono ?_); rintro e w48 ⟨rfl, hb⟩; refine ⟨_, rfl, ?_⟩; have n0_ := Aside0.mk (blk_below (g := gb105) (o := .cells #[.int .i64 t103, .int .i64 t104] 24 (0, 0)) (by (with_reducible repeat (first | refine blk_drewN ?_ _ | refine blk_drew ?_ | refine blk_alloc ?_ _)); refine blk_far ?_ NB105_110.out _; (with_reducible repeat (first | refine blk_drewN ?_ _ | refine blk_drew ?_ | refine blk_alloc ?_ _)); refine blk_far ?_ NB105_110.out _; (with_reducible repeat (first | refine blk_drewN ?_ _ | refine blk_drew ?_ | refine blk_alloc ?_ _)); exact BK105.out) hb); have n1_ := Aside0.mk (blk_below (g := gb110) (o := .cells #[.int .i64 t108, .int .i64 t109] 24 (0, 0)) (by (with_reducible repeat (first | refine blk_drewN ?_ _ | refine blk_drew ?_ | refine blk_alloc ?_ _)); refine blk_put (cs := #[.int .i64 t108, .int .i64 0]) ?_ 1 _ rfl; (with_reducible repeat (first | refine blk_drewN ?_ _ | refine blk_drew ?_ | refine blk_alloc ?_ _)); refine blk_put (cs := #[.int .i64 0, .int .i64 0]) ?_ 0 _ rfl; (with_reducible repeat (first | refine blk_drewN ?_ _ | refine blk_drew ?_ | refine blk_alloc ?_ _)); exact BK110.out) hb); have n2_ := Aside0.mk (below_step (by repeat (first | (with_reducible first | exact HB.out | apply below_alloc | apply pw_below_drewN | apply below_drew1 | refine below_set ?_ GE105.out | refine below_set ?_ GE110.out) | exact HB.out)) hb); clear BK105; clear BK110; clear HB; have BK105 := n0_; have BK110 := n1_; have HB := n2_; clear n0_ n1_ n2_; (try clear hb); (try clear hb2); (try clear hk); (try clear hi); have hcz49_0 : w48.cell? ⟨gb105, 0, none⟩ = some (.int .i64 t103) := (blk_cell BK105.out 0).trans rfl; have hcz49_1 : w48.cell? ⟨gb105, 1, none⟩ = some (.int .i64 t104) := (blk_cell BK105.out 1).trans rfl; have hfz49_0 := blk_frozen BK105.out 0; have hfz49_1 := blk_frozen BK105.out 1))
            go_ret
            exact ⟨by first | rfl | (simp [errW_none, errW_some] <;> rfl) | (simp [*, errW_none, errW_some] <;> rfl), by repeat (first | (with_reducible first | exact HB.out | apply below_alloc | apply pw_below_drewN | apply below_drew1 | refine below_set ?_ GE105.out | refine below_set ?_ GE110.out) | exact HB.out)⟩
        · rw [if_neg c7] at H
          have c7b0 : (t106.toList == ([195, 169] : List UInt8)) = false := beq_eq_false_iff_ne.mpr c7
          have c7b1 : (t106.toList != ([195, 169] : List UInt8)) = true := bne_iff_ne.mpr c7
          obtain rfl := Option.some.inj H
          go_enter Tryd.func10, Tryd.ntmps10
          go_wp2_with (first | ((with_reducible refine gate_callee (f := 8) rfl ?_); refine goesL_ (some 10) rfl rfl Tryd.func8 (by kernel_rfl) rfl #[.string (⟨#[39, 105, 116, 39, 39, 115, 39, 32, 120]⟩ : ByteArray)] rfl (by (try simp only [List.map_toArray, List.map_cons, List.map_nil]); first | done | rfl | (simp only [List.length_drop, List.length_take]; rfl)) ?_; (with_reducible refine (quote_Read.calls (⟨#[39, 105, 116, 39, 39, 115, 39, 32, 120]⟩ : ByteArray) t101 t102 t103 t104 _ (hG.below (by first | ((repeat (first | (with_reducible first | exact HB.out | apply below_alloc | apply pw_below_drewN | apply below_drew1 | (refine Glob.below_set ?_ (by assumption) _ _ _)) | exact HB.out)); done) | (refine Drawn0.below ?_; repeat (first | exact Drawn0.refl _ | assumption | apply Drawn0.step)))) A1.out).mono ?_); rintro e w50 ⟨rfl, hb⟩; refine ⟨_, rfl, ?_⟩; have n0_ := Aside0.mk (below_step (by repeat (first | (with_reducible first | exact HB.out | apply below_alloc | apply pw_below_drewN | apply below_drew1) | exact HB.out)) hb); clear HB; have HB := n0_; clear n0_; (try clear hb); (try clear hb2); (try clear hk); (try clear hi)) | ((with_reducible refine gate_dst (N := 3) rfl ?_); refine box_event ?hg (N := 3) ?hd (cs := #[.int .i64 0, .int .i64 0]) (t := 24) ?hr ?_; (case hd => rfl); (case hg => rfl); (case hr => first | (go_simp; done) | (go_simp; rfl)); intro gb105 hg w51 hbox hb; have n0_ := Aside0.mk (below_step (by repeat (first | (with_reducible first | exact HB.out | apply below_alloc | apply pw_below_drewN | apply below_drew1) | exact HB.out)) hb); have n1_ := Aside0.mk (hbox); have n2_ := Aside0.mk ((by rw [hg]; exact (below_size (by repeat (first | (with_reducible first | exact HB.out | apply below_alloc | apply pw_below_drewN | apply below_drew1) | exact HB.out))) : w.heap.size ≤ gb105)); have n3_ := Aside0.mk ((by rw [hg]; exact (below_size (by repeat (first | (with_reducible first | exact HB.out | apply below_alloc | apply pw_below_drewN | apply below_drew1) | exact HB.out))) : w.heap.size ≤ gb105)); clear HB; have HB := n0_; have BK105 := n1_; have GW105 := n2_; have GE105 := n3_; clear n0_ n1_ n2_ n3_; clear hb hbox hg; have hcz52_0 : w51.cell? ⟨gb105, 0, none⟩ = some (.int .i64 0) := (blk_cell BK105.out 0).trans rfl; have hcz52_1 : w51.cell? ⟨gb105, 1, none⟩ = some (.int .i64 0) := (blk_cell BK105.out 1).trans rfl; have hfz52_0 := blk_frozen BK105.out 0; have hfz52_1 := blk_frozen BK105.out 1) | ((with_reducible refine gate_callee (f := 8) rfl ?_); refine goesL_ (some 15) rfl rfl Tryd.func8 (by kernel_rfl) rfl #[.string (⟨#[34, 92, 117, 48, 48, 101, 57, 34]⟩ : ByteArray)] rfl (by (try simp only [List.map_toArray, List.map_cons, List.map_nil]); first | done | rfl | (simp only [List.length_drop, List.length_take]; rfl)) ?_; (with_reducible refine (quote_Read.calls (⟨#[34, 92, 117, 48, 48, 101, 57, 34]⟩ : ByteArray) t106 t107 t108 t109 _ (hG.below (by first | ((repeat (first | (with_reducible first | exact HB.out | apply below_alloc | apply pw_below_drewN | apply below_drew1 | (refine Glob.below_set ?_ (by assumption) _ _ _)) | exact HB.out)); done) | (refine Drawn0.below ?_; repeat (first | exact Drawn0.refl _ | assumption | apply Drawn0.step)))) A2.out).mono ?_); rintro e w53 ⟨rfl, hb⟩; refine ⟨_, rfl, ?_⟩; have n0_ := Aside0.mk (blk_below (g := gb105) (o := .cells #[.int .i64 t103, .int .i64 t104] 24 (0, 0)) (by (with_reducible repeat (first | refine blk_drewN ?_ _ | refine blk_drew ?_ | refine blk_alloc ?_ _)); refine blk_put (cs := #[.int .i64 t103, .int .i64 0]) ?_ 1 _ rfl; (with_reducible repeat (first | refine blk_drewN ?_ _ | refine blk_drew ?_ | refine blk_alloc ?_ _)); refine blk_put (cs := #[.int .i64 0, .int .i64 0]) ?_ 0 _ rfl; (with_reducible repeat (first | refine blk_drewN ?_ _ | refine blk_drew ?_ | refine blk_alloc ?_ _)); exact BK105.out) hb); have n1_ := Aside0.mk (below_step (by repeat (first | (with_reducible first | exact HB.out | apply below_alloc | apply pw_below_drewN | apply below_drew1 | refine below_set ?_ GE105.out) | exact HB.out)) hb); clear BK105; clear HB; have BK105 := n0_; have HB := n1_; clear n0_ n1_; (try clear hb); (try clear hb2); (try clear hk); (try clear hi)) | ((with_reducible refine gate_dst (N := 6) rfl ?_); refine box_event ?hg (N := 6) ?hd (cs := #[.int .i64 0, .int .i64 0]) (t := 24) ?hr ?_; (case hd => rfl); (case hg => rfl); (case hr => first | (go_simp; done) | (go_simp; rfl)); intro gb110 hg w54 hbox hb; have n0_ := Aside0.mk (blk_below (g := gb105) (o := .cells #[.int .i64 t103, .int .i64 t104] 24 (0, 0)) (by (with_reducible repeat (first | refine blk_drewN ?_ _ | refine blk_drew ?_ | refine blk_alloc ?_ _)); exact BK105.out) hb); have n1_ := Aside0.mk (below_step (by repeat (first | (with_reducible first | exact HB.out | apply below_alloc | apply pw_below_drewN | apply below_drew1 | refine below_set ?_ GE105.out) | exact HB.out)) hb); have n2_ := Aside0.mk (hbox); have n3_ := Aside0.mk ((by rw [hg]; exact (below_size (by repeat (first | (with_reducible first | exact HB.out | apply below_alloc | apply pw_below_drewN | apply below_drew1 | refine below_set ?_ GE105.out) | exact HB.out))) : w.heap.size ≤ gb110)); have n4_ := Aside0.mk ((by rw [hg]; exact (below_size (by repeat (first | (with_reducible first | exact HB.out | apply below_alloc | apply pw_below_drewN | apply below_drew1 | refine below_set ?_ GE105.out) | exact HB.out))) : w.heap.size ≤ gb110)); have n5_ := Aside0.mk ((by rw [hg]; exact Nat.ne_of_lt (blk_lt (g := gb105) (o := .cells #[.int .i64 t103, .int .i64 t104] 24 (0, 0)) (by (with_reducible repeat (first | refine blk_drewN ?_ _ | refine blk_drew ?_ | refine blk_alloc ?_ _)); exact BK105.out)) : gb105 ≠ gb110)); have n6_ := Aside0.mk ((by rw [hg]; exact Nat.ne_of_gt (blk_lt (g := gb105) (o := .cells #[.int .i64 t103, .int .i64 t104] 24 (0, 0)) (by (with_reducible repeat (first | refine blk_drewN ?_ _ | refine blk_drew ?_ | refine blk_alloc ?_ _)); exact BK105.out)) : gb110 ≠ gb105)); clear BK105; clear HB; have BK105 := n0_; have HB := n1_; have BK110 := n2_; have GW110 := n3_; have GE110 := n4_; have NB105_110 := n5_; have NB110_105 := n6_; clear n0_ n1_ n2_ n3_ n4_ n5_ n6_; clear hb hbox hg; have hnb55 := NB110_105.out; have hnc55 := NB105_110.out; have hcz56_0 : w54.cell? ⟨gb110, 0, none⟩ = some (.int .i64 0) := (blk_cell BK110.out 0).trans rfl; have hcz56_1 : w54.cell? ⟨gb110, 1, none⟩ = some (.int .i64 0) := (blk_cell BK110.out 1).trans rfl; have hfz56_0 := blk_frozen BK110.out 0; have hfz56_1 := blk_frozen BK110.out 1) | ((with_reducible refine gate_callee (f := 11) rfl ?_); refine goesL_ (some 20) rfl rfl Tryd.func11 (by kernel_rfl) rfl #[.string (⟨#[97, 10, 34]⟩ : ByteArray)] rfl (by (try simp only [List.map_toArray, List.map_cons, List.map_nil]); first | done | rfl | (simp only [List.length_drop, List.length_take]; rfl)) ?_; (with_reducible refine (quote_Double.calls (⟨#[97, 10, 34]⟩ : ByteArray) t111 t112 _ (hG.below (by first | ((repeat (first | (with_reducible first | exact HB.out | apply below_alloc | apply pw_below_drewN | apply below_drew1 | (refine Glob.below_set ?_ (by assumption) _ _ _)) | exact HB.out)); done) | (refine Drawn0.below ?_; repeat (first | exact Drawn0.refl _ | assumption | apply Drawn0.step)))) A3.out).mono ?_); rintro e w57 ⟨rfl, hb⟩; refine ⟨_, rfl, ?_⟩; have n0_ := Aside0.mk (blk_below (g := gb105) (o := .cells #[.int .i64 t103, .int .i64 t104] 24 (0, 0)) (by (with_reducible repeat (first | refine blk_drewN ?_ _ | refine blk_drew ?_ | refine blk_alloc ?_ _)); refine blk_far ?_ NB105_110.out _; (with_reducible repeat (first | refine blk_drewN ?_ _ | refine blk_drew ?_ | refine blk_alloc ?_ _)); refine blk_far ?_ NB105_110.out _; (with_reducible repeat (first | refine blk_drewN ?_ _ | refine blk_drew ?_ | refine blk_alloc ?_ _)); exact BK105.out) hb); have n1_ := Aside0.mk (blk_below (g := gb110) (o := .cells #[.int .i64 t108, .int .i64 t109] 24 (0, 0)) (by (with_reducible repeat (first | refine blk_drewN ?_ _ | refine blk_drew ?_ | refine blk_alloc ?_ _)); refine blk_put (cs := #[.int .i64 t108, .int .i64 0]) ?_ 1 _ rfl; (with_reducible repeat (first | refine blk_drewN ?_ _ | refine blk_drew ?_ | refine blk_alloc ?_ _)); refine blk_put (cs := #[.int .i64 0, .int .i64 0]) ?_ 0 _ rfl; (with_reducible repeat (first | refine blk_drewN ?_ _ | refine blk_drew ?_ | refine blk_alloc ?_ _)); exact BK110.out) hb); have n2_ := Aside0.mk (below_step (by repeat (first | (with_reducible first | exact HB.out | apply below_alloc | apply pw_below_drewN | apply below_drew1 | refine below_set ?_ GE105.out | refine below_set ?_ GE110.out) | exact HB.out)) hb); clear BK105; clear BK110; clear HB; have BK105 := n0_; have BK110 := n1_; have HB := n2_; clear n0_ n1_ n2_; (try clear hb); (try clear hb2); (try clear hk); (try clear hi); have hcz58_0 : w57.cell? ⟨gb105, 0, none⟩ = some (.int .i64 t103) := (blk_cell BK105.out 0).trans rfl; have hcz58_1 : w57.cell? ⟨gb105, 1, none⟩ = some (.int .i64 t104) := (blk_cell BK105.out 1).trans rfl; have hfz58_0 := blk_frozen BK105.out 0; have hfz58_1 := blk_frozen BK105.out 1))
          go_ret
          exact ⟨by first | rfl | (simp [errW_none, errW_some] <;> rfl) | (simp [*, errW_none, errW_some] <;> rfl), by repeat (first | (with_reducible first | exact HB.out | apply below_alloc | apply pw_below_drewN | apply below_drew1 | refine below_set ?_ GE105.out | refine below_set ?_ GE110.out) | exact HB.out)⟩
      · rw [if_neg c6] at H
        have c6b0 : (t103 == 0 && (t104 == 0)) = false := by simpa using c6
        (try (have c6b1 : decide (t103 = 0 && (t104 == 0)) = false := by simpa using c6))
        (try (have c6b2 : (t103 == 0 && (t104 == 0)) = false := by simpa using c6))
        (try (have c6b3 : ¬ (t103 = 0 && (t104 == 0)) := by simpa using c6))
        clear c6
        obtain rfl := Option.some.inj H
        go_enter Tryd.func10, Tryd.ntmps10
        go_wp2_with (first | ((with_reducible refine gate_callee (f := 8) rfl ?_); refine goesL_ (some 10) rfl rfl Tryd.func8 (by kernel_rfl) rfl #[.string (⟨#[39, 105, 116, 39, 39, 115, 39, 32, 120]⟩ : ByteArray)] rfl (by (try simp only [List.map_toArray, List.map_cons, List.map_nil]); first | done | rfl | (simp only [List.length_drop, List.length_take]; rfl)) ?_; (with_reducible refine (quote_Read.calls (⟨#[39, 105, 116, 39, 39, 115, 39, 32, 120]⟩ : ByteArray) t101 t102 t103 t104 _ (hG.below (by first | ((repeat (first | (with_reducible first | exact HB.out | apply below_alloc | apply pw_below_drewN | apply below_drew1 | (refine Glob.below_set ?_ (by assumption) _ _ _)) | exact HB.out)); done) | (refine Drawn0.below ?_; repeat (first | exact Drawn0.refl _ | assumption | apply Drawn0.step)))) A1.out).mono ?_); rintro e w59 ⟨rfl, hb⟩; refine ⟨_, rfl, ?_⟩; have n0_ := Aside0.mk (below_step (by repeat (first | (with_reducible first | exact HB.out | apply below_alloc | apply pw_below_drewN | apply below_drew1) | exact HB.out)) hb); clear HB; have HB := n0_; clear n0_; (try clear hb); (try clear hb2); (try clear hk); (try clear hi)) | ((with_reducible refine gate_dst (N := 3) rfl ?_); refine box_event ?hg (N := 3) ?hd (cs := #[.int .i64 0, .int .i64 0]) (t := 24) ?hr ?_; (case hd => rfl); (case hg => rfl); (case hr => first | (go_simp; done) | (go_simp; rfl)); intro gb105 hg w60 hbox hb; have n0_ := Aside0.mk (below_step (by repeat (first | (with_reducible first | exact HB.out | apply below_alloc | apply pw_below_drewN | apply below_drew1) | exact HB.out)) hb); have n1_ := Aside0.mk (hbox); have n2_ := Aside0.mk ((by rw [hg]; exact (below_size (by repeat (first | (with_reducible first | exact HB.out | apply below_alloc | apply pw_below_drewN | apply below_drew1) | exact HB.out))) : w.heap.size ≤ gb105)); have n3_ := Aside0.mk ((by rw [hg]; exact (below_size (by repeat (first | (with_reducible first | exact HB.out | apply below_alloc | apply pw_below_drewN | apply below_drew1) | exact HB.out))) : w.heap.size ≤ gb105)); clear HB; have HB := n0_; have BK105 := n1_; have GW105 := n2_; have GE105 := n3_; clear n0_ n1_ n2_ n3_; clear hb hbox hg; have hcz61_0 : w60.cell? ⟨gb105, 0, none⟩ = some (.int .i64 0) := (blk_cell BK105.out 0).trans rfl; have hcz61_1 : w60.cell? ⟨gb105, 1, none⟩ = some (.int .i64 0) := (blk_cell BK105.out 1).trans rfl; have hfz61_0 := blk_frozen BK105.out 0; have hfz61_1 := blk_frozen BK105.out 1) | ((with_reducible refine gate_callee (f := 8) rfl ?_); refine goesL_ (some 15) rfl rfl Tryd.func8 (by kernel_rfl) rfl #[.string (⟨#[34, 92, 117, 48, 48, 101, 57, 34]⟩ : ByteArray)] rfl (by (try simp only [List.map_toArray, List.map_cons, List.map_nil]); first | done | rfl | (simp only [List.length_drop, List.length_take]; rfl)) ?_; (with_reducible refine (quote_Read.calls (⟨#[34, 92, 117, 48, 48, 101, 57, 34]⟩ : ByteArray) t106 t107 t108 t109 _ (hG.below (by first | ((repeat (first | (with_reducible first | exact HB.out | apply below_alloc | apply pw_below_drewN | apply below_drew1 | (refine Glob.below_set ?_ (by assumption) _ _ _)) | exact HB.out)); done) | (refine Drawn0.below ?_; repeat (first | exact Drawn0.refl _ | assumption | apply Drawn0.step)))) A2.out).mono ?_); rintro e w62 ⟨rfl, hb⟩; refine ⟨_, rfl, ?_⟩; have n0_ := Aside0.mk (blk_below (g := gb105) (o := .cells #[.int .i64 t103, .int .i64 t104] 24 (0, 0)) (by (with_reducible repeat (first | refine blk_drewN ?_ _ | refine blk_drew ?_ | refine blk_alloc ?_ _)); refine blk_put (cs := #[.int .i64 t103, .int .i64 0]) ?_ 1 _ rfl; (with_reducible repeat (first | refine blk_drewN ?_ _ | refine blk_drew ?_ | refine blk_alloc ?_ _)); refine blk_put (cs := #[.int .i64 0, .int .i64 0]) ?_ 0 _ rfl; (with_reducible repeat (first | refine blk_drewN ?_ _ | refine blk_drew ?_ | refine blk_alloc ?_ _)); exact BK105.out) hb); have n1_ := Aside0.mk (below_step (by repeat (first | (with_reducible first | exact HB.out | apply below_alloc | apply pw_below_drewN | apply below_drew1 | refine below_set ?_ GE105.out) | exact HB.out)) hb); clear BK105; clear HB; have BK105 := n0_; have HB := n1_; clear n0_ n1_; (try clear hb); (try clear hb2); (try clear hk); (try clear hi)) | ((with_reducible refine gate_dst (N := 6) rfl ?_); refine box_event ?hg (N := 6) ?hd (cs := #[.int .i64 0, .int .i64 0]) (t := 24) ?hr ?_; (case hd => rfl); (case hg => rfl); (case hr => first | (go_simp; done) | (go_simp; rfl)); intro gb110 hg w63 hbox hb; have n0_ := Aside0.mk (blk_below (g := gb105) (o := .cells #[.int .i64 t103, .int .i64 t104] 24 (0, 0)) (by (with_reducible repeat (first | refine blk_drewN ?_ _ | refine blk_drew ?_ | refine blk_alloc ?_ _)); exact BK105.out) hb); have n1_ := Aside0.mk (below_step (by repeat (first | (with_reducible first | exact HB.out | apply below_alloc | apply pw_below_drewN | apply below_drew1 | refine below_set ?_ GE105.out) | exact HB.out)) hb); have n2_ := Aside0.mk (hbox); have n3_ := Aside0.mk ((by rw [hg]; exact (below_size (by repeat (first | (with_reducible first | exact HB.out | apply below_alloc | apply pw_below_drewN | apply below_drew1 | refine below_set ?_ GE105.out) | exact HB.out))) : w.heap.size ≤ gb110)); have n4_ := Aside0.mk ((by rw [hg]; exact (below_size (by repeat (first | (with_reducible first | exact HB.out | apply below_alloc | apply pw_below_drewN | apply below_drew1 | refine below_set ?_ GE105.out) | exact HB.out))) : w.heap.size ≤ gb110)); have n5_ := Aside0.mk ((by rw [hg]; exact Nat.ne_of_lt (blk_lt (g := gb105) (o := .cells #[.int .i64 t103, .int .i64 t104] 24 (0, 0)) (by (with_reducible repeat (first | refine blk_drewN ?_ _ | refine blk_drew ?_ | refine blk_alloc ?_ _)); exact BK105.out)) : gb105 ≠ gb110)); have n6_ := Aside0.mk ((by rw [hg]; exact Nat.ne_of_gt (blk_lt (g := gb105) (o := .cells #[.int .i64 t103, .int .i64 t104] 24 (0, 0)) (by (with_reducible repeat (first | refine blk_drewN ?_ _ | refine blk_drew ?_ | refine blk_alloc ?_ _)); exact BK105.out)) : gb110 ≠ gb105)); clear BK105; clear HB; have BK105 := n0_; have HB := n1_; have BK110 := n2_; have GW110 := n3_; have GE110 := n4_; have NB105_110 := n5_; have NB110_105 := n6_; clear n0_ n1_ n2_ n3_ n4_ n5_ n6_; clear hb hbox hg; have hnb64 := NB110_105.out; have hnc64 := NB105_110.out; have hcz65_0 : w63.cell? ⟨gb110, 0, none⟩ = some (.int .i64 0) := (blk_cell BK110.out 0).trans rfl; have hcz65_1 : w63.cell? ⟨gb110, 1, none⟩ = some (.int .i64 0) := (blk_cell BK110.out 1).trans rfl; have hfz65_0 := blk_frozen BK110.out 0; have hfz65_1 := blk_frozen BK110.out 1) | ((with_reducible refine gate_callee (f := 11) rfl ?_); refine goesL_ (some 20) rfl rfl Tryd.func11 (by kernel_rfl) rfl #[.string (⟨#[97, 10, 34]⟩ : ByteArray)] rfl (by (try simp only [List.map_toArray, List.map_cons, List.map_nil]); first | done | rfl | (simp only [List.length_drop, List.length_take]; rfl)) ?_; (with_reducible refine (quote_Double.calls (⟨#[97, 10, 34]⟩ : ByteArray) t111 t112 _ (hG.below (by first | ((repeat (first | (with_reducible first | exact HB.out | apply below_alloc | apply pw_below_drewN | apply below_drew1 | (refine Glob.below_set ?_ (by assumption) _ _ _)) | exact HB.out)); done) | (refine Drawn0.below ?_; repeat (first | exact Drawn0.refl _ | assumption | apply Drawn0.step)))) A3.out).mono ?_); rintro e w66 ⟨rfl, hb⟩; refine ⟨_, rfl, ?_⟩; have n0_ := Aside0.mk (blk_below (g := gb105) (o := .cells #[.int .i64 t103, .int .i64 t104] 24 (0, 0)) (by (with_reducible repeat (first | refine blk_drewN ?_ _ | refine blk_drew ?_ | refine blk_alloc ?_ _)); refine blk_far ?_ NB105_110.out _; (with_reducible repeat (first | refine blk_drewN ?_ _ | refine blk_drew ?_ | refine blk_alloc ?_ _)); refine blk_far ?_ NB105_110.out _; (with_reducible repeat (first | refine blk_drewN ?_ _ | refine blk_drew ?_ | refine blk_alloc ?_ _)); exact BK105.out) hb); have n1_ := Aside0.mk (blk_below (g := gb110) (o := .cells #[.int .i64 t108, .int .i64 t109] 24 (0, 0)) (by (with_reducible repeat (first | refine blk_drewN ?_ _ | refine blk_drew ?_ | refine blk_alloc ?_ _)); refine blk_put (cs := #[.int .i64 t108, .int .i64 0]) ?_ 1 _ rfl; (with_reducible repeat (first | refine blk_drewN ?_ _ | refine blk_drew ?_ | refine blk_alloc ?_ _)); refine blk_put (cs := #[.int .i64 0, .int .i64 0]) ?_ 0 _ rfl; (with_reducible repeat (first | refine blk_drewN ?_ _ | refine blk_drew ?_ | refine blk_alloc ?_ _)); exact BK110.out) hb); have n2_ := Aside0.mk (below_step (by repeat (first | (with_reducible first | exact HB.out | apply below_alloc | apply pw_below_drewN | apply below_drew1 | refine below_set ?_ GE105.out | refine below_set ?_ GE110.out) | exact HB.out)) hb); clear BK105; clear BK110; clear HB; have BK105 := n0_; have BK110 := n1_; have HB := n2_; clear n0_ n1_ n2_; (try clear hb); (try clear hb2); (try clear hk); (try clear hi); have hcz67_0 : w66.cell? ⟨gb105, 0, none⟩ = some (.int .i64 t103) := (blk_cell BK105.out 0).trans rfl; have hcz67_1 : w66.cell? ⟨gb105, 1, none⟩ = some (.int .i64 t104) := (blk_cell BK105.out 1).trans rfl; have hfz67_0 := blk_frozen BK105.out 0; have hfz67_1 := blk_frozen BK105.out 1))
        go_ret
        exact ⟨by first | rfl | (simp [errW_none, errW_some] <;> rfl) | (simp [*, errW_none, errW_some] <;> rfl), by repeat (first | (with_reducible first | exact HB.out | apply below_alloc | apply pw_below_drewN | apply below_drew1 | refine below_set ?_ GE105.out | refine below_set ?_ GE110.out) | exact HB.out)⟩
    · rw [if_neg c5] at H
      have c5b0 : (t102 == 7) = false := beq_eq_false_iff_ne.mpr c5
      have c5b1 : (t102 != 7) = true := bne_iff_ne.mpr c5
      obtain rfl := Option.some.inj H
      go_enter Tryd.func10, Tryd.ntmps10
      go_wp2_with (first | ((with_reducible refine gate_callee (f := 8) rfl ?_); refine goesL_ (some 10) rfl rfl Tryd.func8 (by kernel_rfl) rfl #[.string (⟨#[39, 105, 116, 39, 39, 115, 39, 32, 120]⟩ : ByteArray)] rfl (by (try simp only [List.map_toArray, List.map_cons, List.map_nil]); first | done | rfl | (simp only [List.length_drop, List.length_take]; rfl)) ?_; (with_reducible refine (quote_Read.calls (⟨#[39, 105, 116, 39, 39, 115, 39, 32, 120]⟩ : ByteArray) t101 t102 t103 t104 _ (hG.below (by first | ((repeat (first | (with_reducible first | exact HB.out | apply below_alloc | apply pw_below_drewN | apply below_drew1 | (refine Glob.below_set ?_ (by assumption) _ _ _)) | exact HB.out)); done) | (refine Drawn0.below ?_; repeat (first | exact Drawn0.refl _ | assumption | apply Drawn0.step)))) A1.out).mono ?_); rintro e w68 ⟨rfl, hb⟩; refine ⟨_, rfl, ?_⟩; have n0_ := Aside0.mk (below_step (by repeat (first | (with_reducible first | exact HB.out | apply below_alloc | apply pw_below_drewN | apply below_drew1) | exact HB.out)) hb); clear HB; have HB := n0_; clear n0_; (try clear hb); (try clear hb2); (try clear hk); (try clear hi)) | ((with_reducible refine gate_dst (N := 3) rfl ?_); refine box_event ?hg (N := 3) ?hd (cs := #[.int .i64 0, .int .i64 0]) (t := 24) ?hr ?_; (case hd => rfl); (case hg => rfl); (case hr => first | (go_simp; done) | (go_simp; rfl)); intro gb105 hg w69 hbox hb; have n0_ := Aside0.mk (below_step (by repeat (first | (with_reducible first | exact HB.out | apply below_alloc | apply pw_below_drewN | apply below_drew1) | exact HB.out)) hb); have n1_ := Aside0.mk (hbox); have n2_ := Aside0.mk ((by rw [hg]; exact (below_size (by repeat (first | (with_reducible first | exact HB.out | apply below_alloc | apply pw_below_drewN | apply below_drew1) | exact HB.out))) : w.heap.size ≤ gb105)); have n3_ := Aside0.mk ((by rw [hg]; exact (below_size (by repeat (first | (with_reducible first | exact HB.out | apply below_alloc | apply pw_below_drewN | apply below_drew1) | exact HB.out))) : w.heap.size ≤ gb105)); clear HB; have HB := n0_; have BK105 := n1_; have GW105 := n2_; have GE105 := n3_; clear n0_ n1_ n2_ n3_; clear hb hbox hg; have hcz70_0 : w69.cell? ⟨gb105, 0, none⟩ = some (.int .i64 0) := (blk_cell BK105.out 0).trans rfl; have hcz70_1 : w69.cell? ⟨gb105, 1, none⟩ = some (.int .i64 0) := (blk_cell BK105.out 1).trans rfl; have hfz70_0 := blk_frozen BK105.out 0; have hfz70_1 := blk_frozen BK105.out 1) | ((with_reducible refine gate_callee (f := 8) rfl ?_); refine goesL_ (some 15) rfl rfl Tryd.func8 (by kernel_rfl) rfl #[.string (⟨#[34, 92, 117, 48, 48, 101, 57, 34]⟩ : ByteArray)] rfl (by (try simp only [List.map_toArray, List.map_cons, List.map_nil]); first | done | rfl | (simp only [List.length_drop, List.length_take]; rfl)) ?_; (with_reducible refine (quote_Read.calls (⟨#[34, 92, 117, 48, 48, 101, 57, 34]⟩ : ByteArray) t106 t107 t108 t109 _ (hG.below (by first | ((repeat (first | (with_reducible first | exact HB.out | apply below_alloc | apply pw_below_drewN | apply below_drew1 | (refine Glob.below_set ?_ (by assumption) _ _ _)) | exact HB.out)); done) | (refine Drawn0.below ?_; repeat (first | exact Drawn0.refl _ | assumption | apply Drawn0.step)))) A2.out).mono ?_); rintro e w71 ⟨rfl, hb⟩; refine ⟨_, rfl, ?_⟩; have n0_ := Aside0.mk (blk_below (g := gb105) (o := .cells #[.int .i64 t103, .int .i64 t104] 24 (0, 0)) (by (with_reducible repeat (first | refine blk_drewN ?_ _ | refine blk_drew ?_ | refine blk_alloc ?_ _)); refine blk_put (cs := #[.int .i64 t103, .int .i64 0]) ?_ 1 _ rfl; (with_reducible repeat (first | refine blk_drewN ?_ _ | refine blk_drew ?_ | refine blk_alloc ?_ _)); refine blk_put (cs := #[.int .i64 0, .int .i64 0]) ?_ 0 _ rfl; (with_reducible repeat (first | refine blk_drewN ?_ _ | refine blk_drew ?_ | refine blk_alloc ?_ _)); exact BK105.out) hb); have n1_ := Aside0.mk (below_step (by repeat (first | (with_reducible first | exact HB.out | apply below_alloc | apply pw_below_drewN | apply below_drew1 | refine below_set ?_ GE105.out) | exact HB.out)) hb); clear BK105; clear HB; have BK105 := n0_; have HB := n1_; clear n0_ n1_; (try clear hb); (try clear hb2); (try clear hk); (try clear hi)) | ((with_reducible refine gate_dst (N := 6) rfl ?_); refine box_event ?hg (N := 6) ?hd (cs := #[.int .i64 0, .int .i64 0]) (t := 24) ?hr ?_; (case hd => rfl); (case hg => rfl); (case hr => first | (go_simp; done) | (go_simp; rfl)); intro gb110 hg w72 hbox hb; have n0_ := Aside0.mk (blk_below (g := gb105) (o := .cells #[.int .i64 t103, .int .i64 t104] 24 (0, 0)) (by (with_reducible repeat (first | refine blk_drewN ?_ _ | refine blk_drew ?_ | refine blk_alloc ?_ _)); exact BK105.out) hb); have n1_ := Aside0.mk (below_step (by repeat (first | (with_reducible first | exact HB.out | apply below_alloc | apply pw_below_drewN | apply below_drew1 | refine below_set ?_ GE105.out) | exact HB.out)) hb); have n2_ := Aside0.mk (hbox); have n3_ := Aside0.mk ((by rw [hg]; exact (below_size (by repeat (first | (with_reducible first | exact HB.out | apply below_alloc | apply pw_below_drewN | apply below_drew1 | refine below_set ?_ GE105.out) | exact HB.out))) : w.heap.size ≤ gb110)); have n4_ := Aside0.mk ((by rw [hg]; exact (below_size (by repeat (first | (with_reducible first | exact HB.out | apply below_alloc | apply pw_below_drewN | apply below_drew1 | refine below_set ?_ GE105.out) | exact HB.out))) : w.heap.size ≤ gb110)); have n5_ := Aside0.mk ((by rw [hg]; exact Nat.ne_of_lt (blk_lt (g := gb105) (o := .cells #[.int .i64 t103, .int .i64 t104] 24 (0, 0)) (by (with_reducible repeat (first | refine blk_drewN ?_ _ | refine blk_drew ?_ | refine blk_alloc ?_ _)); exact BK105.out)) : gb105 ≠ gb110)); have n6_ := Aside0.mk ((by rw [hg]; exact Nat.ne_of_gt (blk_lt (g := gb105) (o := .cells #[.int .i64 t103, .int .i64 t104] 24 (0, 0)) (by (with_reducible repeat (first | refine blk_drewN ?_ _ | refine blk_drew ?_ | refine blk_alloc ?_ _)); exact BK105.out)) : gb110 ≠ gb105)); clear BK105; clear HB; have BK105 := n0_; have HB := n1_; have BK110 := n2_; have GW110 := n3_; have GE110 := n4_; have NB105_110 := n5_; have NB110_105 := n6_; clear n0_ n1_ n2_ n3_ n4_ n5_ n6_; clear hb hbox hg; have hnb73 := NB110_105.out; have hnc73 := NB105_110.out; have hcz74_0 : w72.cell? ⟨gb110, 0, none⟩ = some (.int .i64 0) := (blk_cell BK110.out 0).trans rfl; have hcz74_1 : w72.cell? ⟨gb110, 1, none⟩ = some (.int .i64 0) := (blk_cell BK110.out 1).trans rfl; have hfz74_0 := blk_frozen BK110.out 0; have hfz74_1 := blk_frozen BK110.out 1) | ((with_reducible refine gate_callee (f := 11) rfl ?_); refine goesL_ (some 20) rfl rfl Tryd.func11 (by kernel_rfl) rfl #[.string (⟨#[97, 10, 34]⟩ : ByteArray)] rfl (by (try simp only [List.map_toArray, List.map_cons, List.map_nil]); first | done | rfl | (simp only [List.length_drop, List.length_take]; rfl)) ?_; (with_reducible refine (quote_Double.calls (⟨#[97, 10, 34]⟩ : ByteArray) t111 t112 _ (hG.below (by first | ((repeat (first | (with_reducible first | exact HB.out | apply below_alloc | apply pw_below_drewN | apply below_drew1 | (refine Glob.below_set ?_ (by assumption) _ _ _)) | exact HB.out)); done) | (refine Drawn0.below ?_; repeat (first | exact Drawn0.refl _ | assumption | apply Drawn0.step)))) A3.out).mono ?_); rintro e w75 ⟨rfl, hb⟩; refine ⟨_, rfl, ?_⟩; have n0_ := Aside0.mk (blk_below (g := gb105) (o := .cells #[.int .i64 t103, .int .i64 t104] 24 (0, 0)) (by (with_reducible repeat (first | refine blk_drewN ?_ _ | refine blk_drew ?_ | refine blk_alloc ?_ _)); refine blk_far ?_ NB105_110.out _; (with_reducible repeat (first | refine blk_drewN ?_ _ | refine blk_drew ?_ | refine blk_alloc ?_ _)); refine blk_far ?_ NB105_110.out _; (with_reducible repeat (first | refine blk_drewN ?_ _ | refine blk_drew ?_ | refine blk_alloc ?_ _)); exact BK105.out) hb); have n1_ := Aside0.mk (blk_below (g := gb110) (o := .cells #[.int .i64 t108, .int .i64 t109] 24 (0, 0)) (by (with_reducible repeat (first | refine blk_drewN ?_ _ | refine blk_drew ?_ | refine blk_alloc ?_ _)); refine blk_put (cs := #[.int .i64 t108, .int .i64 0]) ?_ 1 _ rfl; (with_reducible repeat (first | refine blk_drewN ?_ _ | refine blk_drew ?_ | refine blk_alloc ?_ _)); refine blk_put (cs := #[.int .i64 0, .int .i64 0]) ?_ 0 _ rfl; (with_reducible repeat (first | refine blk_drewN ?_ _ | refine blk_drew ?_ | refine blk_alloc ?_ _)); exact BK110.out) hb); have n2_ := Aside0.mk (below_step (by repeat (first | (with_reducible first | exact HB.out | apply below_alloc | apply pw_below_drewN | apply below_drew1 | refine below_set ?_ GE105.out | refine below_set ?_ GE110.out) | exact HB.out)) hb); clear BK105; clear BK110; clear HB; have BK105 := n0_; have BK110 := n1_; have HB := n2_; clear n0_ n1_ n2_; (try clear hb); (try clear hb2); (try clear hk); (try clear hi)))
      go_ret
      exact ⟨by first | rfl | (simp [errW_none, errW_some] <;> rfl) | (simp [*, errW_none, errW_some] <;> rfl), by repeat (first | (with_reducible first | exact HB.out | apply below_alloc | apply pw_below_drewN | apply below_drew1 | refine below_set ?_ GE105.out | refine below_set ?_ GE110.out) | exact HB.out)⟩
  · rw [if_neg c4] at H
    have c4b0 : (t101.toList == ([105, 116, 39, 115] : List UInt8)) = false := beq_eq_false_iff_ne.mpr c4
    have c4b1 : (t101.toList != ([105, 116, 39, 115] : List UInt8)) = true := bne_iff_ne.mpr c4
    obtain rfl := Option.some.inj H
    go_enter Tryd.func10, Tryd.ntmps10
    go_wp2_with (first | ((with_reducible refine gate_callee (f := 8) rfl ?_); refine goesL_ (some 10) rfl rfl Tryd.func8 (by kernel_rfl) rfl #[.string (⟨#[39, 105, 116, 39, 39, 115, 39, 32, 120]⟩ : ByteArray)] rfl (by (try simp only [List.map_toArray, List.map_cons, List.map_nil]); first | done | rfl | (simp only [List.length_drop, List.length_take]; rfl)) ?_; (with_reducible refine (quote_Read.calls (⟨#[39, 105, 116, 39, 39, 115, 39, 32, 120]⟩ : ByteArray) t101 t102 t103 t104 _ (hG.below (by first | ((repeat (first | (with_reducible first | exact HB.out | apply below_alloc | apply pw_below_drewN | apply below_drew1 | (refine Glob.below_set ?_ (by assumption) _ _ _)) | exact HB.out)); done) | (refine Drawn0.below ?_; repeat (first | exact Drawn0.refl _ | assumption | apply Drawn0.step)))) A1.out).mono ?_); rintro e w76 ⟨rfl, hb⟩; refine ⟨_, rfl, ?_⟩; have n0_ := Aside0.mk (below_step (by repeat (first | (with_reducible first | exact HB.out | apply below_alloc | apply pw_below_drewN | apply below_drew1) | exact HB.out)) hb); clear HB; have HB := n0_; clear n0_; (try clear hb); (try clear hb2); (try clear hk); (try clear hi)) | ((with_reducible refine gate_dst (N := 3) rfl ?_); refine box_event ?hg (N := 3) ?hd (cs := #[.int .i64 0, .int .i64 0]) (t := 24) ?hr ?_; (case hd => rfl); (case hg => rfl); (case hr => first | (go_simp; done) | (go_simp; rfl)); intro gb105 hg w77 hbox hb; have n0_ := Aside0.mk (below_step (by repeat (first | (with_reducible first | exact HB.out | apply below_alloc | apply pw_below_drewN | apply below_drew1) | exact HB.out)) hb); have n1_ := Aside0.mk (hbox); have n2_ := Aside0.mk ((by rw [hg]; exact (below_size (by repeat (first | (with_reducible first | exact HB.out | apply below_alloc | apply pw_below_drewN | apply below_drew1) | exact HB.out))) : w.heap.size ≤ gb105)); have n3_ := Aside0.mk ((by rw [hg]; exact (below_size (by repeat (first | (with_reducible first | exact HB.out | apply below_alloc | apply pw_below_drewN | apply below_drew1) | exact HB.out))) : w.heap.size ≤ gb105)); clear HB; have HB := n0_; have BK105 := n1_; have GW105 := n2_; have GE105 := n3_; clear n0_ n1_ n2_ n3_; clear hb hbox hg; have hcz78_0 : w77.cell? ⟨gb105, 0, none⟩ = some (.int .i64 0) := (blk_cell BK105.out 0).trans rfl; have hcz78_1 : w77.cell? ⟨gb105, 1, none⟩ = some (.int .i64 0) := (blk_cell BK105.out 1).trans rfl; have hfz78_0 := blk_frozen BK105.out 0; have hfz78_1 := blk_frozen BK105.out 1) | ((with_reducible refine gate_callee (f := 8) rfl ?_); refine goesL_ (some 15) rfl rfl Tryd.func8 (by kernel_rfl) rfl #[.string (⟨#[34, 92, 117, 48, 48, 101, 57, 34]⟩ : ByteArray)] rfl (by (try simp only [List.map_toArray, List.map_cons, List.map_nil]); first | done | rfl | (simp only [List.length_drop, List.length_take]; rfl)) ?_; (with_reducible refine (quote_Read.calls (⟨#[34, 92, 117, 48, 48, 101, 57, 34]⟩ : ByteArray) t106 t107 t108 t109 _ (hG.below (by first | ((repeat (first | (with_reducible first | exact HB.out | apply below_alloc | apply pw_below_drewN | apply below_drew1 | (refine Glob.below_set ?_ (by assumption) _ _ _)) | exact HB.out)); done) | (refine Drawn0.below ?_; repeat (first | exact Drawn0.refl _ | assumption | apply Drawn0.step)))) A2.out).mono ?_); rintro e w79 ⟨rfl, hb⟩; refine ⟨_, rfl, ?_⟩; have n0_ := Aside0.mk (blk_below (g := gb105) (o := .cells #[.int .i64 t103, .int .i64 t104] 24 (0, 0)) (by (with_reducible repeat (first | refine blk_drewN ?_ _ | refine blk_drew ?_ | refine blk_alloc ?_ _)); refine blk_put (cs := #[.int .i64 t103, .int .i64 0]) ?_ 1 _ rfl; (with_reducible repeat (first | refine blk_drewN ?_ _ | refine blk_drew ?_ | refine blk_alloc ?_ _)); refine blk_put (cs := #[.int .i64 0, .int .i64 0]) ?_ 0 _ rfl; (with_reducible repeat (first | refine blk_drewN ?_ _ | refine blk_drew ?_ | refine blk_alloc ?_ _)); exact BK105.out) hb); have n1_ := Aside0.mk (below_step (by repeat (first | (with_reducible first | exact HB.out | apply below_alloc | apply pw_below_drewN | apply below_drew1 | refine below_set ?_ GE105.out) | exact HB.out)) hb); clear BK105; clear HB; have BK105 := n0_; have HB := n1_; clear n0_ n1_; (try clear hb); (try clear hb2); (try clear hk); (try clear hi)) | ((with_reducible refine gate_dst (N := 6) rfl ?_); refine box_event ?hg (N := 6) ?hd (cs := #[.int .i64 0, .int .i64 0]) (t := 24) ?hr ?_; (case hd => rfl); (case hg => rfl); (case hr => first | (go_simp; done) | (go_simp; rfl)); intro gb110 hg w80 hbox hb; have n0_ := Aside0.mk (blk_below (g := gb105) (o := .cells #[.int .i64 t103, .int .i64 t104] 24 (0, 0)) (by (with_reducible repeat (first | refine blk_drewN ?_ _ | refine blk_drew ?_ | refine blk_alloc ?_ _)); exact BK105.out) hb); have n1_ := Aside0.mk (below_step (by repeat (first | (with_reducible first | exact HB.out | apply below_alloc | apply pw_below_drewN | apply below_drew1 | refine below_set ?_ GE105.out) | exact HB.out)) hb); have n2_ := Aside0.mk (hbox); have n3_ := Aside0.mk ((by rw [hg]; exact (below_size (by repeat (first | (with_reducible first | exact HB.out | apply below_alloc | apply pw_below_drewN | apply below_drew1 | refine below_set ?_ GE105.out) | exact HB.out))) : w.heap.size ≤ gb110)); have n4_ := Aside0.mk ((by rw [hg]; exact (below_size (by repeat (first | (with_reducible first | exact HB.out | apply below_alloc | apply pw_below_drewN | apply below_drew1 | refine below_set ?_ GE105.out) | exact HB.out))) : w.heap.size ≤ gb110)); have n5_ := Aside0.mk ((by rw [hg]; exact Nat.ne_of_lt (blk_lt (g := gb105) (o := .cells #[.int .i64 t103, .int .i64 t104] 24 (0, 0)) (by (with_reducible repeat (first | refine blk_drewN ?_ _ | refine blk_drew ?_ | refine blk_alloc ?_ _)); exact BK105.out)) : gb105 ≠ gb110)); have n6_ := Aside0.mk ((by rw [hg]; exact Nat.ne_of_gt (blk_lt (g := gb105) (o := .cells #[.int .i64 t103, .int .i64 t104] 24 (0, 0)) (by (with_reducible repeat (first | refine blk_drewN ?_ _ | refine blk_drew ?_ | refine blk_alloc ?_ _)); exact BK105.out)) : gb110 ≠ gb105)); clear BK105; clear HB; have BK105 := n0_; have HB := n1_; have BK110 := n2_; have GW110 := n3_; have GE110 := n4_; have NB105_110 := n5_; have NB110_105 := n6_; clear n0_ n1_ n2_ n3_ n4_ n5_ n6_; clear hb hbox hg; have hnb81 := NB110_105.out; have hnc81 := NB105_110.out; have hcz82_0 : w80.cell? ⟨gb110, 0, none⟩ = some (.int .i64 0) := (blk_cell BK110.out 0).trans rfl; have hcz82_1 : w80.cell? ⟨gb110, 1, none⟩ = some (.int .i64 0) := (blk_cell BK110.out 1).trans rfl; have hfz82_0 := blk_frozen BK110.out 0; have hfz82_1 := blk_frozen BK110.out 1) | ((with_reducible refine gate_callee (f := 11) rfl ?_); refine goesL_ (some 20) rfl rfl Tryd.func11 (by kernel_rfl) rfl #[.string (⟨#[97, 10, 34]⟩ : ByteArray)] rfl (by (try simp only [List.map_toArray, List.map_cons, List.map_nil]); first | done | rfl | (simp only [List.length_drop, List.length_take]; rfl)) ?_; (with_reducible refine (quote_Double.calls (⟨#[97, 10, 34]⟩ : ByteArray) t111 t112 _ (hG.below (by first | ((repeat (first | (with_reducible first | exact HB.out | apply below_alloc | apply pw_below_drewN | apply below_drew1 | (refine Glob.below_set ?_ (by assumption) _ _ _)) | exact HB.out)); done) | (refine Drawn0.below ?_; repeat (first | exact Drawn0.refl _ | assumption | apply Drawn0.step)))) A3.out).mono ?_); rintro e w83 ⟨rfl, hb⟩; refine ⟨_, rfl, ?_⟩; have n0_ := Aside0.mk (blk_below (g := gb105) (o := .cells #[.int .i64 t103, .int .i64 t104] 24 (0, 0)) (by (with_reducible repeat (first | refine blk_drewN ?_ _ | refine blk_drew ?_ | refine blk_alloc ?_ _)); refine blk_far ?_ NB105_110.out _; (with_reducible repeat (first | refine blk_drewN ?_ _ | refine blk_drew ?_ | refine blk_alloc ?_ _)); refine blk_far ?_ NB105_110.out _; (with_reducible repeat (first | refine blk_drewN ?_ _ | refine blk_drew ?_ | refine blk_alloc ?_ _)); exact BK105.out) hb); have n1_ := Aside0.mk (blk_below (g := gb110) (o := .cells #[.int .i64 t108, .int .i64 t109] 24 (0, 0)) (by (with_reducible repeat (first | refine blk_drewN ?_ _ | refine blk_drew ?_ | refine blk_alloc ?_ _)); refine blk_put (cs := #[.int .i64 t108, .int .i64 0]) ?_ 1 _ rfl; (with_reducible repeat (first | refine blk_drewN ?_ _ | refine blk_drew ?_ | refine blk_alloc ?_ _)); refine blk_put (cs := #[.int .i64 0, .int .i64 0]) ?_ 0 _ rfl; (with_reducible repeat (first | refine blk_drewN ?_ _ | refine blk_drew ?_ | refine blk_alloc ?_ _)); exact BK110.out) hb); have n2_ := Aside0.mk (below_step (by repeat (first | (with_reducible first | exact HB.out | apply below_alloc | apply pw_below_drewN | apply below_drew1 | refine below_set ?_ GE105.out | refine below_set ?_ GE110.out) | exact HB.out)) hb); clear BK105; clear BK110; clear HB; have BK105 := n0_; have BK110 := n1_; have HB := n2_; clear n0_ n1_ n2_; (try clear hb); (try clear hb2); (try clear hk); (try clear hi)))
    go_ret
    exact ⟨by first | rfl | (simp [errW_none, errW_some] <;> rfl) | (simp [*, errW_none, errW_some] <;> rfl), by repeat (first | (with_reducible first | exact HB.out | apply below_alloc | apply pw_below_drewN | apply below_drew1 | refine below_set ?_ GE105.out | refine below_set ?_ GE110.out) | exact HB.out)⟩

end Go.Proofs.YtidbneljichnhaaDoor.PX

/- YtidbneljichnhaaDoorFQuoteSimple: what print.py told of Go functions, for this claim. -/
namespace Go.Proofs.YtidbneljichnhaaDoor.PX
open Go.RowKit Go.Proofs.YtidbneljichnhaaDoorW.PrintWords Go.Proofs.YtidbneljichnhaaDoorW.PrintLast Go.Proofs.YtidbneljichnhaaDoorW.PrintMore Go.Proofs.YtidbneljichnhaaDoor
attribute [local go_sem] max2_int min2_int max_two min_two max_three min_three max_four min_four   -- for this text's walks alone
set_option linter.unusedVariables false
set_option linter.unusedSimpArgs false

/-! ### quote_Simple: function 15 -/
def quote_Simple.l0 : Nat → ByteArray → Option (Bool)
  | 0, _ => none
  | k + 1, x0 => if x0.toList = ([] : List UInt8) then (some true) else ((utf_First.f x0).bind fun bt101 => ((quote_may.f bt101.1).bind fun t103 => (if t103 = true then (if 0 ≤ bt101.2 then (if bt101.2 ≤ (x0.size : Int) then (quote_Simple.l0 k (x0.extract (bt101.2 : Int).toNat x0.size)) else (none)) else (none)) else (some false))))
def quote_Simple.f (k : Nat) (a0 : ByteArray) : Option (Bool) := quote_Simple.l0 k a0
theorem quote_Simple.mono_l : ∀ k, (∀ y0, LeO (quote_Simple.l0 k y0) (quote_Simple.l0 (k + 1) y0))
  | 0 => fun _ r h => by simp [quote_Simple.l0] at h
  | k + 1 => by
    have ih0 := quote_Simple.mono_l k
    · intro y0
      unfold quote_Simple.l0
      repeat' first
      | (with_reducible exact ih0 _)
      | (with_reducible exact LeO.refl _)
      | (with_reducible exact LeO.none _)
      | (with_reducible refine LeO.ite ?_ ?_)
      | (with_reducible refine LeO.bind ?_ (fun _ => ?_))
      | exact ih0 _
      | exact LeO.none _
      | refine LeO.ite ?_ ?_
      | refine LeO.bind ?_ (fun _ => ?_)
theorem quote_Simple.mono : ∀ a0 k, LeO (quote_Simple.f k a0) (quote_Simple.f (k + 1) a0) := by
  intro a0 k
  have ih0 := quote_Simple.mono_l k
  unfold quote_Simple.f
  repeat' first
      | (with_reducible exact ih0 _)
      | (with_reducible exact LeO.refl _)
      | (with_reducible exact LeO.none _)
      | (with_reducible refine LeO.ite ?_ ?_)
      | (with_reducible refine LeO.bind ?_ (fun _ => ?_))
      | exact ih0 _
      | exact LeO.none _
      | refine LeO.ite ?_ ?_
      | refine LeO.bind ?_ (fun _ => ?_)
set_option maxHeartbeats 8000000 in
set_option maxRecDepth 100000 in
theorem quote_Simple.calls (k : Nat) (a0 : ByteArray) (r : Bool) (w : World) (hG : Glob.G w) (h : quote_Simple.f k a0 = some r) :
    Calls Tryd.prog 15 #[.string a0] w fun e w' => e = .returned (.bool r) ∧ Below w.heap.size w w' := by
  have HB := Aside0.mk (Below.refl w.heap.size w)
  have H : (quote_Simple.l0 k a0) = some r := h
  clear h
  have H' := Aside0.mk H
  clear H
  go_enter Tryd.func15, Tryd.ntmps15
  go_wp2
  go_loopg [0] k (fun kq v0 w' => ∃ (x0_1 : ByteArray), v0 = .string x0_1 ∧ Aside0 (quote_Simple.l0 kq x0_1 = some r) ∧ Aside0 (kq ≤ k) ∧ Aside0 (Below w.heap.size w w'))
  case atStart => exact ⟨(a0), (by first | rfl | (simp; done) | (simp [*]; done)), H', ⟨Nat.le_refl _⟩, ⟨by repeat (first | (with_reducible first | exact HB.out | apply below_alloc | apply pw_below_drewN | apply below_drew1) | exact HB.out)⟩⟩
  case round =>
    clear H'
    try clear c1
    obtain ⟨x0_1, rfl, HA, HK1, HB⟩ := hrel
    cases gk with
    | zero => exact absurd HA.out (by simp [quote_Simple.l0])
    | succ k1 =>
      have H := HA.out
      clear HA
      simp only [quote_Simple.l0] at H
      by_cases c2 : x0_1.toList = ([] : List UInt8)
      · rw [if_pos c2] at H
        have c2b0 : (x0_1.toList == ([] : List UInt8)) = true := beq_iff_eq.mpr c2
        have c2b1 : (x0_1.toList != ([] : List UInt8)) = false := bne_eq_false_iff_eq.mpr c2
        clear c2
        obtain rfl := Option.some.inj H
        go_wp2
        go_ret
        exact ⟨by first | rfl | (simp [errW_none, errW_some] <;> rfl) | (simp [*, errW_none, errW_some] <;> rfl), by repeat (first | (with_reducible first | exact HB.out | apply below_alloc | apply pw_below_drewN | apply below_drew1) | exact HB.out)⟩
      · rw [if_neg c2] at H
        have c2b0 : (x0_1.toList == ([] : List UInt8)) = false := beq_eq_false_iff_ne.mpr c2
        have c2b1 : (x0_1.toList != ([] : List UInt8)) = true := bne_iff_ne.mpr c2
        replace H := Option.bind_eq_some_iff.mp H
        obtain ⟨⟨t101, t102⟩, A30, H⟩ := H
        replace H : ((quote_may.f t101).bind fun t103 => (if t103 = true then (if 0 ≤ t102 then (if t102 ≤ (x0_1.size : Int) then (quote_Simple.l0 k1 (x0_1.extract (t102 : Int).toNat x0_1.size)) else (none)) else (none)) else (some false))) = some r := H
        have A3 := Aside0.mk A30
        clear A30
        replace H := Option.bind_eq_some_iff.mp H
        obtain ⟨t103, A40, H⟩ := H
        replace H : (if t103 = true then (if 0 ≤ t102 then (if t102 ≤ (x0_1.size : Int) then (quote_Simple.l0 k1 (x0_1.extract (t102 : Int).toNat x0_1.size)) else (none)) else (none)) else (some false)) = some r := H
        have A4 := Aside0.mk A40
        clear A40
        by_cases c5 : t103 = true
        · subst c5
          have H1 : (if 0 ≤ t102 then (if t102 ≤ (x0_1.size : Int) then (quote_Simple.l0 k1 (x0_1.extract (t102 : Int).toNat x0_1.size)) else (none)) else (none)) = some r := by rw [if_pos rfl] at H; exact H
          clear H
          have H := H1
          clear H1
          by_cases c6 : 0 ≤ t102
          · rw [if_pos c6] at H
            have c6b0 := eq_true c6
            have c6b1 : decide (0 ≤ t102) = true := decide_eq_true c6
            clear c6
            by_cases c7 : t102 ≤ (x0_1.size : Int)
            · rw [if_pos c7] at H
              have c7b0 := eq_true c7
              have c7b1 : decide (t102 ≤ (x0_1.size : Int)) = true := decide_eq_true c7
              clear c7
              have H' := Aside0.mk H
              clear H
              go_wp2_with (first | ((with_reducible refine gate_callee (f := 16) rfl ?_); refine goesL_ (some 9) rfl rfl Tryd.func16 (by kernel_rfl) rfl #[.string x0_1] rfl (by (try simp only [List.map_toArray, List.map_cons, List.map_nil]); first | done | rfl | (simp only [List.length_drop, List.length_take]; rfl)) ?_; (with_reducible refine (utf_First.calls x0_1 t101 t102 _ (hG.below (by first | ((repeat (first | (with_reducible first | exact HB.out | apply below_alloc | apply pw_below_drewN | apply below_drew1 | (refine Glob.below_set ?_ (by assumption) _ _ _)) | exact HB.out)); done) | (refine Drawn0.below ?_; repeat (first | exact Drawn0.refl _ | assumption | apply Drawn0.step)))) A3.out).mono ?_); rintro e w8 ⟨rfl, hb⟩; refine ⟨_, rfl, ?_⟩; have n0_ := Aside0.mk (below_step (by repeat (first | (with_reducible first | exact HB.out | apply below_alloc | apply pw_below_drewN | apply below_drew1) | exact HB.out)) hb); clear HB; have HB := n0_; clear n0_; (try clear hb); (try clear hb2); (try clear hk); (try clear hi)) | ((with_reducible refine gate_callee (f := 30) rfl ?_); refine goesL_ (some 13) rfl rfl Tryd.func30 (by kernel_rfl) rfl #[.int .i64 t101] rfl (by (try simp only [List.map_toArray, List.map_cons, List.map_nil]); first | done | rfl | (simp only [List.length_drop, List.length_take]; rfl)) ?_; (with_reducible refine (quote_may.calls t101 true _ (hG.below (by first | ((repeat (first | (with_reducible first | exact HB.out | apply below_alloc | apply pw_below_drewN | apply below_drew1 | (refine Glob.below_set ?_ (by assumption) _ _ _)) | exact HB.out)); done) | (refine Drawn0.below ?_; repeat (first | exact Drawn0.refl _ | assumption | apply Drawn0.step)))) A4.out).mono ?_); rintro e w' ⟨rfl, ⟨nd, rfl⟩⟩; refine ⟨_, rfl, ?_⟩))
              go_roundg k1
              case measure => have := HK1.out; omega
              case rel => exact ⟨(x0_1.extract (t102 : Int).toNat x0_1.size), (by first | rfl | (simp; done) | (simp [*]; done)), H', ⟨by have := HK1.out; omega⟩, ⟨by repeat (first | (with_reducible first | exact HB.out | apply below_alloc | apply pw_below_drewN | apply below_drew1) | exact HB.out)⟩⟩
            · rw [if_neg c7] at H
              exact absurd H (by simp)
          · rw [if_neg c6] at H
            exact absurd H (by simp)
        · replace c5 := Bool.eq_false_iff.mpr c5
          subst c5
          have H1 : (some false) = some r := by rw [if_neg (show ¬ (false = true) by decide)] at H; exact H
          clear H
          have H := H1
          clear H1
          obtain rfl := Option.some.inj H
          go_wp2_with (first | ((with_reducible refine gate_callee (f := 16) rfl ?_); refine goesL_ (some 9) rfl rfl Tryd.func16 (by kernel_rfl) rfl #[.string x0_1] rfl (by (try simp only [List.map_toArray, List.map_cons, List.map_nil]); first | done | rfl | (simp only [List.length_drop, List.length_take]; rfl)) ?_; (with_reducible refine (utf_First.calls x0_1 t101 t102 _ (hG.below (by first | ((repeat (first | (with_reducible first | exact HB.out | apply below_alloc | apply pw_below_drewN | apply below_drew1 | (refine Glob.below_set ?_ (by assumption) _ _ _)) | exact HB.out)); done) | (refine Drawn0.below ?_; repeat (first | exact Drawn0.refl _ | assumption | apply Drawn0.step)))) A3.out).mono ?_); rintro e w9 ⟨rfl, hb⟩; refine ⟨_, rfl, ?_⟩; have n0_ := Aside0.mk (below_step (by repeat (first | (with_reducible first | exact HB.out | apply below_alloc | apply pw_below_drewN | apply below_drew1) | exact HB.out)) hb); clear HB; have HB := n0_; clear n0_; (try clear hb); (try clear hb2); (try clear hk); (try clear hi)) | ((with_reducible refine gate_callee (f := 30) rfl ?_); refine goesL_ (some 13) rfl rfl Tryd.func30 (by kernel_rfl) rfl #[.int .i64 t101] rfl (by (try simp only [List.map_toArray, List.map_cons, List.map_nil]); first | done | rfl | (simp only [List.length_drop, List.length_take]; rfl)) ?_; (with_reducible refine (quote_may.calls t101 false _ (hG.below (by first | ((repeat (first | (with_reducible first | exact HB.out | apply below_alloc | apply pw_below_drewN | apply below_drew1 | (refine Glob.below_set ?_ (by assumption) _ _ _)) | exact HB.out)); done) | (refine Drawn0.below ?_; repeat (first | exact Drawn0.refl _ | assumption | apply Drawn0.step)))) A4.out).mono ?_); rintro e w' ⟨rfl, ⟨nd, rfl⟩⟩; refine ⟨_, rfl, ?_⟩))
          go_ret
          exact ⟨by first | rfl | (simp [errW_none, errW_some] <;> rfl) | (simp [*, errW_none, errW_some] <;> rfl), by repeat (first | (with_reducible first | exact HB.out | apply below_alloc | apply pw_below_drewN | apply below_drew1) | exact HB.out)⟩

end Go.Proofs.YtidbneljichnhaaDoor.PX

/- What the printed laws of quoted texts lean on: the answers of Read and Double, and that the program is alive; conditions: texts of at most 2^40 bytes. -/
namespace Go.Proofs.YtidbneljichnhaaDoor.Utf
open Go.RowKit Go.Proofs.YtidbneljichnhaaDoor.PX Go.Proofs.YtidbneljichnhaaDoor.Plug Go.Proofs.YtidbneljichnhaaDoorW.PrintWords Go.Proofs.YtidbneljichnhaaDoorW.PrintLast

set_option maxRecDepth 100000 in
theorem alive : grommetlaw07_alive.f = some true := by kernel_rfl

theorem read_of (s : ByteArray) (h : s.size ≤ 1099511627775) : quote_Read.f s = some (⟨(readB s.data.toList).1.toArray⟩, ((readB s.data.toList).2.1 : Int), (readB s.data.toList).2.2.1, ((readB s.data.toList).2.2.2 : Int)) := by
  unfold quote_Read.f; rw [if_pos h]
theorem double_of (zs : List Int) (hz : ∀ z ∈ zs, sgn z = true) (h : (zs.flatMap enc).length ≤ 1099511627775) : quote_Double.f ⟨(zs.flatMap enc).toArray⟩ = some (⟨(doubleB zs).toArray⟩, 0) := by
  unfold quote_Double.f
  rw [if_pos (show (⟨(zs.flatMap enc).toArray⟩ : ByteArray).size ≤ 1099511627775 from h)]
  unfold doubleOf
  rw [show (⟨(zs.flatMap enc).toArray⟩ : ByteArray).data.toList = zs.flatMap enc from rfl, signs_of zs hz]
theorem flat_len (zs : List Int) : zs.length ≤ (zs.flatMap enc).length ∧ (doubleB zs).length ≤ 2 + 10 * zs.length := by
  constructor
  · induction zs with
    | nil => simp
    | cons z zs ih => rw [List.flatMap_cons, List.length_append, List.length_cons]; have := enc_len z; omega
  · rw [doubleB_len]; have := escs_len zs; omega

/-- What is read is no longer than the text. -/
theorem readF_len : ∀ (k : Nat) (l : List UInt8) (q i : Nat) (acc : List UInt8), (readF k l q i acc).1.length ≤ acc.length + 4 * l.length
  | 0, _, _, _, _ => by simp [readF]
  | k + 1, l, q, i, acc => by
    unfold readF
    repeat' split
    · simp
    · simp
    · simp
    · simp
    · rename_i h1 h2 h3 h4
      have := readF_len k (l.drop (oneB l q).2.1) q (i + (oneB l q).2.1) (acc ++ (oneB l q).1)
      have h5 := one_len l q
      rw [List.length_append, List.length_drop] at this
      have h6 := (oneB_ok l q h1 (by omega) h4).1
      omega
theorem readB_len (s : List UInt8) : (readB s).1.length ≤ 4 * s.length := by
  unfold readB
  split
  · simp
  · have := readF_len s.length (s.drop 1) (at_ s 0) 1 []
    rw [List.length_drop, List.length_nil] at this
    omega
end Go.Proofs.YtidbneljichnhaaDoor.Utf

/- Contracts of library functions, laid at this translation out of the library's theorems; conditions as each states. -/
namespace Go.Proofs
open Go.Shelf
def Tryd.lays241_ren : Go.Shelf.Ren := ⟨fun | 241 => 74 | 277 => 92 | n => n, fun | 70 => 39 | 3 => 3 | 0 => 0 | 72 => 42 | 37 => 40 | 5 => 5 | n => n, fun | n => n⟩
theorem Tryd.lays241 : Go.Proofs.Lays.n241 Tryd.prog Tryd.lays241_ren := {
  mixed := by kernel_rfl
  f241 := Tryd.func74.trans (congrArg some (by kernel_rfl))
  f277 := Tryd.func92.trans (congrArg some (by kernel_rfl))
  t0 := Tryd.underlying0
  a0 := Tryd.isAgg0
  z0 := Tryd.sizeOf0
  v0 := Tryd.zeroValue0
  t3 := Tryd.underlying3
  a3 := Tryd.isAgg3
  z3 := Tryd.sizeOf3
  v3 := Tryd.zeroValue3
  t37 := Tryd.underlying40
  a37 := Tryd.isAgg40
  z37 := Tryd.sizeOf40
  v37 := Tryd.zeroValue40
  t70 := Tryd.underlying39
  a70 := Tryd.isAgg39
  z70 := Tryd.sizeOf39
  v70 := Tryd.zeroValue39
  t72 := Tryd.underlying42
  a72 := Tryd.isAgg42
  z72 := Tryd.sizeOf42
  v72 := Tryd.zeroValue42 }
theorem Tryd.Builder_Extra_241 : Builder.Extra Tryd.prog Tryd.lays241_ren := {
  sizeBuilder := by kernel_rfl
  liesBuilder := by kernel_rfl
  t5 := Tryd.underlying5
  a5 := Tryd.isAgg5
  z5 := Tryd.sizeOf5
  v5 := Tryd.zeroValue5
  infoByte := by kernel_rfl
  cellsByte := by kernel_rfl
  sizeByte := by kernel_rfl
  neB5 := by decide }
open Go.RowKit in
theorem Tryd.Builder_grow_fresh (B b n : Nat) (w : World) (hB : B ≤ b) (hbk : w.heap[b]? = some (.cells #[.pointer (some ⟨b, 0, none⟩), .slice none 0 0] 42 (0, 0))) (hBw : B ≤ w.heap.size) (hn : n ≤ 281474976710656) :
    Calls Tryd.prog 74 #[.pointer (some ⟨b, 0, none⟩), .int .i64 n] w fun e w' => e = .returned (.tuple #[]) ∧ (Lib.BuilderAt 42 5 B b (.pointer (some ⟨b, 0, none⟩)) [] w' ∧ Below B w w') := Any.Builder_grow_fresh Tryd.lays241 Tryd.Builder_Extra_241 B b n w hB hbk hBw hn
def Tryd.lays143_ren : Go.Shelf.Ren := ⟨fun | 143 => 57 | 219 => 75 | 217 => 93 | 225 => 94 | 224 => 95 | 267 => 96 | 266 => 107 | 314 => 108 | n => n, fun | 9 => 9 | 3 => 3 | 4 => 4 | 5 => 5 | 46 => 90 | 146 => 120 | 51 => 102 | n => n, fun | 1 => 2 | n => n⟩
theorem Tryd.lays143 : Go.Proofs.Lays.n143 Tryd.prog Tryd.lays143_ren := {
  mixed := by kernel_rfl
  f143 := Tryd.func57.trans (congrArg some (by kernel_rfl))
  f217 := Tryd.func93.trans (congrArg some (by kernel_rfl))
  f219 := Tryd.func75.trans (congrArg some (by kernel_rfl))
  f224 := Tryd.func95.trans (congrArg some (by kernel_rfl))
  f225 := Tryd.func94.trans (congrArg some (by kernel_rfl))
  f266 := Tryd.func107.trans (congrArg some (by kernel_rfl))
  f267 := Tryd.func96.trans (congrArg some (by kernel_rfl))
  f314 := Tryd.func108.trans (congrArg some (by kernel_rfl))
  t3 := Tryd.underlying3
  a3 := Tryd.isAgg3
  z3 := Tryd.sizeOf3
  v3 := Tryd.zeroValue3
  t4 := Tryd.underlying4
  a4 := Tryd.isAgg4
  z4 := Tryd.sizeOf4
  v4 := Tryd.zeroValue4
  t5 := Tryd.underlying5
  a5 := Tryd.isAgg5
  z5 := Tryd.sizeOf5
  v5 := Tryd.zeroValue5
  t9 := Tryd.underlying9
  a9 := Tryd.isAgg9
  z9 := Tryd.sizeOf9
  v9 := Tryd.zeroValue9
  t46 := Tryd.underlying90
  a46 := Tryd.isAgg90
  z46 := Tryd.sizeOf90
  v46 := Tryd.zeroValue90
  t51 := Tryd.underlying102
  a51 := Tryd.isAgg102
  z51 := Tryd.sizeOf102
  v51 := Tryd.zeroValue102
  t146 := Tryd.underlying120
  a146 := Tryd.isAgg120
  z146 := Tryd.sizeOf120
  v146 := Tryd.zeroValue120
  g1 := by kernel_rfl }
open Go.RowKit Go.Lib in
theorem Tryd.strings_Index_one (s : ByteArray) (c : UInt8) (w : World) :
    Calls Tryd.prog 57 #[.string s, .string ⟨#[c]⟩] w fun e w' => e = .returned (.int .i64 (Lib.indexByte s.data.toList c)) ∧ w' = w := Any.strings_Index_one Tryd.lays143 s c w
def Tryd.lays138_ren : Go.Shelf.Ren := ⟨fun | 138 => 55 | 195 => 72 | 218 => 73 | 143 => 57 | 219 => 75 | 217 => 93 | 225 => 94 | 224 => 95 | 267 => 96 | 266 => 107 | 314 => 108 | n => n, fun | 9 => 9 | 3 => 3 | 4 => 4 | 5 => 5 | 0 => 0 | 46 => 90 | 146 => 120 | 51 => 102 | n => n, fun | 1 => 2 | n => n⟩
theorem Tryd.lays138 : Go.Proofs.Lays.n138 Tryd.prog Tryd.lays138_ren := {
  mixed := by kernel_rfl
  f138 := Tryd.func55.trans (congrArg some (by kernel_rfl))
  f143 := Tryd.func57.trans (congrArg some (by kernel_rfl))
  f195 := Tryd.func72.trans (congrArg some (by kernel_rfl))
  f217 := Tryd.func93.trans (congrArg some (by kernel_rfl))
  f218 := Tryd.func73.trans (congrArg some (by kernel_rfl))
  f219 := Tryd.func75.trans (congrArg some (by kernel_rfl))
  f224 := Tryd.func95.trans (congrArg some (by kernel_rfl))
  f225 := Tryd.func94.trans (congrArg some (by kernel_rfl))
  f266 := Tryd.func107.trans (congrArg some (by kernel_rfl))
  f267 := Tryd.func96.trans (congrArg some (by kernel_rfl))
  f314 := Tryd.func108.trans (congrArg some (by kernel_rfl))
  t0 := Tryd.underlying0
  a0 := Tryd.isAgg0
  z0 := Tryd.sizeOf0
  v0 := Tryd.zeroValue0
  t3 := Tryd.underlying3
  a3 := Tryd.isAgg3
  z3 := Tryd.sizeOf3
  v3 := Tryd.zeroValue3
  t4 := Tryd.underlying4
  a4 := Tryd.isAgg4
  z4 := Tryd.sizeOf4
  v4 := Tryd.zeroValue4
  t5 := Tryd.underlying5
  a5 := Tryd.isAgg5
  z5 := Tryd.sizeOf5
  v5 := Tryd.zeroValue5
  t9 := Tryd.underlying9
  a9 := Tryd.isAgg9
  z9 := Tryd.sizeOf9
  v9 := Tryd.zeroValue9
  t46 := Tryd.underlying90
  a46 := Tryd.isAgg90
  z46 := Tryd.sizeOf90
  v46 := Tryd.zeroValue90
  t51 := Tryd.underlying102
  a51 := Tryd.isAgg102
  z51 := Tryd.sizeOf102
  v51 := Tryd.zeroValue102
  t146 := Tryd.underlying120
  a146 := Tryd.isAgg120
  z146 := Tryd.sizeOf120
  v146 := Tryd.zeroValue120
  g1 := by kernel_rfl }
open Go.RowKit Go.Lib in
theorem Tryd.strings_Count_one (s : ByteArray) (c : UInt8) (w : World) :
    Calls Tryd.prog 55 #[.string s, .string ⟨#[c]⟩] w fun e w' => e = .returned (.int .i64 (Lib.countByte s.data.toList c)) ∧ w' = w := Any.strings_Count_one Tryd.lays138 s c w
end Go.Proofs

/- Single quotes doubled (strings.ReplaceAll, one byte by two), by hand, in the form in which the printed functions are told. Conditions: the text has at most 2^40 bytes. -/
namespace Go.Proofs.YtidbneljichnhaaDoor.Plug
open Go.RowKit Go.Proofs.YtidbneljichnhaaDoor Go.Proofs.YtidbneljichnhaaDoor.Utf Go.Proofs.YtidbneljichnhaaDoor.Bld Go.Proofs.YtidbneljichnhaaDoorW.PrintWords Go.Proofs.YtidbneljichnhaaDoorW.PrintLast

set_option maxHeartbeats 2000000 in
set_option maxRecDepth 100000 in
theorem check_fresh (b : Nat) (w : World) (hbk : w.heap[b]? = some (.cells #[.pointer none, .slice none 0 0] 42 (0, 0))) :
    Calls Tryd.prog 34 #[.pointer (some ⟨b, 0, none⟩)] w fun e w' => e = .returned (.tuple #[]) ∧ w' = w.setCell ⟨b, 0, none⟩ (.pointer (some ⟨b, 0, none⟩)) := by
  obtain ⟨j, hj, hjs⟩ := Option.map_eq_some_iff.1 size_bld
  have h0 : w.cell? ⟨b, 0, none⟩ = some (.pointer none) := by rw [Lib.cell_of_heap hbk]; rfl
  have hsh : w.shape? b = some (42, 2) := by simp [World.shape?, hbk]
  have hfz := Lib.frozen_of_heap hbk 0
  go_enter Tryd.func34, Tryd.ntmps34
  go_wp2
  rw [Lib.run_to_unsafe w ⟨b, 0, none⟩ ptr_bld ptr_raw hj (by rw [hjs]; decide) hsh (Nat.zero_lt_succ 1)]
  simp only [Result.andThen]
  rw [Oper.upon_value]
  go_wp2
  rw [run_callFunc_extern Tryd.func51 (by kernel_rfl) (by kernel_rfl) (by kernel_rfl) (e := Extern.AbiNoEscape.same) (by kernel_rfl)]
  rw [Lib.run_noEscape]
  simp only [Result.andThen]
  rw [Oper.upon_value]
  go_wp2
  rw [Lib.run_from_unsafe w ⟨b, 0, none⟩ ptr_raw ptr_bld hj hsh lies_plain.lies]
  simp only [Result.andThen]
  rw [Oper.upon_value]
  go_wp2
  go_end0
  exact ⟨rfl, rfl⟩

set_option maxHeartbeats 2000000 in
set_option maxRecDepth 100000 in
theorem grow (B b n : Nat) (w : World) (hB : B ≤ b) (hbk : w.heap[b]? = some (.cells #[.pointer none, .slice none 0 0] 42 (0, 0))) (hBw : B ≤ w.heap.size) (hn : n ≤ 281474976710656) :
    Calls Tryd.prog 56 #[.pointer (some ⟨b, 0, none⟩), .int .i64 n] w fun e w' => e = .returned (.tuple #[]) ∧ (Lib.BuilderAt 42 5 B b (.pointer (some ⟨b, 0, none⟩)) [] w' ∧ Below B w w') := by
  have hbk1 : (w.setCell ⟨b, 0, none⟩ (.pointer (some ⟨b, 0, none⟩))).heap[b]? = some (.cells #[.pointer (some ⟨b, 0, none⟩), .slice none 0 0] 42 (0, 0)) := by
    simp [World.setCell, Array.getElem?_modify, hbk]
  have c1 : (w.setCell ⟨b, 0, none⟩ (.pointer (some ⟨b, 0, none⟩))).cell? ⟨b, 1, none⟩ = some (.slice none 0 0) := by rw [Lib.cell_of_heap hbk1]; rfl
  have hb1 : Below B w (w.setCell ⟨b, 0, none⟩ (.pointer (some ⟨b, 0, none⟩))) := (Below.refl B w).setCell (p := ⟨b, 0, none⟩) hB _
  have hU : Lib.BuilderAt 42 5 B b (.pointer (some ⟨b, 0, none⟩)) [] (w.setCell ⟨b, 0, none⟩ (.pointer (some ⟨b, 0, none⟩))) := ⟨hB, .slice none 0 0, hbk1, World.ownsRow_nil _ _ _ _, by simp [Value.ownBlock]⟩
  have c1' : (w.setCell ⟨b, 0, none⟩ (.pointer (some ⟨b, 0, none⟩))).drew.cell? ⟨b, 1, none⟩ = some (.slice none 0 0) := c1
  have HU := Lib.hid hU
  clear hU
  go_enter Tryd.func56, Tryd.ntmps56
  go_wp2_with (go_at_call 34; refine (check_fresh b w hbk).mono ?_; rintro e w' ⟨rfl, rfl⟩)
  go_region
  all_goals go_wp2_with (go_at_call 74; refine (Tryd.Builder_grow_fresh B b n (w.setCell ⟨b, 0, none⟩ (.pointer (some ⟨b, 0, none⟩))).drew hB hbk1 (by simpa [World.setCell, World.drew, -World.drew_eq] using hBw) hn).mono ?_; rintro e w' ⟨rfl, h1, h2⟩)
  all_goals first
    | (go_end0; exact ⟨rfl, h1, hb1.drew.trans h2⟩)
    | (go_end0; exact ⟨rfl, HU.out.drew, hb1.drew⟩)

theorem dbl_none (l : List UInt8) (h : Lib.countByte l 39 = 0) : l.flatMap dbl = l := by
  unfold Lib.countByte at h
  induction l with
  | nil => rfl
  | cons c t ih =>
    rw [List.count_cons] at h
    by_cases e : c = 39
    · subst e; simp at h
    · rw [List.flatMap_cons, ih (by omega)]
      unfold dbl; rw [if_neg e]; rfl
theorem index_is (l : List UInt8) (h : 0 < Lib.countByte l 39) : ∃ o : Nat, Lib.indexByte l 39 = o ∧ o < l.length ∧ (l.take (o + 1)).flatMap dbl = l.take o ++ [39, 39] ∧ Lib.countByte (l.drop (o + 1)) 39 + 1 = Lib.countByte l 39 := by
  unfold Lib.countByte at h ⊢
  induction l with
  | nil => simp at h
  | cons c t ih =>
    by_cases e : c = 39
    · subst e
      refine ⟨0, by unfold Lib.indexByte; rw [if_pos (by decide)]; rfl, by simp, by simp [dbl], ?_⟩
      rw [List.count_cons_self]; rfl
    · rw [List.count_cons, beq_eq_false_iff_ne.2 e, if_neg (by decide), Nat.add_zero] at h
      obtain ⟨o, h1, h2, h3, h4⟩ := ih h
      refine ⟨o + 1, ?_, by simp; omega, ?_, ?_⟩
      · unfold Lib.indexByte
        rw [beq_eq_false_iff_ne.2 e, if_neg (by decide), h1, if_neg (by rw [beq_iff_eq]; omega)]
        rfl
      · rw [List.take_succ_cons, List.flatMap_cons, h3, List.take_succ_cons]
        unfold dbl; rw [if_neg e]; rfl
      · rw [List.drop_succ_cons, h4, List.count_cons, beq_eq_false_iff_ne.2 e]; rfl
theorem dbl_len (l : List UInt8) : (l.flatMap dbl).length ≤ 2 * l.length := by
  induction l with
  | nil => simp
  | cons c t ih => rw [List.flatMap_cons, List.length_append, List.length_cons]; have : (dbl c).length ≤ 2 := by { unfold dbl; split <;> simp }; omega
theorem count_le (l : List UInt8) : Lib.countByte l 39 ≤ l.length := by unfold Lib.countByte; exact List.count_le_length

set_option maxHeartbeats 1600000 in
set_option maxRecDepth 100000 in
theorem replace_in (s : ByteArray) (hs : s.size ≤ 1099511627775) (w : World) :
    Calls Tryd.prog 46 #[.string s, .string ⟨#[39]⟩, .string ⟨#[39, 39]⟩, .int .i64 (-1)] w fun e w' => e = .returned (.string ⟨(s.data.toList.flatMap dbl).toArray⟩) ∧ Below w.heap.size w w' := by
  have hL := Lib.hid (size_list s)
  obtain ⟨m, hm⟩ : ∃ m, m = Lib.countByte s.data.toList 39 := ⟨_, rfl⟩
  have hcl := count_le s.data.toList
  rw [← hm, ← hL.out] at hcl
  have hcnt := Tryd.strings_Count_one s 39
  rw [← hm] at hcnt
  by_cases h0 : m = 0
  · subst h0
    have hE : (⟨(s.data.toList.flatMap dbl).toArray⟩ : ByteArray) = s := by rw [dbl_none _ hm.symm]
    rw [hE]
    clear hE hcl hm
    go_enter Tryd.func46, Tryd.ntmps46
    go_wp2_with (go_at_call 55; refine (hcnt _).mono ?_; rintro e w' ⟨rfl, rfl⟩)
    go_ret
    exact ⟨rfl, Below.refl _ _⟩
  · have hne : (((m : Nat) : Int) == 0) = false := by rw [beq_eq_false_iff_ne]; omega
    have hlt0 : decide (((m : Nat) : Int) < 0) = false := decide_eq_false (by omega)
    have hbk := heap_alloc_new w (.cells #[.pointer none, .slice none 0 0] 42)
    have HM := Lib.hid hm
    clear hm
    go_enter Tryd.func46, Tryd.ntmps46
    go_wp2_with (go_at_call 55; refine (hcnt _).mono ?_; rintro e w' ⟨rfl, rfl⟩)
    go_wp2_with (go_at_call 56; rw [show ((s.size : Int) + (m : Int)) = ((s.size + m : Nat) : Int) from rfl]; refine (grow _ _ (s.size + m) _ (Nat.le_refl _) hbk (by simp) (by omega)).mono ?_; rintro e w2 ⟨rfl, hbd, hb2⟩)
    have hI0 : Lib.IsBuilderF 42 5 w'.heap.size w'.heap.size (Lib.byteCells []) w2 := Lib.IsBuilderF.of (.inr hbd)
    have hbel0 : Below w'.heap.size w' w2 := ((Below.refl _ w').alloc (Nat.le_refl _) _).trans hb2
    clear hbd hb2 hbk hcnt
    go_loopw [11, 53] (fun vp vi wr => ∃ (p i : Nat), vp = .int .i64 p ∧ vi = .int .i64 i ∧ i ≤ m ∧ p ≤ s.size ∧ Hid (Lib.countByte (s.data.toList.drop p) 39 + i = m) ∧ Lib.IsBuilderF 42 5 w'.heap.size w'.heap.size (Lib.byteCells ((s.data.toList.take p).flatMap dbl)) wr ∧ Below w'.heap.size w' wr) (fun _ vi _ => m - (intOf vi).toNat)
    case atStart => exact ⟨0, 0, rfl, rfl, Nat.zero_le _, Nat.zero_le _, by rw [List.drop_zero, ← HM.out]; exact Lib.hid rfl, hI0, hbel0⟩
    case round =>
      obtain ⟨p, i, rfl, rfl, hi, hp, hcn, hI, hb⟩ := hrel
      by_cases hlt : i < m
      · have hc : decide ((i : Int) < (m : Int)) = true := decide_eq_true (by omega)
        obtain ⟨o, h1, h2, h3, h4⟩ := index_is (s.data.toList.drop p) (by have := hcn.out; omega)
        rw [List.length_drop, ← hL.out] at h2
        have hix : ∀ W : World, Calls Tryd.prog 57 #[.string (s.extract p s.size), .string ⟨#[39]⟩] W fun e w' => e = .returned (.int .i64 (o : Int)) ∧ w' = W := fun W => by
          have := Tryd.strings_Index_one (s.extract p s.size) 39 W
          rw [drop_list, h1] at this
          exact this
        have hcut : (s.extract p (p + o)).data.toList = (s.data.toList.drop p).take o := by rw [extract_list, Nat.add_sub_cancel_left]
        have hacc : (s.data.toList.take (p + o + 1)).flatMap dbl = (s.data.toList.take p).flatMap dbl ++ ((s.data.toList.drop p).take o ++ [39, 39]) := by
          rw [show p + o + 1 = p + (o + 1) by omega, List.take_add, List.flatMap_append, h3]
        have hcn2 : Lib.countByte (s.data.toList.drop (p + o + 1)) 39 + (i + 1) = m := by
          have := hcn.out
          rw [List.drop_drop] at h4
          rw [show p + o + 1 = p + (o + 1) by omega]; omega
        have HA := Lib.hid hacc; have HC := Lib.hid hcn2; have HCut := Lib.hid hcut
        have hl1 := dbl_len (s.data.toList.take p)
        have hl2 : (s.data.toList.take p).length ≤ s.size := by rw [List.length_take]; omega
        have hsz : (s.extract p (p + o)).size = o := by rw [size_list, hcut, List.length_take, List.length_drop, ← hL.out]; omega
        have j1 : ((p : Int) ≤ (p : Int) + (o : Int)) = True := eq_true (by omega)
        have j2 : ((p : Int) + (o : Int) ≤ (s.size : Int)) = True := eq_true (by omega)
        have j3 : ((p : Int) + (o : Int)).toNat = p + o := by omega
        clear hacc hcn2 hcut h1 h3 h4 hcn
        go_wp2_with (go_at_call 57; refine (hix _).mono ?_; rintro e w3 ⟨rfl, hw3⟩; subst hw3)
        go_wp2_with (go_at_call 19; refine (Bld.text 42 Bld.lies_plain _ _ _ (s.extract p (p + o)) _ hI (by rw [Lib.byteCells_length, hsz]; omega) hb.size).mono ?_)
        rintro e w4 ⟨rfl, h4, b4, k4⟩
        go_wp2_with (go_at_call 19; refine (Bld.text 42 Bld.lies_plain _ _ _ ⟨#[39, 39]⟩ _ (.inr h4) (by rw [List.length_append, Lib.byteCells_length, Lib.strCells_length, hsz]; show _ + 2 ≤ _; omega) (Nat.le_trans hb.size b4.size)).mono ?_)
        rintro e w5 ⟨rfl, h5, b5, k5⟩
        go_wp2
        refine ⟨⟨p + o + 1, i + 1, by first | rfl | (congr 1; omega), by first | rfl | (congr 1; omega), by omega, by omega, Lib.hid HC.out, ?_, hb.trans (b4.trans b5)⟩, by simp [intOf]; omega⟩
        rw [HA.out, Lib.byteCells_append, Lib.byteCells_append, ← List.append_assoc]
        refine .inr ?_
        have e1 : Lib.strCells (s.extract p (p + o)) = Lib.byteCells ((s.data.toList.drop p).take o) := by rw [← HCut.out]; rfl
        rw [e1] at h5
        exact h5
      · have hc : decide ((i : Int) < (m : Int)) = false := decide_eq_false (by omega)
        have hie : i = m := by omega
        subst hie
        have hz : Lib.countByte (s.data.toList.drop p) 39 = 0 := by have := hcn.out; omega
        have hD := dbl_none _ hz
        have hfin : s.data.toList.flatMap dbl = (s.data.toList.take p).flatMap dbl ++ s.data.toList.drop p := by
          conv => lhs; rw [← List.take_append_drop p s.data.toList]
          rw [List.flatMap_append, hD]
        have HF := Lib.hid hfin
        have hl1 := dbl_len (s.data.toList.take p)
        have hl2 : (s.data.toList.take p).length ≤ s.size := by rw [List.length_take]; omega
        have hl3 : (s.extract p s.size).size ≤ s.size := by rw [size_list, drop_list, List.length_drop, ← hL.out]; omega
        have hcell : Hid (Lib.strCells (s.extract p s.size) = Lib.byteCells (s.data.toList.drop p)) := by
          refine Lib.hid ?_
          rw [← drop_list]; rfl
        have j1 : ((p : Int) ≤ (s.size : Int)) = True := eq_true (by omega)
        clear hcn hz hD hfin
        go_wp2_with (go_at_call 19; refine (Bld.text 42 Bld.lies_plain _ _ _ (s.extract p s.size) _ hI (by rw [Lib.byteCells_length]; omega) hb.size).mono ?_)
        rintro e w4 ⟨rfl, h4, b4, k4⟩
        rw [hcell.out, ← Lib.byteCells_append, ← HF.out] at h4
        go_wp2_with (go_at_call 18; refine (Bld.got _ _ _ _ _ (.inr h4) (Nat.le_trans hb.size b4.size)).mono ?_)
        rintro e w5 ⟨rfl, b5⟩
        go_wp2
        go_ret
        exact ⟨rfl, hb.trans (b4.trans b5)⟩

def strings_ReplaceAll.f (a0 a1 a2 : ByteArray) : Option ByteArray :=
  if a0.size ≤ 1099511627775 ∧ a1.data.toList = [39] ∧ a2.data.toList = [39, 39] then some ⟨(a0.data.toList.flatMap dbl).toArray⟩ else none
set_option maxRecDepth 100000 in
theorem strings_ReplaceAll.calls (a0 a1 a2 : ByteArray) (r : ByteArray) (w : World) (_hG : Glob.G w) (h : strings_ReplaceAll.f a0 a1 a2 = some r) :
    Calls Tryd.prog 29 #[.string a0, .string a1, .string a2] w fun e w' => e = .returned (.string r) ∧ Below w.heap.size w w' := by
  unfold strings_ReplaceAll.f at h
  by_cases c : a0.size ≤ 1099511627775 ∧ a1.data.toList = [39] ∧ a2.data.toList = [39, 39]
  · rw [if_pos c] at h
    obtain rfl := Option.some.inj h
    obtain ⟨c1, c2, c3⟩ := c
    obtain rfl : a1 = ⟨#[39]⟩ := by cases a1 with | mk d => exact congrArg ByteArray.mk (Array.toList_inj.1 c2)
    obtain rfl : a2 = ⟨#[39, 39]⟩ := by cases a2 with | mk d => exact congrArg ByteArray.mk (Array.toList_inj.1 c3)
    have hR := fun W => replace_in a0 c1 W
    clear h
    go_enter Tryd.func29, Tryd.ntmps29
    go_wp2_with (go_at_call 46; refine (hR _).mono ?_; rintro e w1 ⟨rfl, hb⟩)
    go_ret
    exact ⟨rfl, hb⟩
  · rw [if_neg c] at h; cases h
end Go.Proofs.YtidbneljichnhaaDoor.Plug

/- What the program puts in single quotes; conditions: texts of at most 2^40 bytes. -/
namespace Go.Proofs.YtidbneljichnhaaDoor.Utf
open Go.RowKit Go.Proofs.YtidbneljichnhaaDoor.PX Go.Proofs.YtidbneljichnhaaDoor.Plug Go.Proofs.YtidbneljichnhaaDoorW.PrintWords Go.Proofs.YtidbneljichnhaaDoorW.PrintLast

theorem signsF_fuel : ∀ (k k' : Nat) (l : List UInt8), l.length ≤ k → l.length ≤ k' → signsF k l = signsF k' l
  | 0, k', l, h, _ => by
    have : l = [] := List.eq_nil_of_length_eq_zero (by omega)
    subst this
    cases k' <;> simp [signsF]
  | k + 1, 0, l, _, h => by
    have : l = [] := List.eq_nil_of_length_eq_zero (by omega)
    subst this
    simp [signsF]
  | k + 1, k' + 1, l, h, h' => by
    by_cases hn : l = []
    · subst hn; simp [signsF]
    · have hw := dec_len l hn
      unfold signsF
      rw [signsF_fuel k k' (l.drop (dec l).2) (by rw [List.length_drop]; omega) (by rw [List.length_drop]; omega)]
theorem simpB_nil : simpB [] = true := rfl
theorem simpB_step (l : List UInt8) (hn : l ≠ []) : simpB l = (may (dec l).1 && simpB (l.drop (dec l).2)) := by
  have hw := dec_len l hn
  obtain ⟨k, hk⟩ : ∃ k, l.length = k + 1 := ⟨l.length - 1, by omega⟩
  have hs : signs l = if (dec l).1 < 0 then none else (signs (l.drop (dec l).2)).map ((dec l).1 :: ·) := by
    unfold signs
    rw [hk, signsF, if_neg hn, signsF_fuel k (l.drop (dec l).2).length (l.drop (dec l).2) (by rw [List.length_drop]; omega) (Nat.le_refl _)]
  unfold simpB
  rw [hs]
  by_cases d : (dec l).1 < 0
  · rw [if_pos d]
    have : may (dec l).1 = false := by
      cases hm : may (dec l).1 with
      | false => rfl
      | true => have := (sgn_nat (may_sgn hm)).1; omega
    rw [this]; rfl
  · rw [if_neg d]
    cases signs (l.drop (dec l).2) with
    | none => simp
    | some zs => simp

theorem prog_simple : ∀ (k : Nat) (s : ByteArray), s.size ≤ 1099511627775 → s.size < k → quote_Simple.l0 k s = some (simpB s.data.toList)
  | 0, s, _, h => by omega
  | k + 1, s, hs, h => by
    have hL := size_list s
    rw [quote_Simple.l0, Lib.toList_data]
    by_cases hn : s.data.toList = []
    · rw [if_pos hn, hn]; rfl
    · have hw := dec_len _ hn
      rw [if_neg hn, prog_first, Option.bind_some]
      dsimp only
      rw [prog_may, Option.bind_some, simpB_step _ hn]
      cases may (dec s.data.toList).1 with
      | false => rfl
      | true =>
        rw [if_pos rfl, if_pos (by omega), if_pos (by omega), Int.toNat_natCast, prog_simple k _ (by rw [size_list, drop_list, List.length_drop]; omega) (by rw [size_list, drop_list, List.length_drop]; omega), drop_list]; rfl

theorem simple_of (k : Nat) (s : ByteArray) (hs : s.size ≤ 1099511627775) (h : s.size < k) : quote_Simple.f k s = some (simpB s.data.toList) := prog_simple k s hs h
theorem singleB_len (l : List UInt8) : (singleB l).length = 2 + (l.flatMap dbl).length := by unfold singleB; simp; omega
end Go.Proofs.YtidbneljichnhaaDoor.Utf

/- Texts put in single quotes (quote.Single), by hand, in the form in which the printed functions are told. Conditions: the text has at most 2^40 bytes. -/
namespace Go.Proofs.YtidbneljichnhaaDoor.Plug
open Go.RowKit Go.Proofs.YtidbneljichnhaaDoor Go.Proofs.YtidbneljichnhaaDoor.PX Go.Proofs.YtidbneljichnhaaDoor.Utf Go.Proofs.YtidbneljichnhaaDoorW.PrintWords Go.Proofs.YtidbneljichnhaaDoorW.PrintLast

def quote_Single.f (a0 : ByteArray) : Option (ByteArray × Int) := if a0.size ≤ 1099511627775 then some (if simpB a0.data.toList = true then (⟨(singleB a0.data.toList).toArray⟩, 0) else (⟨#[]⟩, 8)) else none

set_option maxHeartbeats 1600000 in
set_option maxRecDepth 100000 in
theorem quote_Single.calls (a0 : ByteArray) (r1 : ByteArray) (r2 : Int) (w : World) (hG : Glob.G w) (h : quote_Single.f a0 = some (r1, r2)) :
    Calls Tryd.prog 14 #[.string a0] w fun e w' => e = .returned (.tuple #[.string r1, .int .i64 r2]) ∧ Below w.heap.size w w' := by
  unfold quote_Single.f at h
  by_cases hs : a0.size ≤ 1099511627775
  · rw [if_pos hs] at h
    have hS := Lib.hid (simple_of (a0.size + 1) a0 hs (Nat.lt_succ_self _))
    have h := Option.some.inj h
    cases hc : simpB a0.data.toList with
    | false =>
      rw [hc] at hS h
      rw [if_neg (by decide)] at h
      obtain ⟨rfl, rfl⟩ := Prod.mk.inj h
      clear hc h
      go_enter Tryd.func14, Tryd.ntmps14
      go_wp2_with (go_at_call 15; refine (quote_Simple.calls _ _ _ _ hG hS.out).mono ?_; rintro e w1 ⟨rfl, hb1⟩)
      go_ret2
      exact ⟨rfl, hb1⟩
    | true =>
      rw [hc] at hS h
      rw [if_pos rfl] at h
      obtain ⟨rfl, rfl⟩ := Prod.mk.inj h
      have hd := dbl_len a0.data.toList
      rw [← size_list] at hd
      have hR : strings_ReplaceAll.f a0 (⟨#[39]⟩ : ByteArray) (⟨#[39, 39]⟩ : ByteArray) = some ⟨(a0.data.toList.flatMap dbl).toArray⟩ := by
        unfold strings_ReplaceAll.f; rw [if_pos ⟨hs, rfl, rfl⟩]
      obtain ⟨t, ht⟩ : ∃ t : ByteArray, t = ⟨(a0.data.toList.flatMap dbl).toArray⟩ := ⟨_, rfl⟩
      have hts : t.size ≤ 2 * a0.size := by rw [ht]; exact hd
      have hfin : ((⟨#[39]⟩ : ByteArray) ++ t) ++ (⟨#[39]⟩ : ByteArray) = ⟨(singleB a0.data.toList).toArray⟩ := of_bytes (by rw [app_bytes, app_bytes, ht]; rfl)
      rw [← ht] at hR
      have HF := Lib.hid hfin; have HR := Lib.hid hR
      have s1 : 1 + t.size ≤ 9223372036854775807 := by omega
      have s2 : ((⟨#[39]⟩ : ByteArray) ++ t).size + 1 ≤ 9223372036854775807 := by
        rw [size_list, app_bytes, List.length_append, ← size_list t]
        show 1 + t.size + 1 ≤ _
        omega
      clear hfin ht hR hd hc h
      go_enter Tryd.func14, Tryd.ntmps14
      go_wp2_with (first | (go_at_call 15; refine (quote_Simple.calls _ _ _ _ hG hS.out).mono ?_; rintro e w1 ⟨rfl, hb1⟩) | (go_at_call 29; refine (strings_ReplaceAll.calls _ _ _ _ _ (hG.below hb1) HR.out).mono ?_; rintro e w2 ⟨rfl, hb2⟩))
      go_ret2
      exact ⟨by rw [← HF.out]; rfl, hb1.trans (hb2.mono hb1.size)⟩
  · rw [if_neg hs] at h; cases h

theorem single_of (s : ByteArray) (hs : s.size ≤ 1099511627775) : quote_Single.f s = some (if simpB s.data.toList = true then (⟨(singleB s.data.toList).toArray⟩, 0) else (⟨#[]⟩, 8)) := by
  unfold quote_Single.f; rw [if_pos hs]
end Go.Proofs.YtidbneljichnhaaDoor.Plug

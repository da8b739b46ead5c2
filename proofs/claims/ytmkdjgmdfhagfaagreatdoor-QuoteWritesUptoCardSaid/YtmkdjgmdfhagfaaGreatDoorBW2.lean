/- Texts that stand behind one another, laid into one: functions of the program and of its reference, what each comes to, and plain laws of that. -/
import Derived.Test.YtmkdjgmdfhagfaaGreatDoorBW0
import Derived.Test.YtmkdjgmdfhagfaaGreatDoorBW1
import Derived.Outline
import Derived.KernelRfl
import Derived.Shelf.Strings.Builder1
import Derived.Shelf.Strings.Builder2
import Derived.Shelf.Strings.Trim
import Derived.Shelf.Small.Utf8
import Derived.Shelf.Small.Strs
import Derived.Shelf.Strings.BuilderF
import Derived.Shelf.Strings.BuilderK
import Derived.Shelf.Strings.BuilderRune
import Derived.Shelf.Strconv.Atoi
import Derived.Shelf.Strconv.Itoa0
import Derived.Shelf.Strconv.Itoa1
import Derived.Shelf.LaysM
import Derived.Shelf.Strconv.Itoa2
import Derived.Shelf.Strconv.Itoa3
import Derived.Shelf.Strconv.AtoiErrFast
import Derived.Shelf.Strconv.ParseIntEmpty
import Derived.Shelf.Strconv.AtoiFail
import Derived.Shelf.Strconv.Clone
import Derived.Shelf.Strconv.SyntaxError
import Derived.Shelf.LaysC
import Derived.Shelf.Strconv.ToError
import Derived.Shelf.Strconv.Lower
import Derived.Shelf.Strconv.ParseUint10
import Derived.Shelf.Strconv.ParseUint10Empty
import Derived.Shelf.Strconv.ParseUint10Any
import Derived.Shelf.Strconv.ParseInt10
import Derived.Shelf.Strconv.AtoiLong
import Derived.Shelf.Strconv.AtoiInnerAll
import Derived.Shelf.Strconv.RangeError
import Derived.Shelf.Strconv.ToErrorRange
import Derived.Shelf.Strconv.AtoiAll
import Derived.Shelf.Strconv.ErrVarAll
import Derived.Shelf.Strings.Search1
import Derived.Shelf.Strings.Search2
import Derived.Shelf.Strings.Search3
import Derived.Shelf.Strings.Count
import Derived.Shelf.Strings.Shaped
import Derived.Shelf.Strings.Prefix
import Derived.Shelf.Strings.Split
import Derived.Shelf.Strings.Replace
import Derived.Shelf.Strings.Runes
import Derived.Shelf.Strings.AsciiSet
import Derived.Shelf.Bits.Mul64
import Derived.Shelf.Strings.Repeat
import Derived.Shelf.Unicode.DecodeSlow
import Derived.Shelf.Unicode.DecodeAny
import Derived.Test.YtmkdjgmdfhagfaaGreatDoorProg
import Derived.Lib.IndexLaws
/- YtmkdjgmdfhagfaaGreatDoorFQuoteShort: what print.py told of Go functions, for this claim. -/
namespace Go.Proofs.YtmkdjgmdfhagfaaGreatDoor.PX
open Go.RowKit Go.Proofs.YtmkdjgmdfhagfaaGreatDoorW.PrintWords Go.Proofs.YtmkdjgmdfhagfaaGreatDoorW.PrintLast Go.Proofs.YtmkdjgmdfhagfaaGreatDoorW.PrintMore Go.Proofs.YtmkdjgmdfhagfaaGreatDoor
attribute [local go_sem] max2_int min2_int max_two min_two max_three min_three max_four min_four   -- for this text's walks alone
set_option linter.unusedVariables false
set_option linter.unusedSimpArgs false

/-! ### quote_short: function 59 -/
def quote_short.j0 : Nat → Int → Int → Bool → Option (Int)
  | 0, _, _, _ => none
  | k + 1, x0, x3, x4 => if x4 = true then (some ((x0) % 256)) else (if x3 = 10 then (some 110) else (if x3 = 9 then (some 116) else (if x3 = 13 then (some 114) else (if x3 = 0 then (some 48) else (some 0)))))
def quote_short.f (k : Nat) (a0 : Int) : Option (Int) := if a0 = 34 then (quote_short.j0 k a0 a0 (a0 == 34)) else (quote_short.j0 k a0 a0 (a0 == 92))
theorem quote_short.mono_l : ∀ k, (∀ y0 y1 y2, LeO (quote_short.j0 k y0 y1 y2) (quote_short.j0 (k + 1) y0 y1 y2))
  | 0 => fun _ _ _ r h => by simp [quote_short.j0] at h
  | k + 1 => by
    have ih0 := quote_short.mono_l k
    · intro y0 y1 y2
      unfold quote_short.j0
      repeat' first
      | (with_reducible exact ih0 _ _ _)
      | (with_reducible exact LeO.refl _)
      | (with_reducible exact LeO.none _)
      | (with_reducible refine LeO.ite ?_ ?_)
      | (with_reducible refine LeO.bind ?_ (fun _ => ?_))
      | exact ih0 _ _ _
      | exact LeO.none _
      | refine LeO.ite ?_ ?_
      | refine LeO.bind ?_ (fun _ => ?_)
theorem quote_short.mono : ∀ a0 k, LeO (quote_short.f k a0) (quote_short.f (k + 1) a0) := by
  intro a0 k
  have ih0 := quote_short.mono_l k
  unfold quote_short.f
  repeat' first
      | (with_reducible exact ih0 _ _ _)
      | (with_reducible exact LeO.refl _)
      | (with_reducible exact LeO.none _)
      | (with_reducible refine LeO.ite ?_ ?_)
      | (with_reducible refine LeO.bind ?_ (fun _ => ?_))
      | exact ih0 _ _ _
      | exact LeO.none _
      | refine LeO.ite ?_ ?_
      | refine LeO.bind ?_ (fun _ => ?_)
set_option maxHeartbeats 8000000 in
set_option maxRecDepth 100000 in
theorem quote_short.calls (k : Nat) (a0 : Int) (r : Int) (w : World) (hG : Glob.G w) (h : quote_short.f k a0 = some r) :
    Calls Tryz.prog 59 #[.int .i64 a0] w fun e w' => e = .returned (.int .u8 r) ∧ Drawn0 w w' := by
  have H : (if a0 = 34 then (quote_short.j0 k a0 a0 (a0 == 34)) else (quote_short.j0 k a0 a0 (a0 == 92))) = some r := h
  clear h
  have HC2 := Aside0.mk H
  clear H
  go_enter Tryz.func59, Tryz.ntmps59
  go_upto_if 4 with (fail)
  go_cut [4] (fun v4 wc => ∃ (kq : Nat) (x4_1 : Bool), v4 = .bool x4_1 ∧ Aside0 (quote_short.j0 kq a0 a0 x4_1 = some r) ∧ Aside0 (kq ≤ k) ∧ Drawn0 w wc)
  case first =>
    have H := HC2.out
    clear HC2
    by_cases c3 : a0 = 34
    · rw [if_pos c3] at H
      have c3b0 : (a0 == 34) = true := beq_iff_eq.mpr c3
      have c3b1 : (a0 != 34) = false := bne_eq_false_iff_eq.mpr c3
      clear c3
      (first | rw [c3b0] | (simp only [i64_w, i32_w]; rw [c3b0]) | skip)
      have H' := Aside0.mk H
      clear H
      go_wp2
      go_meet
      case rel => exact ⟨_, ((a0 == 34)), (by first | rfl | (simp; done) | (simp [*]; done)), H', ⟨by first | omega | exact Nat.le_refl _⟩, by repeat (first | exact Drawn0.refl _ | apply Drawn0.step)⟩
    · rw [if_neg c3] at H
      have c3b0 : (a0 == 34) = false := beq_eq_false_iff_ne.mpr c3
      have c3b1 : (a0 != 34) = true := bne_iff_ne.mpr c3
      (first | rw [c3b0] | (simp only [i64_w, i32_w]; rw [c3b0]) | skip)
      have H' := Aside0.mk H
      clear H
      go_wp2
      go_meet
      case rel => exact ⟨_, ((a0 == 92)), (by first | rfl | (simp; done) | (simp [*]; done)), H', ⟨by first | omega | exact Nat.le_refl _⟩, by repeat (first | exact Drawn0.refl _ | apply Drawn0.step)⟩
  case rest =>
    clear HC2
    try clear p2
    try clear c3
    try clear c3b0
    try clear c3b1
    obtain ⟨kq, x4_1, rfl, HA, HJ1, ⟨mc1, rfl⟩⟩ := hcut
    cases kq with
    | zero => exact absurd HA.out (by simp [quote_short.j0])
    | succ kj1 =>
      have H := HA.out
      clear HA
      simp only [quote_short.j0] at H
      by_cases c4 : x4_1 = true
      · subst c4
        have H1 : (some ((a0) % 256)) = some r := by rw [if_pos rfl] at H; exact H
        clear H
        have H := H1
        clear H1
        obtain rfl := Option.some.inj H
        go_wp2
        go_ret
        exact ⟨by first | rfl | (simp; done) | (simp [*]; done), by repeat (first | exact Drawn0.refl _ | apply Drawn0.step)⟩
      · replace c4 := Bool.eq_false_iff.mpr c4
        subst c4
        have H1 : (if a0 = 10 then (some 110) else (if a0 = 9 then (some 116) else (if a0 = 13 then (some 114) else (if a0 = 0 then (some 48) else (some 0))))) = some r := by rw [if_neg (show ¬ (false = true) by decide)] at H; exact H
        clear H
        have H := H1
        clear H1
        by_cases c5 : a0 = 10
        · rw [if_pos c5] at H
          have c5b0 : (a0 == 10) = true := beq_iff_eq.mpr c5
          have c5b1 : (a0 != 10) = false := bne_eq_false_iff_eq.mpr c5
          clear c5
          obtain rfl := Option.some.inj H
          go_wp2
          go_ret
          exact ⟨by first | rfl | (simp; done) | (simp [*]; done), by repeat (first | exact Drawn0.refl _ | apply Drawn0.step)⟩
        · rw [if_neg c5] at H
          have c5b0 : (a0 == 10) = false := beq_eq_false_iff_ne.mpr c5
          have c5b1 : (a0 != 10) = true := bne_iff_ne.mpr c5
          by_cases c6 : a0 = 9
          · rw [if_pos c6] at H
            have c6b0 : (a0 == 9) = true := beq_iff_eq.mpr c6
            have c6b1 : (a0 != 9) = false := bne_eq_false_iff_eq.mpr c6
            clear c6
            obtain rfl := Option.some.inj H
            go_wp2
            go_ret
            exact ⟨by first | rfl | (simp; done) | (simp [*]; done), by repeat (first | exact Drawn0.refl _ | apply Drawn0.step)⟩
          · rw [if_neg c6] at H
            have c6b0 : (a0 == 9) = false := beq_eq_false_iff_ne.mpr c6
            have c6b1 : (a0 != 9) = true := bne_iff_ne.mpr c6
            by_cases c7 : a0 = 13
            · rw [if_pos c7] at H
              have c7b0 : (a0 == 13) = true := beq_iff_eq.mpr c7
              have c7b1 : (a0 != 13) = false := bne_eq_false_iff_eq.mpr c7
              clear c7
              obtain rfl := Option.some.inj H
              go_wp2
              go_ret
              exact ⟨by first | rfl | (simp; done) | (simp [*]; done), by repeat (first | exact Drawn0.refl _ | apply Drawn0.step)⟩
            · rw [if_neg c7] at H
              have c7b0 : (a0 == 13) = false := beq_eq_false_iff_ne.mpr c7
              have c7b1 : (a0 != 13) = true := bne_iff_ne.mpr c7
              by_cases c8 : a0 = 0
              · rw [if_pos c8] at H
                have c8b0 : (a0 == 0) = true := beq_iff_eq.mpr c8
                have c8b1 : (a0 != 0) = false := bne_eq_false_iff_eq.mpr c8
                clear c8
                obtain rfl := Option.some.inj H
                go_wp2
                go_ret
                exact ⟨by first | rfl | (simp; done) | (simp [*]; done), by repeat (first | exact Drawn0.refl _ | apply Drawn0.step)⟩
              · rw [if_neg c8] at H
                have c8b0 : (a0 == 0) = false := beq_eq_false_iff_ne.mpr c8
                have c8b1 : (a0 != 0) = true := bne_iff_ne.mpr c8
                obtain rfl := Option.some.inj H
                go_wp2
                go_ret
                exact ⟨by first | rfl | (simp; done) | (simp [*]; done), by repeat (first | exact Drawn0.refl _ | apply Drawn0.step)⟩

end Go.Proofs.YtmkdjgmdfhagfaaGreatDoor.PX

/- Signs put in double quotes (quote's builder: hex, put), by hand. Conditions: the text fits in memory. -/
namespace Go.Proofs.YtmkdjgmdfhagfaaGreatDoor.Plug
open Go.RowKit Go.Proofs.YtmkdjgmdfhagfaaGreatDoor Go.Proofs.YtmkdjgmdfhagfaaGreatDoor.PX Go.Proofs.YtmkdjgmdfhagfaaGreatDoor.Utf Go.Proofs.YtmkdjgmdfhagfaaGreatDoorW.PrintWords Go.Proofs.YtmkdjgmdfhagfaaGreatDoorW.PrintLast

/-- The program's builder at block b holds these bytes. -/
structure St (w0 : World) (b : Nat) (l : List UInt8) (w : World) : Prop where
  bld : Lib.IsBuilderF 65 5 w0.heap.size b (Lib.byteCells l) w
  bel : Below w0.heap.size w0 w
abbrev Kept (b : Nat) (w w' : World) : Prop := Lib.OthersKept 5 (some b) w w'

theorem kept_below {b : Nat} {w w' : World} (h : Below w.heap.size w w') : Kept b w w' := by
  intro k o hk _ _
  exact (h.block k (Bld.at_lt hk)).trans hk
theorem St.quiet {w0 : World} {b : Nat} {l : List UInt8} {w w' : World} (h : St w0 b l w) (hb : Below w.heap.size w w') : St w0 b l w' := ⟨bld_below h.bld hb, h.bel.trans (hb.mono h.bel.size)⟩

theorem st_byte {w0 : World} {b : Nat} {l : List UInt8} {w : World} (h : St w0 b l w) (c : UInt8) (hl : l.length ≤ 70368744177664) :
    Calls Tryz.prog 42 #[.pointer (some ⟨b, 0, none⟩), .int .u8 (c.toNat : Int)] w fun e w' => e = .returned .nilIface ∧ St w0 b (l ++ [c]) w' ∧ Kept b w w' :=
  (Bld.byte 65 Bld.lies_quote w0.heap.size b _ (c.toNat : Int) w h.bld (by rw [Lib.byteCells_length]; omega) h.bel.size).mono fun e w' ⟨he, h1, h2, h3⟩ => ⟨he, ⟨by rw [Lib.byteCells_append]; exact .inr h1, h.bel.trans h2⟩, h3⟩
theorem st_text {w0 : World} {b : Nat} {l : List UInt8} {w : World} (h : St w0 b l w) (t : List UInt8) (hl : l.length + t.length ≤ 70368744177664) :
    Calls Tryz.prog 39 #[.pointer (some ⟨b, 0, none⟩), .string ⟨t.toArray⟩] w fun e w' => ∃ n : Int, e = .returned (.tuple #[.int .i64 n, .nilIface]) ∧ St w0 b (l ++ t) w' ∧ Kept b w w' :=
  (Bld.text 65 Bld.lies_quote w0.heap.size b _ ⟨t.toArray⟩ w h.bld (by rw [Lib.byteCells_length]; show l.length + t.length ≤ _; omega) h.bel.size).mono fun e w' ⟨he, h1, h2, h3⟩ => ⟨_, he, ⟨by rw [Lib.byteCells_append]; exact .inr h1, h.bel.trans h2⟩, h3⟩
theorem st_sign {w0 : World} {b : Nat} {l : List UInt8} {w : World} (h : St w0 b l w) (n : Int) (hn : sgn n = true) (hl : l.length ≤ 70368744177664) :
    Calls Tryz.prog 60 #[.pointer (some ⟨b, 0, none⟩), .int .i32 n] w fun e w' => ∃ m : Int, e = .returned (.tuple #[.int .i64 m, .nilIface]) ∧ St w0 b (l ++ enc n) w' ∧ Kept b w w' :=
  (Bld.sign 65 Bld.lies_quote w0.heap.size b _ n ((sgn_iff n).1 hn) w h.bld (by rw [Lib.byteCells_length]; omega) h.bel.size).mono fun e w' ⟨he, h1, h2, h3⟩ => ⟨_, he, ⟨by rw [Lib.byteCells_append, enc_cells]; exact .inr h1, h.bel.trans h2⟩, h3⟩

set_option maxHeartbeats 1600000 in
set_option maxRecDepth 100000 in
theorem hex_is {w0 : World} {b : Nat} {l : List UInt8} {w : World} (hG : Glob.G w0) (h : St w0 b l w) (c : UInt8) (n m : Nat) (hnm : (m = 2 ∧ n < 256) ∨ (m = 4 ∧ 4096 ≤ n ∧ n < 65536)) (hl : l.length ≤ 35184372088832) :
    Calls Tryz.prog 61 #[.pointer (some ⟨b, 0, none⟩), .int .u8 (c.toNat : Int), .int .i64 (n : Int), .int .i64 (m : Int)] w fun e w' => e = .returned (.tuple #[]) ∧ St w0 b (l ++ 92 :: c :: hexs n m) w' ∧ Kept b w w' := by
  have hn : n < 65536 := by omega
  have hm4 : m ≤ 4 := by omega
  have hlen := hexD_len n hn
  have hF := fmt_out n hn w (hG.below h.bel)
  have hpad : (n < 16 ∧ m = 2 ∧ hexs n m = 48 :: hexD 4 n ∧ (hexD 4 n).length = 1) ∨ (hexs n m = hexD 4 n ∧ (hexD 4 n).length = m) := by
    rcases hnm with ⟨rfl, h1⟩ | ⟨rfl, h1, h2⟩
    · rw [hexs_two n h1]
      by_cases q : n < 16
      · rw [if_pos q] at hlen ⊢; exact .inl ⟨q, rfl, rfl, hlen⟩
      · rw [if_neg q, if_pos h1] at hlen; rw [if_neg q]; exact .inr ⟨rfl, hlen⟩
    · rw [hexs_four n h2 h1]
      rw [if_neg (by omega), if_neg (by omega), if_neg (by omega)] at hlen; exact .inr ⟨rfl, hlen⟩
  generalize hexD 4 n = d at *
  generalize hexs n m = x at *
  clear hlen
  have HF := Lib.hid hF
  have HS := Lib.hid h
  clear hF h hnm hn hG
  rcases hpad with ⟨_, rfl, rfl, hd⟩ | ⟨rfl, hd⟩
  · have hsz : (⟨d.toArray⟩ : ByteArray).size = 1 := hd
    go_enter Tryz.func61, Tryz.ntmps61
    go_wp2_with (go_at_call 89; refine HF.out.mono ?_)
    rintro e w1 ⟨rfl, hb1⟩
    have h1 := HS.out.quiet hb1
    go_wp2_with (go_at_call 42; refine (st_byte h1 92 (by omega)).mono ?_)
    rintro e w2 ⟨rfl, h2, k2⟩
    go_wp2_with (go_at_call 42; refine (st_byte h2 c (by simp; omega)).mono ?_)
    rintro e w3 ⟨rfl, h3, k3⟩
    have h3d := h3.quiet (Below.drew (Below.refl _ w3))
    have k3d := kept_below (b := b) (Below.drew (Below.refl w3.heap.size w3))
    have hp : l.length + 1 + 1 + 1 + 1 ≤ 70368744177664 := by omega
    go_wp2
    go_region_with (first | (go_at_call 90; refine (repeat_one _ _).mono ?_; rintro e w4 ⟨rfl, rfl⟩) | (go_at_call 39; refine (st_text h3d [48] (by simp; omega)).mono ?_; rintro e w5 ⟨n5, rfl, h5, k5⟩))
    all_goals
      go_wp2_with (go_at_call 39; refine (st_text h5 _ (by simp; omega)).mono ?_; rintro e w6 ⟨n6, rfl, h6, k6⟩)
      go_end0
      exact ⟨rfl, by simpa using h6, (kept_below hb1).trans (k2.trans (k3.trans (k3d.trans (k5.trans k6))))⟩
  · have hsz : (⟨x.toArray⟩ : ByteArray).size = m := hd
    go_enter Tryz.func61, Tryz.ntmps61
    go_wp2_with (go_at_call 89; refine HF.out.mono ?_)
    rintro e w1 ⟨rfl, hb1⟩
    have h1 := HS.out.quiet hb1
    go_wp2_with (go_at_call 42; refine (st_byte h1 92 (by omega)).mono ?_)
    rintro e w2 ⟨rfl, h2, k2⟩
    go_wp2_with (go_at_call 42; refine (st_byte h2 c (by simp; omega)).mono ?_)
    rintro e w3 ⟨rfl, h3, k3⟩
    have h3d := h3.quiet (Below.drew (Below.refl _ w3))
    have k3d := kept_below (b := b) (Below.drew (Below.refl w3.heap.size w3))
    have hp : l.length + 1 + 1 + 4 ≤ 70368744177664 := by omega
    go_wp2
    go_region_with (first | (go_at_call 90; (try rw [show (m : Int) - (m : Int) = 0 by omega]); refine (repeat_none _ _).mono ?_; rintro e w4 ⟨rfl, rfl⟩) | (go_at_call 39; refine (st_text h3d [] (by simp; omega)).mono ?_; rintro e w5 ⟨n5, rfl, h5, k5⟩))
    all_goals
      go_wp2_with (go_at_call 39; refine (st_text h5 _ (by simp; omega)).mono ?_; rintro e w6 ⟨n6, rfl, h6, k6⟩)
      go_end0
      exact ⟨rfl, by simpa using h6, (kept_below hb1).trans (k2.trans (k3.trans (k3d.trans (k5.trans k6))))⟩

theorem escS_len (n : Int) : (escS n).length ≤ 10 := by
  unfold escS
  have := enc_len n
  repeat' split
  all_goals first | decide | (simp [hexs_len]; done) | omega

/-- The short escape of a sign. -/
def shortOf (n : Int) : Int := if n = 34 then 34 else if n = 92 then 92 else if n = 10 then 110 else if n = 9 then 116 else if n = 13 then 114 else if n = 0 then 48 else 0
theorem prog_short (k : Nat) (n : Int) : quote_short.f (k + 1) n = some (shortOf n) := by
  have hj : ∀ b, quote_short.j0 (k + 1) n n b = if b = true then (some (n % 256)) else (if n = 10 then (some 110) else (if n = 9 then (some 116) else (if n = 13 then (some 114) else (if n = 0 then (some 48) else (some 0))))) := fun b => by rw [quote_short.j0]
  unfold quote_short.f shortOf
  rw [hj, hj]
  by_cases a : n = 34
  · subst a; rfl
  rw [if_neg a, if_neg a]
  by_cases b : n = 92
  · subst b; rfl
  rw [if_neg b, show (n == 92) = false from beq_eq_false_iff_ne.2 b, if_neg (by decide)]
  by_cases c : n = 10
  · rw [if_pos c, if_pos c]
  rw [if_neg c, if_neg c]
  by_cases d : n = 9
  · rw [if_pos d, if_pos d]
  rw [if_neg d, if_neg d]
  by_cases e : n = 13
  · rw [if_pos e, if_pos e]
  rw [if_neg e, if_neg e]
  by_cases f : n = 0
  · rw [if_pos f, if_pos f]
  rw [if_neg f, if_neg f]

theorem not_may (n : Int) (h : sgn n = true) (hm : may n ≠ true) : n < 65536 ∧ (256 ≤ n → 4096 ≤ n) := by
  have := (sgn_iff n).1 h
  unfold may prt at hm
  simp at hm
  by_cases c : n = 9 ∨ n = 10 ∨ n = 13
  · omega
  · omega

set_option maxHeartbeats 1600000 in
set_option maxRecDepth 100000 in
theorem put_is {w0 : World} {b : Nat} {l : List UInt8} {w : World} (hG : Glob.G w0) (h : St w0 b l w) (n : Int) (hs : sgn n = true) (hl : l.length ≤ 35184372088832) :
    Calls Tryz.prog 31 #[.pointer (some ⟨b, 0, none⟩), .int .i64 n] w fun e w' => e = .returned (.tuple #[]) ∧ St w0 b (l ++ escS n) w' ∧ Kept b w w' := by
  have hr := (sgn_nat hs)
  have hGw := hG.below h.bel
  have hsh := Lib.hid (prog_short 0 n)
  have hms := Lib.hid (prog_may n)
  by_cases hc : shortOf n = 0
  · have hne : n ≠ 34 ∧ n ≠ 92 ∧ n ≠ 9 ∧ n ≠ 10 ∧ n ≠ 13 ∧ n ≠ 0 := by
      unfold shortOf at hc
      repeat' split at hc
      all_goals omega
    rw [hc] at hsh
    have HE : Hid (escS n = if may n = true then enc n else if n < 256 then 92 :: 120 :: hexs n.toNat 2 else if n < 65536 then 92 :: 117 :: hexs n.toNat 4 else 92 :: 85 :: hexs n.toNat 8) := by
      unfold escS
      rw [if_neg hne.1, if_neg hne.2.1, if_neg hne.2.2.1, if_neg hne.2.2.2.1, if_neg hne.2.2.2.2.1, if_neg hne.2.2.2.2.2]
      exact Lib.hid rfl
    cases hm : may n with
    | true =>
      rw [hm] at hms HE
      clear hne hc
      go_enter Tryz.func31, Tryz.ntmps31
      go_wp2_with (first | (go_at_call 59; refine (quote_short.calls _ _ _ _ hGw hsh.out).mono ?_; rintro e w1 ⟨rfl, hb1⟩) | (go_at_call 36; refine (quote_may.calls _ _ _ (hGw.below (Drawn0.below hb1)) hms.out).mono ?_; rintro e w2 ⟨rfl, hb2⟩) | (go_at_call 60; refine (st_sign ((h.quiet (Drawn0.below hb1)).quiet (Drawn0.below hb2)) n hs (by omega)).mono ?_; rintro e w3 ⟨n3, rfl, h3, k3⟩))
      go_end0
      exact ⟨rfl, by rw [HE.out]; exact h3, (kept_below (Drawn0.below hb1)).trans ((kept_below (Drawn0.below hb2)).trans k3)⟩
    | false =>
      have hnm := not_may n hs (by rw [hm]; decide)
      rw [hm] at hms HE
      clear hne hc
      obtain ⟨N, rfl⟩ : ∃ N : Nat, n = (N : Int) := ⟨n.toNat, by omega⟩
      by_cases q : N < 256
      · have HH : Hid (escS (N : Int) = 92 :: 120 :: hexs N 2) := by rw [HE.out, if_neg (by decide), if_pos (by omega)]; exact Lib.hid rfl
        have hlt : decide ((N : Int) < 256) = true := decide_eq_true (by omega)
        clear HE hm
        go_enter Tryz.func31, Tryz.ntmps31
        go_wp2_with (first | (go_at_call 59; refine (quote_short.calls _ _ _ _ hGw hsh.out).mono ?_; rintro e w1 ⟨rfl, hb1⟩) | (go_at_call 36; refine (quote_may.calls _ _ _ (hGw.below (Drawn0.below hb1)) hms.out).mono ?_; rintro e w2 ⟨rfl, hb2⟩) | (go_at_call 61; refine (hex_is hG ((h.quiet (Drawn0.below hb1)).quiet (Drawn0.below hb2)) 120 N 2 (.inl ⟨rfl, q⟩) (by omega)).mono ?_; rintro e w3 ⟨rfl, h3, k3⟩))
        go_end0
        exact ⟨rfl, by rw [HH.out]; exact h3, (kept_below (Drawn0.below hb1)).trans ((kept_below (Drawn0.below hb2)).trans k3)⟩
      · have HH : Hid (escS (N : Int) = 92 :: 117 :: hexs N 4) := by rw [HE.out, if_neg (by decide), if_neg (by omega), if_pos (by omega)]; exact Lib.hid rfl
        have hlt : decide ((N : Int) < 256) = false := decide_eq_false (by omega)
        have hlt2 : decide ((N : Int) < 65536) = true := decide_eq_true (by omega)
        clear HE hm
        go_enter Tryz.func31, Tryz.ntmps31
        go_wp2_with (first | (go_at_call 59; refine (quote_short.calls _ _ _ _ hGw hsh.out).mono ?_; rintro e w1 ⟨rfl, hb1⟩) | (go_at_call 36; refine (quote_may.calls _ _ _ (hGw.below (Drawn0.below hb1)) hms.out).mono ?_; rintro e w2 ⟨rfl, hb2⟩) | (go_at_call 61; refine (hex_is hG ((h.quiet (Drawn0.below hb1)).quiet (Drawn0.below hb2)) 117 N 4 (.inr ⟨rfl, by omega, by omega⟩) (by omega)).mono ?_; rintro e w3 ⟨rfl, h3, k3⟩))
        go_end0
        exact ⟨rfl, by rw [HH.out]; exact h3, (kept_below (Drawn0.below hb1)).trans ((kept_below (Drawn0.below hb2)).trans k3)⟩
  · obtain ⟨c, hc2, hE2⟩ : ∃ c : UInt8, shortOf n = (c.toNat : Int) ∧ escS n = [92, c] := by
      unfold shortOf at hc ⊢
      unfold escS
      by_cases a : n = 34
      · subst a; exact ⟨34, rfl, rfl⟩
      by_cases b : n = 92
      · subst b; exact ⟨92, rfl, rfl⟩
      by_cases c : n = 10
      · subst c; exact ⟨110, rfl, rfl⟩
      by_cases d : n = 9
      · subst d; exact ⟨116, rfl, rfl⟩
      by_cases e : n = 13
      · subst e; exact ⟨114, rfl, rfl⟩
      by_cases f : n = 0
      · subst f; exact ⟨48, rfl, rfl⟩
      · rw [if_neg a, if_neg b, if_neg c, if_neg d, if_neg e, if_neg f] at hc; exact absurd rfl hc
    rw [hc2] at hsh hc
    rw [hE2]
    have hne : (((c.toNat : Nat) : Int) != 0) = true := bne_iff_ne.2 hc
    have hne2 : (((c.toNat : Nat) : Int) == 0) = false := beq_eq_false_iff_ne.2 hc
    clear hc hc2 hE2 hms
    go_enter Tryz.func31, Tryz.ntmps31
    go_wp2_with (first | (go_at_call 59; refine (quote_short.calls _ _ _ _ hGw hsh.out).mono ?_; rintro e w1 ⟨rfl, hb1⟩))
    go_wp2_with (go_at_call 42; refine (st_byte (h.quiet (Drawn0.below hb1)) 92 (by omega)).mono ?_)
    rintro e w2 ⟨rfl, h2, k2⟩
    go_wp2_with (go_at_call 42; refine (st_byte h2 c (by simp; omega)).mono ?_)
    rintro e w3 ⟨rfl, h3, k3⟩
    go_wp2
    go_end0
    exact ⟨rfl, by simpa using h3, (kept_below (Drawn0.below hb1)).trans (k2.trans k3)⟩
end Go.Proofs.YtmkdjgmdfhagfaaGreatDoor.Plug

/- The signs of a text (utf.Decode), by hand, in the form in which the printed functions are told. Conditions: the text has at most 2^40 bytes. -/
namespace Go.Proofs.YtmkdjgmdfhagfaaGreatDoor.Plug
open Go.RowKit Go.Proofs.YtmkdjgmdfhagfaaGreatDoor Go.Proofs.YtmkdjgmdfhagfaaGreatDoor.PX Go.Proofs.YtmkdjgmdfhagfaaGreatDoor.Utf Go.Proofs.YtmkdjgmdfhagfaaGreatDoorW.PrintWords Go.Proofs.YtmkdjgmdfhagfaaGreatDoorW.PrintLast

/-- The signs that were told, and the place where it ended. -/
def goF : Nat → List UInt8 → Nat → List Int → List Int × Nat
  | 0, _, i, acc => (acc, i)
  | k + 1, l, i, acc => if i < l.length then (if (dec (l.drop i)).1 < 0 then (acc ++ [(dec (l.drop i)).1], i) else goF k l (i + (dec (l.drop i)).2) (acc ++ [(dec (l.drop i)).1])) else (acc, i)
def goB (l : List UInt8) : List Int × Nat := goF l.length l 0 []
def decodeB (l : List UInt8) : List Int × Int × Int := if (goB l).2 < l.length then ([], 8, ((goB l).2 : Int)) else ((goB l).1, 0, 0)

theorem goF_end (k : Nat) (l : List UInt8) (i : Nat) (acc : List Int) (h : ¬ i < l.length) : goF k l i acc = (acc, i) := by
  cases k with
  | zero => rfl
  | succ k => simp [goF, h]

theorem info_int : (Tryz.prog.info? 3).map (fun i => (i.zero, i.size, i.bytes)) = some (some (.int .i64 0), 1, 8) := by kernel_rfl
theorem row_int : Tryz.prog.underlying 53 = some (.slice 3) := by kernel_rfl

/-- What the walk's own function leaves. -/
structure Box (B g : Nat) (xs : List Int) (W : World) : Prop where
  ex : ∃ v, W.heap[g]? = some (.cells #[v] 53 (0, 0)) ∧ W.ownsRow B 3 1 v xs.length (nums .i64 xs)
/-- All else that stood there stands. -/
def Stays (B g : Nat) (W W' : World) : Prop := Below B W W' ∧ ∀ k c t, W.heap[k]? = some (.cells c t (0, 0)) → t ≠ 3 → k ≠ g → W'.heap[k]? = some (.cells c t (0, 0))
theorem Stays.refl (B g : Nat) (W : World) : Stays B g W W := ⟨Below.refl B W, fun _ _ _ h _ _ => h⟩
theorem Stays.trans {B g : Nat} {W W1 W2 : World} (h : Stays B g W W1) (h2 : Stays B g W1 W2) : Stays B g W W2 := ⟨h.1.trans h2.1, fun k c t a b d => h2.2 k c t (h.2 k c t a b d) b d⟩
theorem Stays.of_below {B g : Nat} {W W1 : World} (h : Below W.heap.size W W1) (hB : B ≤ W.heap.size) : Stays B g W W1 :=
  ⟨h.mono hB, fun k _ _ a _ _ => (h.block k (Bld.at_lt a)).trans a⟩
theorem Box.of_below {B g : Nat} {xs : List Int} {W W1 : World} (h : Box B g xs W) (hb : Below W.heap.size W W1) : Box B g xs W1 := by
  obtain ⟨v, h1, h2⟩ := h.ex
  exact ⟨v, (hb.block g (Bld.at_lt h1)).trans h1, own_move h2 (fun k hk => hb.block k (own_lt h2 k hk))⟩

set_option maxHeartbeats 2000000 in
set_option maxRecDepth 100000 in
theorem on_is (x : Int) (B g : Nat) (xs : List Int) (W : World) (hbx : Box B g xs W) (hlen : xs.length + 1 ≤ 1099511627776) (hB : B ≤ g) (hBw : B ≤ W.heap.size) :
    Calls Tryz.prog 57 #[.int .i64 x, .pointer (some ⟨g, 0, none⟩)] W fun e w' => e = .returned (.bool (decide (x ≥ 0))) ∧ Box B g (xs ++ [x]) w' ∧ Stays B g W w' := by
  obtain ⟨v, hg, hown⟩ := hbx.ex
  clear hbx
  obtain ⟨i0, hi, hz0, hz1, hz2⟩ := info_parts info_int
  have c0 : W.cell? ⟨g, 0, none⟩ = some v := by rw [Lib.cell_of_heap hg]; rfl
  have hne := own_ne hown hg (by decide)
  go_enter Tryz.func57, Tryz.ntmps57
  go_wp2_with (at_builtin; refine wpList_append_own _ rfl _ _ 53 rfl B 3 i0 (.int .i64 0) 1 8 row_int hi hz0 hz1 hz2 rfl (by decide) _ _ _ rfl (hown.alloc _) ⟨W.heap.size, 0, none⟩ 1 1 [.int .i64 x] rfl rfl ?c1 ?c2 ?c3 ?c4 ?c5 ?_)
  case c1 =>
    intro j u hj
    match j, hj with
    | 0, hj => simp at hj; subst hj; simp [Addr.add]
  case c2 => intro u hu; simp at hu; subst hu; rfl
  case c3 => unfold maxLen; omega
  case c4 => omega
  case c5 => simp; omega
  intro v' w2 hown' hgrow _
  obtain ⟨ao, cap, rfl⟩ : ∃ ao cap, v' = .slice ao (xs.length + 1) cap := own_slice hown'
  have hlt := Bld.at_lt hg
  have hb2 : w2.heap[g]? = some (.cells #[v] 53 (0, 0)) := by
    rw [hgrow.block g (by simp; omega) hne, Lib.alloc_old W _ g hlt]
    exact hg
  have d0 : w2.cell? ⟨g, 0, none⟩ = some v := by rw [Lib.cell_of_heap hb2]; rfl
  have f0 : w2.frozen? ⟨g, 0, none⟩ = false := Lib.frozen_of_heap hb2 0
  have hne2 := own_ne hown' hb2 (by decide)
  have HR : Hid (Box B g (xs ++ [x]) (w2.setCell ⟨g, 0, none⟩ (.slice ao (xs.length + 1) cap)) ∧ Stays B g W (w2.setCell ⟨g, 0, none⟩ (.slice ao (xs.length + 1) cap))) := by
    refine Lib.hid ⟨⟨.slice ao (xs.length + 1) cap, ?_, ?_⟩, ?_, ?_⟩
    · exact blk_set hb2 0 _
    · have h3 := own_setCell (p := ⟨g, 0, none⟩) hown' hne2 (.slice ao (xs.length + 1) cap)
      rw [List.length_append, List.length_singleton, nums_append]
      exact h3
    · exact ((((Below.refl B W).alloc hBw _).grown hgrow (by simp; omega) (fun k hk => own_base hown k hk)).setCell (p := ⟨g, 0, none⟩) hB _)
    · intro k c t hk ht hkg
      rw [Below.heap_setCell w2 ⟨g, 0, none⟩ _ k hkg, hgrow.block k (by have := Bld.at_lt hk; simp; omega) (own_ne hown hk (Ne.symm ht)), Lib.alloc_old W _ k (Bld.at_lt hk)]
      exact hk
  clear hown hown' hgrow hg hne hne2
  go_wp2
  go_ret
  exact ⟨rfl, HR.out⟩

set_option maxHeartbeats 2000000 in
theorem walk_dec (s : ByteArray) (B g : Nat) (w w0 : World) (hG : Glob.G w0) (hw0 : Below B w0 w) (hB0 : w0.heap.size = B) (hs : s.size ≤ 1099511627775) (hbx : Box B g [] w) (hB : B ≤ g) (hBw : B ≤ w.heap.size) :
    Calls Tryz.prog 56 #[.string s, .func (.func 57) #[] #[.pointer (some ⟨g, 0, none⟩)]] w fun e w' => e = .returned (.int .i64 (goB s.data.toList).2) ∧ Box B g (goB s.data.toList).1 w' ∧ Stays B g w w' := by
  have hL := Lib.hid (size_list s)
  go_enter Tryz.func56, Tryz.ntmps56
  go_wp2
  go_loopw [5] (fun a wr => ∃ (i k : Nat) (xs : List Int), i ≤ s.size ∧ s.size ≤ i + k ∧ xs.length ≤ i ∧ Hid (goF k s.data.toList i xs = goB s.data.toList) ∧ a = .int .i64 i ∧ Box B g xs wr ∧ Stays B g w wr) (fun a _ => s.size - (intOf a).toNat)
  case atStart => exact ⟨0, s.size, [], Nat.zero_le _, by omega, Nat.le_refl _, by rw [hL.out]; rfl, rfl, hbx, Stays.refl _ _ _⟩
  case round =>
    obtain ⟨i, k, xs, hi, hk, hxl, hst, rfl, hbx, hb⟩ := hrel
    have hGr : Glob.G wr := hG.below (by rw [hB0]; exact hw0.trans hb.1)
    by_cases hlt : i < s.size
    · have hne : s.data.toList.drop i ≠ [] := by
        intro e; have h2 := congrArg List.length e; rw [List.length_drop, ← hL.out, List.length_nil] at h2; omega
      have hw := dec_wide _ hne
      have hf := prog_first (s.extract i s.size)
      rw [drop_list] at hf
      have hlen : (s.data.toList.drop i).length = s.size - i := by rw [List.length_drop, ← hL.out]
      have hstep : goF k s.data.toList i xs = if (dec (s.data.toList.drop i)).1 < 0 then (xs ++ [(dec (s.data.toList.drop i)).1], i) else goF (k - 1) s.data.toList (i + (dec (s.data.toList.drop i)).2) (xs ++ [(dec (s.data.toList.drop i)).1]) := by
        obtain ⟨k, rfl⟩ : ∃ m, k = m + 1 := ⟨k - 1, by omega⟩
        rw [goF, if_pos (by have := hL.out; omega)]; rfl
      generalize dec (s.data.toList.drop i) = d at *
      obtain ⟨r, n⟩ := d
      simp only at hw hf hstep
      rw [hlen] at hw
      obtain ⟨hw1, hw2, hw3⟩ := hw
      have HF := Lib.hid hf; have HS := Lib.hid hstep
      clear hf hstep hlen hne
      by_cases hr : r < 0
      · rw [if_pos hr] at HS
        have hge : decide (r ≥ 0) = false := by simp; omega
        have HQ := Lib.hid (hst.out.symm.trans HS.out)
        clear hst HS
        go_wp2_with (first | (go_at_call 35; refine (utf_First.calls _ _ _ _ hGr HF.out).mono ?_; rintro e w1 ⟨rfl, hb1⟩) | (go_at_call 57; refine (on_is r B g xs _ (hbx.of_below hb1) (by omega) hB (Nat.le_trans hBw (Nat.le_trans hb.1.size hb1.size))).mono ?_; rw [hge]; rintro e w2 ⟨rfl, hbx2, hs2⟩))
        go_ret
        exact ⟨by rw [HQ.out]; rfl, by rw [HQ.out]; exact hbx2, hb.trans ((Stays.of_below hb1 (Nat.le_trans hBw hb.1.size)).trans hs2)⟩
      · rw [if_neg hr] at HS
        have hge : decide (r ≥ 0) = true := by simp; omega
        have HQ := Lib.hid (HS.out.symm.trans hst.out)
        clear hst HS
        go_wp2_with (first | (go_at_call 35; refine (utf_First.calls _ _ _ _ hGr HF.out).mono ?_; rintro e w1 ⟨rfl, hb1⟩) | (go_at_call 57; refine (on_is r B g xs _ (hbx.of_below hb1) (by omega) hB (Nat.le_trans hBw (Nat.le_trans hb.1.size hb1.size))).mono ?_; rw [hge]; rintro e w2 ⟨rfl, hbx2, hs2⟩))
        have hall := hb.trans ((Stays.of_below hb1 (Nat.le_trans hBw hb.1.size)).trans hs2)
        go_roundw
        case rel => exact ⟨i + n, k - 1, xs ++ [r], by omega, by omega, by rw [List.length_append]; simp; omega, Lib.hid HQ.out, by go_num, hbx2, hall⟩
        case measure => simp [intOf]; omega
    · have hc : decide ((i : Int) < (s.size : Int)) = false := by simp; omega
      have HE := Lib.hid (hst.out.symm.trans (goF_end k s.data.toList i xs (by rw [← hL.out]; exact hlt)))
      clear hst
      go_wp2
      go_ret
      exact ⟨by rw [HE.out]; rfl, by rw [HE.out]; exact hbx, hb⟩

theorem two_set {w2 : World} {B t : Nat} {x y : Value} (h : w2.heap[B]? = some (.cells #[x, y] t (0, 0))) (a b : Value) (o : Obj) :
    (((w2.setCell ⟨B, 0, none⟩ a).setCell ⟨B, 1, none⟩ b).alloc o).cell? ⟨B, 0, none⟩ = some a ∧ (((w2.setCell ⟨B, 0, none⟩ a).setCell ⟨B, 1, none⟩ b).alloc o).cell? ⟨B, 1, none⟩ = some b := by
  have h1 := blk_set h 0 a
  have h2 := blk_set h1 1 b
  have h3 : (((w2.setCell ⟨B, 0, none⟩ a).setCell ⟨B, 1, none⟩ b).alloc o).heap[B]? = some (.cells ((#[x, y].setIfInBounds 0 a).setIfInBounds 1 b) t (0, 0)) := (Lib.alloc_old _ _ _ (Bld.at_lt h2)).trans h2
  exact ⟨by rw [blk_cell h3]; rfl, by rw [blk_cell h3]; rfl⟩

def utf_Decode.f (a0 : ByteArray) : Option (List Int × Int × Int) := if a0.size ≤ 1099511627775 then some (decodeB a0.data.toList) else none

set_option maxHeartbeats 2000000 in
set_option maxRecDepth 100000 in
theorem utf_Decode.calls (a0 : ByteArray) (r1 : List Int) (r2 r3 : Int) (w : World) (hG : Glob.G w) (h : utf_Decode.f a0 = some (r1, r2, r3)) :
    Calls Tryz.prog 30 #[.string a0] w fun e w' => ∃ v0_ : Value, e = .returned (.tuple #[v0_, .agg #[.int .i64 r2, .int .i64 r3]]) ∧ Kd.R (Kd.int .i64) 3 w' w.heap.size (fun _ => True) v0_ r1 ∧ Below w.heap.size w w' := by
  unfold utf_Decode.f at h
  by_cases c : a0.size ≤ 1099511627775
  · rw [if_pos c] at h
    have hL := size_list a0
    unfold decodeB at h
    rw [← hL] at h
    have hH : Glob.G ((w.alloc (.cells #[.int .i64 0, .int .i64 0] 38)).alloc (.cells #[.slice none 0 0] 53)) := hG.below (((Below.refl _ w).alloc (Nat.le_refl _) _).alloc (by simp) _)
    obtain ⟨W0, hW0⟩ : ∃ W0, W0 = (w.alloc (.cells #[.int .i64 0, .int .i64 0] 38)).alloc (.cells #[.slice none 0 0] 53) := ⟨_, rfl⟩
    have hbx : Box w.heap.size (w.heap.size + 1) [] W0 := by
      refine ⟨.slice none 0 0, ?_, ?_⟩
      · rw [hW0]; have := heap_alloc_new (w.alloc (.cells #[.int .i64 0, .int .i64 0] 38)) (.cells #[.slice none 0 0] 53); simpa using this
      · exact ⟨rfl, .inl ⟨rfl, rfl⟩⟩
    have hf0 : W0.heap[w.heap.size]? = some (.cells #[.int .i64 0, .int .i64 0] 38 (0, 0)) := by
      rw [hW0, Lib.alloc_old _ _ _ (by simp)]; exact heap_alloc_new w _
    have hbel : Below w.heap.size w W0 := by rw [hW0]; exact ((Below.refl _ w).alloc (Nat.le_refl _) _).alloc (by simp) _
    have hsz : w.heap.size ≤ W0.heap.size := hbel.size
    have HW := Lib.hid (walk_dec a0 w.heap.size (w.heap.size + 1) W0 w hG hbel rfl c hbx (by omega) hsz)
    subst hW0
    go_enter Tryz.func30, Tryz.ntmps30
    go_wp2_with (first | (go_at_call 56; refine HW.out.mono ?_; rintro e w1 ⟨rfl, hbx1, hs1⟩))
    have hbel1 := hbel.trans hs1.1
    have hG1 := hG.below hbel1
    by_cases q : (goB a0.data.toList).2 < a0.size
    · rw [if_pos q] at h
      simp only [Option.some.injEq, Prod.mk.injEq] at h
      obtain ⟨rfl, rfl, rfl⟩ := h
      have h2 : utf_fault.f a0 (goB a0.data.toList).2 = some (8, ((goB a0.data.toList).2 : Int)) := by unfold utf_fault.f; rw [if_pos (by omega)]
      have H2 := Lib.hid h2
      clear h2 HW q
      go_wp2_with (first | (go_at_call 58; refine (utf_fault.calls _ _ _ _ _ hG1 H2.out).mono ?_; rintro e w2 ⟨rfl, hb2⟩; have hf2 := (hb2.block w.heap.size (Bld.at_lt (hs1.2 _ _ _ hf0 (by decide) (by omega)))).trans (hs1.2 _ _ _ hf0 (by decide) (by omega)); have hc0 : w2.cell? ⟨w.heap.size, 0, none⟩ = some (.int .i64 0) := by { rw [blk_cell hf2]; rfl }; have hc1 : w2.cell? ⟨w.heap.size, 1, none⟩ = some (.int .i64 0) := by { rw [blk_cell hf2]; rfl }; have hz0 := blk_frozen hf2 0; have hz1 := blk_frozen hf2 1; have hz := Bld.at_lt hf2))
      have HBel := Lib.hid (hbel1.trans (hb2.mono hbel1.size))
      have hzz := hb2.size
      go_region
      all_goals
        go_wp2
        have hset := two_set hf2 (.int .i64 8) (.int .i64 (goB a0.data.toList).2) (.cells #[.int .i64 8, .int .i64 (goB a0.data.toList).2] 38)
        refine bodyPost_ret (v := .tuple #[.slice none 0 0, .agg #[.int .i64 8, .int .i64 (goB a0.data.toList).2]]) (by simp [results, Tryz.results30, go_sem, hset.1, hset.2]) rfl ?_
        refine ⟨.slice none 0 0, rfl, Kd.R_nil _ _ _ _ _, ?_⟩
        exact Below.drew ((((HBel.out.setCell (p := ⟨w.heap.size, 0, none⟩) (Nat.le_refl _) _).setCell (p := ⟨w.heap.size, 1, none⟩) (Nat.le_refl _) _).alloc (by simp; omega) _))
    · rw [if_neg q] at h
      simp only [Option.some.injEq, Prod.mk.injEq] at h
      obtain ⟨rfl, rfl, rfl⟩ := h
      have h2 : utf_fault.f a0 (goB a0.data.toList).2 = some (0, 0) := by unfold utf_fault.f; rw [if_neg (by omega)]
      have H2 := Lib.hid h2
      clear h2 HW q
      generalize (goB a0.data.toList).2 = n at *
      go_wp2_with (first | (go_at_call 58; refine (utf_fault.calls _ _ _ _ _ hG1 H2.out).mono ?_; rintro e w2 ⟨rfl, hb2⟩; have hf2 := (hb2.block w.heap.size (Bld.at_lt (hs1.2 _ _ _ hf0 (by decide) (by omega)))).trans (hs1.2 _ _ _ hf0 (by decide) (by omega)); have hc0 : w2.cell? ⟨w.heap.size, 0, none⟩ = some (.int .i64 0) := by { rw [blk_cell hf2]; rfl }; have hc1 : w2.cell? ⟨w.heap.size, 1, none⟩ = some (.int .i64 0) := by { rw [blk_cell hf2]; rfl }; have hz0 := blk_frozen hf2 0; have hz1 := blk_frozen hf2 1; have hz := Bld.at_lt hf2; obtain ⟨v, hg2, hown⟩ := (hbx1.of_below hb2).ex; have hcg : w2.cell? ⟨w.heap.size + 1, 0, none⟩ = some v := by { rw [blk_cell hg2]; rfl }; obtain ⟨ao, cap, rfl⟩ := own_slice hown; have hzg := Bld.at_lt hg2))
      have HBel := Lib.hid (hbel1.trans (hb2.mono hbel1.size))
      have hzz := hb2.size
      have hset := two_set hf2 (.int .i64 0) (.int .i64 0) (.cells #[.int .i64 0, .int .i64 0] 38)
      refine bodyPost_ret (v := .tuple #[.slice ao (goB a0.data.toList).1.length cap, .agg #[.int .i64 0, .int .i64 0]]) (by simp [results, Tryz.results30, go_sem, hset.1, hset.2]) rfl ?_
      refine ⟨_, rfl, ?_, ((HBel.out.setCell (p := ⟨w.heap.size, 0, none⟩) (Nat.le_refl _) _).setCell (p := ⟨w.heap.size, 1, none⟩) (Nat.le_refl _) _).alloc (by simp; omega) _⟩
      have hne := own_ne hown hf2 (by decide)
      have hR : Kd.R (Kd.int .i64) 3 w2 w.heap.size (fun k => k ≠ w.heap.size) (.slice ao (goB a0.data.toList).1.length cap) (goB a0.data.toList).1 := Kd.R_of_own hown (fun k hk e => hne (by rw [hk, e]))
      exact Kd.R_mono (Kd.R_alloc (Kd.R_far (Kd.R_far hR (fun k hk => hk) _) (fun k hk => hk) _) _) (fun _ _ => trivial)
  · rw [if_neg c] at h; cases h
end Go.Proofs.YtmkdjgmdfhagfaaGreatDoor.Plug

/- Texts put in double quotes (quote.Double), by hand, in the form in which the printed functions are told. Conditions: the text has at most 2^40 bytes. -/
namespace Go.Proofs.YtmkdjgmdfhagfaaGreatDoor.Plug
open Go.RowKit Go.Proofs.YtmkdjgmdfhagfaaGreatDoor Go.Proofs.YtmkdjgmdfhagfaaGreatDoor.PX Go.Proofs.YtmkdjgmdfhagfaaGreatDoor.Utf Go.Proofs.YtmkdjgmdfhagfaaGreatDoorW.PrintWords Go.Proofs.YtmkdjgmdfhagfaaGreatDoorW.PrintLast

theorem goF_signs : ∀ (k : Nat) (l : List UInt8) (i : Nat) (acc : List Int), i ≤ l.length → l.length ≤ i + k →
    (∀ zs, signsF k (l.drop i) = some zs → goF k l i acc = (acc ++ zs, l.length)) ∧ (signsF k (l.drop i) = none → (goF k l i acc).2 < l.length)
  | 0, l, i, acc, h1, h2 => by
    refine And.intro (fun zs h => ?_) (fun h => by simp [signsF] at h)
    simp only [signsF, Option.some.injEq] at h
    subst h
    rw [goF, List.append_nil, show i = l.length by omega]
  | k + 1, l, i, acc, h1, h2 => by
    by_cases c : i < l.length
    · have hne : l.drop i ≠ [] := fun e => by have := congrArg List.length e; rw [List.length_drop, List.length_nil] at this; omega
      have hw := dec_len _ hne
      rw [List.length_drop] at hw
      rw [goF, if_pos c, signsF, if_neg hne]
      by_cases d : (dec (l.drop i)).1 < 0
      · rw [if_pos d, if_pos d]; exact ⟨fun zs h => (by cases h), fun _ => c⟩
      · rw [if_neg d, if_neg d, List.drop_drop]
        obtain ⟨i1, i2⟩ := goF_signs k l (i + (dec (l.drop i)).2) (acc ++ [(dec (l.drop i)).1]) (by omega) (by omega)
        refine ⟨fun zs h => ?_, fun h => i2 (Option.map_eq_none_iff.1 h)⟩
        obtain ⟨ys, hy, rfl⟩ := Option.map_eq_some_iff.1 h
        rw [i1 ys hy, List.append_assoc]; rfl
    · have hi : i = l.length := by omega
      rw [goF_end _ _ _ _ c, hi, List.drop_length]
      refine And.intro (fun zs h => ?_) (fun h => by simp [signsF] at h)
      simp only [signsF, if_pos, Option.some.injEq] at h
      subst h; rw [List.append_nil]
theorem decode_some {l : List UInt8} {zs : List Int} (h : signs l = some zs) : decodeB l = (zs, 0, 0) := by
  have := (goF_signs l.length l 0 [] (Nat.zero_le _) (by omega)).1 zs (by rw [List.drop_zero]; exact h)
  unfold decodeB goB
  rw [this, if_neg (by simp)]; rfl
theorem decode_none {l : List UInt8} (h : signs l = none) : decodeB l = ([], 8, ((goB l).2 : Int)) := by
  have := (goF_signs l.length l 0 [] (Nat.zero_le _) (by omega)).2 (by rw [List.drop_zero]; exact h)
  unfold decodeB
  rw [if_pos (show (goB l).2 < l.length from this)]

theorem of_bytes {s : ByteArray} {l : List UInt8} (h : s.data.toList = l) : s = ⟨l.toArray⟩ := by
  cases s with
  | mk d => subst h; rfl
theorem app_bytes (a b : ByteArray) : (a ++ b).data.toList = a.data.toList ++ b.data.toList := by
  rw [ByteArray.data_append, Array.toList_append]

def doubleOf (l : List UInt8) : List UInt8 × Int := match signs l with
  | some zs => (doubleB zs, 0)
  | none => ([], 8)
def quote_Double.f (a0 : ByteArray) : Option (ByteArray × Int) := if a0.size ≤ 1099511627775 then some (⟨(doubleOf a0.data.toList).1.toArray⟩, (doubleOf a0.data.toList).2) else none

theorem signs_len : ∀ (k : Nat) (l : List UInt8) (zs : List Int), signsF k l = some zs → zs.length ≤ l.length
  | 0, l, zs, h => by simp [signsF] at h; subst h; simp
  | k + 1, l, zs, h => by
    unfold signsF at h
    by_cases hn : l = []
    · rw [if_pos hn] at h; cases Option.some.inj h; simp
    rw [if_neg hn] at h
    by_cases hd : (dec l).1 < 0
    · rw [if_pos hd] at h; cases h
    rw [if_neg hd] at h
    obtain ⟨ys, hy, rfl⟩ := Option.map_eq_some_iff.1 h
    have hw := dec_len l hn
    have := signs_len k _ ys hy
    rw [List.length_drop] at this
    rw [List.length_cons]; omega
theorem escs_len (zs : List Int) : (zs.flatMap escS).length ≤ 10 * zs.length := by
  induction zs with
  | nil => simp
  | cons z zs ih => rw [List.flatMap_cons, List.length_append, List.length_cons]; have := escS_len z; omega

set_option maxHeartbeats 1600000 in
set_option maxRecDepth 100000 in
theorem double_ok (s : ByteArray) (zs : List Int) (hs : s.size ≤ 1099511627775) (hz : signs s.data.toList = some zs) (w : World) (hG : Glob.G w) :
    Calls Tryz.prog 12 #[.string s] w fun e w' => e = .returned (.tuple #[.string ⟨(doubleB zs).toArray⟩, .int .i64 0]) ∧ Below w.heap.size w w' := by
  have hlen := signs_len _ _ _ hz
  rw [← size_list] at hlen
  have hall := (signs_some hz).2
  have hD : utf_Decode.f s = some (zs, 0, 0) := by unfold utf_Decode.f; rw [if_pos hs, decode_some hz]
  have HD := Lib.hid hD
  have HA := Lib.hid hall
  clear hD hall hz
  go_enter Tryz.func12, Tryz.ntmps12
  go_wp2_with (go_at_call 30; refine (utf_Decode.calls _ _ _ _ _ hG HD.out).mono ?_; rintro e w1 ⟨v, rfl, hR, hb1⟩; obtain ⟨A, c, rfl⟩ := Kd.R_slice hR)
  have hC := (Kd.R_reads' hR).2.2
  have HG0 : Hid (Glob.G (w1.alloc (.cells #[.int .i64 0, .int .i64 0] 38))) := Lib.hid ((hG.below hb1).below ((Below.refl _ _).alloc (Nat.le_refl _) _))
  have hfr := Lib.fresh_isBuilder 65 5 (w1.alloc (.cells #[.int .i64 0, .int .i64 0] 38))
  have hsz : (w1.alloc (.cells #[.int .i64 0, .int .i64 0] 38)).heap.size = w1.heap.size + 1 := by simp
  go_loopw [21] (fun a wr => ∃ i : Nat, i ≤ zs.length ∧ a = .int .i64 i ∧ St (w1.alloc (.cells #[.int .i64 0, .int .i64 0] 38)) (w1.heap.size + 1) ((zs.take i).flatMap escS) wr) (fun a _ => zs.length - (intOf a).toNat)
  case atStart =>
    refine ⟨0, Nat.zero_le _, rfl, ⟨?_, (Below.refl _ _).alloc (Nat.le_refl _) _⟩⟩
    rw [hsz] at hfr ⊢
    exact Lib.IsBuilderF.of hfr
  case round =>
    obtain ⟨i, hi, rfl, hst⟩ := hrel
    by_cases hlt : i < zs.length
    · have hc : decide ((i : Int) < (zs.length : Int)) = true := by simp; omega
      obtain ⟨ad, rfl, hx⟩ := Kd.at_int hC (i : Int) (by omega) (by omega)
      rw [rd_at zs i hlt, Int.toNat_natCast] at hx
      have hadlt := World.block_lt_of_cell? w1 _ hx
      have hx0 : (w1.alloc (.cells #[.int .i64 0, .int .i64 0] 38)).cell? (ad.add i) = some (.int .i64 zs[i]) := (((Below.refl w1.heap.size w1).alloc (Nat.le_refl _) _).cell hadlt).trans hx
      have hx1 := (hst.bel.cell (World.block_lt_of_cell? _ _ hx0)).trans hx0
      have p1 : (0 ≤ (i : Int)) = True := eq_true (by omega)
      have p2 : ((i : Int) < (zs.length : Int)) = True := eq_true (by omega)
      have hsg := HA.out zs[i] (List.getElem_mem hlt)
      have htk : (zs.take (i + 1)).flatMap escS = (zs.take i).flatMap escS ++ escS zs[i] := by rw [List.take_succ_eq_append_getElem hlt, List.flatMap_append]; simp
      have HT := Lib.hid htk
      have hl2 := escs_len (zs.take i)
      have hl3 : (zs.take i).length ≤ zs.length := by rw [List.length_take]; omega
      clear htk hx hx0 hC hR hfr
      generalize zs[i] = x at *
      go_wp2_with (go_at_call 31; refine (put_is HG0.out hst x hsg (by omega)).mono ?_; rintro e w2 ⟨rfl, h2, k2⟩)
      go_roundw
      case rel => exact ⟨i + 1, by omega, by go_num, by rw [HT.out]; exact h2⟩
      case measure => simp [intOf]; omega
    · have hc : decide ((i : Int) < (zs.length : Int)) = false := by simp; omega
      have hie : i = zs.length := by omega
      subst hie
      rw [List.take_length] at hst
      have hl2 := escs_len zs
      have hbS := hst.bel
      have hgot := Bld.got _ _ _ _ _ hst.bld hst.bel.size
      obtain ⟨t, ht⟩ : ∃ t : ByteArray, t = ⟨(zs.flatMap escS).toArray⟩ := ⟨_, rfl⟩
      have hts : t.size ≤ 10 * zs.length := by rw [ht]; exact hl2
      rw [← ht] at hgot
      have hfin : ((⟨#[34]⟩ : ByteArray) ++ t) ++ (⟨#[34]⟩ : ByteArray) = ⟨(doubleB zs).toArray⟩ := of_bytes (by rw [app_bytes, app_bytes, ht]; rfl)
      have HF := Lib.hid hfin
      have s1 : 1 + t.size ≤ 9223372036854775807 := by omega
      have s2 : ((⟨#[34]⟩ : ByteArray) ++ t).size + 1 ≤ 9223372036854775807 := by
        rw [size_list, app_bytes, List.length_append, ← size_list t]
        show 1 + t.size + 1 ≤ _
        omega
      clear hC hR hfr hfin ht hl2
      go_wp2_with (go_at_call 32; refine hgot.mono ?_; rintro e w3 ⟨rfl, hb3⟩)
      go_ret2
      refine ⟨by rw [← HF.out]; rfl, ?_⟩
      have q1 := (Below.refl w1.heap.size w1).alloc (Nat.le_refl _) (.cells #[.int .i64 0, .int .i64 0] 38)
      exact hb1.trans ((q1.trans ((hbS.trans hb3).mono (by omega))).mono hb1.size)

set_option maxHeartbeats 1600000 in
set_option maxRecDepth 100000 in
theorem double_bad (s : ByteArray) (hs : s.size ≤ 1099511627775) (hz : signs s.data.toList = none) (w : World) (hG : Glob.G w) :
    Calls Tryz.prog 12 #[.string s] w fun e w' => e = .returned (.tuple #[.string ⟨#[]⟩, .int .i64 8]) ∧ Below w.heap.size w w' := by
  have hD : utf_Decode.f s = some ([], 8, ((goB s.data.toList).2 : Int)) := by unfold utf_Decode.f; rw [if_pos hs, decode_none hz]
  have HD := Lib.hid hD
  clear hD hz
  go_enter Tryz.func12, Tryz.ntmps12
  go_wp2_with (go_at_call 30; refine (utf_Decode.calls _ _ _ _ _ hG HD.out).mono ?_; rintro e w1 ⟨v, rfl, hR, hb1⟩; obtain ⟨A, c, rfl⟩ := Kd.R_slice hR)
  go_ret2
  exact ⟨rfl, hb1.trans (((Below.refl w1.heap.size w1).alloc (Nat.le_refl _) _).mono hb1.size)⟩

theorem quote_Double.calls (a0 : ByteArray) (r1 : ByteArray) (r2 : Int) (w : World) (hG : Glob.G w) (h : quote_Double.f a0 = some (r1, r2)) :
    Calls Tryz.prog 12 #[.string a0] w fun e w' => e = .returned (.tuple #[.string r1, .int .i64 r2]) ∧ Below w.heap.size w w' := by
  unfold quote_Double.f at h
  by_cases hs : a0.size ≤ 1099511627775
  · rw [if_pos hs] at h
    obtain ⟨rfl, rfl⟩ := Prod.mk.inj (Option.some.inj h)
    unfold doubleOf
    cases hz : signs a0.data.toList with
    | some zs => exact double_ok a0 zs hs hz w hG
    | none => exact double_bad a0 hs hz w hG
  · rw [if_neg hs] at h; cases h
end Go.Proofs.YtmkdjgmdfhagfaaGreatDoor.Plug

/- YtmkdjgmdfhagfaaGreatDoorFGrommetlaw07Alive: what print.py told of Go functions, for this claim. -/
namespace Go.Proofs.YtmkdjgmdfhagfaaGreatDoor.PX
open Go.RowKit Go.Proofs.YtmkdjgmdfhagfaaGreatDoorW.PrintWords Go.Proofs.YtmkdjgmdfhagfaaGreatDoorW.PrintLast Go.Proofs.YtmkdjgmdfhagfaaGreatDoorW.PrintMore Go.Proofs.YtmkdjgmdfhagfaaGreatDoor Go.Proofs.YtmkdjgmdfhagfaaGreatDoor.Plug
attribute [local go_sem] max2_int min2_int max_two min_two max_three min_three max_four min_four   -- for this text's walks alone
set_option linter.unusedVariables false
set_option linter.unusedSimpArgs false

attribute [local go_sem high] eqA38
/-! ### grommetlaw07_alive: function 16 -/
def grommetlaw07_alive.f  : Option (Bool) := (quote_Read.f (⟨#[39, 105, 116, 39, 39, 115, 39, 32, 120]⟩ : ByteArray)).bind fun bt101 => ((quote_Read.f (⟨#[34, 92, 117, 48, 48, 101, 57, 34]⟩ : ByteArray)).bind fun bt106 => ((quote_Double.f (⟨#[97, 10, 34]⟩ : ByteArray)).bind fun bt111 => (if bt101.1.toList = ([105, 116, 39, 115] : List UInt8) then (if bt101.2.1 = 7 then (if (bt101.2.2.1 == 0 && (bt101.2.2.2 == 0)) = true then (if bt106.1.toList = ([195, 169] : List UInt8) then (if bt106.2.1 = 8 then (if (bt106.2.2.1 == 0 && (bt106.2.2.2 == 0)) = true then (if bt111.1.toList = ([34, 97, 92, 110, 92, 34, 34] : List UInt8) then (some (bt111.2 == 0)) else (some false)) else (some false)) else (some false)) else (some false)) else (some false)) else (some false)) else (some false))))
set_option maxHeartbeats 8000000 in
set_option maxRecDepth 100000 in
theorem grommetlaw07_alive.calls  (r : Bool) (w : World) (hG : Glob.G w) (h : grommetlaw07_alive.f  = some r) :
    Calls Tryz.prog 16 #[] w fun e w' => e = .returned (.bool r) ∧ Below w.heap.size w w' := by
  have hu38 := Tryz.underlying38
  have HB := Aside0.mk (Below.refl w.heap.size w)
  have H : ((quote_Read.f (⟨#[39, 105, 116, 39, 39, 115, 39, 32, 120]⟩ : ByteArray)).bind fun bt101 => ((quote_Read.f (⟨#[34, 92, 117, 48, 48, 101, 57, 34]⟩ : ByteArray)).bind fun bt106 => ((quote_Double.f (⟨#[97, 10, 34]⟩ : ByteArray)).bind fun bt111 => (if bt101.1.toList = ([105, 116, 39, 115] : List UInt8) then (if bt101.2.1 = 7 then (if (bt101.2.2.1 == 0 && (bt101.2.2.2 == 0)) = true then (if bt106.1.toList = ([195, 169] : List UInt8) then (if bt106.2.1 = 8 then (if (bt106.2.2.1 == 0 && (bt106.2.2.2 == 0)) = true then (if bt111.1.toList = ([34, 97, 92, 110, 92, 34, 34] : List UInt8) then (some (bt111.2 == 0)) else (some false)) else (some false)) else (some false)) else (some false)) else (some false)) else (some false)) else (some false))))) = some r := h
  clear h
  replace H := Option.bind_eq_some_iff.mp H
  obtain ⟨⟨t101, t102, t103, t104⟩, A10, H⟩ := H
  replace H : ((quote_Read.f (⟨#[34, 92, 117, 48, 48, 101, 57, 34]⟩ : ByteArray)).bind fun bt106 => ((quote_Double.f (⟨#[97, 10, 34]⟩ : ByteArray)).bind fun bt111 => (if t101.toList = ([105, 116, 39, 115] : List UInt8) then (if t102 = 7 then (if (t103 == 0 && (t104 == 0)) = true then (if bt106.1.toList = ([195, 169] : List UInt8) then (if bt106.2.1 = 8 then (if (bt106.2.2.1 == 0 && (bt106.2.2.2 == 0)) = true then (if bt111.1.toList = ([34, 97, 92, 110, 92, 34, 34] : List UInt8) then (some (bt111.2 == 0)) else (some false)) else (some false)) else (some false)) else (some false)) else (some false)) else (some false)) else (some false)))) = some r := H
  have A1 := Aside0.mk A10
  clear A10
  replace H := Option.bind_eq_some_iff.mp H
  obtain ⟨⟨t106, t107, t108, t109⟩, A20, H⟩ := H
  replace H : ((quote_Double.f (⟨#[97, 10, 34]⟩ : ByteArray)).bind fun bt111 => (if t101.toList = ([105, 116, 39, 115] : List UInt8) then (if t102 = 7 then (if (t103 == 0 && (t104 == 0)) = true then (if t106.toList = ([195, 169] : List UInt8) then (if t107 = 8 then (if (t108 == 0 && (t109 == 0)) = true then (if bt111.1.toList = ([34, 97, 92, 110, 92, 34, 34] : List UInt8) then (some (bt111.2 == 0)) else (some false)) else (some false)) else (some false)) else (some false)) else (some false)) else (some false)) else (some false))) = some r := H
  have A2 := Aside0.mk A20
  clear A20
  replace H := Option.bind_eq_some_iff.mp H
  obtain ⟨⟨t111, t112⟩, A30, H⟩ := H
  replace H : (if t101.toList = ([105, 116, 39, 115] : List UInt8) then (if t102 = 7 then (if (t103 == 0 && (t104 == 0)) = true then (if t106.toList = ([195, 169] : List UInt8) then (if t107 = 8 then (if (t108 == 0 && (t109 == 0)) = true then (if t111.toList = ([34, 97, 92, 110, 92, 34, 34] : List UInt8) then (some (t112 == 0)) else (some false)) else (some false)) else (some false)) else (some false)) else (some false)) else (some false)) else (some false)) = some r := H
  have A3 := Aside0.mk A30
  clear A30
  by_cases c4 : t101.toList = ([105, 116, 39, 115] : List UInt8)
  · rw [if_pos c4] at H
    have c4b0 : (t101.toList == ([105, 116, 39, 115] : List UInt8)) = true := beq_iff_eq.mpr c4
    have c4b1 : (t101.toList != ([105, 116, 39, 115] : List UInt8)) = false := bne_eq_false_iff_eq.mpr c4
    clear c4
    by_cases c5 : t102 = 7
    · rw [if_pos c5] at H
      have c5b0 : (t102 == 7) = true := beq_iff_eq.mpr c5
      have c5b1 : (t102 != 7) = false := bne_eq_false_iff_eq.mpr c5
      clear c5
      by_cases c6 : (t103 == 0 && (t104 == 0)) = true
      · rw [if_pos c6] at H
        have c6b0 : (t103 == 0 && (t104 == 0)) = true := c6
        (try (have c6b1 : decide (t103 = 0 && (t104 == 0)) = true := by simpa using c6))
        (try (have c6b2 : (t103 == 0 && (t104 == 0)) = true := by simpa using c6))
        clear c6
        by_cases c7 : t106.toList = ([195, 169] : List UInt8)
        · rw [if_pos c7] at H
          have c7b0 : (t106.toList == ([195, 169] : List UInt8)) = true := beq_iff_eq.mpr c7
          have c7b1 : (t106.toList != ([195, 169] : List UInt8)) = false := bne_eq_false_iff_eq.mpr c7
          clear c7
          by_cases c8 : t107 = 8
          · rw [if_pos c8] at H
            have c8b0 : (t107 == 8) = true := beq_iff_eq.mpr c8
            have c8b1 : (t107 != 8) = false := bne_eq_false_iff_eq.mpr c8
            clear c8
            by_cases c9 : (t108 == 0 && (t109 == 0)) = true
            · rw [if_pos c9] at H
              have c9b0 : (t108 == 0 && (t109 == 0)) = true := c9
              (try (have c9b1 : decide (t108 = 0 && (t109 == 0)) = true := by simpa using c9))
              (try (have c9b2 : (t108 == 0 && (t109 == 0)) = true := by simpa using c9))
              clear c9
              by_cases c10 : t111.toList = ([34, 97, 92, 110, 92, 34, 34] : List UInt8)
              · rw [if_pos c10] at H
                have c10b0 : (t111.toList == ([34, 97, 92, 110, 92, 34, 34] : List UInt8)) = true := beq_iff_eq.mpr c10
                have c10b1 : (t111.toList != ([34, 97, 92, 110, 92, 34, 34] : List UInt8)) = false := bne_eq_false_iff_eq.mpr c10
                clear c10
                obtain rfl := Option.some.inj H
                go_enter Tryz.func16, Tryz.ntmps16
                go_wp2_with (first | ((with_reducible refine gate_callee (f := 38) rfl ?_); refine goesL_ (some 10) rfl rfl Tryz.func38 (by kernel_rfl) rfl #[.string (⟨#[39, 105, 116, 39, 39, 115, 39, 32, 120]⟩ : ByteArray)] rfl (by (try simp only [List.map_toArray, List.map_cons, List.map_nil]); first | done | rfl | (simp only [List.length_drop, List.length_take]; rfl)) ?_; (with_reducible refine (quote_Read.calls (⟨#[39, 105, 116, 39, 39, 115, 39, 32, 120]⟩ : ByteArray) t101 t102 t103 t104 _ (hG.below (by first | ((repeat (first | (with_reducible first | exact HB.out | apply below_alloc | apply pw_below_drewN | apply below_drew1 | (refine Glob.below_set ?_ (by assumption) _ _ _)) | exact HB.out)); done) | (refine Drawn0.below ?_; repeat (first | exact Drawn0.refl _ | assumption | apply Drawn0.step)))) A1.out).mono ?_); rintro e w11 ⟨rfl, hb⟩; refine ⟨_, rfl, ?_⟩; have n0_ := Aside0.mk (below_step (by repeat (first | (with_reducible first | exact HB.out | apply below_alloc | apply pw_below_drewN | apply below_drew1) | exact HB.out)) hb); clear HB; have HB := n0_; clear n0_; (try clear hb); (try clear hb2); (try clear hk); (try clear hi)) | ((with_reducible refine gate_dst (N := 3) rfl ?_); refine box_event ?hg (N := 3) ?hd (cs := #[.int .i64 0, .int .i64 0]) (t := 38) ?hr ?_; (case hd => rfl); (case hg => rfl); (case hr => first | (go_simp; done) | (go_simp; rfl)); intro gb105 hg w12 hbox hb; have n0_ := Aside0.mk (below_step (by repeat (first | (with_reducible first | exact HB.out | apply below_alloc | apply pw_below_drewN | apply below_drew1) | exact HB.out)) hb); have n1_ := Aside0.mk (hbox); have n2_ := Aside0.mk ((by rw [hg]; exact (below_size (by repeat (first | (with_reducible first | exact HB.out | apply below_alloc | apply pw_below_drewN | apply below_drew1) | exact HB.out))) : w.heap.size ≤ gb105)); have n3_ := Aside0.mk ((by rw [hg]; exact (below_size (by repeat (first | (with_reducible first | exact HB.out | apply below_alloc | apply pw_below_drewN | apply below_drew1) | exact HB.out))) : w.heap.size ≤ gb105)); clear HB; have HB := n0_; have BK105 := n1_; have GW105 := n2_; have GE105 := n3_; clear n0_ n1_ n2_ n3_; clear hb hbox hg; have hcz13_0 : w12.cell? ⟨gb105, 0, none⟩ = some (.int .i64 0) := (blk_cell BK105.out 0).trans rfl; have hcz13_1 : w12.cell? ⟨gb105, 1, none⟩ = some (.int .i64 0) := (blk_cell BK105.out 1).trans rfl; have hfz13_0 := blk_frozen BK105.out 0; have hfz13_1 := blk_frozen BK105.out 1) | ((with_reducible refine gate_callee (f := 38) rfl ?_); refine goesL_ (some 15) rfl rfl Tryz.func38 (by kernel_rfl) rfl #[.string (⟨#[34, 92, 117, 48, 48, 101, 57, 34]⟩ : ByteArray)] rfl (by (try simp only [List.map_toArray, List.map_cons, List.map_nil]); first | done | rfl | (simp only [List.length_drop, List.length_take]; rfl)) ?_; (with_reducible refine (quote_Read.calls (⟨#[34, 92, 117, 48, 48, 101, 57, 34]⟩ : ByteArray) t106 t107 t108 t109 _ (hG.below (by first | ((repeat (first | (with_reducible first | exact HB.out | apply below_alloc | apply pw_below_drewN | apply below_drew1 | (refine Glob.below_set ?_ (by assumption) _ _ _)) | exact HB.out)); done) | (refine Drawn0.below ?_; repeat (first | exact Drawn0.refl _ | assumption | apply Drawn0.step)))) A2.out).mono ?_); rintro e w14 ⟨rfl, hb⟩; refine ⟨_, rfl, ?_⟩; have n0_ := Aside0.mk (blk_below (g := gb105) (o := .cells #[.int .i64 t103, .int .i64 t104] 38 (0, 0)) (by (with_reducible repeat (first | refine blk_drewN ?_ _ | refine blk_drew ?_ | refine blk_alloc ?_ _)); refine blk_put (cs := #[.int .i64 t103, .int .i64 0]) ?_ 1 _ rfl; (with_reducible repeat (first | refine blk_drewN ?_ _ | refine blk_drew ?_ | refine blk_alloc ?_ _)); refine blk_put (cs := #[.int .i64 0, .int .i64 0]) ?_ 0 _ rfl; (with_reducible repeat (first | refine blk_drewN ?_ _ | refine blk_drew ?_ | refine blk_alloc ?_ _)); exact BK105.out) hb); have n1_ := Aside0.mk (below_step (by repeat (first | (with_reducible first | exact HB.out | apply below_alloc | apply pw_below_drewN | apply below_drew1 | refine below_set ?_ GE105.out) | exact HB.out)) hb); clear BK105; clear HB; have BK105 := n0_; have HB := n1_; clear n0_ n1_; (try clear hb); (try clear hb2); (try clear hk); (try clear hi)) | ((with_reducible refine gate_dst (N := 6) rfl ?_); refine box_event ?hg (N := 6) ?hd (cs := #[.int .i64 0, .int .i64 0]) (t := 38) ?hr ?_; (case hd => rfl); (case hg => rfl); (case hr => first | (go_simp; done) | (go_simp; rfl)); intro gb110 hg w15 hbox hb; have n0_ := Aside0.mk (blk_below (g := gb105) (o := .cells #[.int .i64 t103, .int .i64 t104] 38 (0, 0)) (by (with_reducible repeat (first | refine blk_drewN ?_ _ | refine blk_drew ?_ | refine blk_alloc ?_ _)); exact BK105.out) hb); have n1_ := Aside0.mk (below_step (by repeat (first | (with_reducible first | exact HB.out | apply below_alloc | apply pw_below_drewN | apply below_drew1 | refine below_set ?_ GE105.out) | exact HB.out)) hb); have n2_ := Aside0.mk (hbox); have n3_ := Aside0.mk ((by rw [hg]; exact (below_size (by repeat (first | (with_reducible first | exact HB.out | apply below_alloc | apply pw_below_drewN | apply below_drew1 | refine below_set ?_ GE105.out) | exact HB.out))) : w.heap.size ≤ gb110)); have n4_ := Aside0.mk ((by rw [hg]; exact (below_size (by repeat (first | (with_reducible first | exact HB.out | apply below_alloc | apply pw_below_drewN | apply below_drew1 | refine below_set ?_ GE105.out) | exact HB.out))) : w.heap.size ≤ gb110)); have n5_ := Aside0.mk ((by rw [hg]; exact Nat.ne_of_lt (blk_lt (g := gb105) (o := .cells #[.int .i64 t103, .int .i64 t104] 38 (0, 0)) (by (with_reducible repeat (first | refine blk_drewN ?_ _ | refine blk_drew ?_ | refine blk_alloc ?_ _)); exact BK105.out)) : gb105 ≠ gb110)); have n6_ := Aside0.mk ((by rw [hg]; exact Nat.ne_of_gt (blk_lt (g := gb105) (o := .cells #[.int .i64 t103, .int .i64 t104] 38 (0, 0)) (by (with_reducible repeat (first | refine blk_drewN ?_ _ | refine blk_drew ?_ | refine blk_alloc ?_ _)); exact BK105.out)) : gb110 ≠ gb105)); clear BK105; clear HB; have BK105 := n0_; have HB := n1_; have BK110 := n2_; have GW110 := n3_; have GE110 := n4_; have NB105_110 := n5_; have NB110_105 := n6_; clear n0_ n1_ n2_ n3_ n4_ n5_ n6_; clear hb hbox hg; have hnb16 := NB110_105.out; have hnc16 := NB105_110.out; have hcz17_0 : w15.cell? ⟨gb110, 0, none⟩ = some (.int .i64 0) := (blk_cell BK110.out 0).trans rfl; have hcz17_1 : w15.cell? ⟨gb110, 1, none⟩ = some (.int .i64 0) := (blk_cell BK110.out 1).trans rfl; have hfz17_0 := blk_frozen BK110.out 0; have hfz17_1 := blk_frozen BK110.out 1) | ((with_reducible refine gate_callee (f := 12) rfl ?_); refine goesL_ (some 20) rfl rfl Tryz.func12 (by kernel_rfl) rfl #[.string (⟨#[97, 10, 34]⟩ : ByteArray)] rfl (by (try simp only [List.map_toArray, List.map_cons, List.map_nil]); first | done | rfl | (simp only [List.length_drop, List.length_take]; rfl)) ?_; (with_reducible refine (quote_Double.calls (⟨#[97, 10, 34]⟩ : ByteArray) t111 t112 _ (hG.below (by first | ((repeat (first | (with_reducible first | exact HB.out | apply below_alloc | apply pw_below_drewN | apply below_drew1 | (refine Glob.below_set ?_ (by assumption) _ _ _)) | exact HB.out)); done) | (refine Drawn0.below ?_; repeat (first | exact Drawn0.refl _ | assumption | apply Drawn0.step)))) A3.out).mono ?_); rintro e w18 ⟨rfl, hb⟩; refine ⟨_, rfl, ?_⟩; have n0_ := Aside0.mk (blk_below (g := gb105) (o := .cells #[.int .i64 t103, .int .i64 t104] 38 (0, 0)) (by (with_reducible repeat (first | refine blk_drewN ?_ _ | refine blk_drew ?_ | refine blk_alloc ?_ _)); refine blk_far ?_ NB105_110.out _; (with_reducible repeat (first | refine blk_drewN ?_ _ | refine blk_drew ?_ | refine blk_alloc ?_ _)); refine blk_far ?_ NB105_110.out _; (with_reducible repeat (first | refine blk_drewN ?_ _ | refine blk_drew ?_ | refine blk_alloc ?_ _)); exact BK105.out) hb); have n1_ := Aside0.mk (blk_below (g := gb110) (o := .cells #[.int .i64 t108, .int .i64 t109] 38 (0, 0)) (by (with_reducible repeat (first | refine blk_drewN ?_ _ | refine blk_drew ?_ | refine blk_alloc ?_ _)); refine blk_put (cs := #[.int .i64 t108, .int .i64 0]) ?_ 1 _ rfl; (with_reducible repeat (first | refine blk_drewN ?_ _ | refine blk_drew ?_ | refine blk_alloc ?_ _)); refine blk_put (cs := #[.int .i64 0, .int .i64 0]) ?_ 0 _ rfl; (with_reducible repeat (first | refine blk_drewN ?_ _ | refine blk_drew ?_ | refine blk_alloc ?_ _)); exact BK110.out) hb); have n2_ := Aside0.mk (below_step (by repeat (first | (with_reducible first | exact HB.out | apply below_alloc | apply pw_below_drewN | apply below_drew1 | refine below_set ?_ GE105.out | refine below_set ?_ GE110.out) | exact HB.out)) hb); clear BK105; clear BK110; clear HB; have BK105 := n0_; have BK110 := n1_; have HB := n2_; clear n0_ n1_ n2_; (try clear hb); (try clear hb2); (try clear hk); (try clear hi); have hcz19_0 : w18.cell? ⟨gb105, 0, none⟩ = some (.int .i64 t103) := (blk_cell BK105.out 0).trans rfl; have hcz19_1 : w18.cell? ⟨gb105, 1, none⟩ = some (.int .i64 t104) := (blk_cell BK105.out 1).trans rfl; have hfz19_0 := blk_frozen BK105.out 0; have hfz19_1 := blk_frozen BK105.out 1; have hcz20_0 : w18.cell? ⟨gb110, 0, none⟩ = some (.int .i64 t108) := (blk_cell BK110.out 0).trans rfl; have hcz20_1 : w18.cell? ⟨gb110, 1, none⟩ = some (.int .i64 t109) := (blk_cell BK110.out 1).trans rfl; have hfz20_0 := blk_frozen BK110.out 0; have hfz20_1 := blk_frozen BK110.out 1))
                go_ret
                exact ⟨by first | rfl | (simp [errW_none, errW_some] <;> rfl) | (simp [*, errW_none, errW_some] <;> rfl), by repeat (first | (with_reducible first | exact HB.out | apply below_alloc | apply pw_below_drewN | apply below_drew1 | refine below_set ?_ GE105.out | refine below_set ?_ GE110.out) | exact HB.out)⟩
              · rw [if_neg c10] at H
                have c10b0 : (t111.toList == ([34, 97, 92, 110, 92, 34, 34] : List UInt8)) = false := beq_eq_false_iff_ne.mpr c10
                have c10b1 : (t111.toList != ([34, 97, 92, 110, 92, 34, 34] : List UInt8)) = true := bne_iff_ne.mpr c10
                obtain rfl := Option.some.inj H
                go_enter Tryz.func16, Tryz.ntmps16
                go_wp2_with (first | ((with_reducible refine gate_callee (f := 38) rfl ?_); refine goesL_ (some 10) rfl rfl Tryz.func38 (by kernel_rfl) rfl #[.string (⟨#[39, 105, 116, 39, 39, 115, 39, 32, 120]⟩ : ByteArray)] rfl (by (try simp only [List.map_toArray, List.map_cons, List.map_nil]); first | done | rfl | (simp only [List.length_drop, List.length_take]; rfl)) ?_; (with_reducible refine (quote_Read.calls (⟨#[39, 105, 116, 39, 39, 115, 39, 32, 120]⟩ : ByteArray) t101 t102 t103 t104 _ (hG.below (by first | ((repeat (first | (with_reducible first | exact HB.out | apply below_alloc | apply pw_below_drewN | apply below_drew1 | (refine Glob.below_set ?_ (by assumption) _ _ _)) | exact HB.out)); done) | (refine Drawn0.below ?_; repeat (first | exact Drawn0.refl _ | assumption | apply Drawn0.step)))) A1.out).mono ?_); rintro e w21 ⟨rfl, hb⟩; refine ⟨_, rfl, ?_⟩; have n0_ := Aside0.mk (below_step (by repeat (first | (with_reducible first | exact HB.out | apply below_alloc | apply pw_below_drewN | apply below_drew1) | exact HB.out)) hb); clear HB; have HB := n0_; clear n0_; (try clear hb); (try clear hb2); (try clear hk); (try clear hi)) | ((with_reducible refine gate_dst (N := 3) rfl ?_); refine box_event ?hg (N := 3) ?hd (cs := #[.int .i64 0, .int .i64 0]) (t := 38) ?hr ?_; (case hd => rfl); (case hg => rfl); (case hr => first | (go_simp; done) | (go_simp; rfl)); intro gb105 hg w22 hbox hb; have n0_ := Aside0.mk (below_step (by repeat (first | (with_reducible first | exact HB.out | apply below_alloc | apply pw_below_drewN | apply below_drew1) | exact HB.out)) hb); have n1_ := Aside0.mk (hbox); have n2_ := Aside0.mk ((by rw [hg]; exact (below_size (by repeat (first | (with_reducible first | exact HB.out | apply below_alloc | apply pw_below_drewN | apply below_drew1) | exact HB.out))) : w.heap.size ≤ gb105)); have n3_ := Aside0.mk ((by rw [hg]; exact (below_size (by repeat (first | (with_reducible first | exact HB.out | apply below_alloc | apply pw_below_drewN | apply below_drew1) | exact HB.out))) : w.heap.size ≤ gb105)); clear HB; have HB := n0_; have BK105 := n1_; have GW105 := n2_; have GE105 := n3_; clear n0_ n1_ n2_ n3_; clear hb hbox hg; have hcz23_0 : w22.cell? ⟨gb105, 0, none⟩ = some (.int .i64 0) := (blk_cell BK105.out 0).trans rfl; have hcz23_1 : w22.cell? ⟨gb105, 1, none⟩ = some (.int .i64 0) := (blk_cell BK105.out 1).trans rfl; have hfz23_0 := blk_frozen BK105.out 0; have hfz23_1 := blk_frozen BK105.out 1) | ((with_reducible refine gate_callee (f := 38) rfl ?_); refine goesL_ (some 15) rfl rfl Tryz.func38 (by kernel_rfl) rfl #[.string (⟨#[34, 92, 117, 48, 48, 101, 57, 34]⟩ : ByteArray)] rfl (by (try simp only [List.map_toArray, List.map_cons, List.map_nil]); first | done | rfl | (simp only [List.length_drop, List.length_take]; rfl)) ?_; (with_reducible refine (quote_Read.calls (⟨#[34, 92, 117, 48, 48, 101, 57, 34]⟩ : ByteArray) t106 t107 t108 t109 _ (hG.below (by first | ((repeat (first | (with_reducible first | exact HB.out | apply below_alloc | apply pw_below_drewN | apply below_drew1 | (refine Glob.below_set ?_ (by assumption) _ _ _)) | exact HB.out)); done) | (refine Drawn0.below ?_; repeat (first | exact Drawn0.refl _ | assumption | apply Drawn0.step)))) A2.out).mono ?_); rintro e w24 ⟨rfl, hb⟩; refine ⟨_, rfl, ?_⟩; have n0_ := Aside0.mk (blk_below (g := gb105) (o := .cells #[.int .i64 t103, .int .i64 t104] 38 (0, 0)) (by (with_reducible repeat (first | refine blk_drewN ?_ _ | refine blk_drew ?_ | refine blk_alloc ?_ _)); refine blk_put (cs := #[.int .i64 t103, .int .i64 0]) ?_ 1 _ rfl; (with_reducible repeat (first | refine blk_drewN ?_ _ | refine blk_drew ?_ | refine blk_alloc ?_ _)); refine blk_put (cs := #[.int .i64 0, .int .i64 0]) ?_ 0 _ rfl; (with_reducible repeat (first | refine blk_drewN ?_ _ | refine blk_drew ?_ | refine blk_alloc ?_ _)); exact BK105.out) hb); have n1_ := Aside0.mk (below_step (by repeat (first | (with_reducible first | exact HB.out | apply below_alloc | apply pw_below_drewN | apply below_drew1 | refine below_set ?_ GE105.out) | exact HB.out)) hb); clear BK105; clear HB; have BK105 := n0_; have HB := n1_; clear n0_ n1_; (try clear hb); (try clear hb2); (try clear hk); (try clear hi)) | ((with_reducible refine gate_dst (N := 6) rfl ?_); refine box_event ?hg (N := 6) ?hd (cs := #[.int .i64 0, .int .i64 0]) (t := 38) ?hr ?_; (case hd => rfl); (case hg => rfl); (case hr => first | (go_simp; done) | (go_simp; rfl)); intro gb110 hg w25 hbox hb; have n0_ := Aside0.mk (blk_below (g := gb105) (o := .cells #[.int .i64 t103, .int .i64 t104] 38 (0, 0)) (by (with_reducible repeat (first | refine blk_drewN ?_ _ | refine blk_drew ?_ | refine blk_alloc ?_ _)); exact BK105.out) hb); have n1_ := Aside0.mk (below_step (by repeat (first | (with_reducible first | exact HB.out | apply below_alloc | apply pw_below_drewN | apply below_drew1 | refine below_set ?_ GE105.out) | exact HB.out)) hb); have n2_ := Aside0.mk (hbox); have n3_ := Aside0.mk ((by rw [hg]; exact (below_size (by repeat (first | (with_reducible first | exact HB.out | apply below_alloc | apply pw_below_drewN | apply below_drew1 | refine below_set ?_ GE105.out) | exact HB.out))) : w.heap.size ≤ gb110)); have n4_ := Aside0.mk ((by rw [hg]; exact (below_size (by repeat (first | (with_reducible first | exact HB.out | apply below_alloc | apply pw_below_drewN | apply below_drew1 | refine below_set ?_ GE105.out) | exact HB.out))) : w.heap.size ≤ gb110)); have n5_ := Aside0.mk ((by rw [hg]; exact Nat.ne_of_lt (blk_lt (g := gb105) (o := .cells #[.int .i64 t103, .int .i64 t104] 38 (0, 0)) (by (with_reducible repeat (first | refine blk_drewN ?_ _ | refine blk_drew ?_ | refine blk_alloc ?_ _)); exact BK105.out)) : gb105 ≠ gb110)); have n6_ := Aside0.mk ((by rw [hg]; exact Nat.ne_of_gt (blk_lt (g := gb105) (o := .cells #[.int .i64 t103, .int .i64 t104] 38 (0, 0)) (by (with_reducible repeat (first | refine blk_drewN ?_ _ | refine blk_drew ?_ | refine blk_alloc ?_ _)); exact BK105.out)) : gb110 ≠ gb105)); clear BK105; clear HB; have BK105 := n0_; have HB := n1_; have BK110 := n2_; have GW110 := n3_; have GE110 := n4_; have NB105_110 := n5_; have NB110_105 := n6_; clear n0_ n1_ n2_ n3_ n4_ n5_ n6_; clear hb hbox hg; have hnb26 := NB110_105.out; have hnc26 := NB105_110.out; have hcz27_0 : w25.cell? ⟨gb110, 0, none⟩ = some (.int .i64 0) := (blk_cell BK110.out 0).trans rfl; have hcz27_1 : w25.cell? ⟨gb110, 1, none⟩ = some (.int .i64 0) := (blk_cell BK110.out 1).trans rfl; have hfz27_0 := blk_frozen BK110.out 0; have hfz27_1 := blk_frozen BK110.out 1) | ((with_reducible refine gate_callee (f := 12) rfl ?_); refine goesL_ (some 20) rfl rfl Tryz.func12 (by kernel_rfl) rfl #[.string (⟨#[97, 10, 34]⟩ : ByteArray)] rfl (by (try simp only [List.map_toArray, List.map_cons, List.map_nil]); first | done | rfl | (simp only [List.length_drop, List.length_take]; rfl)) ?_; (with_reducible refine (quote_Double.calls (⟨#[97, 10, 34]⟩ : ByteArray) t111 t112 _ (hG.below (by first | ((repeat (first | (with_reducible first | exact HB.out | apply below_alloc | apply pw_below_drewN | apply below_drew1 | (refine Glob.below_set ?_ (by assumption) _ _ _)) | exact HB.out)); done) | (refine Drawn0.below ?_; repeat (first | exact Drawn0.refl _ | assumption | apply Drawn0.step)))) A3.out).mono ?_); rintro e w28 ⟨rfl, hb⟩; refine ⟨_, rfl, ?_⟩; have n0_ := Aside0.mk (blk_below (g := gb105) (o := .cells #[.int .i64 t103, .int .i64 t104] 38 (0, 0)) (by (with_reducible repeat (first | refine blk_drewN ?_ _ | refine blk_drew ?_ | refine blk_alloc ?_ _)); refine blk_far ?_ NB105_110.out _; (with_reducible repeat (first | refine blk_drewN ?_ _ | refine blk_drew ?_ | refine blk_alloc ?_ _)); refine blk_far ?_ NB105_110.out _; (with_reducible repeat (first | refine blk_drewN ?_ _ | refine blk_drew ?_ | refine blk_alloc ?_ _)); exact BK105.out) hb); have n1_ := Aside0.mk (blk_below (g := gb110) (o := .cells #[.int .i64 t108, .int .i64 t109] 38 (0, 0)) (by (with_reducible repeat (first | refine blk_drewN ?_ _ | refine blk_drew ?_ | refine blk_alloc ?_ _)); refine blk_put (cs := #[.int .i64 t108, .int .i64 0]) ?_ 1 _ rfl; (with_reducible repeat (first | refine blk_drewN ?_ _ | refine blk_drew ?_ | refine blk_alloc ?_ _)); refine blk_put (cs := #[.int .i64 0, .int .i64 0]) ?_ 0 _ rfl; (with_reducible repeat (first | refine blk_drewN ?_ _ | refine blk_drew ?_ | refine blk_alloc ?_ _)); exact BK110.out) hb); have n2_ := Aside0.mk (below_step (by repeat (first | (with_reducible first | exact HB.out | apply below_alloc | apply pw_below_drewN | apply below_drew1 | refine below_set ?_ GE105.out | refine below_set ?_ GE110.out) | exact HB.out)) hb); clear BK105; clear BK110; clear HB; have BK105 := n0_; have BK110 := n1_; have HB := n2_; clear n0_ n1_ n2_; (try clear hb); (try clear hb2); (try clear hk); (try clear hi); have hcz29_0 : w28.cell? ⟨gb105, 0, none⟩ = some (.int .i64 t103) := (blk_cell BK105.out 0).trans rfl; have hcz29_1 : w28.cell? ⟨gb105, 1, none⟩ = some (.int .i64 t104) := (blk_cell BK105.out 1).trans rfl; have hfz29_0 := blk_frozen BK105.out 0; have hfz29_1 := blk_frozen BK105.out 1; have hcz30_0 : w28.cell? ⟨gb110, 0, none⟩ = some (.int .i64 t108) := (blk_cell BK110.out 0).trans rfl; have hcz30_1 : w28.cell? ⟨gb110, 1, none⟩ = some (.int .i64 t109) := (blk_cell BK110.out 1).trans rfl; have hfz30_0 := blk_frozen BK110.out 0; have hfz30_1 := blk_frozen BK110.out 1))
                go_ret
                exact ⟨by first | rfl | (simp [errW_none, errW_some] <;> rfl) | (simp [*, errW_none, errW_some] <;> rfl), by repeat (first | (with_reducible first | exact HB.out | apply below_alloc | apply pw_below_drewN | apply below_drew1 | refine below_set ?_ GE105.out | refine below_set ?_ GE110.out) | exact HB.out)⟩
            · rw [if_neg c9] at H
              have c9b0 : (t108 == 0 && (t109 == 0)) = false := by simpa using c9
              (try (have c9b1 : decide (t108 = 0 && (t109 == 0)) = false := by simpa using c9))
              (try (have c9b2 : (t108 == 0 && (t109 == 0)) = false := by simpa using c9))
              (try (have c9b3 : ¬ (t108 = 0 && (t109 == 0)) := by simpa using c9))
              clear c9
              obtain rfl := Option.some.inj H
              go_enter Tryz.func16, Tryz.ntmps16
              go_wp2_with (first | ((with_reducible refine gate_callee (f := 38) rfl ?_); refine goesL_ (some 10) rfl rfl Tryz.func38 (by kernel_rfl) rfl #[.string (⟨#[39, 105, 116, 39, 39, 115, 39, 32, 120]⟩ : ByteArray)] rfl (by (try simp only [List.map_toArray, List.map_cons, List.map_nil]); first | done | rfl | (simp only [List.length_drop, List.length_take]; rfl)) ?_; (with_reducible refine (quote_Read.calls (⟨#[39, 105, 116, 39, 39, 115, 39, 32, 120]⟩ : ByteArray) t101 t102 t103 t104 _ (hG.below (by first | ((repeat (first | (with_reducible first | exact HB.out | apply below_alloc | apply pw_below_drewN | apply below_drew1 | (refine Glob.below_set ?_ (by assumption) _ _ _)) | exact HB.out)); done) | (refine Drawn0.below ?_; repeat (first | exact Drawn0.refl _ | assumption | apply Drawn0.step)))) A1.out).mono ?_); rintro e w31 ⟨rfl, hb⟩; refine ⟨_, rfl, ?_⟩; have n0_ := Aside0.mk (below_step (by repeat (first | (with_reducible first | exact HB.out | apply below_alloc | apply pw_below_drewN | apply below_drew1) | exact HB.out)) hb); clear HB; have HB := n0_; clear n0_; (try clear hb); (try clear hb2); (try clear hk); (try clear hi)) | ((with_reducible refine gate_dst (N := 3) rfl ?_); refine box_event ?hg (N := 3) ?hd (cs := #[.int .i64 0, .int .i64 0]) (t := 38) ?hr ?_; (case hd => rfl); (case hg => rfl); (case hr => first | (go_simp; done) | (go_simp; rfl)); intro gb105 hg w32 hbox hb; have n0_ := Aside0.mk (below_step (by repeat (first | (with_reducible first | exact HB.out | apply below_alloc | apply pw_below_drewN | apply below_drew1) | exact HB.out)) hb); have n1_ := Aside0.mk (hbox); have n2_ := Aside0.mk ((by rw [hg]; exact (below_size (by repeat (first | (with_reducible first | exact HB.out | apply below_alloc | apply pw_below_drewN | apply below_drew1) | exact HB.out))) : w.heap.size ≤ gb105)); have n3_ := Aside0.mk ((by rw [hg]; exact (below_size (by repeat (first | (with_reducible first | exact HB.out | apply below_alloc | apply pw_below_drewN | apply below_drew1) | exact HB.out))) : w.heap.size ≤ gb105)); clear HB; have HB := n0_; have BK105 := n1_; have GW105 := n2_; have GE105 := n3_; clear n0_ n1_ n2_ n3_; clear hb hbox hg; have hcz33_0 : w32.cell? ⟨gb105, 0, none⟩ = some (.int .i64 0) := (blk_cell BK105.out 0).trans rfl; have hcz33_1 : w32.cell? ⟨gb105, 1, none⟩ = some (.int .i64 0) := (blk_cell BK105.out 1).trans rfl; have hfz33_0 := blk_frozen BK105.out 0; have hfz33_1 := blk_frozen BK105.out 1) | ((with_reducible refine gate_callee (f := 38) rfl ?_); refine goesL_ (some 15) rfl rfl Tryz.func38 (by kernel_rfl) rfl #[.string (⟨#[34, 92, 117, 48, 48, 101, 57, 34]⟩ : ByteArray)] rfl (by (try simp only [List.map_toArray, List.map_cons, List.map_nil]); first | done | rfl | (simp only [List.length_drop, List.length_take]; rfl)) ?_; (with_reducible refine (quote_Read.calls (⟨#[34, 92, 117, 48, 48, 101, 57, 34]⟩ : ByteArray) t106 t107 t108 t109 _ (hG.below (by first | ((repeat (first | (with_reducible first | exact HB.out | apply below_alloc | apply pw_below_drewN | apply below_drew1 | (refine Glob.below_set ?_ (by assumption) _ _ _)) | exact HB.out)); done) | (refine Drawn0.below ?_; repeat (first | exact Drawn0.refl _ | assumption | apply Drawn0.step)))) A2.out).mono ?_); rintro e w34 ⟨rfl, hb⟩; refine ⟨_, rfl, ?_⟩; have n0_ := Aside0.mk (blk_below (g := gb105) (o := .cells #[.int .i64 t103, .int .i64 t104] 38 (0, 0)) (by (with_reducible repeat (first | refine blk_drewN ?_ _ | refine blk_drew ?_ | refine blk_alloc ?_ _)); refine blk_put (cs := #[.int .i64 t103, .int .i64 0]) ?_ 1 _ rfl; (with_reducible repeat (first | refine blk_drewN ?_ _ | refine blk_drew ?_ | refine blk_alloc ?_ _)); refine blk_put (cs := #[.int .i64 0, .int .i64 0]) ?_ 0 _ rfl; (with_reducible repeat (first | refine blk_drewN ?_ _ | refine blk_drew ?_ | refine blk_alloc ?_ _)); exact BK105.out) hb); have n1_ := Aside0.mk (below_step (by repeat (first | (with_reducible first | exact HB.out | apply below_alloc | apply pw_below_drewN | apply below_drew1 | refine below_set ?_ GE105.out) | exact HB.out)) hb); clear BK105; clear HB; have BK105 := n0_; have HB := n1_; clear n0_ n1_; (try clear hb); (try clear hb2); (try clear hk); (try clear hi)) | ((with_reducible refine gate_dst (N := 6) rfl ?_); refine box_event ?hg (N := 6) ?hd (cs := #[.int .i64 0, .int .i64 0]) (t := 38) ?hr ?_; (case hd => rfl); (case hg => rfl); (case hr => first | (go_simp; done) | (go_simp; rfl)); intro gb110 hg w35 hbox hb; have n0_ := Aside0.mk (blk_below (g := gb105) (o := .cells #[.int .i64 t103, .int .i64 t104] 38 (0, 0)) (by (with_reducible repeat (first | refine blk_drewN ?_ _ | refine blk_drew ?_ | refine blk_alloc ?_ _)); exact BK105.out) hb); have n1_ := Aside0.mk (below_step (by repeat (first | (with_reducible first | exact HB.out | apply below_alloc | apply pw_below_drewN | apply below_drew1 | refine below_set ?_ GE105.out) | exact HB.out)) hb); have n2_ := Aside0.mk (hbox); have n3_ := Aside0.mk ((by rw [hg]; exact (below_size (by repeat (first | (with_reducible first | exact HB.out | apply below_alloc | apply pw_below_drewN | apply below_drew1 | refine below_set ?_ GE105.out) | exact HB.out))) : w.heap.size ≤ gb110)); have n4_ := Aside0.mk ((by rw [hg]; exact (below_size (by repeat (first | (with_reducible first | exact HB.out | apply below_alloc | apply pw_below_drewN | apply below_drew1 | refine below_set ?_ GE105.out) | exact HB.out))) : w.heap.size ≤ gb110)); have n5_ := Aside0.mk ((by rw [hg]; exact Nat.ne_of_lt (blk_lt (g := gb105) (o := .cells #[.int .i64 t103, .int .i64 t104] 38 (0, 0)) (by (with_reducible repeat (first | refine blk_drewN ?_ _ | refine blk_drew ?_ | refine blk_alloc ?_ _)); exact BK105.out)) : gb105 ≠ gb110)); have n6_ := Aside0.mk ((by rw [hg]; exact Nat.ne_of_gt (blk_lt (g := gb105) (o := .cells #[.int .i64 t103, .int .i64 t104] 38 (0, 0)) (by (with_reducible repeat (first | refine blk_drewN ?_ _ | refine blk_drew ?_ | refine blk_alloc ?_ _)); exact BK105.out)) : gb110 ≠ gb105)); clear BK105; clear HB; have BK105 := n0_; have HB := n1_; have BK110 := n2_; have GW110 := n3_; have GE110 := n4_; have NB105_110 := n5_; have NB110_105 := n6_; clear n0_ n1_ n2_ n3_ n4_ n5_ n6_; clear hb hbox hg; have hnb36 := NB110_105.out; have hnc36 := NB105_110.out; have hcz37_0 : w35.cell? ⟨gb110, 0, none⟩ = some (.int .i64 0) := (blk_cell BK110.out 0).trans rfl; have hcz37_1 : w35.cell? ⟨gb110, 1, none⟩ = some (.int .i64 0) := (blk_cell BK110.out 1).trans rfl; have hfz37_0 := blk_frozen BK110.out 0; have hfz37_1 := blk_frozen BK110.out 1) | ((with_reducible refine gate_callee (f := 12) rfl ?_); refine goesL_ (some 20) rfl rfl Tryz.func12 (by kernel_rfl) rfl #[.string (⟨#[97, 10, 34]⟩ : ByteArray)] rfl (by (try simp only [List.map_toArray, List.map_cons, List.map_nil]); first | done | rfl | (simp only [List.length_drop, List.length_take]; rfl)) ?_; (with_reducible refine (quote_Double.calls (⟨#[97, 10, 34]⟩ : ByteArray) t111 t112 _ (hG.below (by first | ((repeat (first | (with_reducible first | exact HB.out | apply below_alloc | apply pw_below_drewN | apply below_drew1 | (refine Glob.below_set ?_ (by assumption) _ _ _)) | exact HB.out)); done) | (refine Drawn0.below ?_; repeat (first | exact Drawn0.refl _ | assumption | apply Drawn0.step)))) A3.out).mono ?_); rintro e w38 ⟨rfl, hb⟩; refine ⟨_, rfl, ?_⟩; have n0_ := Aside0.mk (blk_below (g := gb105) (o := .cells #[.int .i64 t103, .int .i64 t104] 38 (0, 0)) (by (with_reducible repeat (first | refine blk_drewN ?_ _ | refine blk_drew ?_ | refine blk_alloc ?_ _)); refine blk_far ?_ NB105_110.out _; (with_reducible repeat (first | refine blk_drewN ?_ _ | refine blk_drew ?_ | refine blk_alloc ?_ _)); refine blk_far ?_ NB105_110.out _; (with_reducible repeat (first | refine blk_drewN ?_ _ | refine blk_drew ?_ | refine blk_alloc ?_ _)); exact BK105.out) hb); have n1_ := Aside0.mk (blk_below (g := gb110) (o := .cells #[.int .i64 t108, .int .i64 t109] 38 (0, 0)) (by (with_reducible repeat (first | refine blk_drewN ?_ _ | refine blk_drew ?_ | refine blk_alloc ?_ _)); refine blk_put (cs := #[.int .i64 t108, .int .i64 0]) ?_ 1 _ rfl; (with_reducible repeat (first | refine blk_drewN ?_ _ | refine blk_drew ?_ | refine blk_alloc ?_ _)); refine blk_put (cs := #[.int .i64 0, .int .i64 0]) ?_ 0 _ rfl; (with_reducible repeat (first | refine blk_drewN ?_ _ | refine blk_drew ?_ | refine blk_alloc ?_ _)); exact BK110.out) hb); have n2_ := Aside0.mk (below_step (by repeat (first | (with_reducible first | exact HB.out | apply below_alloc | apply pw_below_drewN | apply below_drew1 | refine below_set ?_ GE105.out | refine below_set ?_ GE110.out) | exact HB.out)) hb); clear BK105; clear BK110; clear HB; have BK105 := n0_; have BK110 := n1_; have HB := n2_; clear n0_ n1_ n2_; (try clear hb); (try clear hb2); (try clear hk); (try clear hi); have hcz39_0 : w38.cell? ⟨gb105, 0, none⟩ = some (.int .i64 t103) := (blk_cell BK105.out 0).trans rfl; have hcz39_1 : w38.cell? ⟨gb105, 1, none⟩ = some (.int .i64 t104) := (blk_cell BK105.out 1).trans rfl; have hfz39_0 := blk_frozen BK105.out 0; have hfz39_1 := blk_frozen BK105.out 1; have hcz40_0 : w38.cell? ⟨gb110, 0, none⟩ = some (.int .i64 t108) := (blk_cell BK110.out 0).trans rfl; have hcz40_1 : w38.cell? ⟨gb110, 1, none⟩ = some (.int .i64 t109) := (blk_cell BK110.out 1).trans rfl; have hfz40_0 := blk_frozen BK110.out 0; have hfz40_1 := blk_frozen BK110.out 1))
              go_ret
              exact ⟨by first | rfl | (simp [errW_none, errW_some] <;> rfl) | (simp [*, errW_none, errW_some] <;> rfl), by repeat (first | (with_reducible first | exact HB.out | apply below_alloc | apply pw_below_drewN | apply below_drew1 | refine below_set ?_ GE105.out | refine below_set ?_ GE110.out) | exact HB.out)⟩
          · rw [if_neg c8] at H
            have c8b0 : (t107 == 8) = false := beq_eq_false_iff_ne.mpr c8
            have c8b1 : (t107 != 8) = true := bne_iff_ne.mpr c8
            obtain rfl := Option.some.inj H
            go_enter Tryz.func16, Tryz.ntmps16
            go_wp2_with (first | ((with_reducible refine gate_callee (f := 38) rfl ?_); refine goesL_ (some 10) rfl rfl Tryz.func38 (by kernel_rfl) rfl #[.string (⟨#[39, 105, 116, 39, 39, 115, 39, 32, 120]⟩ : ByteArray)] rfl (by (try simp only [List.map_toArray, List.map_cons, List.map_nil]); first | done | rfl | (simp only [List.length_drop, List.length_take]; rfl)) ?_; (with_reducible refine (quote_Read.calls (⟨#[39, 105, 116, 39, 39, 115, 39, 32, 120]⟩ : ByteArray) t101 t102 t103 t104 _ (hG.below (by first | ((repeat (first | (with_reducible first | exact HB.out | apply below_alloc | apply pw_below_drewN | apply below_drew1 | (refine Glob.below_set ?_ (by assumption) _ _ _)) | exact HB.out)); done) | (refine Drawn0.below ?_; repeat (first | exact Drawn0.refl _ | assumption | apply Drawn0.step)))) A1.out).mono ?_); rintro e w41 ⟨rfl, hb⟩; refine ⟨_, rfl, ?_⟩; have n0_ := Aside0.mk (below_step (by repeat (first | (with_reducible first | exact HB.out | apply below_alloc | apply pw_below_drewN | apply below_drew1) | exact HB.out)) hb); clear HB; have HB := n0_; clear n0_; (try clear hb); (try clear hb2); (try clear hk); (try clear hi)) | ((with_reducible refine gate_dst (N := 3) rfl ?_); refine box_event ?hg (N := 3) ?hd (cs := #[.int .i64 0, .int .i64 0]) (t := 38) ?hr ?_; (case hd => rfl); (case hg => rfl); (case hr => first | (go_simp; done) | (go_simp; rfl)); intro gb105 hg w42 hbox hb; have n0_ := Aside0.mk (below_step (by repeat (first | (with_reducible first | exact HB.out | apply below_alloc | apply pw_below_drewN | apply below_drew1) | exact HB.out)) hb); have n1_ := Aside0.mk (hbox); have n2_ := Aside0.mk ((by rw [hg]; exact (below_size (by repeat (first | (with_reducible first | exact HB.out | apply below_alloc | apply pw_below_drewN | apply below_drew1) | exact HB.out))) : w.heap.size ≤ gb105)); have n3_ := Aside0.mk ((by rw [hg]; exact (below_size (by repeat (first | (with_reducible first | exact HB.out | apply below_alloc | apply pw_below_drewN | apply below_drew1) | exact HB.out))) : w.heap.size ≤ gb105)); clear HB; have HB := n0_; have BK105 := n1_; have GW105 := n2_; have GE105 := n3_; clear n0_ n1_ n2_ n3_; clear hb hbox hg; have hcz43_0 : w42.cell? ⟨gb105, 0, none⟩ = some (.int .i64 0) := (blk_cell BK105.out 0).trans rfl; have hcz43_1 : w42.cell? ⟨gb105, 1, none⟩ = some (.int .i64 0) := (blk_cell BK105.out 1).trans rfl; have hfz43_0 := blk_frozen BK105.out 0; have hfz43_1 := blk_frozen BK105.out 1) | ((with_reducible refine gate_callee (f := 38) rfl ?_); refine goesL_ (some 15) rfl rfl Tryz.func38 (by kernel_rfl) rfl #[.string (⟨#[34, 92, 117, 48, 48, 101, 57, 34]⟩ : ByteArray)] rfl (by (try simp only [List.map_toArray, List.map_cons, List.map_nil]); first | done | rfl | (simp only [List.length_drop, List.length_take]; rfl)) ?_; (with_reducible refine (quote_Read.calls (⟨#[34, 92, 117, 48, 48, 101, 57, 34]⟩ : ByteArray) t106 t107 t108 t109 _ (hG.below (by first | ((repeat (first | (with_reducible first | exact HB.out | apply below_alloc | apply pw_below_drewN | apply below_drew1 | (refine Glob.below_set ?_ (by assumption) _ _ _)) | exact HB.out)); done) | (refine Drawn0.below ?_; repeat (first | exact Drawn0.refl _ | assumption | apply Drawn0.step)))) A2.out).mono ?_); rintro e w44 ⟨rfl, hb⟩; refine ⟨_, rfl, ?_⟩; have n0_ := Aside0.mk (blk_below (g := gb105) (o := .cells #[.int .i64 t103, .int .i64 t104] 38 (0, 0)) (by (with_reducible repeat (first | refine blk_drewN ?_ _ | refine blk_drew ?_ | refine blk_alloc ?_ _)); refine blk_put (cs := #[.int .i64 t103, .int .i64 0]) ?_ 1 _ rfl; (with_reducible repeat (first | refine blk_drewN ?_ _ | refine blk_drew ?_ | refine blk_alloc ?_ _)); refine blk_put (cs := #[.int .i64 0, .int .i64 0]) ?_ 0 _ rfl; (with_reducible repeat (first | refine blk_drewN ?_ _ | refine blk_drew ?_ | refine blk_alloc ?_ _)); exact BK105.out) hb); have n1_ := Aside0.mk (below_step (by repeat (first | (with_reducible first | exact HB.out | apply below_alloc | apply pw_below_drewN | apply below_drew1 | refine below_set ?_ GE105.out) | exact HB.out)) hb); clear BK105; clear HB; have BK105 := n0_; have HB := n1_; clear n0_ n1_; (try clear hb); (try clear hb2); (try clear hk); (try clear hi)) | ((with_reducible refine gate_dst (N := 6) rfl ?_); refine box_event ?hg (N := 6) ?hd (cs := #[.int .i64 0, .int .i64 0]) (t := 38) ?hr ?_; (case hd => rfl); (case hg => rfl); (case hr => first | (go_simp; done) | (go_simp; rfl)); intro gb110 hg w45 hbox hb; have n0_ := Aside0.mk (blk_below (g := gb105) (o := .cells #[.int .i64 t103, .int .i64 t104] 38 (0, 0)) (by (with_reducible repeat (first | refine blk_drewN ?_ _ | refine blk_drew ?_ | refine blk_alloc ?_ _)); exact BK105.out) hb); have n1_ := Aside0.mk (below_step (by repeat (first | (with_reducible first | exact HB.out | apply below_alloc | apply pw_below_drewN | apply below_drew1 | refine below_set ?_ GE105.out) | exact HB.out)) hb); have n2_ := Aside0.mk (hbox); have n3_ := Aside0.mk ((by rw [hg]; exact (below_size (by repeat (first | (with_reducible first | exact HB.out | apply below_alloc | apply pw_below_drewN | apply below_drew1 | refine below_set ?_ GE105.out) | exact HB.out))) : w.heap.size ≤ gb110)); have n4_ := Aside0.mk ((by rw [hg]; exact (below_size (by repeat (first | (with_reducible first | exact HB.out | apply below_alloc | apply pw_below_drewN | apply below_drew1 | refine below_set ?_ GE105.out) | exact HB.out))) : w.heap.size ≤ gb110)); have n5_ := Aside0.mk ((by rw [hg]; exact Nat.ne_of_lt (blk_lt (g := gb105) (o := .cells #[.int .i64 t103, .int .i64 t104] 38 (0, 0)) (by (with_reducible repeat (first | refine blk_drewN ?_ _ | refine blk_drew ?_ | refine blk_alloc ?_ _)); exact BK105.out)) : gb105 ≠ gb110)); have n6_ := Aside0.mk ((by rw [hg]; exact Nat.ne_of_gt (blk_lt (g := gb105) (o := .cells #[.int .i64 t103, .int .i64 t104] 38 (0, 0)) (by (with_reducible repeat (first | refine blk_drewN ?_ _ | refine blk_drew ?_ | refine blk_alloc ?_ _)); exact BK105.out)) : gb110 ≠ gb105)); clear BK105; clear HB; have BK105 := n0_; have HB := n1_; have BK110 := n2_; have GW110 := n3_; have GE110 := n4_; have NB105_110 := n5_; have NB110_105 := n6_; clear n0_ n1_ n2_ n3_ n4_ n5_ n6_; clear hb hbox hg; have hnb46 := NB110_105.out; have hnc46 := NB105_110.out; have hcz47_0 : w45.cell? ⟨gb110, 0, none⟩ = some (.int .i64 0) := (blk_cell BK110.out 0).trans rfl; have hcz47_1 : w45.cell? ⟨gb110, 1, none⟩ = some (.int .i64 0) := (blk_cell BK110.out 1).trans rfl; have hfz47_0 := blk_frozen BK110.out 0; have hfz47_1 := blk_frozen BK110.out 1) | ((with_reducible refine gate_callee (f := 12) rfl ?_); refine goesL_ (some 20) rfl rfl Tryz.func12 (by kernel_rfl) rfl #[.string (⟨#[97, 10, 34]⟩ : ByteArray)] rfl (by (try simp only [List.map_toArray, List.map_cons, List.map_nil]); first | done | rfl | (simp only [List.length_drop, List.length_take]; rfl)) ?_; (with_reducible refine (quote_Double.calls (⟨#[97, 10, 34]⟩ : ByteArray) t111 t112 _ (hG.below (by first | ((repeat (first | (with_reducible first | exact HB.out | apply below_alloc | apply pw_below_drewN | apply below_drew1 | (refine Glob.below_set ?_ (by assumption) _ _ _)) | exact HB.out)); done) | (refine Drawn0.below ?_; repeat (first | exact Drawn0.refl _ | assumption | apply Drawn0.step)))) A3.out).mono ?_); rintro e w48 ⟨rfl, hb⟩; refine ⟨_, rfl, ?_⟩; have n0_ := Aside0.mk (blk_below (g := gb105) (o := .cells #[.int .i64 t103, .int .i64 t104] 38 (0, 0)) (by (with_reducible repeat (first | refine blk_drewN ?_ _ | refine blk_drew ?_ | refine blk_alloc ?_ _)); refine blk_far ?_ NB105_110.out _; (with_reducible repeat (first | refine blk_drewN ?_ _ | refine blk_drew ?_ | refine blk_alloc ?_ _)); refine blk_far ?_ NB105_110.out _; (with_reducible repeat (first | refine blk_drewN ?_ _ | refine blk_drew ?_ | refine blk_alloc ?_ _)); exact BK105.out) hb); have n1_ := Aside0.mk (blk_below (g := gb110) (o := .cells #[.int .i64 t108, .int .i64 t109] 38 (0, 0)) (by (with_reducible repeat (first | refine blk_drewN ?_ _ | refine blk_drew ?_ | refine blk_alloc ?_ _)); refine blk_put (cs := #[.int .i64 t108, .int .i64 0]) ?_ 1 _ rfl; (with_reducible repeat (first | refine blk_drewN ?_ _ | refine blk_drew ?_ | refine blk_alloc ?_ _)); refine blk_put (cs := #[.int .i64 0, .int .i64 0]) ?_ 0 _ rfl; (with_reducible repeat (first | refine blk_drewN ?_ _ | refine blk_drew ?_ | refine blk_alloc ?_ _)); exact BK110.out) hb); have n2_ := Aside0.mk (below_step (by repeat (first | (with_reducible first | exact HB.out | apply below_alloc | apply pw_below_drewN | apply below_drew1 | refine below_set ?_ GE105.out | refine below_set ?_ GE110.out) | exact HB.out)) hb); clear BK105; clear BK110; clear HB; have BK105 := n0_; have BK110 := n1_; have HB := n2_; clear n0_ n1_ n2_; (try clear hb); (try clear hb2); (try clear hk); (try clear hi); have hcz49_0 : w48.cell? ⟨gb105, 0, none⟩ = some (.int .i64 t103) := (blk_cell BK105.out 0).trans rfl; have hcz49_1 : w48.cell? ⟨gb105, 1, none⟩ = some (.int .i64 t104) := (blk_cell BK105.out 1).trans rfl; have hfz49_0 := blk_frozen BK105.out 0; have hfz49_1 := blk_frozen BK105.out 1))
            go_ret
            exact ⟨by first | rfl | (simp [errW_none, errW_some] <;> rfl) | (simp [*, errW_none, errW_some] <;> rfl), by repeat (first | (with_reducible first | exact HB.out | apply below_alloc | apply pw_below_drewN | apply below_drew1 | refine below_set ?_ GE105.out | refine below_set ?_ GE110.out) | exact HB.out)⟩
        · rw [if_neg c7] at H
          have c7b0 : (t106.toList == ([195, 169] : List UInt8)) = false := beq_eq_false_iff_ne.mpr c7
          have c7b1 : (t106.toList != ([195, 169] : List UInt8)) = true := bne_iff_ne.mpr c7
          obtain rfl := Option.some.inj H
          go_enter Tryz.func16, Tryz.ntmps16
          go_wp2_with (first | ((with_reducible refine gate_callee (f := 38) rfl ?_); refine goesL_ (some 10) rfl rfl Tryz.func38 (by kernel_rfl) rfl #[.string (⟨#[39, 105, 116, 39, 39, 115, 39, 32, 120]⟩ : ByteArray)] rfl (by (try simp only [List.map_toArray, List.map_cons, List.map_nil]); first | done | rfl | (simp only [List.length_drop, List.length_take]; rfl)) ?_; (with_reducible refine (quote_Read.calls (⟨#[39, 105, 116, 39, 39, 115, 39, 32, 120]⟩ : ByteArray) t101 t102 t103 t104 _ (hG.below (by first | ((repeat (first | (with_reducible first | exact HB.out | apply below_alloc | apply pw_below_drewN | apply below_drew1 | (refine Glob.below_set ?_ (by assumption) _ _ _)) | exact HB.out)); done) | (refine Drawn0.below ?_; repeat (first | exact Drawn0.refl _ | assumption | apply Drawn0.step)))) A1.out).mono ?_); rintro e w50 ⟨rfl, hb⟩; refine ⟨_, rfl, ?_⟩; have n0_ := Aside0.mk (below_step (by repeat (first | (with_reducible first | exact HB.out | apply below_alloc | apply pw_below_drewN | apply below_drew1) | exact HB.out)) hb); clear HB; have HB := n0_; clear n0_; (try clear hb); (try clear hb2); (try clear hk); (try clear hi)) | ((with_reducible refine gate_dst (N := 3) rfl ?_); refine box_event ?hg (N := 3) ?hd (cs := #[.int .i64 0, .int .i64 0]) (t := 38) ?hr ?_; (case hd => rfl); (case hg => rfl); (case hr => first | (go_simp; done) | (go_simp; rfl)); intro gb105 hg w51 hbox hb; have n0_ := Aside0.mk (below_step (by repeat (first | (with_reducible first | exact HB.out | apply below_alloc | apply pw_below_drewN | apply below_drew1) | exact HB.out)) hb); have n1_ := Aside0.mk (hbox); have n2_ := Aside0.mk ((by rw [hg]; exact (below_size (by repeat (first | (with_reducible first | exact HB.out | apply below_alloc | apply pw_below_drewN | apply below_drew1) | exact HB.out))) : w.heap.size ≤ gb105)); have n3_ := Aside0.mk ((by rw [hg]; exact (below_size (by repeat (first | (with_reducible first | exact HB.out | apply below_alloc | apply pw_below_drewN | apply below_drew1) | exact HB.out))) : w.heap.size ≤ gb105)); clear HB; have HB := n0_; have BK105 := n1_; have GW105 := n2_; have GE105 := n3_; clear n0_ n1_ n2_ n3_; clear hb hbox hg; have hcz52_0 : w51.cell? ⟨gb105, 0, none⟩ = some (.int .i64 0) := (blk_cell BK105.out 0).trans rfl; have hcz52_1 : w51.cell? ⟨gb105, 1, none⟩ = some (.int .i64 0) := (blk_cell BK105.out 1).trans rfl; have hfz52_0 := blk_frozen BK105.out 0; have hfz52_1 := blk_frozen BK105.out 1) | ((with_reducible refine gate_callee (f := 38) rfl ?_); refine goesL_ (some 15) rfl rfl Tryz.func38 (by kernel_rfl) rfl #[.string (⟨#[34, 92, 117, 48, 48, 101, 57, 34]⟩ : ByteArray)] rfl (by (try simp only [List.map_toArray, List.map_cons, List.map_nil]); first | done | rfl | (simp only [List.length_drop, List.length_take]; rfl)) ?_; (with_reducible refine (quote_Read.calls (⟨#[34, 92, 117, 48, 48, 101, 57, 34]⟩ : ByteArray) t106 t107 t108 t109 _ (hG.below (by first | ((repeat (first | (with_reducible first | exact HB.out | apply below_alloc | apply pw_below_drewN | apply below_drew1 | (refine Glob.below_set ?_ (by assumption) _ _ _)) | exact HB.out)); done) | (refine Drawn0.below ?_; repeat (first | exact Drawn0.refl _ | assumption | apply Drawn0.step)))) A2.out).mono ?_); rintro e w53 ⟨rfl, hb⟩; refine ⟨_, rfl, ?_⟩; have n0_ := Aside0.mk (blk_below (g := gb105) (o := .cells #[.int .i64 t103, .int .i64 t104] 38 (0, 0)) (by (with_reducible repeat (first | refine blk_drewN ?_ _ | refine blk_drew ?_ | refine blk_alloc ?_ _)); refine blk_put (cs := #[.int .i64 t103, .int .i64 0]) ?_ 1 _ rfl; (with_reducible repeat (first | refine blk_drewN ?_ _ | refine blk_drew ?_ | refine blk_alloc ?_ _)); refine blk_put (cs := #[.int .i64 0, .int .i64 0]) ?_ 0 _ rfl; (with_reducible repeat (first | refine blk_drewN ?_ _ | refine blk_drew ?_ | refine blk_alloc ?_ _)); exact BK105.out) hb); have n1_ := Aside0.mk (below_step (by repeat (first | (with_reducible first | exact HB.out | apply below_alloc | apply pw_below_drewN | apply below_drew1 | refine below_set ?_ GE105.out) | exact HB.out)) hb); clear BK105; clear HB; have BK105 := n0_; have HB := n1_; clear n0_ n1_; (try clear hb); (try clear hb2); (try clear hk); (try clear hi)) | ((with_reducible refine gate_dst (N := 6) rfl ?_); refine box_event ?hg (N := 6) ?hd (cs := #[.int .i64 0, .int .i64 0]) (t := 38) ?hr ?_; (case hd => rfl); (case hg => rfl); (case hr => first | (go_simp; done) | (go_simp; rfl)); intro gb110 hg w54 hbox hb; have n0_ := Aside0.mk (blk_below (g := gb105) (o := .cells #[.int .i64 t103, .int .i64 t104] 38 (0, 0)) (by (with_reducible repeat (first | refine blk_drewN ?_ _ | refine blk_drew ?_ | refine blk_alloc ?_ _)); exact BK105.out) hb); have n1_ := Aside0.mk (below_step (by repeat (first | (with_reducible first | exact HB.out | apply below_alloc | apply pw_below_drewN | apply below_drew1 | refine below_set ?_ GE105.out) | exact HB.out)) hb); have n2_ := Aside0.mk (hbox); have n3_ := Aside0.mk ((by rw [hg]; exact (below_size (by repeat (first | (with_reducible first | exact HB.out | apply below_alloc | apply pw_below_drewN | apply below_drew1 | refine below_set ?_ GE105.out) | exact HB.out))) : w.heap.size ≤ gb110)); have n4_ := Aside0.mk ((by rw [hg]; exact (below_size (by repeat (first | (with_reducible first | exact HB.out | apply below_alloc | apply pw_below_drewN | apply below_drew1 | refine below_set ?_ GE105.out) | exact HB.out))) : w.heap.size ≤ gb110)); have n5_ := Aside0.mk ((by rw [hg]; exact Nat.ne_of_lt (blk_lt (g := gb105) (o := .cells #[.int .i64 t103, .int .i64 t104] 38 (0, 0)) (by (with_reducible repeat (first | refine blk_drewN ?_ _ | refine blk_drew ?_ | refine blk_alloc ?_ _)); exact BK105.out)) : gb105 ≠ gb110)); have n6_ := Aside0.mk ((by rw [hg]; exact Nat.ne_of_gt (blk_lt (g := gb105) (o := .cells #[.int .i64 t103, .int .i64 t104] 38 (0, 0)) (by (with_reducible repeat (first | refine blk_drewN ?_ _ | refine blk_drew ?_ | refine blk_alloc ?_ _)); exact BK105.out)) : gb110 ≠ gb105)); clear BK105; clear HB; have BK105 := n0_; have HB := n1_; have BK110 := n2_; have GW110 := n3_; have GE110 := n4_; have NB105_110 := n5_; have NB110_105 := n6_; clear n0_ n1_ n2_ n3_ n4_ n5_ n6_; clear hb hbox hg; have hnb55 := NB110_105.out; have hnc55 := NB105_110.out; have hcz56_0 : w54.cell? ⟨gb110, 0, none⟩ = some (.int .i64 0) := (blk_cell BK110.out 0).trans rfl; have hcz56_1 : w54.cell? ⟨gb110, 1, none⟩ = some (.int .i64 0) := (blk_cell BK110.out 1).trans rfl; have hfz56_0 := blk_frozen BK110.out 0; have hfz56_1 := blk_frozen BK110.out 1) | ((with_reducible refine gate_callee (f := 12) rfl ?_); refine goesL_ (some 20) rfl rfl Tryz.func12 (by kernel_rfl) rfl #[.string (⟨#[97, 10, 34]⟩ : ByteArray)] rfl (by (try simp only [List.map_toArray, List.map_cons, List.map_nil]); first | done | rfl | (simp only [List.length_drop, List.length_take]; rfl)) ?_; (with_reducible refine (quote_Double.calls (⟨#[97, 10, 34]⟩ : ByteArray) t111 t112 _ (hG.below (by first | ((repeat (first | (with_reducible first | exact HB.out | apply below_alloc | apply pw_below_drewN | apply below_drew1 | (refine Glob.below_set ?_ (by assumption) _ _ _)) | exact HB.out)); done) | (refine Drawn0.below ?_; repeat (first | exact Drawn0.refl _ | assumption | apply Drawn0.step)))) A3.out).mono ?_); rintro e w57 ⟨rfl, hb⟩; refine ⟨_, rfl, ?_⟩; have n0_ := Aside0.mk (blk_below (g := gb105) (o := .cells #[.int .i64 t103, .int .i64 t104] 38 (0, 0)) (by (with_reducible repeat (first | refine blk_drewN ?_ _ | refine blk_drew ?_ | refine blk_alloc ?_ _)); refine blk_far ?_ NB105_110.out _; (with_reducible repeat (first | refine blk_drewN ?_ _ | refine blk_drew ?_ | refine blk_alloc ?_ _)); refine blk_far ?_ NB105_110.out _; (with_reducible repeat (first | refine blk_drewN ?_ _ | refine blk_drew ?_ | refine blk_alloc ?_ _)); exact BK105.out) hb); have n1_ := Aside0.mk (blk_below (g := gb110) (o := .cells #[.int .i64 t108, .int .i64 t109] 38 (0, 0)) (by (with_reducible repeat (first | refine blk_drewN ?_ _ | refine blk_drew ?_ | refine blk_alloc ?_ _)); refine blk_put (cs := #[.int .i64 t108, .int .i64 0]) ?_ 1 _ rfl; (with_reducible repeat (first | refine blk_drewN ?_ _ | refine blk_drew ?_ | refine blk_alloc ?_ _)); refine blk_put (cs := #[.int .i64 0, .int .i64 0]) ?_ 0 _ rfl; (with_reducible repeat (first | refine blk_drewN ?_ _ | refine blk_drew ?_ | refine blk_alloc ?_ _)); exact BK110.out) hb); have n2_ := Aside0.mk (below_step (by repeat (first | (with_reducible first | exact HB.out | apply below_alloc | apply pw_below_drewN | apply below_drew1 | refine below_set ?_ GE105.out | refine below_set ?_ GE110.out) | exact HB.out)) hb); clear BK105; clear BK110; clear HB; have BK105 := n0_; have BK110 := n1_; have HB := n2_; clear n0_ n1_ n2_; (try clear hb); (try clear hb2); (try clear hk); (try clear hi); have hcz58_0 : w57.cell? ⟨gb105, 0, none⟩ = some (.int .i64 t103) := (blk_cell BK105.out 0).trans rfl; have hcz58_1 : w57.cell? ⟨gb105, 1, none⟩ = some (.int .i64 t104) := (blk_cell BK105.out 1).trans rfl; have hfz58_0 := blk_frozen BK105.out 0; have hfz58_1 := blk_frozen BK105.out 1))
          go_ret
          exact ⟨by first | rfl | (simp [errW_none, errW_some] <;> rfl) | (simp [*, errW_none, errW_some] <;> rfl), by repeat (first | (with_reducible first | exact HB.out | apply below_alloc | apply pw_below_drewN | apply below_drew1 | refine below_set ?_ GE105.out | refine below_set ?_ GE110.out) | exact HB.out)⟩
      · rw [if_neg c6] at H
        have c6b0 : (t103 == 0 && (t104 == 0)) = false := by simpa using c6
        (try (have c6b1 : decide (t103 = 0 && (t104 == 0)) = false := by simpa using c6))
        (try (have c6b2 : (t103 == 0 && (t104 == 0)) = false := by simpa using c6))
        (try (have c6b3 : ¬ (t103 = 0 && (t104 == 0)) := by simpa using c6))
        clear c6
        obtain rfl := Option.some.inj H
        go_enter Tryz.func16, Tryz.ntmps16
        go_wp2_with (first | ((with_reducible refine gate_callee (f := 38) rfl ?_); refine goesL_ (some 10) rfl rfl Tryz.func38 (by kernel_rfl) rfl #[.string (⟨#[39, 105, 116, 39, 39, 115, 39, 32, 120]⟩ : ByteArray)] rfl (by (try simp only [List.map_toArray, List.map_cons, List.map_nil]); first | done | rfl | (simp only [List.length_drop, List.length_take]; rfl)) ?_; (with_reducible refine (quote_Read.calls (⟨#[39, 105, 116, 39, 39, 115, 39, 32, 120]⟩ : ByteArray) t101 t102 t103 t104 _ (hG.below (by first | ((repeat (first | (with_reducible first | exact HB.out | apply below_alloc | apply pw_below_drewN | apply below_drew1 | (refine Glob.below_set ?_ (by assumption) _ _ _)) | exact HB.out)); done) | (refine Drawn0.below ?_; repeat (first | exact Drawn0.refl _ | assumption | apply Drawn0.step)))) A1.out).mono ?_); rintro e w59 ⟨rfl, hb⟩; refine ⟨_, rfl, ?_⟩; have n0_ := Aside0.mk (below_step (by repeat (first | (with_reducible first | exact HB.out | apply below_alloc | apply pw_below_drewN | apply below_drew1) | exact HB.out)) hb); clear HB; have HB := n0_; clear n0_; (try clear hb); (try clear hb2); (try clear hk); (try clear hi)) | ((with_reducible refine gate_dst (N := 3) rfl ?_); refine box_event ?hg (N := 3) ?hd (cs := #[.int .i64 0, .int .i64 0]) (t := 38) ?hr ?_; (case hd => rfl); (case hg => rfl); (case hr => first | (go_simp; done) | (go_simp; rfl)); intro gb105 hg w60 hbox hb; have n0_ := Aside0.mk (below_step (by repeat (first | (with_reducible first | exact HB.out | apply below_alloc | apply pw_below_drewN | apply below_drew1) | exact HB.out)) hb); have n1_ := Aside0.mk (hbox); have n2_ := Aside0.mk ((by rw [hg]; exact (below_size (by repeat (first | (with_reducible first | exact HB.out | apply below_alloc | apply pw_below_drewN | apply below_drew1) | exact HB.out))) : w.heap.size ≤ gb105)); have n3_ := Aside0.mk ((by rw [hg]; exact (below_size (by repeat (first | (with_reducible first | exact HB.out | apply below_alloc | apply pw_below_drewN | apply below_drew1) | exact HB.out))) : w.heap.size ≤ gb105)); clear HB; have HB := n0_; have BK105 := n1_; have GW105 := n2_; have GE105 := n3_; clear n0_ n1_ n2_ n3_; clear hb hbox hg; have hcz61_0 : w60.cell? ⟨gb105, 0, none⟩ = some (.int .i64 0) := (blk_cell BK105.out 0).trans rfl; have hcz61_1 : w60.cell? ⟨gb105, 1, none⟩ = some (.int .i64 0) := (blk_cell BK105.out 1).trans rfl; have hfz61_0 := blk_frozen BK105.out 0; have hfz61_1 := blk_frozen BK105.out 1) | ((with_reducible refine gate_callee (f := 38) rfl ?_); refine goesL_ (some 15) rfl rfl Tryz.func38 (by kernel_rfl) rfl #[.string (⟨#[34, 92, 117, 48, 48, 101, 57, 34]⟩ : ByteArray)] rfl (by (try simp only [List.map_toArray, List.map_cons, List.map_nil]); first | done | rfl | (simp only [List.length_drop, List.length_take]; rfl)) ?_; (with_reducible refine (quote_Read.calls (⟨#[34, 92, 117, 48, 48, 101, 57, 34]⟩ : ByteArray) t106 t107 t108 t109 _ (hG.below (by first | ((repeat (first | (with_reducible first | exact HB.out | apply below_alloc | apply pw_below_drewN | apply below_drew1 | (refine Glob.below_set ?_ (by assumption) _ _ _)) | exact HB.out)); done) | (refine Drawn0.below ?_; repeat (first | exact Drawn0.refl _ | assumption | apply Drawn0.step)))) A2.out).mono ?_); rintro e w62 ⟨rfl, hb⟩; refine ⟨_, rfl, ?_⟩; have n0_ := Aside0.mk (blk_below (g := gb105) (o := .cells #[.int .i64 t103, .int .i64 t104] 38 (0, 0)) (by (with_reducible repeat (first | refine blk_drewN ?_ _ | refine blk_drew ?_ | refine blk_alloc ?_ _)); refine blk_put (cs := #[.int .i64 t103, .int .i64 0]) ?_ 1 _ rfl; (with_reducible repeat (first | refine blk_drewN ?_ _ | refine blk_drew ?_ | refine blk_alloc ?_ _)); refine blk_put (cs := #[.int .i64 0, .int .i64 0]) ?_ 0 _ rfl; (with_reducible repeat (first | refine blk_drewN ?_ _ | refine blk_drew ?_ | refine blk_alloc ?_ _)); exact BK105.out) hb); have n1_ := Aside0.mk (below_step (by repeat (first | (with_reducible first | exact HB.out | apply below_alloc | apply pw_below_drewN | apply below_drew1 | refine below_set ?_ GE105.out) | exact HB.out)) hb); clear BK105; clear HB; have BK105 := n0_; have HB := n1_; clear n0_ n1_; (try clear hb); (try clear hb2); (try clear hk); (try clear hi)) | ((with_reducible refine gate_dst (N := 6) rfl ?_); refine box_event ?hg (N := 6) ?hd (cs := #[.int .i64 0, .int .i64 0]) (t := 38) ?hr ?_; (case hd => rfl); (case hg => rfl); (case hr => first | (go_simp; done) | (go_simp; rfl)); intro gb110 hg w63 hbox hb; have n0_ := Aside0.mk (blk_below (g := gb105) (o := .cells #[.int .i64 t103, .int .i64 t104] 38 (0, 0)) (by (with_reducible repeat (first | refine blk_drewN ?_ _ | refine blk_drew ?_ | refine blk_alloc ?_ _)); exact BK105.out) hb); have n1_ := Aside0.mk (below_step (by repeat (first | (with_reducible first | exact HB.out | apply below_alloc | apply pw_below_drewN | apply below_drew1 | refine below_set ?_ GE105.out) | exact HB.out)) hb); have n2_ := Aside0.mk (hbox); have n3_ := Aside0.mk ((by rw [hg]; exact (below_size (by repeat (first | (with_reducible first | exact HB.out | apply below_alloc | apply pw_below_drewN | apply below_drew1 | refine below_set ?_ GE105.out) | exact HB.out))) : w.heap.size ≤ gb110)); have n4_ := Aside0.mk ((by rw [hg]; exact (below_size (by repeat (first | (with_reducible first | exact HB.out | apply below_alloc | apply pw_below_drewN | apply below_drew1 | refine below_set ?_ GE105.out) | exact HB.out))) : w.heap.size ≤ gb110)); have n5_ := Aside0.mk ((by rw [hg]; exact Nat.ne_of_lt (blk_lt (g := gb105) (o := .cells #[.int .i64 t103, .int .i64 t104] 38 (0, 0)) (by (with_reducible repeat (first | refine blk_drewN ?_ _ | refine blk_drew ?_ | refine blk_alloc ?_ _)); exact BK105.out)) : gb105 ≠ gb110)); have n6_ := Aside0.mk ((by rw [hg]; exact Nat.ne_of_gt (blk_lt (g := gb105) (o := .cells #[.int .i64 t103, .int .i64 t104] 38 (0, 0)) (by (with_reducible repeat (first | refine blk_drewN ?_ _ | refine blk_drew ?_ | refine blk_alloc ?_ _)); exact BK105.out)) : gb110 ≠ gb105)); clear BK105; clear HB; have BK105 := n0_; have HB := n1_; have BK110 := n2_; have GW110 := n3_; have GE110 := n4_; have NB105_110 := n5_; have NB110_105 := n6_; clear n0_ n1_ n2_ n3_ n4_ n5_ n6_; clear hb hbox hg; have hnb64 := NB110_105.out; have hnc64 := NB105_110.out; have hcz65_0 : w63.cell? ⟨gb110, 0, none⟩ = some (.int .i64 0) := (blk_cell BK110.out 0).trans rfl; have hcz65_1 : w63.cell? ⟨gb110, 1, none⟩ = some (.int .i64 0) := (blk_cell BK110.out 1).trans rfl; have hfz65_0 := blk_frozen BK110.out 0; have hfz65_1 := blk_frozen BK110.out 1) | ((with_reducible refine gate_callee (f := 12) rfl ?_); refine goesL_ (some 20) rfl rfl Tryz.func12 (by kernel_rfl) rfl #[.string (⟨#[97, 10, 34]⟩ : ByteArray)] rfl (by (try simp only [List.map_toArray, List.map_cons, List.map_nil]); first | done | rfl | (simp only [List.length_drop, List.length_take]; rfl)) ?_; (with_reducible refine (quote_Double.calls (⟨#[97, 10, 34]⟩ : ByteArray) t111 t112 _ (hG.below (by first | ((repeat (first | (with_reducible first | exact HB.out | apply below_alloc | apply pw_below_drewN | apply below_drew1 | (refine Glob.below_set ?_ (by assumption) _ _ _)) | exact HB.out)); done) | (refine Drawn0.below ?_; repeat (first | exact Drawn0.refl _ | assumption | apply Drawn0.step)))) A3.out).mono ?_); rintro e w66 ⟨rfl, hb⟩; refine ⟨_, rfl, ?_⟩; have n0_ := Aside0.mk (blk_below (g := gb105) (o := .cells #[.int .i64 t103, .int .i64 t104] 38 (0, 0)) (by (with_reducible repeat (first | refine blk_drewN ?_ _ | refine blk_drew ?_ | refine blk_alloc ?_ _)); refine blk_far ?_ NB105_110.out _; (with_reducible repeat (first | refine blk_drewN ?_ _ | refine blk_drew ?_ | refine blk_alloc ?_ _)); refine blk_far ?_ NB105_110.out _; (with_reducible repeat (first | refine blk_drewN ?_ _ | refine blk_drew ?_ | refine blk_alloc ?_ _)); exact BK105.out) hb); have n1_ := Aside0.mk (blk_below (g := gb110) (o := .cells #[.int .i64 t108, .int .i64 t109] 38 (0, 0)) (by (with_reducible repeat (first | refine blk_drewN ?_ _ | refine blk_drew ?_ | refine blk_alloc ?_ _)); refine blk_put (cs := #[.int .i64 t108, .int .i64 0]) ?_ 1 _ rfl; (with_reducible repeat (first | refine blk_drewN ?_ _ | refine blk_drew ?_ | refine blk_alloc ?_ _)); refine blk_put (cs := #[.int .i64 0, .int .i64 0]) ?_ 0 _ rfl; (with_reducible repeat (first | refine blk_drewN ?_ _ | refine blk_drew ?_ | refine blk_alloc ?_ _)); exact BK110.out) hb); have n2_ := Aside0.mk (below_step (by repeat (first | (with_reducible first | exact HB.out | apply below_alloc | apply pw_below_drewN | apply below_drew1 | refine below_set ?_ GE105.out | refine below_set ?_ GE110.out) | exact HB.out)) hb); clear BK105; clear BK110; clear HB; have BK105 := n0_; have BK110 := n1_; have HB := n2_; clear n0_ n1_ n2_; (try clear hb); (try clear hb2); (try clear hk); (try clear hi); have hcz67_0 : w66.cell? ⟨gb105, 0, none⟩ = some (.int .i64 t103) := (blk_cell BK105.out 0).trans rfl; have hcz67_1 : w66.cell? ⟨gb105, 1, none⟩ = some (.int .i64 t104) := (blk_cell BK105.out 1).trans rfl; have hfz67_0 := blk_frozen BK105.out 0; have hfz67_1 := blk_frozen BK105.out 1))
        go_ret
        exact ⟨by first | rfl | (simp [errW_none, errW_some] <;> rfl) | (simp [*, errW_none, errW_some] <;> rfl), by repeat (first | (with_reducible first | exact HB.out | apply below_alloc | apply pw_below_drewN | apply below_drew1 | refine below_set ?_ GE105.out | refine below_set ?_ GE110.out) | exact HB.out)⟩
    · rw [if_neg c5] at H
      have c5b0 : (t102 == 7) = false := beq_eq_false_iff_ne.mpr c5
      have c5b1 : (t102 != 7) = true := bne_iff_ne.mpr c5
      obtain rfl := Option.some.inj H
      go_enter Tryz.func16, Tryz.ntmps16
      go_wp2_with (first | ((with_reducible refine gate_callee (f := 38) rfl ?_); refine goesL_ (some 10) rfl rfl Tryz.func38 (by kernel_rfl) rfl #[.string (⟨#[39, 105, 116, 39, 39, 115, 39, 32, 120]⟩ : ByteArray)] rfl (by (try simp only [List.map_toArray, List.map_cons, List.map_nil]); first | done | rfl | (simp only [List.length_drop, List.length_take]; rfl)) ?_; (with_reducible refine (quote_Read.calls (⟨#[39, 105, 116, 39, 39, 115, 39, 32, 120]⟩ : ByteArray) t101 t102 t103 t104 _ (hG.below (by first | ((repeat (first | (with_reducible first | exact HB.out | apply below_alloc | apply pw_below_drewN | apply below_drew1 | (refine Glob.below_set ?_ (by assumption) _ _ _)) | exact HB.out)); done) | (refine Drawn0.below ?_; repeat (first | exact Drawn0.refl _ | assumption | apply Drawn0.step)))) A1.out).mono ?_); rintro e w68 ⟨rfl, hb⟩; refine ⟨_, rfl, ?_⟩; have n0_ := Aside0.mk (below_step (by repeat (first | (with_reducible first | exact HB.out | apply below_alloc | apply pw_below_drewN | apply below_drew1) | exact HB.out)) hb); clear HB; have HB := n0_; clear n0_; (try clear hb); (try clear hb2); (try clear hk); (try clear hi)) | ((with_reducible refine gate_dst (N := 3) rfl ?_); refine box_event ?hg (N := 3) ?hd (cs := #[.int .i64 0, .int .i64 0]) (t := 38) ?hr ?_; (case hd => rfl); (case hg => rfl); (case hr => first | (go_simp; done) | (go_simp; rfl)); intro gb105 hg w69 hbox hb; have n0_ := Aside0.mk (below_step (by repeat (first | (with_reducible first | exact HB.out | apply below_alloc | apply pw_below_drewN | apply below_drew1) | exact HB.out)) hb); have n1_ := Aside0.mk (hbox); have n2_ := Aside0.mk ((by rw [hg]; exact (below_size (by repeat (first | (with_reducible first | exact HB.out | apply below_alloc | apply pw_below_drewN | apply below_drew1) | exact HB.out))) : w.heap.size ≤ gb105)); have n3_ := Aside0.mk ((by rw [hg]; exact (below_size (by repeat (first | (with_reducible first | exact HB.out | apply below_alloc | apply pw_below_drewN | apply below_drew1) | exact HB.out))) : w.heap.size ≤ gb105)); clear HB; have HB := n0_; have BK105 := n1_; have GW105 := n2_; have GE105 := n3_; clear n0_ n1_ n2_ n3_; clear hb hbox hg; have hcz70_0 : w69.cell? ⟨gb105, 0, none⟩ = some (.int .i64 0) := (blk_cell BK105.out 0).trans rfl; have hcz70_1 : w69.cell? ⟨gb105, 1, none⟩ = some (.int .i64 0) := (blk_cell BK105.out 1).trans rfl; have hfz70_0 := blk_frozen BK105.out 0; have hfz70_1 := blk_frozen BK105.out 1) | ((with_reducible refine gate_callee (f := 38) rfl ?_); refine goesL_ (some 15) rfl rfl Tryz.func38 (by kernel_rfl) rfl #[.string (⟨#[34, 92, 117, 48, 48, 101, 57, 34]⟩ : ByteArray)] rfl (by (try simp only [List.map_toArray, List.map_cons, List.map_nil]); first | done | rfl | (simp only [List.length_drop, List.length_take]; rfl)) ?_; (with_reducible refine (quote_Read.calls (⟨#[34, 92, 117, 48, 48, 101, 57, 34]⟩ : ByteArray) t106 t107 t108 t109 _ (hG.below (by first | ((repeat (first | (with_reducible first | exact HB.out | apply below_alloc | apply pw_below_drewN | apply below_drew1 | (refine Glob.below_set ?_ (by assumption) _ _ _)) | exact HB.out)); done) | (refine Drawn0.below ?_; repeat (first | exact Drawn0.refl _ | assumption | apply Drawn0.step)))) A2.out).mono ?_); rintro e w71 ⟨rfl, hb⟩; refine ⟨_, rfl, ?_⟩; have n0_ := Aside0.mk (blk_below (g := gb105) (o := .cells #[.int .i64 t103, .int .i64 t104] 38 (0, 0)) (by (with_reducible repeat (first | refine blk_drewN ?_ _ | refine blk_drew ?_ | refine blk_alloc ?_ _)); refine blk_put (cs := #[.int .i64 t103, .int .i64 0]) ?_ 1 _ rfl; (with_reducible repeat (first | refine blk_drewN ?_ _ | refine blk_drew ?_ | refine blk_alloc ?_ _)); refine blk_put (cs := #[.int .i64 0, .int .i64 0]) ?_ 0 _ rfl; (with_reducible repeat (first | refine blk_drewN ?_ _ | refine blk_drew ?_ | refine blk_alloc ?_ _)); exact BK105.out) hb); have n1_ := Aside0.mk (below_step (by repeat (first | (with_reducible first | exact HB.out | apply below_alloc | apply pw_below_drewN | apply below_drew1 | refine below_set ?_ GE105.out) | exact HB.out)) hb); clear BK105; clear HB; have BK105 := n0_; have HB := n1_; clear n0_ n1_; (try clear hb); (try clear hb2); (try clear hk); (try clear hi)) | ((with_reducible refine gate_dst (N := 6) rfl ?_); refine box_event ?hg (N := 6) ?hd (cs := #[.int .i64 0, .int .i64 0]) (t := 38) ?hr ?_; (case hd => rfl); (case hg => rfl); (case hr => first | (go_simp; done) | (go_simp; rfl)); intro gb110 hg w72 hbox hb; have n0_ := Aside0.mk (blk_below (g := gb105) (o := .cells #[.int .i64 t103, .int .i64 t104] 38 (0, 0)) (by (with_reducible repeat (first | refine blk_drewN ?_ _ | refine blk_drew ?_ | refine blk_alloc ?_ _)); exact BK105.out) hb); have n1_ := Aside0.mk (below_step (by repeat (first | (with_reducible first | exact HB.out | apply below_alloc | apply pw_below_drewN | apply below_drew1 | refine below_set ?_ GE105.out) | exact HB.out)) hb); have n2_ := Aside0.mk (hbox); have n3_ := Aside0.mk ((by rw [hg]; exact (below_size (by repeat (first | (with_reducible first | exact HB.out | apply below_alloc | apply pw_below_drewN | apply below_drew1 | refine below_set ?_ GE105.out) | exact HB.out))) : w.heap.size ≤ gb110)); have n4_ := Aside0.mk ((by rw [hg]; exact (below_size (by repeat (first | (with_reducible first | exact HB.out | apply below_alloc | apply pw_below_drewN | apply below_drew1 | refine below_set ?_ GE105.out) | exact HB.out))) : w.heap.size ≤ gb110)); have n5_ := Aside0.mk ((by rw [hg]; exact Nat.ne_of_lt (blk_lt (g := gb105) (o := .cells #[.int .i64 t103, .int .i64 t104] 38 (0, 0)) (by (with_reducible repeat (first | refine blk_drewN ?_ _ | refine blk_drew ?_ | refine blk_alloc ?_ _)); exact BK105.out)) : gb105 ≠ gb110)); have n6_ := Aside0.mk ((by rw [hg]; exact Nat.ne_of_gt (blk_lt (g := gb105) (o := .cells #[.int .i64 t103, .int .i64 t104] 38 (0, 0)) (by (with_reducible repeat (first | refine blk_drewN ?_ _ | refine blk_drew ?_ | refine blk_alloc ?_ _)); exact BK105.out)) : gb110 ≠ gb105)); clear BK105; clear HB; have BK105 := n0_; have HB := n1_; have BK110 := n2_; have GW110 := n3_; have GE110 := n4_; have NB105_110 := n5_; have NB110_105 := n6_; clear n0_ n1_ n2_ n3_ n4_ n5_ n6_; clear hb hbox hg; have hnb73 := NB110_105.out; have hnc73 := NB105_110.out; have hcz74_0 : w72.cell? ⟨gb110, 0, none⟩ = some (.int .i64 0) := (blk_cell BK110.out 0).trans rfl; have hcz74_1 : w72.cell? ⟨gb110, 1, none⟩ = some (.int .i64 0) := (blk_cell BK110.out 1).trans rfl; have hfz74_0 := blk_frozen BK110.out 0; have hfz74_1 := blk_frozen BK110.out 1) | ((with_reducible refine gate_callee (f := 12) rfl ?_); refine goesL_ (some 20) rfl rfl Tryz.func12 (by kernel_rfl) rfl #[.string (⟨#[97, 10, 34]⟩ : ByteArray)] rfl (by (try simp only [List.map_toArray, List.map_cons, List.map_nil]); first | done | rfl | (simp only [List.length_drop, List.length_take]; rfl)) ?_; (with_reducible refine (quote_Double.calls (⟨#[97, 10, 34]⟩ : ByteArray) t111 t112 _ (hG.below (by first | ((repeat (first | (with_reducible first | exact HB.out | apply below_alloc | apply pw_below_drewN | apply below_drew1 | (refine Glob.below_set ?_ (by assumption) _ _ _)) | exact HB.out)); done) | (refine Drawn0.below ?_; repeat (first | exact Drawn0.refl _ | assumption | apply Drawn0.step)))) A3.out).mono ?_); rintro e w75 ⟨rfl, hb⟩; refine ⟨_, rfl, ?_⟩; have n0_ := Aside0.mk (blk_below (g := gb105) (o := .cells #[.int .i64 t103, .int .i64 t104] 38 (0, 0)) (by (with_reducible repeat (first | refine blk_drewN ?_ _ | refine blk_drew ?_ | refine blk_alloc ?_ _)); refine blk_far ?_ NB105_110.out _; (with_reducible repeat (first | refine blk_drewN ?_ _ | refine blk_drew ?_ | refine blk_alloc ?_ _)); refine blk_far ?_ NB105_110.out _; (with_reducible repeat (first | refine blk_drewN ?_ _ | refine blk_drew ?_ | refine blk_alloc ?_ _)); exact BK105.out) hb); have n1_ := Aside0.mk (blk_below (g := gb110) (o := .cells #[.int .i64 t108, .int .i64 t109] 38 (0, 0)) (by (with_reducible repeat (first | refine blk_drewN ?_ _ | refine blk_drew ?_ | refine blk_alloc ?_ _)); refine blk_put (cs := #[.int .i64 t108, .int .i64 0]) ?_ 1 _ rfl; (with_reducible repeat (first | refine blk_drewN ?_ _ | refine blk_drew ?_ | refine blk_alloc ?_ _)); refine blk_put (cs := #[.int .i64 0, .int .i64 0]) ?_ 0 _ rfl; (with_reducible repeat (first | refine blk_drewN ?_ _ | refine blk_drew ?_ | refine blk_alloc ?_ _)); exact BK110.out) hb); have n2_ := Aside0.mk (below_step (by repeat (first | (with_reducible first | exact HB.out | apply below_alloc | apply pw_below_drewN | apply below_drew1 | refine below_set ?_ GE105.out | refine below_set ?_ GE110.out) | exact HB.out)) hb); clear BK105; clear BK110; clear HB; have BK105 := n0_; have BK110 := n1_; have HB := n2_; clear n0_ n1_ n2_; (try clear hb); (try clear hb2); (try clear hk); (try clear hi)))
      go_ret
      exact ⟨by first | rfl | (simp [errW_none, errW_some] <;> rfl) | (simp [*, errW_none, errW_some] <;> rfl), by repeat (first | (with_reducible first | exact HB.out | apply below_alloc | apply pw_below_drewN | apply below_drew1 | refine below_set ?_ GE105.out | refine below_set ?_ GE110.out) | exact HB.out)⟩
  · rw [if_neg c4] at H
    have c4b0 : (t101.toList == ([105, 116, 39, 115] : List UInt8)) = false := beq_eq_false_iff_ne.mpr c4
    have c4b1 : (t101.toList != ([105, 116, 39, 115] : List UInt8)) = true := bne_iff_ne.mpr c4
    obtain rfl := Option.some.inj H
    go_enter Tryz.func16, Tryz.ntmps16
    go_wp2_with (first | ((with_reducible refine gate_callee (f := 38) rfl ?_); refine goesL_ (some 10) rfl rfl Tryz.func38 (by kernel_rfl) rfl #[.string (⟨#[39, 105, 116, 39, 39, 115, 39, 32, 120]⟩ : ByteArray)] rfl (by (try simp only [List.map_toArray, List.map_cons, List.map_nil]); first | done | rfl | (simp only [List.length_drop, List.length_take]; rfl)) ?_; (with_reducible refine (quote_Read.calls (⟨#[39, 105, 116, 39, 39, 115, 39, 32, 120]⟩ : ByteArray) t101 t102 t103 t104 _ (hG.below (by first | ((repeat (first | (with_reducible first | exact HB.out | apply below_alloc | apply pw_below_drewN | apply below_drew1 | (refine Glob.below_set ?_ (by assumption) _ _ _)) | exact HB.out)); done) | (refine Drawn0.below ?_; repeat (first | exact Drawn0.refl _ | assumption | apply Drawn0.step)))) A1.out).mono ?_); rintro e w76 ⟨rfl, hb⟩; refine ⟨_, rfl, ?_⟩; have n0_ := Aside0.mk (below_step (by repeat (first | (with_reducible first | exact HB.out | apply below_alloc | apply pw_below_drewN | apply below_drew1) | exact HB.out)) hb); clear HB; have HB := n0_; clear n0_; (try clear hb); (try clear hb2); (try clear hk); (try clear hi)) | ((with_reducible refine gate_dst (N := 3) rfl ?_); refine box_event ?hg (N := 3) ?hd (cs := #[.int .i64 0, .int .i64 0]) (t := 38) ?hr ?_; (case hd => rfl); (case hg => rfl); (case hr => first | (go_simp; done) | (go_simp; rfl)); intro gb105 hg w77 hbox hb; have n0_ := Aside0.mk (below_step (by repeat (first | (with_reducible first | exact HB.out | apply below_alloc | apply pw_below_drewN | apply below_drew1) | exact HB.out)) hb); have n1_ := Aside0.mk (hbox); have n2_ := Aside0.mk ((by rw [hg]; exact (below_size (by repeat (first | (with_reducible first | exact HB.out | apply below_alloc | apply pw_below_drewN | apply below_drew1) | exact HB.out))) : w.heap.size ≤ gb105)); have n3_ := Aside0.mk ((by rw [hg]; exact (below_size (by repeat (first | (with_reducible first | exact HB.out | apply below_alloc | apply pw_below_drewN | apply below_drew1) | exact HB.out))) : w.heap.size ≤ gb105)); clear HB; have HB := n0_; have BK105 := n1_; have GW105 := n2_; have GE105 := n3_; clear n0_ n1_ n2_ n3_; clear hb hbox hg; have hcz78_0 : w77.cell? ⟨gb105, 0, none⟩ = some (.int .i64 0) := (blk_cell BK105.out 0).trans rfl; have hcz78_1 : w77.cell? ⟨gb105, 1, none⟩ = some (.int .i64 0) := (blk_cell BK105.out 1).trans rfl; have hfz78_0 := blk_frozen BK105.out 0; have hfz78_1 := blk_frozen BK105.out 1) | ((with_reducible refine gate_callee (f := 38) rfl ?_); refine goesL_ (some 15) rfl rfl Tryz.func38 (by kernel_rfl) rfl #[.string (⟨#[34, 92, 117, 48, 48, 101, 57, 34]⟩ : ByteArray)] rfl (by (try simp only [List.map_toArray, List.map_cons, List.map_nil]); first | done | rfl | (simp only [List.length_drop, List.length_take]; rfl)) ?_; (with_reducible refine (quote_Read.calls (⟨#[34, 92, 117, 48, 48, 101, 57, 34]⟩ : ByteArray) t106 t107 t108 t109 _ (hG.below (by first | ((repeat (first | (with_reducible first | exact HB.out | apply below_alloc | apply pw_below_drewN | apply below_drew1 | (refine Glob.below_set ?_ (by assumption) _ _ _)) | exact HB.out)); done) | (refine Drawn0.below ?_; repeat (first | exact Drawn0.refl _ | assumption | apply Drawn0.step)))) A2.out).mono ?_); rintro e w79 ⟨rfl, hb⟩; refine ⟨_, rfl, ?_⟩; have n0_ := Aside0.mk (blk_below (g := gb105) (o := .cells #[.int .i64 t103, .int .i64 t104] 38 (0, 0)) (by (with_reducible repeat (first | refine blk_drewN ?_ _ | refine blk_drew ?_ | refine blk_alloc ?_ _)); refine blk_put (cs := #[.int .i64 t103, .int .i64 0]) ?_ 1 _ rfl; (with_reducible repeat (first | refine blk_drewN ?_ _ | refine blk_drew ?_ | refine blk_alloc ?_ _)); refine blk_put (cs := #[.int .i64 0, .int .i64 0]) ?_ 0 _ rfl; (with_reducible repeat (first | refine blk_drewN ?_ _ | refine blk_drew ?_ | refine blk_alloc ?_ _)); exact BK105.out) hb); have n1_ := Aside0.mk (below_step (by repeat (first | (with_reducible first | exact HB.out | apply below_alloc | apply pw_below_drewN | apply below_drew1 | refine below_set ?_ GE105.out) | exact HB.out)) hb); clear BK105; clear HB; have BK105 := n0_; have HB := n1_; clear n0_ n1_; (try clear hb); (try clear hb2); (try clear hk); (try clear hi)) | ((with_reducible refine gate_dst (N := 6) rfl ?_); refine box_event ?hg (N := 6) ?hd (cs := #[.int .i64 0, .int .i64 0]) (t := 38) ?hr ?_; (case hd => rfl); (case hg => rfl); (case hr => first | (go_simp; done) | (go_simp; rfl)); intro gb110 hg w80 hbox hb; have n0_ := Aside0.mk (blk_below (g := gb105) (o := .cells #[.int .i64 t103, .int .i64 t104] 38 (0, 0)) (by (with_reducible repeat (first | refine blk_drewN ?_ _ | refine blk_drew ?_ | refine blk_alloc ?_ _)); exact BK105.out) hb); have n1_ := Aside0.mk (below_step (by repeat (first | (with_reducible first | exact HB.out | apply below_alloc | apply pw_below_drewN | apply below_drew1 | refine below_set ?_ GE105.out) | exact HB.out)) hb); have n2_ := Aside0.mk (hbox); have n3_ := Aside0.mk ((by rw [hg]; exact (below_size (by repeat (first | (with_reducible first | exact HB.out | apply below_alloc | apply pw_below_drewN | apply below_drew1 | refine below_set ?_ GE105.out) | exact HB.out))) : w.heap.size ≤ gb110)); have n4_ := Aside0.mk ((by rw [hg]; exact (below_size (by repeat (first | (with_reducible first | exact HB.out | apply below_alloc | apply pw_below_drewN | apply below_drew1 | refine below_set ?_ GE105.out) | exact HB.out))) : w.heap.size ≤ gb110)); have n5_ := Aside0.mk ((by rw [hg]; exact Nat.ne_of_lt (blk_lt (g := gb105) (o := .cells #[.int .i64 t103, .int .i64 t104] 38 (0, 0)) (by (with_reducible repeat (first | refine blk_drewN ?_ _ | refine blk_drew ?_ | refine blk_alloc ?_ _)); exact BK105.out)) : gb105 ≠ gb110)); have n6_ := Aside0.mk ((by rw [hg]; exact Nat.ne_of_gt (blk_lt (g := gb105) (o := .cells #[.int .i64 t103, .int .i64 t104] 38 (0, 0)) (by (with_reducible repeat (first | refine blk_drewN ?_ _ | refine blk_drew ?_ | refine blk_alloc ?_ _)); exact BK105.out)) : gb110 ≠ gb105)); clear BK105; clear HB; have BK105 := n0_; have HB := n1_; have BK110 := n2_; have GW110 := n3_; have GE110 := n4_; have NB105_110 := n5_; have NB110_105 := n6_; clear n0_ n1_ n2_ n3_ n4_ n5_ n6_; clear hb hbox hg; have hnb81 := NB110_105.out; have hnc81 := NB105_110.out; have hcz82_0 : w80.cell? ⟨gb110, 0, none⟩ = some (.int .i64 0) := (blk_cell BK110.out 0).trans rfl; have hcz82_1 : w80.cell? ⟨gb110, 1, none⟩ = some (.int .i64 0) := (blk_cell BK110.out 1).trans rfl; have hfz82_0 := blk_frozen BK110.out 0; have hfz82_1 := blk_frozen BK110.out 1) | ((with_reducible refine gate_callee (f := 12) rfl ?_); refine goesL_ (some 20) rfl rfl Tryz.func12 (by kernel_rfl) rfl #[.string (⟨#[97, 10, 34]⟩ : ByteArray)] rfl (by (try simp only [List.map_toArray, List.map_cons, List.map_nil]); first | done | rfl | (simp only [List.length_drop, List.length_take]; rfl)) ?_; (with_reducible refine (quote_Double.calls (⟨#[97, 10, 34]⟩ : ByteArray) t111 t112 _ (hG.below (by first | ((repeat (first | (with_reducible first | exact HB.out | apply below_alloc | apply pw_below_drewN | apply below_drew1 | (refine Glob.below_set ?_ (by assumption) _ _ _)) | exact HB.out)); done) | (refine Drawn0.below ?_; repeat (first | exact Drawn0.refl _ | assumption | apply Drawn0.step)))) A3.out).mono ?_); rintro e w83 ⟨rfl, hb⟩; refine ⟨_, rfl, ?_⟩; have n0_ := Aside0.mk (blk_below (g := gb105) (o := .cells #[.int .i64 t103, .int .i64 t104] 38 (0, 0)) (by (with_reducible repeat (first | refine blk_drewN ?_ _ | refine blk_drew ?_ | refine blk_alloc ?_ _)); refine blk_far ?_ NB105_110.out _; (with_reducible repeat (first | refine blk_drewN ?_ _ | refine blk_drew ?_ | refine blk_alloc ?_ _)); refine blk_far ?_ NB105_110.out _; (with_reducible repeat (first | refine blk_drewN ?_ _ | refine blk_drew ?_ | refine blk_alloc ?_ _)); exact BK105.out) hb); have n1_ := Aside0.mk (blk_below (g := gb110) (o := .cells #[.int .i64 t108, .int .i64 t109] 38 (0, 0)) (by (with_reducible repeat (first | refine blk_drewN ?_ _ | refine blk_drew ?_ | refine blk_alloc ?_ _)); refine blk_put (cs := #[.int .i64 t108, .int .i64 0]) ?_ 1 _ rfl; (with_reducible repeat (first | refine blk_drewN ?_ _ | refine blk_drew ?_ | refine blk_alloc ?_ _)); refine blk_put (cs := #[.int .i64 0, .int .i64 0]) ?_ 0 _ rfl; (with_reducible repeat (first | refine blk_drewN ?_ _ | refine blk_drew ?_ | refine blk_alloc ?_ _)); exact BK110.out) hb); have n2_ := Aside0.mk (below_step (by repeat (first | (with_reducible first | exact HB.out | apply below_alloc | apply pw_below_drewN | apply below_drew1 | refine below_set ?_ GE105.out | refine below_set ?_ GE110.out) | exact HB.out)) hb); clear BK105; clear BK110; clear HB; have BK105 := n0_; have BK110 := n1_; have HB := n2_; clear n0_ n1_ n2_; (try clear hb); (try clear hb2); (try clear hk); (try clear hi)))
    go_ret
    exact ⟨by first | rfl | (simp [errW_none, errW_some] <;> rfl) | (simp [*, errW_none, errW_some] <;> rfl), by repeat (first | (with_reducible first | exact HB.out | apply below_alloc | apply pw_below_drewN | apply below_drew1 | refine below_set ?_ GE105.out | refine below_set ?_ GE110.out) | exact HB.out)⟩

end Go.Proofs.YtmkdjgmdfhagfaaGreatDoor.PX

/- What the printed laws of quoted texts lean on: the answers of Read and Double, and that the program is alive; conditions: texts of at most 2^40 bytes. -/
namespace Go.Proofs.YtmkdjgmdfhagfaaGreatDoor.Utf
open Go.RowKit Go.Proofs.YtmkdjgmdfhagfaaGreatDoor.PX Go.Proofs.YtmkdjgmdfhagfaaGreatDoor.Plug Go.Proofs.YtmkdjgmdfhagfaaGreatDoorW.PrintWords Go.Proofs.YtmkdjgmdfhagfaaGreatDoorW.PrintLast

set_option maxRecDepth 100000 in
theorem alive : grommetlaw07_alive.f = some true := by kernel_rfl

theorem read_of (s : ByteArray) (h : s.size ≤ 1099511627775) : quote_Read.f s = some (⟨(readB s.data.toList).1.toArray⟩, ((readB s.data.toList).2.1 : Int), (readB s.data.toList).2.2.1, ((readB s.data.toList).2.2.2 : Int)) := by
  unfold quote_Read.f; rw [if_pos h]
theorem double_of (zs : List Int) (hz : ∀ z ∈ zs, sgn z = true) (h : (zs.flatMap enc).length ≤ 1099511627775) : quote_Double.f ⟨(zs.flatMap enc).toArray⟩ = some (⟨(doubleB zs).toArray⟩, 0) := by
  unfold quote_Double.f
  rw [if_pos (show (⟨(zs.flatMap enc).toArray⟩ : ByteArray).size ≤ 1099511627775 from h)]
  unfold doubleOf
  rw [show (⟨(zs.flatMap enc).toArray⟩ : ByteArray).data.toList = zs.flatMap enc from rfl, signs_of zs hz]
theorem flat_len (zs : List Int) : zs.length ≤ (zs.flatMap enc).length ∧ (doubleB zs).length ≤ 2 + 10 * zs.length := by
  constructor
  · induction zs with
    | nil => simp
    | cons z zs ih => rw [List.flatMap_cons, List.length_append, List.length_cons]; have := enc_len z; omega
  · rw [doubleB_len]; have := escs_len zs; omega

/-- What is read is no longer than the text. -/
theorem readF_len : ∀ (k : Nat) (l : List UInt8) (q i : Nat) (acc : List UInt8), (readF k l q i acc).1.length ≤ acc.length + 4 * l.length
  | 0, _, _, _, _ => by simp [readF]
  | k + 1, l, q, i, acc => by
    unfold readF
    repeat' split
    · simp
    · simp
    · simp
    · simp
    · rename_i h1 h2 h3 h4
      have := readF_len k (l.drop (oneB l q).2.1) q (i + (oneB l q).2.1) (acc ++ (oneB l q).1)
      have h5 := one_len l q
      rw [List.length_append, List.length_drop] at this
      have h6 := (oneB_ok l q h1 (by omega) h4).1
      omega
theorem readB_len (s : List UInt8) : (readB s).1.length ≤ 4 * s.length := by
  unfold readB
  split
  · simp
  · have := readF_len s.length (s.drop 1) (at_ s 0) 1 []
    rw [List.length_drop, List.length_nil] at this
    omega
end Go.Proofs.YtmkdjgmdfhagfaaGreatDoor.Utf

/- Contracts of library functions, laid at this translation out of the library's theorems; conditions as each states. -/
namespace Go.Proofs
open Go.Shelf
def Tryz.lays241_ren : Go.Shelf.Ren := ⟨fun | 241 => 116 | 277 => 135 | n => n, fun | 70 => 61 | 3 => 3 | 0 => 0 | 72 => 63 | 37 => 58 | 5 => 5 | n => n, fun | n => n⟩
theorem Tryz.lays241 : Go.Proofs.Lays.n241 Tryz.prog Tryz.lays241_ren := {
  mixed := by kernel_rfl
  f241 := Tryz.func116.trans (congrArg some (by kernel_rfl))
  f277 := Tryz.func135.trans (congrArg some (by kernel_rfl))
  t0 := Tryz.underlying0
  a0 := Tryz.isAgg0
  z0 := Tryz.sizeOf0
  v0 := Tryz.zeroValue0
  t3 := Tryz.underlying3
  a3 := Tryz.isAgg3
  z3 := Tryz.sizeOf3
  v3 := Tryz.zeroValue3
  t37 := Tryz.underlying58
  a37 := Tryz.isAgg58
  z37 := Tryz.sizeOf58
  v37 := Tryz.zeroValue58
  t70 := Tryz.underlying61
  a70 := Tryz.isAgg61
  z70 := Tryz.sizeOf61
  v70 := Tryz.zeroValue61
  t72 := Tryz.underlying63
  a72 := Tryz.isAgg63
  z72 := Tryz.sizeOf63
  v72 := Tryz.zeroValue63 }
theorem Tryz.Builder_Extra_241 : Builder.Extra Tryz.prog Tryz.lays241_ren := {
  sizeBuilder := by kernel_rfl
  liesBuilder := by kernel_rfl
  t5 := Tryz.underlying5
  a5 := Tryz.isAgg5
  z5 := Tryz.sizeOf5
  v5 := Tryz.zeroValue5
  infoByte := by kernel_rfl
  cellsByte := by kernel_rfl
  sizeByte := by kernel_rfl
  neB5 := by decide }
open Go.RowKit in
theorem Tryz.Builder_grow_fresh (B b n : Nat) (w : World) (hB : B ≤ b) (hbk : w.heap[b]? = some (.cells #[.pointer (some ⟨b, 0, none⟩), .slice none 0 0] 63 (0, 0))) (hBw : B ≤ w.heap.size) (hn : n ≤ 281474976710656) :
    Calls Tryz.prog 116 #[.pointer (some ⟨b, 0, none⟩), .int .i64 n] w fun e w' => e = .returned (.tuple #[]) ∧ (Lib.BuilderAt 63 5 B b (.pointer (some ⟨b, 0, none⟩)) [] w' ∧ Below B w w') := Any.Builder_grow_fresh Tryz.lays241 Tryz.Builder_Extra_241 B b n w hB hbk hBw hn
def Tryz.lays143_ren : Go.Shelf.Ren := ⟨fun | 143 => 87 | 219 => 117 | 217 => 136 | 225 => 137 | 224 => 138 | 267 => 139 | 266 => 157 | 314 => 158 | n => n, fun | 9 => 9 | 3 => 3 | 4 => 4 | 5 => 5 | 46 => 148 | 146 => 169 | 51 => 147 | n => n, fun | 1 => 2 | n => n⟩
theorem Tryz.lays143 : Go.Proofs.Lays.n143 Tryz.prog Tryz.lays143_ren := {
  mixed := by kernel_rfl
  f143 := Tryz.func87.trans (congrArg some (by kernel_rfl))
  f217 := Tryz.func136.trans (congrArg some (by kernel_rfl))
  f219 := Tryz.func117.trans (congrArg some (by kernel_rfl))
  f224 := Tryz.func138.trans (congrArg some (by kernel_rfl))
  f225 := Tryz.func137.trans (congrArg some (by kernel_rfl))
  f266 := Tryz.func157.trans (congrArg some (by kernel_rfl))
  f267 := Tryz.func139.trans (congrArg some (by kernel_rfl))
  f314 := Tryz.func158.trans (congrArg some (by kernel_rfl))
  t3 := Tryz.underlying3
  a3 := Tryz.isAgg3
  z3 := Tryz.sizeOf3
  v3 := Tryz.zeroValue3
  t4 := Tryz.underlying4
  a4 := Tryz.isAgg4
  z4 := Tryz.sizeOf4
  v4 := Tryz.zeroValue4
  t5 := Tryz.underlying5
  a5 := Tryz.isAgg5
  z5 := Tryz.sizeOf5
  v5 := Tryz.zeroValue5
  t9 := Tryz.underlying9
  a9 := Tryz.isAgg9
  z9 := Tryz.sizeOf9
  v9 := Tryz.zeroValue9
  t46 := Tryz.underlying148
  a46 := Tryz.isAgg148
  z46 := Tryz.sizeOf148
  v46 := Tryz.zeroValue148
  t51 := Tryz.underlying147
  a51 := Tryz.isAgg147
  z51 := Tryz.sizeOf147
  v51 := Tryz.zeroValue147
  t146 := Tryz.underlying169
  a146 := Tryz.isAgg169
  z146 := Tryz.sizeOf169
  v146 := Tryz.zeroValue169
  g1 := by kernel_rfl }
open Go.RowKit Go.Lib in
theorem Tryz.strings_Index_one (s : ByteArray) (c : UInt8) (w : World) :
    Calls Tryz.prog 87 #[.string s, .string ⟨#[c]⟩] w fun e w' => e = .returned (.int .i64 (Lib.indexByte s.data.toList c)) ∧ w' = w := Any.strings_Index_one Tryz.lays143 s c w
def Tryz.lays138_ren : Go.Shelf.Ren := ⟨fun | 138 => 85 | 195 => 114 | 218 => 115 | 143 => 87 | 219 => 117 | 217 => 136 | 225 => 137 | 224 => 138 | 267 => 139 | 266 => 157 | 314 => 158 | n => n, fun | 9 => 9 | 3 => 3 | 4 => 4 | 5 => 5 | 0 => 0 | 46 => 148 | 146 => 169 | 51 => 147 | n => n, fun | 1 => 2 | n => n⟩
theorem Tryz.lays138 : Go.Proofs.Lays.n138 Tryz.prog Tryz.lays138_ren := {
  mixed := by kernel_rfl
  f138 := Tryz.func85.trans (congrArg some (by kernel_rfl))
  f143 := Tryz.func87.trans (congrArg some (by kernel_rfl))
  f195 := Tryz.func114.trans (congrArg some (by kernel_rfl))
  f217 := Tryz.func136.trans (congrArg some (by kernel_rfl))
  f218 := Tryz.func115.trans (congrArg some (by kernel_rfl))
  f219 := Tryz.func117.trans (congrArg some (by kernel_rfl))
  f224 := Tryz.func138.trans (congrArg some (by kernel_rfl))
  f225 := Tryz.func137.trans (congrArg some (by kernel_rfl))
  f266 := Tryz.func157.trans (congrArg some (by kernel_rfl))
  f267 := Tryz.func139.trans (congrArg some (by kernel_rfl))
  f314 := Tryz.func158.trans (congrArg some (by kernel_rfl))
  t0 := Tryz.underlying0
  a0 := Tryz.isAgg0
  z0 := Tryz.sizeOf0
  v0 := Tryz.zeroValue0
  t3 := Tryz.underlying3
  a3 := Tryz.isAgg3
  z3 := Tryz.sizeOf3
  v3 := Tryz.zeroValue3
  t4 := Tryz.underlying4
  a4 := Tryz.isAgg4
  z4 := Tryz.sizeOf4
  v4 := Tryz.zeroValue4
  t5 := Tryz.underlying5
  a5 := Tryz.isAgg5
  z5 := Tryz.sizeOf5
  v5 := Tryz.zeroValue5
  t9 := Tryz.underlying9
  a9 := Tryz.isAgg9
  z9 := Tryz.sizeOf9
  v9 := Tryz.zeroValue9
  t46 := Tryz.underlying148
  a46 := Tryz.isAgg148
  z46 := Tryz.sizeOf148
  v46 := Tryz.zeroValue148
  t51 := Tryz.underlying147
  a51 := Tryz.isAgg147
  z51 := Tryz.sizeOf147
  v51 := Tryz.zeroValue147
  t146 := Tryz.underlying169
  a146 := Tryz.isAgg169
  z146 := Tryz.sizeOf169
  v146 := Tryz.zeroValue169
  g1 := by kernel_rfl }
open Go.RowKit Go.Lib in
theorem Tryz.strings_Count_one (s : ByteArray) (c : UInt8) (w : World) :
    Calls Tryz.prog 85 #[.string s, .string ⟨#[c]⟩] w fun e w' => e = .returned (.int .i64 (Lib.countByte s.data.toList c)) ∧ w' = w := Any.strings_Count_one Tryz.lays138 s c w
end Go.Proofs

/- Single quotes doubled (strings.ReplaceAll, one byte by two), by hand, in the form in which the printed functions are told. Conditions: the text has at most 2^40 bytes. -/
namespace Go.Proofs.YtmkdjgmdfhagfaaGreatDoor.Plug
open Go.RowKit Go.Proofs.YtmkdjgmdfhagfaaGreatDoor Go.Proofs.YtmkdjgmdfhagfaaGreatDoor.Utf Go.Proofs.YtmkdjgmdfhagfaaGreatDoor.Bld Go.Proofs.YtmkdjgmdfhagfaaGreatDoorW.PrintWords Go.Proofs.YtmkdjgmdfhagfaaGreatDoorW.PrintLast

set_option maxHeartbeats 2000000 in
set_option maxRecDepth 100000 in
theorem check_fresh (b : Nat) (w : World) (hbk : w.heap[b]? = some (.cells #[.pointer none, .slice none 0 0] 63 (0, 0))) :
    Calls Tryz.prog 69 #[.pointer (some ⟨b, 0, none⟩)] w fun e w' => e = .returned (.tuple #[]) ∧ w' = w.setCell ⟨b, 0, none⟩ (.pointer (some ⟨b, 0, none⟩)) := by
  obtain ⟨j, hj, hjs⟩ := Option.map_eq_some_iff.1 size_bld
  have h0 : w.cell? ⟨b, 0, none⟩ = some (.pointer none) := by rw [Lib.cell_of_heap hbk]; rfl
  have hsh : w.shape? b = some (63, 2) := by simp [World.shape?, hbk]
  have hfz := Lib.frozen_of_heap hbk 0
  go_enter Tryz.func69, Tryz.ntmps69
  go_wp2
  rw [Lib.run_to_unsafe w ⟨b, 0, none⟩ ptr_bld ptr_raw hj (by rw [hjs]; decide) hsh (Nat.zero_lt_succ 1)]
  simp only [Result.andThen]
  rw [Oper.upon_value]
  go_wp2
  rw [run_callFunc_extern Tryz.func99 (by kernel_rfl) (by kernel_rfl) (by kernel_rfl) (e := Extern.AbiNoEscape.same) (by kernel_rfl)]
  rw [Lib.run_noEscape]
  simp only [Result.andThen]
  rw [Oper.upon_value]
  go_wp2
  rw [Lib.run_from_unsafe w ⟨b, 0, none⟩ ptr_raw ptr_bld hj hsh lies_plain.lies]
  simp only [Result.andThen]
  rw [Oper.upon_value]
  go_wp2
  go_end0
  exact ⟨rfl, rfl⟩

set_option maxHeartbeats 2000000 in
set_option maxRecDepth 100000 in
theorem grow (B b n : Nat) (w : World) (hB : B ≤ b) (hbk : w.heap[b]? = some (.cells #[.pointer none, .slice none 0 0] 63 (0, 0))) (hBw : B ≤ w.heap.size) (hn : n ≤ 281474976710656) :
    Calls Tryz.prog 86 #[.pointer (some ⟨b, 0, none⟩), .int .i64 n] w fun e w' => e = .returned (.tuple #[]) ∧ (Lib.BuilderAt 63 5 B b (.pointer (some ⟨b, 0, none⟩)) [] w' ∧ Below B w w') := by
  have hbk1 : (w.setCell ⟨b, 0, none⟩ (.pointer (some ⟨b, 0, none⟩))).heap[b]? = some (.cells #[.pointer (some ⟨b, 0, none⟩), .slice none 0 0] 63 (0, 0)) := by
    simp [World.setCell, Array.getElem?_modify, hbk]
  have c1 : (w.setCell ⟨b, 0, none⟩ (.pointer (some ⟨b, 0, none⟩))).cell? ⟨b, 1, none⟩ = some (.slice none 0 0) := by rw [Lib.cell_of_heap hbk1]; rfl
  have hb1 : Below B w (w.setCell ⟨b, 0, none⟩ (.pointer (some ⟨b, 0, none⟩))) := (Below.refl B w).setCell (p := ⟨b, 0, none⟩) hB _
  have hU : Lib.BuilderAt 63 5 B b (.pointer (some ⟨b, 0, none⟩)) [] (w.setCell ⟨b, 0, none⟩ (.pointer (some ⟨b, 0, none⟩))) := ⟨hB, .slice none 0 0, hbk1, World.ownsRow_nil _ _ _ _, by simp [Value.ownBlock]⟩
  have c1' : (w.setCell ⟨b, 0, none⟩ (.pointer (some ⟨b, 0, none⟩))).drew.cell? ⟨b, 1, none⟩ = some (.slice none 0 0) := c1
  have HU := Lib.hid hU
  clear hU
  go_enter Tryz.func86, Tryz.ntmps86
  go_wp2_with (go_at_call 69; refine (check_fresh b w hbk).mono ?_; rintro e w' ⟨rfl, rfl⟩)
  go_region
  all_goals go_wp2_with (go_at_call 116; refine (Tryz.Builder_grow_fresh B b n (w.setCell ⟨b, 0, none⟩ (.pointer (some ⟨b, 0, none⟩))).drew hB hbk1 (by simpa [World.setCell, World.drew, -World.drew_eq] using hBw) hn).mono ?_; rintro e w' ⟨rfl, h1, h2⟩)
  all_goals first
    | (go_end0; exact ⟨rfl, h1, hb1.drew.trans h2⟩)
    | (go_end0; exact ⟨rfl, HU.out.drew, hb1.drew⟩)

theorem dbl_none (l : List UInt8) (h : Lib.countByte l 39 = 0) : l.flatMap dbl = l := by
  unfold Lib.countByte at h
  induction l with
  | nil => rfl
  | cons c t ih =>
    rw [List.count_cons] at h
    by_cases e : c = 39
    · subst e; simp at h
    · rw [List.flatMap_cons, ih (by omega)]
      unfold dbl; rw [if_neg e]; rfl
theorem index_is (l : List UInt8) (h : 0 < Lib.countByte l 39) : ∃ o : Nat, Lib.indexByte l 39 = o ∧ o < l.length ∧ (l.take (o + 1)).flatMap dbl = l.take o ++ [39, 39] ∧ Lib.countByte (l.drop (o + 1)) 39 + 1 = Lib.countByte l 39 := by
  unfold Lib.countByte at h ⊢
  induction l with
  | nil => simp at h
  | cons c t ih =>
    by_cases e : c = 39
    · subst e
      refine ⟨0, by unfold Lib.indexByte; rw [if_pos (by decide)]; rfl, by simp, by simp [dbl], ?_⟩
      rw [List.count_cons_self]; rfl
    · rw [List.count_cons, beq_eq_false_iff_ne.2 e, if_neg (by decide), Nat.add_zero] at h
      obtain ⟨o, h1, h2, h3, h4⟩ := ih h
      refine ⟨o + 1, ?_, by simp; omega, ?_, ?_⟩
      · unfold Lib.indexByte
        rw [beq_eq_false_iff_ne.2 e, if_neg (by decide), h1, if_neg (by rw [beq_iff_eq]; omega)]
        rfl
      · rw [List.take_succ_cons, List.flatMap_cons, h3, List.take_succ_cons]
        unfold dbl; rw [if_neg e]; rfl
      · rw [List.drop_succ_cons, h4, List.count_cons, beq_eq_false_iff_ne.2 e]; rfl
theorem dbl_len (l : List UInt8) : (l.flatMap dbl).length ≤ 2 * l.length := by
  induction l with
  | nil => simp
  | cons c t ih => rw [List.flatMap_cons, List.length_append, List.length_cons]; have : (dbl c).length ≤ 2 := by { unfold dbl; split <;> simp }; omega
theorem count_le (l : List UInt8) : Lib.countByte l 39 ≤ l.length := by unfold Lib.countByte; exact List.count_le_length

set_option maxHeartbeats 1600000 in
set_option maxRecDepth 100000 in
theorem replace_in (s : ByteArray) (hs : s.size ≤ 1099511627775) (w : World) :
    Calls Tryz.prog 55 #[.string s, .string ⟨#[39]⟩, .string ⟨#[39, 39]⟩, .int .i64 (-1)] w fun e w' => e = .returned (.string ⟨(s.data.toList.flatMap dbl).toArray⟩) ∧ Below w.heap.size w w' := by
  have hL := Lib.hid (size_list s)
  obtain ⟨m, hm⟩ : ∃ m, m = Lib.countByte s.data.toList 39 := ⟨_, rfl⟩
  have hcl := count_le s.data.toList
  rw [← hm, ← hL.out] at hcl
  have hcnt := Tryz.strings_Count_one s 39
  rw [← hm] at hcnt
  by_cases h0 : m = 0
  · subst h0
    have hE : (⟨(s.data.toList.flatMap dbl).toArray⟩ : ByteArray) = s := by rw [dbl_none _ hm.symm]
    rw [hE]
    clear hE hcl hm
    go_enter Tryz.func55, Tryz.ntmps55
    go_wp2_with (go_at_call 85; refine (hcnt _).mono ?_; rintro e w' ⟨rfl, rfl⟩)
    go_ret
    exact ⟨rfl, Below.refl _ _⟩
  · have hne : (((m : Nat) : Int) == 0) = false := by rw [beq_eq_false_iff_ne]; omega
    have hlt0 : decide (((m : Nat) : Int) < 0) = false := decide_eq_false (by omega)
    have hbk := heap_alloc_new w (.cells #[.pointer none, .slice none 0 0] 63)
    have HM := Lib.hid hm
    clear hm
    go_enter Tryz.func55, Tryz.ntmps55
    go_wp2_with (go_at_call 85; refine (hcnt _).mono ?_; rintro e w' ⟨rfl, rfl⟩)
    go_wp2_with (go_at_call 86; rw [show ((s.size : Int) + (m : Int)) = ((s.size + m : Nat) : Int) from rfl]; refine (grow _ _ (s.size + m) _ (Nat.le_refl _) hbk (by simp) (by omega)).mono ?_; rintro e w2 ⟨rfl, hbd, hb2⟩)
    have hI0 : Lib.IsBuilderF 63 5 w'.heap.size w'.heap.size (Lib.byteCells []) w2 := Lib.IsBuilderF.of (.inr hbd)
    have hbel0 : Below w'.heap.size w' w2 := ((Below.refl _ w').alloc (Nat.le_refl _) _).trans hb2
    clear hbd hb2 hbk hcnt
    go_loopw [11, 53] (fun vp vi wr => ∃ (p i : Nat), vp = .int .i64 p ∧ vi = .int .i64 i ∧ i ≤ m ∧ p ≤ s.size ∧ Hid (Lib.countByte (s.data.toList.drop p) 39 + i = m) ∧ Lib.IsBuilderF 63 5 w'.heap.size w'.heap.size (Lib.byteCells ((s.data.toList.take p).flatMap dbl)) wr ∧ Below w'.heap.size w' wr) (fun _ vi _ => m - (intOf vi).toNat)
    case atStart => exact ⟨0, 0, rfl, rfl, Nat.zero_le _, Nat.zero_le _, by rw [List.drop_zero, ← HM.out]; exact Lib.hid rfl, hI0, hbel0⟩
    case round =>
      obtain ⟨p, i, rfl, rfl, hi, hp, hcn, hI, hb⟩ := hrel
      by_cases hlt : i < m
      · have hc : decide ((i : Int) < (m : Int)) = true := decide_eq_true (by omega)
        obtain ⟨o, h1, h2, h3, h4⟩ := index_is (s.data.toList.drop p) (by have := hcn.out; omega)
        rw [List.length_drop, ← hL.out] at h2
        have hix : ∀ W : World, Calls Tryz.prog 87 #[.string (s.extract p s.size), .string ⟨#[39]⟩] W fun e w' => e = .returned (.int .i64 (o : Int)) ∧ w' = W := fun W => by
          have := Tryz.strings_Index_one (s.extract p s.size) 39 W
          rw [drop_list, h1] at this
          exact this
        have hcut : (s.extract p (p + o)).data.toList = (s.data.toList.drop p).take o := by rw [extract_list, Nat.add_sub_cancel_left]
        have hacc : (s.data.toList.take (p + o + 1)).flatMap dbl = (s.data.toList.take p).flatMap dbl ++ ((s.data.toList.drop p).take o ++ [39, 39]) := by
          rw [show p + o + 1 = p + (o + 1) by omega, List.take_add, List.flatMap_append, h3]
        have hcn2 : Lib.countByte (s.data.toList.drop (p + o + 1)) 39 + (i + 1) = m := by
          have := hcn.out
          rw [List.drop_drop] at h4
          rw [show p + o + 1 = p + (o + 1) by omega]; omega
        have HA := Lib.hid hacc; have HC := Lib.hid hcn2; have HCut := Lib.hid hcut
        have hl1 := dbl_len (s.data.toList.take p)
        have hl2 : (s.data.toList.take p).length ≤ s.size := by rw [List.length_take]; omega
        have hsz : (s.extract p (p + o)).size = o := by rw [size_list, hcut, List.length_take, List.length_drop, ← hL.out]; omega
        have j1 : ((p : Int) ≤ (p : Int) + (o : Int)) = True := eq_true (by omega)
        have j2 : ((p : Int) + (o : Int) ≤ (s.size : Int)) = True := eq_true (by omega)
        have j3 : ((p : Int) + (o : Int)).toNat = p + o := by omega
        clear hacc hcn2 hcut h1 h3 h4 hcn
        go_wp2_with (go_at_call 87; refine (hix _).mono ?_; rintro e w3 ⟨rfl, hw3⟩; subst hw3)
        go_wp2_with (go_at_call 39; refine (Bld.text 63 Bld.lies_plain _ _ _ (s.extract p (p + o)) _ hI (by rw [Lib.byteCells_length, hsz]; omega) hb.size).mono ?_)
        rintro e w4 ⟨rfl, h4, b4, k4⟩
        go_wp2_with (go_at_call 39; refine (Bld.text 63 Bld.lies_plain _ _ _ ⟨#[39, 39]⟩ _ (.inr h4) (by rw [List.length_append, Lib.byteCells_length, Lib.strCells_length, hsz]; show _ + 2 ≤ _; omega) (Nat.le_trans hb.size b4.size)).mono ?_)
        rintro e w5 ⟨rfl, h5, b5, k5⟩
        go_wp2
        refine ⟨⟨p + o + 1, i + 1, by first | rfl | (congr 1; omega), by first | rfl | (congr 1; omega), by omega, by omega, Lib.hid HC.out, ?_, hb.trans (b4.trans b5)⟩, by simp [intOf]; omega⟩
        rw [HA.out, Lib.byteCells_append, Lib.byteCells_append, ← List.append_assoc]
        refine .inr ?_
        have e1 : Lib.strCells (s.extract p (p + o)) = Lib.byteCells ((s.data.toList.drop p).take o) := by rw [← HCut.out]; rfl
        rw [e1] at h5
        exact h5
      · have hc : decide ((i : Int) < (m : Int)) = false := decide_eq_false (by omega)
        have hie : i = m := by omega
        subst hie
        have hz : Lib.countByte (s.data.toList.drop p) 39 = 0 := by have := hcn.out; omega
        have hD := dbl_none _ hz
        have hfin : s.data.toList.flatMap dbl = (s.data.toList.take p).flatMap dbl ++ s.data.toList.drop p := by
          conv => lhs; rw [← List.take_append_drop p s.data.toList]
          rw [List.flatMap_append, hD]
        have HF := Lib.hid hfin
        have hl1 := dbl_len (s.data.toList.take p)
        have hl2 : (s.data.toList.take p).length ≤ s.size := by rw [List.length_take]; omega
        have hl3 : (s.extract p s.size).size ≤ s.size := by rw [size_list, drop_list, List.length_drop, ← hL.out]; omega
        have hcell : Hid (Lib.strCells (s.extract p s.size) = Lib.byteCells (s.data.toList.drop p)) := by
          refine Lib.hid ?_
          rw [← drop_list]; rfl
        have j1 : ((p : Int) ≤ (s.size : Int)) = True := eq_true (by omega)
        clear hcn hz hD hfin
        go_wp2_with (go_at_call 39; refine (Bld.text 63 Bld.lies_plain _ _ _ (s.extract p s.size) _ hI (by rw [Lib.byteCells_length]; omega) hb.size).mono ?_)
        rintro e w4 ⟨rfl, h4, b4, k4⟩
        rw [hcell.out, ← Lib.byteCells_append, ← HF.out] at h4
        go_wp2_with (go_at_call 32; refine (Bld.got _ _ _ _ _ (.inr h4) (Nat.le_trans hb.size b4.size)).mono ?_)
        rintro e w5 ⟨rfl, b5⟩
        go_wp2
        go_ret
        exact ⟨rfl, hb.trans (b4.trans b5)⟩

def strings_ReplaceAll.f (a0 a1 a2 : ByteArray) : Option ByteArray :=
  if a0.size ≤ 1099511627775 ∧ a1.data.toList = [39] ∧ a2.data.toList = [39, 39] then some ⟨(a0.data.toList.flatMap dbl).toArray⟩ else none
set_option maxRecDepth 100000 in
theorem strings_ReplaceAll.calls (a0 a1 a2 : ByteArray) (r : ByteArray) (w : World) (_hG : Glob.G w) (h : strings_ReplaceAll.f a0 a1 a2 = some r) :
    Calls Tryz.prog 29 #[.string a0, .string a1, .string a2] w fun e w' => e = .returned (.string r) ∧ Below w.heap.size w w' := by
  unfold strings_ReplaceAll.f at h
  by_cases c : a0.size ≤ 1099511627775 ∧ a1.data.toList = [39] ∧ a2.data.toList = [39, 39]
  · rw [if_pos c] at h
    obtain rfl := Option.some.inj h
    obtain ⟨c1, c2, c3⟩ := c
    obtain rfl : a1 = ⟨#[39]⟩ := by cases a1 with | mk d => exact congrArg ByteArray.mk (Array.toList_inj.1 c2)
    obtain rfl : a2 = ⟨#[39, 39]⟩ := by cases a2 with | mk d => exact congrArg ByteArray.mk (Array.toList_inj.1 c3)
    have hR := fun W => replace_in a0 c1 W
    clear h
    go_enter Tryz.func29, Tryz.ntmps29
    go_wp2_with (go_at_call 55; refine (hR _).mono ?_; rintro e w1 ⟨rfl, hb⟩)
    go_ret
    exact ⟨rfl, hb⟩
  · rw [if_neg c] at h; cases h
end Go.Proofs.YtmkdjgmdfhagfaaGreatDoor.Plug

/- What the program puts in single quotes; conditions: texts of at most 2^40 bytes. -/
namespace Go.Proofs.YtmkdjgmdfhagfaaGreatDoor.Utf
open Go.RowKit Go.Proofs.YtmkdjgmdfhagfaaGreatDoor.PX Go.Proofs.YtmkdjgmdfhagfaaGreatDoor.Plug Go.Proofs.YtmkdjgmdfhagfaaGreatDoorW.PrintWords Go.Proofs.YtmkdjgmdfhagfaaGreatDoorW.PrintLast

theorem signsF_fuel : ∀ (k k' : Nat) (l : List UInt8), l.length ≤ k → l.length ≤ k' → signsF k l = signsF k' l
  | 0, k', l, h, _ => by
    have : l = [] := List.eq_nil_of_length_eq_zero (by omega)
    subst this
    cases k' <;> simp [signsF]
  | k + 1, 0, l, _, h => by
    have : l = [] := List.eq_nil_of_length_eq_zero (by omega)
    subst this
    simp [signsF]
  | k + 1, k' + 1, l, h, h' => by
    by_cases hn : l = []
    · subst hn; simp [signsF]
    · have hw := dec_len l hn
      unfold signsF
      rw [signsF_fuel k k' (l.drop (dec l).2) (by rw [List.length_drop]; omega) (by rw [List.length_drop]; omega)]
theorem simpB_nil : simpB [] = true := rfl
theorem simpB_step (l : List UInt8) (hn : l ≠ []) : simpB l = (may (dec l).1 && simpB (l.drop (dec l).2)) := by
  have hw := dec_len l hn
  obtain ⟨k, hk⟩ : ∃ k, l.length = k + 1 := ⟨l.length - 1, by omega⟩
  have hs : signs l = if (dec l).1 < 0 then none else (signs (l.drop (dec l).2)).map ((dec l).1 :: ·) := by
    unfold signs
    rw [hk, signsF, if_neg hn, signsF_fuel k (l.drop (dec l).2).length (l.drop (dec l).2) (by rw [List.length_drop]; omega) (Nat.le_refl _)]
  unfold simpB
  rw [hs]
  by_cases d : (dec l).1 < 0
  · rw [if_pos d]
    have : may (dec l).1 = false := by
      cases hm : may (dec l).1 with
      | false => rfl
      | true => have := (sgn_nat (may_sgn hm)).1; omega
    rw [this]; rfl
  · rw [if_neg d]
    cases signs (l.drop (dec l).2) with
    | none => simp
    | some zs => simp

theorem prog_simple : ∀ (k : Nat) (s : ByteArray), s.size ≤ 1099511627775 → s.size < k → quote_Simple.l0 k s = some (simpB s.data.toList)
  | 0, s, _, h => by omega
  | k + 1, s, hs, h => by
    have hL := size_list s
    rw [quote_Simple.l0, Lib.toList_data]
    by_cases hn : s.data.toList = []
    · rw [if_pos hn, hn]; rfl
    · have hw := dec_len _ hn
      rw [if_neg hn, prog_first, Option.bind_some]
      dsimp only
      rw [prog_may, Option.bind_some, simpB_step _ hn]
      cases may (dec s.data.toList).1 with
      | false => rfl
      | true =>
        rw [if_pos rfl, if_pos (by omega), if_pos (by omega), Int.toNat_natCast, prog_simple k _ (by rw [size_list, drop_list, List.length_drop]; omega) (by rw [size_list, drop_list, List.length_drop]; omega), drop_list]; rfl

theorem simple_of (k : Nat) (s : ByteArray) (hs : s.size ≤ 1099511627775) (h : s.size < k) : quote_Simple.f k s = some (simpB s.data.toList) := prog_simple k s hs h
theorem singleB_len (l : List UInt8) : (singleB l).length = 2 + (l.flatMap dbl).length := by unfold singleB; simp; omega
end Go.Proofs.YtmkdjgmdfhagfaaGreatDoor.Utf

/- Texts put in single quotes (quote.Single), by hand, in the form in which the printed functions are told. Conditions: the text has at most 2^40 bytes. -/
namespace Go.Proofs.YtmkdjgmdfhagfaaGreatDoor.Plug
open Go.RowKit Go.Proofs.YtmkdjgmdfhagfaaGreatDoor Go.Proofs.YtmkdjgmdfhagfaaGreatDoor.PX Go.Proofs.YtmkdjgmdfhagfaaGreatDoor.Utf Go.Proofs.YtmkdjgmdfhagfaaGreatDoorW.PrintWords Go.Proofs.YtmkdjgmdfhagfaaGreatDoorW.PrintLast

def quote_Single.f (a0 : ByteArray) : Option (ByteArray × Int) := if a0.size ≤ 1099511627775 then some (if simpB a0.data.toList = true then (⟨(singleB a0.data.toList).toArray⟩, 0) else (⟨#[]⟩, 8)) else none

set_option maxHeartbeats 1600000 in
set_option maxRecDepth 100000 in
theorem quote_Single.calls (a0 : ByteArray) (r1 : ByteArray) (r2 : Int) (w : World) (hG : Glob.G w) (h : quote_Single.f a0 = some (r1, r2)) :
    Calls Tryz.prog 10 #[.string a0] w fun e w' => e = .returned (.tuple #[.string r1, .int .i64 r2]) ∧ Below w.heap.size w w' := by
  unfold quote_Single.f at h
  by_cases hs : a0.size ≤ 1099511627775
  · rw [if_pos hs] at h
    have hS := Lib.hid (simple_of (a0.size + 1) a0 hs (Nat.lt_succ_self _))
    have h := Option.some.inj h
    cases hc : simpB a0.data.toList with
    | false =>
      rw [hc] at hS h
      rw [if_neg (by decide)] at h
      obtain ⟨rfl, rfl⟩ := Prod.mk.inj h
      clear hc h
      go_enter Tryz.func10, Tryz.ntmps10
      go_wp2_with (go_at_call 14; refine (quote_Simple.calls _ _ _ _ hG hS.out).mono ?_; rintro e w1 ⟨rfl, hb1⟩)
      go_ret2
      exact ⟨rfl, hb1⟩
    | true =>
      rw [hc] at hS h
      rw [if_pos rfl] at h
      obtain ⟨rfl, rfl⟩ := Prod.mk.inj h
      have hd := dbl_len a0.data.toList
      rw [← size_list] at hd
      have hR : strings_ReplaceAll.f a0 (⟨#[39]⟩ : ByteArray) (⟨#[39, 39]⟩ : ByteArray) = some ⟨(a0.data.toList.flatMap dbl).toArray⟩ := by
        unfold strings_ReplaceAll.f; rw [if_pos ⟨hs, rfl, rfl⟩]
      obtain ⟨t, ht⟩ : ∃ t : ByteArray, t = ⟨(a0.data.toList.flatMap dbl).toArray⟩ := ⟨_, rfl⟩
      have hts : t.size ≤ 2 * a0.size := by rw [ht]; exact hd
      have hfin : ((⟨#[39]⟩ : ByteArray) ++ t) ++ (⟨#[39]⟩ : ByteArray) = ⟨(singleB a0.data.toList).toArray⟩ := of_bytes (by rw [app_bytes, app_bytes, ht]; rfl)
      rw [← ht] at hR
      have HF := Lib.hid hfin; have HR := Lib.hid hR
      have s1 : 1 + t.size ≤ 9223372036854775807 := by omega
      have s2 : ((⟨#[39]⟩ : ByteArray) ++ t).size + 1 ≤ 9223372036854775807 := by
        rw [size_list, app_bytes, List.length_append, ← size_list t]
        show 1 + t.size + 1 ≤ _
        omega
      clear hfin ht hR hd hc h
      go_enter Tryz.func10, Tryz.ntmps10
      go_wp2_with (first | (go_at_call 14; refine (quote_Simple.calls _ _ _ _ hG hS.out).mono ?_; rintro e w1 ⟨rfl, hb1⟩) | (go_at_call 29; refine (strings_ReplaceAll.calls _ _ _ _ _ (hG.below hb1) HR.out).mono ?_; rintro e w2 ⟨rfl, hb2⟩))
      go_ret2
      exact ⟨by rw [← HF.out]; rfl, hb1.trans (hb2.mono hb1.size)⟩
  · rw [if_neg hs] at h; cases h

theorem single_of (s : ByteArray) (hs : s.size ≤ 1099511627775) : quote_Single.f s = some (if simpB s.data.toList = true then (⟨(singleB s.data.toList).toArray⟩, 0) else (⟨#[]⟩, 8)) := by
  unfold quote_Single.f; rw [if_pos hs]
end Go.Proofs.YtmkdjgmdfhagfaaGreatDoor.Plug

/- YtmkdjgmdfhagfaaGreatDoorFGrommetlaw07QuoteWrites: what print.py told of Go functions, for this claim. -/
namespace Go.Proofs.YtmkdjgmdfhagfaaGreatDoor.PX
open Go.RowKit Go.Proofs.YtmkdjgmdfhagfaaGreatDoorW.PrintWords Go.Proofs.YtmkdjgmdfhagfaaGreatDoorW.PrintLast Go.Proofs.YtmkdjgmdfhagfaaGreatDoorW.PrintMore Go.Proofs.YtmkdjgmdfhagfaaGreatDoor Go.Proofs.YtmkdjgmdfhagfaaGreatDoor.Plug
attribute [local go_sem] max2_int min2_int max_two min_two max_three min_three max_four min_four   -- for this text's walks alone
set_option linter.unusedVariables false
set_option linter.unusedSimpArgs false

/-! ### grommetlaw07_QuoteWrites: function 3 -/
def grommetlaw07_QuoteWrites.f (k : Nat) (a0 : ByteArray) : Option (Bool) := (quote_Single.f a0).bind fun bt101 => ((grommetref07_Single.f k a0).bind fun bt103 => ((quote_Double.f a0).bind fun bt105 => ((grommetref07_Double.f k a0).bind fun bt107 => (if bt101.1.toList = bt103.1.toList then (if bt101.2 = bt103.2 then (if bt105.1.toList = bt107.1.toList then (if bt105.2 = bt107.2 then ((quote_Simple.f k a0).bind fun t109 => ((grommetref07_Simple.f k a0).bind fun t110 => (if (t109 == t110) = true then ((grommetlaw07_alive.f).bind fun t111 => (some t111)) else (some false)))) else (some false)) else (some false)) else (some false)) else (some false)))))
theorem grommetlaw07_QuoteWrites.mono : ∀ a0 k, LeO (grommetlaw07_QuoteWrites.f k a0) (grommetlaw07_QuoteWrites.f (k + 1) a0) := by
  intro a0 k
  unfold grommetlaw07_QuoteWrites.f
  repeat' first
      | (with_reducible exact grommetref07_Double.mono _ _)
      | (with_reducible exact grommetref07_Simple.mono _ _)
      | (with_reducible exact grommetref07_Single.mono _ _)
      | (with_reducible exact quote_Simple.mono _ _)
      | (with_reducible exact LeO.refl _)
      | (with_reducible exact LeO.none _)
      | (with_reducible refine LeO.ite ?_ ?_)
      | (with_reducible refine LeO.bind ?_ (fun _ => ?_))
      | exact grommetref07_Double.mono _ _
      | exact grommetref07_Simple.mono _ _
      | exact grommetref07_Single.mono _ _
      | exact quote_Simple.mono _ _
      | exact LeO.none _
      | refine LeO.ite ?_ ?_
      | refine LeO.bind ?_ (fun _ => ?_)
set_option maxHeartbeats 8000000 in
set_option maxRecDepth 100000 in
theorem grommetlaw07_QuoteWrites.calls (k : Nat) (a0 : ByteArray) (r : Bool) (w : World) (hG : Glob.G w) (h : grommetlaw07_QuoteWrites.f k a0 = some r) :
    Calls Tryz.prog 3 #[.string a0] w fun e w' => e = .returned (.bool r) ∧ Below w.heap.size w w' := by
  have HB := Aside0.mk (Below.refl w.heap.size w)
  have H : ((quote_Single.f a0).bind fun bt101 => ((grommetref07_Single.f k a0).bind fun bt103 => ((quote_Double.f a0).bind fun bt105 => ((grommetref07_Double.f k a0).bind fun bt107 => (if bt101.1.toList = bt103.1.toList then (if bt101.2 = bt103.2 then (if bt105.1.toList = bt107.1.toList then (if bt105.2 = bt107.2 then ((quote_Simple.f k a0).bind fun t109 => ((grommetref07_Simple.f k a0).bind fun t110 => (if (t109 == t110) = true then ((grommetlaw07_alive.f).bind fun t111 => (some t111)) else (some false)))) else (some false)) else (some false)) else (some false)) else (some false)))))) = some r := h
  clear h
  replace H := Option.bind_eq_some_iff.mp H
  obtain ⟨⟨t101, t102⟩, A20, H⟩ := H
  replace H : ((grommetref07_Single.f k a0).bind fun bt103 => ((quote_Double.f a0).bind fun bt105 => ((grommetref07_Double.f k a0).bind fun bt107 => (if t101.toList = bt103.1.toList then (if t102 = bt103.2 then (if bt105.1.toList = bt107.1.toList then (if bt105.2 = bt107.2 then ((quote_Simple.f k a0).bind fun t109 => ((grommetref07_Simple.f k a0).bind fun t110 => (if (t109 == t110) = true then ((grommetlaw07_alive.f).bind fun t111 => (some t111)) else (some false)))) else (some false)) else (some false)) else (some false)) else (some false))))) = some r := H
  have A2 := Aside0.mk A20
  clear A20
  replace H := Option.bind_eq_some_iff.mp H
  obtain ⟨⟨t103, t104⟩, A30, H⟩ := H
  replace H : ((quote_Double.f a0).bind fun bt105 => ((grommetref07_Double.f k a0).bind fun bt107 => (if t101.toList = t103.toList then (if t102 = t104 then (if bt105.1.toList = bt107.1.toList then (if bt105.2 = bt107.2 then ((quote_Simple.f k a0).bind fun t109 => ((grommetref07_Simple.f k a0).bind fun t110 => (if (t109 == t110) = true then ((grommetlaw07_alive.f).bind fun t111 => (some t111)) else (some false)))) else (some false)) else (some false)) else (some false)) else (some false)))) = some r := H
  have A3 := Aside0.mk A30
  clear A30
  replace H := Option.bind_eq_some_iff.mp H
  obtain ⟨⟨t105, t106⟩, A40, H⟩ := H
  replace H : ((grommetref07_Double.f k a0).bind fun bt107 => (if t101.toList = t103.toList then (if t102 = t104 then (if t105.toList = bt107.1.toList then (if t106 = bt107.2 then ((quote_Simple.f k a0).bind fun t109 => ((grommetref07_Simple.f k a0).bind fun t110 => (if (t109 == t110) = true then ((grommetlaw07_alive.f).bind fun t111 => (some t111)) else (some false)))) else (some false)) else (some false)) else (some false)) else (some false))) = some r := H
  have A4 := Aside0.mk A40
  clear A40
  replace H := Option.bind_eq_some_iff.mp H
  obtain ⟨⟨t107, t108⟩, A50, H⟩ := H
  replace H : (if t101.toList = t103.toList then (if t102 = t104 then (if t105.toList = t107.toList then (if t106 = t108 then ((quote_Simple.f k a0).bind fun t109 => ((grommetref07_Simple.f k a0).bind fun t110 => (if (t109 == t110) = true then ((grommetlaw07_alive.f).bind fun t111 => (some t111)) else (some false)))) else (some false)) else (some false)) else (some false)) else (some false)) = some r := H
  have A5 := Aside0.mk A50
  clear A50
  by_cases c6 : t101.toList = t103.toList
  · rw [if_pos c6] at H
    have c6b0 : (t101.toList == t103.toList) = true := beq_iff_eq.mpr c6
    have c6b1 : (t101.toList != t103.toList) = false := bne_eq_false_iff_eq.mpr c6
    clear c6
    by_cases c7 : t102 = t104
    · rw [if_pos c7] at H
      have c7b0 : (t102 == t104) = true := beq_iff_eq.mpr c7
      have c7b1 : (t102 != t104) = false := bne_eq_false_iff_eq.mpr c7
      clear c7
      by_cases c8 : t105.toList = t107.toList
      · rw [if_pos c8] at H
        have c8b0 : (t105.toList == t107.toList) = true := beq_iff_eq.mpr c8
        have c8b1 : (t105.toList != t107.toList) = false := bne_eq_false_iff_eq.mpr c8
        clear c8
        by_cases c9 : t106 = t108
        · rw [if_pos c9] at H
          have c9b0 : (t106 == t108) = true := beq_iff_eq.mpr c9
          have c9b1 : (t106 != t108) = false := bne_eq_false_iff_eq.mpr c9
          clear c9
          replace H := Option.bind_eq_some_iff.mp H
          obtain ⟨t109, A100, H⟩ := H
          replace H : ((grommetref07_Simple.f k a0).bind fun t110 => (if (t109 == t110) = true then ((grommetlaw07_alive.f).bind fun t111 => (some t111)) else (some false))) = some r := H
          have A10 := Aside0.mk A100
          clear A100
          replace H := Option.bind_eq_some_iff.mp H
          obtain ⟨t110, A110, H⟩ := H
          replace H : (if (t109 == t110) = true then ((grommetlaw07_alive.f).bind fun t111 => (some t111)) else (some false)) = some r := H
          have A11 := Aside0.mk A110
          clear A110
          by_cases c12 : (t109 == t110) = true
          · rw [if_pos c12] at H
            have c12b0 : (t109 == t110) = true := c12
            (try (have c12b1 : decide (t109 = t110) = true := by simpa using c12))
            (try (have c12b2 : (t109 == t110) = true := by simpa using c12))
            clear c12
            replace H := Option.bind_eq_some_iff.mp H
            obtain ⟨t111, A130, H⟩ := H
            replace H : (some t111) = some r := H
            have A13 := Aside0.mk A130
            clear A130
            obtain rfl := Option.some.inj H
            go_enter Tryz.func3, Tryz.ntmps3
            go_wp2_with (first | ((with_reducible refine gate_callee (f := 10) rfl ?_); refine goesL_ (some 13) rfl rfl Tryz.func10 (by kernel_rfl) rfl #[.string a0] rfl (by (try simp only [List.map_toArray, List.map_cons, List.map_nil]); first | done | rfl | (simp only [List.length_drop, List.length_take]; rfl)) ?_; (with_reducible refine (quote_Single.calls a0 t101 t102 _ (hG.below (by first | ((repeat (first | (with_reducible first | exact HB.out | apply below_alloc | apply pw_below_drewN | apply below_drew1 | (refine Glob.below_set ?_ (by assumption) _ _ _)) | exact HB.out)); done) | (refine Drawn0.below ?_; repeat (first | exact Drawn0.refl _ | assumption | apply Drawn0.step)))) A2.out).mono ?_); rintro e w14 ⟨rfl, hb⟩; refine ⟨_, rfl, ?_⟩; have n0_ := Aside0.mk (below_step (by repeat (first | (with_reducible first | exact HB.out | apply below_alloc | apply pw_below_drewN | apply below_drew1) | exact HB.out)) hb); clear HB; have HB := n0_; clear n0_; (try clear hb); (try clear hb2); (try clear hk); (try clear hi)) | ((with_reducible refine gate_callee (f := 11) rfl ?_); refine goesL_ (some 18) rfl rfl Tryz.func11 (by kernel_rfl) rfl #[.string a0] rfl (by (try simp only [List.map_toArray, List.map_cons, List.map_nil]); first | done | rfl | (simp only [List.length_drop, List.length_take]; rfl)) ?_; (with_reducible refine (grommetref07_Single.calls k a0 t103 t104 _ (hG.below (by first | ((repeat (first | (with_reducible first | exact HB.out | apply below_alloc | apply pw_below_drewN | apply below_drew1 | (refine Glob.below_set ?_ (by assumption) _ _ _)) | exact HB.out)); done) | (refine Drawn0.below ?_; repeat (first | exact Drawn0.refl _ | assumption | apply Drawn0.step)))) A3.out).mono ?_); rintro e w15 ⟨rfl, hb⟩; refine ⟨_, rfl, ?_⟩; have n0_ := Aside0.mk (below_step (by repeat (first | (with_reducible first | exact HB.out | apply below_alloc | apply pw_below_drewN | apply below_drew1) | exact HB.out)) hb); clear HB; have HB := n0_; clear n0_; (try clear hb); (try clear hb2); (try clear hk); (try clear hi)) | ((with_reducible refine gate_callee (f := 12) rfl ?_); refine goesL_ (some 23) rfl rfl Tryz.func12 (by kernel_rfl) rfl #[.string a0] rfl (by (try simp only [List.map_toArray, List.map_cons, List.map_nil]); first | done | rfl | (simp only [List.length_drop, List.length_take]; rfl)) ?_; (with_reducible refine (quote_Double.calls a0 t105 t106 _ (hG.below (by first | ((repeat (first | (with_reducible first | exact HB.out | apply below_alloc | apply pw_below_drewN | apply below_drew1 | (refine Glob.below_set ?_ (by assumption) _ _ _)) | exact HB.out)); done) | (refine Drawn0.below ?_; repeat (first | exact Drawn0.refl _ | assumption | apply Drawn0.step)))) A4.out).mono ?_); rintro e w16 ⟨rfl, hb⟩; refine ⟨_, rfl, ?_⟩; have n0_ := Aside0.mk (below_step (by repeat (first | (with_reducible first | exact HB.out | apply below_alloc | apply pw_below_drewN | apply below_drew1) | exact HB.out)) hb); clear HB; have HB := n0_; clear n0_; (try clear hb); (try clear hb2); (try clear hk); (try clear hi)) | ((with_reducible refine gate_callee (f := 13) rfl ?_); refine goesL_ (some 28) rfl rfl Tryz.func13 (by kernel_rfl) rfl #[.string a0] rfl (by (try simp only [List.map_toArray, List.map_cons, List.map_nil]); first | done | rfl | (simp only [List.length_drop, List.length_take]; rfl)) ?_; (with_reducible refine (grommetref07_Double.calls k a0 t107 t108 _ (hG.below (by first | ((repeat (first | (with_reducible first | exact HB.out | apply below_alloc | apply pw_below_drewN | apply below_drew1 | (refine Glob.below_set ?_ (by assumption) _ _ _)) | exact HB.out)); done) | (refine Drawn0.below ?_; repeat (first | exact Drawn0.refl _ | assumption | apply Drawn0.step)))) A5.out).mono ?_); rintro e w17 ⟨rfl, hb⟩; refine ⟨_, rfl, ?_⟩; have n0_ := Aside0.mk (below_step (by repeat (first | (with_reducible first | exact HB.out | apply below_alloc | apply pw_below_drewN | apply below_drew1) | exact HB.out)) hb); clear HB; have HB := n0_; clear n0_; (try clear hb); (try clear hb2); (try clear hk); (try clear hi)) | (go_at_call 14; (with_reducible refine (quote_Simple.calls k a0 t109 _ (hG.below (by first | ((repeat (first | (with_reducible first | exact HB.out | apply below_alloc | apply pw_below_drewN | apply below_drew1 | (refine Glob.below_set ?_ (by assumption) _ _ _)) | exact HB.out)); done) | (refine Drawn0.below ?_; repeat (first | exact Drawn0.refl _ | assumption | apply Drawn0.step)))) A10.out).mono ?_); rintro e w18 ⟨rfl, hb⟩; have n0_ := Aside0.mk (below_step (by repeat (first | (with_reducible first | exact HB.out | apply below_alloc | apply pw_below_drewN | apply below_drew1) | exact HB.out)) hb); clear HB; have HB := n0_; clear n0_; (try clear hb); (try clear hb2); (try clear hk); (try clear hi)) | (go_at_call 15; (with_reducible refine (grommetref07_Simple.calls k a0 t110 _ (hG.below (by first | ((repeat (first | (with_reducible first | exact HB.out | apply below_alloc | apply pw_below_drewN | apply below_drew1 | (refine Glob.below_set ?_ (by assumption) _ _ _)) | exact HB.out)); done) | (refine Drawn0.below ?_; repeat (first | exact Drawn0.refl _ | assumption | apply Drawn0.step)))) A11.out).mono ?_); rintro e w19 ⟨rfl, hb⟩; have n0_ := Aside0.mk (below_step (by repeat (first | (with_reducible first | exact HB.out | apply below_alloc | apply pw_below_drewN | apply below_drew1) | exact HB.out)) hb); clear HB; have HB := n0_; clear n0_; (try clear hb); (try clear hb2); (try clear hk); (try clear hi)) | (go_at_call 16; (with_reducible refine (grommetlaw07_alive.calls  t111 _ (hG.below (by first | ((repeat (first | (with_reducible first | exact HB.out | apply below_alloc | apply pw_below_drewN | apply below_drew1 | (refine Glob.below_set ?_ (by assumption) _ _ _)) | exact HB.out)); done) | (refine Drawn0.below ?_; repeat (first | exact Drawn0.refl _ | assumption | apply Drawn0.step)))) A13.out).mono ?_); rintro e w20 ⟨rfl, hb⟩; have n0_ := Aside0.mk (below_step (by repeat (first | (with_reducible first | exact HB.out | apply below_alloc | apply pw_below_drewN | apply below_drew1) | exact HB.out)) hb); clear HB; have HB := n0_; clear n0_; (try clear hb); (try clear hb2); (try clear hk); (try clear hi)))
            go_ret
            exact ⟨by first | rfl | (simp [errW_none, errW_some] <;> rfl) | (simp [*, errW_none, errW_some] <;> rfl), by repeat (first | (with_reducible first | exact HB.out | apply below_alloc | apply pw_below_drewN | apply below_drew1) | exact HB.out)⟩
          · rw [if_neg c12] at H
            have c12b0 : (t109 == t110) = false := by simpa using c12
            (try (have c12b1 : decide (t109 = t110) = false := by simpa using c12))
            (try (have c12b2 : (t109 == t110) = false := by simpa using c12))
            (try (have c12b3 : ¬ (t109 = t110) := by simpa using c12))
            clear c12
            obtain rfl := Option.some.inj H
            go_enter Tryz.func3, Tryz.ntmps3
            go_wp2_with (first | ((with_reducible refine gate_callee (f := 10) rfl ?_); refine goesL_ (some 13) rfl rfl Tryz.func10 (by kernel_rfl) rfl #[.string a0] rfl (by (try simp only [List.map_toArray, List.map_cons, List.map_nil]); first | done | rfl | (simp only [List.length_drop, List.length_take]; rfl)) ?_; (with_reducible refine (quote_Single.calls a0 t101 t102 _ (hG.below (by first | ((repeat (first | (with_reducible first | exact HB.out | apply below_alloc | apply pw_below_drewN | apply below_drew1 | (refine Glob.below_set ?_ (by assumption) _ _ _)) | exact HB.out)); done) | (refine Drawn0.below ?_; repeat (first | exact Drawn0.refl _ | assumption | apply Drawn0.step)))) A2.out).mono ?_); rintro e w21 ⟨rfl, hb⟩; refine ⟨_, rfl, ?_⟩; have n0_ := Aside0.mk (below_step (by repeat (first | (with_reducible first | exact HB.out | apply below_alloc | apply pw_below_drewN | apply below_drew1) | exact HB.out)) hb); clear HB; have HB := n0_; clear n0_; (try clear hb); (try clear hb2); (try clear hk); (try clear hi)) | ((with_reducible refine gate_callee (f := 11) rfl ?_); refine goesL_ (some 18) rfl rfl Tryz.func11 (by kernel_rfl) rfl #[.string a0] rfl (by (try simp only [List.map_toArray, List.map_cons, List.map_nil]); first | done | rfl | (simp only [List.length_drop, List.length_take]; rfl)) ?_; (with_reducible refine (grommetref07_Single.calls k a0 t103 t104 _ (hG.below (by first | ((repeat (first | (with_reducible first | exact HB.out | apply below_alloc | apply pw_below_drewN | apply below_drew1 | (refine Glob.below_set ?_ (by assumption) _ _ _)) | exact HB.out)); done) | (refine Drawn0.below ?_; repeat (first | exact Drawn0.refl _ | assumption | apply Drawn0.step)))) A3.out).mono ?_); rintro e w22 ⟨rfl, hb⟩; refine ⟨_, rfl, ?_⟩; have n0_ := Aside0.mk (below_step (by repeat (first | (with_reducible first | exact HB.out | apply below_alloc | apply pw_below_drewN | apply below_drew1) | exact HB.out)) hb); clear HB; have HB := n0_; clear n0_; (try clear hb); (try clear hb2); (try clear hk); (try clear hi)) | ((with_reducible refine gate_callee (f := 12) rfl ?_); refine goesL_ (some 23) rfl rfl Tryz.func12 (by kernel_rfl) rfl #[.string a0] rfl (by (try simp only [List.map_toArray, List.map_cons, List.map_nil]); first | done | rfl | (simp only [List.length_drop, List.length_take]; rfl)) ?_; (with_reducible refine (quote_Double.calls a0 t105 t106 _ (hG.below (by first | ((repeat (first | (with_reducible first | exact HB.out | apply below_alloc | apply pw_below_drewN | apply below_drew1 | (refine Glob.below_set ?_ (by assumption) _ _ _)) | exact HB.out)); done) | (refine Drawn0.below ?_; repeat (first | exact Drawn0.refl _ | assumption | apply Drawn0.step)))) A4.out).mono ?_); rintro e w23 ⟨rfl, hb⟩; refine ⟨_, rfl, ?_⟩; have n0_ := Aside0.mk (below_step (by repeat (first | (with_reducible first | exact HB.out | apply below_alloc | apply pw_below_drewN | apply below_drew1) | exact HB.out)) hb); clear HB; have HB := n0_; clear n0_; (try clear hb); (try clear hb2); (try clear hk); (try clear hi)) | ((with_reducible refine gate_callee (f := 13) rfl ?_); refine goesL_ (some 28) rfl rfl Tryz.func13 (by kernel_rfl) rfl #[.string a0] rfl (by (try simp only [List.map_toArray, List.map_cons, List.map_nil]); first | done | rfl | (simp only [List.length_drop, List.length_take]; rfl)) ?_; (with_reducible refine (grommetref07_Double.calls k a0 t107 t108 _ (hG.below (by first | ((repeat (first | (with_reducible first | exact HB.out | apply below_alloc | apply pw_below_drewN | apply below_drew1 | (refine Glob.below_set ?_ (by assumption) _ _ _)) | exact HB.out)); done) | (refine Drawn0.below ?_; repeat (first | exact Drawn0.refl _ | assumption | apply Drawn0.step)))) A5.out).mono ?_); rintro e w24 ⟨rfl, hb⟩; refine ⟨_, rfl, ?_⟩; have n0_ := Aside0.mk (below_step (by repeat (first | (with_reducible first | exact HB.out | apply below_alloc | apply pw_below_drewN | apply below_drew1) | exact HB.out)) hb); clear HB; have HB := n0_; clear n0_; (try clear hb); (try clear hb2); (try clear hk); (try clear hi)) | (go_at_call 14; (with_reducible refine (quote_Simple.calls k a0 t109 _ (hG.below (by first | ((repeat (first | (with_reducible first | exact HB.out | apply below_alloc | apply pw_below_drewN | apply below_drew1 | (refine Glob.below_set ?_ (by assumption) _ _ _)) | exact HB.out)); done) | (refine Drawn0.below ?_; repeat (first | exact Drawn0.refl _ | assumption | apply Drawn0.step)))) A10.out).mono ?_); rintro e w25 ⟨rfl, hb⟩; have n0_ := Aside0.mk (below_step (by repeat (first | (with_reducible first | exact HB.out | apply below_alloc | apply pw_below_drewN | apply below_drew1) | exact HB.out)) hb); clear HB; have HB := n0_; clear n0_; (try clear hb); (try clear hb2); (try clear hk); (try clear hi)) | (go_at_call 15; (with_reducible refine (grommetref07_Simple.calls k a0 t110 _ (hG.below (by first | ((repeat (first | (with_reducible first | exact HB.out | apply below_alloc | apply pw_below_drewN | apply below_drew1 | (refine Glob.below_set ?_ (by assumption) _ _ _)) | exact HB.out)); done) | (refine Drawn0.below ?_; repeat (first | exact Drawn0.refl _ | assumption | apply Drawn0.step)))) A11.out).mono ?_); rintro e w26 ⟨rfl, hb⟩; have n0_ := Aside0.mk (below_step (by repeat (first | (with_reducible first | exact HB.out | apply below_alloc | apply pw_below_drewN | apply below_drew1) | exact HB.out)) hb); clear HB; have HB := n0_; clear n0_; (try clear hb); (try clear hb2); (try clear hk); (try clear hi)))
            go_ret
            exact ⟨by first | rfl | (simp [errW_none, errW_some] <;> rfl) | (simp [*, errW_none, errW_some] <;> rfl), by repeat (first | (with_reducible first | exact HB.out | apply below_alloc | apply pw_below_drewN | apply below_drew1) | exact HB.out)⟩
        · rw [if_neg c9] at H
          have c9b0 : (t106 == t108) = false := beq_eq_false_iff_ne.mpr c9
          have c9b1 : (t106 != t108) = true := bne_iff_ne.mpr c9
          obtain rfl := Option.some.inj H
          go_enter Tryz.func3, Tryz.ntmps3
          go_wp2_with (first | ((with_reducible refine gate_callee (f := 10) rfl ?_); refine goesL_ (some 13) rfl rfl Tryz.func10 (by kernel_rfl) rfl #[.string a0] rfl (by (try simp only [List.map_toArray, List.map_cons, List.map_nil]); first | done | rfl | (simp only [List.length_drop, List.length_take]; rfl)) ?_; (with_reducible refine (quote_Single.calls a0 t101 t102 _ (hG.below (by first | ((repeat (first | (with_reducible first | exact HB.out | apply below_alloc | apply pw_below_drewN | apply below_drew1 | (refine Glob.below_set ?_ (by assumption) _ _ _)) | exact HB.out)); done) | (refine Drawn0.below ?_; repeat (first | exact Drawn0.refl _ | assumption | apply Drawn0.step)))) A2.out).mono ?_); rintro e w27 ⟨rfl, hb⟩; refine ⟨_, rfl, ?_⟩; have n0_ := Aside0.mk (below_step (by repeat (first | (with_reducible first | exact HB.out | apply below_alloc | apply pw_below_drewN | apply below_drew1) | exact HB.out)) hb); clear HB; have HB := n0_; clear n0_; (try clear hb); (try clear hb2); (try clear hk); (try clear hi)) | ((with_reducible refine gate_callee (f := 11) rfl ?_); refine goesL_ (some 18) rfl rfl Tryz.func11 (by kernel_rfl) rfl #[.string a0] rfl (by (try simp only [List.map_toArray, List.map_cons, List.map_nil]); first | done | rfl | (simp only [List.length_drop, List.length_take]; rfl)) ?_; (with_reducible refine (grommetref07_Single.calls k a0 t103 t104 _ (hG.below (by first | ((repeat (first | (with_reducible first | exact HB.out | apply below_alloc | apply pw_below_drewN | apply below_drew1 | (refine Glob.below_set ?_ (by assumption) _ _ _)) | exact HB.out)); done) | (refine Drawn0.below ?_; repeat (first | exact Drawn0.refl _ | assumption | apply Drawn0.step)))) A3.out).mono ?_); rintro e w28 ⟨rfl, hb⟩; refine ⟨_, rfl, ?_⟩; have n0_ := Aside0.mk (below_step (by repeat (first | (with_reducible first | exact HB.out | apply below_alloc | apply pw_below_drewN | apply below_drew1) | exact HB.out)) hb); clear HB; have HB := n0_; clear n0_; (try clear hb); (try clear hb2); (try clear hk); (try clear hi)) | ((with_reducible refine gate_callee (f := 12) rfl ?_); refine goesL_ (some 23) rfl rfl Tryz.func12 (by kernel_rfl) rfl #[.string a0] rfl (by (try simp only [List.map_toArray, List.map_cons, List.map_nil]); first | done | rfl | (simp only [List.length_drop, List.length_take]; rfl)) ?_; (with_reducible refine (quote_Double.calls a0 t105 t106 _ (hG.below (by first | ((repeat (first | (with_reducible first | exact HB.out | apply below_alloc | apply pw_below_drewN | apply below_drew1 | (refine Glob.below_set ?_ (by assumption) _ _ _)) | exact HB.out)); done) | (refine Drawn0.below ?_; repeat (first | exact Drawn0.refl _ | assumption | apply Drawn0.step)))) A4.out).mono ?_); rintro e w29 ⟨rfl, hb⟩; refine ⟨_, rfl, ?_⟩; have n0_ := Aside0.mk (below_step (by repeat (first | (with_reducible first | exact HB.out | apply below_alloc | apply pw_below_drewN | apply below_drew1) | exact HB.out)) hb); clear HB; have HB := n0_; clear n0_; (try clear hb); (try clear hb2); (try clear hk); (try clear hi)) | ((with_reducible refine gate_callee (f := 13) rfl ?_); refine goesL_ (some 28) rfl rfl Tryz.func13 (by kernel_rfl) rfl #[.string a0] rfl (by (try simp only [List.map_toArray, List.map_cons, List.map_nil]); first | done | rfl | (simp only [List.length_drop, List.length_take]; rfl)) ?_; (with_reducible refine (grommetref07_Double.calls k a0 t107 t108 _ (hG.below (by first | ((repeat (first | (with_reducible first | exact HB.out | apply below_alloc | apply pw_below_drewN | apply below_drew1 | (refine Glob.below_set ?_ (by assumption) _ _ _)) | exact HB.out)); done) | (refine Drawn0.below ?_; repeat (first | exact Drawn0.refl _ | assumption | apply Drawn0.step)))) A5.out).mono ?_); rintro e w30 ⟨rfl, hb⟩; refine ⟨_, rfl, ?_⟩; have n0_ := Aside0.mk (below_step (by repeat (first | (with_reducible first | exact HB.out | apply below_alloc | apply pw_below_drewN | apply below_drew1) | exact HB.out)) hb); clear HB; have HB := n0_; clear n0_; (try clear hb); (try clear hb2); (try clear hk); (try clear hi)))
          go_ret
          exact ⟨by first | rfl | (simp [errW_none, errW_some] <;> rfl) | (simp [*, errW_none, errW_some] <;> rfl), by repeat (first | (with_reducible first | exact HB.out | apply below_alloc | apply pw_below_drewN | apply below_drew1) | exact HB.out)⟩
      · rw [if_neg c8] at H
        have c8b0 : (t105.toList == t107.toList) = false := beq_eq_false_iff_ne.mpr c8
        have c8b1 : (t105.toList != t107.toList) = true := bne_iff_ne.mpr c8
        obtain rfl := Option.some.inj H
        go_enter Tryz.func3, Tryz.ntmps3
        go_wp2_with (first | ((with_reducible refine gate_callee (f := 10) rfl ?_); refine goesL_ (some 13) rfl rfl Tryz.func10 (by kernel_rfl) rfl #[.string a0] rfl (by (try simp only [List.map_toArray, List.map_cons, List.map_nil]); first | done | rfl | (simp only [List.length_drop, List.length_take]; rfl)) ?_; (with_reducible refine (quote_Single.calls a0 t101 t102 _ (hG.below (by first | ((repeat (first | (with_reducible first | exact HB.out | apply below_alloc | apply pw_below_drewN | apply below_drew1 | (refine Glob.below_set ?_ (by assumption) _ _ _)) | exact HB.out)); done) | (refine Drawn0.below ?_; repeat (first | exact Drawn0.refl _ | assumption | apply Drawn0.step)))) A2.out).mono ?_); rintro e w31 ⟨rfl, hb⟩; refine ⟨_, rfl, ?_⟩; have n0_ := Aside0.mk (below_step (by repeat (first | (with_reducible first | exact HB.out | apply below_alloc | apply pw_below_drewN | apply below_drew1) | exact HB.out)) hb); clear HB; have HB := n0_; clear n0_; (try clear hb); (try clear hb2); (try clear hk); (try clear hi)) | ((with_reducible refine gate_callee (f := 11) rfl ?_); refine goesL_ (some 18) rfl rfl Tryz.func11 (by kernel_rfl) rfl #[.string a0] rfl (by (try simp only [List.map_toArray, List.map_cons, List.map_nil]); first | done | rfl | (simp only [List.length_drop, List.length_take]; rfl)) ?_; (with_reducible refine (grommetref07_Single.calls k a0 t103 t104 _ (hG.below (by first | ((repeat (first | (with_reducible first | exact HB.out | apply below_alloc | apply pw_below_drewN | apply below_drew1 | (refine Glob.below_set ?_ (by assumption) _ _ _)) | exact HB.out)); done) | (refine Drawn0.below ?_; repeat (first | exact Drawn0.refl _ | assumption | apply Drawn0.step)))) A3.out).mono ?_); rintro e w32 ⟨rfl, hb⟩; refine ⟨_, rfl, ?_⟩; have n0_ := Aside0.mk (below_step (by repeat (first | (with_reducible first | exact HB.out | apply below_alloc | apply pw_below_drewN | apply below_drew1) | exact HB.out)) hb); clear HB; have HB := n0_; clear n0_; (try clear hb); (try clear hb2); (try clear hk); (try clear hi)) | ((with_reducible refine gate_callee (f := 12) rfl ?_); refine goesL_ (some 23) rfl rfl Tryz.func12 (by kernel_rfl) rfl #[.string a0] rfl (by (try simp only [List.map_toArray, List.map_cons, List.map_nil]); first | done | rfl | (simp only [List.length_drop, List.length_take]; rfl)) ?_; (with_reducible refine (quote_Double.calls a0 t105 t106 _ (hG.below (by first | ((repeat (first | (with_reducible first | exact HB.out | apply below_alloc | apply pw_below_drewN | apply below_drew1 | (refine Glob.below_set ?_ (by assumption) _ _ _)) | exact HB.out)); done) | (refine Drawn0.below ?_; repeat (first | exact Drawn0.refl _ | assumption | apply Drawn0.step)))) A4.out).mono ?_); rintro e w33 ⟨rfl, hb⟩; refine ⟨_, rfl, ?_⟩; have n0_ := Aside0.mk (below_step (by repeat (first | (with_reducible first | exact HB.out | apply below_alloc | apply pw_below_drewN | apply below_drew1) | exact HB.out)) hb); clear HB; have HB := n0_; clear n0_; (try clear hb); (try clear hb2); (try clear hk); (try clear hi)) | ((with_reducible refine gate_callee (f := 13) rfl ?_); refine goesL_ (some 28) rfl rfl Tryz.func13 (by kernel_rfl) rfl #[.string a0] rfl (by (try simp only [List.map_toArray, List.map_cons, List.map_nil]); first | done | rfl | (simp only [List.length_drop, List.length_take]; rfl)) ?_; (with_reducible refine (grommetref07_Double.calls k a0 t107 t108 _ (hG.below (by first | ((repeat (first | (with_reducible first | exact HB.out | apply below_alloc | apply pw_below_drewN | apply below_drew1 | (refine Glob.below_set ?_ (by assumption) _ _ _)) | exact HB.out)); done) | (refine Drawn0.below ?_; repeat (first | exact Drawn0.refl _ | assumption | apply Drawn0.step)))) A5.out).mono ?_); rintro e w34 ⟨rfl, hb⟩; refine ⟨_, rfl, ?_⟩; have n0_ := Aside0.mk (below_step (by repeat (first | (with_reducible first | exact HB.out | apply below_alloc | apply pw_below_drewN | apply below_drew1) | exact HB.out)) hb); clear HB; have HB := n0_; clear n0_; (try clear hb); (try clear hb2); (try clear hk); (try clear hi)))
        go_ret
        exact ⟨by first | rfl | (simp [errW_none, errW_some] <;> rfl) | (simp [*, errW_none, errW_some] <;> rfl), by repeat (first | (with_reducible first | exact HB.out | apply below_alloc | apply pw_below_drewN | apply below_drew1) | exact HB.out)⟩
    · rw [if_neg c7] at H
      have c7b0 : (t102 == t104) = false := beq_eq_false_iff_ne.mpr c7
      have c7b1 : (t102 != t104) = true := bne_iff_ne.mpr c7
      obtain rfl := Option.some.inj H
      go_enter Tryz.func3, Tryz.ntmps3
      go_wp2_with (first | ((with_reducible refine gate_callee (f := 10) rfl ?_); refine goesL_ (some 13) rfl rfl Tryz.func10 (by kernel_rfl) rfl #[.string a0] rfl (by (try simp only [List.map_toArray, List.map_cons, List.map_nil]); first | done | rfl | (simp only [List.length_drop, List.length_take]; rfl)) ?_; (with_reducible refine (quote_Single.calls a0 t101 t102 _ (hG.below (by first | ((repeat (first | (with_reducible first | exact HB.out | apply below_alloc | apply pw_below_drewN | apply below_drew1 | (refine Glob.below_set ?_ (by assumption) _ _ _)) | exact HB.out)); done) | (refine Drawn0.below ?_; repeat (first | exact Drawn0.refl _ | assumption | apply Drawn0.step)))) A2.out).mono ?_); rintro e w35 ⟨rfl, hb⟩; refine ⟨_, rfl, ?_⟩; have n0_ := Aside0.mk (below_step (by repeat (first | (with_reducible first | exact HB.out | apply below_alloc | apply pw_below_drewN | apply below_drew1) | exact HB.out)) hb); clear HB; have HB := n0_; clear n0_; (try clear hb); (try clear hb2); (try clear hk); (try clear hi)) | ((with_reducible refine gate_callee (f := 11) rfl ?_); refine goesL_ (some 18) rfl rfl Tryz.func11 (by kernel_rfl) rfl #[.string a0] rfl (by (try simp only [List.map_toArray, List.map_cons, List.map_nil]); first | done | rfl | (simp only [List.length_drop, List.length_take]; rfl)) ?_; (with_reducible refine (grommetref07_Single.calls k a0 t103 t104 _ (hG.below (by first | ((repeat (first | (with_reducible first | exact HB.out | apply below_alloc | apply pw_below_drewN | apply below_drew1 | (refine Glob.below_set ?_ (by assumption) _ _ _)) | exact HB.out)); done) | (refine Drawn0.below ?_; repeat (first | exact Drawn0.refl _ | assumption | apply Drawn0.step)))) A3.out).mono ?_); rintro e w36 ⟨rfl, hb⟩; refine ⟨_, rfl, ?_⟩; have n0_ := Aside0.mk (below_step (by repeat (first | (with_reducible first | exact HB.out | apply below_alloc | apply pw_below_drewN | apply below_drew1) | exact HB.out)) hb); clear HB; have HB := n0_; clear n0_; (try clear hb); (try clear hb2); (try clear hk); (try clear hi)) | ((with_reducible refine gate_callee (f := 12) rfl ?_); refine goesL_ (some 23) rfl rfl Tryz.func12 (by kernel_rfl) rfl #[.string a0] rfl (by (try simp only [List.map_toArray, List.map_cons, List.map_nil]); first | done | rfl | (simp only [List.length_drop, List.length_take]; rfl)) ?_; (with_reducible refine (quote_Double.calls a0 t105 t106 _ (hG.below (by first | ((repeat (first | (with_reducible first | exact HB.out | apply below_alloc | apply pw_below_drewN | apply below_drew1 | (refine Glob.below_set ?_ (by assumption) _ _ _)) | exact HB.out)); done) | (refine Drawn0.below ?_; repeat (first | exact Drawn0.refl _ | assumption | apply Drawn0.step)))) A4.out).mono ?_); rintro e w37 ⟨rfl, hb⟩; refine ⟨_, rfl, ?_⟩; have n0_ := Aside0.mk (below_step (by repeat (first | (with_reducible first | exact HB.out | apply below_alloc | apply pw_below_drewN | apply below_drew1) | exact HB.out)) hb); clear HB; have HB := n0_; clear n0_; (try clear hb); (try clear hb2); (try clear hk); (try clear hi)) | ((with_reducible refine gate_callee (f := 13) rfl ?_); refine goesL_ (some 28) rfl rfl Tryz.func13 (by kernel_rfl) rfl #[.string a0] rfl (by (try simp only [List.map_toArray, List.map_cons, List.map_nil]); first | done | rfl | (simp only [List.length_drop, List.length_take]; rfl)) ?_; (with_reducible refine (grommetref07_Double.calls k a0 t107 t108 _ (hG.below (by first | ((repeat (first | (with_reducible first | exact HB.out | apply below_alloc | apply pw_below_drewN | apply below_drew1 | (refine Glob.below_set ?_ (by assumption) _ _ _)) | exact HB.out)); done) | (refine Drawn0.below ?_; repeat (first | exact Drawn0.refl _ | assumption | apply Drawn0.step)))) A5.out).mono ?_); rintro e w38 ⟨rfl, hb⟩; refine ⟨_, rfl, ?_⟩; have n0_ := Aside0.mk (below_step (by repeat (first | (with_reducible first | exact HB.out | apply below_alloc | apply pw_below_drewN | apply below_drew1) | exact HB.out)) hb); clear HB; have HB := n0_; clear n0_; (try clear hb); (try clear hb2); (try clear hk); (try clear hi)))
      go_ret
      exact ⟨by first | rfl | (simp [errW_none, errW_some] <;> rfl) | (simp [*, errW_none, errW_some] <;> rfl), by repeat (first | (with_reducible first | exact HB.out | apply below_alloc | apply pw_below_drewN | apply below_drew1) | exact HB.out)⟩
  · rw [if_neg c6] at H
    have c6b0 : (t101.toList == t103.toList) = false := beq_eq_false_iff_ne.mpr c6
    have c6b1 : (t101.toList != t103.toList) = true := bne_iff_ne.mpr c6
    obtain rfl := Option.some.inj H
    go_enter Tryz.func3, Tryz.ntmps3
    go_wp2_with (first | ((with_reducible refine gate_callee (f := 10) rfl ?_); refine goesL_ (some 13) rfl rfl Tryz.func10 (by kernel_rfl) rfl #[.string a0] rfl (by (try simp only [List.map_toArray, List.map_cons, List.map_nil]); first | done | rfl | (simp only [List.length_drop, List.length_take]; rfl)) ?_; (with_reducible refine (quote_Single.calls a0 t101 t102 _ (hG.below (by first | ((repeat (first | (with_reducible first | exact HB.out | apply below_alloc | apply pw_below_drewN | apply below_drew1 | (refine Glob.below_set ?_ (by assumption) _ _ _)) | exact HB.out)); done) | (refine Drawn0.below ?_; repeat (first | exact Drawn0.refl _ | assumption | apply Drawn0.step)))) A2.out).mono ?_); rintro e w39 ⟨rfl, hb⟩; refine ⟨_, rfl, ?_⟩; have n0_ := Aside0.mk (below_step (by repeat (first | (with_reducible first | exact HB.out | apply below_alloc | apply pw_below_drewN | apply below_drew1) | exact HB.out)) hb); clear HB; have HB := n0_; clear n0_; (try clear hb); (try clear hb2); (try clear hk); (try clear hi)) | ((with_reducible refine gate_callee (f := 11) rfl ?_); refine goesL_ (some 18) rfl rfl Tryz.func11 (by kernel_rfl) rfl #[.string a0] rfl (by (try simp only [List.map_toArray, List.map_cons, List.map_nil]); first | done | rfl | (simp only [List.length_drop, List.length_take]; rfl)) ?_; (with_reducible refine (grommetref07_Single.calls k a0 t103 t104 _ (hG.below (by first | ((repeat (first | (with_reducible first | exact HB.out | apply below_alloc | apply pw_below_drewN | apply below_drew1 | (refine Glob.below_set ?_ (by assumption) _ _ _)) | exact HB.out)); done) | (refine Drawn0.below ?_; repeat (first | exact Drawn0.refl _ | assumption | apply Drawn0.step)))) A3.out).mono ?_); rintro e w40 ⟨rfl, hb⟩; refine ⟨_, rfl, ?_⟩; have n0_ := Aside0.mk (below_step (by repeat (first | (with_reducible first | exact HB.out | apply below_alloc | apply pw_below_drewN | apply below_drew1) | exact HB.out)) hb); clear HB; have HB := n0_; clear n0_; (try clear hb); (try clear hb2); (try clear hk); (try clear hi)) | ((with_reducible refine gate_callee (f := 12) rfl ?_); refine goesL_ (some 23) rfl rfl Tryz.func12 (by kernel_rfl) rfl #[.string a0] rfl (by (try simp only [List.map_toArray, List.map_cons, List.map_nil]); first | done | rfl | (simp only [List.length_drop, List.length_take]; rfl)) ?_; (with_reducible refine (quote_Double.calls a0 t105 t106 _ (hG.below (by first | ((repeat (first | (with_reducible first | exact HB.out | apply below_alloc | apply pw_below_drewN | apply below_drew1 | (refine Glob.below_set ?_ (by assumption) _ _ _)) | exact HB.out)); done) | (refine Drawn0.below ?_; repeat (first | exact Drawn0.refl _ | assumption | apply Drawn0.step)))) A4.out).mono ?_); rintro e w41 ⟨rfl, hb⟩; refine ⟨_, rfl, ?_⟩; have n0_ := Aside0.mk (below_step (by repeat (first | (with_reducible first | exact HB.out | apply below_alloc | apply pw_below_drewN | apply below_drew1) | exact HB.out)) hb); clear HB; have HB := n0_; clear n0_; (try clear hb); (try clear hb2); (try clear hk); (try clear hi)) | ((with_reducible refine gate_callee (f := 13) rfl ?_); refine goesL_ (some 28) rfl rfl Tryz.func13 (by kernel_rfl) rfl #[.string a0] rfl (by (try simp only [List.map_toArray, List.map_cons, List.map_nil]); first | done | rfl | (simp only [List.length_drop, List.length_take]; rfl)) ?_; (with_reducible refine (grommetref07_Double.calls k a0 t107 t108 _ (hG.below (by first | ((repeat (first | (with_reducible first | exact HB.out | apply below_alloc | apply pw_below_drewN | apply below_drew1 | (refine Glob.below_set ?_ (by assumption) _ _ _)) | exact HB.out)); done) | (refine Drawn0.below ?_; repeat (first | exact Drawn0.refl _ | assumption | apply Drawn0.step)))) A5.out).mono ?_); rintro e w42 ⟨rfl, hb⟩; refine ⟨_, rfl, ?_⟩; have n0_ := Aside0.mk (below_step (by repeat (first | (with_reducible first | exact HB.out | apply below_alloc | apply pw_below_drewN | apply below_drew1) | exact HB.out)) hb); clear HB; have HB := n0_; clear n0_; (try clear hb); (try clear hb2); (try clear hk); (try clear hi)))
    go_ret
    exact ⟨by first | rfl | (simp [errW_none, errW_some] <;> rfl) | (simp [*, errW_none, errW_some] <;> rfl), by repeat (first | (with_reducible first | exact HB.out | apply below_alloc | apply pw_below_drewN | apply below_drew1) | exact HB.out)⟩

end Go.Proofs.YtmkdjgmdfhagfaaGreatDoor.PX

/- What the reference's small functions on quoted texts come to; conditions: as each states. -/
namespace Go.Proofs.YtmkdjgmdfhagfaaGreatDoor.Utf
open Go.RowKit Go.Proofs.YtmkdjgmdfhagfaaGreatDoor.PX Go.Proofs.YtmkdjgmdfhagfaaGreatDoorW.PrintWords Go.Proofs.YtmkdjgmdfhagfaaGreatDoorW.PrintLast

theorem ref_may (k : Nat) (n : Int) : grommetref07_may.f (k + 1) n = some (may n) := by
  unfold grommetref07_may.f
  rw [printable_eq, Option.bind_some]
  unfold may
  cases prt n
  · rfl
  · rw [if_pos rfl]
    by_cases a : n = 9
    · subst a; rfl
    rw [if_neg a]
    by_cases b : n = 10
    · subst b; rfl
    rw [if_neg b, bne_iff_ne.2 a, bne_iff_ne.2 b]; rfl

theorem byt_enc (n : Int) (h : sgn n = true) : strOfNums (byt n) = ⟨(enc n).toArray⟩ := by
  have hs := (sgn_iff n).1 h
  have e : byt n = Lib.encodeRuneZ n := by
    unfold byt
    by_cases a : n < 128
    · rw [if_pos a, Lib.encodeRuneZ_one hs.1 (by omega)]
    by_cases b : n < 2048
    · rw [if_neg a, if_pos b, Lib.encodeRuneZ_two (by omega) (by omega)]
    by_cases c : n < 65536
    · rw [if_neg a, if_neg b, if_pos c, Lib.encodeRuneZ_three (by omega)]
    · rw [if_neg a, if_neg b, if_neg c, Lib.encodeRuneZ_four (by omega) (by omega)]
  rw [e]; rfl

theorem ref_text (k : Nat) (n : Int) (h : sgn n = true) : grommetref07_text.f (k + 2) n = some ⟨(enc n).toArray⟩ := by
  have hs := sgn_nat h
  have hb : (byt n).length ≤ 4 := by unfold byt; (repeat' split) <;> simp
  have h2 : grommetref01_Encode.l0 (k + 1) [n] ([] ++ byt n) (wrap64 (0 + 1)) = some (strOfNums (byt n), 0) := by
    rw [grommetref01_Encode.l0, if_neg (by unfold wrap64; simp)]; rfl
  unfold grommetref07_text.f grommetref01_Encode.f
  rw [show k + 2 = k + 1 + 1 from rfl, grommetref01_Encode.l0, if_pos (by simp), if_pos (by decide), show rd [n] 0 = n from rfl, sign_eq, h]
  rw [Option.bind_some, if_pos rfl, bytes_eq n hs.1 hs.2, Option.bind_some, if_pos (by simp; omega), h2, Option.bind_some, byt_enc n h]

def ints (l : List UInt8) : List Int := l.map fun b => (b.toNat : Int)
theorem str_ints (l : List UInt8) : strOfNums (ints l) = ⟨l.toArray⟩ := by
  unfold strOfNums ints
  rw [List.map_map]
  congr 1
  have : (l.map ((fun x : Int => UInt8.ofNat x.toNat) ∘ fun b : UInt8 => (b.toNat : Int))) = l := by
    conv => rhs; rw [← List.map_id l]
    refine List.map_congr_left fun b _ => ?_
    simp
  rw [this]
theorem ints_append (a b : List UInt8) : ints (a ++ b) = ints a ++ ints b := by unfold ints; rw [List.map_append]
theorem ints_bytes (t : List UInt8) : bytesOf ⟨t.toArray⟩ = ints t := rfl
end Go.Proofs.YtmkdjgmdfhagfaaGreatDoor.Utf

/- What the reference puts in quotes is that by definition; conditions: texts of at most 2^40 bytes. -/
namespace Go.Proofs.YtmkdjgmdfhagfaaGreatDoor.Utf
open Go.RowKit Go.Proofs.YtmkdjgmdfhagfaaGreatDoor.PX Go.Proofs.YtmkdjgmdfhagfaaGreatDoor.Plug Go.Proofs.YtmkdjgmdfhagfaaGreatDoorW.PrintWords Go.Proofs.YtmkdjgmdfhagfaaGreatDoorW.PrintLast

theorem wrapN (a b : Nat) (h : a + b ≤ 9007199254740992) : wrap64 ((a : Int) + (b : Int)) = ((a + b : Nat) : Int) := by unfold wrap64; omega
theorem wrap1 (a : Nat) (h : a + 1 ≤ 9007199254740992) : wrap64 ((a : Int) + 1) = ((a + 1 : Nat) : Int) := wrapN a 1 h

/-! ### the signs of a text -/
def decT (r : List Int × Nat) (n : Nat) : List Int × Int × Int := if r.2 < n then ([], 8, (r.2 : Int)) else (r.1, 0, 0)
theorem dec_l0 (s : ByteArray) (hs : s.size ≤ 1099511627775) : ∀ (k i K : Nat) (acc : List Int), i ≤ s.size → s.size ≤ i + k → acc.length ≤ i → k + 30 ≤ K →
    grommetref01_Decode.l0 K s acc (i : Int) = some (decT (goF k s.data.toList i acc) s.size) := by
  have hL := size_list s
  intro k
  induction k with
  | zero =>
    intro i K acc hi hk hal hK
    obtain ⟨K, rfl⟩ : ∃ m, K = m + 1 := ⟨K - 1, by omega⟩
    rw [grommetref01_Decode.l0, if_neg (by omega), goF]
    unfold decT; rw [if_neg (by dsimp only; omega)]
  | succ k ih =>
    intro i K acc hi hk hal hK
    obtain ⟨K, rfl⟩ : ∃ m, K = m + 20 + 1 := ⟨K - 21, by omega⟩
    rw [grommetref01_Decode.l0]
    by_cases c : i < s.size
    · have hlen : (s.data.toList.drop i).length = s.size - i := by rw [List.length_drop, ← hL]
      have hne : s.data.toList.drop i ≠ [] := fun e => by rw [e, List.length_nil] at hlen; omega
      have hw := dec_wide _ hne
      rw [hlen] at hw
      have hF := first_eq K (s.extract i s.size)
      rw [drop_list] at hF
      rw [if_pos (show (i : Int) < (s.size : Int) by omega), if_pos (Int.natCast_nonneg i), if_pos (show (i : Int) ≤ (s.size : Int) by omega), Int.toNat_natCast, hF, Option.bind_some, goF, if_pos (show i < s.data.toList.length by omega)]
      dsimp only
      generalize dec (s.data.toList.drop i) = d at *
      obtain ⟨r, n⟩ := d
      simp only at hw ⊢
      by_cases d : r < 0
      · rw [if_pos d, if_pos d]
        unfold decT; rw [if_pos (by dsimp only; exact c)]
      · rw [if_neg d, if_neg d, if_pos (by omega), wrapN i n (by omega)]
        exact ih (i + n) (K + 20) _ (by omega) (by omega) (by rw [List.length_append, List.length_singleton]; omega) (by omega)
    · rw [if_neg (by omega), goF_end _ _ _ _ (show ¬ i < s.data.toList.length by omega)]
      unfold decT; rw [if_neg (by dsimp only; exact c)]
theorem ref_decode (s : ByteArray) (hs : s.size ≤ 1099511627775) (K : Nat) (hK : s.size + 30 ≤ K) : grommetref01_Decode.f K s = some (decodeB s.data.toList) := by
  have hL := size_list s
  unfold grommetref01_Decode.f
  rw [show (0 : Int) = ((0 : Nat) : Int) from rfl, dec_l0 s hs s.size 0 K [] (Nat.zero_le _) (by omega) (by simp) (by omega)]
  unfold decT decodeB goB
  rw [← hL]

/-! ### Simple -/
theorem simp_l0 (b c : Int) : ∀ (d : Nat) (zs : List Int) (i K : Nat), zs.length ≤ 1099511627775 → i ≤ zs.length → zs.length = i + d → d + 3 ≤ K →
    grommetref07_Simple.l0 K zs (i : Int) b c = some ((zs.drop i).all may && (b == 0) || ((zs.drop i).all may && (b == 0))) := by
  intro d
  induction d with
  | zero =>
    intro zs i K hz hi hd hK
    obtain ⟨K, rfl⟩ : ∃ m, K = m + 1 := ⟨K - 1, by omega⟩
    rw [grommetref07_Simple.l0, if_neg (by omega), List.drop_of_length_le (by omega)]
    simp
  | succ d ih =>
    intro zs i K hz hi hd hK
    obtain ⟨K, rfl⟩ : ∃ m, K = m + 1 + 1 := ⟨K - 2, by omega⟩
    rw [grommetref07_Simple.l0, if_pos (by omega), if_pos (Int.natCast_nonneg i), rd_at zs i (by omega), ref_may, Option.bind_some, List.drop_eq_getElem_cons (show i < zs.length by omega), List.all_cons]
    cases may zs[i] with
    | false => rw [if_neg (by decide)]; simp
    | true =>
      rw [if_pos rfl, wrap1 i (by omega), ih zs (i + 1) (K + 1) hz (by omega) (by omega) (by omega)]
      simp
theorem ref_simple (s : ByteArray) (hs : s.size ≤ 1099511627775) (K : Nat) (hK : s.size + 30 ≤ K) : grommetref07_Simple.f K s = some (simpB s.data.toList) := by
  have hL := size_list s
  unfold grommetref07_Simple.f
  rw [ref_decode s hs K hK, Option.bind_some]
  unfold simpB
  cases h : signs s.data.toList with
  | none =>
    rw [decode_none h]
    dsimp only
    rw [show (0 : Int) = ((0 : Nat) : Int) from rfl, simp_l0 8 _ 0 [] 0 K (by simp) (by simp) (by simp) (by omega)]
    rfl
  | some zs =>
    have hl := signs_len _ _ _ h
    rw [decode_some h]
    dsimp only
    rw [show (0 : Int) = ((0 : Nat) : Int) from rfl]
    refine (simp_l0 _ _ zs.length zs 0 K (by omega) (by omega) (by omega) (by omega)).trans ?_
    simp

/-! ### Single -/
theorem single_l0 (s : ByteArray) (hs : s.size ≤ 1099511627775) : ∀ (d i K : Nat) (acc : List UInt8), s.size = i + d → acc.length ≤ 1 + 2 * i → d + 2 ≤ K →
    grommetref07_Single.l0 K s (ints acc) (i : Int) = some (⟨(acc ++ (s.data.toList.drop i).flatMap dbl ++ [39]).toArray⟩, 0) := by
  have hL := size_list s
  intro d
  induction d with
  | zero =>
    intro i K acc hd hal hK
    obtain ⟨K, rfl⟩ : ∃ m, K = m + 1 := ⟨K - 1, by omega⟩
    have hil : (ints acc).length = acc.length := by unfold ints; rw [List.length_map]
    rw [grommetref07_Single.l0, if_neg (by omega), if_pos (by omega), List.drop_of_length_le (by omega), show ints acc ++ [39] = ints (acc ++ [39]) by rw [ints_append]; rfl, str_ints, List.flatMap_nil, List.append_nil]
  | succ d ih =>
    intro i K acc hd hal hK
    obtain ⟨K, rfl⟩ : ∃ m, K = m + 1 := ⟨K - 1, by omega⟩
    have hlt : i < s.data.toList.length := by omega
    have hil : (ints acc).length = acc.length := by unfold ints; rw [List.length_map]
    have hat : at_ s.data.toList i = (s.data.toList[i]).toNat := by unfold at_; rw [List.getD_eq_getElem?_getD, List.getElem?_eq_getElem hlt]; rfl
    rw [grommetref07_Single.l0, if_pos (show (i : Int) < (s.size : Int) by omega), if_pos (Int.natCast_nonneg i), bt_at_, wrap1 i (by omega), List.drop_eq_getElem_cons hlt, List.flatMap_cons]
    unfold dbl
    by_cases c : at_ s.data.toList i = 39
    · have hb : s.data.toList[i] = 39 := UInt8.toNat_inj.1 (by rw [← hat, c]; rfl)
      rw [if_pos (by omega), if_pos (by omega), Option.bind_some, if_pos (by rw [List.length_append, List.length_singleton]; omega), c, if_pos hb]
      rw [show ints acc ++ [39] ++ [((39 : Nat) : Int)] = ints (acc ++ [39, 39]) by rw [ints_append, List.append_assoc]; rfl, ih (i + 1) K _ (by omega) (by rw [List.length_append]; simp; omega) (by omega)]
      simp only [List.append_assoc]; rfl
    · have hb : ¬ s.data.toList[i] = 39 := fun e => c (by rw [hat, e]; rfl)
      rw [if_neg (by omega), if_pos (by omega), if_neg hb]
      rw [show ints acc ++ [((at_ s.data.toList i : Nat) : Int)] = ints (acc ++ [s.data.toList[i]]) by rw [ints_append, hat]; rfl, ih (i + 1) K _ (by omega) (by rw [List.length_append]; simp; omega) (by omega)]
      simp only [List.append_assoc]; rfl
theorem ref_single (s : ByteArray) (hs : s.size ≤ 1099511627775) (K : Nat) (hK : s.size + 30 ≤ K) : grommetref07_Single.f K s = some (if simpB s.data.toList = true then (⟨(singleB s.data.toList).toArray⟩, 0) else (⟨#[]⟩, 8)) := by
  unfold grommetref07_Single.f
  rw [ref_simple s hs K hK, Option.bind_some]
  by_cases h : simpB s.data.toList = true
  · rw [if_pos h, if_pos h, show ([39] : List Int) = ints [39] from rfl, show (0 : Int) = ((0 : Nat) : Int) from rfl, single_l0 s hs s.size 0 K [39] (by omega) (by simp) (by omega)]
    rfl
  · rw [if_neg h, if_neg h]

/-! ### Double -/
theorem hexc_tab : ∀ n : Fin 16, bt (⟨#[48, 49, 50, 51, 52, 53, 54, 55, 56, 57, 97, 98, 99, 100, 101, 102]⟩ : ByteArray) (n.val : Int) = ((hexc n.val).toNat : Int) := by decide +kernel
theorem hex_l0 (m : Nat) (hm : m ≤ 8) : ∀ (d i K n : Nat) (acc : List UInt8), n < 2147483648 → m = i + d → acc.length = i → d + 1 ≤ K →
    grommetref07_hex.l0 K (n : Int) (m : Int) ⟨acc.toArray⟩ (i : Int) = some ⟨(hexs n d ++ acc).toArray⟩ := by
  intro d
  induction d with
  | zero =>
    intro i K n acc hn hi ha hK
    obtain ⟨K, rfl⟩ : ∃ k, K = k + 1 := ⟨K - 1, by omega⟩
    rw [grommetref07_hex.l0, if_neg (by omega)]; rfl
  | succ d ih =>
    intro i K n acc hn hi ha hK
    obtain ⟨K, rfl⟩ : ∃ k, K = k + 1 := ⟨K - 1, by omega⟩
    have e1 : Int.tmod (n : Int) 16 = ((n % 16 : Nat) : Int) := by rw [Int.tmod_eq_emod_of_nonneg (by omega)]; omega
    have e2 : wrap64 (Int.tdiv (n : Int) 16) = ((n / 16 : Nat) : Int) := by rw [Int.tdiv_eq_ediv_of_nonneg (by omega)]; unfold wrap64; omega
    have e3 : bt (⟨#[48, 49, 50, 51, 52, 53, 54, 55, 56, 57, 97, 98, 99, 100, 101, 102]⟩ : ByteArray) ((n % 16 : Nat) : Int) = ((hexc (n % 16)).toNat : Int) := hexc_tab ⟨n % 16, Nat.mod_lt _ (by decide)⟩
    have e4 : strOfNums [((hexc (n % 16)).toNat : Int)] = ⟨[hexc (n % 16)].toArray⟩ := str_ints [hexc (n % 16)]
    have hsz : (⟨[hexc (n % 16)].toArray⟩ : ByteArray).size + (⟨acc.toArray⟩ : ByteArray).size ≤ 9223372036854775807 := by
      show [hexc (n % 16)].length + acc.length ≤ _
      simp; omega
    rw [grommetref07_hex.l0, if_pos (by omega), e1, if_pos (by omega), if_pos (by omega), Option.bind_some, e3, e4, if_pos hsz, e2, wrap1 i (by omega)]
    rw [show (⟨[hexc (n % 16)].toArray⟩ : ByteArray) ++ (⟨acc.toArray⟩ : ByteArray) = ⟨([hexc (n % 16)] ++ acc).toArray⟩ from of_bytes (by rw [app_bytes])]
    rw [ih (i + 1) K (n / 16) ([hexc (n % 16)] ++ acc) (by omega) (by omega) (by rw [List.length_append, List.length_singleton]; omega) (by omega)]
    rw [hexs, List.append_assoc]
theorem ref_hex (K : Nat) (hK : 9 ≤ K) (n : Int) (h0 : 0 ≤ n) (h1 : n ≤ 1114111) (m : Nat) (hm : m ≤ 8) : grommetref07_hex.f K n (m : Int) = some ⟨(hexs n.toNat m).toArray⟩ := by
  obtain ⟨N, rfl⟩ : ∃ N : Nat, n = (N : Int) := ⟨n.toNat, by omega⟩
  unfold grommetref07_hex.f
  rw [show (⟨#[]⟩ : ByteArray) = ⟨([] : List UInt8).toArray⟩ from rfl, show (0 : Int) = ((0 : Nat) : Int) from rfl, hex_l0 m hm m 0 K N [] (by omega) (by omega) rfl (by omega), List.append_nil, Int.toNat_natCast]
theorem ref_escaped (K : Nat) (hK : 20 ≤ K) (n : Int) (hs : sgn n = true) : grommetref07_escaped.f K n = some ⟨(escS n).toArray⟩ := by
  have hr := sgn_nat hs
  have hM : grommetref07_may.f K n = some (may n) := by
    obtain ⟨k, rfl⟩ : ∃ k, K = k + 1 := ⟨K - 1, by omega⟩
    exact ref_may k n
  have hT : grommetref07_text.f K n = some ⟨(enc n).toArray⟩ := by
    obtain ⟨k, rfl⟩ : ∃ k, K = k + 2 := ⟨K - 2, by omega⟩
    exact ref_text k n hs
  have hH := fun m hm => ref_hex K (by omega) n hr.1 hr.2 m hm
  have cat : ∀ (a b : UInt8) (m : Nat), (⟨#[a, b]⟩ : ByteArray) ++ (⟨(hexs n.toNat m).toArray⟩ : ByteArray) = ⟨(a :: b :: hexs n.toNat m).toArray⟩ := fun a b m => of_bytes (by rw [app_bytes]; rfl)
  have hsz : ∀ m, m ≤ 8 → 2 + (⟨(hexs n.toNat m).toArray⟩ : ByteArray).size ≤ 9223372036854775807 := fun m hm => by
    have : (⟨(hexs n.toNat m).toArray⟩ : ByteArray).size = m := hexs_len m _
    omega
  unfold grommetref07_escaped.f escS
  by_cases c1 : n = 34
  · rw [if_pos c1, if_pos c1]
  rw [if_neg c1, if_neg c1]
  by_cases c2 : n = 92
  · rw [if_pos c2, if_pos c2]
  rw [if_neg c2, if_neg c2]
  by_cases c3 : n = 9
  · rw [if_pos c3, if_pos c3]
  rw [if_neg c3, if_neg c3]
  by_cases c4 : n = 10
  · rw [if_pos c4, if_pos c4]
  rw [if_neg c4, if_neg c4]
  by_cases c5 : n = 13
  · rw [if_pos c5, if_pos c5]
  rw [if_neg c5, if_neg c5]
  by_cases c6 : n = 0
  · rw [if_pos c6, if_pos c6]
  rw [if_neg c6, if_neg c6, hM, Option.bind_some]
  by_cases c7 : may n = true
  · rw [if_pos c7, if_pos c7, hT, Option.bind_some]
  rw [if_neg c7, if_neg c7]
  by_cases c8 : n < 256
  · rw [if_pos c8, if_pos c8, show (2 : Int) = ((2 : Nat) : Int) from rfl, hH 2 (by omega), Option.bind_some, if_pos (hsz 2 (by omega)), cat]
  rw [if_neg c8, if_neg c8]
  by_cases c9 : n < 65536
  · rw [if_pos c9, if_pos c9, show (4 : Int) = ((4 : Nat) : Int) from rfl, hH 4 (by omega), Option.bind_some, if_pos (hsz 4 (by omega)), cat]
  · rw [if_neg c9, if_neg c9, show (8 : Int) = ((8 : Nat) : Int) from rfl, hH 8 (by omega), Option.bind_some, if_pos (hsz 8 (by omega)), cat]
theorem double_l0 : ∀ (d : Nat) (zs : List Int) (i K : Nat) (acc : List UInt8), (∀ z ∈ zs, sgn z = true) → zs.length ≤ 1099511627775 → zs.length = i + d → acc.length ≤ 10 * i → d + 21 ≤ K →
    grommetref07_Double.l0 K zs (ints acc) (i : Int) = some (⟨(34 :: (acc ++ (zs.drop i).flatMap escS ++ [34])).toArray⟩, 0) := by
  intro d
  induction d with
  | zero =>
    intro zs i K acc hz hl hd hal hK
    obtain ⟨K, rfl⟩ : ∃ m, K = m + 1 := ⟨K - 1, by omega⟩
    have hsz : (⟨acc.toArray⟩ : ByteArray).size = acc.length := rfl
    have happ : (⟨#[34]⟩ : ByteArray) ++ ⟨acc.toArray⟩ = ⟨(34 :: acc).toArray⟩ := of_bytes (by rw [app_bytes]; rfl)
    have hsz2 : (⟨(34 :: acc).toArray⟩ : ByteArray).size = acc.length + 1 := rfl
    rw [grommetref07_Double.l0, if_neg (by omega), str_ints, if_pos (by rw [hsz]; omega), happ, if_pos (by rw [hsz2]; omega), List.drop_of_length_le (by omega), List.flatMap_nil, List.append_nil]
    rw [show (⟨(34 :: acc).toArray⟩ : ByteArray) ++ ⟨#[34]⟩ = ⟨(34 :: (acc ++ [34])).toArray⟩ from of_bytes (by rw [app_bytes]; rfl)]
  | succ d ih =>
    intro zs i K acc hz hl hd hal hK
    obtain ⟨K, rfl⟩ : ∃ m, K = m + 1 := ⟨K - 1, by omega⟩
    have hil : (ints acc).length = acc.length := by unfold ints; rw [List.length_map]
    have hlt : i < zs.length := by omega
    have hel := escS_len zs[i]
    have hsz : (⟨(escS zs[i]).toArray⟩ : ByteArray).size = (escS zs[i]).length := rfl
    rw [grommetref07_Double.l0, if_pos (by omega), if_pos (Int.natCast_nonneg i), rd_at zs i hlt, ref_escaped K (by omega) _ (hz _ (List.getElem_mem hlt)), Option.bind_some, if_pos (by rw [hsz]; omega), wrap1 i (by omega), ints_bytes, ← ints_append]
    rw [ih zs (i + 1) K _ hz hl (by omega) (by rw [List.length_append]; omega) (by omega), List.drop_eq_getElem_cons hlt, List.flatMap_cons]
    simp only [List.append_assoc]
theorem ref_double (s : ByteArray) (hs : s.size ≤ 1099511627775) (K : Nat) (hK : s.size + 30 ≤ K) : grommetref07_Double.f K s = some (⟨(doubleOf s.data.toList).1.toArray⟩, (doubleOf s.data.toList).2) := by
  have hL := size_list s
  unfold grommetref07_Double.f doubleOf
  rw [ref_decode s hs K hK, Option.bind_some]
  cases h : signs s.data.toList with
  | none => rw [decode_none h]; rfl
  | some zs =>
    have hl := signs_len _ _ _ h
    have h2 := (signs_some h).2
    rw [decode_some h]
    dsimp only
    rw [if_pos rfl, show ([] : List Int) = ints [] from rfl, show (0 : Int) = ((0 : Nat) : Int) from rfl, double_l0 zs.length zs 0 K [] h2 (by omega) (by omega) (by simp) (by omega)]
    rfl
end Go.Proofs.YtmkdjgmdfhagfaaGreatDoor.Utf

/- QuoteWrites' pure statement: for every text of at most a million bytes the law's Lean function answers true. -/
namespace Go.Proofs.YtmkdjgmdfhagfaaGreatDoor.Pure
open Go.RowKit Go.Proofs.YtmkdjgmdfhagfaaGreatDoor.PX Go.Proofs.YtmkdjgmdfhagfaaGreatDoor.Plug Go.Proofs.YtmkdjgmdfhagfaaGreatDoor.Utf Go.Proofs.YtmkdjgmdfhagfaaGreatDoorW.PrintWords Go.Proofs.YtmkdjgmdfhagfaaGreatDoorW.PrintLast
theorem QuoteWrites (s : ByteArray) (_hs : s.size ≤ 140737488351232) (hb : s.size ≤ 1048576) : ∃ k, grommetlaw07_QuoteWrites.f k s = some true := by
  refine ⟨s.size + 30, ?_⟩
  have hd : quote_Double.f s = some (⟨(doubleOf s.data.toList).1.toArray⟩, (doubleOf s.data.toList).2) := by unfold quote_Double.f; rw [if_pos (by omega)]
  unfold grommetlaw07_QuoteWrites.f
  rw [single_of s (by omega), Option.bind_some, ref_single s (by omega) _ (by omega), Option.bind_some, hd, Option.bind_some, ref_double s (by omega) _ (by omega), Option.bind_some, if_pos rfl, if_pos rfl, if_pos rfl, if_pos rfl,
    simple_of _ s (by omega) (by omega), Option.bind_some, ref_simple s (by omega) _ (by omega), Option.bind_some, if_pos (by simp), alive]; rfl
end Go.Proofs.YtmkdjgmdfhagfaaGreatDoor.Pure

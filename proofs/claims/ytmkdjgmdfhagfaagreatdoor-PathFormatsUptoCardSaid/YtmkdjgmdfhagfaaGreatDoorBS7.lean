/- Texts that stand behind one another, laid into one: what this claim needs of them. -/
import Derived.Test.YtmkdjgmdfhagfaaGreatDoorBS0
import Derived.Test.YtmkdjgmdfhagfaaGreatDoorBS5
import Derived.Test.YtmkdjgmdfhagfaaGreatDoorBS4
import Derived.Test.YtmkdjgmdfhagfaaGreatDoorBS6
import Derived.Test.YtmkdjgmdfhagfaaGreatDoorBS3
import Derived.Test.YtmkdjgmdfhagfaaGreatDoorBS1
import Derived.Test.YtmkdjgmdfhagfaaGreatDoorBS2
import Derived.Shelf.Strings.Builder1
import Derived.Shelf.Strings.Builder2
import Derived.Shelf.Strings.Trim
import Derived.Shelf.Small.Utf8
import Derived.Shelf.Small.Strs
import Derived.Shelf.Strings.BuilderF
import Derived.Shelf.Strings.BuilderK
import Derived.Shelf.Strings.BuilderRune
import Derived.Shelf.Strconv.Atoi
import Derived.Shelf.Strconv.Itoa0
import Derived.Shelf.Strconv.Itoa1
import Derived.Shelf.LaysM
import Derived.Shelf.Strconv.Itoa2
import Derived.Shelf.Strconv.Itoa3
import Derived.Shelf.Strconv.AtoiErrFast
import Derived.Shelf.Strconv.ParseIntEmpty
import Derived.Shelf.Strconv.AtoiFail
import Derived.Shelf.Strconv.Clone
import Derived.Shelf.Strconv.SyntaxError
import Derived.Shelf.LaysC
import Derived.Shelf.Strconv.ToError
import Derived.Shelf.Strconv.Lower
import Derived.Shelf.Strconv.ParseUint10
import Derived.Shelf.Strconv.ParseUint10Empty
import Derived.Shelf.Strconv.ParseUint10Any
import Derived.Shelf.Strconv.ParseInt10
import Derived.Shelf.Strconv.AtoiLong
import Derived.Shelf.Strconv.AtoiInnerAll
import Derived.Shelf.Strconv.RangeError
import Derived.Shelf.Strconv.ToErrorRange
import Derived.Shelf.Strconv.AtoiAll
import Derived.Shelf.Strconv.ErrVarAll
import Derived.Shelf.Strings.Search1
import Derived.Shelf.Strings.Search2
import Derived.Shelf.Strings.Search3
import Derived.Shelf.Strings.Count
import Derived.Shelf.Strings.Shaped
import Derived.Shelf.Strings.Prefix
import Derived.Shelf.Strings.Split
import Derived.Shelf.Strings.Replace
import Derived.Shelf.Strings.Runes
import Derived.Shelf.Strings.AsciiSet
import Derived.Shelf.Bits.Mul64
import Derived.Shelf.Strings.Repeat
import Derived.Shelf.Unicode.DecodeSlow
import Derived.Shelf.Unicode.DecodeAny
import Derived.Test.YtmkdjgmdfhagfaaGreatDoorProg
import Derived.Lib.IndexLaws
import Derived.Outline
import Derived.KernelRfl

/- YtmkdjgmdfhagfaaGreatDoorFGrommetlaw16PathFormats: what print.py told of Go functions, for this claim. -/
namespace Go.Proofs.YtmkdjgmdfhagfaaGreatDoor.PX
open Go.RowKit Go.Proofs.YtmkdjgmdfhagfaaGreatDoorW.PrintWords Go.Proofs.YtmkdjgmdfhagfaaGreatDoorW.PrintLast Go.Proofs.YtmkdjgmdfhagfaaGreatDoorW.PrintMore Go.Proofs.YtmkdjgmdfhagfaaGreatDoor Go.Proofs.YtmkdjgmdfhagfaaGreatDoor.Plug
attribute [local go_sem] max2_int min2_int max_two min_two max_three min_three max_four min_four   -- for this text's walks alone
set_option linter.unusedVariables false
set_option linter.unusedSimpArgs false

/-! ### grommetlaw16_PathFormats: function 4 -/
def grommetlaw16_PathFormats.j0 : Nat → List (S52) → List (S52) → Bool → Option (Bool)
  | 0, _, _, _ => none
  | k + 1, x0, x1, x14 => if x14 = true then ((grommetlaw16_alive.f).bind fun t103 => (some t103)) else ((grommetlaw16_theirs.f k x0).bind fun t104 => ((path_Format.f t104).bind fun bt107 => ((grommetref16_Format.f k x0).bind fun bt109 => (if bt107.1.toList = bt109.1.toList then (if bt107.2 = bt109.2 then ((grommetlaw16_theirs.f k x0).bind fun t111 => ((grommetlaw16_theirs.f k x1).bind fun t114 => ((path_Same.f k t111 t114).bind fun t117 => ((grommetref16_Same.f x0 x1).bind fun t118 => (if (t117 == t118) = true then ((grommetlaw16_theirs.f k x0).bind fun t119 => ((grommetlaw16_theirs.f k x0).bind fun t122 => ((path_Same.f k t119 t122).bind fun t125 => (if t125 = true then ((grommetlaw16_alive.f).bind fun t126 => (some t126)) else (some false))))) else (some false)))))) else (some false)) else (some false)))))
def grommetlaw16_PathFormats.f (k : Nat) (l0 : List (S52)) (l1 : List (S52)) : Option (Bool) := (grommetlaw16_long.f k l0).bind fun t101 => (if t101 = true then (grommetlaw16_PathFormats.j0 k l0 l1 true) else ((grommetlaw16_long.f k l1).bind fun t102 => (grommetlaw16_PathFormats.j0 k l0 l1 t102)))
set_option maxHeartbeats 8000000 in
set_option maxRecDepth 100000 in
theorem grommetlaw16_PathFormats.calls (k : Nat) (A0 : Option Addr) (c0 : Nat) (l0 : List (S52)) (A1 : Option Addr) (c1 : Nat) (l1 : List (S52)) (r : Bool) (w : World) (hr0 : Kd.C k52 w A0 l0.length l0) (hc0 : l0.length ≤ c0) (hr1 : Kd.C k52 w A1 l1.length l1) (hc1 : l1.length ≤ c1) (hG : Glob.G w) (h : grommetlaw16_PathFormats.f k l0 l1 = some r) :
    Calls Tryz.prog 4 #[.slice A0 l0.length c0, .slice A1 l1.length c1] w fun e w' => e = .returned (.bool r) ∧ Below w.heap.size w w' := by
  have HR0 := Aside0.mk hr0
  have HC0 := Aside0.mk hc0
  clear hr0 hc0
  have HR1 := Aside0.mk hr1
  have HC1 := Aside0.mk hc1
  clear hr1 hc1
  have HB := Aside0.mk (Below.refl w.heap.size w)
  have H : ((grommetlaw16_long.f k l0).bind fun t101 => (if t101 = true then (grommetlaw16_PathFormats.j0 k l0 l1 true) else ((grommetlaw16_long.f k l1).bind fun t102 => (grommetlaw16_PathFormats.j0 k l0 l1 t102)))) = some r := h
  clear h
  have HC3 := Aside0.mk H
  clear H
  go_enter Tryz.func4, Tryz.ntmps4
  go_upto_region 1 with (fail)
  go_cut [14] (fun v14 wc => ∃ (kq : Nat) (x14_2 : Bool), v14 = .bool x14_2 ∧ Aside0 (grommetlaw16_PathFormats.j0 kq l0 l1 x14_2 = some r) ∧ Aside0 (kq ≤ k) ∧ Aside0 (Below w.heap.size w wc))
  case first =>
    have H := HC3.out
    clear HC3
    replace H := Option.bind_eq_some_iff.mp H
    obtain ⟨t101, A40, H⟩ := H
    replace H : (if t101 = true then (grommetlaw16_PathFormats.j0 k l0 l1 true) else ((grommetlaw16_long.f k l1).bind fun t102 => (grommetlaw16_PathFormats.j0 k l0 l1 t102))) = some r := H
    have A4 := Aside0.mk A40
    clear A40
    by_cases c5 : t101 = true
    · subst c5
      have H1 : (grommetlaw16_PathFormats.j0 k l0 l1 true) = some r := by rw [if_pos rfl] at H; exact H
      clear H
      have H := H1
      clear H1
      have H' := Aside0.mk H
      clear H
      go_wp2_with (first | ((with_reducible refine gate_callee (f := 17) rfl ?_); refine goesL_ (some 10) rfl rfl Tryz.func17 (by kernel_rfl) rfl #[.slice A0 l0.length c0] rfl (by (try simp only [List.map_toArray, List.map_cons, List.map_nil]); first | done | rfl | (simp only [List.length_drop, List.length_take]; rfl)) ?_; (with_reducible refine (grommetlaw16_long.calls k _ _ l0 true _ ?side1 ?side2 (hG.below (by first | ((repeat (first | (with_reducible first | exact HB.out | apply below_alloc | apply pw_below_drewN | apply below_drew1 | (refine Glob.below_set ?_ (by assumption) _ _ _)) | exact HB.out)); done) | (refine Drawn0.below ?_; repeat (first | exact Drawn0.refl _ | assumption | apply Drawn0.step)))) A4.out).mono ?_); (case side1 => repeat (first | exact (Kd.C_below HR0.out HB.out) | (with_reducible refine Kd.C_alloc ?_ _) | (with_reducible refine Kd.C_drewN ?_ _) | (with_reducible refine Kd.C_drew ?_))); (case side2 => exact HC0.out); rintro e w6 ⟨rfl, hb⟩; refine ⟨_, rfl, ?_⟩; have n0_ := Aside0.mk (below_step (by repeat (first | (with_reducible first | exact HB.out | apply below_alloc | apply pw_below_drewN | apply below_drew1) | exact HB.out)) hb); clear HB; have HB := n0_; clear n0_; (try clear hb); (try clear hb2); (try clear hk); (try clear hi)))
      go_meet
      case rel => exact ⟨_, (true), (by first | rfl | (simp; done) | (simp [*]; done)), H', ⟨by first | omega | exact Nat.le_refl _⟩, ⟨by repeat (first | (with_reducible first | exact HB.out | apply below_alloc | apply pw_below_drewN | apply below_drew1) | exact HB.out)⟩⟩
    · replace c5 := Bool.eq_false_iff.mpr c5
      subst c5
      have H1 : ((grommetlaw16_long.f k l1).bind fun t102 => (grommetlaw16_PathFormats.j0 k l0 l1 t102)) = some r := by rw [if_neg (show ¬ (false = true) by decide)] at H; exact H
      clear H
      have H := H1
      clear H1
      replace H := Option.bind_eq_some_iff.mp H
      obtain ⟨t102, A70, H⟩ := H
      replace H : (grommetlaw16_PathFormats.j0 k l0 l1 t102) = some r := H
      have A7 := Aside0.mk A70
      clear A70
      have H' := Aside0.mk H
      clear H
      go_wp2_with (first | ((with_reducible refine gate_callee (f := 17) rfl ?_); refine goesL_ (some 10) rfl rfl Tryz.func17 (by kernel_rfl) rfl #[.slice A0 l0.length c0] rfl (by (try simp only [List.map_toArray, List.map_cons, List.map_nil]); first | done | rfl | (simp only [List.length_drop, List.length_take]; rfl)) ?_; (with_reducible refine (grommetlaw16_long.calls k _ _ l0 false _ ?side1 ?side2 (hG.below (by first | ((repeat (first | (with_reducible first | exact HB.out | apply below_alloc | apply pw_below_drewN | apply below_drew1 | (refine Glob.below_set ?_ (by assumption) _ _ _)) | exact HB.out)); done) | (refine Drawn0.below ?_; repeat (first | exact Drawn0.refl _ | assumption | apply Drawn0.step)))) A4.out).mono ?_); (case side1 => repeat (first | exact (Kd.C_below HR0.out HB.out) | (with_reducible refine Kd.C_alloc ?_ _) | (with_reducible refine Kd.C_drewN ?_ _) | (with_reducible refine Kd.C_drew ?_))); (case side2 => exact HC0.out); rintro e w8 ⟨rfl, hb⟩; refine ⟨_, rfl, ?_⟩; have n0_ := Aside0.mk (below_step (by repeat (first | (with_reducible first | exact HB.out | apply below_alloc | apply pw_below_drewN | apply below_drew1) | exact HB.out)) hb); clear HB; have HB := n0_; clear n0_; (try clear hb); (try clear hb2); (try clear hk); (try clear hi)) | (go_at_call 17; (with_reducible refine (grommetlaw16_long.calls k _ _ l1 t102 _ ?side1 ?side2 (hG.below (by first | ((repeat (first | (with_reducible first | exact HB.out | apply below_alloc | apply pw_below_drewN | apply below_drew1 | (refine Glob.below_set ?_ (by assumption) _ _ _)) | exact HB.out)); done) | (refine Drawn0.below ?_; repeat (first | exact Drawn0.refl _ | assumption | apply Drawn0.step)))) A7.out).mono ?_); (case side1 => repeat (first | exact (Kd.C_below HR1.out HB.out) | (with_reducible refine Kd.C_alloc ?_ _) | (with_reducible refine Kd.C_drewN ?_ _) | (with_reducible refine Kd.C_drew ?_))); (case side2 => exact HC1.out); rintro e w9 ⟨rfl, hb⟩; have n0_ := Aside0.mk (below_step (by repeat (first | (with_reducible first | exact HB.out | apply below_alloc | apply pw_below_drewN | apply below_drew1) | exact HB.out)) hb); clear HB; have HB := n0_; clear n0_; (try clear hb); (try clear hb2); (try clear hk); (try clear hi)))
      go_meet
      case rel => exact ⟨_, (t102), (by first | rfl | (simp; done) | (simp [*]; done)), H', ⟨by first | omega | exact Nat.le_refl _⟩, ⟨by repeat (first | (with_reducible first | exact HB.out | apply below_alloc | apply pw_below_drewN | apply below_drew1) | exact HB.out)⟩⟩
  case rest =>
    clear HC3
    try clear c1
    try clear p2
    try clear c4
    try clear c5
    obtain ⟨kq, x14_2, rfl, HA, HJ2, HB⟩ := hcut
    cases kq with
    | zero => exact absurd HA.out (by simp [grommetlaw16_PathFormats.j0])
    | succ kj2 =>
      have H := HA.out
      clear HA
      simp only [grommetlaw16_PathFormats.j0] at H
      by_cases c10 : x14_2 = true
      · subst c10
        have H1 : ((grommetlaw16_alive.f).bind fun t103 => (some t103)) = some r := by rw [if_pos rfl] at H; exact H
        clear H
        have H := H1
        clear H1
        replace H := Option.bind_eq_some_iff.mp H
        obtain ⟨t103, A110, H⟩ := H
        replace H : (some t103) = some r := H
        have A11 := Aside0.mk A110
        clear A110
        obtain rfl := Option.some.inj H
        go_wp2_with (first | ((with_reducible refine gate_callee (f := 18) rfl ?_); refine goesL_ (some 15) rfl rfl Tryz.func18 (by kernel_rfl) rfl #[] rfl (by (try simp only [List.map_toArray, List.map_cons, List.map_nil]); first | done | rfl | (simp only [List.length_drop, List.length_take]; rfl)) ?_; (with_reducible refine (grommetlaw16_alive.calls  t103 _ (hG.below (by first | ((repeat (first | (with_reducible first | exact HB.out | apply below_alloc | apply pw_below_drewN | apply below_drew1 | (refine Glob.below_set ?_ (by assumption) _ _ _)) | exact HB.out)); done) | (refine Drawn0.below ?_; repeat (first | exact Drawn0.refl _ | assumption | apply Drawn0.step)))) A11.out).mono ?_); rintro e w12 ⟨rfl, hb⟩; refine ⟨_, rfl, ?_⟩; have n0_ := Aside0.mk (below_step (by repeat (first | (with_reducible first | exact HB.out | apply below_alloc | apply pw_below_drewN | apply below_drew1) | exact HB.out)) hb); clear HB; have HB := n0_; clear n0_; (try clear hb); (try clear hb2); (try clear hk); (try clear hi)))
        go_ret
        exact ⟨by first | rfl | (simp [errW_none, errW_some] <;> rfl) | (simp [*, errW_none, errW_some] <;> rfl), by repeat (first | (with_reducible first | exact HB.out | apply below_alloc | apply pw_below_drewN | apply below_drew1) | exact HB.out)⟩
      · replace c10 := Bool.eq_false_iff.mpr c10
        subst c10
        have H1 : ((grommetlaw16_theirs.f kj2 l0).bind fun t104 => ((path_Format.f t104).bind fun bt107 => ((grommetref16_Format.f kj2 l0).bind fun bt109 => (if bt107.1.toList = bt109.1.toList then (if bt107.2 = bt109.2 then ((grommetlaw16_theirs.f kj2 l0).bind fun t111 => ((grommetlaw16_theirs.f kj2 l1).bind fun t114 => ((path_Same.f kj2 t111 t114).bind fun t117 => ((grommetref16_Same.f l0 l1).bind fun t118 => (if (t117 == t118) = true then ((grommetlaw16_theirs.f kj2 l0).bind fun t119 => ((grommetlaw16_theirs.f kj2 l0).bind fun t122 => ((path_Same.f kj2 t119 t122).bind fun t125 => (if t125 = true then ((grommetlaw16_alive.f).bind fun t126 => (some t126)) else (some false))))) else (some false)))))) else (some false)) else (some false))))) = some r := by rw [if_neg (show ¬ (false = true) by decide)] at H; exact H
        clear H
        have H := H1
        clear H1
        replace H := Option.bind_eq_some_iff.mp H
        obtain ⟨t104, A130, H⟩ := H
        replace H : ((path_Format.f t104).bind fun bt107 => ((grommetref16_Format.f kj2 l0).bind fun bt109 => (if bt107.1.toList = bt109.1.toList then (if bt107.2 = bt109.2 then ((grommetlaw16_theirs.f kj2 l0).bind fun t111 => ((grommetlaw16_theirs.f kj2 l1).bind fun t114 => ((path_Same.f kj2 t111 t114).bind fun t117 => ((grommetref16_Same.f l0 l1).bind fun t118 => (if (t117 == t118) = true then ((grommetlaw16_theirs.f kj2 l0).bind fun t119 => ((grommetlaw16_theirs.f kj2 l0).bind fun t122 => ((path_Same.f kj2 t119 t122).bind fun t125 => (if t125 = true then ((grommetlaw16_alive.f).bind fun t126 => (some t126)) else (some false))))) else (some false)))))) else (some false)) else (some false)))) = some r := H
        have A13 := Aside0.mk A130
        clear A130
        replace H := Option.bind_eq_some_iff.mp H
        obtain ⟨⟨t107, t108⟩, A140, H⟩ := H
        replace H : ((grommetref16_Format.f kj2 l0).bind fun bt109 => (if t107.toList = bt109.1.toList then (if t108 = bt109.2 then ((grommetlaw16_theirs.f kj2 l0).bind fun t111 => ((grommetlaw16_theirs.f kj2 l1).bind fun t114 => ((path_Same.f kj2 t111 t114).bind fun t117 => ((grommetref16_Same.f l0 l1).bind fun t118 => (if (t117 == t118) = true then ((grommetlaw16_theirs.f kj2 l0).bind fun t119 => ((grommetlaw16_theirs.f kj2 l0).bind fun t122 => ((path_Same.f kj2 t119 t122).bind fun t125 => (if t125 = true then ((grommetlaw16_alive.f).bind fun t126 => (some t126)) else (some false))))) else (some false)))))) else (some false)) else (some false))) = some r := H
        have A14 := Aside0.mk A140
        clear A140
        replace H := Option.bind_eq_some_iff.mp H
        obtain ⟨⟨t109, t110⟩, A150, H⟩ := H
        replace H : (if t107.toList = t109.toList then (if t108 = t110 then ((grommetlaw16_theirs.f kj2 l0).bind fun t111 => ((grommetlaw16_theirs.f kj2 l1).bind fun t114 => ((path_Same.f kj2 t111 t114).bind fun t117 => ((grommetref16_Same.f l0 l1).bind fun t118 => (if (t117 == t118) = true then ((grommetlaw16_theirs.f kj2 l0).bind fun t119 => ((grommetlaw16_theirs.f kj2 l0).bind fun t122 => ((path_Same.f kj2 t119 t122).bind fun t125 => (if t125 = true then ((grommetlaw16_alive.f).bind fun t126 => (some t126)) else (some false))))) else (some false)))))) else (some false)) else (some false)) = some r := H
        have A15 := Aside0.mk A150
        clear A150
        by_cases c16 : t107.toList = t109.toList
        · rw [if_pos c16] at H
          have c16b0 : (t107.toList == t109.toList) = true := beq_iff_eq.mpr c16
          have c16b1 : (t107.toList != t109.toList) = false := bne_eq_false_iff_eq.mpr c16
          clear c16
          by_cases c17 : t108 = t110
          · rw [if_pos c17] at H
            have c17b0 : (t108 == t110) = true := beq_iff_eq.mpr c17
            have c17b1 : (t108 != t110) = false := bne_eq_false_iff_eq.mpr c17
            clear c17
            replace H := Option.bind_eq_some_iff.mp H
            obtain ⟨t111, A180, H⟩ := H
            replace H : ((grommetlaw16_theirs.f kj2 l1).bind fun t114 => ((path_Same.f kj2 t111 t114).bind fun t117 => ((grommetref16_Same.f l0 l1).bind fun t118 => (if (t117 == t118) = true then ((grommetlaw16_theirs.f kj2 l0).bind fun t119 => ((grommetlaw16_theirs.f kj2 l0).bind fun t122 => ((path_Same.f kj2 t119 t122).bind fun t125 => (if t125 = true then ((grommetlaw16_alive.f).bind fun t126 => (some t126)) else (some false))))) else (some false))))) = some r := H
            have A18 := Aside0.mk A180
            clear A180
            replace H := Option.bind_eq_some_iff.mp H
            obtain ⟨t114, A190, H⟩ := H
            replace H : ((path_Same.f kj2 t111 t114).bind fun t117 => ((grommetref16_Same.f l0 l1).bind fun t118 => (if (t117 == t118) = true then ((grommetlaw16_theirs.f kj2 l0).bind fun t119 => ((grommetlaw16_theirs.f kj2 l0).bind fun t122 => ((path_Same.f kj2 t119 t122).bind fun t125 => (if t125 = true then ((grommetlaw16_alive.f).bind fun t126 => (some t126)) else (some false))))) else (some false)))) = some r := H
            have A19 := Aside0.mk A190
            clear A190
            replace H := Option.bind_eq_some_iff.mp H
            obtain ⟨t117, A200, H⟩ := H
            replace H : ((grommetref16_Same.f l0 l1).bind fun t118 => (if (t117 == t118) = true then ((grommetlaw16_theirs.f kj2 l0).bind fun t119 => ((grommetlaw16_theirs.f kj2 l0).bind fun t122 => ((path_Same.f kj2 t119 t122).bind fun t125 => (if t125 = true then ((grommetlaw16_alive.f).bind fun t126 => (some t126)) else (some false))))) else (some false))) = some r := H
            have A20 := Aside0.mk A200
            clear A200
            replace H := Option.bind_eq_some_iff.mp H
            obtain ⟨t118, A210, H⟩ := H
            replace H : (if (t117 == t118) = true then ((grommetlaw16_theirs.f kj2 l0).bind fun t119 => ((grommetlaw16_theirs.f kj2 l0).bind fun t122 => ((path_Same.f kj2 t119 t122).bind fun t125 => (if t125 = true then ((grommetlaw16_alive.f).bind fun t126 => (some t126)) else (some false))))) else (some false)) = some r := H
            have A21 := Aside0.mk A210
            clear A210
            by_cases c22 : (t117 == t118) = true
            · rw [if_pos c22] at H
              have c22b0 : (t117 == t118) = true := c22
              (try (have c22b1 : decide (t117 = t118) = true := by simpa using c22))
              (try (have c22b2 : (t117 == t118) = true := by simpa using c22))
              clear c22
              replace H := Option.bind_eq_some_iff.mp H
              obtain ⟨t119, A230, H⟩ := H
              replace H : ((grommetlaw16_theirs.f kj2 l0).bind fun t122 => ((path_Same.f kj2 t119 t122).bind fun t125 => (if t125 = true then ((grommetlaw16_alive.f).bind fun t126 => (some t126)) else (some false)))) = some r := H
              have A23 := Aside0.mk A230
              clear A230
              replace H := Option.bind_eq_some_iff.mp H
              obtain ⟨t122, A240, H⟩ := H
              replace H : ((path_Same.f kj2 t119 t122).bind fun t125 => (if t125 = true then ((grommetlaw16_alive.f).bind fun t126 => (some t126)) else (some false))) = some r := H
              have A24 := Aside0.mk A240
              clear A240
              replace H := Option.bind_eq_some_iff.mp H
              obtain ⟨t125, A250, H⟩ := H
              replace H : (if t125 = true then ((grommetlaw16_alive.f).bind fun t126 => (some t126)) else (some false)) = some r := H
              have A25 := Aside0.mk A250
              clear A250
              by_cases c26 : t125 = true
              · subst c26
                have H1 : ((grommetlaw16_alive.f).bind fun t126 => (some t126)) = some r := by rw [if_pos rfl] at H; exact H
                clear H
                have H := H1
                clear H1
                replace H := Option.bind_eq_some_iff.mp H
                obtain ⟨t126, A270, H⟩ := H
                replace H : (some t126) = some r := H
                have A27 := Aside0.mk A270
                clear A270
                obtain rfl := Option.some.inj H
                have tok1_ : True := trivial
                have tok2_ : True := trivial
                have tok3_ : True := trivial
                have tok4_ : True := trivial
                go_wp2_with (first | ((with_reducible refine gate_callee (f := 20) rfl ?_); refine goesL_ (some 18) rfl rfl Tryz.func20 (by kernel_rfl) rfl #[.slice A0 l0.length c0] rfl (by (try simp only [List.map_toArray, List.map_cons, List.map_nil]); first | done | rfl | (simp only [List.length_drop, List.length_take]; rfl)) ?_; (with_reducible refine (grommetlaw16_theirs.calls kj2 _ _ l0 t104 _ ?side1 ?side2 (hG.below (by first | ((repeat (first | (with_reducible first | exact HB.out | apply below_alloc | apply pw_below_drewN | apply below_drew1 | (refine Glob.below_set ?_ (by assumption) _ _ _)) | exact HB.out)); done) | (refine Drawn0.below ?_; repeat (first | exact Drawn0.refl _ | assumption | apply Drawn0.step)))) A13.out).mono ?_); (case side1 => repeat (first | exact (Kd.C_below HR0.out HB.out) | (with_reducible refine Kd.C_alloc ?_ _) | (with_reducible refine Kd.C_drewN ?_ _) | (with_reducible refine Kd.C_drew ?_))); (case side2 => exact HC0.out); rintro e w28 ⟨v105, rfl, ho0, hb⟩; refine ⟨_, rfl, ?_⟩; have n0_ := Aside0.mk (Kd.R_lower ho0 (below_size (by repeat (first | (with_reducible first | exact HB.out | apply below_alloc | apply pw_below_drewN | apply below_drew1) | exact HB.out)))); have n1_ := Aside0.mk (below_step (by repeat (first | (with_reducible first | exact HB.out | apply below_alloc | apply pw_below_drewN | apply below_drew1) | exact HB.out)) hb); clear HB; have HO106 := n0_; have HB := n1_; clear n0_ n1_; (try clear hb); (try clear hb2); (try clear hk); (try clear hi); (try clear ho0); obtain ⟨Ao29, co29, eo29⟩ := Kd.R_slice HO106.out; subst eo29) | ((with_reducible refine gate_callee (f := 19) rfl ?_); refine goesL_ (some 19) rfl rfl Tryz.func19 (by kernel_rfl) rfl #[.slice Ao29 t104.length co29] rfl (by (try simp only [List.map_toArray, List.map_cons, List.map_nil]); first | done | rfl | (simp only [List.length_drop, List.length_take]; rfl)) ?_; (with_reducible refine (path_Format.calls _ _ t104 t107 t108 _ ?side1 ?side2 (hG.below (by first | ((repeat (first | (with_reducible first | exact HB.out | apply below_alloc | apply pw_below_drewN | apply below_drew1 | (refine Glob.below_set ?_ (by assumption) _ _ _)) | exact HB.out)); done) | (refine Drawn0.below ?_; repeat (first | exact Drawn0.refl _ | assumption | apply Drawn0.step)))) A14.out).mono ?_); (case side1 => repeat (first | exact (Kd.R_reads' HO106.out).2.2 | (with_reducible refine Kd.C_alloc ?_ _) | (with_reducible refine Kd.C_drewN ?_ _) | (with_reducible refine Kd.C_drew ?_))); (case side2 => exact (Kd.R_reads' HO106.out).2.1); rintro e w30 ⟨rfl, hb⟩; refine ⟨_, rfl, ?_⟩; have n0_ := Aside0.mk (Kd.R_below (by (with_reducible repeat (first | apply Kd.R_alloc | apply Kd.R_drewN | apply Kd.R_drew)); exact HO106.out) hb); have n1_ := Aside0.mk (below_step (by repeat (first | (with_reducible first | exact HB.out | apply below_alloc | apply pw_below_drewN | apply below_drew1) | exact HB.out)) hb); clear HO106; clear HB; have HO106 := n0_; have HB := n1_; clear n0_ n1_; (try clear hb); (try clear hb2); (try clear hk); (try clear hi)) | ((with_reducible refine gate_callee (f := 21) rfl ?_); refine goesL_ (some 24) rfl rfl Tryz.func21 (by kernel_rfl) rfl #[.slice A0 l0.length c0] rfl (by (try simp only [List.map_toArray, List.map_cons, List.map_nil]); first | done | rfl | (simp only [List.length_drop, List.length_take]; rfl)) ?_; (with_reducible refine (grommetref16_Format.calls kj2 _ _ l0 t109 t110 _ ?side1 ?side2 (hG.below (by first | ((repeat (first | (with_reducible first | exact HB.out | apply below_alloc | apply pw_below_drewN | apply below_drew1 | (refine Glob.below_set ?_ (by assumption) _ _ _)) | exact HB.out)); done) | (refine Drawn0.below ?_; repeat (first | exact Drawn0.refl _ | assumption | apply Drawn0.step)))) A15.out).mono ?_); (case side1 => repeat (first | exact (Kd.C_below HR0.out HB.out) | (with_reducible refine Kd.C_alloc ?_ _) | (with_reducible refine Kd.C_drewN ?_ _) | (with_reducible refine Kd.C_drew ?_))); (case side2 => exact HC0.out); rintro e w31 ⟨rfl, hb⟩; refine ⟨_, rfl, ?_⟩; have n0_ := Aside0.mk (Kd.R_below (by (with_reducible repeat (first | apply Kd.R_alloc | apply Kd.R_drewN | apply Kd.R_drew)); exact HO106.out) hb); have n1_ := Aside0.mk (below_step (by repeat (first | (with_reducible first | exact HB.out | apply below_alloc | apply pw_below_drewN | apply below_drew1) | exact HB.out)) hb); clear HO106; clear HB; have HO106 := n0_; have HB := n1_; clear n0_ n1_; (try clear hb); (try clear hb2); (try clear hk); (try clear hi)) | (clear tok1_; go_at_call 20; (with_reducible refine (grommetlaw16_theirs.calls kj2 _ _ l0 t111 _ ?side1 ?side2 (hG.below (by first | ((repeat (first | (with_reducible first | exact HB.out | apply below_alloc | apply pw_below_drewN | apply below_drew1 | (refine Glob.below_set ?_ (by assumption) _ _ _)) | exact HB.out)); done) | (refine Drawn0.below ?_; repeat (first | exact Drawn0.refl _ | assumption | apply Drawn0.step)))) A18.out).mono ?_); (case side1 => repeat (first | exact (Kd.C_below HR0.out HB.out) | (with_reducible refine Kd.C_alloc ?_ _) | (with_reducible refine Kd.C_drewN ?_ _) | (with_reducible refine Kd.C_drew ?_))); (case side2 => exact HC0.out); rintro e w32 ⟨v112, rfl, ho0, hb⟩; have n0_ := Aside0.mk (Kd.R_elder' (by (with_reducible repeat (first | apply Kd.R_alloc | apply Kd.R_drewN | apply Kd.R_drew)); exact HO106.out) (Kd.R_base ho0) hb); have n1_ := Aside0.mk (Kd.R_lower (Kd.R_new' ho0 (Kd.R_lt (by (with_reducible repeat (first | apply Kd.R_alloc | apply Kd.R_drewN | apply Kd.R_drew)); exact HO106.out))) (below_size (by repeat (first | (with_reducible first | exact HB.out | apply below_alloc | apply pw_below_drewN | apply below_drew1) | exact HB.out)))); have n2_ := Aside0.mk (below_step (by repeat (first | (with_reducible first | exact HB.out | apply below_alloc | apply pw_below_drewN | apply below_drew1) | exact HB.out)) hb); clear HO106; clear HB; have HO106 := n0_; have HO113 := n1_; have HB := n2_; clear n0_ n1_ n2_; (try clear hb); (try clear hb2); (try clear hk); (try clear hi); (try clear ho0)) | (clear tok2_; go_at_call 20; (with_reducible refine (grommetlaw16_theirs.calls kj2 _ _ l1 t114 _ ?side1 ?side2 (hG.below (by first | ((repeat (first | (with_reducible first | exact HB.out | apply below_alloc | apply pw_below_drewN | apply below_drew1 | (refine Glob.below_set ?_ (by assumption) _ _ _)) | exact HB.out)); done) | (refine Drawn0.below ?_; repeat (first | exact Drawn0.refl _ | assumption | apply Drawn0.step)))) A19.out).mono ?_); (case side1 => repeat (first | exact (Kd.C_below HR1.out HB.out) | (with_reducible refine Kd.C_alloc ?_ _) | (with_reducible refine Kd.C_drewN ?_ _) | (with_reducible refine Kd.C_drew ?_))); (case side2 => exact HC1.out); rintro e w33 ⟨v115, rfl, ho0, hb⟩; have n0_ := Aside0.mk (Kd.R_elder' (by (with_reducible repeat (first | apply Kd.R_alloc | apply Kd.R_drewN | apply Kd.R_drew)); exact HO106.out) (Kd.R_base ho0) hb); have n1_ := Aside0.mk (Kd.R_elder' (by (with_reducible repeat (first | apply Kd.R_alloc | apply Kd.R_drewN | apply Kd.R_drew)); exact HO113.out) (Kd.R_base ho0) hb); have n2_ := Aside0.mk (Kd.R_lower (Kd.R_new' (Kd.R_new' ho0 (Kd.R_lt (by (with_reducible repeat (first | apply Kd.R_alloc | apply Kd.R_drewN | apply Kd.R_drew)); exact HO106.out))) (Kd.R_lt (by (with_reducible repeat (first | apply Kd.R_alloc | apply Kd.R_drewN | apply Kd.R_drew)); exact HO113.out))) (below_size (by repeat (first | (with_reducible first | exact HB.out | apply below_alloc | apply pw_below_drewN | apply below_drew1) | exact HB.out)))); have n3_ := Aside0.mk (below_step (by repeat (first | (with_reducible first | exact HB.out | apply below_alloc | apply pw_below_drewN | apply below_drew1) | exact HB.out)) hb); clear HO106; clear HO113; clear HB; have HO106 := n0_; have HO113 := n1_; have HO116 := n2_; have HB := n3_; clear n0_ n1_ n2_ n3_; (try clear hb); (try clear hb2); (try clear hk); (try clear hi); (try clear ho0); obtain ⟨Ao34, co34, eo34⟩ := Kd.R_slice HO113.out; subst eo34; obtain ⟨Ao35, co35, eo35⟩ := Kd.R_slice HO116.out; subst eo35) | (go_at_call 22; (with_reducible refine (path_Same.calls kj2 _ _ t111 _ _ t114 t117 _ ?side1 ?side2 ?side3 ?side4 (hG.below (by first | ((repeat (first | (with_reducible first | exact HB.out | apply below_alloc | apply pw_below_drewN | apply below_drew1 | (refine Glob.below_set ?_ (by assumption) _ _ _)) | exact HB.out)); done) | (refine Drawn0.below ?_; repeat (first | exact Drawn0.refl _ | assumption | apply Drawn0.step)))) A20.out).mono ?_); (case side1 => repeat (first | exact (Kd.R_reads' HO113.out).2.2 | (with_reducible refine Kd.C_alloc ?_ _) | (with_reducible refine Kd.C_drewN ?_ _) | (with_reducible refine Kd.C_drew ?_))); (case side2 => exact (Kd.R_reads' HO113.out).2.1); (case side3 => repeat (first | exact (Kd.R_reads' HO116.out).2.2 | (with_reducible refine Kd.C_alloc ?_ _) | (with_reducible refine Kd.C_drewN ?_ _) | (with_reducible refine Kd.C_drew ?_))); (case side4 => exact (Kd.R_reads' HO116.out).2.1); rintro e w36 ⟨rfl, hb⟩; have n0_ := Aside0.mk (Kd.R_below (by (with_reducible repeat (first | apply Kd.R_alloc | apply Kd.R_drewN | apply Kd.R_drew)); exact HO106.out) hb); have n1_ := Aside0.mk (Kd.R_below (by (with_reducible repeat (first | apply Kd.R_alloc | apply Kd.R_drewN | apply Kd.R_drew)); exact HO113.out) hb); have n2_ := Aside0.mk (Kd.R_below (by (with_reducible repeat (first | apply Kd.R_alloc | apply Kd.R_drewN | apply Kd.R_drew)); exact HO116.out) hb); have n3_ := Aside0.mk (below_step (by repeat (first | (with_reducible first | exact HB.out | apply below_alloc | apply pw_below_drewN | apply below_drew1) | exact HB.out)) hb); clear HO106; clear HO113; clear HO116; clear HB; have HO106 := n0_; have HO113 := n1_; have HO116 := n2_; have HB := n3_; clear n0_ n1_ n2_ n3_; (try clear hb); (try clear hb2); (try clear hk); (try clear hi)) | (go_at_call 23; (with_reducible refine (grommetref16_Same.calls _ _ l0 _ _ l1 t118 _ ?side1 ?side2 ?side3 ?side4 (hG.below (by first | ((repeat (first | (with_reducible first | exact HB.out | apply below_alloc | apply pw_below_drewN | apply below_drew1 | (refine Glob.below_set ?_ (by assumption) _ _ _)) | exact HB.out)); done) | (refine Drawn0.below ?_; repeat (first | exact Drawn0.refl _ | assumption | apply Drawn0.step)))) A21.out).mono ?_); (case side1 => repeat (first | exact (Kd.C_below HR0.out HB.out) | (with_reducible refine Kd.C_alloc ?_ _) | (with_reducible refine Kd.C_drewN ?_ _) | (with_reducible refine Kd.C_drew ?_))); (case side2 => exact HC0.out); (case side3 => repeat (first | exact (Kd.C_below HR1.out HB.out) | (with_reducible refine Kd.C_alloc ?_ _) | (with_reducible refine Kd.C_drewN ?_ _) | (with_reducible refine Kd.C_drew ?_))); (case side4 => exact HC1.out); rintro e w' ⟨rfl, ⟨nd, rfl⟩⟩) | (clear tok3_; go_at_call 20; (with_reducible refine (grommetlaw16_theirs.calls kj2 _ _ l0 t119 _ ?side1 ?side2 (hG.below (by first | ((repeat (first | (with_reducible first | exact HB.out | apply below_alloc | apply pw_below_drewN | apply below_drew1 | (refine Glob.below_set ?_ (by assumption) _ _ _)) | exact HB.out)); done) | (refine Drawn0.below ?_; repeat (first | exact Drawn0.refl _ | assumption | apply Drawn0.step)))) A23.out).mono ?_); (case side1 => repeat (first | exact (Kd.C_below HR0.out (by repeat (first | (with_reducible first | exact HB.out | apply below_alloc | apply pw_below_drewN | apply below_drew1) | exact HB.out))) | (with_reducible refine Kd.C_alloc ?_ _) | (with_reducible refine Kd.C_drewN ?_ _) | (with_reducible refine Kd.C_drew ?_))); (case side2 => exact HC0.out); rintro e w37 ⟨v120, rfl, ho0, hb⟩; have n0_ := Aside0.mk (Kd.R_elder' (by (with_reducible repeat (first | apply Kd.R_alloc | apply Kd.R_drewN | apply Kd.R_drew)); exact HO106.out) (Kd.R_base ho0) hb); have n1_ := Aside0.mk (Kd.R_elder' (by (with_reducible repeat (first | apply Kd.R_alloc | apply Kd.R_drewN | apply Kd.R_drew)); exact HO113.out) (Kd.R_base ho0) hb); have n2_ := Aside0.mk (Kd.R_elder' (by (with_reducible repeat (first | apply Kd.R_alloc | apply Kd.R_drewN | apply Kd.R_drew)); exact HO116.out) (Kd.R_base ho0) hb); have n3_ := Aside0.mk (Kd.R_lower (Kd.R_new' (Kd.R_new' (Kd.R_new' ho0 (Kd.R_lt (by (with_reducible repeat (first | apply Kd.R_alloc | apply Kd.R_drewN | apply Kd.R_drew)); exact HO106.out))) (Kd.R_lt (by (with_reducible repeat (first | apply Kd.R_alloc | apply Kd.R_drewN | apply Kd.R_drew)); exact HO113.out))) (Kd.R_lt (by (with_reducible repeat (first | apply Kd.R_alloc | apply Kd.R_drewN | apply Kd.R_drew)); exact HO116.out))) (below_size (by repeat (first | (with_reducible first | exact HB.out | apply below_alloc | apply pw_below_drewN | apply below_drew1) | exact HB.out)))); have n4_ := Aside0.mk (below_step (by repeat (first | (with_reducible first | exact HB.out | apply below_alloc | apply pw_below_drewN | apply below_drew1) | exact HB.out)) hb); clear HO106; clear HO113; clear HO116; clear HB; have HO106 := n0_; have HO113 := n1_; have HO116 := n2_; have HO121 := n3_; have HB := n4_; clear n0_ n1_ n2_ n3_ n4_; (try clear hb); (try clear hb2); (try clear hk); (try clear hi); (try clear ho0)) | (clear tok4_; go_at_call 20; (with_reducible refine (grommetlaw16_theirs.calls kj2 _ _ l0 t122 _ ?side1 ?side2 (hG.below (by first | ((repeat (first | (with_reducible first | exact HB.out | apply below_alloc | apply pw_below_drewN | apply below_drew1 | (refine Glob.below_set ?_ (by assumption) _ _ _)) | exact HB.out)); done) | (refine Drawn0.below ?_; repeat (first | exact Drawn0.refl _ | assumption | apply Drawn0.step)))) A24.out).mono ?_); (case side1 => repeat (first | exact (Kd.C_below HR0.out HB.out) | (with_reducible refine Kd.C_alloc ?_ _) | (with_reducible refine Kd.C_drewN ?_ _) | (with_reducible refine Kd.C_drew ?_))); (case side2 => exact HC0.out); rintro e w38 ⟨v123, rfl, ho0, hb⟩; have n0_ := Aside0.mk (Kd.R_elder' (by (with_reducible repeat (first | apply Kd.R_alloc | apply Kd.R_drewN | apply Kd.R_drew)); exact HO106.out) (Kd.R_base ho0) hb); have n1_ := Aside0.mk (Kd.R_elder' (by (with_reducible repeat (first | apply Kd.R_alloc | apply Kd.R_drewN | apply Kd.R_drew)); exact HO113.out) (Kd.R_base ho0) hb); have n2_ := Aside0.mk (Kd.R_elder' (by (with_reducible repeat (first | apply Kd.R_alloc | apply Kd.R_drewN | apply Kd.R_drew)); exact HO116.out) (Kd.R_base ho0) hb); have n3_ := Aside0.mk (Kd.R_elder' (by (with_reducible repeat (first | apply Kd.R_alloc | apply Kd.R_drewN | apply Kd.R_drew)); exact HO121.out) (Kd.R_base ho0) hb); have n4_ := Aside0.mk (Kd.R_lower (Kd.R_new' (Kd.R_new' (Kd.R_new' (Kd.R_new' ho0 (Kd.R_lt (by (with_reducible repeat (first | apply Kd.R_alloc | apply Kd.R_drewN | apply Kd.R_drew)); exact HO106.out))) (Kd.R_lt (by (with_reducible repeat (first | apply Kd.R_alloc | apply Kd.R_drewN | apply Kd.R_drew)); exact HO113.out))) (Kd.R_lt (by (with_reducible repeat (first | apply Kd.R_alloc | apply Kd.R_drewN | apply Kd.R_drew)); exact HO116.out))) (Kd.R_lt (by (with_reducible repeat (first | apply Kd.R_alloc | apply Kd.R_drewN | apply Kd.R_drew)); exact HO121.out))) (below_size (by repeat (first | (with_reducible first | exact HB.out | apply below_alloc | apply pw_below_drewN | apply below_drew1) | exact HB.out)))); have n5_ := Aside0.mk (below_step (by repeat (first | (with_reducible first | exact HB.out | apply below_alloc | apply pw_below_drewN | apply below_drew1) | exact HB.out)) hb); clear HO106; clear HO113; clear HO116; clear HO121; clear HB; have HO106 := n0_; have HO113 := n1_; have HO116 := n2_; have HO121 := n3_; have HO124 := n4_; have HB := n5_; clear n0_ n1_ n2_ n3_ n4_ n5_; (try clear hb); (try clear hb2); (try clear hk); (try clear hi); (try clear ho0); obtain ⟨Ao39, co39, eo39⟩ := Kd.R_slice HO121.out; subst eo39; obtain ⟨Ao40, co40, eo40⟩ := Kd.R_slice HO124.out; subst eo40) | (go_at_call 22; (with_reducible refine (path_Same.calls kj2 _ _ t119 _ _ t122 true _ ?side1 ?side2 ?side3 ?side4 (hG.below (by first | ((repeat (first | (with_reducible first | exact HB.out | apply below_alloc | apply pw_below_drewN | apply below_drew1 | (refine Glob.below_set ?_ (by assumption) _ _ _)) | exact HB.out)); done) | (refine Drawn0.below ?_; repeat (first | exact Drawn0.refl _ | assumption | apply Drawn0.step)))) A25.out).mono ?_); (case side1 => repeat (first | exact (Kd.R_reads' HO121.out).2.2 | (with_reducible refine Kd.C_alloc ?_ _) | (with_reducible refine Kd.C_drewN ?_ _) | (with_reducible refine Kd.C_drew ?_))); (case side2 => exact (Kd.R_reads' HO121.out).2.1); (case side3 => repeat (first | exact (Kd.R_reads' HO124.out).2.2 | (with_reducible refine Kd.C_alloc ?_ _) | (with_reducible refine Kd.C_drewN ?_ _) | (with_reducible refine Kd.C_drew ?_))); (case side4 => exact (Kd.R_reads' HO124.out).2.1); rintro e w41 ⟨rfl, hb⟩; have n0_ := Aside0.mk (Kd.R_below (by (with_reducible repeat (first | apply Kd.R_alloc | apply Kd.R_drewN | apply Kd.R_drew)); exact HO106.out) hb); have n1_ := Aside0.mk (Kd.R_below (by (with_reducible repeat (first | apply Kd.R_alloc | apply Kd.R_drewN | apply Kd.R_drew)); exact HO113.out) hb); have n2_ := Aside0.mk (Kd.R_below (by (with_reducible repeat (first | apply Kd.R_alloc | apply Kd.R_drewN | apply Kd.R_drew)); exact HO116.out) hb); have n3_ := Aside0.mk (Kd.R_below (by (with_reducible repeat (first | apply Kd.R_alloc | apply Kd.R_drewN | apply Kd.R_drew)); exact HO121.out) hb); have n4_ := Aside0.mk (Kd.R_below (by (with_reducible repeat (first | apply Kd.R_alloc | apply Kd.R_drewN | apply Kd.R_drew)); exact HO124.out) hb); have n5_ := Aside0.mk (below_step (by repeat (first | (with_reducible first | exact HB.out | apply below_alloc | apply pw_below_drewN | apply below_drew1) | exact HB.out)) hb); clear HO106; clear HO113; clear HO116; clear HO121; clear HO124; clear HB; have HO106 := n0_; have HO113 := n1_; have HO116 := n2_; have HO121 := n3_; have HO124 := n4_; have HB := n5_; clear n0_ n1_ n2_ n3_ n4_ n5_; (try clear hb); (try clear hb2); (try clear hk); (try clear hi)) | (go_at_call 18; (with_reducible refine (grommetlaw16_alive.calls  t126 _ (hG.below (by first | ((repeat (first | (with_reducible first | exact HB.out | apply below_alloc | apply pw_below_drewN | apply below_drew1 | (refine Glob.below_set ?_ (by assumption) _ _ _)) | exact HB.out)); done) | (refine Drawn0.below ?_; repeat (first | exact Drawn0.refl _ | assumption | apply Drawn0.step)))) A27.out).mono ?_); rintro e w42 ⟨rfl, hb⟩; have n0_ := Aside0.mk (Kd.R_below (by (with_reducible repeat (first | apply Kd.R_alloc | apply Kd.R_drewN | apply Kd.R_drew)); exact HO106.out) hb); have n1_ := Aside0.mk (Kd.R_below (by (with_reducible repeat (first | apply Kd.R_alloc | apply Kd.R_drewN | apply Kd.R_drew)); exact HO113.out) hb); have n2_ := Aside0.mk (Kd.R_below (by (with_reducible repeat (first | apply Kd.R_alloc | apply Kd.R_drewN | apply Kd.R_drew)); exact HO116.out) hb); have n3_ := Aside0.mk (Kd.R_below (by (with_reducible repeat (first | apply Kd.R_alloc | apply Kd.R_drewN | apply Kd.R_drew)); exact HO121.out) hb); have n4_ := Aside0.mk (Kd.R_below (by (with_reducible repeat (first | apply Kd.R_alloc | apply Kd.R_drewN | apply Kd.R_drew)); exact HO124.out) hb); have n5_ := Aside0.mk (below_step (by repeat (first | (with_reducible first | exact HB.out | apply below_alloc | apply pw_below_drewN | apply below_drew1) | exact HB.out)) hb); clear HO106; clear HO113; clear HO116; clear HO121; clear HO124; clear HB; have HO106 := n0_; have HO113 := n1_; have HO116 := n2_; have HO121 := n3_; have HO124 := n4_; have HB := n5_; clear n0_ n1_ n2_ n3_ n4_ n5_; (try clear hb); (try clear hb2); (try clear hk); (try clear hi)))
                go_ret
                exact ⟨by first | rfl | (simp [errW_none, errW_some] <;> rfl) | (simp [*, errW_none, errW_some] <;> rfl), by repeat (first | (with_reducible first | exact HB.out | apply below_alloc | apply pw_below_drewN | apply below_drew1) | exact HB.out)⟩
              · replace c26 := Bool.eq_false_iff.mpr c26
                subst c26
                have H1 : (some false) = some r := by rw [if_neg (show ¬ (false = true) by decide)] at H; exact H
                clear H
                have H := H1
                clear H1
                obtain rfl := Option.some.inj H
                have tok1_ : True := trivial
                have tok2_ : True := trivial
                have tok3_ : True := trivial
                have tok4_ : True := trivial
                go_wp2_with (first | ((with_reducible refine gate_callee (f := 20) rfl ?_); refine goesL_ (some 18) rfl rfl Tryz.func20 (by kernel_rfl) rfl #[.slice A0 l0.length c0] rfl (by (try simp only [List.map_toArray, List.map_cons, List.map_nil]); first | done | rfl | (simp only [List.length_drop, List.length_take]; rfl)) ?_; (with_reducible refine (grommetlaw16_theirs.calls kj2 _ _ l0 t104 _ ?side1 ?side2 (hG.below (by first | ((repeat (first | (with_reducible first | exact HB.out | apply below_alloc | apply pw_below_drewN | apply below_drew1 | (refine Glob.below_set ?_ (by assumption) _ _ _)) | exact HB.out)); done) | (refine Drawn0.below ?_; repeat (first | exact Drawn0.refl _ | assumption | apply Drawn0.step)))) A13.out).mono ?_); (case side1 => repeat (first | exact (Kd.C_below HR0.out HB.out) | (with_reducible refine Kd.C_alloc ?_ _) | (with_reducible refine Kd.C_drewN ?_ _) | (with_reducible refine Kd.C_drew ?_))); (case side2 => exact HC0.out); rintro e w43 ⟨v105, rfl, ho0, hb⟩; refine ⟨_, rfl, ?_⟩; have n0_ := Aside0.mk (Kd.R_lower ho0 (below_size (by repeat (first | (with_reducible first | exact HB.out | apply below_alloc | apply pw_below_drewN | apply below_drew1) | exact HB.out)))); have n1_ := Aside0.mk (below_step (by repeat (first | (with_reducible first | exact HB.out | apply below_alloc | apply pw_below_drewN | apply below_drew1) | exact HB.out)) hb); clear HB; have HO106 := n0_; have HB := n1_; clear n0_ n1_; (try clear hb); (try clear hb2); (try clear hk); (try clear hi); (try clear ho0); obtain ⟨Ao44, co44, eo44⟩ := Kd.R_slice HO106.out; subst eo44) | ((with_reducible refine gate_callee (f := 19) rfl ?_); refine goesL_ (some 19) rfl rfl Tryz.func19 (by kernel_rfl) rfl #[.slice Ao44 t104.length co44] rfl (by (try simp only [List.map_toArray, List.map_cons, List.map_nil]); first | done | rfl | (simp only [List.length_drop, List.length_take]; rfl)) ?_; (with_reducible refine (path_Format.calls _ _ t104 t107 t108 _ ?side1 ?side2 (hG.below (by first | ((repeat (first | (with_reducible first | exact HB.out | apply below_alloc | apply pw_below_drewN | apply below_drew1 | (refine Glob.below_set ?_ (by assumption) _ _ _)) | exact HB.out)); done) | (refine Drawn0.below ?_; repeat (first | exact Drawn0.refl _ | assumption | apply Drawn0.step)))) A14.out).mono ?_); (case side1 => repeat (first | exact (Kd.R_reads' HO106.out).2.2 | (with_reducible refine Kd.C_alloc ?_ _) | (with_reducible refine Kd.C_drewN ?_ _) | (with_reducible refine Kd.C_drew ?_))); (case side2 => exact (Kd.R_reads' HO106.out).2.1); rintro e w45 ⟨rfl, hb⟩; refine ⟨_, rfl, ?_⟩; have n0_ := Aside0.mk (Kd.R_below (by (with_reducible repeat (first | apply Kd.R_alloc | apply Kd.R_drewN | apply Kd.R_drew)); exact HO106.out) hb); have n1_ := Aside0.mk (below_step (by repeat (first | (with_reducible first | exact HB.out | apply below_alloc | apply pw_below_drewN | apply below_drew1) | exact HB.out)) hb); clear HO106; clear HB; have HO106 := n0_; have HB := n1_; clear n0_ n1_; (try clear hb); (try clear hb2); (try clear hk); (try clear hi)) | ((with_reducible refine gate_callee (f := 21) rfl ?_); refine goesL_ (some 24) rfl rfl Tryz.func21 (by kernel_rfl) rfl #[.slice A0 l0.length c0] rfl (by (try simp only [List.map_toArray, List.map_cons, List.map_nil]); first | done | rfl | (simp only [List.length_drop, List.length_take]; rfl)) ?_; (with_reducible refine (grommetref16_Format.calls kj2 _ _ l0 t109 t110 _ ?side1 ?side2 (hG.below (by first | ((repeat (first | (with_reducible first | exact HB.out | apply below_alloc | apply pw_below_drewN | apply below_drew1 | (refine Glob.below_set ?_ (by assumption) _ _ _)) | exact HB.out)); done) | (refine Drawn0.below ?_; repeat (first | exact Drawn0.refl _ | assumption | apply Drawn0.step)))) A15.out).mono ?_); (case side1 => repeat (first | exact (Kd.C_below HR0.out HB.out) | (with_reducible refine Kd.C_alloc ?_ _) | (with_reducible refine Kd.C_drewN ?_ _) | (with_reducible refine Kd.C_drew ?_))); (case side2 => exact HC0.out); rintro e w46 ⟨rfl, hb⟩; refine ⟨_, rfl, ?_⟩; have n0_ := Aside0.mk (Kd.R_below (by (with_reducible repeat (first | apply Kd.R_alloc | apply Kd.R_drewN | apply Kd.R_drew)); exact HO106.out) hb); have n1_ := Aside0.mk (below_step (by repeat (first | (with_reducible first | exact HB.out | apply below_alloc | apply pw_below_drewN | apply below_drew1) | exact HB.out)) hb); clear HO106; clear HB; have HO106 := n0_; have HB := n1_; clear n0_ n1_; (try clear hb); (try clear hb2); (try clear hk); (try clear hi)) | (clear tok1_; go_at_call 20; (with_reducible refine (grommetlaw16_theirs.calls kj2 _ _ l0 t111 _ ?side1 ?side2 (hG.below (by first | ((repeat (first | (with_reducible first | exact HB.out | apply below_alloc | apply pw_below_drewN | apply below_drew1 | (refine Glob.below_set ?_ (by assumption) _ _ _)) | exact HB.out)); done) | (refine Drawn0.below ?_; repeat (first | exact Drawn0.refl _ | assumption | apply Drawn0.step)))) A18.out).mono ?_); (case side1 => repeat (first | exact (Kd.C_below HR0.out HB.out) | (with_reducible refine Kd.C_alloc ?_ _) | (with_reducible refine Kd.C_drewN ?_ _) | (with_reducible refine Kd.C_drew ?_))); (case side2 => exact HC0.out); rintro e w47 ⟨v112, rfl, ho0, hb⟩; have n0_ := Aside0.mk (Kd.R_elder' (by (with_reducible repeat (first | apply Kd.R_alloc | apply Kd.R_drewN | apply Kd.R_drew)); exact HO106.out) (Kd.R_base ho0) hb); have n1_ := Aside0.mk (Kd.R_lower (Kd.R_new' ho0 (Kd.R_lt (by (with_reducible repeat (first | apply Kd.R_alloc | apply Kd.R_drewN | apply Kd.R_drew)); exact HO106.out))) (below_size (by repeat (first | (with_reducible first | exact HB.out | apply below_alloc | apply pw_below_drewN | apply below_drew1) | exact HB.out)))); have n2_ := Aside0.mk (below_step (by repeat (first | (with_reducible first | exact HB.out | apply below_alloc | apply pw_below_drewN | apply below_drew1) | exact HB.out)) hb); clear HO106; clear HB; have HO106 := n0_; have HO113 := n1_; have HB := n2_; clear n0_ n1_ n2_; (try clear hb); (try clear hb2); (try clear hk); (try clear hi); (try clear ho0)) | (clear tok2_; go_at_call 20; (with_reducible refine (grommetlaw16_theirs.calls kj2 _ _ l1 t114 _ ?side1 ?side2 (hG.below (by first | ((repeat (first | (with_reducible first | exact HB.out | apply below_alloc | apply pw_below_drewN | apply below_drew1 | (refine Glob.below_set ?_ (by assumption) _ _ _)) | exact HB.out)); done) | (refine Drawn0.below ?_; repeat (first | exact Drawn0.refl _ | assumption | apply Drawn0.step)))) A19.out).mono ?_); (case side1 => repeat (first | exact (Kd.C_below HR1.out HB.out) | (with_reducible refine Kd.C_alloc ?_ _) | (with_reducible refine Kd.C_drewN ?_ _) | (with_reducible refine Kd.C_drew ?_))); (case side2 => exact HC1.out); rintro e w48 ⟨v115, rfl, ho0, hb⟩; have n0_ := Aside0.mk (Kd.R_elder' (by (with_reducible repeat (first | apply Kd.R_alloc | apply Kd.R_drewN | apply Kd.R_drew)); exact HO106.out) (Kd.R_base ho0) hb); have n1_ := Aside0.mk (Kd.R_elder' (by (with_reducible repeat (first | apply Kd.R_alloc | apply Kd.R_drewN | apply Kd.R_drew)); exact HO113.out) (Kd.R_base ho0) hb); have n2_ := Aside0.mk (Kd.R_lower (Kd.R_new' (Kd.R_new' ho0 (Kd.R_lt (by (with_reducible repeat (first | apply Kd.R_alloc | apply Kd.R_drewN | apply Kd.R_drew)); exact HO106.out))) (Kd.R_lt (by (with_reducible repeat (first | apply Kd.R_alloc | apply Kd.R_drewN | apply Kd.R_drew)); exact HO113.out))) (below_size (by repeat (first | (with_reducible first | exact HB.out | apply below_alloc | apply pw_below_drewN | apply below_drew1) | exact HB.out)))); have n3_ := Aside0.mk (below_step (by repeat (first | (with_reducible first | exact HB.out | apply below_alloc | apply pw_below_drewN | apply below_drew1) | exact HB.out)) hb); clear HO106; clear HO113; clear HB; have HO106 := n0_; have HO113 := n1_; have HO116 := n2_; have HB := n3_; clear n0_ n1_ n2_ n3_; (try clear hb); (try clear hb2); (try clear hk); (try clear hi); (try clear ho0); obtain ⟨Ao49, co49, eo49⟩ := Kd.R_slice HO113.out; subst eo49; obtain ⟨Ao50, co50, eo50⟩ := Kd.R_slice HO116.out; subst eo50) | (go_at_call 22; (with_reducible refine (path_Same.calls kj2 _ _ t111 _ _ t114 t117 _ ?side1 ?side2 ?side3 ?side4 (hG.below (by first | ((repeat (first | (with_reducible first | exact HB.out | apply below_alloc | apply pw_below_drewN | apply below_drew1 | (refine Glob.below_set ?_ (by assumption) _ _ _)) | exact HB.out)); done) | (refine Drawn0.below ?_; repeat (first | exact Drawn0.refl _ | assumption | apply Drawn0.step)))) A20.out).mono ?_); (case side1 => repeat (first | exact (Kd.R_reads' HO113.out).2.2 | (with_reducible refine Kd.C_alloc ?_ _) | (with_reducible refine Kd.C_drewN ?_ _) | (with_reducible refine Kd.C_drew ?_))); (case side2 => exact (Kd.R_reads' HO113.out).2.1); (case side3 => repeat (first | exact (Kd.R_reads' HO116.out).2.2 | (with_reducible refine Kd.C_alloc ?_ _) | (with_reducible refine Kd.C_drewN ?_ _) | (with_reducible refine Kd.C_drew ?_))); (case side4 => exact (Kd.R_reads' HO116.out).2.1); rintro e w51 ⟨rfl, hb⟩; have n0_ := Aside0.mk (Kd.R_below (by (with_reducible repeat (first | apply Kd.R_alloc | apply Kd.R_drewN | apply Kd.R_drew)); exact HO106.out) hb); have n1_ := Aside0.mk (Kd.R_below (by (with_reducible repeat (first | apply Kd.R_alloc | apply Kd.R_drewN | apply Kd.R_drew)); exact HO113.out) hb); have n2_ := Aside0.mk (Kd.R_below (by (with_reducible repeat (first | apply Kd.R_alloc | apply Kd.R_drewN | apply Kd.R_drew)); exact HO116.out) hb); have n3_ := Aside0.mk (below_step (by repeat (first | (with_reducible first | exact HB.out | apply below_alloc | apply pw_below_drewN | apply below_drew1) | exact HB.out)) hb); clear HO106; clear HO113; clear HO116; clear HB; have HO106 := n0_; have HO113 := n1_; have HO116 := n2_; have HB := n3_; clear n0_ n1_ n2_ n3_; (try clear hb); (try clear hb2); (try clear hk); (try clear hi)) | (go_at_call 23; (with_reducible refine (grommetref16_Same.calls _ _ l0 _ _ l1 t118 _ ?side1 ?side2 ?side3 ?side4 (hG.below (by first | ((repeat (first | (with_reducible first | exact HB.out | apply below_alloc | apply pw_below_drewN | apply below_drew1 | (refine Glob.below_set ?_ (by assumption) _ _ _)) | exact HB.out)); done) | (refine Drawn0.below ?_; repeat (first | exact Drawn0.refl _ | assumption | apply Drawn0.step)))) A21.out).mono ?_); (case side1 => repeat (first | exact (Kd.C_below HR0.out HB.out) | (with_reducible refine Kd.C_alloc ?_ _) | (with_reducible refine Kd.C_drewN ?_ _) | (with_reducible refine Kd.C_drew ?_))); (case side2 => exact HC0.out); (case side3 => repeat (first | exact (Kd.C_below HR1.out HB.out) | (with_reducible refine Kd.C_alloc ?_ _) | (with_reducible refine Kd.C_drewN ?_ _) | (with_reducible refine Kd.C_drew ?_))); (case side4 => exact HC1.out); rintro e w' ⟨rfl, ⟨nd, rfl⟩⟩) | (clear tok3_; go_at_call 20; (with_reducible refine (grommetlaw16_theirs.calls kj2 _ _ l0 t119 _ ?side1 ?side2 (hG.below (by first | ((repeat (first | (with_reducible first | exact HB.out | apply below_alloc | apply pw_below_drewN | apply below_drew1 | (refine Glob.below_set ?_ (by assumption) _ _ _)) | exact HB.out)); done) | (refine Drawn0.below ?_; repeat (first | exact Drawn0.refl _ | assumption | apply Drawn0.step)))) A23.out).mono ?_); (case side1 => repeat (first | exact (Kd.C_below HR0.out (by repeat (first | (with_reducible first | exact HB.out | apply below_alloc | apply pw_below_drewN | apply below_drew1) | exact HB.out))) | (with_reducible refine Kd.C_alloc ?_ _) | (with_reducible refine Kd.C_drewN ?_ _) | (with_reducible refine Kd.C_drew ?_))); (case side2 => exact HC0.out); rintro e w52 ⟨v120, rfl, ho0, hb⟩; have n0_ := Aside0.mk (Kd.R_elder' (by (with_reducible repeat (first | apply Kd.R_alloc | apply Kd.R_drewN | apply Kd.R_drew)); exact HO106.out) (Kd.R_base ho0) hb); have n1_ := Aside0.mk (Kd.R_elder' (by (with_reducible repeat (first | apply Kd.R_alloc | apply Kd.R_drewN | apply Kd.R_drew)); exact HO113.out) (Kd.R_base ho0) hb); have n2_ := Aside0.mk (Kd.R_elder' (by (with_reducible repeat (first | apply Kd.R_alloc | apply Kd.R_drewN | apply Kd.R_drew)); exact HO116.out) (Kd.R_base ho0) hb); have n3_ := Aside0.mk (Kd.R_lower (Kd.R_new' (Kd.R_new' (Kd.R_new' ho0 (Kd.R_lt (by (with_reducible repeat (first | apply Kd.R_alloc | apply Kd.R_drewN | apply Kd.R_drew)); exact HO106.out))) (Kd.R_lt (by (with_reducible repeat (first | apply Kd.R_alloc | apply Kd.R_drewN | apply Kd.R_drew)); exact HO113.out))) (Kd.R_lt (by (with_reducible repeat (first | apply Kd.R_alloc | apply Kd.R_drewN | apply Kd.R_drew)); exact HO116.out))) (below_size (by repeat (first | (with_reducible first | exact HB.out | apply below_alloc | apply pw_below_drewN | apply below_drew1) | exact HB.out)))); have n4_ := Aside0.mk (below_step (by repeat (first | (with_reducible first | exact HB.out | apply below_alloc | apply pw_below_drewN | apply below_drew1) | exact HB.out)) hb); clear HO106; clear HO113; clear HO116; clear HB; have HO106 := n0_; have HO113 := n1_; have HO116 := n2_; have HO121 := n3_; have HB := n4_; clear n0_ n1_ n2_ n3_ n4_; (try clear hb); (try clear hb2); (try clear hk); (try clear hi); (try clear ho0)) | (clear tok4_; go_at_call 20; (with_reducible refine (grommetlaw16_theirs.calls kj2 _ _ l0 t122 _ ?side1 ?side2 (hG.below (by first | ((repeat (first | (with_reducible first | exact HB.out | apply below_alloc | apply pw_below_drewN | apply below_drew1 | (refine Glob.below_set ?_ (by assumption) _ _ _)) | exact HB.out)); done) | (refine Drawn0.below ?_; repeat (first | exact Drawn0.refl _ | assumption | apply Drawn0.step)))) A24.out).mono ?_); (case side1 => repeat (first | exact (Kd.C_below HR0.out HB.out) | (with_reducible refine Kd.C_alloc ?_ _) | (with_reducible refine Kd.C_drewN ?_ _) | (with_reducible refine Kd.C_drew ?_))); (case side2 => exact HC0.out); rintro e w53 ⟨v123, rfl, ho0, hb⟩; have n0_ := Aside0.mk (Kd.R_elder' (by (with_reducible repeat (first | apply Kd.R_alloc | apply Kd.R_drewN | apply Kd.R_drew)); exact HO106.out) (Kd.R_base ho0) hb); have n1_ := Aside0.mk (Kd.R_elder' (by (with_reducible repeat (first | apply Kd.R_alloc | apply Kd.R_drewN | apply Kd.R_drew)); exact HO113.out) (Kd.R_base ho0) hb); have n2_ := Aside0.mk (Kd.R_elder' (by (with_reducible repeat (first | apply Kd.R_alloc | apply Kd.R_drewN | apply Kd.R_drew)); exact HO116.out) (Kd.R_base ho0) hb); have n3_ := Aside0.mk (Kd.R_elder' (by (with_reducible repeat (first | apply Kd.R_alloc | apply Kd.R_drewN | apply Kd.R_drew)); exact HO121.out) (Kd.R_base ho0) hb); have n4_ := Aside0.mk (Kd.R_lower (Kd.R_new' (Kd.R_new' (Kd.R_new' (Kd.R_new' ho0 (Kd.R_lt (by (with_reducible repeat (first | apply Kd.R_alloc | apply Kd.R_drewN | apply Kd.R_drew)); exact HO106.out))) (Kd.R_lt (by (with_reducible repeat (first | apply Kd.R_alloc | apply Kd.R_drewN | apply Kd.R_drew)); exact HO113.out))) (Kd.R_lt (by (with_reducible repeat (first | apply Kd.R_alloc | apply Kd.R_drewN | apply Kd.R_drew)); exact HO116.out))) (Kd.R_lt (by (with_reducible repeat (first | apply Kd.R_alloc | apply Kd.R_drewN | apply Kd.R_drew)); exact HO121.out))) (below_size (by repeat (first | (with_reducible first | exact HB.out | apply below_alloc | apply pw_below_drewN | apply below_drew1) | exact HB.out)))); have n5_ := Aside0.mk (below_step (by repeat (first | (with_reducible first | exact HB.out | apply below_alloc | apply pw_below_drewN | apply below_drew1) | exact HB.out)) hb); clear HO106; clear HO113; clear HO116; clear HO121; clear HB; have HO106 := n0_; have HO113 := n1_; have HO116 := n2_; have HO121 := n3_; have HO124 := n4_; have HB := n5_; clear n0_ n1_ n2_ n3_ n4_ n5_; (try clear hb); (try clear hb2); (try clear hk); (try clear hi); (try clear ho0); obtain ⟨Ao54, co54, eo54⟩ := Kd.R_slice HO121.out; subst eo54; obtain ⟨Ao55, co55, eo55⟩ := Kd.R_slice HO124.out; subst eo55) | (go_at_call 22; (with_reducible refine (path_Same.calls kj2 _ _ t119 _ _ t122 false _ ?side1 ?side2 ?side3 ?side4 (hG.below (by first | ((repeat (first | (with_reducible first | exact HB.out | apply below_alloc | apply pw_below_drewN | apply below_drew1 | (refine Glob.below_set ?_ (by assumption) _ _ _)) | exact HB.out)); done) | (refine Drawn0.below ?_; repeat (first | exact Drawn0.refl _ | assumption | apply Drawn0.step)))) A25.out).mono ?_); (case side1 => repeat (first | exact (Kd.R_reads' HO121.out).2.2 | (with_reducible refine Kd.C_alloc ?_ _) | (with_reducible refine Kd.C_drewN ?_ _) | (with_reducible refine Kd.C_drew ?_))); (case side2 => exact (Kd.R_reads' HO121.out).2.1); (case side3 => repeat (first | exact (Kd.R_reads' HO124.out).2.2 | (with_reducible refine Kd.C_alloc ?_ _) | (with_reducible refine Kd.C_drewN ?_ _) | (with_reducible refine Kd.C_drew ?_))); (case side4 => exact (Kd.R_reads' HO124.out).2.1); rintro e w56 ⟨rfl, hb⟩; have n0_ := Aside0.mk (Kd.R_below (by (with_reducible repeat (first | apply Kd.R_alloc | apply Kd.R_drewN | apply Kd.R_drew)); exact HO106.out) hb); have n1_ := Aside0.mk (Kd.R_below (by (with_reducible repeat (first | apply Kd.R_alloc | apply Kd.R_drewN | apply Kd.R_drew)); exact HO113.out) hb); have n2_ := Aside0.mk (Kd.R_below (by (with_reducible repeat (first | apply Kd.R_alloc | apply Kd.R_drewN | apply Kd.R_drew)); exact HO116.out) hb); have n3_ := Aside0.mk (Kd.R_below (by (with_reducible repeat (first | apply Kd.R_alloc | apply Kd.R_drewN | apply Kd.R_drew)); exact HO121.out) hb); have n4_ := Aside0.mk (Kd.R_below (by (with_reducible repeat (first | apply Kd.R_alloc | apply Kd.R_drewN | apply Kd.R_drew)); exact HO124.out) hb); have n5_ := Aside0.mk (below_step (by repeat (first | (with_reducible first | exact HB.out | apply below_alloc | apply pw_below_drewN | apply below_drew1) | exact HB.out)) hb); clear HO106; clear HO113; clear HO116; clear HO121; clear HO124; clear HB; have HO106 := n0_; have HO113 := n1_; have HO116 := n2_; have HO121 := n3_; have HO124 := n4_; have HB := n5_; clear n0_ n1_ n2_ n3_ n4_ n5_; (try clear hb); (try clear hb2); (try clear hk); (try clear hi)))
                go_ret
                exact ⟨by first | rfl | (simp [errW_none, errW_some] <;> rfl) | (simp [*, errW_none, errW_some] <;> rfl), by repeat (first | (with_reducible first | exact HB.out | apply below_alloc | apply pw_below_drewN | apply below_drew1) | exact HB.out)⟩
            · rw [if_neg c22] at H
              have c22b0 : (t117 == t118) = false := by simpa using c22
              (try (have c22b1 : decide (t117 = t118) = false := by simpa using c22))
              (try (have c22b2 : (t117 == t118) = false := by simpa using c22))
              (try (have c22b3 : ¬ (t117 = t118) := by simpa using c22))
              clear c22
              obtain rfl := Option.some.inj H
              go_wp2_with (first | ((with_reducible refine gate_callee (f := 20) rfl ?_); refine goesL_ (some 18) rfl rfl Tryz.func20 (by kernel_rfl) rfl #[.slice A0 l0.length c0] rfl (by (try simp only [List.map_toArray, List.map_cons, List.map_nil]); first | done | rfl | (simp only [List.length_drop, List.length_take]; rfl)) ?_; (with_reducible refine (grommetlaw16_theirs.calls kj2 _ _ l0 t104 _ ?side1 ?side2 (hG.below (by first | ((repeat (first | (with_reducible first | exact HB.out | apply below_alloc | apply pw_below_drewN | apply below_drew1 | (refine Glob.below_set ?_ (by assumption) _ _ _)) | exact HB.out)); done) | (refine Drawn0.below ?_; repeat (first | exact Drawn0.refl _ | assumption | apply Drawn0.step)))) A13.out).mono ?_); (case side1 => repeat (first | exact (Kd.C_below HR0.out HB.out) | (with_reducible refine Kd.C_alloc ?_ _) | (with_reducible refine Kd.C_drewN ?_ _) | (with_reducible refine Kd.C_drew ?_))); (case side2 => exact HC0.out); rintro e w57 ⟨v105, rfl, ho0, hb⟩; refine ⟨_, rfl, ?_⟩; have n0_ := Aside0.mk (Kd.R_lower ho0 (below_size (by repeat (first | (with_reducible first | exact HB.out | apply below_alloc | apply pw_below_drewN | apply below_drew1) | exact HB.out)))); have n1_ := Aside0.mk (below_step (by repeat (first | (with_reducible first | exact HB.out | apply below_alloc | apply pw_below_drewN | apply below_drew1) | exact HB.out)) hb); clear HB; have HO106 := n0_; have HB := n1_; clear n0_ n1_; (try clear hb); (try clear hb2); (try clear hk); (try clear hi); (try clear ho0); obtain ⟨Ao58, co58, eo58⟩ := Kd.R_slice HO106.out; subst eo58) | ((with_reducible refine gate_callee (f := 19) rfl ?_); refine goesL_ (some 19) rfl rfl Tryz.func19 (by kernel_rfl) rfl #[.slice Ao58 t104.length co58] rfl (by (try simp only [List.map_toArray, List.map_cons, List.map_nil]); first | done | rfl | (simp only [List.length_drop, List.length_take]; rfl)) ?_; (with_reducible refine (path_Format.calls _ _ t104 t107 t108 _ ?side1 ?side2 (hG.below (by first | ((repeat (first | (with_reducible first | exact HB.out | apply below_alloc | apply pw_below_drewN | apply below_drew1 | (refine Glob.below_set ?_ (by assumption) _ _ _)) | exact HB.out)); done) | (refine Drawn0.below ?_; repeat (first | exact Drawn0.refl _ | assumption | apply Drawn0.step)))) A14.out).mono ?_); (case side1 => repeat (first | exact (Kd.R_reads' HO106.out).2.2 | (with_reducible refine Kd.C_alloc ?_ _) | (with_reducible refine Kd.C_drewN ?_ _) | (with_reducible refine Kd.C_drew ?_))); (case side2 => exact (Kd.R_reads' HO106.out).2.1); rintro e w59 ⟨rfl, hb⟩; refine ⟨_, rfl, ?_⟩; have n0_ := Aside0.mk (Kd.R_below (by (with_reducible repeat (first | apply Kd.R_alloc | apply Kd.R_drewN | apply Kd.R_drew)); exact HO106.out) hb); have n1_ := Aside0.mk (below_step (by repeat (first | (with_reducible first | exact HB.out | apply below_alloc | apply pw_below_drewN | apply below_drew1) | exact HB.out)) hb); clear HO106; clear HB; have HO106 := n0_; have HB := n1_; clear n0_ n1_; (try clear hb); (try clear hb2); (try clear hk); (try clear hi)) | ((with_reducible refine gate_callee (f := 21) rfl ?_); refine goesL_ (some 24) rfl rfl Tryz.func21 (by kernel_rfl) rfl #[.slice A0 l0.length c0] rfl (by (try simp only [List.map_toArray, List.map_cons, List.map_nil]); first | done | rfl | (simp only [List.length_drop, List.length_take]; rfl)) ?_; (with_reducible refine (grommetref16_Format.calls kj2 _ _ l0 t109 t110 _ ?side1 ?side2 (hG.below (by first | ((repeat (first | (with_reducible first | exact HB.out | apply below_alloc | apply pw_below_drewN | apply below_drew1 | (refine Glob.below_set ?_ (by assumption) _ _ _)) | exact HB.out)); done) | (refine Drawn0.below ?_; repeat (first | exact Drawn0.refl _ | assumption | apply Drawn0.step)))) A15.out).mono ?_); (case side1 => repeat (first | exact (Kd.C_below HR0.out HB.out) | (with_reducible refine Kd.C_alloc ?_ _) | (with_reducible refine Kd.C_drewN ?_ _) | (with_reducible refine Kd.C_drew ?_))); (case side2 => exact HC0.out); rintro e w60 ⟨rfl, hb⟩; refine ⟨_, rfl, ?_⟩; have n0_ := Aside0.mk (Kd.R_below (by (with_reducible repeat (first | apply Kd.R_alloc | apply Kd.R_drewN | apply Kd.R_drew)); exact HO106.out) hb); have n1_ := Aside0.mk (below_step (by repeat (first | (with_reducible first | exact HB.out | apply below_alloc | apply pw_below_drewN | apply below_drew1) | exact HB.out)) hb); clear HO106; clear HB; have HO106 := n0_; have HB := n1_; clear n0_ n1_; (try clear hb); (try clear hb2); (try clear hk); (try clear hi)) | (go_at_call 20; (with_reducible refine (grommetlaw16_theirs.calls kj2 _ _ l0 t111 _ ?side1 ?side2 (hG.below (by first | ((repeat (first | (with_reducible first | exact HB.out | apply below_alloc | apply pw_below_drewN | apply below_drew1 | (refine Glob.below_set ?_ (by assumption) _ _ _)) | exact HB.out)); done) | (refine Drawn0.below ?_; repeat (first | exact Drawn0.refl _ | assumption | apply Drawn0.step)))) A18.out).mono ?_); (case side1 => repeat (first | exact (Kd.C_below HR0.out HB.out) | (with_reducible refine Kd.C_alloc ?_ _) | (with_reducible refine Kd.C_drewN ?_ _) | (with_reducible refine Kd.C_drew ?_))); (case side2 => exact HC0.out); rintro e w61 ⟨v112, rfl, ho0, hb⟩; have n0_ := Aside0.mk (Kd.R_elder' (by (with_reducible repeat (first | apply Kd.R_alloc | apply Kd.R_drewN | apply Kd.R_drew)); exact HO106.out) (Kd.R_base ho0) hb); have n1_ := Aside0.mk (Kd.R_lower (Kd.R_new' ho0 (Kd.R_lt (by (with_reducible repeat (first | apply Kd.R_alloc | apply Kd.R_drewN | apply Kd.R_drew)); exact HO106.out))) (below_size (by repeat (first | (with_reducible first | exact HB.out | apply below_alloc | apply pw_below_drewN | apply below_drew1) | exact HB.out)))); have n2_ := Aside0.mk (below_step (by repeat (first | (with_reducible first | exact HB.out | apply below_alloc | apply pw_below_drewN | apply below_drew1) | exact HB.out)) hb); clear HO106; clear HB; have HO106 := n0_; have HO113 := n1_; have HB := n2_; clear n0_ n1_ n2_; (try clear hb); (try clear hb2); (try clear hk); (try clear hi); (try clear ho0)) | (go_at_call 20; (with_reducible refine (grommetlaw16_theirs.calls kj2 _ _ l1 t114 _ ?side1 ?side2 (hG.below (by first | ((repeat (first | (with_reducible first | exact HB.out | apply below_alloc | apply pw_below_drewN | apply below_drew1 | (refine Glob.below_set ?_ (by assumption) _ _ _)) | exact HB.out)); done) | (refine Drawn0.below ?_; repeat (first | exact Drawn0.refl _ | assumption | apply Drawn0.step)))) A19.out).mono ?_); (case side1 => repeat (first | exact (Kd.C_below HR1.out HB.out) | (with_reducible refine Kd.C_alloc ?_ _) | (with_reducible refine Kd.C_drewN ?_ _) | (with_reducible refine Kd.C_drew ?_))); (case side2 => exact HC1.out); rintro e w62 ⟨v115, rfl, ho0, hb⟩; have n0_ := Aside0.mk (Kd.R_elder' (by (with_reducible repeat (first | apply Kd.R_alloc | apply Kd.R_drewN | apply Kd.R_drew)); exact HO106.out) (Kd.R_base ho0) hb); have n1_ := Aside0.mk (Kd.R_elder' (by (with_reducible repeat (first | apply Kd.R_alloc | apply Kd.R_drewN | apply Kd.R_drew)); exact HO113.out) (Kd.R_base ho0) hb); have n2_ := Aside0.mk (Kd.R_lower (Kd.R_new' (Kd.R_new' ho0 (Kd.R_lt (by (with_reducible repeat (first | apply Kd.R_alloc | apply Kd.R_drewN | apply Kd.R_drew)); exact HO106.out))) (Kd.R_lt (by (with_reducible repeat (first | apply Kd.R_alloc | apply Kd.R_drewN | apply Kd.R_drew)); exact HO113.out))) (below_size (by repeat (first | (with_reducible first | exact HB.out | apply below_alloc | apply pw_below_drewN | apply below_drew1) | exact HB.out)))); have n3_ := Aside0.mk (below_step (by repeat (first | (with_reducible first | exact HB.out | apply below_alloc | apply pw_below_drewN | apply below_drew1) | exact HB.out)) hb); clear HO106; clear HO113; clear HB; have HO106 := n0_; have HO113 := n1_; have HO116 := n2_; have HB := n3_; clear n0_ n1_ n2_ n3_; (try clear hb); (try clear hb2); (try clear hk); (try clear hi); (try clear ho0); obtain ⟨Ao63, co63, eo63⟩ := Kd.R_slice HO113.out; subst eo63; obtain ⟨Ao64, co64, eo64⟩ := Kd.R_slice HO116.out; subst eo64) | (go_at_call 22; (with_reducible refine (path_Same.calls kj2 _ _ t111 _ _ t114 t117 _ ?side1 ?side2 ?side3 ?side4 (hG.below (by first | ((repeat (first | (with_reducible first | exact HB.out | apply below_alloc | apply pw_below_drewN | apply below_drew1 | (refine Glob.below_set ?_ (by assumption) _ _ _)) | exact HB.out)); done) | (refine Drawn0.below ?_; repeat (first | exact Drawn0.refl _ | assumption | apply Drawn0.step)))) A20.out).mono ?_); (case side1 => repeat (first | exact (Kd.R_reads' HO113.out).2.2 | (with_reducible refine Kd.C_alloc ?_ _) | (with_reducible refine Kd.C_drewN ?_ _) | (with_reducible refine Kd.C_drew ?_))); (case side2 => exact (Kd.R_reads' HO113.out).2.1); (case side3 => repeat (first | exact (Kd.R_reads' HO116.out).2.2 | (with_reducible refine Kd.C_alloc ?_ _) | (with_reducible refine Kd.C_drewN ?_ _) | (with_reducible refine Kd.C_drew ?_))); (case side4 => exact (Kd.R_reads' HO116.out).2.1); rintro e w65 ⟨rfl, hb⟩; have n0_ := Aside0.mk (Kd.R_below (by (with_reducible repeat (first | apply Kd.R_alloc | apply Kd.R_drewN | apply Kd.R_drew)); exact HO106.out) hb); have n1_ := Aside0.mk (Kd.R_below (by (with_reducible repeat (first | apply Kd.R_alloc | apply Kd.R_drewN | apply Kd.R_drew)); exact HO113.out) hb); have n2_ := Aside0.mk (Kd.R_below (by (with_reducible repeat (first | apply Kd.R_alloc | apply Kd.R_drewN | apply Kd.R_drew)); exact HO116.out) hb); have n3_ := Aside0.mk (below_step (by repeat (first | (with_reducible first | exact HB.out | apply below_alloc | apply pw_below_drewN | apply below_drew1) | exact HB.out)) hb); clear HO106; clear HO113; clear HO116; clear HB; have HO106 := n0_; have HO113 := n1_; have HO116 := n2_; have HB := n3_; clear n0_ n1_ n2_ n3_; (try clear hb); (try clear hb2); (try clear hk); (try clear hi)) | (go_at_call 23; (with_reducible refine (grommetref16_Same.calls _ _ l0 _ _ l1 t118 _ ?side1 ?side2 ?side3 ?side4 (hG.below (by first | ((repeat (first | (with_reducible first | exact HB.out | apply below_alloc | apply pw_below_drewN | apply below_drew1 | (refine Glob.below_set ?_ (by assumption) _ _ _)) | exact HB.out)); done) | (refine Drawn0.below ?_; repeat (first | exact Drawn0.refl _ | assumption | apply Drawn0.step)))) A21.out).mono ?_); (case side1 => repeat (first | exact (Kd.C_below HR0.out HB.out) | (with_reducible refine Kd.C_alloc ?_ _) | (with_reducible refine Kd.C_drewN ?_ _) | (with_reducible refine Kd.C_drew ?_))); (case side2 => exact HC0.out); (case side3 => repeat (first | exact (Kd.C_below HR1.out HB.out) | (with_reducible refine Kd.C_alloc ?_ _) | (with_reducible refine Kd.C_drewN ?_ _) | (with_reducible refine Kd.C_drew ?_))); (case side4 => exact HC1.out); rintro e w' ⟨rfl, ⟨nd, rfl⟩⟩))
              go_ret
              exact ⟨by first | rfl | (simp [errW_none, errW_some] <;> rfl) | (simp [*, errW_none, errW_some] <;> rfl), by repeat (first | (with_reducible first | exact HB.out | apply below_alloc | apply pw_below_drewN | apply below_drew1) | exact HB.out)⟩
          · rw [if_neg c17] at H
            have c17b0 : (t108 == t110) = false := beq_eq_false_iff_ne.mpr c17
            have c17b1 : (t108 != t110) = true := bne_iff_ne.mpr c17
            obtain rfl := Option.some.inj H
            go_wp2_with (first | ((with_reducible refine gate_callee (f := 20) rfl ?_); refine goesL_ (some 18) rfl rfl Tryz.func20 (by kernel_rfl) rfl #[.slice A0 l0.length c0] rfl (by (try simp only [List.map_toArray, List.map_cons, List.map_nil]); first | done | rfl | (simp only [List.length_drop, List.length_take]; rfl)) ?_; (with_reducible refine (grommetlaw16_theirs.calls kj2 _ _ l0 t104 _ ?side1 ?side2 (hG.below (by first | ((repeat (first | (with_reducible first | exact HB.out | apply below_alloc | apply pw_below_drewN | apply below_drew1 | (refine Glob.below_set ?_ (by assumption) _ _ _)) | exact HB.out)); done) | (refine Drawn0.below ?_; repeat (first | exact Drawn0.refl _ | assumption | apply Drawn0.step)))) A13.out).mono ?_); (case side1 => repeat (first | exact (Kd.C_below HR0.out HB.out) | (with_reducible refine Kd.C_alloc ?_ _) | (with_reducible refine Kd.C_drewN ?_ _) | (with_reducible refine Kd.C_drew ?_))); (case side2 => exact HC0.out); rintro e w66 ⟨v105, rfl, ho0, hb⟩; refine ⟨_, rfl, ?_⟩; have n0_ := Aside0.mk (Kd.R_lower ho0 (below_size (by repeat (first | (with_reducible first | exact HB.out | apply below_alloc | apply pw_below_drewN | apply below_drew1) | exact HB.out)))); have n1_ := Aside0.mk (below_step (by repeat (first | (with_reducible first | exact HB.out | apply below_alloc | apply pw_below_drewN | apply below_drew1) | exact HB.out)) hb); clear HB; have HO106 := n0_; have HB := n1_; clear n0_ n1_; (try clear hb); (try clear hb2); (try clear hk); (try clear hi); (try clear ho0); obtain ⟨Ao67, co67, eo67⟩ := Kd.R_slice HO106.out; subst eo67) | ((with_reducible refine gate_callee (f := 19) rfl ?_); refine goesL_ (some 19) rfl rfl Tryz.func19 (by kernel_rfl) rfl #[.slice Ao67 t104.length co67] rfl (by (try simp only [List.map_toArray, List.map_cons, List.map_nil]); first | done | rfl | (simp only [List.length_drop, List.length_take]; rfl)) ?_; (with_reducible refine (path_Format.calls _ _ t104 t107 t108 _ ?side1 ?side2 (hG.below (by first | ((repeat (first | (with_reducible first | exact HB.out | apply below_alloc | apply pw_below_drewN | apply below_drew1 | (refine Glob.below_set ?_ (by assumption) _ _ _)) | exact HB.out)); done) | (refine Drawn0.below ?_; repeat (first | exact Drawn0.refl _ | assumption | apply Drawn0.step)))) A14.out).mono ?_); (case side1 => repeat (first | exact (Kd.R_reads' HO106.out).2.2 | (with_reducible refine Kd.C_alloc ?_ _) | (with_reducible refine Kd.C_drewN ?_ _) | (with_reducible refine Kd.C_drew ?_))); (case side2 => exact (Kd.R_reads' HO106.out).2.1); rintro e w68 ⟨rfl, hb⟩; refine ⟨_, rfl, ?_⟩; have n0_ := Aside0.mk (Kd.R_below (by (with_reducible repeat (first | apply Kd.R_alloc | apply Kd.R_drewN | apply Kd.R_drew)); exact HO106.out) hb); have n1_ := Aside0.mk (below_step (by repeat (first | (with_reducible first | exact HB.out | apply below_alloc | apply pw_below_drewN | apply below_drew1) | exact HB.out)) hb); clear HO106; clear HB; have HO106 := n0_; have HB := n1_; clear n0_ n1_; (try clear hb); (try clear hb2); (try clear hk); (try clear hi)) | ((with_reducible refine gate_callee (f := 21) rfl ?_); refine goesL_ (some 24) rfl rfl Tryz.func21 (by kernel_rfl) rfl #[.slice A0 l0.length c0] rfl (by (try simp only [List.map_toArray, List.map_cons, List.map_nil]); first | done | rfl | (simp only [List.length_drop, List.length_take]; rfl)) ?_; (with_reducible refine (grommetref16_Format.calls kj2 _ _ l0 t109 t110 _ ?side1 ?side2 (hG.below (by first | ((repeat (first | (with_reducible first | exact HB.out | apply below_alloc | apply pw_below_drewN | apply below_drew1 | (refine Glob.below_set ?_ (by assumption) _ _ _)) | exact HB.out)); done) | (refine Drawn0.below ?_; repeat (first | exact Drawn0.refl _ | assumption | apply Drawn0.step)))) A15.out).mono ?_); (case side1 => repeat (first | exact (Kd.C_below HR0.out HB.out) | (with_reducible refine Kd.C_alloc ?_ _) | (with_reducible refine Kd.C_drewN ?_ _) | (with_reducible refine Kd.C_drew ?_))); (case side2 => exact HC0.out); rintro e w69 ⟨rfl, hb⟩; refine ⟨_, rfl, ?_⟩; have n0_ := Aside0.mk (Kd.R_below (by (with_reducible repeat (first | apply Kd.R_alloc | apply Kd.R_drewN | apply Kd.R_drew)); exact HO106.out) hb); have n1_ := Aside0.mk (below_step (by repeat (first | (with_reducible first | exact HB.out | apply below_alloc | apply pw_below_drewN | apply below_drew1) | exact HB.out)) hb); clear HO106; clear HB; have HO106 := n0_; have HB := n1_; clear n0_ n1_; (try clear hb); (try clear hb2); (try clear hk); (try clear hi)))
            go_ret
            exact ⟨by first | rfl | (simp [errW_none, errW_some] <;> rfl) | (simp [*, errW_none, errW_some] <;> rfl), by repeat (first | (with_reducible first | exact HB.out | apply below_alloc | apply pw_below_drewN | apply below_drew1) | exact HB.out)⟩
        · rw [if_neg c16] at H
          have c16b0 : (t107.toList == t109.toList) = false := beq_eq_false_iff_ne.mpr c16
          have c16b1 : (t107.toList != t109.toList) = true := bne_iff_ne.mpr c16
          obtain rfl := Option.some.inj H
          go_wp2_with (first | ((with_reducible refine gate_callee (f := 20) rfl ?_); refine goesL_ (some 18) rfl rfl Tryz.func20 (by kernel_rfl) rfl #[.slice A0 l0.length c0] rfl (by (try simp only [List.map_toArray, List.map_cons, List.map_nil]); first | done | rfl | (simp only [List.length_drop, List.length_take]; rfl)) ?_; (with_reducible refine (grommetlaw16_theirs.calls kj2 _ _ l0 t104 _ ?side1 ?side2 (hG.below (by first | ((repeat (first | (with_reducible first | exact HB.out | apply below_alloc | apply pw_below_drewN | apply below_drew1 | (refine Glob.below_set ?_ (by assumption) _ _ _)) | exact HB.out)); done) | (refine Drawn0.below ?_; repeat (first | exact Drawn0.refl _ | assumption | apply Drawn0.step)))) A13.out).mono ?_); (case side1 => repeat (first | exact (Kd.C_below HR0.out HB.out) | (with_reducible refine Kd.C_alloc ?_ _) | (with_reducible refine Kd.C_drewN ?_ _) | (with_reducible refine Kd.C_drew ?_))); (case side2 => exact HC0.out); rintro e w70 ⟨v105, rfl, ho0, hb⟩; refine ⟨_, rfl, ?_⟩; have n0_ := Aside0.mk (Kd.R_lower ho0 (below_size (by repeat (first | (with_reducible first | exact HB.out | apply below_alloc | apply pw_below_drewN | apply below_drew1) | exact HB.out)))); have n1_ := Aside0.mk (below_step (by repeat (first | (with_reducible first | exact HB.out | apply below_alloc | apply pw_below_drewN | apply below_drew1) | exact HB.out)) hb); clear HB; have HO106 := n0_; have HB := n1_; clear n0_ n1_; (try clear hb); (try clear hb2); (try clear hk); (try clear hi); (try clear ho0); obtain ⟨Ao71, co71, eo71⟩ := Kd.R_slice HO106.out; subst eo71) | ((with_reducible refine gate_callee (f := 19) rfl ?_); refine goesL_ (some 19) rfl rfl Tryz.func19 (by kernel_rfl) rfl #[.slice Ao71 t104.length co71] rfl (by (try simp only [List.map_toArray, List.map_cons, List.map_nil]); first | done | rfl | (simp only [List.length_drop, List.length_take]; rfl)) ?_; (with_reducible refine (path_Format.calls _ _ t104 t107 t108 _ ?side1 ?side2 (hG.below (by first | ((repeat (first | (with_reducible first | exact HB.out | apply below_alloc | apply pw_below_drewN | apply below_drew1 | (refine Glob.below_set ?_ (by assumption) _ _ _)) | exact HB.out)); done) | (refine Drawn0.below ?_; repeat (first | exact Drawn0.refl _ | assumption | apply Drawn0.step)))) A14.out).mono ?_); (case side1 => repeat (first | exact (Kd.R_reads' HO106.out).2.2 | (with_reducible refine Kd.C_alloc ?_ _) | (with_reducible refine Kd.C_drewN ?_ _) | (with_reducible refine Kd.C_drew ?_))); (case side2 => exact (Kd.R_reads' HO106.out).2.1); rintro e w72 ⟨rfl, hb⟩; refine ⟨_, rfl, ?_⟩; have n0_ := Aside0.mk (Kd.R_below (by (with_reducible repeat (first | apply Kd.R_alloc | apply Kd.R_drewN | apply Kd.R_drew)); exact HO106.out) hb); have n1_ := Aside0.mk (below_step (by repeat (first | (with_reducible first | exact HB.out | apply below_alloc | apply pw_below_drewN | apply below_drew1) | exact HB.out)) hb); clear HO106; clear HB; have HO106 := n0_; have HB := n1_; clear n0_ n1_; (try clear hb); (try clear hb2); (try clear hk); (try clear hi)) | ((with_reducible refine gate_callee (f := 21) rfl ?_); refine goesL_ (some 24) rfl rfl Tryz.func21 (by kernel_rfl) rfl #[.slice A0 l0.length c0] rfl (by (try simp only [List.map_toArray, List.map_cons, List.map_nil]); first | done | rfl | (simp only [List.length_drop, List.length_take]; rfl)) ?_; (with_reducible refine (grommetref16_Format.calls kj2 _ _ l0 t109 t110 _ ?side1 ?side2 (hG.below (by first | ((repeat (first | (with_reducible first | exact HB.out | apply below_alloc | apply pw_below_drewN | apply below_drew1 | (refine Glob.below_set ?_ (by assumption) _ _ _)) | exact HB.out)); done) | (refine Drawn0.below ?_; repeat (first | exact Drawn0.refl _ | assumption | apply Drawn0.step)))) A15.out).mono ?_); (case side1 => repeat (first | exact (Kd.C_below HR0.out HB.out) | (with_reducible refine Kd.C_alloc ?_ _) | (with_reducible refine Kd.C_drewN ?_ _) | (with_reducible refine Kd.C_drew ?_))); (case side2 => exact HC0.out); rintro e w73 ⟨rfl, hb⟩; refine ⟨_, rfl, ?_⟩; have n0_ := Aside0.mk (Kd.R_below (by (with_reducible repeat (first | apply Kd.R_alloc | apply Kd.R_drewN | apply Kd.R_drew)); exact HO106.out) hb); have n1_ := Aside0.mk (below_step (by repeat (first | (with_reducible first | exact HB.out | apply below_alloc | apply pw_below_drewN | apply below_drew1) | exact HB.out)) hb); clear HO106; clear HB; have HO106 := n0_; have HB := n1_; clear n0_ n1_; (try clear hb); (try clear hb2); (try clear hk); (try clear hi)))
          go_ret
          exact ⟨by first | rfl | (simp [errW_none, errW_some] <;> rfl) | (simp [*, errW_none, errW_some] <;> rfl), by repeat (first | (with_reducible first | exact HB.out | apply below_alloc | apply pw_below_drewN | apply below_drew1) | exact HB.out)⟩

end Go.Proofs.YtmkdjgmdfhagfaaGreatDoor.PX

/- What the reference's Text of a number comes to: the number's text. -/
namespace Go.Proofs.YtmkdjgmdfhagfaaGreatDoor.Nums
open Go.RowKit Go.Proofs.YtmkdjgmdfhagfaaGreatDoor.PX Go.Proofs.YtmkdjgmdfhagfaaGreatDoor.Utf Go.Proofs.YtmkdjgmdfhagfaaGreatDoorW.PrintWords Go.Proofs.YtmkdjgmdfhagfaaGreatDoorW.PrintLast

theorem nums_one (n : Int) : (strOfNums [n]).data.toList = [UInt8.ofNat n.toNat] := rfl
theorem nums_size (n : Int) : (strOfNums [n]).size = 1 := rfl

theorem text_l0 (k : Nat) (n : Int) (acc : ByteArray) (b : Bool) : grommetref06_Text.l0 (k + 1) n acc b = if b = true then ((some (([(wrap64 (48 + (Int.tmod n 10))) % 256] : List Int) : List Int)).bind fun y180 => (if (strOfNums y180).size + acc.size ≤ 9223372036854775807 then (grommetref06_Text.l0 k (wrap64 (Int.tdiv n 10)) ((strOfNums y180) ++ acc) false) else (none))) else (if n > 0 then ((some (([(wrap64 (48 + (Int.tmod n 10))) % 256] : List Int) : List Int)).bind fun y183 => (if (strOfNums y183).size + acc.size ≤ 9223372036854775807 then (grommetref06_Text.l0 k (wrap64 (Int.tdiv n 10)) ((strOfNums y183) ++ acc) false) else (none))) else (some acc)) := by
  rw [grommetref06_Text.l0]

theorem text_step (k : Nat) (u : Nat) (hu : u < 9223372036854775808) (acc : ByteArray) (ha : acc.size ≤ 100) (b : Bool) (h : b = true ∨ 0 < u) :
    grommetref06_Text.l0 (k + 1) (u : Int) acc b = grommetref06_Text.l0 k ((u / 10 : Nat) : Int) (strOfNums [((48 + u % 10 : Nat) : Int)] ++ acc) false := by
  have e1 : (wrap64 (48 + (Int.tmod (u : Int) 10))) % 256 = ((48 + u % 10 : Nat) : Int) := by
    rw [Int.tmod_eq_emod_of_nonneg (by omega)]; unfold wrap64; omega
  have e2 : wrap64 (Int.tdiv (u : Int) 10) = ((u / 10 : Nat) : Int) := by
    rw [Int.tdiv_eq_ediv_of_nonneg (by omega)]; unfold wrap64; omega
  rw [text_l0, e1, e2]
  by_cases hb : b = true
  · rw [if_pos hb, Option.bind_some, if_pos (by rw [nums_size]; omega)]
  · have hp := h.resolve_left hb
    rw [if_neg hb, if_pos (by omega), Option.bind_some, if_pos (by rw [nums_size]; omega)]

theorem text_stop (k : Nat) (acc : ByteArray) : grommetref06_Text.l0 (k + 1) ((0 : Nat) : Int) acc false = some acc := by
  rw [text_l0, if_neg (by decide), if_neg (by decide)]

theorem join_list (a b : ByteArray) : (a ++ b).data.toList = a.data.toList ++ b.data.toList := by simp
theorem bytes_ext {a b : ByteArray} (h : a.data.toList = b.data.toList) : a = b := by
  cases a with
  | mk a => cases b with
    | mk b => exact congrArg _ (Array.ext' h)

/-- The loop puts the digits ahead. -/
theorem text_more (d : Nat) : ∀ (u : Nat) (k : Nat) (acc : ByteArray), u < 10 ^ d → d ≤ 19 → u < 9223372036854775808 → acc.size ≤ 100 - d → d < k → 0 < u →
    ∃ r, grommetref06_Text.l0 k (u : Int) acc false = some r ∧ r.data.toList = Lib.decDigits u ++ acc.data.toList := by
  induction d with
  | zero => intro u k acc hu _ _ _ _ h0; simp at hu; omega
  | succ d ih =>
    intro u k acc hu hd hb ha hk h0
    obtain ⟨k, rfl⟩ : ∃ m, k = m + 1 := ⟨k - 1, by omega⟩
    rw [text_step k u hb acc (by omega) false (.inr h0), Lib.decDigits]
    by_cases q : u < 10
    · obtain ⟨k, rfl⟩ : ∃ m, k = m + 1 := ⟨k - 1, by omega⟩
      rw [dif_pos q, show u / 10 = 0 by omega, text_stop]
      exact ⟨_, rfl, by rw [join_list, nums_one, Nat.mod_eq_of_lt q]; rfl⟩
    · rw [dif_neg q]
      have h10 : u / 10 < 10 ^ d := by rw [Nat.pow_succ] at hu; omega
      obtain ⟨r, e, hr⟩ := ih (u / 10) k (strOfNums [((48 + u % 10 : Nat) : Int)] ++ acc) h10 (by omega) (by omega) (by rw [ByteArray.size_append, nums_size]; omega) (by omega) (by omega)
      exact ⟨r, e, by rw [hr, join_list, nums_one, List.append_assoc]; rfl⟩

theorem text_up (u : Nat) (hu : u < 9223372036854775808) (K : Nat) : grommetref06_Text.l0 (K + 30) (u : Int) (⟨#[]⟩ : ByteArray) true = some ⟨(Lib.decDigits u).toArray⟩ := by
  rw [show K + 30 = K + 29 + 1 from rfl, text_step (K + 29) u hu _ (by decide) true (.inl rfl)]
  rw [Lib.decDigits]
  by_cases q : u < 10
  · rw [dif_pos q, show u / 10 = 0 by omega, text_stop]
    exact congrArg some (bytes_ext (by rw [join_list, nums_one, Nat.mod_eq_of_lt q]; rfl))
  · rw [dif_neg q]
    obtain ⟨r, e, hr⟩ := text_more 19 (u / 10) (K + 29) (strOfNums [((48 + u % 10 : Nat) : Int)] ++ (⟨#[]⟩ : ByteArray)) (by omega) (by decide) (by omega) (by rw [ByteArray.size_append, nums_size]; decide) (by omega) (by omega)
    rw [e]
    exact congrArg some (bytes_ext (by rw [hr, join_list, nums_one]; rfl))

theorem text_f (k : Nat) (n : Int) : grommetref06_Text.f (k + 1) n = if n < 0 then (if n ≤ (-10) then ((grommetref06_Text.f k (wrap64 (-(wrap64 (Int.tdiv n 10))))).bind fun t173 => (if 1 + t173.size ≤ 9223372036854775807 then ((some (([(wrap64 (48 - (Int.tmod n 10))) % 256] : List Int) : List Int)).bind fun y174 => (if ((⟨#[45]⟩ : ByteArray) ++ t173).size + (strOfNums y174).size ≤ 9223372036854775807 then (some (((⟨#[45]⟩ : ByteArray) ++ t173) ++ (strOfNums y174))) else (none))) else (none))) else (if 1 + 0 ≤ 9223372036854775807 then ((some (([(wrap64 (48 - (Int.tmod n 10))) % 256] : List Int) : List Int)).bind fun y177 => (if 1 + (strOfNums y177).size ≤ 9223372036854775807 then (some (((⟨#[45]⟩ : ByteArray) ++ (⟨#[]⟩ : ByteArray)) ++ (strOfNums y177))) else (none))) else (none))) else (grommetref06_Text.l0 k n (⟨#[]⟩ : ByteArray) true) := by
  rw [grommetref06_Text.f]

theorem dec_length_le (u : Nat) (h : u < 9223372036854775808) : (Lib.decDigits u).length ≤ 21 := by
  rw [← Lib.itoa_nonneg]; exact Lib.itoa_length_le _ (by omega) (by omega)

/-- The reference's text of a number is the number's. -/
theorem text_at (n : Int) (h0 : -9223372036854775808 ≤ n) (h1 : n ≤ 9223372036854775807) (K : Nat) : grommetref06_Text.f (K + 32) n = some ⟨(Lib.itoa n).toArray⟩ := by
  rw [show K + 32 = K + 31 + 1 from rfl, text_f]
  unfold Lib.itoa
  by_cases hn : n < 0
  · rw [if_pos hn, if_pos hn]
    obtain ⟨u, rfl⟩ : ∃ u : Nat, n = -(u : Int) := ⟨n.natAbs, by omega⟩
    have e0 : (-(u : Int)).natAbs = u := by omega
    have em : (wrap64 (48 - (Int.tmod (-(u : Int)) 10))) % 256 = ((48 + u % 10 : Nat) : Int) := by
      rw [Int.neg_tmod, Int.tmod_eq_emod_of_nonneg (by omega)]; unfold wrap64; omega
    have ed : wrap64 (-(wrap64 (Int.tdiv (-(u : Int)) 10))) = ((u / 10 : Nat) : Int) := by
      rw [Int.neg_tdiv, Int.tdiv_eq_ediv_of_nonneg (by omega)]; unfold wrap64; omega
    rw [e0, em, ed, Lib.decDigits]
    by_cases q : u < 10
    · rw [if_neg (by omega), dif_pos q, if_pos (by decide), Option.bind_some, if_pos (by rw [nums_size]; decide)]
      exact congrArg some (bytes_ext (by rw [join_list, join_list, nums_one, Nat.mod_eq_of_lt q]; rfl))
    · have hl := dec_length_le (u / 10) (by omega)
      have hz : (⟨(Lib.decDigits (u / 10)).toArray⟩ : ByteArray).size = (Lib.decDigits (u / 10)).length := by rw [size_list]
      rw [if_pos (by omega), dif_neg q, show K + 31 = K + 30 + 1 from rfl, text_f, if_neg (by omega), text_up (u / 10) (by omega), Option.bind_some, if_pos (by omega), Option.bind_some,
        if_pos (by rw [ByteArray.size_append, nums_size, hz]; have : (⟨#[45]⟩ : ByteArray).size = 1 := rfl; omega)]
      exact congrArg some (bytes_ext (by rw [join_list, join_list, nums_one]; rfl))
  · rw [if_neg hn, if_neg hn]
    obtain ⟨u, rfl⟩ : ∃ u : Nat, n = (u : Int) := ⟨n.toNat, by omega⟩
    rw [show K + 31 = (K + 1) + 30 from rfl, text_up u (by omega), Int.toNat_natCast]
end Go.Proofs.YtmkdjgmdfhagfaaGreatDoor.Nums

/- What the reference's small functions on quoted texts come to; conditions: as each states. -/
namespace Go.Proofs.YtmkdjgmdfhagfaaGreatDoor.Utf
open Go.RowKit Go.Proofs.YtmkdjgmdfhagfaaGreatDoor.PX Go.Proofs.YtmkdjgmdfhagfaaGreatDoorW.PrintWords Go.Proofs.YtmkdjgmdfhagfaaGreatDoorW.PrintLast

theorem ref_may (k : Nat) (n : Int) : grommetref07_may.f (k + 1) n = some (may n) := by
  unfold grommetref07_may.f
  rw [printable_eq, Option.bind_some]
  unfold may
  cases prt n
  · rfl
  · rw [if_pos rfl]
    by_cases a : n = 9
    · subst a; rfl
    rw [if_neg a]
    by_cases b : n = 10
    · subst b; rfl
    rw [if_neg b, bne_iff_ne.2 a, bne_iff_ne.2 b]; rfl

theorem byt_enc (n : Int) (h : sgn n = true) : strOfNums (byt n) = ⟨(enc n).toArray⟩ := by
  have hs := (sgn_iff n).1 h
  have e : byt n = Lib.encodeRuneZ n := by
    unfold byt
    by_cases a : n < 128
    · rw [if_pos a, Lib.encodeRuneZ_one hs.1 (by omega)]
    by_cases b : n < 2048
    · rw [if_neg a, if_pos b, Lib.encodeRuneZ_two (by omega) (by omega)]
    by_cases c : n < 65536
    · rw [if_neg a, if_neg b, if_pos c, Lib.encodeRuneZ_three (by omega)]
    · rw [if_neg a, if_neg b, if_neg c, Lib.encodeRuneZ_four (by omega) (by omega)]
  rw [e]; rfl

theorem ref_text (k : Nat) (n : Int) (h : sgn n = true) : grommetref07_text.f (k + 2) n = some ⟨(enc n).toArray⟩ := by
  have hs := sgn_nat h
  have hb : (byt n).length ≤ 4 := by unfold byt; (repeat' split) <;> simp
  have h2 : grommetref01_Encode.l0 (k + 1) [n] ([] ++ byt n) (wrap64 (0 + 1)) = some (strOfNums (byt n), 0) := by
    rw [grommetref01_Encode.l0, if_neg (by unfold wrap64; simp)]; rfl
  unfold grommetref07_text.f grommetref01_Encode.f
  rw [show k + 2 = k + 1 + 1 from rfl, grommetref01_Encode.l0, if_pos (by simp), if_pos (by decide), show rd [n] 0 = n from rfl, sign_eq, h]
  rw [Option.bind_some, if_pos rfl, bytes_eq n hs.1 hs.2, Option.bind_some, if_pos (by simp; omega), h2, Option.bind_some, byt_enc n h]

def ints (l : List UInt8) : List Int := l.map fun b => (b.toNat : Int)
theorem str_ints (l : List UInt8) : strOfNums (ints l) = ⟨l.toArray⟩ := by
  unfold strOfNums ints
  rw [List.map_map]
  congr 1
  have : (l.map ((fun x : Int => UInt8.ofNat x.toNat) ∘ fun b : UInt8 => (b.toNat : Int))) = l := by
    conv => rhs; rw [← List.map_id l]
    refine List.map_congr_left fun b _ => ?_
    simp
  rw [this]
theorem ints_append (a b : List UInt8) : ints (a ++ b) = ints a ++ ints b := by unfold ints; rw [List.map_append]
theorem ints_bytes (t : List UInt8) : bytesOf ⟨t.toArray⟩ = ints t := rfl
end Go.Proofs.YtmkdjgmdfhagfaaGreatDoor.Utf

/- Contracts of library functions, laid at this translation out of the library's theorems; conditions as each states. -/
namespace Go.Proofs
open Go.Shelf
def Tryz.lays241_ren : Go.Shelf.Ren := ⟨fun | 241 => 116 | 277 => 135 | n => n, fun | 70 => 61 | 3 => 3 | 0 => 0 | 72 => 63 | 37 => 58 | 5 => 5 | n => n, fun | n => n⟩
theorem Tryz.lays241 : Go.Proofs.Lays.n241 Tryz.prog Tryz.lays241_ren := {
  mixed := by kernel_rfl
  f241 := Tryz.func116.trans (congrArg some (by kernel_rfl))
  f277 := Tryz.func135.trans (congrArg some (by kernel_rfl))
  t0 := Tryz.underlying0
  a0 := Tryz.isAgg0
  z0 := Tryz.sizeOf0
  v0 := Tryz.zeroValue0
  t3 := Tryz.underlying3
  a3 := Tryz.isAgg3
  z3 := Tryz.sizeOf3
  v3 := Tryz.zeroValue3
  t37 := Tryz.underlying58
  a37 := Tryz.isAgg58
  z37 := Tryz.sizeOf58
  v37 := Tryz.zeroValue58
  t70 := Tryz.underlying61
  a70 := Tryz.isAgg61
  z70 := Tryz.sizeOf61
  v70 := Tryz.zeroValue61
  t72 := Tryz.underlying63
  a72 := Tryz.isAgg63
  z72 := Tryz.sizeOf63
  v72 := Tryz.zeroValue63 }
theorem Tryz.Builder_Extra_241 : Builder.Extra Tryz.prog Tryz.lays241_ren := {
  sizeBuilder := by kernel_rfl
  liesBuilder := by kernel_rfl
  t5 := Tryz.underlying5
  a5 := Tryz.isAgg5
  z5 := Tryz.sizeOf5
  v5 := Tryz.zeroValue5
  infoByte := by kernel_rfl
  cellsByte := by kernel_rfl
  sizeByte := by kernel_rfl
  neB5 := by decide }
open Go.RowKit in
theorem Tryz.Builder_grow_fresh (B b n : Nat) (w : World) (hB : B ≤ b) (hbk : w.heap[b]? = some (.cells #[.pointer (some ⟨b, 0, none⟩), .slice none 0 0] 63 (0, 0))) (hBw : B ≤ w.heap.size) (hn : n ≤ 281474976710656) :
    Calls Tryz.prog 116 #[.pointer (some ⟨b, 0, none⟩), .int .i64 n] w fun e w' => e = .returned (.tuple #[]) ∧ (Lib.BuilderAt 63 5 B b (.pointer (some ⟨b, 0, none⟩)) [] w' ∧ Below B w w') := Any.Builder_grow_fresh Tryz.lays241 Tryz.Builder_Extra_241 B b n w hB hbk hBw hn
end Go.Proofs

/- Single quotes doubled (strings.ReplaceAll, one byte by two), by hand, in the form in which the printed functions are told. Conditions: the text has at most 2^40 bytes. -/
namespace Go.Proofs.YtmkdjgmdfhagfaaGreatDoor.Plug
open Go.RowKit Go.Proofs.YtmkdjgmdfhagfaaGreatDoor Go.Proofs.YtmkdjgmdfhagfaaGreatDoor.Utf Go.Proofs.YtmkdjgmdfhagfaaGreatDoor.Bld Go.Proofs.YtmkdjgmdfhagfaaGreatDoorW.PrintWords Go.Proofs.YtmkdjgmdfhagfaaGreatDoorW.PrintLast

set_option maxHeartbeats 2000000 in
set_option maxRecDepth 100000 in
theorem check_fresh (b : Nat) (w : World) (hbk : w.heap[b]? = some (.cells #[.pointer none, .slice none 0 0] 63 (0, 0))) :
    Calls Tryz.prog 69 #[.pointer (some ⟨b, 0, none⟩)] w fun e w' => e = .returned (.tuple #[]) ∧ w' = w.setCell ⟨b, 0, none⟩ (.pointer (some ⟨b, 0, none⟩)) := by
  obtain ⟨j, hj, hjs⟩ := Option.map_eq_some_iff.1 size_bld
  have h0 : w.cell? ⟨b, 0, none⟩ = some (.pointer none) := by rw [Lib.cell_of_heap hbk]; rfl
  have hsh : w.shape? b = some (63, 2) := by simp [World.shape?, hbk]
  have hfz := Lib.frozen_of_heap hbk 0
  go_enter Tryz.func69, Tryz.ntmps69
  go_wp2
  rw [Lib.run_to_unsafe w ⟨b, 0, none⟩ ptr_bld ptr_raw hj (by rw [hjs]; decide) hsh (Nat.zero_lt_succ 1)]
  simp only [Result.andThen]
  rw [Oper.upon_value]
  go_wp2
  rw [run_callFunc_extern Tryz.func99 (by kernel_rfl) (by kernel_rfl) (by kernel_rfl) (e := Extern.AbiNoEscape.same) (by kernel_rfl)]
  rw [Lib.run_noEscape]
  simp only [Result.andThen]
  rw [Oper.upon_value]
  go_wp2
  rw [Lib.run_from_unsafe w ⟨b, 0, none⟩ ptr_raw ptr_bld hj hsh lies_plain.lies]
  simp only [Result.andThen]
  rw [Oper.upon_value]
  go_wp2
  go_end0
  exact ⟨rfl, rfl⟩

set_option maxHeartbeats 2000000 in
set_option maxRecDepth 100000 in
theorem grow (B b n : Nat) (w : World) (hB : B ≤ b) (hbk : w.heap[b]? = some (.cells #[.pointer none, .slice none 0 0] 63 (0, 0))) (hBw : B ≤ w.heap.size) (hn : n ≤ 281474976710656) :
    Calls Tryz.prog 86 #[.pointer (some ⟨b, 0, none⟩), .int .i64 n] w fun e w' => e = .returned (.tuple #[]) ∧ (Lib.BuilderAt 63 5 B b (.pointer (some ⟨b, 0, none⟩)) [] w' ∧ Below B w w') := by
  have hbk1 : (w.setCell ⟨b, 0, none⟩ (.pointer (some ⟨b, 0, none⟩))).heap[b]? = some (.cells #[.pointer (some ⟨b, 0, none⟩), .slice none 0 0] 63 (0, 0)) := by
    simp [World.setCell, Array.getElem?_modify, hbk]
  have c1 : (w.setCell ⟨b, 0, none⟩ (.pointer (some ⟨b, 0, none⟩))).cell? ⟨b, 1, none⟩ = some (.slice none 0 0) := by rw [Lib.cell_of_heap hbk1]; rfl
  have hb1 : Below B w (w.setCell ⟨b, 0, none⟩ (.pointer (some ⟨b, 0, none⟩))) := (Below.refl B w).setCell (p := ⟨b, 0, none⟩) hB _
  have hU : Lib.BuilderAt 63 5 B b (.pointer (some ⟨b, 0, none⟩)) [] (w.setCell ⟨b, 0, none⟩ (.pointer (some ⟨b, 0, none⟩))) := ⟨hB, .slice none 0 0, hbk1, World.ownsRow_nil _ _ _ _, by simp [Value.ownBlock]⟩
  have c1' : (w.setCell ⟨b, 0, none⟩ (.pointer (some ⟨b, 0, none⟩))).drew.cell? ⟨b, 1, none⟩ = some (.slice none 0 0) := c1
  have HU := Lib.hid hU
  clear hU
  go_enter Tryz.func86, Tryz.ntmps86
  go_wp2_with (go_at_call 69; refine (check_fresh b w hbk).mono ?_; rintro e w' ⟨rfl, rfl⟩)
  go_region
  all_goals go_wp2_with (go_at_call 116; refine (Tryz.Builder_grow_fresh B b n (w.setCell ⟨b, 0, none⟩ (.pointer (some ⟨b, 0, none⟩))).drew hB hbk1 (by simpa [World.setCell, World.drew, -World.drew_eq] using hBw) hn).mono ?_; rintro e w' ⟨rfl, h1, h2⟩)
  all_goals first
    | (go_end0; exact ⟨rfl, h1, hb1.drew.trans h2⟩)
    | (go_end0; exact ⟨rfl, HU.out.drew, hb1.drew⟩)

end Go.Proofs.YtmkdjgmdfhagfaaGreatDoor.Plug

/- What the reference puts in quotes is that by definition; conditions: texts of at most 2^40 bytes. -/
namespace Go.Proofs.YtmkdjgmdfhagfaaGreatDoor.Utf
open Go.RowKit Go.Proofs.YtmkdjgmdfhagfaaGreatDoor.PX Go.Proofs.YtmkdjgmdfhagfaaGreatDoor.Plug Go.Proofs.YtmkdjgmdfhagfaaGreatDoorW.PrintWords Go.Proofs.YtmkdjgmdfhagfaaGreatDoorW.PrintLast

theorem wrapN (a b : Nat) (h : a + b ≤ 9007199254740992) : wrap64 ((a : Int) + (b : Int)) = ((a + b : Nat) : Int) := by unfold wrap64; omega
theorem wrap1 (a : Nat) (h : a + 1 ≤ 9007199254740992) : wrap64 ((a : Int) + 1) = ((a + 1 : Nat) : Int) := wrapN a 1 h

/-! ### the signs of a text -/
def decT (r : List Int × Nat) (n : Nat) : List Int × Int × Int := if r.2 < n then ([], 8, (r.2 : Int)) else (r.1, 0, 0)
theorem dec_l0 (s : ByteArray) (hs : s.size ≤ 1099511627775) : ∀ (k i K : Nat) (acc : List Int), i ≤ s.size → s.size ≤ i + k → acc.length ≤ i → k + 30 ≤ K →
    grommetref01_Decode.l0 K s acc (i : Int) = some (decT (goF k s.data.toList i acc) s.size) := by
  have hL := size_list s
  intro k
  induction k with
  | zero =>
    intro i K acc hi hk hal hK
    obtain ⟨K, rfl⟩ : ∃ m, K = m + 1 := ⟨K - 1, by omega⟩
    rw [grommetref01_Decode.l0, if_neg (by omega), goF]
    unfold decT; rw [if_neg (by dsimp only; omega)]
  | succ k ih =>
    intro i K acc hi hk hal hK
    obtain ⟨K, rfl⟩ : ∃ m, K = m + 20 + 1 := ⟨K - 21, by omega⟩
    rw [grommetref01_Decode.l0]
    by_cases c : i < s.size
    · have hlen : (s.data.toList.drop i).length = s.size - i := by rw [List.length_drop, ← hL]
      have hne : s.data.toList.drop i ≠ [] := fun e => by rw [e, List.length_nil] at hlen; omega
      have hw := dec_wide _ hne
      rw [hlen] at hw
      have hF := first_eq K (s.extract i s.size)
      rw [drop_list] at hF
      rw [if_pos (show (i : Int) < (s.size : Int) by omega), if_pos (Int.natCast_nonneg i), if_pos (show (i : Int) ≤ (s.size : Int) by omega), Int.toNat_natCast, hF, Option.bind_some, goF, if_pos (show i < s.data.toList.length by omega)]
      dsimp only
      generalize dec (s.data.toList.drop i) = d at *
      obtain ⟨r, n⟩ := d
      simp only at hw ⊢
      by_cases d : r < 0
      · rw [if_pos d, if_pos d]
        unfold decT; rw [if_pos (by dsimp only; exact c)]
      · rw [if_neg d, if_neg d, if_pos (by omega), wrapN i n (by omega)]
        exact ih (i + n) (K + 20) _ (by omega) (by omega) (by rw [List.length_append, List.length_singleton]; omega) (by omega)
    · rw [if_neg (by omega), goF_end _ _ _ _ (show ¬ i < s.data.toList.length by omega)]
      unfold decT; rw [if_neg (by dsimp only; exact c)]
theorem ref_decode (s : ByteArray) (hs : s.size ≤ 1099511627775) (K : Nat) (hK : s.size + 30 ≤ K) : grommetref01_Decode.f K s = some (decodeB s.data.toList) := by
  have hL := size_list s
  unfold grommetref01_Decode.f
  rw [show (0 : Int) = ((0 : Nat) : Int) from rfl, dec_l0 s hs s.size 0 K [] (Nat.zero_le _) (by omega) (by simp) (by omega)]
  unfold decT decodeB goB
  rw [← hL]

/-! ### Double -/
theorem hexc_tab : ∀ n : Fin 16, bt (⟨#[48, 49, 50, 51, 52, 53, 54, 55, 56, 57, 97, 98, 99, 100, 101, 102]⟩ : ByteArray) (n.val : Int) = ((hexc n.val).toNat : Int) := by decide +kernel
theorem hex_l0 (m : Nat) (hm : m ≤ 8) : ∀ (d i K n : Nat) (acc : List UInt8), n < 2147483648 → m = i + d → acc.length = i → d + 1 ≤ K →
    grommetref07_hex.l0 K (n : Int) (m : Int) ⟨acc.toArray⟩ (i : Int) = some ⟨(hexs n d ++ acc).toArray⟩ := by
  intro d
  induction d with
  | zero =>
    intro i K n acc hn hi ha hK
    obtain ⟨K, rfl⟩ : ∃ k, K = k + 1 := ⟨K - 1, by omega⟩
    rw [grommetref07_hex.l0, if_neg (by omega)]; rfl
  | succ d ih =>
    intro i K n acc hn hi ha hK
    obtain ⟨K, rfl⟩ : ∃ k, K = k + 1 := ⟨K - 1, by omega⟩
    have e1 : Int.tmod (n : Int) 16 = ((n % 16 : Nat) : Int) := by rw [Int.tmod_eq_emod_of_nonneg (by omega)]; omega
    have e2 : wrap64 (Int.tdiv (n : Int) 16) = ((n / 16 : Nat) : Int) := by rw [Int.tdiv_eq_ediv_of_nonneg (by omega)]; unfold wrap64; omega
    have e3 : bt (⟨#[48, 49, 50, 51, 52, 53, 54, 55, 56, 57, 97, 98, 99, 100, 101, 102]⟩ : ByteArray) ((n % 16 : Nat) : Int) = ((hexc (n % 16)).toNat : Int) := hexc_tab ⟨n % 16, Nat.mod_lt _ (by decide)⟩
    have e4 : strOfNums [((hexc (n % 16)).toNat : Int)] = ⟨[hexc (n % 16)].toArray⟩ := str_ints [hexc (n % 16)]
    have hsz : (⟨[hexc (n % 16)].toArray⟩ : ByteArray).size + (⟨acc.toArray⟩ : ByteArray).size ≤ 9223372036854775807 := by
      show [hexc (n % 16)].length + acc.length ≤ _
      simp; omega
    rw [grommetref07_hex.l0, if_pos (by omega), e1, if_pos (by omega), if_pos (by omega), Option.bind_some, e3, e4, if_pos hsz, e2, wrap1 i (by omega)]
    rw [show (⟨[hexc (n % 16)].toArray⟩ : ByteArray) ++ (⟨acc.toArray⟩ : ByteArray) = ⟨([hexc (n % 16)] ++ acc).toArray⟩ from of_bytes (by rw [app_bytes])]
    rw [ih (i + 1) K (n / 16) ([hexc (n % 16)] ++ acc) (by omega) (by omega) (by rw [List.length_append, List.length_singleton]; omega) (by omega)]
    rw [hexs, List.append_assoc]
theorem ref_hex (K : Nat) (hK : 9 ≤ K) (n : Int) (h0 : 0 ≤ n) (h1 : n ≤ 1114111) (m : Nat) (hm : m ≤ 8) : grommetref07_hex.f K n (m : Int) = some ⟨(hexs n.toNat m).toArray⟩ := by
  obtain ⟨N, rfl⟩ : ∃ N : Nat, n = (N : Int) := ⟨n.toNat, by omega⟩
  unfold grommetref07_hex.f
  rw [show (⟨#[]⟩ : ByteArray) = ⟨([] : List UInt8).toArray⟩ from rfl, show (0 : Int) = ((0 : Nat) : Int) from rfl, hex_l0 m hm m 0 K N [] (by omega) (by omega) rfl (by omega), List.append_nil, Int.toNat_natCast]
theorem ref_escaped (K : Nat) (hK : 20 ≤ K) (n : Int) (hs : sgn n = true) : grommetref07_escaped.f K n = some ⟨(escS n).toArray⟩ := by
  have hr := sgn_nat hs
  have hM : grommetref07_may.f K n = some (may n) := by
    obtain ⟨k, rfl⟩ : ∃ k, K = k + 1 := ⟨K - 1, by omega⟩
    exact ref_may k n
  have hT : grommetref07_text.f K n = some ⟨(enc n).toArray⟩ := by
    obtain ⟨k, rfl⟩ : ∃ k, K = k + 2 := ⟨K - 2, by omega⟩
    exact ref_text k n hs
  have hH := fun m hm => ref_hex K (by omega) n hr.1 hr.2 m hm
  have cat : ∀ (a b : UInt8) (m : Nat), (⟨#[a, b]⟩ : ByteArray) ++ (⟨(hexs n.toNat m).toArray⟩ : ByteArray) = ⟨(a :: b :: hexs n.toNat m).toArray⟩ := fun a b m => of_bytes (by rw [app_bytes]; rfl)
  have hsz : ∀ m, m ≤ 8 → 2 + (⟨(hexs n.toNat m).toArray⟩ : ByteArray).size ≤ 9223372036854775807 := fun m hm => by
    have : (⟨(hexs n.toNat m).toArray⟩ : ByteArray).size = m := hexs_len m _
    omega
  unfold grommetref07_escaped.f escS
  by_cases c1 : n = 34
  · rw [if_pos c1, if_pos c1]
  rw [if_neg c1, if_neg c1]
  by_cases c2 : n = 92
  · rw [if_pos c2, if_pos c2]
  rw [if_neg c2, if_neg c2]
  by_cases c3 : n = 9
  · rw [if_pos c3, if_pos c3]
  rw [if_neg c3, if_neg c3]
  by_cases c4 : n = 10
  · rw [if_pos c4, if_pos c4]
  rw [if_neg c4, if_neg c4]
  by_cases c5 : n = 13
  · rw [if_pos c5, if_pos c5]
  rw [if_neg c5, if_neg c5]
  by_cases c6 : n = 0
  · rw [if_pos c6, if_pos c6]
  rw [if_neg c6, if_neg c6, hM, Option.bind_some]
  by_cases c7 : may n = true
  · rw [if_pos c7, if_pos c7, hT, Option.bind_some]
  rw [if_neg c7, if_neg c7]
  by_cases c8 : n < 256
  · rw [if_pos c8, if_pos c8, show (2 : Int) = ((2 : Nat) : Int) from rfl, hH 2 (by omega), Option.bind_some, if_pos (hsz 2 (by omega)), cat]
  rw [if_neg c8, if_neg c8]
  by_cases c9 : n < 65536
  · rw [if_pos c9, if_pos c9, show (4 : Int) = ((4 : Nat) : Int) from rfl, hH 4 (by omega), Option.bind_some, if_pos (hsz 4 (by omega)), cat]
  · rw [if_neg c9, if_neg c9, show (8 : Int) = ((8 : Nat) : Int) from rfl, hH 8 (by omega), Option.bind_some, if_pos (hsz 8 (by omega)), cat]
theorem double_l0 : ∀ (d : Nat) (zs : List Int) (i K : Nat) (acc : List UInt8), (∀ z ∈ zs, sgn z = true) → zs.length ≤ 1099511627775 → zs.length = i + d → acc.length ≤ 10 * i → d + 21 ≤ K →
    grommetref07_Double.l0 K zs (ints acc) (i : Int) = some (⟨(34 :: (acc ++ (zs.drop i).flatMap escS ++ [34])).toArray⟩, 0) := by
  intro d
  induction d with
  | zero =>
    intro zs i K acc hz hl hd hal hK
    obtain ⟨K, rfl⟩ : ∃ m, K = m + 1 := ⟨K - 1, by omega⟩
    have hsz : (⟨acc.toArray⟩ : ByteArray).size = acc.length := rfl
    have happ : (⟨#[34]⟩ : ByteArray) ++ ⟨acc.toArray⟩ = ⟨(34 :: acc).toArray⟩ := of_bytes (by rw [app_bytes]; rfl)
    have hsz2 : (⟨(34 :: acc).toArray⟩ : ByteArray).size = acc.length + 1 := rfl
    rw [grommetref07_Double.l0, if_neg (by omega), str_ints, if_pos (by rw [hsz]; omega), happ, if_pos (by rw [hsz2]; omega), List.drop_of_length_le (by omega), List.flatMap_nil, List.append_nil]
    rw [show (⟨(34 :: acc).toArray⟩ : ByteArray) ++ ⟨#[34]⟩ = ⟨(34 :: (acc ++ [34])).toArray⟩ from of_bytes (by rw [app_bytes]; rfl)]
  | succ d ih =>
    intro zs i K acc hz hl hd hal hK
    obtain ⟨K, rfl⟩ : ∃ m, K = m + 1 := ⟨K - 1, by omega⟩
    have hil : (ints acc).length = acc.length := by unfold ints; rw [List.length_map]
    have hlt : i < zs.length := by omega
    have hel := escS_len zs[i]
    have hsz : (⟨(escS zs[i]).toArray⟩ : ByteArray).size = (escS zs[i]).length := rfl
    rw [grommetref07_Double.l0, if_pos (by omega), if_pos (Int.natCast_nonneg i), rd_at zs i hlt, ref_escaped K (by omega) _ (hz _ (List.getElem_mem hlt)), Option.bind_some, if_pos (by rw [hsz]; omega), wrap1 i (by omega), ints_bytes, ← ints_append]
    rw [ih zs (i + 1) K _ hz hl (by omega) (by rw [List.length_append]; omega) (by omega), List.drop_eq_getElem_cons hlt, List.flatMap_cons]
    simp only [List.append_assoc]
theorem ref_double (s : ByteArray) (hs : s.size ≤ 1099511627775) (K : Nat) (hK : s.size + 30 ≤ K) : grommetref07_Double.f K s = some (⟨(doubleOf s.data.toList).1.toArray⟩, (doubleOf s.data.toList).2) := by
  have hL := size_list s
  unfold grommetref07_Double.f doubleOf
  rw [ref_decode s hs K hK, Option.bind_some]
  cases h : signs s.data.toList with
  | none => rw [decode_none h]; rfl
  | some zs =>
    have hl := signs_len _ _ _ h
    have h2 := (signs_some h).2
    rw [decode_some h]
    dsimp only
    rw [if_pos rfl, show ([] : List Int) = ints [] from rfl, show (0 : Int) = ((0 : Nat) : Int) from rfl, double_l0 zs.length zs 0 K [] h2 (by omega) (by omega) (by simp) (by omega)]
    rfl
end Go.Proofs.YtmkdjgmdfhagfaaGreatDoor.Utf

/- The reference's Format of paths is the program's; conditions: keys of at most 2^40 bytes. -/
namespace Go.Proofs.YtmkdjgmdfhagfaaGreatDoor.Paths
open Go.RowKit Go.Proofs.YtmkdjgmdfhagfaaGreatDoor.PX Go.Proofs.YtmkdjgmdfhagfaaGreatDoor.Plug Go.Proofs.YtmkdjgmdfhagfaaGreatDoor.Utf Go.Proofs.YtmkdjgmdfhagfaaGreatDoor.Nums Go.Proofs.YtmkdjgmdfhagfaaGreatDoorW.PrintWords Go.Proofs.YtmkdjgmdfhagfaaGreatDoorW.PrintLast

set_option maxRecDepth 100000 in
theorem letter_fact : ∀ c : Fin 256, grommetref16_letter.f (c.val : Int) = some (isLet (UInt8.ofNat c.val)) := by decide +kernel
theorem letter_of (c : UInt8) : grommetref16_letter.f (c.toNat : Int) = some (isLet c) := by
  have := letter_fact ⟨c.toNat, UInt8.toNat_lt c⟩
  simpa using this
theorem bare_l0 (s : ByteArray) (hs : s.size ≤ 1099511627775) : ∀ (d i K : Nat), s.size = i + d → d + 1 ≤ K → grommetref16_bare.l0 K s (i : Int) = some ((s.data.toList.drop i).all isLet && (s.data.toList != []))
  | 0, i, K, hd, hK => by
    obtain ⟨K, rfl⟩ : ∃ m, K = m + 1 := ⟨K - 1, by omega⟩
    have hL := size_list s
    rw [grommetref16_bare.l0, if_neg (by omega), List.drop_of_length_le (by omega), Lib.toList_data]
    rfl
  | d + 1, i, K, hd, hK => by
    obtain ⟨K, rfl⟩ : ∃ m, K = m + 1 := ⟨K - 1, by omega⟩
    have hL := size_list s
    have hlt : i < s.data.toList.length := by omega
    have hat : at_ s.data.toList i = (s.data.toList[i]).toNat := by unfold at_; rw [List.getD_eq_getElem?_getD, List.getElem?_eq_getElem hlt]; rfl
    rw [grommetref16_bare.l0, if_pos (by omega), if_pos (by omega), bt_at_, hat, letter_of, Option.bind_some, List.drop_eq_getElem_cons hlt, List.all_cons]
    cases isLet s.data.toList[i] with
    | true => rw [if_pos rfl, wrap1 i (by omega), bare_l0 s hs d (i + 1) K (by omega) (by omega)]; simp
    | false => rw [if_neg Bool.false_ne_true]; simp
theorem bare_of (s : ByteArray) (hs : s.size ≤ 1099511627775) (K : Nat) (hK : s.size + 1 ≤ K) : grommetref16_bare.f K s = some (s.data.toList.all isLet && (s.data.toList != [])) := by
  unfold grommetref16_bare.f
  rw [show (0 : Int) = ((0 : Nat) : Int) from rfl, bare_l0 s hs s.size 0 K (by omega) hK, List.drop_zero]

theorem okStep_conv (x : Sr) : okStep (conv x) = if x.f2 then decide (0 ≤ x.f1) && decide (x.f1 ≤ 999999) else decide (x.f0.size ≤ 256) := rfl

theorem fmt_l1 (l : List Sr) (hl : l.length ≤ 64) (hok : ∀ x ∈ l, okStep (conv x) = true) : ∀ (d i K : Nat) (acc : List UInt8), l.length = i + d → acc.length ≤ 3000 * i → d + 400 ≤ K →
    grommetref16_Format.l1 K l ⟨acc.toArray⟩ (i : Int) = some (⟨(fmtF (decide (i = 0)) ((l.drop i).map conv) acc).1.toArray⟩, (fmtF (decide (i = 0)) ((l.drop i).map conv) acc).2)
  | 0, i, K, acc, hd, ha, hK => by
    obtain ⟨K, rfl⟩ : ∃ m, K = m + 1 := ⟨K - 1, by omega⟩
    rw [grommetref16_Format.l1, if_neg (by omega), List.drop_of_length_le (by omega)]; rfl
  | d + 1, i, K, acc, hd, ha, hK => by
    obtain ⟨K, rfl⟩ : ∃ m, K = m + 1 := ⟨K - 1, by omega⟩
    have hlt : i < l.length := by omega
    have hx := hok l[i] (List.getElem_mem hlt)
    have ih := fmt_l1 l hl hok d (i + 1) K
    have hd1 : decide (i + 1 = 0) = false := decide_eq_false (by omega)
    rw [hd1] at ih
    rw [grommetref16_Format.l1, if_pos (by omega), if_pos (by omega), rd_ref l i hlt, wrap1 i (by omega), List.drop_eq_getElem_cons hlt, List.map_cons, fmtF]
    rw [okStep_conv] at hx
    have hc : (conv l[i]).f2 = l[i].f2 ∧ (conv l[i]).f1 = l[i].f1 ∧ (conv l[i]).f0 = l[i].f0 := ⟨rfl, rfl, rfl⟩
    rw [hc.1, hc.2.1, hc.2.2]
    clear hc
    generalize l[i] = x at *
    obtain ⟨k, n, g⟩ := x
    dsimp only at hx ⊢
    have asz : (⟨acc.toArray⟩ : ByteArray).size = acc.length := rfl
    cases g with
    | true =>
      have hn : 0 ≤ n ∧ n ≤ 999999 := by simpa using hx
      have hT : grommetref06_Text.f K n = some ⟨(Lib.itoa n).toArray⟩ := by
        obtain ⟨K, rfl⟩ : ∃ m, K = m + 32 := ⟨K - 32, by omega⟩
        exact text_at n (by omega) (by omega) K
      have hil := Lib.itoa_length_le n (by omega) (by omega)
      have isz : (⟨(Lib.itoa n).toArray⟩ : ByteArray).size = (Lib.itoa n).length := rfl
      have e1 : (⟨#[91]⟩ : ByteArray) ++ (⟨(Lib.itoa n).toArray⟩ : ByteArray) = ⟨(91 :: Lib.itoa n).toArray⟩ := of_bytes (by rw [app_bytes]; rfl)
      have e2 : (⟨(91 :: Lib.itoa n).toArray⟩ : ByteArray) ++ (⟨#[93]⟩ : ByteArray) = ⟨(91 :: (Lib.itoa n ++ [93])).toArray⟩ := of_bytes (by rw [app_bytes]; rfl)
      have z1 : (⟨(91 :: Lib.itoa n).toArray⟩ : ByteArray).size = (Lib.itoa n).length + 1 := rfl
      have z2 : (⟨(91 :: (Lib.itoa n ++ [93])).toArray⟩ : ByteArray).size = (Lib.itoa n).length + 2 := by show (91 :: (Lib.itoa n ++ [93])).length = _; simp
      have e3 : (⟨acc.toArray⟩ : ByteArray) ++ (⟨(91 :: (Lib.itoa n ++ [93])).toArray⟩ : ByteArray) = ⟨(acc ++ (91 :: (Lib.itoa n ++ [93]))).toArray⟩ := of_bytes (by rw [app_bytes])
      rw [if_pos rfl, if_pos rfl, hT, Option.bind_some, e1, if_pos (by omega), if_pos (by omega), e2, if_pos (by omega), e3]
      exact ih _ (by omega) (by rw [List.length_append]; simp; omega) (by omega)
    | false =>
      have hk : k.size ≤ 256 := by simpa using hx
      have hL := size_list k
      have hB := bare_of k (by omega) K (by omega)
      have hD := ref_double k (by omega) K (by omega)
      have hkl := keyT_len k.data.toList
      have cat : ∀ t : List UInt8, (⟨acc.toArray⟩ : ByteArray) ++ (⟨t.toArray⟩ : ByteArray) = ⟨(acc ++ t).toArray⟩ := fun t => of_bytes (by rw [app_bytes])
      have dot : (⟨acc.toArray⟩ : ByteArray) ++ (⟨#[46]⟩ : ByteArray) = ⟨(acc ++ [46]).toArray⟩ := of_bytes (by rw [app_bytes])
      have cat2 : ∀ t : List UInt8, (⟨(acc ++ [46]).toArray⟩ : ByteArray) ++ (⟨t.toArray⟩ : ByteArray) = ⟨(acc ++ ([46] ++ t)).toArray⟩ := fun t => of_bytes (by rw [app_bytes]; simp)
      have dsz : (⟨(acc ++ [46]).toArray⟩ : ByteArray).size = acc.length + 1 := by show (acc ++ [46]).length = _; simp
      have tsz : ∀ t : List UInt8, (⟨t.toArray⟩ : ByteArray).size = t.length := fun _ => rfl
      have hkk : k = ⟨k.data.toList.toArray⟩ := of_bytes rfl
      have fin : ∀ t : List UInt8, t.length ≤ 2562 → (if (i : Int) > 0 then (if (⟨acc.toArray⟩ : ByteArray).size + 1 ≤ 9223372036854775807 then (if ((⟨acc.toArray⟩ : ByteArray) ++ (⟨#[46]⟩ : ByteArray)).size + (⟨t.toArray⟩ : ByteArray).size ≤ 9223372036854775807 then (grommetref16_Format.l1 K l (((⟨acc.toArray⟩ : ByteArray) ++ (⟨#[46]⟩ : ByteArray)) ++ ⟨t.toArray⟩) ((i + 1 : Nat) : Int)) else (none)) else (none)) else (if (⟨acc.toArray⟩ : ByteArray).size + (⟨t.toArray⟩ : ByteArray).size ≤ 9223372036854775807 then (grommetref16_Format.l1 K l ((⟨acc.toArray⟩ : ByteArray) ++ ⟨t.toArray⟩) ((i + 1 : Nat) : Int)) else (none))) =
          some (⟨(fmtF false ((l.drop (i + 1)).map conv) (acc ++ ((if decide (i = 0) then [] else [46]) ++ t))).1.toArray⟩, (fmtF false ((l.drop (i + 1)).map conv) (acc ++ ((if decide (i = 0) then [] else [46]) ++ t))).2) := by
        intro t ht
        by_cases z : i = 0
        · rw [if_neg (by omega), if_pos (by rw [asz, tsz]; omega), cat, ih _ (by omega) (by rw [List.length_append]; omega) (by omega), decide_eq_true z]; rfl
        · rw [if_pos (by omega), if_pos (by rw [asz]; omega), dot, if_pos (by rw [dsz, tsz]; omega), cat2, ih _ (by omega) (by rw [List.length_append, List.length_append, List.length_singleton]; omega) (by omega), decide_eq_false z]; rfl
      rw [if_neg Bool.false_ne_true, if_neg Bool.false_ne_true, hB, Option.bind_some]
      by_cases c : k.data.toList ≠ [] ∧ k.data.toList.all isLet = true
      · have hkt : keyT k.data.toList = (k.data.toList, 0) := by unfold keyT; rw [if_pos c]
        rw [if_pos (by rw [c.2, Bool.true_and, bne_iff_ne]; exact c.1), hkt]
        dsimp only
        have h9 := fin k.data.toList (by omega)
        rw [← hkk] at h9
        refine h9.trans ?_
        rw [if_neg (show ¬ ((0 : Int) ≠ 0) by simp)]
      · have hkt : keyT k.data.toList = doubleOf k.data.toList := by unfold keyT; rw [if_neg c]
        rw [if_neg (by rw [Bool.and_eq_true, bne_iff_ne]; exact fun e => c ⟨e.2, e.1⟩), hD, Option.bind_some, hkt]
        rw [hkt] at hkl
        dsimp only
        by_cases e : (doubleOf k.data.toList).2 = 0
        · rw [if_pos e]
          refine (fin _ (by omega)).trans ?_
          rw [if_neg (show ¬ ((doubleOf k.data.toList).2 ≠ 0) from fun h => h e)]
        · have e8 : (doubleOf k.data.toList).2 = 8 := by
            unfold doubleOf at e ⊢
            split
            · rename_i zs hz; rw [hz] at e; exact absurd rfl e
            · rfl
          rw [if_neg e, if_pos e, e8]
theorem fmt_l0 (l : List Sr) (hl : l.length ≤ 64) : ∀ (d i K : Nat), l.length = i + d → (∀ x ∈ l.take i, okStep (conv x) = true) → d + 600 ≤ K →
    grommetref16_Format.l0 K l (i : Int) = some (if (l.map conv).all okStep = true then (⟨(fmtF true (l.map conv) []).1.toArray⟩, (fmtF true (l.map conv) []).2) else (⟨#[]⟩, 5))
  | 0, i, K, hd, hok, hK => by
    obtain ⟨K, rfl⟩ : ∃ m, K = m + 1 := ⟨K - 1, by omega⟩
    rw [List.take_of_length_le (by omega)] at hok
    have hall : (l.map conv).all okStep = true := by
      rw [List.all_eq_true]; intro x hx; obtain ⟨y, hy, rfl⟩ := List.mem_map.1 hx; exact hok y hy
    rw [grommetref16_Format.l0, if_neg (by omega), if_pos hall, show (⟨#[]⟩ : ByteArray) = ⟨([] : List UInt8).toArray⟩ from rfl, show (0 : Int) = ((0 : Nat) : Int) from rfl, fmt_l1 l hl hok l.length 0 K [] (by omega) (by simp) (by omega)]
    rfl
  | d + 1, i, K, hd, hok, hK => by
    obtain ⟨K, rfl⟩ : ∃ m, K = m + 1 := ⟨K - 1, by omega⟩
    have hlt : i < l.length := by omega
    have ih := fmt_l0 l hl d (i + 1) K (by omega)
    have stop : okStep (conv l[i]) = false → ¬ (l.map conv).all okStep = true := fun hf ha => by
      have := List.all_eq_true.1 ha (conv l[i]) (List.mem_map.2 ⟨_, List.getElem_mem hlt, rfl⟩)
      rw [hf] at this; cases this
    have go : okStep (conv l[i]) = true → ∀ x ∈ l.take (i + 1), okStep (conv x) = true := fun ho x hx => by
      rw [List.take_succ_eq_append_getElem hlt, List.mem_append, List.mem_singleton] at hx
      rcases hx with hx | rfl
      · exact hok x hx
      · exact ho
    rw [grommetref16_Format.l0, if_pos (by omega), if_pos (by omega), rd_ref l i hlt, wrap1 i (by omega)]
    rw [okStep_conv] at stop go
    generalize l[i] = x at *
    obtain ⟨k, n, g⟩ := x
    dsimp only at stop go ⊢
    cases g with
    | true =>
      rw [if_pos rfl]
      by_cases a : n < 0
      · rw [if_pos a, if_neg (stop (by simp; omega))]
      · rw [if_neg a]
        by_cases b : n > 999999
        · rw [if_pos b, if_neg (stop (by simp; omega))]
        · rw [if_neg b, if_pos rfl]; exact ih (go (by simp; omega)) (by omega)
    | false =>
      rw [if_neg Bool.false_ne_true, if_neg Bool.false_ne_true]
      by_cases a : (k.size : Int) > 256
      · rw [if_pos a, if_neg (stop (by simp; omega))]
      · rw [if_neg a]; exact ih (go (by simp; omega)) (by omega)
theorem ref_format (l : List Sr) (K : Nat) (hK : 700 ≤ K) : grommetref16_Format.f K l = some (⟨(fmtB (l.map conv)).1.toArray⟩, (fmtB (l.map conv)).2) := by
  unfold grommetref16_Format.f fmtB
  rw [List.length_map]
  by_cases a : 64 < l.length
  · rw [if_pos (by omega), if_pos a]
  · rw [if_neg (by omega), if_neg a, show (0 : Int) = ((0 : Nat) : Int) from rfl, fmt_l0 l (by omega) l.length 0 K (by omega) (by simp) (by omega)]
    by_cases b : (l.map conv).all okStep = true
    · rw [if_pos b, if_pos b]
    · rw [if_neg b, if_neg b]
theorem same_ref (a b : List Sr) : (decide ((a.map conv).length = (b.map conv).length) && (((a.map conv).zip (b.map conv)).all fun p => sameB p.1 p.2)) = (decide (a.length = b.length) && ((a.zip b).all fun p => sameR p.1 p.2)) := by
  rw [List.length_map, List.length_map, List.zip_map, List.all_map]
  congr 2
  funext p
  obtain ⟨⟨xk, xi, xa⟩, ⟨yk, yi, ya⟩⟩ := p
  show sameB (conv ⟨xk, xi, xa⟩) (conv ⟨yk, yi, ya⟩) = sameR ⟨xk, xi, xa⟩ ⟨yk, yi, ya⟩
  unfold sameB sameR conv cleanS
  cases xa <;> cases ya <;> simp
theorem same_self (l : List St) (hl : l.length ≤ 1099511627775) (K : Nat) (hK : l.length + 1 ≤ K) : path_Same.f K l l = some true := by
  rw [same_of l l hl K hK, decide_eq_true rfl, Bool.true_and]
  congr 1
  rw [List.all_eq_true]
  intro p hp
  obtain ⟨i, hi, e⟩ := List.getElem_of_mem hp
  rw [List.getElem_zip] at e
  subst e
  unfold sameB; simp
end Go.Proofs.YtmkdjgmdfhagfaaGreatDoor.Paths

/- PathFormats' pure statement: for every two lists of at most a million steps the law's Lean function answers true. -/
namespace Go.Proofs.YtmkdjgmdfhagfaaGreatDoor.Pure
open Go.RowKit Go.Proofs.YtmkdjgmdfhagfaaGreatDoor.PX Go.Proofs.YtmkdjgmdfhagfaaGreatDoor.Plug Go.Proofs.YtmkdjgmdfhagfaaGreatDoor.Utf Go.Proofs.YtmkdjgmdfhagfaaGreatDoor.Paths Go.Proofs.YtmkdjgmdfhagfaaGreatDoorW.PrintWords Go.Proofs.YtmkdjgmdfhagfaaGreatDoorW.PrintLast
theorem PathFormats (a b : List Sr) (_ha : ∀ x ∈ a, Opened.goodStep x) (_hb : ∀ x ∈ b, Opened.goodStep x) (hbk : Opened.bulkL Opened.bulkStep a + Opened.bulkL Opened.bulkStep b ≤ 1048576) : ∃ k, grommetlaw16_PathFormats.f k a b = some true := by
  have la := Opened.steps_len a
  have lb := Opened.steps_len b
  refine ⟨2000000 + 1, ?_⟩
  obtain ⟨p, hp, _⟩ := long_of a (by omega) (2000000 + 1) (by omega)
  obtain ⟨q, hq, _⟩ := long_of b (by omega) (2000000 + 1) (by omega)
  have h1 : grommetlaw16_PathFormats.j0 (2000000 + 1) a b true = some true := by
    rw [grommetlaw16_PathFormats.j0, if_pos rfl, alive16]; rfl
  have h2 : grommetlaw16_PathFormats.j0 (2000000 + 1) a b false = some true := by
    have tA := theirs_of a (by omega) 2000000 (by omega)
    have tB := theirs_of b (by omega) 2000000 (by omega)
    have hFF : path_Format.f (a.map conv) = some (⟨(fmtB (a.map conv)).1.toArray⟩, (fmtB (a.map conv)).2) := rfl
    have hS := same_of (a.map conv) (b.map conv) (by rw [List.length_map]; omega) 2000000 (by rw [List.length_map]; omega)
    have hSS := same_self (a.map conv) (by rw [List.length_map]; omega) 2000000 (by rw [List.length_map]; omega)
    have hR : grommetref16_Same.f a b = some (decide (a.length = b.length) && ((a.zip b).all fun p => sameR p.1 p.2)) := rfl
    rw [same_ref] at hS
    rw [grommetlaw16_PathFormats.j0, if_neg Bool.false_ne_true, tA, Option.bind_some, hFF, Option.bind_some, ref_format a 2000000 (by omega), Option.bind_some, if_pos rfl, if_pos rfl, Option.bind_some, tB, Option.bind_some, hS, Option.bind_some, hR, Option.bind_some, if_pos (by simp), Option.bind_some, Option.bind_some, hSS, Option.bind_some, if_pos rfl, alive16]; rfl
  unfold grommetlaw16_PathFormats.f
  rw [hp, Option.bind_some]
  cases p with
  | true => rw [if_pos rfl]; exact h1
  | false =>
    rw [if_neg Bool.false_ne_true, hq, Option.bind_some]
    cases q with
    | true => exact h1
    | false => exact h2
end Go.Proofs.YtmkdjgmdfhagfaaGreatDoor.Pure

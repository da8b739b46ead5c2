/- Texts that stand behind one another, laid into one: what this claim needs of them. -/
import Derived.Test.YtiooacmplmcphaaGreatDoorBP0
import Derived.Test.YtiooacmplmcphaaGreatDoorBP1
import Derived.Outline
import Derived.StillTailTactics
import Derived.Laws.BitsAllLaws
import Derived.Lib.Walk
import Derived.Lib.Hide
import Derived.Lib.ConvBytes
import Derived.Laws.BitsLemmas
import Derived.Laws.Closers25
import Derived.Laws.Closers25b
import Derived.WalkKit
import Derived.KernelRfl
import Derived.Deep.LoopGhost
import Derived.Lib.AppendIntMem
import Derived.Lib.ItoaLen
namespace Go.Proofs.YtiooacmplmcphaaGreatDoor.PX
open RowKit YtiooacmplmcphaaGreatDoorW.PrintWords YtiooacmplmcphaaGreatDoorW.PrintLast YtiooacmplmcphaaGreatDoorW.PrintMore YtiooacmplmcphaaGreatDoor
attribute [local go_sem] max2_int min2_int max_two min_two max_three min_three max_four min_four   -- for this text's walks alone
set_option linter.unusedVariables false
set_option linter.unusedSimpArgs false
def quote_may.f (a0 : Int) : Option (Bool) := (utf_Printable.f a0).bind fun t101 => (if t101 = true then (if a0 = 9 then (some false) else (if a0 = 10 then (some false) else (some (a0 != 13)))) else (some false))
theorem qsa0_ {P : Prop} (h_ : P := by first | ((repeat (first | (with_reducible first | exact HB.out | apply below_alloc | apply pw_below_drewN | apply below_drew1 | (refine Glob.below_set ?_ (by assumption) _ _ _)) | exact HB.out)); done) | (refine Drawn0.below ?_; repeat (first | exact Drawn0.refl _ | assumption | apply Drawn0.step))) : P := h_
theorem qsa1_ {P : Prop} (h_ : P := by (try simp only [List.map_toArray, List.map_cons, List.map_nil]); first | done | rfl | (simp only [List.length_drop, List.length_take]; rfl)) : P := h_
theorem qsa2_ {P : Prop} (h_ : P := by first | rfl | (simp; done) | (simp [*]; done) | (simp; generalize ByteArray.toList _ = l_; cases l_ <;> rfl)) : P := h_
theorem qsa3_ {P : Prop} (h_ : P := by repeat (first | exact Drawn0.refl _ | apply Drawn0.step)) : P := h_
set_option maxHeartbeats 8000000 in
set_option maxRecDepth 100000 in
theorem quote_may.calls (a0 : Int) (r : Bool) (w : World) (hG : Glob.G w) (h : quote_may.f a0 = some r) :
  Calls Tryz.prog 145 #[.int .i64 a0] w fun e w' => e = .returned (.bool r) ∧ Drawn0 w w' := by
 have H : ((utf_Printable.f a0).bind fun t101 => (if t101 = true then (if a0 = 9 then (some false) else (if a0 = 10 then (some false) else (some (a0 != 13)))) else (some false))) = some r := h
 clear h
 replace H := Option.bind_eq_some_iff.mp H
 obtain ⟨t101, A20, H⟩ := H
 replace H : (if t101 = true then (if a0 = 9 then (some false) else (if a0 = 10 then (some false) else (some (a0 != 13)))) else (some false)) = some r := H
 have A2 := Aside0.mk A20
 clear A20
 by_cases c3 : t101 = true
 rotate_left
 ·
  replace c3 := Bool.eq_false_iff.mpr c3
  subst c3
  have H1 : (some false) = some r := by rw [if_neg (show ¬ (false = true) by decide)] at H; exact H
  clear H
  have H := H1
  clear H1
  obtain rfl := Option.some.inj H
  go_enter Tryz.func145, Tryz.ntmps145
  go_wp2_with (first | ((with_reducible refine gate_callee (f := 176) rfl ?_); refine goesL_ (some 4) rfl rfl Tryz.func176 (by kernel_rfl) rfl #[.int .i64 a0] rfl (qsa1_) ?_; (with_reducible refine (utf_Printable.calls a0 false _ (hG.below (qsa0_)) A2.out).mono ?_); rintro e w' ⟨rfl, ⟨nd, rfl⟩⟩; refine ⟨_, rfl, ?_⟩))
  go_ret
  exact ⟨qsa2_, qsa3_⟩
 subst c3
 have H1 : (if a0 = 9 then (some false) else (if a0 = 10 then (some false) else (some (a0 != 13)))) = some r := by rw [if_pos rfl] at H; exact H
 clear H
 have H := H1
 clear H1
 by_cases c4 : a0 = 9
 ·
  rw [if_pos c4] at H
  have c4b0 : (a0 == 9) = true := beq_iff_eq.mpr c4
  have c4b1 : (a0 != 9) = false := bne_eq_false_iff_eq.mpr c4
  clear c4
  obtain rfl := Option.some.inj H
  go_enter Tryz.func145, Tryz.ntmps145
  go_wp2_with (first | ((with_reducible refine gate_callee (f := 176) rfl ?_); refine goesL_ (some 4) rfl rfl Tryz.func176 (by kernel_rfl) rfl #[.int .i64 a0] rfl (qsa1_) ?_; (with_reducible refine (utf_Printable.calls a0 true _ (hG.below (qsa0_)) A2.out).mono ?_); rintro e w' ⟨rfl, ⟨nd, rfl⟩⟩; refine ⟨_, rfl, ?_⟩))
  go_ret
  exact ⟨qsa2_, qsa3_⟩
 rw [if_neg c4] at H
 have c4b0 : (a0 == 9) = false := beq_eq_false_iff_ne.mpr c4
 have c4b1 : (a0 != 9) = true := bne_iff_ne.mpr c4
 by_cases c5 : a0 = 10
 rotate_left
 ·
  rw [if_neg c5] at H
  have c5b0 : (a0 == 10) = false := beq_eq_false_iff_ne.mpr c5
  have c5b1 : (a0 != 10) = true := bne_iff_ne.mpr c5
  obtain rfl := Option.some.inj H
  go_enter Tryz.func145, Tryz.ntmps145
  go_wp2_with (first | ((with_reducible refine gate_callee (f := 176) rfl ?_); refine goesL_ (some 4) rfl rfl Tryz.func176 (by kernel_rfl) rfl #[.int .i64 a0] rfl (qsa1_) ?_; (with_reducible refine (utf_Printable.calls a0 true _ (hG.below (qsa0_)) A2.out).mono ?_); rintro e w' ⟨rfl, ⟨nd, rfl⟩⟩; refine ⟨_, rfl, ?_⟩))
  go_ret
  exact ⟨qsa2_, qsa3_⟩
 rw [if_pos c5] at H
 have c5b0 : (a0 == 10) = true := beq_iff_eq.mpr c5
 have c5b1 : (a0 != 10) = false := bne_eq_false_iff_eq.mpr c5
 clear c5
 obtain rfl := Option.some.inj H
 go_enter Tryz.func145, Tryz.ntmps145
 go_wp2_with (first | ((with_reducible refine gate_callee (f := 176) rfl ?_); refine goesL_ (some 4) rfl rfl Tryz.func176 (by kernel_rfl) rfl #[.int .i64 a0] rfl (qsa1_) ?_; (with_reducible refine (utf_Printable.calls a0 true _ (hG.below (qsa0_)) A2.out).mono ?_); rintro e w' ⟨rfl, ⟨nd, rfl⟩⟩; refine ⟨_, rfl, ?_⟩))
 go_ret
 exact ⟨qsa2_, qsa3_⟩
end Go.Proofs.YtiooacmplmcphaaGreatDoor.PX
namespace Go.Proofs.YtiooacmplmcphaaGreatDoor.PX
open RowKit YtiooacmplmcphaaGreatDoorW.PrintWords YtiooacmplmcphaaGreatDoorW.PrintLast YtiooacmplmcphaaGreatDoorW.PrintMore YtiooacmplmcphaaGreatDoor YtiooacmplmcphaaGreatDoor.Plug
attribute [local go_sem] max2_int min2_int max_two min_two max_three min_three max_four min_four   -- for this text's walks alone
set_option linter.unusedVariables false
set_option linter.unusedSimpArgs false
def quote_one.j0 : Nat → ByteArray → Bool → Option (ByteArray × Int × Int)
  | 0, _, _ => none
  | k + 1, x0, x32 => if x32 = true then ((quote_escape.f x0).bind fun bt101 => (if bt101.2.2 = 0 then ((utf_Encode.f (([bt101.1] : List Int))).bind fun bt107 => (some (bt107.1, bt101.2.1, 0))) else (some ((⟨#[]⟩ : ByteArray), 0, bt101.2.2)))) else ((utf_First.f x0).bind fun bt109 => ((quote_may.f bt109.1).bind fun t111 => (if t111 = true then (if 0 ≤ bt109.2 then (if bt109.2 ≤ (x0.size : Int) then (some (x0.extract 0 (bt109.2 : Int).toNat, bt109.2, 0)) else (none)) else (none)) else (some ((⟨#[]⟩ : ByteArray), 0, 8)))))
def quote_one.f (k : Nat) (a0 : ByteArray) (a1 : Int) : Option (ByteArray × Int × Int) := if 0 < (a0.size : Int) then (if (bt a0 0) = a1 then (if a1 = 39 then (if (a0.size : Int) > 1 then (if 1 < (a0.size : Int) then (if (bt a0 1) = a1 then (some ((⟨#[39]⟩ : ByteArray), 2, 0)) else (some ((⟨#[]⟩ : ByteArray), 0, 0))) else (none)) else (some ((⟨#[]⟩ : ByteArray), 0, 0))) else (some ((⟨#[]⟩ : ByteArray), 0, 0))) else (if a1 = 34 then (quote_one.j0 k a0 ((bt a0 0) == 92)) else (quote_one.j0 k a0 false))) else (none)
theorem qra0_ {P : Prop} (h_ : P := by repeat (first | (with_reducible first | exact HB.out | apply below_alloc | apply pw_below_drewN | apply below_drew1) | exact HB.out)) : P := h_
theorem qra1_ {P : Prop} (h_ : P := by first | ((repeat (first | (with_reducible first | exact HB.out | apply below_alloc | apply pw_below_drewN | apply below_drew1 | (refine Glob.below_set ?_ (by assumption) _ _ _)) | exact HB.out)); done) | (refine Drawn0.below ?_; repeat (first | exact Drawn0.refl _ | assumption | apply Drawn0.step))) : P := h_
theorem qra2_ {P : Prop} (h_ : P := by (try simp only [List.map_toArray, List.map_cons, List.map_nil]); first | done | rfl | (simp only [List.length_drop, List.length_take]; rfl)) : P := h_
theorem qra3_ {P : Prop} (h_ : P := by first | (with_reducible assumption) | assumption) : P := h_
theorem qra4_ {P : Prop} (h_ : P := by first | rfl | (simp [errW_none, errW_some] <;> rfl) | (simp [*, errW_none, errW_some] <;> rfl)) : P := h_
set_option maxHeartbeats 8000000 in
set_option maxRecDepth 100000 in
theorem quote_one.calls (k : Nat) (a0 : ByteArray) (a1 : Int) (r1 : ByteArray) (r2 : Int) (r3 : Int) (w : World) (hG : Glob.G w) (h : quote_one.f k a0 a1 = some (r1, r2, r3)) :
  Calls Tryz.prog 159 #[.string a0, .int .u8 a1] w fun e w' => e = .returned (.tuple #[.string r1, .int .i64 r2, .int .i64 r3]) ∧ Below w.heap.size w w' := by
 have HB := Aside0.mk (Below.refl w.heap.size w)
 have H : (if 0 < (a0.size : Int) then (if (bt a0 0) = a1 then (if a1 = 39 then (if (a0.size : Int) > 1 then (if 1 < (a0.size : Int) then (if (bt a0 1) = a1 then (some ((⟨#[39]⟩ : ByteArray), 2, 0)) else (some ((⟨#[]⟩ : ByteArray), 0, 0))) else (none)) else (some ((⟨#[]⟩ : ByteArray), 0, 0))) else (some ((⟨#[]⟩ : ByteArray), 0, 0))) else (if a1 = 34 then (quote_one.j0 k a0 ((bt a0 0) == 92)) else (quote_one.j0 k a0 false))) else (none)) = some (r1, r2, r3) := h
 clear h
 by_cases c3 : 0 < (a0.size : Int)
 rotate_left
 ·
  rw [if_neg c3] at H
  exact absurd H (by simp)
 rw [if_pos c3] at H
 have c3b0 : decide (0 < (a0.size : Int)) = true := decide_eq_true c3
 have c3b1 : decide (0 < a0.size) = true := decide_eq_true (by omega)
 clear c3
 by_cases c5 : (bt a0 0) = a1
 ·
  rw [if_pos c5] at H
  have c5b0 : ((bt a0 0) == a1) = true := beq_iff_eq.mpr c5
  have c5b1 : ((bt a0 0) != a1) = false := bne_eq_false_iff_eq.mpr c5
  clear c5
  by_cases c6 : a1 = 39
  rotate_left
  ·
   rw [if_neg c6] at H
   have c6b0 : (a1 == 39) = false := beq_eq_false_iff_ne.mpr c6
   have c6b1 : (a1 != 39) = true := bne_iff_ne.mpr c6
   simp only [Option.some.injEq, Prod.mk.injEq] at H
   obtain ⟨rfl, rfl, rfl⟩ := H
   have p4 : 0 ≤ (0 : Int) := (by omega)
   have q4 : 0 < a0.size := (by have : (0 : Int) < (a0.size : Int) := of_decide_eq_true (qra3_); omega)
   have hx4 : ∀ h : 0 < a0.size, ((a0[0]'h).toNat : Int) = bt a0 0 := bt_at a0 0
   clear p4
   have qi4 : (0 < (a0.size : Int)) = True := eq_true (of_decide_eq_true (qra3_))
   replace q4 := eq_true q4
   go_enter Tryz.func159, Tryz.ntmps159
   go_wp2
   go_ret3
   exact ⟨qra4_, qra0_⟩
  rw [if_pos c6] at H
  have c6b0 : (a1 == 39) = true := beq_iff_eq.mpr c6
  have c6b1 : (a1 != 39) = false := bne_eq_false_iff_eq.mpr c6
  clear c6
  by_cases c7 : (a0.size : Int) > 1
  rotate_left
  ·
   rw [if_neg c7] at H
   have c7b0 : decide (1 < (a0.size : Int)) = false := decide_eq_false c7
   have c7b1 : decide (1 < a0.size) = false := decide_eq_false (by omega)
   clear c7
   simp only [Option.some.injEq, Prod.mk.injEq] at H
   obtain ⟨rfl, rfl, rfl⟩ := H
   have p4 : 0 ≤ (0 : Int) := (by omega)
   have q4 : 0 < a0.size := (by have : (0 : Int) < (a0.size : Int) := of_decide_eq_true (qra3_); omega)
   have hx4 : ∀ h : 0 < a0.size, ((a0[0]'h).toNat : Int) = bt a0 0 := bt_at a0 0
   clear p4
   have qi4 : (0 < (a0.size : Int)) = True := eq_true (of_decide_eq_true (qra3_))
   replace q4 := eq_true q4
   go_enter Tryz.func159, Tryz.ntmps159
   go_wp2
   go_ret3
   exact ⟨qra4_, qra0_⟩
  rw [if_pos c7] at H
  have c7b0 : decide (1 < (a0.size : Int)) = true := decide_eq_true c7
  have c7b1 : decide (1 < a0.size) = true := decide_eq_true (by omega)
  clear c7
  by_cases c8 : 1 < (a0.size : Int)
  rotate_left
  ·
   rw [if_neg c8] at H
   exact absurd H (by simp)
  rw [if_pos c8] at H
  have c8b0 : decide (1 < (a0.size : Int)) = true := decide_eq_true c8
  have c8b1 : decide (1 < a0.size) = true := decide_eq_true (by omega)
  clear c8
  by_cases c10 : (bt a0 1) = a1
  rotate_left
  ·
   rw [if_neg c10] at H
   have c10b0 : ((bt a0 1) == a1) = false := beq_eq_false_iff_ne.mpr c10
   have c10b1 : ((bt a0 1) != a1) = true := bne_iff_ne.mpr c10
   simp only [Option.some.injEq, Prod.mk.injEq] at H
   obtain ⟨rfl, rfl, rfl⟩ := H
   have p4 : 0 ≤ (0 : Int) := (by omega)
   have q4 : 0 < a0.size := (by have : (0 : Int) < (a0.size : Int) := of_decide_eq_true (qra3_); omega)
   have hx4 : ∀ h : 0 < a0.size, ((a0[0]'h).toNat : Int) = bt a0 0 := bt_at a0 0
   clear p4
   have qi4 : (0 < (a0.size : Int)) = True := eq_true (of_decide_eq_true (qra3_))
   replace q4 := eq_true q4
   have p9 : 0 ≤ (1 : Int) := (by omega)
   have q9 : 1 < a0.size := (by have : (1 : Int) < (a0.size : Int) := of_decide_eq_true (qra3_); omega)
   have hx9 : ∀ h : 1 < a0.size, ((a0[1]'h).toNat : Int) = bt a0 1 := bt_at a0 1
   clear p9
   have qi9 : (1 < (a0.size : Int)) = True := eq_true (of_decide_eq_true (qra3_))
   replace q9 := eq_true q9
   go_enter Tryz.func159, Tryz.ntmps159
   go_wp2
   go_ret3
   exact ⟨qra4_, qra0_⟩
  rw [if_pos c10] at H
  have c10b0 : ((bt a0 1) == a1) = true := beq_iff_eq.mpr c10
  have c10b1 : ((bt a0 1) != a1) = false := bne_eq_false_iff_eq.mpr c10
  clear c10
  simp only [Option.some.injEq, Prod.mk.injEq] at H
  obtain ⟨rfl, rfl, rfl⟩ := H
  have p4 : 0 ≤ (0 : Int) := (by omega)
  have q4 : 0 < a0.size := (by have : (0 : Int) < (a0.size : Int) := of_decide_eq_true (qra3_); omega)
  have hx4 : ∀ h : 0 < a0.size, ((a0[0]'h).toNat : Int) = bt a0 0 := bt_at a0 0
  clear p4
  have qi4 : (0 < (a0.size : Int)) = True := eq_true (of_decide_eq_true (qra3_))
  replace q4 := eq_true q4
  have p9 : 0 ≤ (1 : Int) := (by omega)
  have q9 : 1 < a0.size := (by have : (1 : Int) < (a0.size : Int) := of_decide_eq_true (qra3_); omega)
  have hx9 : ∀ h : 1 < a0.size, ((a0[1]'h).toNat : Int) = bt a0 1 := bt_at a0 1
  clear p9
  have qi9 : (1 < (a0.size : Int)) = True := eq_true (of_decide_eq_true (qra3_))
  replace q9 := eq_true q9
  go_enter Tryz.func159, Tryz.ntmps159
  go_wp2
  go_ret3
  exact ⟨qra4_, qra0_⟩
 rw [if_neg c5] at H
 have c5b0 : ((bt a0 0) == a1) = false := beq_eq_false_iff_ne.mpr c5
 have c5b1 : ((bt a0 0) != a1) = true := bne_iff_ne.mpr c5
 have HC11 := Aside0.mk H
 clear H
 have p4 : 0 ≤ (0 : Int) := (by omega)
 have q4 : 0 < a0.size := (by have : (0 : Int) < (a0.size : Int) := of_decide_eq_true (qra3_); omega)
 have hx4 : ∀ h : 0 < a0.size, ((a0[0]'h).toNat : Int) = bt a0 0 := bt_at a0 0
 clear p4
 have qi4 : (0 < (a0.size : Int)) = True := eq_true (of_decide_eq_true (qra3_))
 replace q4 := eq_true q4
 go_enter Tryz.func159, Tryz.ntmps159
 go_upto_region 5 with (fail)
 go_cut [32] (fun v32 wc => ∃ (kq : Nat) (x32_10 : Bool), v32 = .bool x32_10 ∧ Aside0 (quote_one.j0 kq a0 x32_10 = some (r1, r2, r3)) ∧ Aside0 (kq ≤ k) ∧ Aside0 (Below w.heap.size w wc))
 case first =>
  have H := HC11.out
  clear HC11
  by_cases c12 : a1 = 34
  rotate_left
  ·
   rw [if_neg c12] at H
   have c12b0 : (a1 == 34) = false := beq_eq_false_iff_ne.mpr c12
   have c12b1 : (a1 != 34) = true := bne_iff_ne.mpr c12
   (first | rw [c12b0] | (simp only [i64_w, i32_w]; rw [c12b0]) | skip)
   have H' := Aside0.mk H
   clear H
   go_wp2
   go_meet
   case rel => exact ⟨_, (false), (by first | rfl | (simp; done) | (simp [*]; done)), H', ⟨by first | omega | exact Nat.le_refl _⟩, ⟨qra0_⟩⟩
  rw [if_pos c12] at H
  have c12b0 : (a1 == 34) = true := beq_iff_eq.mpr c12
  have c12b1 : (a1 != 34) = false := bne_eq_false_iff_eq.mpr c12
  clear c12
  (first | rw [c12b0] | (simp only [i64_w, i32_w]; rw [c12b0]) | skip)
  have H' := Aside0.mk H
  clear H
  have p13 : 0 ≤ (0 : Int) := (by omega)
  have q13 : 0 < a0.size := (by have : (0 : Int) < (a0.size : Int) := of_decide_eq_true (qra3_); omega)
  have hx13 : ∀ h : 0 < a0.size, ((a0[0]'h).toNat : Int) = bt a0 0 := bt_at a0 0
  clear p13
  have qi13 : (0 < (a0.size : Int)) = True := eq_true (of_decide_eq_true (qra3_))
  replace q13 := eq_true q13
  go_wp2
  go_meet
  case rel => exact ⟨_, (((bt a0 0) == 92)), (by first | rfl | (simp; done) | (simp [*]; done)), H', ⟨by first | omega | exact Nat.le_refl _⟩, ⟨qra0_⟩⟩
 case rest =>
  clear HC11
  try clear c1
  try clear p1
  try clear q1
  try clear hx1
  try clear qi1
  try clear p2
  try clear c3
  try clear c3b0
  try clear c3b1
  try clear p4
  try clear q4
  try clear hx4
  try clear qi4
  try clear c5
  try clear c5b0
  try clear c5b1
  try clear c6
  try clear c6b0
  try clear c6b1
  try clear c7
  try clear c7b0
  try clear c7b1
  try clear c8
  try clear c8b0
  try clear c8b1
  try clear p9
  try clear q9
  try clear hx9
  try clear qi9
  try clear c10
  try clear c10b0
  try clear c10b1
  try clear c12
  try clear c12b0
  try clear c12b1
  try clear p13
  try clear q13
  try clear hx13
  try clear qi13
  try clear p13
  try clear p4
  try clear p9
  try clear q13
  try clear q4
  try clear q9
  obtain ⟨kq, x32_10, rfl, HA, HJ10, HB⟩ := hcut
  cases kq with
  | zero => exact absurd HA.out (by simp [quote_one.j0])
  | succ kj10 =>
   have H := HA.out
   clear HA
   simp only [quote_one.j0] at H
   by_cases c14 : x32_10 = true
   rotate_left
   ·
    replace c14 := Bool.eq_false_iff.mpr c14
    subst c14
    have H1 : ((utf_First.f a0).bind fun bt109 => ((quote_may.f bt109.1).bind fun t111 => (if t111 = true then (if 0 ≤ bt109.2 then (if bt109.2 ≤ (a0.size : Int) then (some (a0.extract 0 (bt109.2 : Int).toNat, bt109.2, 0)) else (none)) else (none)) else (some ((⟨#[]⟩ : ByteArray), 0, 8))))) = some (r1, r2, r3) := by rw [if_neg (show ¬ (false = true) by decide)] at H; exact H
    clear H
    have H := H1
    clear H1
    replace H := Option.bind_eq_some_iff.mp H
    obtain ⟨⟨t109, t110⟩, A240, H⟩ := H
    replace H : ((quote_may.f t109).bind fun t111 => (if t111 = true then (if 0 ≤ t110 then (if t110 ≤ (a0.size : Int) then (some (a0.extract 0 (t110 : Int).toNat, t110, 0)) else (none)) else (none)) else (some ((⟨#[]⟩ : ByteArray), 0, 8)))) = some (r1, r2, r3) := H
    have A24 := Aside0.mk A240
    clear A240
    replace H := Option.bind_eq_some_iff.mp H
    obtain ⟨t111, A250, H⟩ := H
    replace H : (if t111 = true then (if 0 ≤ t110 then (if t110 ≤ (a0.size : Int) then (some (a0.extract 0 (t110 : Int).toNat, t110, 0)) else (none)) else (none)) else (some ((⟨#[]⟩ : ByteArray), 0, 8))) = some (r1, r2, r3) := H
    have A25 := Aside0.mk A250
    clear A250
    by_cases c26 : t111 = true
    rotate_left
    ·
     replace c26 := Bool.eq_false_iff.mpr c26
     subst c26
     have H1 : (some ((⟨#[]⟩ : ByteArray), 0, 8)) = some (r1, r2, r3) := by rw [if_neg (show ¬ (false = true) by decide)] at H; exact H
     clear H
     have H := H1
     clear H1
     simp only [Option.some.injEq, Prod.mk.injEq] at H
     obtain ⟨rfl, rfl, rfl⟩ := H
     go_wp2_with (first | ((with_reducible refine gate_callee (f := 175) rfl ?_); refine goesL_ (some 59) rfl rfl Tryz.func175 (by kernel_rfl) rfl #[.string a0] rfl (qra2_) ?_; (with_reducible refine (utf_First.calls a0 t109 t110 _ (hG.below (qra1_)) A24.out).mono ?_); rintro e w30 ⟨rfl, hb⟩; refine ⟨_, rfl, ?_⟩; have n0_ := Aside0.mk (below_step (qra0_) hb); clear HB; have HB := n0_; clear n0_; (try clear hb); (try clear hk)) | ((with_reducible refine gate_callee (f := 145) rfl ?_); refine goesL_ (some 63) rfl rfl Tryz.func145 (by kernel_rfl) rfl #[.int .i64 t109] rfl (qra2_) ?_; (with_reducible refine (quote_may.calls t109 false _ (hG.below (qra1_)) A25.out).mono ?_); rintro e w' ⟨rfl, ⟨nd, rfl⟩⟩; refine ⟨_, rfl, ?_⟩))
     go_ret3
     exact ⟨qra4_, qra0_⟩
    subst c26
    have H1 : (if 0 ≤ t110 then (if t110 ≤ (a0.size : Int) then (some (a0.extract 0 (t110 : Int).toNat, t110, 0)) else (none)) else (none)) = some (r1, r2, r3) := by rw [if_pos rfl] at H; exact H
    clear H
    have H := H1
    clear H1
    by_cases c27 : 0 ≤ t110
    rotate_left
    ·
     rw [if_neg c27] at H
     exact absurd H (by simp)
    rw [if_pos c27] at H
    have c27b0 := eq_true c27
    have c27b1 : decide (0 ≤ t110) = true := decide_eq_true c27
    clear c27
    by_cases c28 : t110 ≤ (a0.size : Int)
    rotate_left
    ·
     rw [if_neg c28] at H
     exact absurd H (by simp)
    rw [if_pos c28] at H
    have c28b0 := eq_true c28
    have c28b1 : decide (t110 ≤ (a0.size : Int)) = true := decide_eq_true c28
    clear c28
    simp only [Option.some.injEq, Prod.mk.injEq] at H
    obtain ⟨rfl, rfl, rfl⟩ := H
    go_wp2_with (first | ((with_reducible refine gate_callee (f := 175) rfl ?_); refine goesL_ (some 59) rfl rfl Tryz.func175 (by kernel_rfl) rfl #[.string a0] rfl (qra2_) ?_; (with_reducible refine (utf_First.calls a0 t109 t110 _ (hG.below (qra1_)) A24.out).mono ?_); rintro e w29 ⟨rfl, hb⟩; refine ⟨_, rfl, ?_⟩; have n0_ := Aside0.mk (below_step (qra0_) hb); clear HB; have HB := n0_; clear n0_; (try clear hb); (try clear hk)) | ((with_reducible refine gate_callee (f := 145) rfl ?_); refine goesL_ (some 63) rfl rfl Tryz.func145 (by kernel_rfl) rfl #[.int .i64 t109] rfl (qra2_) ?_; (with_reducible refine (quote_may.calls t109 true _ (hG.below (qra1_)) A25.out).mono ?_); rintro e w' ⟨rfl, ⟨nd, rfl⟩⟩; refine ⟨_, rfl, ?_⟩))
    go_ret3
    exact ⟨qra4_, qra0_⟩
   subst c14
   have H1 : ((quote_escape.f a0).bind fun bt101 => (if bt101.2.2 = 0 then ((utf_Encode.f (([bt101.1] : List Int))).bind fun bt107 => (some (bt107.1, bt101.2.1, 0))) else (some ((⟨#[]⟩ : ByteArray), 0, bt101.2.2)))) = some (r1, r2, r3) := by rw [if_pos rfl] at H; exact H
   clear H
   have H := H1
   clear H1
   replace H := Option.bind_eq_some_iff.mp H
   obtain ⟨⟨t101, t102, t103⟩, A150, H⟩ := H
   replace H : (if t103 = 0 then ((utf_Encode.f (([t101] : List Int))).bind fun bt107 => (some (bt107.1, t102, 0))) else (some ((⟨#[]⟩ : ByteArray), 0, t103))) = some (r1, r2, r3) := H
   have A15 := Aside0.mk A150
   clear A150
   by_cases c16 : t103 = 0
   rotate_left
   ·
    rw [if_neg c16] at H
    have c16b0 : (t103 == 0) = false := beq_eq_false_iff_ne.mpr c16
    have c16b1 : (t103 != 0) = true := bne_iff_ne.mpr c16
    simp only [Option.some.injEq, Prod.mk.injEq] at H
    obtain ⟨rfl, rfl, rfl⟩ := H
    go_wp2_with (first | ((with_reducible refine gate_callee (f := 189) rfl ?_); refine goesL_ (some 42) rfl rfl Tryz.func189 (by kernel_rfl) rfl #[.string a0] rfl (qra2_) ?_; (with_reducible refine (quote_escape.calls a0 t101 t102 t103 _ (hG.below (qra1_)) A15.out).mono ?_); rintro e w23 ⟨rfl, hb⟩; refine ⟨_, rfl, ?_⟩; have n0_ := Aside0.mk (below_step (qra0_) hb); clear HB; have HB := n0_; clear n0_; (try clear hb); (try clear hk)))
    go_ret3
    exact ⟨qra4_, qra0_⟩
   rw [if_pos c16] at H
   have c16b0 : (t103 == 0) = true := beq_iff_eq.mpr c16
   have c16b1 : (t103 != 0) = false := bne_eq_false_iff_eq.mpr c16
   clear c16
   obtain ⟨y104, hy104⟩ : ∃ y_ : List Int, y_ = (([t101] : List Int)) := ⟨_, rfl⟩
   replace H : ((utf_Encode.f y104).bind fun bt107 => (some (bt107.1, t102, 0))) = some (r1, r2, r3) := by first | (rw [hy104]; with_reducible exact H) | (have H2_ := (Option.bind_some _ _).symm.trans H; rw [hy104]; with_reducible exact H2_) | (have H2_ := (Option.bind_some _ _).symm.trans H; with_reducible exact H2_) | with_reducible exact H | (rw [hy104]; exact H) | exact H
   have Ny104 := Aside0.mk hy104
   clear hy104
   replace H := Option.bind_eq_some_iff.mp H
   obtain ⟨⟨t107, t108⟩, A170, H⟩ := H
   replace H : (some (t107, t102, 0)) = some (r1, r2, r3) := H
   have A17 := Aside0.mk A170
   clear A170
   simp only [Option.some.injEq, Prod.mk.injEq] at H
   obtain ⟨rfl, rfl, rfl⟩ := H
   go_wp2_with (first | ((with_reducible refine gate_callee (f := 189) rfl ?_); refine goesL_ (some 42) rfl rfl Tryz.func189 (by kernel_rfl) rfl #[.string a0] rfl (qra2_) ?_; (with_reducible refine (quote_escape.calls a0 t101 t102 t103 _ (hG.below (qra1_)) A15.out).mono ?_); rintro e w18 ⟨rfl, hb⟩; refine ⟨_, rfl, ?_⟩; have n0_ := Aside0.mk (below_step (qra0_) hb); clear HB; have HB := n0_; clear n0_; (try clear hb); (try clear hk)) | ((with_reducible refine gate_dst (N := 51) rfl ?_); (try (refine gate_guard (by rfl) ?_; dsimp only)); refine Kd.R_lit (Kd.int .i64) _ 3 ?hg (N := 51) ?hd (xs := ([t101] : List Int)) (inner := [.int .i64 t101]) (ok := fun _ => True) (okp := fun _ => True) ?hr ?hp (fun _ hk => hk) trivial (Below.refl _ _) (Nat.le_refl _) (by simp) ?_; (case hd => rfl); (case hg => rfl); (case hr => first | (go_simp; done) | (go_simp; rfl)); (case hp => exact (Reps.one (show Kd.M (Kd.int .i64) _ _ _ t101 [.int .i64 t101] from rfl) (Reps.none _ _))); intro v105 w19 ho20 hb hg_ hnew_; clear hg_ hnew_; (first | rw [← Ny104.out] at ho20 | (simp only [Int.reduceToNat] at ho20; rw [← Ny104.out] at ho20)); have n0_ := Aside0.mk (Kd.R_lower ho20 (below_size (qra0_))); have n1_ := Aside0.mk (below_step (qra0_) hb); clear HB; have HO106 := n0_; have HB := n1_; clear n0_ n1_; clear hb ho20; obtain ⟨Ao21, co21, eo21⟩ := Kd.R_slice HO106.out; subst eo21) | ((with_reducible refine gate_callee (f := 190) rfl ?_); refine goesL_ (some 52) rfl rfl Tryz.func190 (by kernel_rfl) rfl #[.slice Ao21 y104.length co21] rfl (qra2_) ?_; (with_reducible refine (utf_Encode.calls _ _ y104 t107 t108 _ ?side1 ?side2 (hG.below (qra1_)) A17.out).mono ?_); (case side1 => repeat (first | exact (Kd.R_reads' HO106.out).2.2 | (with_reducible refine Kd.C_alloc ?_ _) | (with_reducible refine Kd.C_drewN ?_ _) | (with_reducible refine Kd.C_drew ?_))); (case side2 => exact (Kd.R_reads' HO106.out).2.1); rintro e w22 ⟨rfl, hb⟩; refine ⟨_, rfl, ?_⟩; have n0_ := Aside0.mk (Kd.R_below (by (with_reducible repeat (first | apply Kd.R_alloc | apply Kd.R_drewN | apply Kd.R_drew)); exact HO106.out) hb); have n1_ := Aside0.mk (below_step (qra0_) hb); clear HO106; clear HB; have HO106 := n0_; have HB := n1_; clear n0_ n1_; (try clear hb); (try clear hk)))
   go_ret3
   exact ⟨qra4_, qra0_⟩
end Go.Proofs.YtiooacmplmcphaaGreatDoor.PX
namespace Go.Proofs.YtiooacmplmcphaaGreatDoor.Utf
open RowKit YtiooacmplmcphaaGreatDoor.PX YtiooacmplmcphaaGreatDoor.Plug YtiooacmplmcphaaGreatDoorW.PrintWords YtiooacmplmcphaaGreatDoorW.PrintLast
theorem prog_may (n : Int) : quote_may.f n = some (may n) := by
 unfold quote_may.f
 rw [prog_printable, Option.bind_some]
 unfold may
 cases prt n
 · rfl
 ·
  rw [if_pos rfl]
  by_cases a : n = 9
  · subst a; rfl
  rw [if_neg a]
  by_cases b : n = 10
  · subst b; rfl
  rw [if_neg b, bne_iff_ne.2 a, bne_iff_ne.2 b]; rfl
theorem prog_escape (s : ByteArray) (hs : s.size ≤ 140737488351232) : quote_escape.f s = some ((escB s.data.toList).1, ((escB s.data.toList).2.1 : Int), (escB s.data.toList).2.2) := by
  unfold quote_escape.f; rw [if_pos hs]
theorem prog_one (K : Nat) (s : ByteArray) (q : Nat) (hs : s.size ≤ 140737488351232) (h0 : 0 < s.size) :
  quote_one.f (K + 4) s (q : Int) = some (⟨(oneB s.data.toList q).1.toArray⟩, ((oneB s.data.toList q).2.1 : Int), (oneB s.data.toList q).2.2) := by
 have hL := size_list s
 have hb0 := bt_at_ s 0
 have hb1 := bt_at_ s 1
 rw [show ((0 : Nat) : Int) = 0 from rfl] at hb0
 rw [show ((1 : Nat) : Int) = 1 from rfl] at hb1
 have hne : s.data.toList ≠ [] := fun e => by rw [e, List.length_nil] at hL; omega
 have hj : ∀ b, quote_one.j0 (K + 4) s b = if b = true then ((quote_escape.f s).bind fun bt101 => (if bt101.2.2 = 0 then ((utf_Encode.f (([bt101.1] : List Int))).bind fun bt107 => (some (bt107.1, bt101.2.1, 0))) else (some ((⟨#[]⟩ : ByteArray), 0, bt101.2.2)))) else ((utf_First.f s).bind fun bt109 => ((quote_may.f bt109.1).bind fun t111 => (if t111 = true then (if 0 ≤ bt109.2 then (if bt109.2 ≤ (s.size : Int) then (some (s.extract 0 (bt109.2 : Int).toNat, bt109.2, 0)) else (none)) else (none)) else (some ((⟨#[]⟩ : ByteArray), 0, 8))))) := fun b => by
  rw [show K + 4 = K + 3 + 1 from rfl, quote_one.j0]
 unfold quote_one.f oneB
 rw [if_pos (by omega), hb0, hb1]
 by_cases a : at_ s.data.toList 0 = q
 ·
  rw [if_pos a, if_pos (by omega)]
  by_cases b : q = 39
  rotate_left
  · rw [if_neg (by omega), if_neg (fun e => b e.1)]; rfl
  rw [if_pos (by omega)]
  by_cases c : 1 < s.size
  rotate_left
  · rw [if_neg (by omega), if_neg (show ¬ (q = 39 ∧ 1 < s.data.toList.length ∧ at_ s.data.toList 1 = 39) from fun e => c (by rw [hL]; exact e.2.1))]; rfl
  rw [if_pos (by omega), if_pos (by omega)]
  by_cases d : at_ s.data.toList 1 = 39
  · rw [if_pos (by omega), if_pos ⟨b, by omega, d⟩]; rfl
  rw [if_neg (by omega), if_neg (fun e => d e.2.2)]; rfl
 rw [if_neg a, if_neg (by omega)]
 have last : quote_one.j0 (K + 4) s false = some (⟨(if may (dec s.data.toList).1 = true then (s.data.toList.take (dec s.data.toList).2, (dec s.data.toList).2, (0 : Int)) else ([], 0, 8)).1.toArray⟩, ((if may (dec s.data.toList).1 = true then (s.data.toList.take (dec s.data.toList).2, (dec s.data.toList).2, (0 : Int)) else ([], 0, 8)).2.1 : Int), (if may (dec s.data.toList).1 = true then (s.data.toList.take (dec s.data.toList).2, (dec s.data.toList).2, (0 : Int)) else ([], 0, 8)).2.2) := by
  have hw := dec_len s.data.toList hne
  rw [hj, if_neg (by decide), prog_first, Option.bind_some]
  dsimp only
  rw [prog_may, Option.bind_some]
  cases hm : may (dec s.data.toList).1
  · rw [if_neg (by decide), if_neg (by decide)]; rfl
  ·
   rw [if_pos rfl, if_pos rfl, if_pos (by omega), if_pos (by omega)]
   have : s.extract 0 (((dec s.data.toList).2 : Int)).toNat = ⟨(s.data.toList.take (dec s.data.toList).2).toArray⟩ := by
    have h5 := extract_list s 0 (dec s.data.toList).2
    rw [List.drop_zero, Nat.sub_zero] at h5
    rw [Int.toNat_natCast, ← h5]
   rw [this]
 by_cases b : q = 34
 rotate_left
 ·
  rw [if_neg (by omega), if_neg (fun e => b e.1)]
  exact last
 rw [if_pos (by omega)]
 by_cases c : at_ s.data.toList 0 = 92
 rotate_left
 ·
  rw [if_neg (fun e => c e.2), show (((at_ s.data.toList 0 : Nat) : Int) == 92) = false by rw [beq_eq_false_iff_ne]; omega]
  exact last
 rw [if_pos ⟨b, c⟩, c, hj, show ((((92 : Nat) : Int)) == 92) = true from rfl, if_pos rfl, prog_escape s hs, Option.bind_some]
 dsimp only
 by_cases d : (escB s.data.toList).2.2 = 0
 rotate_left
 · rw [if_neg d, if_pos d]; rfl
 have hsg := (escB_ok _ d).1
 rw [if_pos d, if_neg (by simpa using d), enc_one, if_pos hsg]; rfl
end Go.Proofs.YtiooacmplmcphaaGreatDoor.Utf
namespace Go.Proofs.YtiooacmplmcphaaGreatDoor.Plug
open RowKit YtiooacmplmcphaaGreatDoor YtiooacmplmcphaaGreatDoor.PX YtiooacmplmcphaaGreatDoor.Utf YtiooacmplmcphaaGreatDoorW.PrintWords YtiooacmplmcphaaGreatDoorW.PrintLast
theorem rowF_move {w w1 : World} {B : Nat} {e : TypeId} {v : Value} {n : Nat} {xs : List Value} (h : w.ownsRowF B e 1 v n xs) (hm : ∀ k, v.ownBlock = some k → w1.heap[k]? = w.heap[k]?) : w1.ownsRowF B e 1 v n xs := by
 obtain ⟨h1, h2⟩ := h
 refine ⟨h1, ?_⟩
 rcases h2 with h2 | ⟨g, cap, cur, fz, rfl, hg, hh, r⟩
 · exact .inl h2
 · exact .inr ⟨g, cap, cur, fz, rfl, hg, (hm g (by simp [Value.ownBlock])).trans hh, r⟩
theorem bld_below {T e : TypeId} {B b : Nat} {bs : List Value} {w w1 : World} (h : Lib.IsBuilderF T e B b bs w) (hb : Below w.heap.size w w1) : Lib.IsBuilderF T e B b bs w1 := by
 have key : ∀ p, Lib.BuilderAtF T e B b p bs w → Lib.BuilderAtF T e B b p bs w1 := by
  rintro p ⟨h1, v, h2, h3, h4⟩
  refine ⟨h1, v, (hb.block b (Bld.at_lt h2)).trans h2, rowF_move h3 (fun k hk => hb.block k ?_), h4⟩
  rcases h3.2 with ⟨rfl, _⟩ | ⟨g, cap, cur, fz, rfl, hg, hh, _⟩
  · simp [Value.ownBlock] at hk
  ·
   have : g = k := by simpa [Value.ownBlock] using hk
   subst this; exact Bld.at_lt hh
 exact h.elim (fun x => .inl (key _ x)) (fun x => .inr (key _ x))
theorem one_len (l : List UInt8) (q : Nat) : (oneB l q).1.length ≤ 4 := by
 unfold oneB
 split
 · split <;> simp
 split
 ·
  split
  · simp
  · exact (enc_len _).2
 split
 ·
  by_cases h : l = []
  · subst h; simp
  have := dec_wide l h; simp; omega
 · simp
theorem two_put {w2 : World} {B t : Nat} {x y : Value} (h : w2.heap[B]? = some (.cells #[x, y] t (0, 0))) (a b : Value) :
  ((w2.setCell ⟨B, 0, none⟩ a).setCell ⟨B, 1, none⟩ b).cell? ⟨B, 0, none⟩ = some a ∧ ((w2.setCell ⟨B, 0, none⟩ a).setCell ⟨B, 1, none⟩ b).cell? ⟨B, 1, none⟩ = some b := by
 have h1 := blk_set h 0 a
 have h3 := blk_set h1 1 b
 exact ⟨by rw [blk_cell h3]; rfl, by rw [blk_cell h3]; rfl⟩
def quote_Read.f (a0 : ByteArray) : Option (ByteArray × Int × Int × Int) :=
  if a0.size ≤ 1099511627775 then some (⟨(readB a0.data.toList).1.toArray⟩, ((readB a0.data.toList).2.1 : Int), (readB a0.data.toList).2.2.1, ((readB a0.data.toList).2.2.2 : Int)) else none
set_option maxHeartbeats 1600000 in
set_option maxRecDepth 100000 in
theorem read_go (s : ByteArray) (q : Nat) (hq : q = 39 ∨ q = 34) (w : World) (hG : Glob.G w) (hs : s.size ≤ 1099511627775) (h0 : 0 < s.size) (hx : ∀ h : 0 < s.size, ((s[0]'h).toNat : Int) = (q : Int)) :
  Calls Tryz.prog 127 #[.string s] w fun e w' => e = .returned (.tuple #[.string ⟨(readF s.data.toList.length (s.data.toList.drop 1) q 1 []).1.toArray⟩, .int .i64 ((readF s.data.toList.length (s.data.toList.drop 1) q 1 []).2.1 : Int), .agg #[.int .i64 (readF s.data.toList.length (s.data.toList.drop 1) q 1 []).2.2.1, .int .i64 ((readF s.data.toList.length (s.data.toList.drop 1) q 1 []).2.2.2 : Int)]]) ∧ Below w.heap.size w w' := by
 have hL := Lib.hid (size_list s)
 have he : s.toList.isEmpty = false := by
  rw [Lib.toList_data]
  have := size_list s
  cases h : s.data.toList with
  | nil => rw [h, List.length_nil] at this; omega
  | cons a b => rfl
 obtain ⟨RR, hRR⟩ : ∃ RR, RR = readF s.data.toList.length (s.data.toList.drop 1) q 1 [] := ⟨_, rfl⟩
 rw [← hRR]
 obtain ⟨Q, hQ⟩ : ∃ Q, Q = q := ⟨_, rfl⟩
 rw [← hQ] at hRR
 have HR := Lib.hid hRR
 clear hRR
 rcases hq with rfl | rfl
 all_goals
  go_enter Tryz.func127, Tryz.ntmps127
  go_wp2
  go_loopw [6] (fun a wr => ∃ (i k : Nat) (acc : List UInt8), 1 ≤ i ∧ i ≤ s.size ∧ s.size ≤ i + k ∧ acc.length ≤ 4 * i ∧ Hid (readF k (s.data.toList.drop i) Q i acc = RR) ∧ a = .int .i64 i ∧ Lib.IsBuilderF 106 5 (w.heap.size + 1) (w.heap.size + 1) (Lib.byteCells acc) wr ∧ Below (w.heap.size + 1) (w.alloc (.cells #[.int .i64 0, .int .i64 0] 95)) wr) (fun a _ => s.size - (intOf a).toNat)
  case atStart =>
   have hfr := Lib.fresh_isBuilder 106 5 (w.alloc (.cells #[.int .i64 0, .int .i64 0] 95))
   have hsz : (w.alloc (.cells #[.int .i64 0, .int .i64 0] 95)).heap.size = w.heap.size + 1 := by simp
   rw [hsz] at hfr
   exact ⟨1, s.size, [], Nat.le_refl _, by omega, by omega, by simp, by rw [hL.out]; exact Lib.hid HR.out.symm, rfl, Lib.IsBuilderF.of hfr, (Below.refl _ _).alloc (by simp) _⟩
  case round =>
   obtain ⟨i, k, acc, hi0, hi, hk, hal, hst, rfl, hI, hb⟩ := hrel
   have hbw := ((Below.refl w.heap.size w).alloc (Nat.le_refl _) (.cells #[.int .i64 0, .int .i64 0] 95)).trans (hb.mono (by omega))
   have hGr := hG.below hbw
   have hf0 : wr.heap[w.heap.size]? = some (.cells #[.int .i64 0, .int .i64 0] 95 (0, 0)) := (hb.block w.heap.size (by omega)).trans (heap_alloc_new w _)
   by_cases hlt : i < s.size
   rotate_left
   ·
    have hc : decide ((i : Int) < (s.size : Int)) = false := by simp; omega
    have hc0 : wr.cell? ⟨w.heap.size, 0, none⟩ = some (.int .i64 0) := by rw [blk_cell hf0]; rfl
    have hc1 : wr.cell? ⟨w.heap.size, 1, none⟩ = some (.int .i64 0) := by rw [blk_cell hf0]; rfl
    have hz0 := blk_frozen hf0 0
    have hz1 := blk_frozen hf0 1
    have hst2 := hst.out
    rw [List.drop_of_length_le (by rw [← hL.out]; omega), readF_nil, show i = s.size by omega] at hst2
    have HS := Lib.hid hst2
    clear hst hst2
    go_wp2
    have hset := two_put hf0 (.int .i64 4) (.int .i64 s.size)
    refine bodyPost_ret (v := .tuple #[.string ⟨#[]⟩, .int .i64 0, .agg #[.int .i64 4, .int .i64 s.size]]) (by simp [results, Tryz.results127, go_sem, hset.1, hset.2]) rfl ⟨by rw [← HS.out]; rfl, ?_⟩
    exact (hbw.setCell (p := ⟨w.heap.size, 0, none⟩) (Nat.le_refl _) _).setCell (p := ⟨w.heap.size, 1, none⟩) (Nat.le_refl _) _
   have hc : decide ((i : Int) < (s.size : Int)) = true := by simp; omega
   have hne : s.data.toList.drop i ≠ [] := fun e => by
    have h2 := congrArg List.length e; rw [List.length_drop, ← hL.out, List.length_nil] at h2; omega
   have hlen : (s.data.toList.drop i).length = s.size - i := by rw [List.length_drop, ← hL.out]
   have hone := prog_one 0 (s.extract i s.size) Q (by rw [size_list, drop_list, hlen]; omega) (by rw [size_list, drop_list, hlen]; omega)
   rw [drop_list, hQ] at hone
   have hstep := hst.out
   obtain ⟨k, rfl⟩ : ∃ m, k = m + 1 := ⟨k - 1, by omega⟩
   rw [readF, if_neg hne, hlen, hQ] at hstep
   have h4 := one_len (s.data.toList.drop i) Q
   have hok := oneB_ok (s.data.toList.drop i) Q hne
   rw [hlen, hQ] at hok
   rw [hQ] at h4
   have hH : Hid (Lib.IsBuilderF 106 5 (w.heap.size + 1) (w.heap.size + 1) (Lib.byteCells acc) wr.drew) := by
    rcases hI with h | h
    · exact .inl h.drew
    · exact .inr h.drew
   generalize oneB (s.data.toList.drop i) _ = o at *
   obtain ⟨t, n, e⟩ := o
   simp only at hone hstep h4 hok
   have HO := Lib.hid hone
   clear hone hst hlen hne hI
   have fin : ∀ (w2 : World), Below wr.drew.heap.size wr.drew w2 → w2.heap[w.heap.size]? = some (.cells #[.int .i64 0, .int .i64 0] 95 (0, 0)) ∧ Below w.heap.size w w2 ∧ Below (w.heap.size + 1) (w.alloc (.cells #[.int .i64 0, .int .i64 0] 95)) w2 ∧ Lib.IsBuilderF 106 5 (w.heap.size + 1) (w.heap.size + 1) (Lib.byteCells acc) w2 := by
    intro w2 h2
    have hz := Bld.at_lt hf0
    have hzb := hb.size
    simp at hzb
    exact ⟨(h2.block w.heap.size hz).trans hf0, hbw.drew.trans (h2.mono hbw.size), hb.drew.trans (h2.mono (by simp at hzb ⊢; omega)), bld_below hH.out h2⟩
   have HF := Lib.hid fin
   have HG : Hid (Glob.G wr.drew) := Lib.hid (hGr.below (Below.drew (Below.refl _ _)))
   clear fin hH hf0
   by_cases c4 : e = 4
   ·
    subst c4
    rw [if_pos rfl] at hstep
    have HS : Hid (([], 0, 4, s.size) = RR) := Lib.hid (by rw [show i + (s.size - i) = s.size by omega] at hstep; exact hstep)
    clear hstep hok
    go_wp2
    go_region_with (go_at_call 159; refine (quote_one.calls _ _ _ _ _ _ _ HG.out HO.out).mono ?_; rintro e w2 ⟨rfl, hb2⟩)
    all_goals
     obtain ⟨hf2, hbel, hbelB, hI2⟩ := HF.out _ hb2
     have hc0 : w2.cell? ⟨w.heap.size, 0, none⟩ = some (.int .i64 0) := by rw [blk_cell hf2]; rfl
     have hc1 : w2.cell? ⟨w.heap.size, 1, none⟩ = some (.int .i64 0) := by rw [blk_cell hf2]; rfl
     have hz0 := blk_frozen hf2 0
     have hz1 := blk_frozen hf2 1
     go_wp2
     have hset := two_put hf2 (.int .i64 4) (.int .i64 s.size)
     refine bodyPost_ret (v := .tuple #[.string ⟨#[]⟩, .int .i64 0, .agg #[.int .i64 4, .int .i64 s.size]]) (by simp [results, Tryz.results127, go_sem, hset.1, hset.2]) rfl ⟨by rw [← HS.out]; rfl, ?_⟩
     exact (hbel.setCell (p := ⟨w.heap.size, 0, none⟩) (Nat.le_refl _) _).setCell (p := ⟨w.heap.size, 1, none⟩) (Nat.le_refl _) _
   have d4 : (e == 4) = false := beq_eq_false_iff_ne.2 c4
   rw [if_neg c4] at hstep
   by_cases c0 : e = 0
   rotate_left
   ·
    rw [if_pos c0] at hstep
    have d0 : (e == 0) = false := beq_eq_false_iff_ne.2 c0
    have d0' : (e != 0) = true := bne_iff_ne.2 c0
    have HS : Hid (([], 0, e, i) = RR) := Lib.hid hstep
    clear hstep hok
    go_wp2
    go_region_with (go_at_call 159; refine (quote_one.calls _ _ _ _ _ _ _ HG.out HO.out).mono ?_; rintro e w2 ⟨rfl, hb2⟩)
    all_goals
     obtain ⟨hf2, hbel, hbelB, hI2⟩ := HF.out _ hb2
     have hc0 : w2.cell? ⟨w.heap.size, 0, none⟩ = some (.int .i64 0) := by rw [blk_cell hf2]; rfl
     have hc1 : w2.cell? ⟨w.heap.size, 1, none⟩ = some (.int .i64 0) := by rw [blk_cell hf2]; rfl
     have hz0 := blk_frozen hf2 0
     have hz1 := blk_frozen hf2 1
     go_wp2
     have hset := two_put hf2 (.int .i64 e) (.int .i64 i)
     refine bodyPost_ret (v := .tuple #[.string ⟨#[]⟩, .int .i64 0, .agg #[.int .i64 e, .int .i64 i]]) (by simp [results, Tryz.results127, go_sem, hset.1, hset.2]) rfl ⟨by rw [← HS.out]; rfl, ?_⟩
     exact (hbel.setCell (p := ⟨w.heap.size, 0, none⟩) (Nat.le_refl _) _).setCell (p := ⟨w.heap.size, 1, none⟩) (Nat.le_refl _) _
   subst c0
   rw [if_neg (show ¬ ((0 : Int) ≠ 0) by decide)] at hstep
   by_cases cn : n = 0
   rotate_left
   ·
    rw [if_neg cn] at hstep
    have hle := (hok rfl cn).1
    have HS := Lib.hid hstep
    have dn : (((n : Nat) : Int) == 0) = false := by rw [beq_eq_false_iff_ne]; omega
    clear hstep hok
    go_wp2
    go_region_with (go_at_call 159; refine (quote_one.calls _ _ _ _ _ _ _ HG.out HO.out).mono ?_; rintro e w2 ⟨rfl, hb2⟩)
    all_goals
     obtain ⟨hf2, hbel, hbelB, hI2⟩ := HF.out _ hb2
     have hc0 : w2.cell? ⟨w.heap.size, 0, none⟩ = some (.int .i64 0) := by rw [blk_cell hf2]; rfl
     have hc1 : w2.cell? ⟨w.heap.size, 1, none⟩ = some (.int .i64 0) := by rw [blk_cell hf2]; rfl
     have hz0 := blk_frozen hf2 0
     have hz1 := blk_frozen hf2 1
     go_wp2_with (go_at_call 52; refine (Bld.text 106 Bld.lies_plain _ _ _ ⟨t.toArray⟩ _ hI2 (by rw [Lib.byteCells_length]; show acc.length + t.length ≤ _; omega) (by have := hbelB.size; simp at this; omega)).mono ?_; rintro e w3 ⟨rfl, h3, b3, k3⟩)
     go_roundw
     case rel => exact ⟨i + n, k, acc ++ t, by omega, by omega, by omega, by rw [List.length_append]; omega, Lib.hid (by rw [List.drop_drop, hQ] at *; exact HS.out), by go_num, by rw [Lib.byteCells_append]; exact Or.inr h3, hbelB.trans b3⟩
     case measure => simp [intOf]; omega
   subst cn
   rw [if_pos rfl] at hstep
   have HS : Hid ((acc, i + 1, 0, 0) = RR) := Lib.hid hstep
   clear hstep hok
   go_wp2
   go_region_with (go_at_call 159; refine (quote_one.calls _ _ _ _ _ _ _ HG.out HO.out).mono ?_; rintro e w2 ⟨rfl, hb2⟩)
   all_goals
    obtain ⟨hf2, hbel, hbelB, hI2⟩ := HF.out _ hb2
    have hc0 : w2.cell? ⟨w.heap.size, 0, none⟩ = some (.int .i64 0) := by rw [blk_cell hf2]; rfl
    have hc1 : w2.cell? ⟨w.heap.size, 1, none⟩ = some (.int .i64 0) := by rw [blk_cell hf2]; rfl
    have hz0 := blk_frozen hf2 0
    have hz1 := blk_frozen hf2 1
    go_wp2_with (go_at_call 56; refine (Bld.got _ _ _ acc _ hI2 (by have := hbelB.size; simp at this; omega)).mono ?_; rintro e w3 ⟨rfl, hb3⟩; have hf3 := (hb3.block w.heap.size (by omega)).trans hf2; have hd0 : w3.cell? ⟨w.heap.size, 0, none⟩ = some (.int .i64 0) := by { rw [blk_cell hf3]; rfl }; have hd1 : w3.cell? ⟨w.heap.size, 1, none⟩ = some (.int .i64 0) := by { rw [blk_cell hf3]; rfl }; have hy0 := blk_frozen hf3 0; have hy1 := blk_frozen hf3 1)
    have hset := two_put hf3 (.int .i64 0) (.int .i64 0)
    refine bodyPost_ret (v := .tuple #[.string ⟨acc.toArray⟩, .int .i64 ((i : Int) + 1), .agg #[.int .i64 0, .int .i64 0]]) (by simp [results, Tryz.results127, go_sem, hset.1, hset.2]) rfl ⟨by rw [← HS.out]; rfl, ?_⟩
    exact ((hbel.trans (hb3.mono (by omega))).setCell (p := ⟨w.heap.size, 0, none⟩) (Nat.le_refl _) _).setCell (p := ⟨w.heap.size, 1, none⟩) (Nat.le_refl _) _
set_option maxHeartbeats 1600000 in
set_option maxRecDepth 100000 in
theorem quote_Read.calls (a0 : ByteArray) (r1 : ByteArray) (r2 r3 r4 : Int) (w : World) (hG : Glob.G w) (h : quote_Read.f a0 = some (r1, r2, r3, r4)) :
  Calls Tryz.prog 127 #[.string a0] w fun e w' => e = .returned (.tuple #[.string r1, .int .i64 r2, .agg #[.int .i64 r3, .int .i64 r4]]) ∧ Below w.heap.size w w' := by
 unfold quote_Read.f at h
 by_cases hs : a0.size ≤ 1099511627775
 rotate_left
 · rw [if_neg hs] at h; cases h
 rw [if_pos hs] at h
 simp only [Option.some.injEq, Prod.mk.injEq] at h
 obtain ⟨rfl, rfl, rfl, rfl⟩ := h
 have hL := size_list a0
 have hx : ∀ h : 0 < a0.size, ((a0[0]'h).toNat : Int) = (at_ a0.data.toList 0 : Int) := fun h => by rw [← bt_at_]; exact bt_at a0 0 h
 by_cases hc : a0.data.toList = [] ∨ (at_ a0.data.toList 0 ≠ 39 ∧ at_ a0.data.toList 0 ≠ 34)
 rotate_left
 ·
  have h0 : a0.data.toList ≠ [] := fun e => hc (.inl e)
  have h1 : 0 < a0.size := by rw [hL]; exact List.length_pos_iff.2 h0
  have hq : at_ a0.data.toList 0 = 39 ∨ at_ a0.data.toList 0 = 34 := by
   by_cases c : at_ a0.data.toList 0 = 39
   · exact .inl c
   by_cases d : at_ a0.data.toList 0 = 34
   · exact .inr d
   exact absurd (.inr ⟨c, d⟩) hc
  rw [show readB a0.data.toList = readF a0.data.toList.length (a0.data.toList.drop 1) (at_ a0.data.toList 0) 1 [] by unfold readB; rw [if_neg hc]]
  exact read_go a0 _ hq w hG hs h1 hx
 rw [show readB a0.data.toList = ([], 0, 3, 0) by unfold readB; rw [if_pos hc]]
 by_cases h0 : a0.data.toList = []
 ·
  have he : a0.toList.isEmpty = true := by rw [Lib.toList_data, h0]; rfl
  clear hc hx hL hs hG h0
  go_enter Tryz.func127, Tryz.ntmps127
  go_wp2
  refine bodyPost_ret (v := .tuple #[.string ⟨#[]⟩, .int .i64 0, .agg #[.int .i64 3, .int .i64 0]]) (by simp [results, Tryz.results127, go_sem]) rfl ⟨rfl, ?_⟩
  exact (Below.refl _ w).alloc (Nat.le_refl _) _
 have h1 : 0 < a0.size := by rw [hL]; exact List.length_pos_iff.2 h0
 have he : a0.toList.isEmpty = false := by
  rw [Lib.toList_data]; simpa using h0
 have hq := hc.resolve_left h0
 generalize at_ a0.data.toList 0 = x at *
 have d1 : ((x : Int) == 39) = false := by rw [beq_eq_false_iff_ne]; omega
 have d2 : ((x : Int) == 34) = false := by rw [beq_eq_false_iff_ne]; omega
 have d3 : ((x : Int) != 39) = true := by rw [bne_iff_ne]; omega
 have d4 : ((x : Int) != 34) = true := by rw [bne_iff_ne]; omega
 clear hc hL hs hG h0 hq
 go_enter Tryz.func127, Tryz.ntmps127
 go_wp2
 refine bodyPost_ret (v := .tuple #[.string ⟨#[]⟩, .int .i64 0, .agg #[.int .i64 3, .int .i64 0]]) (by simp [results, Tryz.results127, go_sem]) rfl ⟨rfl, ?_⟩
 exact (Below.refl _ w).alloc (Nat.le_refl _) _
end Go.Proofs.YtiooacmplmcphaaGreatDoor.Plug
namespace Go.Proofs.YtiooacmplmcphaaGreatDoor.Plug
open RowKit YtiooacmplmcphaaGreatDoor YtiooacmplmcphaaGreatDoor.PX YtiooacmplmcphaaGreatDoor.Utf YtiooacmplmcphaaGreatDoorW.PrintWords YtiooacmplmcphaaGreatDoorW.PrintLast YtiooacmplmcphaaGreatDoorW.PrintMore
abbrev KB (x : ByteArray) : Obj := .cells #[.string x, .int .i64 0, .bool false] 98 (0, 0)
structure RdK (w0 w : World) (g B K : Nat) (kv : ByteArray) (a : Int) (b : ByteArray) (c d : Int) (W : World) : Prop where
 at_ : RdAt w0 w g B (KB ⟨#[]⟩) a b c d W
 kb : W.heap[K]? = some (KB kv)
 kg : K ≠ g
 kB : K ≠ B
 wK : w.heap.size ≤ K
 w0K : w0.heap.size ≤ K
section
variable {w0 w : World} {g B K : Nat} {kv : ByteArray} {a : Int} {b : ByteArray} {c d : Int} {W : World}
theorem RdK.below (h : RdK w0 w g B K kv a b c d W) {W' : World} (hb : Below W.heap.size W W') : RdK w0 w g B K kv a b c d W' :=
  ⟨h.at_.below hb, (hb.block K (blk_lt h.kb)).trans h.kb, h.kg, h.kB, h.wK, h.w0K⟩
theorem RdK.drew (h : RdK w0 w g B K kv a b c d W) : RdK w0 w g B K kv a b c d W.drew := h.below (Below.drew (Below.refl _ _))
theorem RdK.set1 (h : RdK w0 w g B K kv a b c d W) (x : ByteArray) : RdK w0 w g B K kv a x c d (W.setCell ⟨g, 1, none⟩ (.string x)) :=
  ⟨h.at_.set1 x, by rw [Below.heap_setCell _ _ _ _ h.kg]; exact h.kb, h.kg, h.kB, h.wK, h.w0K⟩
theorem RdK.setK (h : RdK w0 w g B K kv a b c d W) (x : ByteArray) : RdK w0 w g B K x a b c d (W.setCell ⟨K, 0, none⟩ (.string x)) :=
  ⟨⟨h.at_.is.far (p := ⟨K, 0, none⟩) (fun e => h.kg e.symm) _, h.at_.bel.setCell h.w0K _, keep_far h.at_.keep h.wK _, h.at_.ne, by rw [Below.heap_setCell _ _ _ _ (fun e => h.kB e.symm)]; exact h.at_.res⟩, by simpa using blk_set h.kb 0 (.string x), h.kg, h.kB, h.wK, h.w0K⟩
theorem RdK.fail (h : RdK w0 w g B K kv a b c d W) (hG : Glob.G w0) {m n : Int} {r : Int × ByteArray × Int × Int} (hr : path_reader_fail.f a b c d m n = some r) :
  Calls Tryz.prog 73 #[.pointer (some ⟨g, 0, none⟩), .agg #[.int .i64 m, .int .i64 n]] W fun e w' => e = .returned (.tuple #[]) ∧ RdK w0 w g B K kv r.1 r.2.1 r.2.2.1 r.2.2.2 w' ∧ KeepBut W w' g none :=
 (path_reader_fail.calls g a b c d m n r.1 r.2.1 r.2.2.1 r.2.2.2 w0 W h.at_.is h.at_.bel hG hr).mono fun _ _ ⟨e, i, b, k⟩ => ⟨e, ⟨⟨i, b, h.at_.keep.trans k (.inl rfl), h.at_.ne, k.blk h.at_.res h.at_.ne (by simp)⟩, k.blk h.kb h.kg (by simp), h.kg, h.kB, h.wK, h.w0K⟩, k⟩
theorem RdK.wrong (h : RdK w0 w g B K kv a b c d W) (hG : Glob.G w0) {n : Int} {r : Int × ByteArray × Int × Int} (hr : path_reader_wrong.f a b c d n = some r) :
  Calls Tryz.prog 99 #[.pointer (some ⟨g, 0, none⟩), .int .i64 n] W fun e w' => e = .returned (.tuple #[]) ∧ RdK w0 w g B K kv r.1 r.2.1 r.2.2.1 r.2.2.2 w' ∧ KeepBut W w' g none :=
 (path_reader_wrong.calls g a b c d n r.1 r.2.1 r.2.2.1 r.2.2.2 w0 W h.at_.is h.at_.bel hG hr).mono fun _ _ ⟨e, i, b, k⟩ => ⟨e, ⟨⟨i, b, h.at_.keep.trans k (.inl rfl), h.at_.ne, k.blk h.at_.res h.at_.ne (by simp)⟩, k.blk h.kb h.kg (by simp), h.kg, h.kB, h.wK, h.w0K⟩, k⟩
theorem RdK.k0 (h : RdK w0 w g B K kv a b c d W) : W.cell? ⟨K, 0, none⟩ = some (.string kv) := (blk_cell h.kb 0).trans rfl
theorem RdK.k1 (h : RdK w0 w g B K kv a b c d W) : W.cell? ⟨K, 1, none⟩ = some (.int .i64 0) := (blk_cell h.kb 1).trans rfl
theorem RdK.k2 (h : RdK w0 w g B K kv a b c d W) : W.cell? ⟨K, 2, none⟩ = some (.bool false) := (blk_cell h.kb 2).trans rfl
end
theorem fail_str {a : Int} {b : ByteArray} {c d m n : Int} {q : Int × ByteArray × Int × Int} (h : path_reader_fail.f a b c d m n = some q) : q.1 = a ∧ q.2.1 = b := by
 unfold path_reader_fail.f at h
 split at h <;> exact ⟨congrArg (fun z => z.1) (Option.some.inj h).symm, congrArg (fun z => z.2.1) (Option.some.inj h).symm⟩
def isLet (b : UInt8) : Bool := (decide (97 ≤ b.toNat) && decide (b.toNat ≤ 122)) || (decide (65 ≤ b.toNat) && decide (b.toNat ≤ 90)) || (decide (48 ≤ b.toNat) && decide (b.toNat ≤ 57)) || b.toNat == 45 || b.toNat == 95
def letN (l : List UInt8) : Nat := (l.takeWhile isLet).length
def letters : ByteArray := ⟨#[97, 98, 99, 100, 101, 102, 103, 104, 105, 106, 107, 108, 109, 110, 111, 112, 113, 114, 115, 116, 117, 118, 119, 120, 121, 122, 65, 66, 67, 68, 69, 70, 71, 72, 73, 74, 75, 76, 77, 78, 79, 80, 81, 82, 83, 84, 85, 86, 87, 88, 89, 90, 48, 49, 50, 51, 52, 53, 54, 55, 56, 57, 45, 95]⟩
theorem let_contains (b : UInt8) : letters.data.toList.contains b = isLet b := by
 have : ∀ n : Fin 256, letters.data.toList.contains (UInt8.ofNat n.val) = isLet (UInt8.ofNat n.val) := by decide +kernel
 have h := this ⟨b.toNat, UInt8.toNat_lt b⟩
 simpa using h
theorem letN_le (l : List UInt8) : letN l ≤ l.length := by
  unfold letN; exact (List.takeWhile_prefix (p := isLet)).length_le
theorem trim_let (s : ByteArray) : strings_TrimLeft.f s letters = some (s.extract (letN s.data.toList) s.size) := by
 unfold strings_TrimLeft.f
 rw [if_pos ⟨by decide, by decide⟩]
 have : Lib.trimLeftS s.data.toList letters.data.toList = s.data.toList.drop (letN s.data.toList) := by
  unfold Lib.trimLeftS letN
  rw [← dropWhile_len]
  congr 1
  funext b
  exact let_contains b
 rw [this]
 congr 1
 have h2 : (s.extract (letN s.data.toList) s.size).data.toList = s.data.toList.drop (letN s.data.toList) := drop_list _ _
 cases he : s.extract (letN s.data.toList) s.size with
 | mk d => rw [he] at h2; simp only at h2; rw [← h2]
theorem prefix_one (l : List UInt8) : Lib.hasPrefix l [34] = (at_ l 0 == 34) := by
 cases l with
 | nil => rfl
 | cons a l =>
  show ([34].isPrefixOf (a :: l)) = (a.toNat == 34)
  rw [List.isPrefixOf_cons_cons, List.isPrefixOf_nil_left, Bool.and_true, Bool.eq_iff_iff, beq_iff_eq, beq_iff_eq]
  exact ⟨fun e => by rw [← e]; rfl, fun e => UInt8.toNat_inj.1 (by rw [e]; rfl)⟩
theorem wrong_str' {a : Int} {b : ByteArray} {c d n : Int} {q : Int × ByteArray × Int × Int} (h : path_reader_wrong.f a b c d n = some q) : q.1 = a ∧ q.2.1 = b := by
  unfold path_reader_wrong.f at h; exact fail_str h
theorem readB_most (l : List UInt8) : (readB l).2.1 ≤ l.length := by
 cases h : readB l with
 | mk t r =>
  obtain ⟨n, e, p⟩ := r
  by_cases he : e = 0
  · subst he; exact (readB_means l t n p h).2.2.2
  have := (readB_no l (by rw [h]; exact he)).2
  rw [h] at this; dsimp only at this ⊢; omega
def path_reader_key.f (s0_0 : Int) (s0_1 : ByteArray) (s0_2 : Int) (s0_3 : Int) (a1 : Int) : Option (ByteArray × Int × Bool × Int × ByteArray × Int × Int) :=
  if s0_1.size ≤ 1099511627775 then
    (if at_ s0_1.data.toList 0 = 34 then
      (if (readB s0_1.data.toList).2.2.1 = 0 ∧ (readB s0_1.data.toList).2.2.2 = 0 then some (s0_0, s0_1, s0_2, s0_3) else path_reader_fail.f s0_0 s0_1 s0_2 s0_3 (readB s0_1.data.toList).2.2.1 (wrap64 (wrap64 (s0_0 - (s0_1.size : Int)) + ((readB s0_1.data.toList).2.2.2 : Int)))).bind fun q =>
        some ((⟨(readB s0_1.data.toList).1.toArray⟩ : ByteArray), q.1, s0_1.extract (readB s0_1.data.toList).2.1 s0_1.size, q.2.2.1, q.2.2.2)
    else
      (if letN s0_1.data.toList = 0 then path_reader_wrong.f s0_0 s0_1 s0_2 s0_3 0 else some (s0_0, s0_1, s0_2, s0_3)).bind fun q =>
        some (s0_1.extract 0 (letN s0_1.data.toList), q.1, s0_1.extract (letN s0_1.data.toList) s0_1.size, q.2.2.1, q.2.2.2)).bind fun p =>
    (if 256 < p.1.size then path_reader_fail.f p.2.1 p.2.2.1 p.2.2.2.1 p.2.2.2.2 5 a1 else some (p.2.1, p.2.2.1, p.2.2.2.1, p.2.2.2.2)).bind fun q => some (p.1, 0, false, q.1, q.2.1, q.2.2.1, q.2.2.2)
  else none
attribute [local go_sem high] eqA95
set_option maxHeartbeats 1600000 in
set_option maxRecDepth 100000 in
theorem path_reader_key.calls (g : Nat) (s0_0 : Int) (s0_1 : ByteArray) (s0_2 : Int) (s0_3 : Int) (a1 : Int) (r1 : ByteArray) (r2 : Int) (r3 : Bool) (r4 : Int) (r5 : ByteArray) (r6 : Int) (r7 : Int) (w0 w : World) (hI : IsS138 w0 w g s0_0 s0_1 s0_2 s0_3) (hB : Below w0.heap.size w0 w) (hG : Glob.G w0) (h : path_reader_key.f s0_0 s0_1 s0_2 s0_3 a1 = some (r1, r2, r3, r4, r5, r6, r7)) :
    Calls Tryz.prog 100 #[.pointer (some ⟨g, 0, none⟩), .int .i64 a1] w fun e w' => e = .returned (.agg #[.string r1, .int .i64 r2, .bool r3]) ∧ IsS138 w0 w' g r4 r5 r6 r7 ∧ Below w0.heap.size w0 w' ∧ KeepBut w w' g none := by
  unfold path_reader_key.f at h
  by_cases hs : s0_1.size ≤ 1099511627775
  case neg => rw [if_neg hs] at h; cases h
  rw [if_pos hs] at h
  obtain ⟨p, hp, h⟩ := Option.bind_eq_some_iff.1 h
  obtain ⟨v, hv, h⟩ := Option.bind_eq_some_iff.1 h
  obtain ⟨rfl, rfl, rfl, rfl, rfl, rfl, rfl⟩ := by simpa only [Option.some.injEq, Prod.mk.injEq] using h
  have hL := size_list s0_1
  have hR : RdK w0 w g w.heap.size (w.heap.size + 1) ⟨#[]⟩ s0_0 s0_1 s0_2 s0_3 ((w.alloc (.cells #[.string ⟨#[]⟩, .int .i64 0, .bool false] 98)).alloc (.cells #[.string ⟨#[]⟩, .int .i64 0, .bool false] 98)) := by
    have hlt := hI.lt
    have hsz := hB.size
    have h1 : RdAt w0 w g w.heap.size (KB ⟨#[]⟩) s0_0 s0_1 s0_2 s0_3 (w.alloc (.cells #[.string ⟨#[]⟩, .int .i64 0, .bool false] 98)) :=
      ⟨hI.alloc _, hB.trans (((Below.refl w.heap.size w).alloc (Nat.le_refl _) _).mono hB.size), KeepBut.of_below ((Below.refl w.heap.size w).alloc (Nat.le_refl _) _) g none, fun e => by omega, heap_alloc_new w _⟩
    exact ⟨h1.alloc _, by have := heap_alloc_new (w.alloc (.cells #[.string ⟨#[]⟩, .int .i64 0, .bool false] 98)) (.cells #[.string ⟨#[]⟩, .int .i64 0, .bool false] 98); simpa using this, by omega, by omega, by omega, by omega⟩
  have hRd := Lib.hid hR
  have HW0 := Lib.hid hB.size
  have hG0 := Lib.hid hG
  have hc1 := hR.at_.cell1
  have HL := Lib.hid hL
  clear hI hB hG h hR hL
  by_cases hq : at_ s0_1.data.toList 0 = 34
  · rw [if_pos hq] at hp
    obtain ⟨q, hq2, hp⟩ := Option.bind_eq_some_iff.1 hp
    have HP : Hid (strings_HasPrefix.f s0_1 ⟨#[34]⟩ = some true) := Lib.hid (by unfold strings_HasPrefix.f; rw [show (⟨#[34]⟩ : ByteArray).data.toList = [34] from rfl, prefix_one, hq]; rfl)
    have hRead : quote_Read.f s0_1 = some (⟨(readB s0_1.data.toList).1.toArray⟩, ((readB s0_1.data.toList).2.1 : Int), (readB s0_1.data.toList).2.2.1, ((readB s0_1.data.toList).2.2.2 : Int)) := by
      unfold quote_Read.f; rw [if_pos hs]
    have hbd : (readB s0_1.data.toList).2.1 ≤ s0_1.size := by rw [HL.out]; exact readB_most _
    generalize readB s0_1.data.toList = rb at *
    obtain ⟨t, n, y, z⟩ := rb
    dsimp only at hq2 hp hRead hbd
    generalize (⟨t.toArray⟩ : ByteArray) = T at *
    have HRead := Lib.hid hRead
    have hb2 : (0 : Int) ≤ (n : Int) := Int.natCast_nonneg n
    have hb3 : (n : Int) ≤ (s0_1.size : Int) := by omega
    clear hRead hq
    by_cases c0 : y = 0 ∧ z = 0
    · rw [if_pos c0] at hq2
      obtain rfl := (Option.some.inj hq2).symm
      obtain rfl := (Option.some.inj hp).symm
      have hyz : (y == 0 && ((z : Int) == 0)) = true := by rw [c0.1, c0.2]; rfl
      have HC0 := Lib.hid c0
      clear hq2 hp c0
      dsimp only at hv ⊢
      by_cases c1 : 256 < T.size
      · rw [if_pos c1] at hv
        have hT : decide ((T.size : Int) > 256) = true := decide_eq_true (by omega)
        have HV := Lib.hid hv
        have HC1 := Lib.hid c1
        clear hv c1
        go_enter Tryz.func100, Tryz.ntmps100
        go_wp2_with (first | (go_at_call 125; refine (strings_HasPrefix.calls _ _ _ _ (hG0.out.below hRd.out.at_.bel) HP.out).mono ?_; rintro e w3 ⟨rfl, ⟨n3, rfl⟩⟩; have hR3 := Lib.hid (hRd.out.below (Drawn0.below (Drawn0.step (Drawn0.refl _) n3)))) | (go_at_call 127; refine (quote_Read.calls _ _ _ _ _ _ (hG0.out.below hR3.out.at_.bel) HRead.out).mono ?_; rintro e w4 ⟨rfl, hb4⟩; have hR4 := Lib.hid (hR3.out.below hb4); have HNE := Lib.hid (show w4.heap.size ≠ g from fun e => absurd hR4.out.at_.is.lt (by omega)); have hR5 := Lib.hid (hR4.out.below (((Below.refl w4.heap.size w4).alloc (Nat.le_refl _) (.cells #[.int .i64 y, .int .i64 (z : Int)] 95)))); have hcc1 := hR5.out.at_.cell1; have hcc0 := hR5.out.at_.cell0; have hF := heap_alloc_new w4 (.cells #[.int .i64 y, .int .i64 (z : Int)] 95 (0, 0)); have hf0 := (blk_cell hF 0).trans rfl; have hf1 := (blk_cell hF 1).trans rfl; have HF := Lib.hid hF; clear hF))
        have HR6 := Lib.hid hR5.out
        clear hf0 hf1 hcc0 hcc1 hc1 hyz
        have ha1 := HR6.out.at_.cell1
        have hak := HR6.out.k0
        have hfk := blk_frozen HR6.out.kb 0
        have hR7 := HR6.out.setK T
        have hb1 := hR7.at_.cell1
        have hbf := blk_frozen hR7.at_.is.1 1
        clear hR7
        go_wp2
        go_region
        all_goals
          have hR8 := (((HR6.out.setK T).set1 (s0_1.extract n s0_1.size)).drew)
          generalize World.drew _ = w8 at hR8 ⊢
          replace hR8 := Lib.hid hR8
          have m0 := hR8.out.k0
          go_wp2_with (go_at_call 73; with_reducible refine (hR8.out.fail hG0.out HV.out).mono ?_; rintro e w9 ⟨rfl, hR9, k9⟩; have HR9 := Lib.hid hR9; have s0 := hR9.k0; have s1 := hR9.k1; have s2 := hR9.k2; have p0 := (blk_cell hR9.at_.res 0).trans rfl; have p1 := (blk_cell hR9.at_.res 1).trans rfl; have p2 := (blk_cell hR9.at_.res 2).trans rfl; have q0 := blk_frozen hR9.at_.res 0; have q1 := blk_frozen hR9.at_.res 1; have q2 := blk_frozen hR9.at_.res 2; clear hR9 k9)
          obtain ⟨z0, z1, z2, z3⟩ := HR9.out.at_.ret (Nat.le_refl _) HW0.out (.string T) (.int .i64 0) (.bool false)
          refine bodyPost_ret (results_cell_row rfl _ _ w.heap.size 98 #[.string T, .int .i64 0, .bool false] (0, 0) _ rfl z0 Tryz.underlying98 rfl (by kernel_rfl)) rfl ?_
          exact ⟨rfl, z1, z2, z3⟩
      · rw [if_neg c1] at hv
        have hT : decide ((T.size : Int) > 256) = false := decide_eq_false (by omega)
        obtain rfl := (Option.some.inj hv).symm
        have HC1 := Lib.hid c1
        clear hv c1
        go_enter Tryz.func100, Tryz.ntmps100
        go_wp2_with (first | (go_at_call 125; refine (strings_HasPrefix.calls _ _ _ _ (hG0.out.below hRd.out.at_.bel) HP.out).mono ?_; rintro e w3 ⟨rfl, ⟨n3, rfl⟩⟩; have hR3 := Lib.hid (hRd.out.below (Drawn0.below (Drawn0.step (Drawn0.refl _) n3)))) | (go_at_call 127; refine (quote_Read.calls _ _ _ _ _ _ (hG0.out.below hR3.out.at_.bel) HRead.out).mono ?_; rintro e w4 ⟨rfl, hb4⟩; have hR4 := Lib.hid (hR3.out.below hb4); have HNE := Lib.hid (show w4.heap.size ≠ g from fun e => absurd hR4.out.at_.is.lt (by omega)); have hR5 := Lib.hid (hR4.out.below (((Below.refl w4.heap.size w4).alloc (Nat.le_refl _) (.cells #[.int .i64 y, .int .i64 (z : Int)] 95)))); have hcc1 := hR5.out.at_.cell1; have hcc0 := hR5.out.at_.cell0; have hF := heap_alloc_new w4 (.cells #[.int .i64 y, .int .i64 (z : Int)] 95 (0, 0)); have hf0 := (blk_cell hF 0).trans rfl; have hf1 := (blk_cell hF 1).trans rfl; have HF := Lib.hid hF; clear hF))
        have HR6 := Lib.hid hR5.out
        clear hf0 hf1 hcc0 hcc1 hc1 hyz
        have ha1 := HR6.out.at_.cell1
        have hak := HR6.out.k0
        have hfk := blk_frozen HR6.out.kb 0
        have hR7 := HR6.out.setK T
        have hb1 := hR7.at_.cell1
        have hbf := blk_frozen hR7.at_.is.1 1
        clear hR7
        go_wp2
        go_region
        all_goals
          have hR8 := (((HR6.out.setK T).set1 (s0_1.extract n s0_1.size)).drew)
          generalize World.drew _ = w8 at hR8 ⊢
          replace hR8 := Lib.hid hR8
          have m0 := hR8.out.k0
          have s1 := hR8.out.k1; have s2 := hR8.out.k2; have p0 := (blk_cell hR8.out.at_.res 0).trans rfl; have p1 := (blk_cell hR8.out.at_.res 1).trans rfl; have p2 := (blk_cell hR8.out.at_.res 2).trans rfl; have q0 := blk_frozen hR8.out.at_.res 0; have q1 := blk_frozen hR8.out.at_.res 1; have q2 := blk_frozen hR8.out.at_.res 2
          go_wp2
          obtain ⟨z0, z1, z2, z3⟩ := hR8.out.at_.ret (Nat.le_refl _) HW0.out (.string T) (.int .i64 0) (.bool false)
          refine bodyPost_ret (results_cell_row rfl _ _ w.heap.size 98 #[.string T, .int .i64 0, .bool false] (0, 0) _ rfl z0 Tryz.underlying98 rfl (by kernel_rfl)) rfl ?_
          exact ⟨rfl, z1, z2, z3⟩
    · rw [if_neg c0] at hq2
      obtain rfl := (Option.some.inj hp).symm
      obtain ⟨x1, hx1⟩ : ∃ x1, wrap64 (s0_0 - (s0_1.size : Int)) = x1 := ⟨_, rfl⟩
      obtain ⟨x2, hx2⟩ : ∃ x2, wrap64 (x1 + (z : Int)) = x2 := ⟨_, rfl⟩
      rw [hx1, hx2] at hq2
      have e1 : IntKind.i64.wrap (s0_0 - (s0_1.size : Int)) = x1 := (i64_w _).trans hx1
      have e2 : IntKind.i64.wrap (x1 + (z : Int)) = x2 := (i64_w _).trans hx2
      have hyz : (y == 0 && ((z : Int) == 0)) = false := by
        rw [Bool.eq_false_iff]; intro e; rw [Bool.and_eq_true, beq_iff_eq, beq_iff_eq] at e; exact c0 ⟨e.1, by omega⟩
      have HQ2 := Lib.hid hq2
      have hqs := fail_str hq2
      have HC0 := Lib.hid c0
      clear hx1 hx2 hp c0 hq2
      obtain ⟨qa, qb, qc, qd⟩ := q
      simp only at hqs hv; obtain ⟨rfl, rfl⟩ := hqs
      dsimp only
      by_cases c1 : 256 < T.size
      · rw [if_pos c1] at hv
        have hT : decide ((T.size : Int) > 256) = true := decide_eq_true (by omega)
        have HV := Lib.hid hv
        have HC1 := Lib.hid c1
        clear hv c1
        go_enter Tryz.func100, Tryz.ntmps100
        go_wp2_with (first | (go_at_call 125; refine (strings_HasPrefix.calls _ _ _ _ (hG0.out.below hRd.out.at_.bel) HP.out).mono ?_; rintro e w3 ⟨rfl, ⟨n3, rfl⟩⟩; have hR3 := Lib.hid (hRd.out.below (Drawn0.below (Drawn0.step (Drawn0.refl _) n3)))) | (go_at_call 127; refine (quote_Read.calls _ _ _ _ _ _ (hG0.out.below hR3.out.at_.bel) HRead.out).mono ?_; rintro e w4 ⟨rfl, hb4⟩; have hR4 := Lib.hid (hR3.out.below hb4); have HNE := Lib.hid (show w4.heap.size ≠ g from fun e => absurd hR4.out.at_.is.lt (by omega)); have hR5 := Lib.hid (hR4.out.below (((Below.refl w4.heap.size w4).alloc (Nat.le_refl _) (.cells #[.int .i64 y, .int .i64 (z : Int)] 95)))); have hcc1 := hR5.out.at_.cell1; have hcc0 := hR5.out.at_.cell0; have hF := heap_alloc_new w4 (.cells #[.int .i64 y, .int .i64 (z : Int)] 95 (0, 0)); have hf0 := (blk_cell hF 0).trans rfl; have hf1 := (blk_cell hF 1).trans rfl; have HF := Lib.hid hF; clear hF))
        go_region_held3 (fun W' => W'.cell? ⟨w4.heap.size, 0, none⟩ = some (.int .i64 y) ∧ W'.cell? ⟨w4.heap.size, 1, none⟩ = some (.int .i64 (z : Int)) ∧ W'.cell? ⟨g, 0, none⟩ = some (.int .i64 qa) ∧ W'.cell? ⟨g, 1, none⟩ = some (.string qb))
          (first | exact ⟨hf0, hf1, hcc0, hcc1⟩ | exact ⟨(blk_cell k6 0).trans rfl, (blk_cell k6 1).trans rfl, hR6.at_.cell0, hR6.at_.cell1⟩)
          ((go_at_call 73; with_reducible refine (hR5.out.drew.fail hG0.out HQ2.out).mono ?_; rintro e w6 ⟨rfl, hR6, k6⟩; have k6 := k6.blk HF.out HNE.out (by simp)))
        have HR6 := Lib.hid hR6
        clear e1 e2 hf0 hf1 k6 hcc0 hcc1 hR6 hc1 hyz
        have ha1 := HR6.out.at_.cell1
        have hak := HR6.out.k0
        have hfk := blk_frozen HR6.out.kb 0
        have hR7 := HR6.out.setK T
        have hb1 := hR7.at_.cell1
        have hbf := blk_frozen hR7.at_.is.1 1
        clear hR7
        go_wp2
        go_region
        all_goals
          have hR8 := (((HR6.out.setK T).set1 (qb.extract n qb.size)).drew)
          generalize World.drew _ = w8 at hR8 ⊢
          replace hR8 := Lib.hid hR8
          have m0 := hR8.out.k0
          go_wp2_with (go_at_call 73; with_reducible refine (hR8.out.fail hG0.out HV.out).mono ?_; rintro e w9 ⟨rfl, hR9, k9⟩; have HR9 := Lib.hid hR9; have s0 := hR9.k0; have s1 := hR9.k1; have s2 := hR9.k2; have p0 := (blk_cell hR9.at_.res 0).trans rfl; have p1 := (blk_cell hR9.at_.res 1).trans rfl; have p2 := (blk_cell hR9.at_.res 2).trans rfl; have q0 := blk_frozen hR9.at_.res 0; have q1 := blk_frozen hR9.at_.res 1; have q2 := blk_frozen hR9.at_.res 2; clear hR9 k9)
          obtain ⟨z0, z1, z2, z3⟩ := HR9.out.at_.ret (Nat.le_refl _) HW0.out (.string T) (.int .i64 0) (.bool false)
          refine bodyPost_ret (results_cell_row rfl _ _ w.heap.size 98 #[.string T, .int .i64 0, .bool false] (0, 0) _ rfl z0 Tryz.underlying98 rfl (by kernel_rfl)) rfl ?_
          exact ⟨rfl, z1, z2, z3⟩
      · rw [if_neg c1] at hv
        have hT : decide ((T.size : Int) > 256) = false := decide_eq_false (by omega)
        obtain rfl := (Option.some.inj hv).symm
        have HC1 := Lib.hid c1
        clear hv c1
        go_enter Tryz.func100, Tryz.ntmps100
        go_wp2_with (first | (go_at_call 125; refine (strings_HasPrefix.calls _ _ _ _ (hG0.out.below hRd.out.at_.bel) HP.out).mono ?_; rintro e w3 ⟨rfl, ⟨n3, rfl⟩⟩; have hR3 := Lib.hid (hRd.out.below (Drawn0.below (Drawn0.step (Drawn0.refl _) n3)))) | (go_at_call 127; refine (quote_Read.calls _ _ _ _ _ _ (hG0.out.below hR3.out.at_.bel) HRead.out).mono ?_; rintro e w4 ⟨rfl, hb4⟩; have hR4 := Lib.hid (hR3.out.below hb4); have HNE := Lib.hid (show w4.heap.size ≠ g from fun e => absurd hR4.out.at_.is.lt (by omega)); have hR5 := Lib.hid (hR4.out.below (((Below.refl w4.heap.size w4).alloc (Nat.le_refl _) (.cells #[.int .i64 y, .int .i64 (z : Int)] 95)))); have hcc1 := hR5.out.at_.cell1; have hcc0 := hR5.out.at_.cell0; have hF := heap_alloc_new w4 (.cells #[.int .i64 y, .int .i64 (z : Int)] 95 (0, 0)); have hf0 := (blk_cell hF 0).trans rfl; have hf1 := (blk_cell hF 1).trans rfl; have HF := Lib.hid hF; clear hF))
        go_region_held3 (fun W' => W'.cell? ⟨w4.heap.size, 0, none⟩ = some (.int .i64 y) ∧ W'.cell? ⟨w4.heap.size, 1, none⟩ = some (.int .i64 (z : Int)) ∧ W'.cell? ⟨g, 0, none⟩ = some (.int .i64 qa) ∧ W'.cell? ⟨g, 1, none⟩ = some (.string qb))
          (first | exact ⟨hf0, hf1, hcc0, hcc1⟩ | exact ⟨(blk_cell k6 0).trans rfl, (blk_cell k6 1).trans rfl, hR6.at_.cell0, hR6.at_.cell1⟩)
          ((go_at_call 73; with_reducible refine (hR5.out.drew.fail hG0.out HQ2.out).mono ?_; rintro e w6 ⟨rfl, hR6, k6⟩; have k6 := k6.blk HF.out HNE.out (by simp)))
        have HR6 := Lib.hid hR6
        clear e1 e2 hf0 hf1 k6 hcc0 hcc1 hR6 hc1 hyz
        have ha1 := HR6.out.at_.cell1
        have hak := HR6.out.k0
        have hfk := blk_frozen HR6.out.kb 0
        have hR7 := HR6.out.setK T
        have hb1 := hR7.at_.cell1
        have hbf := blk_frozen hR7.at_.is.1 1
        clear hR7
        go_wp2
        go_region
        all_goals
          have hR8 := (((HR6.out.setK T).set1 (qb.extract n qb.size)).drew)
          generalize World.drew _ = w8 at hR8 ⊢
          replace hR8 := Lib.hid hR8
          have m0 := hR8.out.k0
          have s1 := hR8.out.k1; have s2 := hR8.out.k2; have p0 := (blk_cell hR8.out.at_.res 0).trans rfl; have p1 := (blk_cell hR8.out.at_.res 1).trans rfl; have p2 := (blk_cell hR8.out.at_.res 2).trans rfl; have q0 := blk_frozen hR8.out.at_.res 0; have q1 := blk_frozen hR8.out.at_.res 1; have q2 := blk_frozen hR8.out.at_.res 2
          go_wp2
          obtain ⟨z0, z1, z2, z3⟩ := hR8.out.at_.ret (Nat.le_refl _) HW0.out (.string T) (.int .i64 0) (.bool false)
          refine bodyPost_ret (results_cell_row rfl _ _ w.heap.size 98 #[.string T, .int .i64 0, .bool false] (0, 0) _ rfl z0 Tryz.underlying98 rfl (by kernel_rfl)) rfl ?_
          exact ⟨rfl, z1, z2, z3⟩
  · rw [if_neg hq] at hp
    obtain ⟨q, hq2, hp⟩ := Option.bind_eq_some_iff.1 hp
    have HP : Hid (strings_HasPrefix.f s0_1 ⟨#[34]⟩ = some false) := Lib.hid (by unfold strings_HasPrefix.f; rw [show (⟨#[34]⟩ : ByteArray).data.toList = [34] from rfl, prefix_one, beq_eq_false_iff_ne.2 hq])
    have hn := letN_le s0_1.data.toList
    rw [← HL.out] at hn
    obtain ⟨u, hu, hul⟩ : ∃ u : ByteArray, strings_TrimLeft.f s0_1 letters = some u ∧ u.size + letN s0_1.data.toList = s0_1.size := ⟨_, trim_let s0_1, by
      rw [size_list, drop_list, List.length_drop, ← HL.out]; omega⟩
    generalize letN s0_1.data.toList = n at *
    obtain ⟨T, hT0⟩ : ∃ T : ByteArray, s0_1.extract 0 n = T := ⟨_, rfl⟩
    have hTs : T.size = n := by rw [← hT0, size_list, extract_list, List.length_take, List.drop_zero, ← HL.out]; omega
    rw [hT0] at hp
    obtain rfl := (Option.some.inj hp).symm
    have e1 : IntKind.i64.wrap ((s0_1.size : Int) - (u.size : Int)) = (n : Int) := by rw [show (s0_1.size : Int) - (u.size : Int) = (n : Int) by omega]; exact IntWalk.i64_in _ (by omega)
    have hb2 : (0 : Int) ≤ (n : Int) := Int.natCast_nonneg n
    have hb3 : (n : Int) ≤ (s0_1.size : Int) := by omega
    have HU := Lib.hid hul; have HT := Lib.hid hu; have HTS := Lib.hid hTs; have HQ := Lib.hid hq
    clear hp hq hul hu hTs
    by_cases c0 : n = 0
    · rw [if_pos c0] at hq2
      have HQ2 := Lib.hid hq2
      have hqs := wrong_str' hq2
      have hn0 : ((n : Int) == 0) = true := by rw [c0]; rfl
      have c1 : ¬ 256 < T.size := by have := HTS.out; omega
      have HC0 := Lib.hid c0
      clear hq2 c0
      obtain ⟨qa, qb, qc, qd⟩ := q
      simp only at hqs hv; obtain ⟨rfl, rfl⟩ := hqs
      dsimp only
      rw [if_neg c1] at hv
      have hT : decide ((T.size : Int) > 256) = false := decide_eq_false (by omega)
      obtain rfl := (Option.some.inj hv).symm
      have HC1 := Lib.hid c1
      clear hv c1
      go_enter Tryz.func100, Tryz.ntmps100
      go_wp2_with (go_at_call 125; refine (strings_HasPrefix.calls _ _ _ _ (hG0.out.below hRd.out.at_.bel) HP.out).mono ?_; rintro e w3 ⟨rfl, ⟨n3, rfl⟩⟩; have hR3 := Lib.hid (hRd.out.below (Drawn0.below (Drawn0.step (Drawn0.refl _) n3))))
      have hcc1 := hR3.out.at_.cell1
      go_region_held3 (fun W' => W'.cell? ⟨g, 1, none⟩ = some (.string qb)) (first | exact hcc1 | exact hR4.at_.cell1)
        ((go_at_call 124; refine (strings_TrimLeft.calls _ _ _ _ (hG0.out.below hR3.out.drew.at_.bel) HT.out).mono ?_; rintro e w4 ⟨rfl, hb4⟩; have hR4 := hR3.out.drew.below hb4))
      have HR4 := Lib.hid hR4
      clear hR4
      go_wp2_with (go_at_call 99; with_reducible refine (HR4.out.wrong hG0.out HQ2.out).mono ?_; rintro e w6 ⟨rfl, hR6, k6⟩; have HR6 := Lib.hid hR6; clear hR6 k6)
      have ha1 := HR6.out.at_.cell1
      have hak := HR6.out.k0
      have hfk := blk_frozen HR6.out.kb 0
      have hR7 := HR6.out.setK T
      have hb1 := hR7.at_.cell1
      have hbf := blk_frozen hR7.at_.is.1 1
      clear hR7
      go_region
      all_goals
        have hR8 := (((HR6.out.setK T).set1 (qb.extract n qb.size)).drew)
        generalize World.drew _ = w8 at hR8 ⊢
        replace hR8 := Lib.hid hR8
        have m0 := hR8.out.k0
        have s1 := hR8.out.k1; have s2 := hR8.out.k2; have p0 := (blk_cell hR8.out.at_.res 0).trans rfl; have p1 := (blk_cell hR8.out.at_.res 1).trans rfl; have p2 := (blk_cell hR8.out.at_.res 2).trans rfl; have q0 := blk_frozen hR8.out.at_.res 0; have q1 := blk_frozen hR8.out.at_.res 1; have q2 := blk_frozen hR8.out.at_.res 2
        go_wp2
        obtain ⟨z0, z1, z2, z3⟩ := hR8.out.at_.ret (Nat.le_refl _) HW0.out (.string T) (.int .i64 0) (.bool false)
        refine bodyPost_ret (results_cell_row rfl _ _ w.heap.size 98 #[.string T, .int .i64 0, .bool false] (0, 0) _ rfl z0 Tryz.underlying98 rfl (by kernel_rfl)) rfl ?_
        exact ⟨rfl, z1, z2, z3⟩
    · rw [if_neg c0] at hq2
      obtain rfl := (Option.some.inj hq2).symm
      have hn0 : ((n : Int) == 0) = false := by rw [beq_eq_false_iff_ne]; omega
      have HC0 := Lib.hid c0
      clear hq2 c0
      dsimp only at hv ⊢
      by_cases c1 : 256 < T.size
      · rw [if_pos c1] at hv
        have hT : decide ((T.size : Int) > 256) = true := decide_eq_true (by omega)
        have HV := Lib.hid hv
        have HC1 := Lib.hid c1
        clear hv c1
        go_enter Tryz.func100, Tryz.ntmps100
        go_wp2_with (go_at_call 125; refine (strings_HasPrefix.calls _ _ _ _ (hG0.out.below hRd.out.at_.bel) HP.out).mono ?_; rintro e w3 ⟨rfl, ⟨n3, rfl⟩⟩; have hR3 := Lib.hid (hRd.out.below (Drawn0.below (Drawn0.step (Drawn0.refl _) n3))))
        have hcc1 := hR3.out.at_.cell1
        go_region_held3 (fun W' => W'.cell? ⟨g, 1, none⟩ = some (.string s0_1)) (first | exact hcc1 | exact hR4.at_.cell1)
          ((go_at_call 124; refine (strings_TrimLeft.calls _ _ _ _ (hG0.out.below hR3.out.drew.at_.bel) HT.out).mono ?_; rintro e w4 ⟨rfl, hb4⟩; have hR4 := hR3.out.drew.below hb4))
        have HR4 := Lib.hid hR4
        clear hR4
        have HR6 := Lib.hid HR4.out
        have ha1 := HR6.out.at_.cell1
        have hak := HR6.out.k0
        have hfk := blk_frozen HR6.out.kb 0
        have hR7 := HR6.out.setK T
        have hb1 := hR7.at_.cell1
        have hbf := blk_frozen hR7.at_.is.1 1
        clear hR7
        go_wp2
        go_region
        all_goals
          have hR8 := (((HR6.out.setK T).set1 (s0_1.extract n s0_1.size)).drew)
          generalize World.drew _ = w8 at hR8 ⊢
          replace hR8 := Lib.hid hR8
          have m0 := hR8.out.k0
          go_wp2_with (go_at_call 73; with_reducible refine (hR8.out.fail hG0.out HV.out).mono ?_; rintro e w9 ⟨rfl, hR9, k9⟩; have HR9 := Lib.hid hR9; have s0 := hR9.k0; have s1 := hR9.k1; have s2 := hR9.k2; have p0 := (blk_cell hR9.at_.res 0).trans rfl; have p1 := (blk_cell hR9.at_.res 1).trans rfl; have p2 := (blk_cell hR9.at_.res 2).trans rfl; have q0 := blk_frozen hR9.at_.res 0; have q1 := blk_frozen hR9.at_.res 1; have q2 := blk_frozen hR9.at_.res 2; clear hR9 k9)
          obtain ⟨z0, z1, z2, z3⟩ := HR9.out.at_.ret (Nat.le_refl _) HW0.out (.string T) (.int .i64 0) (.bool false)
          refine bodyPost_ret (results_cell_row rfl _ _ w.heap.size 98 #[.string T, .int .i64 0, .bool false] (0, 0) _ rfl z0 Tryz.underlying98 rfl (by kernel_rfl)) rfl ?_
          exact ⟨rfl, z1, z2, z3⟩
      · rw [if_neg c1] at hv
        have hT : decide ((T.size : Int) > 256) = false := decide_eq_false (by omega)
        obtain rfl := (Option.some.inj hv).symm
        have HC1 := Lib.hid c1
        clear hv c1
        go_enter Tryz.func100, Tryz.ntmps100
        go_wp2_with (go_at_call 125; refine (strings_HasPrefix.calls _ _ _ _ (hG0.out.below hRd.out.at_.bel) HP.out).mono ?_; rintro e w3 ⟨rfl, ⟨n3, rfl⟩⟩; have hR3 := Lib.hid (hRd.out.below (Drawn0.below (Drawn0.step (Drawn0.refl _) n3))))
        have hcc1 := hR3.out.at_.cell1
        go_region_held3 (fun W' => W'.cell? ⟨g, 1, none⟩ = some (.string s0_1)) (first | exact hcc1 | exact hR4.at_.cell1)
          ((go_at_call 124; refine (strings_TrimLeft.calls _ _ _ _ (hG0.out.below hR3.out.drew.at_.bel) HT.out).mono ?_; rintro e w4 ⟨rfl, hb4⟩; have hR4 := hR3.out.drew.below hb4))
        have HR4 := Lib.hid hR4
        clear hR4
        have HR6 := Lib.hid HR4.out
        have ha1 := HR6.out.at_.cell1
        have hak := HR6.out.k0
        have hfk := blk_frozen HR6.out.kb 0
        have hR7 := HR6.out.setK T
        have hb1 := hR7.at_.cell1
        have hbf := blk_frozen hR7.at_.is.1 1
        clear hR7
        go_wp2
        go_region
        all_goals
          have hR8 := (((HR6.out.setK T).set1 (s0_1.extract n s0_1.size)).drew)
          generalize World.drew _ = w8 at hR8 ⊢
          replace hR8 := Lib.hid hR8
          have m0 := hR8.out.k0
          have s1 := hR8.out.k1; have s2 := hR8.out.k2; have p0 := (blk_cell hR8.out.at_.res 0).trans rfl; have p1 := (blk_cell hR8.out.at_.res 1).trans rfl; have p2 := (blk_cell hR8.out.at_.res 2).trans rfl; have q0 := blk_frozen hR8.out.at_.res 0; have q1 := blk_frozen hR8.out.at_.res 1; have q2 := blk_frozen hR8.out.at_.res 2
          go_wp2
          obtain ⟨z0, z1, z2, z3⟩ := hR8.out.at_.ret (Nat.le_refl _) HW0.out (.string T) (.int .i64 0) (.bool false)
          refine bodyPost_ret (results_cell_row rfl _ _ w.heap.size 98 #[.string T, .int .i64 0, .bool false] (0, 0) _ rfl z0 Tryz.underlying98 rfl (by kernel_rfl)) rfl ?_
          exact ⟨rfl, z1, z2, z3⟩
end Go.Proofs.YtiooacmplmcphaaGreatDoor.Plug
namespace Go.Proofs.YtiooacmplmcphaaGreatDoor.Plug
open RowKit YtiooacmplmcphaaGreatDoor YtiooacmplmcphaaGreatDoor.Utf YtiooacmplmcphaaGreatDoorW.PrintWords YtiooacmplmcphaaGreatDoorW.PrintLast
theorem tz_idx : IntKind.u64.wrap (bits .and .u64 16 (IntKind.u64.wrap (-16)) * 285870213051353865) / 288230376151711744 = 15 := by decide +kernel
theorem tz_name : Tryz.prog.globalNamed "math/bits.deBruijn64tab" = some 6 := by kernel_rfl
set_option maxRecDepth 100000 in
theorem trail (w : World) (hG : Glob.G w) : Calls Tryz.prog 192 #[.int .u64 16] w fun e w' => e = .returned (.int .i64 4) ∧ w' = w := by
 have hc : w.cell? ⟨6, 15, none⟩ = some (.int .u8 4) := hG.tz.cell tz_name 15 (by decide)
 have hi := tz_idx
 go_enter Tryz.func192, Tryz.ntmps192
 go_wp2
 go_ret
 exact ⟨rfl, rfl⟩
def hexD : Nat → Nat → List UInt8
 | 0, _ => []
 | k + 1, n => if n < 16 then [hexc n] else hexD k (n / 16) ++ [hexc (n % 16)]
theorem and15 (u : Nat) (h : u < 65536) : bits .and .u64 (u : Int) 15 = ((u % 16 : Nat) : Int) := by
 have h1 := u64_and_nat u 15 (by omega) (by decide)
 rw [show ((15 : Nat) : Int) = 15 from rfl, show u &&& 15 = u % 16 from Nat.and_two_pow_sub_one_eq_mod u 4] at h1
 exact h1
def digitsB : ByteArray := ⟨#[48, 49, 50, 51, 52, 53, 54, 55, 56, 57, 97, 98, 99, 100, 101, 102, 103, 104, 105, 106, 107, 108, 109, 110, 111, 112, 113, 114, 115, 116, 117, 118, 119, 120, 121, 122]⟩
theorem dig_fact : ∀ r : Fin 16, digitsB.data[r.val]? = some (hexc r.val) := by decide +kernel
theorem dig_at (r : Nat) (hr : r < 16) (h : r < (⟨#[48, 49, 50, 51, 52, 53, 54, 55, 56, 57, 97, 98, 99, 100, 101, 102, 103, 104, 105, 106, 107, 108, 109, 110, 111, 112, 113, 114, 115, 116, 117, 118, 119, 120, 121, 122]⟩ : ByteArray).size) :
  (((⟨#[48, 49, 50, 51, 52, 53, 54, 55, 56, 57, 97, 98, 99, 100, 101, 102, 103, 104, 105, 106, 107, 108, 109, 110, 111, 112, 113, 114, 115, 116, 117, 118, 119, 120, 121, 122]⟩ : ByteArray)[r]'h).toNat : Int) = ((hexc r).toNat : Int) := by
 have := dig_fact ⟨r, hr⟩
 simp only at this
 have h2 : digitsB.data[r]? = some (digitsB.data[r]'h) := Array.getElem?_eq_getElem h
 rw [h2] at this
 have h3 := Option.some.inj this
 exact congrArg (fun b : UInt8 => (b.toNat : Int)) h3
set_option maxHeartbeats 1600000 in
set_option maxRecDepth 100000 in
theorem fmt_bits (n : Nat) (hn : n < 65536) (w : World) (hG : Glob.G w) :
    Calls Tryz.prog 136 #[.slice none 0 0, .int .u64 (n : Int), .int .i64 16, .bool false, .bool false] w fun e w' => e = .returned (.tuple #[.slice none 0 0, .string ⟨(hexD 4 n).toArray⟩]) ∧ Below w.heap.size w w' := by
  have hz : Tryz.zeroCells230.size = 65 := by kernel_rfl
  go_enter Tryz.func136, Tryz.ntmps136
  go_wp2_with (first | (go_at_call 192; refine (trail _ (hG.below ((Below.refl _ _).alloc (Nat.le_refl _) _))).mono ?_; rintro e w1 ⟨rfl, rfl⟩) | (go_at_call 171; go_enter Tryz.func171, Tryz.ntmps171) | (go_at_call 170; go_enter Tryz.func170, Tryz.ntmps170))
  go_loopw [1, 13] (fun vu vi wr => ∃ (u q : Nat) (arr : Array Value) (ds : List UInt8), vu = .int .u64 u ∧ vi = .int .i64 ((q : Int) + 1) ∧ 60 < q ∧ q + ds.length = 64 ∧ u < 16 ^ (q - 60) ∧ Hid (hexD (q - 60) u ++ ds = hexD 4 n) ∧ wr.heap[w.heap.size]? = some (.cells arr 230 (0, 0)) ∧ arr.size = 65 ∧ Hid (∀ k (hk : k < ds.length), arr[q + 1 + k]? = some (.int .u8 (ds[k].toNat : Int))) ∧ Below w.heap.size w wr) (fun vu _ _ => (intOf vu).toNat)
  case atStart => exact ⟨n, 64, Tryz.zeroCells230, [], rfl, rfl, by decide, rfl, by omega, Lib.hid (by simp), heap_alloc_new w _, hz, Lib.hid (fun k hk => by simp at hk), (Below.refl _ _).alloc (Nat.le_refl _) _⟩
  case round =>
    obtain ⟨u, q, arr, ds, rfl, rfl, hq, hdl, hu, hst, hblk, har, hds, hb⟩ := hrel
    have hu2 : u < 65536 := by
      rcases (by omega : q = 61 ∨ q = 62 ∨ q = 63 ∨ q = 64) with rfl | rfl | rfl | rfl <;> simp at hu <;> omega
    have hand := and15 u hu2
    have hlt := Bld.at_lt hblk
    have hcell : wr.cell? ⟨w.heap.size, q, none⟩ = some (arr[q]'(by omega)) := by rw [blk_cell hblk]; exact Array.getElem?_eq_getElem (by omega)
    have hfz := blk_frozen hblk q
    by_cases hg : 16 ≤ u
    · have hc : decide ((u : Int) ≥ 16) = true := by simp; omega
      have hr : u % 16 < 16 := by omega
      have hdig := dig_at (u % 16) hr
      have hq2 : 61 < q := by
        rcases (by omega : q = 61 ∨ 61 < q) with rfl | h
        · simp at hu; omega
        · exact h
      have hset := blk_set hblk q (.int .u8 ((hexc (u % 16)).toNat : Int))
      have hst2 := hst.out
      rw [show q - 60 = (q - 1 - 60) + 1 by omega, hexD, if_neg (by omega), List.append_assoc, List.singleton_append] at hst2
      have HS := Lib.hid hst2
      have hu3 : u / 16 < 16 ^ (q - 1 - 60) := by
        rw [Nat.div_lt_iff_lt_mul (by decide), ← Nat.pow_succ]
        rw [show (q - 1 - 60).succ = q - 60 by omega]; exact hu
      have HD : Hid (∀ k (hk : k < (hexc (u % 16) :: ds).length), (arr.setIfInBounds q (.int .u8 ((hexc (u % 16)).toNat : Int)))[q - 1 + 1 + k]? = some (.int .u8 ((hexc (u % 16) :: ds)[k].toNat : Int))) := by
        refine Lib.hid fun k hk => ?_
        rw [show q - 1 + 1 + k = q + k by omega]
        cases k with
        | zero => rw [Nat.add_zero, Array.getElem?_setIfInBounds_self_of_lt (by omega)]; rfl
        | succ k => rw [Array.getElem?_setIfInBounds_ne (by omega)]; have := hds.out k (by simpa using hk); rw [show q + (k + 1) = q + 1 + k by omega]; exact this
      clear hst hst2 hds
      go_wp2
      refine ⟨⟨.int .u64 ((u : Int) / 16), .int .i64 (q : Int), _, _, _, _, _, _, _, _, _, _, _, _, _, _, ⟨u / 16, q - 1, _, hexc (u % 16) :: ds, by first | rfl | (congr 1; omega), by congr 1; omega, by omega, by simp; omega, hu3, Lib.hid HS.out, hset, by simp [har], Lib.hid HD.out, hb.setCell (p := ⟨w.heap.size, q, none⟩) (Nat.le_refl _) _⟩, rfl⟩, ?_⟩
      simp [intOf]; omega
    · have hc : decide ((u : Int) ≥ 16) = false := by simp; omega
      have hdig := dig_at u (by omega)
      have hset := blk_set hblk q (.int .u8 ((hexc u).toNat : Int))
      have hst2 := hst.out
      rw [show q - 60 = (q - 1 - 60) + 1 by omega, hexD, if_pos (by omega), List.singleton_append] at hst2
      have hcv := run_convert_bytes_back (P := Tryz.prog) (wr.setCell ⟨w.heap.size, q, none⟩ (.int .u8 ((hexc u).toNat : Int))) 104 9 5 ⟨w.heap.size, q, none⟩ (65 - q) (hexc u :: ds) (by kernel_rfl) (by kernel_rfl) (by kernel_rfl) (fun k hk => by
        rw [show (Addr.add ⟨w.heap.size, q, none⟩ k) = ⟨w.heap.size, q + k, none⟩ by simp [Addr.add], blk_cell hset]
        cases k with
        | zero => rw [Nat.add_zero, Array.getElem?_setIfInBounds_self_of_lt (by omega)]; rfl
        | succ k => rw [Array.getElem?_setIfInBounds_ne (by omega), show q + (k + 1) = q + 1 + k by omega]; exact hds.out k (by simpa using hk))
      rw [List.length_cons, show ds.length + 1 = 65 - q by omega] at hcv
      have HS := Lib.hid hst2
      have l1 : ((q : Int) ≤ 65) = True := eq_true (by omega)
      have l2 : q ≤ 65 := by omega
      clear hst hst2 hds hset
      go_wp2
      go_ret2
      exact ⟨by rw [← HS.out]; rfl, hb.setCell (p := ⟨w.heap.size, q, none⟩) (Nat.le_refl _) _⟩
set_option maxHeartbeats 1600000 in
set_option maxRecDepth 100000 in
theorem fmt_in (n : Nat) (hn : n < 65536) (w : World) (hG : Glob.G w) :
  Calls Tryz.prog 107 #[.int .i64 (n : Int), .int .i64 16] w fun e w' => e = .returned (.string ⟨(hexD 4 n).toArray⟩) ∧ Below w.heap.size w w' := by
 have hd : decide ((n : Int) < 0) = false := decide_eq_false (by omega)
 go_enter Tryz.func107, Tryz.ntmps107
 go_wp2_with (go_at_call 136; (try rw [hd]); refine (fmt_bits n hn _ hG).mono ?_; rintro e w1 ⟨rfl, hb⟩)
 go_ret
 exact ⟨rfl, hb⟩
set_option maxRecDepth 100000 in
theorem fmt_out (n : Nat) (hn : n < 65536) (w : World) (hG : Glob.G w) :
  Calls Tryz.prog 178 #[.int .i64 (n : Int), .int .i64 16] w fun e w' => e = .returned (.string ⟨(hexD 4 n).toArray⟩) ∧ Below w.heap.size w w' := by
 go_enter Tryz.func178, Tryz.ntmps178
 go_wp2_with (go_at_call 107; refine (fmt_in n hn _ hG).mono ?_; rintro e w1 ⟨rfl, hb⟩)
 go_ret
 exact ⟨rfl, hb⟩
set_option maxRecDepth 100000 in
theorem repeat_none (s : ByteArray) (w : World) : Calls Tryz.prog 179 #[.string s, .int .i64 0] w fun e w' => e = .returned (.string ⟨#[]⟩) ∧ w' = w := by
 go_enter Tryz.func179, Tryz.ntmps179
 go_wp2
 go_ret
 exact ⟨rfl, rfl⟩
set_option maxRecDepth 100000 in
theorem repeat_one (s : ByteArray) (w : World) : Calls Tryz.prog 179 #[.string s, .int .i64 1] w fun e w' => e = .returned (.string s) ∧ w' = w := by
 go_enter Tryz.func179, Tryz.ntmps179
 go_wp2
 go_ret
 exact ⟨rfl, rfl⟩
theorem hexs_two (n : Nat) (h : n < 256) : hexs n 2 = if n < 16 then 48 :: hexD 4 n else hexD 4 n := by
 by_cases c : n < 16
 ·
  rw [if_pos c]
  simp only [hexs, hexD]
  rw [if_pos c, Nat.div_eq_of_lt c, Nat.mod_eq_of_lt c]; rfl
 rw [if_neg c]
 simp only [hexs, hexD]
 rw [if_neg c, if_pos (by omega), show n / 16 % 16 = n / 16 from Nat.mod_eq_of_lt (by omega)]; rfl
theorem hexs_four (n : Nat) (h : n < 65536) (h2 : 4096 ≤ n) : hexs n 4 = hexD 4 n := by
 simp only [hexs, hexD]
 rw [if_neg (by omega), if_neg (by omega), if_neg (by omega), if_pos (by omega), show n / 16 / 16 / 16 % 16 = n / 16 / 16 / 16 from Nat.mod_eq_of_lt (by omega)]
 simp
theorem hexD_len (n : Nat) (h : n < 65536) : (hexD 4 n).length = if n < 16 then 1 else if n < 256 then 2 else if n < 4096 then 3 else 4 := by
 simp only [hexD]
 by_cases c1 : n < 16
 · rw [if_pos c1, if_pos c1]; rfl
 rw [if_neg c1, if_neg c1]
 by_cases c2 : n < 256
 · rw [if_pos c2, if_pos (by omega)]; rfl
 rw [if_neg c2, if_neg (by omega)]
 by_cases c3 : n < 4096
 · rw [if_pos c3, if_pos (by omega)]; rfl
 rw [if_neg c3, if_neg (by omega)]
 rw [if_pos (by omega)]; rfl
end Go.Proofs.YtiooacmplmcphaaGreatDoor.Plug
namespace Go.Proofs.YtiooacmplmcphaaGreatDoor.PX
open RowKit YtiooacmplmcphaaGreatDoorW.PrintWords YtiooacmplmcphaaGreatDoorW.PrintLast YtiooacmplmcphaaGreatDoorW.PrintMore YtiooacmplmcphaaGreatDoor
attribute [local go_sem] max2_int min2_int max_two min_two max_three min_three max_four min_four   -- for this text's walks alone
set_option linter.unusedVariables false
set_option linter.unusedSimpArgs false
def quote_short.j0 : Nat → Int → Int → Bool → Option (Int)
  | 0, _, _, _ => none
  | k + 1, x0, x3, x4 => if x4 = true then (some ((x0) % 256)) else (if x3 = 10 then (some 110) else (if x3 = 9 then (some 116) else (if x3 = 13 then (some 114) else (if x3 = 0 then (some 48) else (some 0)))))
def quote_short.f (k : Nat) (a0 : Int) : Option (Int) := if a0 = 34 then (quote_short.j0 k a0 a0 (a0 == 34)) else (quote_short.j0 k a0 a0 (a0 == 92))
theorem qta0_ {P : Prop} (h_ : P := by first | rfl | (simp; done) | (simp [*]; done) | (simp; generalize ByteArray.toList _ = l_; cases l_ <;> rfl)) : P := h_
theorem qta1_ {P : Prop} (h_ : P := by repeat (first | exact Drawn0.refl _ | apply Drawn0.step)) : P := h_
set_option maxHeartbeats 8000000 in
set_option maxRecDepth 100000 in
theorem quote_short.calls (k : Nat) (a0 : Int) (r : Int) (w : World) (hG : Glob.G w) (h : quote_short.f k a0 = some r) :
  Calls Tryz.prog 144 #[.int .i64 a0] w fun e w' => e = .returned (.int .u8 r) ∧ Drawn0 w w' := by
 have H : (if a0 = 34 then (quote_short.j0 k a0 a0 (a0 == 34)) else (quote_short.j0 k a0 a0 (a0 == 92))) = some r := h
 clear h
 have HC2 := Aside0.mk H
 clear H
 go_enter Tryz.func144, Tryz.ntmps144
 go_upto_if 4 with (fail)
 go_cut [4] (fun v4 wc => ∃ (kq : Nat) (x4_1 : Bool), v4 = .bool x4_1 ∧ Aside0 (quote_short.j0 kq a0 a0 x4_1 = some r) ∧ Aside0 (kq ≤ k) ∧ Drawn0 w wc)
 case first =>
  have H := HC2.out
  clear HC2
  by_cases c3 : a0 = 34
  rotate_left
  ·
   rw [if_neg c3] at H
   have c3b0 : (a0 == 34) = false := beq_eq_false_iff_ne.mpr c3
   have c3b1 : (a0 != 34) = true := bne_iff_ne.mpr c3
   (first | rw [c3b0] | (simp only [i64_w, i32_w]; rw [c3b0]) | skip)
   have H' := Aside0.mk H
   clear H
   go_wp2
   go_meet
   case rel => exact ⟨_, ((a0 == 92)), (by first | rfl | (simp; done) | (simp [*]; done)), H', ⟨by first | omega | exact Nat.le_refl _⟩, qta1_⟩
  rw [if_pos c3] at H
  have c3b0 : (a0 == 34) = true := beq_iff_eq.mpr c3
  have c3b1 : (a0 != 34) = false := bne_eq_false_iff_eq.mpr c3
  clear c3
  (first | rw [c3b0] | (simp only [i64_w, i32_w]; rw [c3b0]) | skip)
  have H' := Aside0.mk H
  clear H
  go_wp2
  go_meet
  case rel => exact ⟨_, ((a0 == 34)), (by first | rfl | (simp; done) | (simp [*]; done)), H', ⟨by first | omega | exact Nat.le_refl _⟩, qta1_⟩
 case rest =>
  clear HC2
  try clear c1
  try clear p2
  try clear c3
  try clear c3b0
  try clear c3b1
  obtain ⟨kq, x4_1, rfl, HA, HJ1, ⟨mc1, rfl⟩⟩ := hcut
  cases kq with
  | zero => exact absurd HA.out (by simp [quote_short.j0])
  | succ kj1 =>
   have H := HA.out
   clear HA
   simp only [quote_short.j0] at H
   by_cases c4 : x4_1 = true
   ·
    subst c4
    have H1 : (some ((a0) % 256)) = some r := by rw [if_pos rfl] at H; exact H
    clear H
    have H := H1
    clear H1
    obtain rfl := Option.some.inj H
    go_wp2
    go_ret
    exact ⟨qta0_, qta1_⟩
   replace c4 := Bool.eq_false_iff.mpr c4
   subst c4
   have H1 : (if a0 = 10 then (some 110) else (if a0 = 9 then (some 116) else (if a0 = 13 then (some 114) else (if a0 = 0 then (some 48) else (some 0))))) = some r := by rw [if_neg (show ¬ (false = true) by decide)] at H; exact H
   clear H
   have H := H1
   clear H1
   by_cases c5 : a0 = 10
   ·
    rw [if_pos c5] at H
    have c5b0 : (a0 == 10) = true := beq_iff_eq.mpr c5
    have c5b1 : (a0 != 10) = false := bne_eq_false_iff_eq.mpr c5
    clear c5
    obtain rfl := Option.some.inj H
    go_wp2
    go_ret
    exact ⟨qta0_, qta1_⟩
   rw [if_neg c5] at H
   have c5b0 : (a0 == 10) = false := beq_eq_false_iff_ne.mpr c5
   have c5b1 : (a0 != 10) = true := bne_iff_ne.mpr c5
   by_cases c6 : a0 = 9
   ·
    rw [if_pos c6] at H
    have c6b0 : (a0 == 9) = true := beq_iff_eq.mpr c6
    have c6b1 : (a0 != 9) = false := bne_eq_false_iff_eq.mpr c6
    clear c6
    obtain rfl := Option.some.inj H
    go_wp2
    go_ret
    exact ⟨qta0_, qta1_⟩
   rw [if_neg c6] at H
   have c6b0 : (a0 == 9) = false := beq_eq_false_iff_ne.mpr c6
   have c6b1 : (a0 != 9) = true := bne_iff_ne.mpr c6
   by_cases c7 : a0 = 13
   ·
    rw [if_pos c7] at H
    have c7b0 : (a0 == 13) = true := beq_iff_eq.mpr c7
    have c7b1 : (a0 != 13) = false := bne_eq_false_iff_eq.mpr c7
    clear c7
    obtain rfl := Option.some.inj H
    go_wp2
    go_ret
    exact ⟨qta0_, qta1_⟩
   rw [if_neg c7] at H
   have c7b0 : (a0 == 13) = false := beq_eq_false_iff_ne.mpr c7
   have c7b1 : (a0 != 13) = true := bne_iff_ne.mpr c7
   by_cases c8 : a0 = 0
   rotate_left
   ·
    rw [if_neg c8] at H
    have c8b0 : (a0 == 0) = false := beq_eq_false_iff_ne.mpr c8
    have c8b1 : (a0 != 0) = true := bne_iff_ne.mpr c8
    obtain rfl := Option.some.inj H
    go_wp2
    go_ret
    exact ⟨qta0_, qta1_⟩
   rw [if_pos c8] at H
   have c8b0 : (a0 == 0) = true := beq_iff_eq.mpr c8
   have c8b1 : (a0 != 0) = false := bne_eq_false_iff_eq.mpr c8
   clear c8
   obtain rfl := Option.some.inj H
   go_wp2
   go_ret
   exact ⟨qta0_, qta1_⟩
end Go.Proofs.YtiooacmplmcphaaGreatDoor.PX
namespace Go.Proofs.YtiooacmplmcphaaGreatDoor.Plug
open RowKit YtiooacmplmcphaaGreatDoor YtiooacmplmcphaaGreatDoor.PX YtiooacmplmcphaaGreatDoor.Utf YtiooacmplmcphaaGreatDoorW.PrintWords YtiooacmplmcphaaGreatDoorW.PrintLast
structure St (w0 : World) (b : Nat) (l : List UInt8) (w : World) : Prop where
 bld : Lib.IsBuilderF 187 5 w0.heap.size b (Lib.byteCells l) w
 bel : Below w0.heap.size w0 w
abbrev Kept (b : Nat) (w w' : World) : Prop := Lib.OthersKept 5 (some b) w w'
theorem kept_below {b : Nat} {w w' : World} (h : Below w.heap.size w w') : Kept b w w' := by
 intro k o hk _ _
 exact (h.block k (Bld.at_lt hk)).trans hk
theorem St.quiet {w0 : World} {b : Nat} {l : List UInt8} {w w' : World} (h : St w0 b l w) (hb : Below w.heap.size w w') : St w0 b l w' := ⟨bld_below h.bld hb, h.bel.trans (hb.mono h.bel.size)⟩
theorem st_byte {w0 : World} {b : Nat} {l : List UInt8} {w : World} (h : St w0 b l w) (c : UInt8) (hl : l.length ≤ 70368744177664) :
  Calls Tryz.prog 55 #[.pointer (some ⟨b, 0, none⟩), .int .u8 (c.toNat : Int)] w fun e w' => e = .returned .nilIface ∧ St w0 b (l ++ [c]) w' ∧ Kept b w w' :=
 (Bld.byte 187 Bld.lies_quote w0.heap.size b _ (c.toNat : Int) w h.bld (by rw [Lib.byteCells_length]; omega) h.bel.size).mono fun e w' ⟨he, h1, h2, h3⟩ => ⟨he, ⟨by rw [Lib.byteCells_append]; exact .inr h1, h.bel.trans h2⟩, h3⟩
theorem st_text {w0 : World} {b : Nat} {l : List UInt8} {w : World} (h : St w0 b l w) (t : List UInt8) (hl : l.length + t.length ≤ 70368744177664) :
  Calls Tryz.prog 52 #[.pointer (some ⟨b, 0, none⟩), .string ⟨t.toArray⟩] w fun e w' => ∃ n : Int, e = .returned (.tuple #[.int .i64 n, .nilIface]) ∧ St w0 b (l ++ t) w' ∧ Kept b w w' :=
 (Bld.text 187 Bld.lies_quote w0.heap.size b _ ⟨t.toArray⟩ w h.bld (by rw [Lib.byteCells_length]; show l.length + t.length ≤ _; omega) h.bel.size).mono fun e w' ⟨he, h1, h2, h3⟩ => ⟨_, he, ⟨by rw [Lib.byteCells_append]; exact .inr h1, h.bel.trans h2⟩, h3⟩
theorem st_sign {w0 : World} {b : Nat} {l : List UInt8} {w : World} (h : St w0 b l w) (n : Int) (hn : sgn n = true) (hl : l.length ≤ 70368744177664) :
  Calls Tryz.prog 146 #[.pointer (some ⟨b, 0, none⟩), .int .i32 n] w fun e w' => ∃ m : Int, e = .returned (.tuple #[.int .i64 m, .nilIface]) ∧ St w0 b (l ++ enc n) w' ∧ Kept b w w' :=
 (Bld.sign 187 Bld.lies_quote w0.heap.size b _ n ((sgn_iff n).1 hn) w h.bld (by rw [Lib.byteCells_length]; omega) h.bel.size).mono fun e w' ⟨he, h1, h2, h3⟩ => ⟨_, he, ⟨by rw [Lib.byteCells_append, enc_cells]; exact .inr h1, h.bel.trans h2⟩, h3⟩
set_option maxHeartbeats 1600000 in
set_option maxRecDepth 100000 in
theorem hex_is {w0 : World} {b : Nat} {l : List UInt8} {w : World} (hG : Glob.G w0) (h : St w0 b l w) (c : UInt8) (n m : Nat) (hnm : (m = 2 ∧ n < 256) ∨ (m = 4 ∧ 4096 ≤ n ∧ n < 65536)) (hl : l.length ≤ 35184372088832) :
  Calls Tryz.prog 147 #[.pointer (some ⟨b, 0, none⟩), .int .u8 (c.toNat : Int), .int .i64 (n : Int), .int .i64 (m : Int)] w fun e w' => e = .returned (.tuple #[]) ∧ St w0 b (l ++ 92 :: c :: hexs n m) w' ∧ Kept b w w' := by
 have hn : n < 65536 := by omega
 have hm4 : m ≤ 4 := by omega
 have hlen := hexD_len n hn
 have hF := fmt_out n hn w (hG.below h.bel)
 have hpad : (n < 16 ∧ m = 2 ∧ hexs n m = 48 :: hexD 4 n ∧ (hexD 4 n).length = 1) ∨ (hexs n m = hexD 4 n ∧ (hexD 4 n).length = m) := by
  rcases hnm with ⟨rfl, h1⟩ | ⟨rfl, h1, h2⟩
  ·
   rw [hexs_two n h1]
   by_cases q : n < 16
   · rw [if_pos q] at hlen ⊢; exact .inl ⟨q, rfl, rfl, hlen⟩
   rw [if_neg q, if_pos h1] at hlen; rw [if_neg q]; exact .inr ⟨rfl, hlen⟩
  ·
   rw [hexs_four n h2 h1]
   rw [if_neg (by omega), if_neg (by omega), if_neg (by omega)] at hlen; exact .inr ⟨rfl, hlen⟩
 generalize hexD 4 n = d at *
 generalize hexs n m = x at *
 clear hlen
 have HF := Lib.hid hF
 have HS := Lib.hid h
 clear hF h hnm hn hG
 rcases hpad with ⟨_, rfl, rfl, hd⟩ | ⟨rfl, hd⟩
 ·
  have hsz : (⟨d.toArray⟩ : ByteArray).size = 1 := hd
  go_enter Tryz.func147, Tryz.ntmps147
  go_wp2_with (go_at_call 178; refine HF.out.mono ?_)
  rintro e w1 ⟨rfl, hb1⟩
  have h1 := HS.out.quiet hb1
  go_wp2_with (go_at_call 55; refine (st_byte h1 92 (by omega)).mono ?_)
  rintro e w2 ⟨rfl, h2, k2⟩
  go_wp2_with (go_at_call 55; refine (st_byte h2 c (by simp; omega)).mono ?_)
  rintro e w3 ⟨rfl, h3, k3⟩
  have h3d := h3.quiet (Below.drew (Below.refl _ w3))
  have k3d := kept_below (b := b) (Below.drew (Below.refl w3.heap.size w3))
  have hp : l.length + 1 + 1 + 1 + 1 ≤ 70368744177664 := by omega
  go_wp2
  go_region_with (first | (go_at_call 179; refine (repeat_one _ _).mono ?_; rintro e w4 ⟨rfl, rfl⟩) | (go_at_call 52; refine (st_text h3d [48] (by simp; omega)).mono ?_; rintro e w5 ⟨n5, rfl, h5, k5⟩))
  all_goals
   go_wp2_with (go_at_call 52; refine (st_text h5 _ (by simp; omega)).mono ?_; rintro e w6 ⟨n6, rfl, h6, k6⟩)
   go_end0
   exact ⟨rfl, by simpa using h6, (kept_below hb1).trans (k2.trans (k3.trans (k3d.trans (k5.trans k6))))⟩
 ·
  have hsz : (⟨x.toArray⟩ : ByteArray).size = m := hd
  go_enter Tryz.func147, Tryz.ntmps147
  go_wp2_with (go_at_call 178; refine HF.out.mono ?_)
  rintro e w1 ⟨rfl, hb1⟩
  have h1 := HS.out.quiet hb1
  go_wp2_with (go_at_call 55; refine (st_byte h1 92 (by omega)).mono ?_)
  rintro e w2 ⟨rfl, h2, k2⟩
  go_wp2_with (go_at_call 55; refine (st_byte h2 c (by simp; omega)).mono ?_)
  rintro e w3 ⟨rfl, h3, k3⟩
  have h3d := h3.quiet (Below.drew (Below.refl _ w3))
  have k3d := kept_below (b := b) (Below.drew (Below.refl w3.heap.size w3))
  have hp : l.length + 1 + 1 + 4 ≤ 70368744177664 := by omega
  go_wp2
  go_region_with (first | (go_at_call 179; (try rw [show (m : Int) - (m : Int) = 0 by omega]); refine (repeat_none _ _).mono ?_; rintro e w4 ⟨rfl, rfl⟩) | (go_at_call 52; refine (st_text h3d [] (by simp; omega)).mono ?_; rintro e w5 ⟨n5, rfl, h5, k5⟩))
  all_goals
   go_wp2_with (go_at_call 52; refine (st_text h5 _ (by simp; omega)).mono ?_; rintro e w6 ⟨n6, rfl, h6, k6⟩)
   go_end0
   exact ⟨rfl, by simpa using h6, (kept_below hb1).trans (k2.trans (k3.trans (k3d.trans (k5.trans k6))))⟩
theorem escS_len (n : Int) : (escS n).length ≤ 10 := by
 unfold escS
 have := enc_len n
 repeat' split
 all_goals first | decide | (simp [hexs_len]; done) | omega
def shortOf (n : Int) : Int := if n = 34 then 34 else if n = 92 then 92 else if n = 10 then 110 else if n = 9 then 116 else if n = 13 then 114 else if n = 0 then 48 else 0
theorem prog_short (k : Nat) (n : Int) : quote_short.f (k + 1) n = some (shortOf n) := by
 have hj : ∀ b, quote_short.j0 (k + 1) n n b = if b = true then (some (n % 256)) else (if n = 10 then (some 110) else (if n = 9 then (some 116) else (if n = 13 then (some 114) else (if n = 0 then (some 48) else (some 0))))) := fun b => by rw [quote_short.j0]
 unfold quote_short.f shortOf
 rw [hj, hj]
 by_cases a : n = 34
 · subst a; rfl
 rw [if_neg a, if_neg a]
 by_cases b : n = 92
 · subst b; rfl
 rw [if_neg b, show (n == 92) = false from beq_eq_false_iff_ne.2 b, if_neg (by decide)]
 by_cases c : n = 10
 · rw [if_pos c, if_pos c]
 rw [if_neg c, if_neg c]
 by_cases d : n = 9
 · rw [if_pos d, if_pos d]
 rw [if_neg d, if_neg d]
 by_cases e : n = 13
 · rw [if_pos e, if_pos e]
 rw [if_neg e, if_neg e]
 by_cases f : n = 0
 · rw [if_pos f, if_pos f]
 rw [if_neg f, if_neg f]
theorem not_may (n : Int) (h : sgn n = true) (hm : may n ≠ true) : n < 65536 ∧ (256 ≤ n → 4096 ≤ n) := by
 have := (sgn_iff n).1 h
 unfold may prt at hm
 simp at hm
 by_cases c : n = 9 ∨ n = 10 ∨ n = 13
 · omega
 omega
set_option maxHeartbeats 1600000 in
set_option maxRecDepth 100000 in
theorem put_is {w0 : World} {b : Nat} {l : List UInt8} {w : World} (hG : Glob.G w0) (h : St w0 b l w) (n : Int) (hs : sgn n = true) (hl : l.length ≤ 35184372088832) :
  Calls Tryz.prog 116 #[.pointer (some ⟨b, 0, none⟩), .int .i64 n] w fun e w' => e = .returned (.tuple #[]) ∧ St w0 b (l ++ escS n) w' ∧ Kept b w w' := by
 have hr := (sgn_nat hs)
 have hGw := hG.below h.bel
 have hsh := Lib.hid (prog_short 0 n)
 have hms := Lib.hid (prog_may n)
 by_cases hc : shortOf n = 0
 rotate_left
 ·
  obtain ⟨c, hc2, hE2⟩ : ∃ c : UInt8, shortOf n = (c.toNat : Int) ∧ escS n = [92, c] := by
   unfold shortOf at hc ⊢
   unfold escS
   by_cases a : n = 34
   · subst a; exact ⟨34, rfl, rfl⟩
   by_cases b : n = 92
   · subst b; exact ⟨92, rfl, rfl⟩
   by_cases c : n = 10
   · subst c; exact ⟨110, rfl, rfl⟩
   by_cases d : n = 9
   · subst d; exact ⟨116, rfl, rfl⟩
   by_cases e : n = 13
   · subst e; exact ⟨114, rfl, rfl⟩
   by_cases f : n = 0
   · subst f; exact ⟨48, rfl, rfl⟩
   rw [if_neg a, if_neg b, if_neg c, if_neg d, if_neg e, if_neg f] at hc; exact absurd rfl hc
  rw [hc2] at hsh hc
  rw [hE2]
  have hne : (((c.toNat : Nat) : Int) != 0) = true := bne_iff_ne.2 hc
  have hne2 : (((c.toNat : Nat) : Int) == 0) = false := beq_eq_false_iff_ne.2 hc
  clear hc hc2 hE2 hms
  go_enter Tryz.func116, Tryz.ntmps116
  go_wp2_with (first | (go_at_call 144; refine (quote_short.calls _ _ _ _ hGw hsh.out).mono ?_; rintro e w1 ⟨rfl, hb1⟩))
  go_wp2_with (go_at_call 55; refine (st_byte (h.quiet (Drawn0.below hb1)) 92 (by omega)).mono ?_)
  rintro e w2 ⟨rfl, h2, k2⟩
  go_wp2_with (go_at_call 55; refine (st_byte h2 c (by simp; omega)).mono ?_)
  rintro e w3 ⟨rfl, h3, k3⟩
  go_wp2
  go_end0
  exact ⟨rfl, by simpa using h3, (kept_below (Drawn0.below hb1)).trans (k2.trans k3)⟩
 have hne : n ≠ 34 ∧ n ≠ 92 ∧ n ≠ 9 ∧ n ≠ 10 ∧ n ≠ 13 ∧ n ≠ 0 := by
  unfold shortOf at hc
  repeat' split at hc
  all_goals omega
 rw [hc] at hsh
 have HE : Hid (escS n = if may n = true then enc n else if n < 256 then 92 :: 120 :: hexs n.toNat 2 else if n < 65536 then 92 :: 117 :: hexs n.toNat 4 else 92 :: 85 :: hexs n.toNat 8) := by
  unfold escS
  rw [if_neg hne.1, if_neg hne.2.1, if_neg hne.2.2.1, if_neg hne.2.2.2.1, if_neg hne.2.2.2.2.1, if_neg hne.2.2.2.2.2]
  exact Lib.hid rfl
 cases hm : may n with
 | true =>
  rw [hm] at hms HE
  clear hne hc
  go_enter Tryz.func116, Tryz.ntmps116
  go_wp2_with (first | (go_at_call 144; refine (quote_short.calls _ _ _ _ hGw hsh.out).mono ?_; rintro e w1 ⟨rfl, hb1⟩) | (go_at_call 145; refine (quote_may.calls _ _ _ (hGw.below (Drawn0.below hb1)) hms.out).mono ?_; rintro e w2 ⟨rfl, hb2⟩) | (go_at_call 146; refine (st_sign ((h.quiet (Drawn0.below hb1)).quiet (Drawn0.below hb2)) n hs (by omega)).mono ?_; rintro e w3 ⟨n3, rfl, h3, k3⟩))
  go_end0
  exact ⟨rfl, by rw [HE.out]; exact h3, (kept_below (Drawn0.below hb1)).trans ((kept_below (Drawn0.below hb2)).trans k3)⟩
 | false =>
  have hnm := not_may n hs (by rw [hm]; decide)
  rw [hm] at hms HE
  clear hne hc
  obtain ⟨N, rfl⟩ : ∃ N : Nat, n = (N : Int) := ⟨n.toNat, by omega⟩
  by_cases q : N < 256
  ·
   have HH : Hid (escS (N : Int) = 92 :: 120 :: hexs N 2) := by rw [HE.out, if_neg (by decide), if_pos (by omega)]; exact Lib.hid rfl
   have hlt : decide ((N : Int) < 256) = true := decide_eq_true (by omega)
   clear HE hm
   go_enter Tryz.func116, Tryz.ntmps116
   go_wp2_with (first | (go_at_call 144; refine (quote_short.calls _ _ _ _ hGw hsh.out).mono ?_; rintro e w1 ⟨rfl, hb1⟩) | (go_at_call 145; refine (quote_may.calls _ _ _ (hGw.below (Drawn0.below hb1)) hms.out).mono ?_; rintro e w2 ⟨rfl, hb2⟩) | (go_at_call 147; refine (hex_is hG ((h.quiet (Drawn0.below hb1)).quiet (Drawn0.below hb2)) 120 N 2 (.inl ⟨rfl, q⟩) (by omega)).mono ?_; rintro e w3 ⟨rfl, h3, k3⟩))
   go_end0
   exact ⟨rfl, by rw [HH.out]; exact h3, (kept_below (Drawn0.below hb1)).trans ((kept_below (Drawn0.below hb2)).trans k3)⟩
  have HH : Hid (escS (N : Int) = 92 :: 117 :: hexs N 4) := by rw [HE.out, if_neg (by decide), if_neg (by omega), if_pos (by omega)]; exact Lib.hid rfl
  have hlt : decide ((N : Int) < 256) = false := decide_eq_false (by omega)
  have hlt2 : decide ((N : Int) < 65536) = true := decide_eq_true (by omega)
  clear HE hm
  go_enter Tryz.func116, Tryz.ntmps116
  go_wp2_with (first | (go_at_call 144; refine (quote_short.calls _ _ _ _ hGw hsh.out).mono ?_; rintro e w1 ⟨rfl, hb1⟩) | (go_at_call 145; refine (quote_may.calls _ _ _ (hGw.below (Drawn0.below hb1)) hms.out).mono ?_; rintro e w2 ⟨rfl, hb2⟩) | (go_at_call 147; refine (hex_is hG ((h.quiet (Drawn0.below hb1)).quiet (Drawn0.below hb2)) 117 N 4 (.inr ⟨rfl, by omega, by omega⟩) (by omega)).mono ?_; rintro e w3 ⟨rfl, h3, k3⟩))
  go_end0
  exact ⟨rfl, by rw [HH.out]; exact h3, (kept_below (Drawn0.below hb1)).trans ((kept_below (Drawn0.below hb2)).trans k3)⟩
def goF : Nat → List UInt8 → Nat → List Int → List Int × Nat
 | 0, _, i, acc => (acc, i)
 | k + 1, l, i, acc => if i < l.length then (if (dec (l.drop i)).1 < 0 then (acc ++ [(dec (l.drop i)).1], i) else goF k l (i + (dec (l.drop i)).2) (acc ++ [(dec (l.drop i)).1])) else (acc, i)
def goB (l : List UInt8) : List Int × Nat := goF l.length l 0 []
def decodeB (l : List UInt8) : List Int × Int × Int := if (goB l).2 < l.length then ([], 8, ((goB l).2 : Int)) else ((goB l).1, 0, 0)
theorem goF_end (k : Nat) (l : List UInt8) (i : Nat) (acc : List Int) (h : ¬ i < l.length) : goF k l i acc = (acc, i) := by
 cases k with
 | zero => rfl
 | succ k => simp [goF, h]
theorem info_int : (Tryz.prog.info? 3).map (fun i => (i.zero, i.size, i.bytes)) = some (some (.int .i64 0), 1, 8) := by kernel_rfl
theorem row_int : Tryz.prog.underlying 40 = some (.slice 3) := by kernel_rfl
structure Box (B g : Nat) (xs : List Int) (W : World) : Prop where
  ex : ∃ v, W.heap[g]? = some (.cells #[v] 40 (0, 0)) ∧ W.ownsRow B 3 1 v xs.length (nums .i64 xs)
def Stays (B g : Nat) (W W' : World) : Prop := Below B W W' ∧ ∀ k c t, W.heap[k]? = some (.cells c t (0, 0)) → t ≠ 3 → k ≠ g → W'.heap[k]? = some (.cells c t (0, 0))
theorem Stays.refl (B g : Nat) (W : World) : Stays B g W W := ⟨Below.refl B W, fun _ _ _ h _ _ => h⟩
theorem Stays.trans {B g : Nat} {W W1 W2 : World} (h : Stays B g W W1) (h2 : Stays B g W1 W2) : Stays B g W W2 := ⟨h.1.trans h2.1, fun k c t a b d => h2.2 k c t (h.2 k c t a b d) b d⟩
theorem Stays.of_below {B g : Nat} {W W1 : World} (h : Below W.heap.size W W1) (hB : B ≤ W.heap.size) : Stays B g W W1 :=
  ⟨h.mono hB, fun k _ _ a _ _ => (h.block k (Bld.at_lt a)).trans a⟩
theorem Box.of_below {B g : Nat} {xs : List Int} {W W1 : World} (h : Box B g xs W) (hb : Below W.heap.size W W1) : Box B g xs W1 := by
 obtain ⟨v, h1, h2⟩ := h.ex
 exact ⟨v, (hb.block g (Bld.at_lt h1)).trans h1, own_move h2 (fun k hk => hb.block k (own_lt h2 k hk))⟩
set_option maxHeartbeats 2000000 in
set_option maxRecDepth 100000 in
theorem on_is (x : Int) (B g : Nat) (xs : List Int) (W : World) (hbx : Box B g xs W) (hlen : xs.length + 1 ≤ 1099511627776) (hB : B ≤ g) (hBw : B ≤ W.heap.size) :
  Calls Tryz.prog 142 #[.int .i64 x, .pointer (some ⟨g, 0, none⟩)] W fun e w' => e = .returned (.bool (decide (x ≥ 0))) ∧ Box B g (xs ++ [x]) w' ∧ Stays B g W w' := by
 obtain ⟨v, hg, hown⟩ := hbx.ex
 clear hbx
 obtain ⟨i0, hi, hz0, hz1, hz2⟩ := info_parts info_int
 have c0 : W.cell? ⟨g, 0, none⟩ = some v := by rw [Lib.cell_of_heap hg]; rfl
 have hne := own_ne hown hg (by decide)
 go_enter Tryz.func142, Tryz.ntmps142
 go_wp2_with (at_builtin; refine wpList_append_own _ rfl _ _ 40 rfl B 3 i0 (.int .i64 0) 1 8 row_int hi hz0 hz1 hz2 rfl (by decide) _ _ _ rfl (hown.alloc _) ⟨W.heap.size, 0, none⟩ 1 1 [.int .i64 x] rfl rfl ?c1 ?c2 ?c3 ?c4 ?c5 ?_)
 case c1 =>
  intro j u hj
  match j, hj with
  | 0, hj => simp at hj; subst hj; simp [Addr.add]
 case c2 => intro u hu; simp at hu; subst hu; rfl
 case c3 => unfold maxLen; omega
 case c4 => omega
 case c5 => simp; omega
 intro v' w2 hown' hgrow _
 obtain ⟨ao, cap, rfl⟩ : ∃ ao cap, v' = .slice ao (xs.length + 1) cap := own_slice hown'
 have hlt := Bld.at_lt hg
 have hb2 : w2.heap[g]? = some (.cells #[v] 40 (0, 0)) := by
  rw [hgrow.block g (by simp; omega) hne, Lib.alloc_old W _ g hlt]
  exact hg
 have d0 : w2.cell? ⟨g, 0, none⟩ = some v := by rw [Lib.cell_of_heap hb2]; rfl
 have f0 : w2.frozen? ⟨g, 0, none⟩ = false := Lib.frozen_of_heap hb2 0
 have hne2 := own_ne hown' hb2 (by decide)
 have HR : Hid (Box B g (xs ++ [x]) (w2.setCell ⟨g, 0, none⟩ (.slice ao (xs.length + 1) cap)) ∧ Stays B g W (w2.setCell ⟨g, 0, none⟩ (.slice ao (xs.length + 1) cap))) := by
  refine Lib.hid ⟨⟨.slice ao (xs.length + 1) cap, ?_, ?_⟩, ?_, ?_⟩
  · exact blk_set hb2 0 _
  ·
   have h3 := own_setCell (p := ⟨g, 0, none⟩) hown' hne2 (.slice ao (xs.length + 1) cap)
   rw [List.length_append, List.length_singleton, nums_append]
   exact h3
  · exact ((((Below.refl B W).alloc hBw _).grown hgrow (by simp; omega) (fun k hk => own_base hown k hk)).setCell (p := ⟨g, 0, none⟩) hB _)
  ·
   intro k c t hk ht hkg
   rw [Below.heap_setCell w2 ⟨g, 0, none⟩ _ k hkg, hgrow.block k (by have := Bld.at_lt hk; simp; omega) (own_ne hown hk (Ne.symm ht)), Lib.alloc_old W _ k (Bld.at_lt hk)]
   exact hk
 clear hown hown' hgrow hg hne hne2
 go_wp2
 go_ret
 exact ⟨rfl, HR.out⟩
set_option maxHeartbeats 2000000 in
theorem walk_dec (s : ByteArray) (B g : Nat) (w w0 : World) (hG : Glob.G w0) (hw0 : Below B w0 w) (hB0 : w0.heap.size = B) (hs : s.size ≤ 1099511627775) (hbx : Box B g [] w) (hB : B ≤ g) (hBw : B ≤ w.heap.size) :
  Calls Tryz.prog 141 #[.string s, .func (.func 142) #[] #[.pointer (some ⟨g, 0, none⟩)]] w fun e w' => e = .returned (.int .i64 (goB s.data.toList).2) ∧ Box B g (goB s.data.toList).1 w' ∧ Stays B g w w' := by
 have hL := Lib.hid (size_list s)
 go_enter Tryz.func141, Tryz.ntmps141
 go_wp2
 go_loopw [5] (fun a wr => ∃ (i k : Nat) (xs : List Int), i ≤ s.size ∧ s.size ≤ i + k ∧ xs.length ≤ i ∧ Hid (goF k s.data.toList i xs = goB s.data.toList) ∧ a = .int .i64 i ∧ Box B g xs wr ∧ Stays B g w wr) (fun a _ => s.size - (intOf a).toNat)
 case atStart => exact ⟨0, s.size, [], Nat.zero_le _, by omega, Nat.le_refl _, by rw [hL.out]; rfl, rfl, hbx, Stays.refl _ _ _⟩
 case round =>
  obtain ⟨i, k, xs, hi, hk, hxl, hst, rfl, hbx, hb⟩ := hrel
  have hGr : Glob.G wr := hG.below (by rw [hB0]; exact hw0.trans hb.1)
  by_cases hlt : i < s.size
  rotate_left
  ·
   have hc : decide ((i : Int) < (s.size : Int)) = false := by simp; omega
   have HE := Lib.hid (hst.out.symm.trans (goF_end k s.data.toList i xs (by rw [← hL.out]; exact hlt)))
   clear hst
   go_wp2
   go_ret
   exact ⟨by rw [HE.out]; rfl, by rw [HE.out]; exact hbx, hb⟩
  have hne : s.data.toList.drop i ≠ [] := by
   intro e; have h2 := congrArg List.length e; rw [List.length_drop, ← hL.out, List.length_nil] at h2; omega
  have hw := dec_wide _ hne
  have hf := prog_first (s.extract i s.size)
  rw [drop_list] at hf
  have hlen : (s.data.toList.drop i).length = s.size - i := by rw [List.length_drop, ← hL.out]
  have hstep : goF k s.data.toList i xs = if (dec (s.data.toList.drop i)).1 < 0 then (xs ++ [(dec (s.data.toList.drop i)).1], i) else goF (k - 1) s.data.toList (i + (dec (s.data.toList.drop i)).2) (xs ++ [(dec (s.data.toList.drop i)).1]) := by
   obtain ⟨k, rfl⟩ : ∃ m, k = m + 1 := ⟨k - 1, by omega⟩
   rw [goF, if_pos (by have := hL.out; omega)]; rfl
  generalize dec (s.data.toList.drop i) = d at *
  obtain ⟨r, n⟩ := d
  simp only at hw hf hstep
  rw [hlen] at hw
  obtain ⟨hw1, hw2, hw3⟩ := hw
  have HF := Lib.hid hf; have HS := Lib.hid hstep
  clear hf hstep hlen hne
  by_cases hr : r < 0
  ·
   rw [if_pos hr] at HS
   have hge : decide (r ≥ 0) = false := by simp; omega
   have HQ := Lib.hid (hst.out.symm.trans HS.out)
   clear hst HS
   go_wp2_with (first | (go_at_call 175; refine (utf_First.calls _ _ _ _ hGr HF.out).mono ?_; rintro e w1 ⟨rfl, hb1⟩) | (go_at_call 142; refine (on_is r B g xs _ (hbx.of_below hb1) (by omega) hB (Nat.le_trans hBw (Nat.le_trans hb.1.size hb1.size))).mono ?_; rw [hge]; rintro e w2 ⟨rfl, hbx2, hs2⟩))
   go_ret
   exact ⟨by rw [HQ.out]; rfl, by rw [HQ.out]; exact hbx2, hb.trans ((Stays.of_below hb1 (Nat.le_trans hBw hb.1.size)).trans hs2)⟩
  rw [if_neg hr] at HS
  have hge : decide (r ≥ 0) = true := by simp; omega
  have HQ := Lib.hid (HS.out.symm.trans hst.out)
  clear hst HS
  go_wp2_with (first | (go_at_call 175; refine (utf_First.calls _ _ _ _ hGr HF.out).mono ?_; rintro e w1 ⟨rfl, hb1⟩) | (go_at_call 142; refine (on_is r B g xs _ (hbx.of_below hb1) (by omega) hB (Nat.le_trans hBw (Nat.le_trans hb.1.size hb1.size))).mono ?_; rw [hge]; rintro e w2 ⟨rfl, hbx2, hs2⟩))
  have hall := hb.trans ((Stays.of_below hb1 (Nat.le_trans hBw hb.1.size)).trans hs2)
  go_roundw
  case rel => exact ⟨i + n, k - 1, xs ++ [r], by omega, by omega, by rw [List.length_append]; simp; omega, Lib.hid HQ.out, by go_num, hbx2, hall⟩
  case measure => simp [intOf]; omega
theorem two_set {w2 : World} {B t : Nat} {x y : Value} (h : w2.heap[B]? = some (.cells #[x, y] t (0, 0))) (a b : Value) (o : Obj) :
  (((w2.setCell ⟨B, 0, none⟩ a).setCell ⟨B, 1, none⟩ b).alloc o).cell? ⟨B, 0, none⟩ = some a ∧ (((w2.setCell ⟨B, 0, none⟩ a).setCell ⟨B, 1, none⟩ b).alloc o).cell? ⟨B, 1, none⟩ = some b := by
 have h1 := blk_set h 0 a
 have h2 := blk_set h1 1 b
 have h3 : (((w2.setCell ⟨B, 0, none⟩ a).setCell ⟨B, 1, none⟩ b).alloc o).heap[B]? = some (.cells ((#[x, y].setIfInBounds 0 a).setIfInBounds 1 b) t (0, 0)) := (Lib.alloc_old _ _ _ (Bld.at_lt h2)).trans h2
 exact ⟨by rw [blk_cell h3]; rfl, by rw [blk_cell h3]; rfl⟩
def utf_Decode.f (a0 : ByteArray) : Option (List Int × Int × Int) := if a0.size ≤ 1099511627775 then some (decodeB a0.data.toList) else none
set_option maxHeartbeats 2000000 in
set_option maxRecDepth 100000 in
theorem utf_Decode.calls (a0 : ByteArray) (r1 : List Int) (r2 r3 : Int) (w : World) (hG : Glob.G w) (h : utf_Decode.f a0 = some (r1, r2, r3)) :
  Calls Tryz.prog 115 #[.string a0] w fun e w' => ∃ v0_ : Value, e = .returned (.tuple #[v0_, .agg #[.int .i64 r2, .int .i64 r3]]) ∧ Kd.R (Kd.int .i64) 3 w' w.heap.size (fun _ => True) v0_ r1 ∧ Below w.heap.size w w' := by
 unfold utf_Decode.f at h
 by_cases c : a0.size ≤ 1099511627775
 rotate_left
 · rw [if_neg c] at h; cases h
 rw [if_pos c] at h
 have hL := size_list a0
 unfold decodeB at h
 rw [← hL] at h
 have hH : Glob.G ((w.alloc (.cells #[.int .i64 0, .int .i64 0] 95)).alloc (.cells #[.slice none 0 0] 40)) := hG.below (((Below.refl _ w).alloc (Nat.le_refl _) _).alloc (by simp) _)
 obtain ⟨W0, hW0⟩ : ∃ W0, W0 = (w.alloc (.cells #[.int .i64 0, .int .i64 0] 95)).alloc (.cells #[.slice none 0 0] 40) := ⟨_, rfl⟩
 have hbx : Box w.heap.size (w.heap.size + 1) [] W0 := by
  refine ⟨.slice none 0 0, ?_, ?_⟩
  · rw [hW0]; have := heap_alloc_new (w.alloc (.cells #[.int .i64 0, .int .i64 0] 95)) (.cells #[.slice none 0 0] 40); simpa using this
  · exact ⟨rfl, .inl ⟨rfl, rfl⟩⟩
 have hf0 : W0.heap[w.heap.size]? = some (.cells #[.int .i64 0, .int .i64 0] 95 (0, 0)) := by
  rw [hW0, Lib.alloc_old _ _ _ (by simp)]; exact heap_alloc_new w _
 have hbel : Below w.heap.size w W0 := by rw [hW0]; exact ((Below.refl _ w).alloc (Nat.le_refl _) _).alloc (by simp) _
 have hsz : w.heap.size ≤ W0.heap.size := hbel.size
 have HW := Lib.hid (walk_dec a0 w.heap.size (w.heap.size + 1) W0 w hG hbel rfl c hbx (by omega) hsz)
 subst hW0
 go_enter Tryz.func115, Tryz.ntmps115
 go_wp2_with (first | (go_at_call 141; refine HW.out.mono ?_; rintro e w1 ⟨rfl, hbx1, hs1⟩))
 have hbel1 := hbel.trans hs1.1
 have hG1 := hG.below hbel1
 by_cases q : (goB a0.data.toList).2 < a0.size
 ·
  rw [if_pos q] at h
  simp only [Option.some.injEq, Prod.mk.injEq] at h
  obtain ⟨rfl, rfl, rfl⟩ := h
  have h2 : utf_fault.f a0 (goB a0.data.toList).2 = some (8, ((goB a0.data.toList).2 : Int)) := by unfold utf_fault.f; rw [if_pos (by omega)]
  have H2 := Lib.hid h2
  clear h2 HW q
  go_wp2_with (first | (go_at_call 143; refine (utf_fault.calls _ _ _ _ _ hG1 H2.out).mono ?_; rintro e w2 ⟨rfl, hb2⟩; have hf2 := (hb2.block w.heap.size (Bld.at_lt (hs1.2 _ _ _ hf0 (by decide) (by omega)))).trans (hs1.2 _ _ _ hf0 (by decide) (by omega)); have hc0 : w2.cell? ⟨w.heap.size, 0, none⟩ = some (.int .i64 0) := by { rw [blk_cell hf2]; rfl }; have hc1 : w2.cell? ⟨w.heap.size, 1, none⟩ = some (.int .i64 0) := by { rw [blk_cell hf2]; rfl }; have hz0 := blk_frozen hf2 0; have hz1 := blk_frozen hf2 1; have hz := Bld.at_lt hf2))
  have HBel := Lib.hid (hbel1.trans (hb2.mono hbel1.size))
  have hzz := hb2.size
  go_region
  all_goals
   go_wp2
   have hset := two_set hf2 (.int .i64 8) (.int .i64 (goB a0.data.toList).2) (.cells #[.int .i64 8, .int .i64 (goB a0.data.toList).2] 95)
   refine bodyPost_ret (v := .tuple #[.slice none 0 0, .agg #[.int .i64 8, .int .i64 (goB a0.data.toList).2]]) (by simp [results, Tryz.results115, go_sem, hset.1, hset.2]) rfl ?_
   refine ⟨.slice none 0 0, rfl, Kd.R_nil _ _ _ _ _, ?_⟩
   exact Below.drew ((((HBel.out.setCell (p := ⟨w.heap.size, 0, none⟩) (Nat.le_refl _) _).setCell (p := ⟨w.heap.size, 1, none⟩) (Nat.le_refl _) _).alloc (by simp; omega) _))
 rw [if_neg q] at h
 simp only [Option.some.injEq, Prod.mk.injEq] at h
 obtain ⟨rfl, rfl, rfl⟩ := h
 have h2 : utf_fault.f a0 (goB a0.data.toList).2 = some (0, 0) := by unfold utf_fault.f; rw [if_neg (by omega)]
 have H2 := Lib.hid h2
 clear h2 HW q
 generalize (goB a0.data.toList).2 = n at *
 go_wp2_with (first | (go_at_call 143; refine (utf_fault.calls _ _ _ _ _ hG1 H2.out).mono ?_; rintro e w2 ⟨rfl, hb2⟩; have hf2 := (hb2.block w.heap.size (Bld.at_lt (hs1.2 _ _ _ hf0 (by decide) (by omega)))).trans (hs1.2 _ _ _ hf0 (by decide) (by omega)); have hc0 : w2.cell? ⟨w.heap.size, 0, none⟩ = some (.int .i64 0) := by { rw [blk_cell hf2]; rfl }; have hc1 : w2.cell? ⟨w.heap.size, 1, none⟩ = some (.int .i64 0) := by { rw [blk_cell hf2]; rfl }; have hz0 := blk_frozen hf2 0; have hz1 := blk_frozen hf2 1; have hz := Bld.at_lt hf2; obtain ⟨v, hg2, hown⟩ := (hbx1.of_below hb2).ex; have hcg : w2.cell? ⟨w.heap.size + 1, 0, none⟩ = some v := by { rw [blk_cell hg2]; rfl }; obtain ⟨ao, cap, rfl⟩ := own_slice hown; have hzg := Bld.at_lt hg2))
 have HBel := Lib.hid (hbel1.trans (hb2.mono hbel1.size))
 have hzz := hb2.size
 have hset := two_set hf2 (.int .i64 0) (.int .i64 0) (.cells #[.int .i64 0, .int .i64 0] 95)
 refine bodyPost_ret (v := .tuple #[.slice ao (goB a0.data.toList).1.length cap, .agg #[.int .i64 0, .int .i64 0]]) (by simp [results, Tryz.results115, go_sem, hset.1, hset.2]) rfl ?_
 refine ⟨_, rfl, ?_, ((HBel.out.setCell (p := ⟨w.heap.size, 0, none⟩) (Nat.le_refl _) _).setCell (p := ⟨w.heap.size, 1, none⟩) (Nat.le_refl _) _).alloc (by simp; omega) _⟩
 have hne := own_ne hown hf2 (by decide)
 have hR : Kd.R (Kd.int .i64) 3 w2 w.heap.size (fun k => k ≠ w.heap.size) (.slice ao (goB a0.data.toList).1.length cap) (goB a0.data.toList).1 := Kd.R_of_own hown (fun k hk e => hne (by rw [hk, e]))
 exact Kd.R_mono (Kd.R_alloc (Kd.R_far (Kd.R_far hR (fun k hk => hk) _) (fun k hk => hk) _) _) (fun _ _ => trivial)
theorem goF_signs : ∀ (k : Nat) (l : List UInt8) (i : Nat) (acc : List Int), i ≤ l.length → l.length ≤ i + k →
  (∀ zs, signsF k (l.drop i) = some zs → goF k l i acc = (acc ++ zs, l.length)) ∧ (signsF k (l.drop i) = none → (goF k l i acc).2 < l.length)
 | 0, l, i, acc, h1, h2 => by
  refine And.intro (fun zs h => ?_) (fun h => by simp [signsF] at h)
  simp only [signsF, Option.some.injEq] at h
  subst h
  rw [goF, List.append_nil, show i = l.length by omega]
 | k + 1, l, i, acc, h1, h2 => by
  by_cases c : i < l.length
  rotate_left
  ·
   have hi : i = l.length := by omega
   rw [goF_end _ _ _ _ c, hi, List.drop_length]
   refine And.intro (fun zs h => ?_) (fun h => by simp [signsF] at h)
   simp only [signsF, if_pos, Option.some.injEq] at h
   subst h; rw [List.append_nil]
  have hne : l.drop i ≠ [] := fun e => by have := congrArg List.length e; rw [List.length_drop, List.length_nil] at this; omega
  have hw := dec_len _ hne
  rw [List.length_drop] at hw
  rw [goF, if_pos c, signsF, if_neg hne]
  by_cases d : (dec (l.drop i)).1 < 0
  · rw [if_pos d, if_pos d]; exact ⟨fun zs h => (by cases h), fun _ => c⟩
  rw [if_neg d, if_neg d, List.drop_drop]
  obtain ⟨i1, i2⟩ := goF_signs k l (i + (dec (l.drop i)).2) (acc ++ [(dec (l.drop i)).1]) (by omega) (by omega)
  refine ⟨fun zs h => ?_, fun h => i2 (Option.map_eq_none_iff.1 h)⟩
  obtain ⟨ys, hy, rfl⟩ := Option.map_eq_some_iff.1 h
  rw [i1 ys hy, List.append_assoc]; rfl
theorem decode_some {l : List UInt8} {zs : List Int} (h : signs l = some zs) : decodeB l = (zs, 0, 0) := by
 have := (goF_signs l.length l 0 [] (Nat.zero_le _) (by omega)).1 zs (by rw [List.drop_zero]; exact h)
 unfold decodeB goB
 rw [this, if_neg (by simp)]; rfl
theorem decode_none {l : List UInt8} (h : signs l = none) : decodeB l = ([], 8, ((goB l).2 : Int)) := by
 have := (goF_signs l.length l 0 [] (Nat.zero_le _) (by omega)).2 (by rw [List.drop_zero]; exact h)
 unfold decodeB
 rw [if_pos (show (goB l).2 < l.length from this)]
theorem of_bytes {s : ByteArray} {l : List UInt8} (h : s.data.toList = l) : s = ⟨l.toArray⟩ := by
 cases s with
 | mk d => subst h; rfl
theorem app_bytes (a b : ByteArray) : (a ++ b).data.toList = a.data.toList ++ b.data.toList := by
  rw [ByteArray.data_append, Array.toList_append]
def doubleOf (l : List UInt8) : List UInt8 × Int := match signs l with
 | some zs => (doubleB zs, 0)
 | none => ([], 8)
def quote_Double.f (a0 : ByteArray) : Option (ByteArray × Int) := if a0.size ≤ 1099511627775 then some (⟨(doubleOf a0.data.toList).1.toArray⟩, (doubleOf a0.data.toList).2) else none
theorem signs_len : ∀ (k : Nat) (l : List UInt8) (zs : List Int), signsF k l = some zs → zs.length ≤ l.length
 | 0, l, zs, h => by simp [signsF] at h; subst h; simp
 | k + 1, l, zs, h => by
  unfold signsF at h
  by_cases hn : l = []
  · rw [if_pos hn] at h; cases Option.some.inj h; simp
  rw [if_neg hn] at h
  by_cases hd : (dec l).1 < 0
  · rw [if_pos hd] at h; cases h
  rw [if_neg hd] at h
  obtain ⟨ys, hy, rfl⟩ := Option.map_eq_some_iff.1 h
  have hw := dec_len l hn
  have := signs_len k _ ys hy
  rw [List.length_drop] at this
  rw [List.length_cons]; omega
theorem escs_len (zs : List Int) : (zs.flatMap escS).length ≤ 10 * zs.length := by
 induction zs with
 | nil => simp
 | cons z zs ih => rw [List.flatMap_cons, List.length_append, List.length_cons]; have := escS_len z; omega
set_option maxHeartbeats 1600000 in
set_option maxRecDepth 100000 in
theorem double_ok (s : ByteArray) (zs : List Int) (hs : s.size ≤ 1099511627775) (hz : signs s.data.toList = some zs) (w : World) (hG : Glob.G w) :
  Calls Tryz.prog 85 #[.string s] w fun e w' => e = .returned (.tuple #[.string ⟨(doubleB zs).toArray⟩, .int .i64 0]) ∧ Below w.heap.size w w' := by
 have hlen := signs_len _ _ _ hz
 rw [← size_list] at hlen
 have hall := (signs_some hz).2
 have hD : utf_Decode.f s = some (zs, 0, 0) := by unfold utf_Decode.f; rw [if_pos hs, decode_some hz]
 have HD := Lib.hid hD
 have HA := Lib.hid hall
 clear hD hall hz
 go_enter Tryz.func85, Tryz.ntmps85
 go_wp2_with (go_at_call 115; refine (utf_Decode.calls _ _ _ _ _ hG HD.out).mono ?_; rintro e w1 ⟨v, rfl, hR, hb1⟩; obtain ⟨A, c, rfl⟩ := Kd.R_slice hR)
 have hC := (Kd.R_reads' hR).2.2
 have HG0 : Hid (Glob.G (w1.alloc (.cells #[.int .i64 0, .int .i64 0] 95))) := Lib.hid ((hG.below hb1).below ((Below.refl _ _).alloc (Nat.le_refl _) _))
 have hfr := Lib.fresh_isBuilder 187 5 (w1.alloc (.cells #[.int .i64 0, .int .i64 0] 95))
 have hsz : (w1.alloc (.cells #[.int .i64 0, .int .i64 0] 95)).heap.size = w1.heap.size + 1 := by simp
 go_loopw [21] (fun a wr => ∃ i : Nat, i ≤ zs.length ∧ a = .int .i64 i ∧ St (w1.alloc (.cells #[.int .i64 0, .int .i64 0] 95)) (w1.heap.size + 1) ((zs.take i).flatMap escS) wr) (fun a _ => zs.length - (intOf a).toNat)
 case atStart =>
  refine ⟨0, Nat.zero_le _, rfl, ⟨?_, (Below.refl _ _).alloc (Nat.le_refl _) _⟩⟩
  rw [hsz] at hfr ⊢
  exact Lib.IsBuilderF.of hfr
 case round =>
  obtain ⟨i, hi, rfl, hst⟩ := hrel
  by_cases hlt : i < zs.length
  rotate_left
  ·
   have hc : decide ((i : Int) < (zs.length : Int)) = false := by simp; omega
   have hie : i = zs.length := by omega
   subst hie
   rw [List.take_length] at hst
   have hl2 := escs_len zs
   have hbS := hst.bel
   have hgot := Bld.got _ _ _ _ _ hst.bld hst.bel.size
   obtain ⟨t, ht⟩ : ∃ t : ByteArray, t = ⟨(zs.flatMap escS).toArray⟩ := ⟨_, rfl⟩
   have hts : t.size ≤ 10 * zs.length := by rw [ht]; exact hl2
   rw [← ht] at hgot
   have hfin : ((⟨#[34]⟩ : ByteArray) ++ t) ++ (⟨#[34]⟩ : ByteArray) = ⟨(doubleB zs).toArray⟩ := of_bytes (by rw [app_bytes, app_bytes, ht]; rfl)
   have HF := Lib.hid hfin
   have s1 : 1 + t.size ≤ 9223372036854775807 := by omega
   have s2 : ((⟨#[34]⟩ : ByteArray) ++ t).size + 1 ≤ 9223372036854775807 := by
    rw [size_list, app_bytes, List.length_append, ← size_list t]
    show 1 + t.size + 1 ≤ _
    omega
   clear hC hR hfr hfin ht hl2
   go_wp2_with (go_at_call 56; refine hgot.mono ?_; rintro e w3 ⟨rfl, hb3⟩)
   go_ret2
   refine ⟨by rw [← HF.out]; rfl, ?_⟩
   have q1 := (Below.refl w1.heap.size w1).alloc (Nat.le_refl _) (.cells #[.int .i64 0, .int .i64 0] 95)
   exact hb1.trans ((q1.trans ((hbS.trans hb3).mono (by omega))).mono hb1.size)
  have hc : decide ((i : Int) < (zs.length : Int)) = true := by simp; omega
  obtain ⟨ad, rfl, hx⟩ := Kd.at_int hC (i : Int) (by omega) (by omega)
  rw [rd_at zs i hlt, Int.toNat_natCast] at hx
  have hadlt := World.block_lt_of_cell? w1 _ hx
  have hx0 : (w1.alloc (.cells #[.int .i64 0, .int .i64 0] 95)).cell? (ad.add i) = some (.int .i64 zs[i]) := (((Below.refl w1.heap.size w1).alloc (Nat.le_refl _) _).cell hadlt).trans hx
  have hx1 := (hst.bel.cell (World.block_lt_of_cell? _ _ hx0)).trans hx0
  have p1 : (0 ≤ (i : Int)) = True := eq_true (by omega)
  have p2 : ((i : Int) < (zs.length : Int)) = True := eq_true (by omega)
  have hsg := HA.out zs[i] (List.getElem_mem hlt)
  have htk : (zs.take (i + 1)).flatMap escS = (zs.take i).flatMap escS ++ escS zs[i] := by rw [List.take_succ_eq_append_getElem hlt, List.flatMap_append]; simp
  have HT := Lib.hid htk
  have hl2 := escs_len (zs.take i)
  have hl3 : (zs.take i).length ≤ zs.length := by rw [List.length_take]; omega
  clear htk hx hx0 hC hR hfr
  generalize zs[i] = x at *
  go_wp2_with (go_at_call 116; refine (put_is HG0.out hst x hsg (by omega)).mono ?_; rintro e w2 ⟨rfl, h2, k2⟩)
  go_roundw
  case rel => exact ⟨i + 1, by omega, by go_num, by rw [HT.out]; exact h2⟩
  case measure => simp [intOf]; omega
set_option maxHeartbeats 1600000 in
set_option maxRecDepth 100000 in
theorem double_bad (s : ByteArray) (hs : s.size ≤ 1099511627775) (hz : signs s.data.toList = none) (w : World) (hG : Glob.G w) :
  Calls Tryz.prog 85 #[.string s] w fun e w' => e = .returned (.tuple #[.string ⟨#[]⟩, .int .i64 8]) ∧ Below w.heap.size w w' := by
 have hD : utf_Decode.f s = some ([], 8, ((goB s.data.toList).2 : Int)) := by unfold utf_Decode.f; rw [if_pos hs, decode_none hz]
 have HD := Lib.hid hD
 clear hD hz
 go_enter Tryz.func85, Tryz.ntmps85
 go_wp2_with (go_at_call 115; refine (utf_Decode.calls _ _ _ _ _ hG HD.out).mono ?_; rintro e w1 ⟨v, rfl, hR, hb1⟩; obtain ⟨A, c, rfl⟩ := Kd.R_slice hR)
 go_ret2
 exact ⟨rfl, hb1.trans (((Below.refl w1.heap.size w1).alloc (Nat.le_refl _) _).mono hb1.size)⟩
theorem quote_Double.calls (a0 : ByteArray) (r1 : ByteArray) (r2 : Int) (w : World) (hG : Glob.G w) (h : quote_Double.f a0 = some (r1, r2)) :
  Calls Tryz.prog 85 #[.string a0] w fun e w' => e = .returned (.tuple #[.string r1, .int .i64 r2]) ∧ Below w.heap.size w w' := by
 unfold quote_Double.f at h
 by_cases hs : a0.size ≤ 1099511627775
 rotate_left
 · rw [if_neg hs] at h; cases h
 rw [if_pos hs] at h
 obtain ⟨rfl, rfl⟩ := Prod.mk.inj (Option.some.inj h)
 unfold doubleOf
 cases hz : signs a0.data.toList with
 | some zs => exact double_ok a0 zs hs hz w hG
 | none => exact double_bad a0 hs hz w hG
end Go.Proofs.YtiooacmplmcphaaGreatDoor.Plug
namespace Go.Proofs.YtiooacmplmcphaaGreatDoor.PX
open RowKit YtiooacmplmcphaaGreatDoorW.PrintWords YtiooacmplmcphaaGreatDoorW.PrintLast YtiooacmplmcphaaGreatDoorW.PrintMore YtiooacmplmcphaaGreatDoor YtiooacmplmcphaaGreatDoor.Plug
attribute [local go_sem] max2_int min2_int max_two min_two max_three min_three max_four min_four   -- for this text's walks alone
set_option linter.unusedVariables false
set_option linter.unusedSimpArgs false
def path_text.f (a0 : ByteArray) : Option (ByteArray × Int) := if a0.toList = ([] : List UInt8) then ((quote_Double.f a0).bind fun bt101 => (some (bt101.1, bt101.2))) else ((strings_Trim.f a0 (⟨#[97, 98, 99, 100, 101, 102, 103, 104, 105, 106, 107, 108, 109, 110, 111, 112, 113, 114, 115, 116, 117, 118, 119, 120, 121, 122, 65, 66, 67, 68, 69, 70, 71, 72, 73, 74, 75, 76, 77, 78, 79, 80, 81, 82, 83, 84, 85, 86, 87, 88, 89, 90, 48, 49, 50, 51, 52, 53, 54, 55, 56, 57, 45, 95]⟩ : ByteArray)).bind fun t103 => (if t103.toList = ([] : List UInt8) then (some (a0, 0)) else ((quote_Double.f a0).bind fun bt104 => (some (bt104.1, bt104.2)))))
theorem qua0_ {P : Prop} (h_ : P := by first | ((repeat (first | (with_reducible first | exact HB.out | apply below_alloc | apply pw_below_drewN | apply below_drew1 | (refine Glob.below_set ?_ (by assumption) _ _ _)) | exact HB.out)); done) | (refine Drawn0.below ?_; repeat (first | exact Drawn0.refl _ | assumption | apply Drawn0.step))) : P := h_
theorem qua1_ {P : Prop} (h_ : P := by repeat (first | (with_reducible first | exact HB.out | apply below_alloc | apply pw_below_drewN | apply below_drew1) | exact HB.out)) : P := h_
theorem qua2_ {P : Prop} (h_ : P := by first | rfl | (simp [errW_none, errW_some] <;> rfl) | (simp [*, errW_none, errW_some] <;> rfl)) : P := h_
theorem qua3_ {P : Prop} (h_ : P := by (try simp only [List.map_toArray, List.map_cons, List.map_nil]); first | done | rfl | (simp only [List.length_drop, List.length_take]; rfl)) : P := h_
set_option maxHeartbeats 8000000 in
set_option maxRecDepth 100000 in
theorem path_text.calls (a0 : ByteArray) (r1 : ByteArray) (r2 : Int) (w : World) (hG : Glob.G w) (h : path_text.f a0 = some (r1, r2)) :
  Calls Tryz.prog 54 #[.string a0] w fun e w' => e = .returned (.tuple #[.string r1, .int .i64 r2]) ∧ Below w.heap.size w w' := by
 have HB := Aside0.mk (Below.refl w.heap.size w)
 have H : (if a0.toList = ([] : List UInt8) then ((quote_Double.f a0).bind fun bt101 => (some (bt101.1, bt101.2))) else ((strings_Trim.f a0 (⟨#[97, 98, 99, 100, 101, 102, 103, 104, 105, 106, 107, 108, 109, 110, 111, 112, 113, 114, 115, 116, 117, 118, 119, 120, 121, 122, 65, 66, 67, 68, 69, 70, 71, 72, 73, 74, 75, 76, 77, 78, 79, 80, 81, 82, 83, 84, 85, 86, 87, 88, 89, 90, 48, 49, 50, 51, 52, 53, 54, 55, 56, 57, 45, 95]⟩ : ByteArray)).bind fun t103 => (if t103.toList = ([] : List UInt8) then (some (a0, 0)) else ((quote_Double.f a0).bind fun bt104 => (some (bt104.1, bt104.2)))))) = some (r1, r2) := h
 clear h
 by_cases c2 : a0.toList = ([] : List UInt8)
 ·
  rw [if_pos c2] at H
  have c2b0 : (a0.toList == ([] : List UInt8)) = true := beq_iff_eq.mpr c2
  have c2b1 : (a0.toList != ([] : List UInt8)) = false := bne_eq_false_iff_eq.mpr c2
  clear c2
  replace H := Option.bind_eq_some_iff.mp H
  obtain ⟨⟨t101, t102⟩, A30, H⟩ := H
  replace H : (some (t101, t102)) = some (r1, r2) := H
  have A3 := Aside0.mk A30
  clear A30
  simp only [Option.some.injEq, Prod.mk.injEq] at H
  obtain ⟨rfl, rfl⟩ := H
  go_enter Tryz.func54, Tryz.ntmps54
  go_wp2_with (first | ((with_reducible refine gate_callee (f := 85) rfl ?_); refine goesL_ (some 13) rfl rfl Tryz.func85 (by kernel_rfl) rfl #[.string a0] rfl (qua3_) ?_; (with_reducible refine (quote_Double.calls a0 t101 t102 _ (hG.below (qua0_)) A3.out).mono ?_); rintro e w4 ⟨rfl, hb⟩; refine ⟨_, rfl, ?_⟩; have n0_ := Aside0.mk (below_step (qua1_) hb); clear HB; have HB := n0_; clear n0_; (try clear hb)))
  go_ret2
  exact ⟨qua2_, qua1_⟩
 rw [if_neg c2] at H
 have c2b0 : (a0.toList == ([] : List UInt8)) = false := beq_eq_false_iff_ne.mpr c2
 have c2b1 : (a0.toList != ([] : List UInt8)) = true := bne_iff_ne.mpr c2
 replace H := Option.bind_eq_some_iff.mp H
 obtain ⟨t103, A50, H⟩ := H
 replace H : (if t103.toList = ([] : List UInt8) then (some (a0, 0)) else ((quote_Double.f a0).bind fun bt104 => (some (bt104.1, bt104.2)))) = some (r1, r2) := H
 have A5 := Aside0.mk A50
 clear A50
 by_cases c6 : t103.toList = ([] : List UInt8)
 ·
  rw [if_pos c6] at H
  have c6b0 : (t103.toList == ([] : List UInt8)) = true := beq_iff_eq.mpr c6
  have c6b1 : (t103.toList != ([] : List UInt8)) = false := bne_eq_false_iff_eq.mpr c6
  clear c6
  simp only [Option.some.injEq, Prod.mk.injEq] at H
  obtain ⟨rfl, rfl⟩ := H
  go_enter Tryz.func54, Tryz.ntmps54
  go_wp2_with (first | (go_at_call 84; (with_reducible refine (strings_Trim.calls a0 (⟨#[97, 98, 99, 100, 101, 102, 103, 104, 105, 106, 107, 108, 109, 110, 111, 112, 113, 114, 115, 116, 117, 118, 119, 120, 121, 122, 65, 66, 67, 68, 69, 70, 71, 72, 73, 74, 75, 76, 77, 78, 79, 80, 81, 82, 83, 84, 85, 86, 87, 88, 89, 90, 48, 49, 50, 51, 52, 53, 54, 55, 56, 57, 45, 95]⟩ : ByteArray) t103 _ (hG.below (qua0_)) A5.out).mono ?_); rintro e w7 ⟨rfl, hb⟩; have n0_ := Aside0.mk (below_step (qua1_) hb); clear HB; have HB := n0_; clear n0_; (try clear hb)))
  go_ret2
  exact ⟨qua2_, qua1_⟩
 rw [if_neg c6] at H
 have c6b0 : (t103.toList == ([] : List UInt8)) = false := beq_eq_false_iff_ne.mpr c6
 have c6b1 : (t103.toList != ([] : List UInt8)) = true := bne_iff_ne.mpr c6
 replace H := Option.bind_eq_some_iff.mp H
 obtain ⟨⟨t104, t105⟩, A80, H⟩ := H
 replace H : (some (t104, t105)) = some (r1, r2) := H
 have A8 := Aside0.mk A80
 clear A80
 simp only [Option.some.injEq, Prod.mk.injEq] at H
 obtain ⟨rfl, rfl⟩ := H
 go_enter Tryz.func54, Tryz.ntmps54
 go_wp2_with (first | (go_at_call 84; (with_reducible refine (strings_Trim.calls a0 (⟨#[97, 98, 99, 100, 101, 102, 103, 104, 105, 106, 107, 108, 109, 110, 111, 112, 113, 114, 115, 116, 117, 118, 119, 120, 121, 122, 65, 66, 67, 68, 69, 70, 71, 72, 73, 74, 75, 76, 77, 78, 79, 80, 81, 82, 83, 84, 85, 86, 87, 88, 89, 90, 48, 49, 50, 51, 52, 53, 54, 55, 56, 57, 45, 95]⟩ : ByteArray) t103 _ (hG.below (qua0_)) A5.out).mono ?_); rintro e w9 ⟨rfl, hb⟩; have n0_ := Aside0.mk (below_step (qua1_) hb); clear HB; have HB := n0_; clear n0_; (try clear hb)) | ((with_reducible refine gate_callee (f := 85) rfl ?_); refine goesL_ (some 13) rfl rfl Tryz.func85 (by kernel_rfl) rfl #[.string a0] rfl (qua3_) ?_; (with_reducible refine (quote_Double.calls a0 t104 t105 _ (hG.below (qua0_)) A8.out).mono ?_); rintro e w10 ⟨rfl, hb⟩; refine ⟨_, rfl, ?_⟩; have n0_ := Aside0.mk (below_step (qua1_) hb); clear HB; have HB := n0_; clear n0_; (try clear hb)))
 go_ret2
 exact ⟨qua2_, qua1_⟩
end Go.Proofs.YtiooacmplmcphaaGreatDoor.PX
namespace Go.Proofs.YtiooacmplmcphaaGreatDoor.Plug
open RowKit YtiooacmplmcphaaGreatDoor YtiooacmplmcphaaGreatDoor.PX YtiooacmplmcphaaGreatDoor.Utf YtiooacmplmcphaaGreatDoorW.PrintWords YtiooacmplmcphaaGreatDoorW.PrintLast YtiooacmplmcphaaGreatDoorW.PrintMore
structure Sp (w : World) (b : Nat) (l : List UInt8) (W : World) : Prop where
 bld : Lib.IsBuilderF 106 5 b b (Lib.byteCells l) W
 bel : Below w.heap.size w W
 lo : w.heap.size ≤ b
 hi : b < W.heap.size
theorem Sp.quiet {w : World} {b : Nat} {l : List UInt8} {W W' : World} (h : Sp w b l W) (hb : Below W.heap.size W W') : Sp w b l W' :=
  ⟨bld_below h.bld hb, h.bel.trans (hb.mono h.bel.size), h.lo, Nat.lt_of_lt_of_le h.hi hb.size⟩
theorem Sp.byte {w : World} {b : Nat} {l : List UInt8} {W : World} (h : Sp w b l W) (c : UInt8) (hl : l.length ≤ 70368744177664) :
  Calls Tryz.prog 55 #[.pointer (some ⟨b, 0, none⟩), .int .u8 (c.toNat : Int)] W fun e w' => e = .returned .nilIface ∧ Sp w b (l ++ [c]) w' :=
 (Bld.byte 106 Bld.lies_plain b b _ (c.toNat : Int) W h.bld (by rw [Lib.byteCells_length]; omega) (Nat.le_of_lt h.hi)).mono fun e w' ⟨he, h1, h2, h3⟩ => ⟨he, by rw [Lib.byteCells_append]; exact .inr h1, h.bel.trans (h2.mono h.lo), h.lo, Nat.lt_of_lt_of_le h.hi h2.size⟩
theorem Sp.text {w : World} {b : Nat} {l : List UInt8} {W : World} (h : Sp w b l W) (t : ByteArray) (hl : l.length + t.size ≤ 70368744177664) :
  Calls Tryz.prog 52 #[.pointer (some ⟨b, 0, none⟩), .string t] W fun e w' => ∃ n : Int, e = .returned (.tuple #[.int .i64 n, .nilIface]) ∧ Sp w b (l ++ t.data.toList) w' :=
 (Bld.text 106 Bld.lies_plain b b _ t W h.bld (by rw [Lib.byteCells_length]; omega) (Nat.le_of_lt h.hi)).mono fun e w' ⟨he, h1, h2, h3⟩ => ⟨_, he, by rw [Lib.byteCells_append]; exact .inr h1, h.bel.trans (h2.mono h.lo), h.lo, Nat.lt_of_lt_of_le h.hi h2.size⟩
def keyT (k : List UInt8) : List UInt8 × Int := if k ≠ [] ∧ k.all isLet = true then (k, 0) else doubleOf k
def okStep (x : S98) : Bool := if x.f2 then decide (0 ≤ x.f1) && decide (x.f1 ≤ 999999) else decide (x.f0.size ≤ 256)
def fmtF : Bool → List S98 → List UInt8 → List UInt8 × Int
 | _, [], acc => (acc, 0)
 | first, x :: xs, acc => if x.f2 = true then fmtF false xs (acc ++ (91 :: (Lib.itoa x.f1 ++ [93]))) else
   if (keyT x.f0.data.toList).2 ≠ 0 then ([], (keyT x.f0.data.toList).2) else fmtF false xs (acc ++ ((if first then [] else [46]) ++ (keyT x.f0.data.toList).1))
def fmtB (l : List S98) : List UInt8 × Int := if 64 < l.length then ([], 5) else if l.all okStep = true then fmtF true l [] else ([], 5)
def path_Format.f (l0 : List S98) : Option (ByteArray × Int) := some (⟨(fmtB l0).1.toArray⟩, (fmtB l0).2)
theorem trim_let_all (l : List UInt8) : Lib.trimS l letters.data.toList = [] ↔ l.all isLet = true := by
 rw [trim_none, List.all_eq_true]
 exact ⟨fun h x hx => by rw [← let_contains]; exact h x hx, fun h x hx => by rw [let_contains]; exact h x hx⟩
theorem text_of (k : ByteArray) (hk : k.size ≤ 1099511627775) : path_text.f k = some (⟨(keyT k.data.toList).1.toArray⟩, (keyT k.data.toList).2) := by
 have hd : quote_Double.f k = some (⟨(doubleOf k.data.toList).1.toArray⟩, (doubleOf k.data.toList).2) := by unfold quote_Double.f; rw [if_pos hk]
 have ht : strings_Trim.f k letters = some ⟨(Lib.trimS k.data.toList letters.data.toList).toArray⟩ := by unfold strings_Trim.f; rw [if_pos ⟨by omega, by decide, by decide⟩]
 unfold path_text.f keyT
 by_cases h : k.data.toList = []
 · rw [Lib.toList_data, if_pos h, hd, Option.bind_some, if_neg (fun e => e.1 h)]
 rw [Lib.toList_data, if_neg h, show (⟨#[97, 98, 99, 100, 101, 102, 103, 104, 105, 106, 107, 108, 109, 110, 111, 112, 113, 114, 115, 116, 117, 118, 119, 120, 121, 122, 65, 66, 67, 68, 69, 70, 71, 72, 73, 74, 75, 76, 77, 78, 79, 80, 81, 82, 83, 84, 85, 86, 87, 88, 89, 90, 48, 49, 50, 51, 52, 53, 54, 55, 56, 57, 45, 95]⟩ : ByteArray) = letters from rfl, ht, Option.bind_some, Lib.toList_data]
 by_cases c : k.data.toList.all isLet = true
 · rw [if_pos ((trim_let_all _).2 c), if_pos ⟨h, c⟩]
 rw [if_neg (fun e => c ((trim_let_all _).1 e)), if_neg (fun e => c e.2), hd]; rfl
theorem keyT_len (k : List UInt8) : (keyT k).1.length ≤ 2 + 10 * k.length := by
 unfold keyT doubleOf
 split
 · dsimp only; omega
 ·
  split
  ·
   rename_i zs hz
   have := signs_len _ _ _ hz
   have := escs_len zs
   rw [doubleB_len]; omega
  · simp
set_option maxHeartbeats 3200000 in
set_option maxRecDepth 100000 in
theorem path_Format.calls (A0 : Option Addr) (c0 : Nat) (l0 : List S98) (r1 : ByteArray) (r2 : Int) (w : World) (hr0 : Kd.C k98 w A0 l0.length l0) (_hc0 : l0.length ≤ c0) (hG : Glob.G w) (h : path_Format.f l0 = some (r1, r2)) :
    Calls Tryz.prog 28 #[.slice A0 l0.length c0] w fun e w' => e = .returned (.tuple #[.string r1, .int .i64 r2]) ∧ Below w.heap.size w w' := by
  unfold path_Format.f at h
  obtain ⟨rfl, rfl⟩ := Prod.mk.inj (Option.some.inj h)
  clear h
  have HG := Lib.hid hG
  have HR := Lib.hid hr0
  clear hG hr0
  unfold fmtB
  by_cases c64 : 64 < l0.length
  · rw [if_pos c64]
    have k0 : decide ((l0.length : Int) > 64) = true := decide_eq_true (by omega)
    go_enter Tryz.func28, Tryz.ntmps28
    go_wp2
    go_ret2
    exact ⟨rfl, Below.refl _ _⟩
  · rw [if_neg c64]
    have k0 : decide ((l0.length : Int) > 64) = false := decide_eq_false (by omega)
    obtain ⟨R, hR⟩ : ∃ R, (if l0.all okStep = true then fmtF true l0 [] else ([], 5)) = R := ⟨_, rfl⟩
    rw [hR]
    have HRR := Lib.hid hR
    clear hR
    go_enter Tryz.func28, Tryz.ntmps28
    go_wp2
    go_loopw [16] (fun i wr => ∃ k : Nat, k ≤ l0.length ∧ i = .int .i64 k ∧ Hid ((l0.take k).all okStep = true) ∧ Hid (Below w.heap.size w wr)) (fun i _ => l0.length - (intOf i).toNat)
    case atStart => exact ⟨0, Nat.zero_le _, rfl, Lib.hid rfl, Lib.hid (Below.refl _ _)⟩
    case round =>
      obtain ⟨k, hk, rfl, HT, HB⟩ := hrel
      by_cases hlt : k < l0.length
      · have hc : decide ((k : Int) < (l0.length : Int)) = true := decide_eq_true (by omega)
        obtain ⟨ad, eA, hx0, hx1, hx2⟩ := at_T98 HR.out (k : Int) (by omega) (by omega)
        subst eA
        rw [show rd_T98 l0 (k : Int) = l0[k] from by unfold rd_T98; rw [Int.toNat_natCast, List.getD_eq_getElem?_getD, List.getElem?_eq_getElem hlt]; rfl] at hx0 hx1 hx2
        replace hx0 := (HB.out.cell (World.block_lt_of_cell? w _ hx0)).trans hx0
        replace hx1 := (HB.out.cell (World.block_lt_of_cell? w _ hx1)).trans hx1
        replace hx2 := (HB.out.cell (World.block_lt_of_cell? w _ hx2)).trans hx2
        have p1 : (0 ≤ (k : Int)) = True := eq_true (by omega)
        have p2 : ((k : Int) < (l0.length : Int)) = True := eq_true (by omega)
        have htk : (l0.take (k + 1)).all okStep = okStep l0[k] := by
          rw [List.take_succ_eq_append_getElem hlt, List.all_append, HT.out]; simp
        have HTK := Lib.hid htk
        have HNO : Hid (okStep l0[k] = false → R = ([], 5)) := Lib.hid (fun hf => by
          rw [← HRR.out, if_neg]
          intro ha
          rw [List.all_eq_true] at ha
          have := ha l0[k] (List.getElem_mem hlt)
          rw [hf] at this; cases this)
        clear htk
        generalize l0[k] = x at *
        obtain ⟨xk, xi, xa⟩ := x
        have hbx := HB.out.alloc HB.out.size (.cells #[.string xk, .int .i64 xi, .bool xa] 98)
        have HBX := Lib.hid hbx
        clear hbx
        simp only [Int.toNat_natCast] at hx0 hx1 hx2
        cases xa with
        | true =>
          by_cases c1 : xi < 0
          · have d1 : decide (xi < 0) = true := decide_eq_true c1
            have HOK : Hid (okStep ⟨xk, xi, true⟩ = false) := Lib.hid (by simp [okStep]; omega)
            clear c1
            have HR2 := Lib.hid (HNO.out HOK.out)
            go_wp2
            go_ret2
            exact ⟨by rw [HR2.out]; rfl, HBX.out⟩
          · have d1 : decide (xi < 0) = false := decide_eq_false c1
            by_cases c2 : xi > 999999
            · have d2 : decide (xi > 999999) = true := decide_eq_true c2
              have HOK : Hid (okStep ⟨xk, xi, true⟩ = false) := Lib.hid (by simp [okStep]; omega)
              clear c1 c2
              have HR2 := Lib.hid (HNO.out HOK.out)
              go_wp2
              go_ret2
              exact ⟨by rw [HR2.out]; rfl, HBX.out⟩
            · have d2 : decide (xi > 999999) = false := decide_eq_false c2
              have HOK : Hid (okStep ⟨xk, xi, true⟩ = true) := Lib.hid (by simp [okStep]; omega)
              clear c1 c2
              go_wp2
              go_roundw
              case rel => exact ⟨k + 1, by omega, by go_num, Lib.hid (by rw [HTK.out]; exact HOK.out), HBX⟩
              case measure => simp [intOf]; omega
        | false =>
          by_cases c1 : 256 < xk.size
          · have d1 : decide ((xk.size : Int) > 256) = true := decide_eq_true (by omega)
            have HOK : Hid (okStep ⟨xk, xi, false⟩ = false) := Lib.hid (by simp [okStep]; omega)
            clear c1
            have HR2 := Lib.hid (HNO.out HOK.out)
            go_wp2
            go_ret2
            exact ⟨by rw [HR2.out]; rfl, HBX.out⟩
          · have d1 : decide ((xk.size : Int) > 256) = false := decide_eq_false (by omega)
            have HOK : Hid (okStep ⟨xk, xi, false⟩ = true) := Lib.hid (by simp [okStep]; omega)
            clear c1
            go_wp2
            go_roundw
            case rel => exact ⟨k + 1, by omega, by go_num, Lib.hid (by rw [HTK.out]; exact HOK.out), HBX⟩
            case measure => simp [intOf]; omega
      · have hc : decide ((k : Int) < (l0.length : Int)) = false := decide_eq_false (by omega)
        have hall := HT.out
        rw [List.take_of_length_le (by omega)] at hall
        have HF : Hid (fmtF true l0 [] = R) := Lib.hid (by rw [← HRR.out, if_pos hall])
        have HA := Lib.hid hall
        have hfr := Lib.fresh_isBuilder 106 5 wr
        have hS : Sp w wr.heap.size [] (wr.alloc (.cells #[.pointer none, .slice none 0 0] 106)) := ⟨Lib.IsBuilderF.of hfr, HB.out.alloc HB.out.size _, HB.out.size, by simp⟩
        obtain ⟨w1, rfl⟩ : ∃ w1 : World, w1 = wr := ⟨_, rfl⟩
        have HS0 := Lib.hid hS
        have hk64 : l0.length ≤ 64 := by omega
        clear hall HRR HT hfr hS HB
        go_wp2
        go_loopw [46] (fun i wr => ∃ (k : Nat) (acc : List UInt8), k ≤ l0.length ∧ i = .int .i64 k ∧ Hid (fmtF (decide (k = 0)) (l0.drop k) acc = R) ∧ Hid (acc.length ≤ k * 3000) ∧ Hid (Sp w w1.heap.size acc wr)) (fun i _ => l0.length - (intOf i).toNat)
        case atStart => exact ⟨0, [], Nat.zero_le _, rfl, HF, Lib.hid (Nat.le_refl _), HS0⟩
        case round =>
          clear HF HS0
          obtain ⟨k, acc, hk, rfl, HF, HL, HS⟩ := hrel
          by_cases hlt : k < l0.length
          · have hc : decide ((k : Int) < (l0.length : Int)) = true := decide_eq_true (by omega)
            obtain ⟨ad, eA, hx0, hx1, hx2⟩ := at_T98 HR.out (k : Int) (by omega) (by omega)
            subst eA
            rw [show rd_T98 l0 (k : Int) = l0[k] from by unfold rd_T98; rw [Int.toNat_natCast, List.getD_eq_getElem?_getD, List.getElem?_eq_getElem hlt]; rfl] at hx0 hx1 hx2
            replace hx0 := (HS.out.bel.cell (World.block_lt_of_cell? w _ hx0)).trans hx0
            replace hx1 := (HS.out.bel.cell (World.block_lt_of_cell? w _ hx1)).trans hx1
            replace hx2 := (HS.out.bel.cell (World.block_lt_of_cell? w _ hx2)).trans hx2
            have p1 : (0 ≤ (k : Int)) = True := eq_true (by omega)
            have p2 : ((k : Int) < (l0.length : Int)) = True := eq_true (by omega)
            have hok : okStep l0[k] = true := List.all_eq_true.1 HA.out _ (List.getElem_mem hlt)
            have hf := HF.out
            rw [List.drop_eq_getElem_cons hlt] at hf
            have hal := HL.out
            have haL : acc.length ≤ 64 * 3000 := Nat.le_trans hal (Nat.mul_le_mul_right _ (by omega))
            generalize l0[k] = x at *
            obtain ⟨xk, xi, xa⟩ := x
            have HBX := Lib.hid (HS.out.quiet ((Below.refl _ _).alloc (Nat.le_refl _) (.cells #[.string xk, .int .i64 xi, .bool xa] 98)))
            simp only [Int.toNat_natCast] at hx0 hx1 hx2
            have hd1 : (decide (k + 1 = 0)) = false := decide_eq_false (by omega)
            cases xa with
            | true =>
              have hxi : 0 ≤ xi ∧ xi ≤ 999999 := by simpa [okStep] using hok
              have hT : strconv_Itoa.f xi = some ⟨(Lib.itoa xi).toArray⟩ := by unfold strconv_Itoa.f; rw [if_pos (by omega)]
              have hTs : (⟨(Lib.itoa xi).toArray⟩ : ByteArray).size ≤ 21 := Lib.itoa_length_le xi (by omega) (by omega)
              have hTl : (⟨(Lib.itoa xi).toArray⟩ : ByteArray).data.toList = Lib.itoa xi := rfl
              rw [fmtF, if_pos rfl] at hf
              generalize (⟨(Lib.itoa xi).toArray⟩ : ByteArray) = T at *
              have HT := Lib.hid hT
              have s1 : 1 + T.size ≤ 9223372036854775807 := by omega
              have s2 : 1 + T.size + 1 ≤ 9223372036854775807 := by omega
              have happ : (((⟨#[91]⟩ : ByteArray) ++ T) ++ (⟨#[93]⟩ : ByteArray)).data.toList = 91 :: (Lib.itoa xi ++ [93]) := by rw [app_bytes, app_bytes, hTl]; rfl
              have hsz : (((⟨#[91]⟩ : ByteArray) ++ T) ++ (⟨#[93]⟩ : ByteArray)).size ≤ 23 := by
                rw [size_list, happ, ← hTl, List.length_cons, List.length_append, ← size_list]; simp; omega
              have HAP := Lib.hid happ; have HSZ := Lib.hid hsz; have HF2 := Lib.hid hf; have HTL := Lib.hid hTl
              clear hT hTl happ hsz hf hok HF HS
              go_wp2_with (first | (go_at_call 53; refine (strconv_Itoa.calls _ _ _ (HG.out.below HBX.out.bel) HT.out).mono ?_; rintro e w2 ⟨rfl, hb2⟩; have HS2 := Lib.hid (HBX.out.quiet hb2); clear hb2) | (go_at_call 52; refine (HS2.out.text _ (by have := HSZ.out; omega)).mono ?_; rintro e w3 ⟨n3, rfl, hS3⟩; have HS3 := Lib.hid hS3; clear hS3))
              go_roundw
              case rel => exact ⟨k + 1, _, by omega, by go_num, Lib.hid (by rw [hd1]; exact HF2.out), Lib.hid (by have := HSZ.out; rw [size_list, HAP.out] at this; rw [List.length_append]; have := HL.out; omega), by rw [HAP.out] at HS3; exact HS3⟩
              case measure => simp [intOf]; omega
            | false =>
              have hxk : xk.size ≤ 256 := by simpa [okStep] using hok
              have hT := text_of xk (by omega)
              have hkl := keyT_len xk.data.toList
              rw [← size_list] at hkl
              rw [fmtF, if_neg Bool.false_ne_true] at hf
              dsimp only at hf
              generalize keyT xk.data.toList = kt at *
              obtain ⟨kl, ke⟩ := kt
              dsimp only at hT hkl hf
              have hTl : (⟨kl.toArray⟩ : ByteArray).data.toList = kl := rfl
              have hTs : (⟨kl.toArray⟩ : ByteArray).size = kl.length := rfl
              generalize (⟨kl.toArray⟩ : ByteArray) = T at *
              have hkl2 : T.size ≤ 2562 := by omega
              have HT := Lib.hid hT
              have HKL := Lib.hid hkl2
              have HTL := Lib.hid hTl
              clear hT hkl hTl hTs hok HF HS hkl2
              by_cases he : ke = 0
              · rw [if_neg (fun e => e he)] at hf
                subst he
                by_cases hk0 : k = 0
                · have d1 : decide ((k : Int) > 0) = false := decide_eq_false (by omega)
                  have d2 : decide (0 < k) = false := decide_eq_false (by omega)
                  have d3 : (0 < k) = False := eq_false (by omega)
                  have HF2 : Hid (fmtF false (l0.drop (k + 1)) (acc ++ kl) = R) := Lib.hid (by rw [decide_eq_true hk0] at hf; simpa using hf)
                  clear hf hk0
                  go_wp2_with (first | (go_at_call 54; refine (path_text.calls _ _ _ _ (HG.out.below HBX.out.bel) HT.out).mono ?_; rintro e w2 ⟨rfl, hb2⟩; have HS2 := Lib.hid (HBX.out.quiet hb2); clear hb2) | (go_at_call 52; refine (HS2.out.text T (by have := HKL.out; omega)).mono ?_; rintro e w4 ⟨n4, rfl, hS4⟩; have HS4 := Lib.hid hS4; clear hS4))
                  go_roundw
                  case rel => exact ⟨k + 1, _, by omega, by go_num, Lib.hid (by rw [hd1]; exact HF2.out), Lib.hid (by have := HKL.out; rw [size_list, HTL.out] at this; rw [List.length_append]; have := HL.out; omega), by rw [HTL.out] at HS4; exact HS4⟩
                  case measure => simp [intOf]; omega
                · have d1 : decide ((k : Int) > 0) = true := decide_eq_true (by omega)
                  have d2 : decide (0 < k) = true := decide_eq_true (by omega)
                  have d3 : (0 < k) = True := eq_true (by omega)
                  have HF2 : Hid (fmtF false (l0.drop (k + 1)) (acc ++ [46] ++ kl) = R) := Lib.hid (by rw [decide_eq_false hk0] at hf; simpa using hf)
                  clear hf hk0
                  go_wp2_with (first | (go_at_call 54; refine (path_text.calls _ _ _ _ (HG.out.below HBX.out.bel) HT.out).mono ?_; rintro e w2 ⟨rfl, hb2⟩; have HS2 := Lib.hid (HBX.out.quiet hb2); clear hb2) | (go_at_call 55; refine (HS2.out.byte 46 (by omega)).mono ?_; rintro e w3 ⟨rfl, hS3⟩; have HS3 := Lib.hid hS3; clear hS3) | (go_at_call 52; refine (HS3.out.text T (by rw [List.length_append, List.length_singleton]; have := HKL.out; omega)).mono ?_; rintro e w4 ⟨n4, rfl, hS4⟩; have HS4 := Lib.hid hS4; clear hS4))
                  go_roundw
                  case rel => exact ⟨k + 1, _, by omega, by go_num, Lib.hid (by rw [hd1]; exact HF2.out), Lib.hid (by have := HKL.out; rw [size_list, HTL.out] at this; rw [List.length_append, List.length_append, List.length_singleton]; have := HL.out; omega), by rw [HTL.out] at HS4; exact HS4⟩
                  case measure => simp [intOf]; omega
              · rw [if_pos he] at hf
                have e1 : (ke != 0) = true := bne_iff_ne.2 he
                have e2 : (ke == 0) = false := beq_eq_false_iff_ne.2 he
                have HF2 := Lib.hid hf
                clear hf he
                go_wp2_with (go_at_call 54; refine (path_text.calls _ _ _ _ (HG.out.below HBX.out.bel) HT.out).mono ?_; rintro e w2 ⟨rfl, hb2⟩; have HS2 := Lib.hid (HBX.out.quiet hb2); clear hb2)
                go_ret2
                exact ⟨by rw [← HF2.out]; rfl, HS2.out.bel⟩
          · have hc : decide ((k : Int) < (l0.length : Int)) = false := decide_eq_false (by omega)
            have hf := HF.out
            rw [List.drop_of_length_le (by omega), fmtF] at hf
            have HF2 := Lib.hid hf
            have hgot := Bld.got _ _ _ _ _ HS.out.bld (Nat.le_of_lt HS.out.hi)
            have HGT := Lib.hid hgot
            clear hf hgot HF
            go_wp2_with (go_at_call 56; refine HGT.out.mono ?_; rintro e w3 ⟨rfl, hb3⟩)
            go_ret2
            exact ⟨by rw [← HF2.out]; rfl, HS.out.bel.trans (hb3.mono HS.out.lo)⟩
end Go.Proofs.YtiooacmplmcphaaGreatDoor.Plug

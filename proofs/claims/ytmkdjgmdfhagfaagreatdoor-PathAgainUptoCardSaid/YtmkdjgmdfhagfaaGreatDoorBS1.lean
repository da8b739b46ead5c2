/- Texts that stand behind one another, laid into one: what this claim needs of them. -/
import Derived.Test.YtmkdjgmdfhagfaaGreatDoorBS0
import Derived.Lib.DecodeNEq
import Derived.Lib.Strings
import Derived.Deep.LoopGhost
import Derived.Lib.AppendIntMem
import Derived.Outline
import Derived.Deep.QuietTactic
import Derived.BigQuiet
import Derived.Test.YtmkdjgmdfhagfaaGreatDoorProg
import Derived.Lib.OthersKept
import Derived.Lib.FrozenHead2
import Derived.Lib.RuneBytes
import Derived.Lib.Walk
import Derived.Lib.UnsafeStr
import Derived.Lib.AppendStr
import Derived.Lib.Hide
import Derived.WalkKit
import Derived.WalkSmall
import Derived.RowKit
import Derived.KernelRfl
import Derived.Laws.Externs
import Derived.Laws.IdiomCopy
import Derived.Laws.BitsLemmas
import Derived.Lib.MapLaws
import Derived.Lib.SlTrimSet

/- YtmkdjgmdfhagfaaGreatDoorFGrommetref01Guess: what print.py told of Go functions, for this claim. -/
namespace Go.Proofs.YtmkdjgmdfhagfaaGreatDoor.PX
open Go.RowKit Go.Proofs.YtmkdjgmdfhagfaaGreatDoorW.PrintWords Go.Proofs.YtmkdjgmdfhagfaaGreatDoorW.PrintLast Go.Proofs.YtmkdjgmdfhagfaaGreatDoorW.PrintMore Go.Proofs.YtmkdjgmdfhagfaaGreatDoor
attribute [local go_sem] max2_int min2_int max_two min_two max_three min_three max_four min_four   -- for this text's walks alone
set_option linter.unusedVariables false
set_option linter.unusedSimpArgs false

/-! ### grommetref01_guess: function 91 -/
def grommetref01_guess.l0 : Nat → ByteArray → Int → Int → Int → Option (Int)
  | 0, _, _, _, _ => none
  | k + 1, x0, x1, x6, x7 => if x7 < x1 then (if 0 ≤ x7 then (if x7 < (x0.size : Int) then (grommetref01_guess.l0 k x0 x1 (wrap64 ((wrap64 ((wrap64 (x6 * 64)) + (wrap64 (bt x0 x7)))) - 128)) (wrap64 (x7 + 1))) else (none)) else (none)) else (some x6)
def grommetref01_guess.f (k : Nat) (a0 : ByteArray) (a1 : Int) : Option (Int) := (some (([0, 0, 192, 224, 240] : List Int) : List Int)).bind fun y101 => (if 0 < (a0.size : Int) then (if 0 ≤ a1 then (if a1 < (y101.length : Int) then (grommetref01_guess.l0 k a0 a1 (wrap64 ((wrap64 (bt a0 0)) - (rd y101 a1))) 1) else (none)) else (none)) else (none))
set_option maxHeartbeats 8000000 in
set_option maxRecDepth 100000 in
theorem grommetref01_guess.calls (k : Nat) (a0 : ByteArray) (a1 : Int) (r : Int) (w : World) (hG : Glob.G w) (h : grommetref01_guess.f k a0 a1 = some r) :
    Calls Tryz.prog 91 #[.string a0, .int .i64 a1] w fun e w' => e = .returned (.int .i64 r) ∧ Below w.heap.size w w' := by
  have HB := Aside0.mk (Below.refl w.heap.size w)
  have H : ((some (([0, 0, 192, 224, 240] : List Int) : List Int)).bind fun y101 => (if 0 < (a0.size : Int) then (if 0 ≤ a1 then (if a1 < (y101.length : Int) then (grommetref01_guess.l0 k a0 a1 (wrap64 ((wrap64 (bt a0 0)) - (rd y101 a1))) 1) else (none)) else (none)) else (none))) = some r := h
  clear h
  obtain ⟨y101, hy101⟩ : ∃ y_ : List Int, y_ = (([0, 0, 192, 224, 240] : List Int)) := ⟨_, rfl⟩
  replace H : (if 0 < (a0.size : Int) then (if 0 ≤ a1 then (if a1 < (y101.length : Int) then (grommetref01_guess.l0 k a0 a1 (wrap64 ((wrap64 (bt a0 0)) - (rd y101 a1))) 1) else (none)) else (none)) else (none)) = some r := by first | (rw [hy101]; with_reducible exact H) | (have H2_ := (Option.bind_some _ _).symm.trans H; rw [hy101]; with_reducible exact H2_) | (have H2_ := (Option.bind_some _ _).symm.trans H; with_reducible exact H2_) | with_reducible exact H | (rw [hy101]; exact H) | exact H
  have Ny101 := Aside0.mk hy101
  clear hy101
  by_cases c3 : 0 < (a0.size : Int)
  · rw [if_pos c3] at H
    have c3b0 : decide (0 < (a0.size : Int)) = true := decide_eq_true c3
    have c3b1 : decide (0 < a0.size) = true := decide_eq_true (by omega)
    clear c3
    by_cases c5 : 0 ≤ a1
    · rw [if_pos c5] at H
      have c5b0 : decide (0 ≤ a1) = true := decide_eq_true c5
      clear c5
      by_cases c6 : a1 < (y101.length : Int)
      · rw [if_pos c6] at H
        have c6b0 : decide (a1 < (y101.length : Int)) = true := decide_eq_true c6
        clear c6
        have H' := Aside0.mk H
        clear H
        go_enter Tryz.func91, Tryz.ntmps91
        go_wp2_with (first | ((with_reducible refine gate_dst (N := 8) rfl ?_); refine Kd.R_lit (Kd.int .i64) _ 3 ?hg (N := 8) ?hd (xs := ([0, 0, 192, 224, 240] : List Int)) (inner := [.int .i64 0, .int .i64 0, .int .i64 192, .int .i64 224, .int .i64 240]) (ok := fun _ => True) (okp := fun _ => True) ?hr ?hp (fun _ hk => hk) trivial (Below.refl _ _) (Nat.le_refl _) (by simp) ?_; (case hd => rfl); (case hg => rfl); (case hr => first | (go_simp; done) | (go_simp; rfl)); (case hp => exact (Reps.one (show Kd.M (Kd.int .i64) _ _ _ 0 [.int .i64 0] from rfl) (Reps.one (show Kd.M (Kd.int .i64) _ _ _ 0 [.int .i64 0] from rfl) (Reps.one (show Kd.M (Kd.int .i64) _ _ _ 192 [.int .i64 192] from rfl) (Reps.one (show Kd.M (Kd.int .i64) _ _ _ 224 [.int .i64 224] from rfl) (Reps.one (show Kd.M (Kd.int .i64) _ _ _ 240 [.int .i64 240] from rfl) (Reps.none _ _))))))); intro v102 w7 ho8 hb hg_ hnew_; clear hg_ hnew_; (first | rw [← Ny101.out] at ho8 | (simp only [Int.reduceToNat] at ho8; rw [← Ny101.out] at ho8)); have n0_ := Aside0.mk (Kd.R_lower ho8 (below_size (by repeat (first | (with_reducible first | exact HB.out | apply below_alloc | apply pw_below_drewN | apply below_drew1) | exact HB.out)))); have n1_ := Aside0.mk (below_step (by repeat (first | (with_reducible first | exact HB.out | apply below_alloc | apply pw_below_drewN | apply below_drew1) | exact HB.out)) hb); clear HB; have HO103 := n0_; have HB := n1_; clear n0_ n1_; clear hb ho8; have p4 : 0 ≤ (0 : Int) := (by omega); have q4 : 0 < a0.size := (by have : (0 : Int) < (a0.size : Int) := of_decide_eq_true (by first | (with_reducible assumption) | assumption); omega); have hx4 : ∀ h : 0 < a0.size, ((a0[0]'h).toNat : Int) = bt a0 0 := bt_at a0 0; clear p4; have qi4 : (0 < (a0.size : Int)) = True := eq_true (of_decide_eq_true (by first | (with_reducible assumption) | assumption)); replace q4 := eq_true q4; obtain ⟨Ao9, co9, eo9⟩ := Kd.R_slice HO103.out; subst eo9; have p104 : 0 ≤ (a1 : Int) := of_decide_eq_true (by first | (with_reducible assumption) | assumption); have q104 : a1 < (y101.length : Int) := of_decide_eq_true (by first | (with_reducible assumption) | assumption); obtain ⟨ad104, e104, hx104_0⟩ := Kd.at_int (Kd.R_reads' HO103.out).2.2 a1 p104 q104; cases e104; replace p104 := eq_true p104; replace q104 := eq_true q104))
        repeat (go_quiet (first | ((with_reducible refine gate_dst (N := 8) rfl ?_); refine Kd.R_lit (Kd.int .i64) _ 3 ?hg (N := 8) ?hd (xs := ([0, 0, 192, 224, 240] : List Int)) (inner := [.int .i64 0, .int .i64 0, .int .i64 192, .int .i64 224, .int .i64 240]) (ok := fun _ => True) (okp := fun _ => True) ?hr ?hp (fun _ hk => hk) trivial (Below.refl _ _) (Nat.le_refl _) (by simp) ?_; (case hd => rfl); (case hg => rfl); (case hr => first | (go_simp; done) | (go_simp; rfl)); (case hp => exact (Reps.one (show Kd.M (Kd.int .i64) _ _ _ 0 [.int .i64 0] from rfl) (Reps.one (show Kd.M (Kd.int .i64) _ _ _ 0 [.int .i64 0] from rfl) (Reps.one (show Kd.M (Kd.int .i64) _ _ _ 192 [.int .i64 192] from rfl) (Reps.one (show Kd.M (Kd.int .i64) _ _ _ 224 [.int .i64 224] from rfl) (Reps.one (show Kd.M (Kd.int .i64) _ _ _ 240 [.int .i64 240] from rfl) (Reps.none _ _))))))); intro v102 w7 ho8 hb hg_ hnew_; clear hg_ hnew_; (first | rw [← Ny101.out] at ho8 | (simp only [Int.reduceToNat] at ho8; rw [← Ny101.out] at ho8)); have n0_ := Aside0.mk (Kd.R_lower ho8 (below_size (by repeat (first | (with_reducible first | exact HB.out | apply below_alloc | apply pw_below_drewN | apply below_drew1) | exact HB.out)))); have n1_ := Aside0.mk (below_step (by repeat (first | (with_reducible first | exact HB.out | apply below_alloc | apply pw_below_drewN | apply below_drew1) | exact HB.out)) hb); clear HB; have HO103 := n0_; have HB := n1_; clear n0_ n1_; clear hb ho8; have p4 : 0 ≤ (0 : Int) := (by omega); have q4 : 0 < a0.size := (by have : (0 : Int) < (a0.size : Int) := of_decide_eq_true (by first | (with_reducible assumption) | assumption); omega); have hx4 : ∀ h : 0 < a0.size, ((a0[0]'h).toNat : Int) = bt a0 0 := bt_at a0 0; clear p4; have qi4 : (0 < (a0.size : Int)) = True := eq_true (of_decide_eq_true (by first | (with_reducible assumption) | assumption)); replace q4 := eq_true q4; obtain ⟨Ao9, co9, eo9⟩ := Kd.R_slice HO103.out; subst eo9; have p104 : 0 ≤ (a1 : Int) := of_decide_eq_true (by first | (with_reducible assumption) | assumption); have q104 : a1 < (y101.length : Int) := of_decide_eq_true (by first | (with_reducible assumption) | assumption); obtain ⟨ad104, e104, hx104_0⟩ := Kd.at_int (Kd.R_reads' HO103.out).2.2 a1 p104 q104; cases e104; replace p104 := eq_true p104; replace q104 := eq_true q104)); try go_wp2_with (first | ((with_reducible refine gate_dst (N := 8) rfl ?_); refine Kd.R_lit (Kd.int .i64) _ 3 ?hg (N := 8) ?hd (xs := ([0, 0, 192, 224, 240] : List Int)) (inner := [.int .i64 0, .int .i64 0, .int .i64 192, .int .i64 224, .int .i64 240]) (ok := fun _ => True) (okp := fun _ => True) ?hr ?hp (fun _ hk => hk) trivial (Below.refl _ _) (Nat.le_refl _) (by simp) ?_; (case hd => rfl); (case hg => rfl); (case hr => first | (go_simp; done) | (go_simp; rfl)); (case hp => exact (Reps.one (show Kd.M (Kd.int .i64) _ _ _ 0 [.int .i64 0] from rfl) (Reps.one (show Kd.M (Kd.int .i64) _ _ _ 0 [.int .i64 0] from rfl) (Reps.one (show Kd.M (Kd.int .i64) _ _ _ 192 [.int .i64 192] from rfl) (Reps.one (show Kd.M (Kd.int .i64) _ _ _ 224 [.int .i64 224] from rfl) (Reps.one (show Kd.M (Kd.int .i64) _ _ _ 240 [.int .i64 240] from rfl) (Reps.none _ _))))))); intro v102 w7 ho8 hb hg_ hnew_; clear hg_ hnew_; (first | rw [← Ny101.out] at ho8 | (simp only [Int.reduceToNat] at ho8; rw [← Ny101.out] at ho8)); have n0_ := Aside0.mk (Kd.R_lower ho8 (below_size (by repeat (first | (with_reducible first | exact HB.out | apply below_alloc | apply pw_below_drewN | apply below_drew1) | exact HB.out)))); have n1_ := Aside0.mk (below_step (by repeat (first | (with_reducible first | exact HB.out | apply below_alloc | apply pw_below_drewN | apply below_drew1) | exact HB.out)) hb); clear HB; have HO103 := n0_; have HB := n1_; clear n0_ n1_; clear hb ho8; have p4 : 0 ≤ (0 : Int) := (by omega); have q4 : 0 < a0.size := (by have : (0 : Int) < (a0.size : Int) := of_decide_eq_true (by first | (with_reducible assumption) | assumption); omega); have hx4 : ∀ h : 0 < a0.size, ((a0[0]'h).toNat : Int) = bt a0 0 := bt_at a0 0; clear p4; have qi4 : (0 < (a0.size : Int)) = True := eq_true (of_decide_eq_true (by first | (with_reducible assumption) | assumption)); replace q4 := eq_true q4; obtain ⟨Ao9, co9, eo9⟩ := Kd.R_slice HO103.out; subst eo9; have p104 : 0 ≤ (a1 : Int) := of_decide_eq_true (by first | (with_reducible assumption) | assumption); have q104 : a1 < (y101.length : Int) := of_decide_eq_true (by first | (with_reducible assumption) | assumption); obtain ⟨ad104, e104, hx104_0⟩ := Kd.at_int (Kd.R_reads' HO103.out).2.2 a1 p104 q104; cases e104; replace p104 := eq_true p104; replace q104 := eq_true q104)))
        go_loopg [6, 7] k (fun kq v6 v7 w' => ∃ (x6_1 : Int) (x7_1 : Int), v6 = .int .i64 x6_1 ∧ v7 = .int .i64 x7_1 ∧ Aside0 (grommetref01_guess.l0 kq a0 a1 x6_1 x7_1 = some r) ∧ Aside0 (kq ≤ k) ∧ Aside0 (Below w.heap.size w w'))
        case atStart => exact ⟨(wrap64 ((wrap64 (bt a0 0)) - (rd y101 a1))), (1), (by first | rfl | (simp; done) | (simp [*]; done)), (by first | rfl | (simp; done) | (simp [*]; done)), H', ⟨Nat.le_refl _⟩, ⟨by repeat (first | (with_reducible first | exact HB.out | apply below_alloc | apply pw_below_drewN | apply below_drew1) | exact HB.out)⟩⟩
        case round =>
          clear H'
          try clear p1
          try clear q1
          try clear hx1
          try clear p2
          try clear c3
          try clear c3b0
          try clear c3b1
          try clear p4
          try clear q4
          try clear hx4
          try clear qi4
          try clear c5
          try clear c5b0
          try clear c6
          try clear c6b0
          try clear p6
          try clear c9
          try clear hx104_0
          try clear p104
          try clear p4
          try clear q104
          try clear q4
          obtain ⟨x6_1, x7_1, rfl, rfl, HA, HK1, HB⟩ := hrel
          cases gk with
          | zero => exact absurd HA.out (by simp [grommetref01_guess.l0])
          | succ k1 =>
            have H := HA.out
            clear HA
            simp only [grommetref01_guess.l0] at H
            by_cases c10 : x7_1 < a1
            · rw [if_pos c10] at H
              have c10b0 : decide (x7_1 < a1) = true := decide_eq_true c10
              clear c10
              by_cases c11 : 0 ≤ x7_1
              · rw [if_pos c11] at H
                have c11b0 : decide (0 ≤ x7_1) = true := decide_eq_true c11
                clear c11
                by_cases c12 : x7_1 < (a0.size : Int)
                · rw [if_pos c12] at H
                  have c12b0 : decide (x7_1 < (a0.size : Int)) = true := decide_eq_true c12
                  clear c12
                  have H' := Aside0.mk H
                  clear H
                  have p13 : 0 ≤ (x7_1 : Int) := of_decide_eq_true (by first | (with_reducible assumption) | assumption)
                  have q13 : x7_1 < (a0.size : Int) := of_decide_eq_true (by first | (with_reducible assumption) | assumption)
                  have hx13 := bt_at a0 x7_1
                  replace p13 := eq_true p13
                  replace q13 := eq_true q13
                  go_wp2
                  repeat (go_quiet (fail); try go_wp2)
                  go_roundg k1
                  case measure => have := HK1.out; omega
                  case rel => exact ⟨(wrap64 ((wrap64 ((wrap64 (x6_1 * 64)) + (wrap64 (bt a0 x7_1)))) - 128)), (wrap64 (x7_1 + 1)), (by first | rfl | (simp; done) | (simp [*]; done)), (by first | rfl | (simp; done) | (simp [*]; done)), H', ⟨by have := HK1.out; omega⟩, ⟨by repeat (first | (with_reducible first | exact HB.out | apply below_alloc | apply pw_below_drewN | apply below_drew1) | exact HB.out)⟩⟩
                · rw [if_neg c12] at H
                  exact absurd H (by simp)
              · rw [if_neg c11] at H
                exact absurd H (by simp)
            · rw [if_neg c10] at H
              have c10b0 : decide (x7_1 < a1) = false := decide_eq_false c10
              clear c10
              obtain rfl := Option.some.inj H
              go_wp2
              repeat (go_quiet (fail); try go_wp2)
              go_ret
              exact ⟨by first | rfl | (simp [errW_none, errW_some] <;> rfl) | (simp [*, errW_none, errW_some] <;> rfl), by repeat (first | (with_reducible first | exact HB.out | apply below_alloc | apply pw_below_drewN | apply below_drew1) | exact HB.out)⟩
      · rw [if_neg c6] at H
        exact absurd H (by simp)
    · rw [if_neg c5] at H
      exact absurd H (by simp)
  · rw [if_neg c3] at H
    exact absurd H (by simp)

end Go.Proofs.YtmkdjgmdfhagfaaGreatDoor.PX

/- YtmkdjgmdfhagfaaGreatDoorFGrommetref01Sign: what print.py told of Go functions, for this claim. -/
namespace Go.Proofs.YtmkdjgmdfhagfaaGreatDoor.PX
open Go.RowKit Go.Proofs.YtmkdjgmdfhagfaaGreatDoorW.PrintWords Go.Proofs.YtmkdjgmdfhagfaaGreatDoorW.PrintLast Go.Proofs.YtmkdjgmdfhagfaaGreatDoorW.PrintMore Go.Proofs.YtmkdjgmdfhagfaaGreatDoor
attribute [local go_sem] max2_int min2_int max_two min_two max_three min_three max_four min_four   -- for this text's walks alone
set_option linter.unusedVariables false
set_option linter.unusedSimpArgs false

/-! ### grommetref01_Sign: function 92 -/
def grommetref01_Sign.f (a0 : Int) : Option (Bool) := if a0 ≥ 0 then (if a0 ≤ 1114111 then (if a0 < 55296 then (some true) else (some (decide (a0 > 57343)))) else (some false)) else (some false)
set_option maxHeartbeats 8000000 in
set_option maxRecDepth 100000 in
theorem grommetref01_Sign.calls (a0 : Int) (r : Bool) (w : World) (hG : Glob.G w) (h : grommetref01_Sign.f a0 = some r) :
    Calls Tryz.prog 92 #[.int .i64 a0] w fun e w' => e = .returned (.bool r) ∧ Drawn0 w w' := by
  have H : (if a0 ≥ 0 then (if a0 ≤ 1114111 then (if a0 < 55296 then (some true) else (some (decide (a0 > 57343)))) else (some false)) else (some false)) = some r := h
  clear h
  by_cases c2 : a0 ≥ 0
  · rw [if_pos c2] at H
    have c2b0 : decide (0 ≤ a0) = true := decide_eq_true c2
    clear c2
    by_cases c3 : a0 ≤ 1114111
    · rw [if_pos c3] at H
      have c3b0 : decide (a0 ≤ 1114111) = true := decide_eq_true c3
      clear c3
      by_cases c4 : a0 < 55296
      · rw [if_pos c4] at H
        have c4b0 : decide (a0 < 55296) = true := decide_eq_true c4
        clear c4
        obtain rfl := Option.some.inj H
        go_enter Tryz.func92, Tryz.ntmps92
        go_wp2
        go_ret
        exact ⟨by first | rfl | (simp; done) | (simp [*]; done) | (simp; generalize ByteArray.toList _ = l_; cases l_ <;> rfl), by repeat (first | exact Drawn0.refl _ | apply Drawn0.step)⟩
      · rw [if_neg c4] at H
        have c4b0 : decide (a0 < 55296) = false := decide_eq_false c4
        clear c4
        obtain rfl := Option.some.inj H
        go_enter Tryz.func92, Tryz.ntmps92
        go_wp2
        go_ret
        exact ⟨by first | rfl | (simp; done) | (simp [*]; done) | (simp; generalize ByteArray.toList _ = l_; cases l_ <;> rfl), by repeat (first | exact Drawn0.refl _ | apply Drawn0.step)⟩
    · rw [if_neg c3] at H
      have c3b0 : decide (a0 ≤ 1114111) = false := decide_eq_false c3
      clear c3
      obtain rfl := Option.some.inj H
      go_enter Tryz.func92, Tryz.ntmps92
      go_wp2
      go_ret
      exact ⟨by first | rfl | (simp; done) | (simp [*]; done) | (simp; generalize ByteArray.toList _ = l_; cases l_ <;> rfl), by repeat (first | exact Drawn0.refl _ | apply Drawn0.step)⟩
  · rw [if_neg c2] at H
    have c2b0 : decide (0 ≤ a0) = false := decide_eq_false c2
    clear c2
    obtain rfl := Option.some.inj H
    go_enter Tryz.func92, Tryz.ntmps92
    go_wp2
    go_ret
    exact ⟨by first | rfl | (simp; done) | (simp [*]; done) | (simp; generalize ByteArray.toList _ = l_; cases l_ <;> rfl), by repeat (first | exact Drawn0.refl _ | apply Drawn0.step)⟩

end Go.Proofs.YtmkdjgmdfhagfaaGreatDoor.PX

/- YtmkdjgmdfhagfaaGreatDoorFGrommetref01Bytes: what print.py told of Go functions, for this claim. -/
namespace Go.Proofs.YtmkdjgmdfhagfaaGreatDoor.PX
open Go.RowKit Go.Proofs.YtmkdjgmdfhagfaaGreatDoorW.PrintWords Go.Proofs.YtmkdjgmdfhagfaaGreatDoorW.PrintLast Go.Proofs.YtmkdjgmdfhagfaaGreatDoorW.PrintMore Go.Proofs.YtmkdjgmdfhagfaaGreatDoor
attribute [local go_sem] max2_int min2_int max_two min_two max_three min_three max_four min_four   -- for this text's walks alone
set_option linter.unusedVariables false
set_option linter.unusedSimpArgs false

/-! ### grommetref01_bytes: function 93 -/
def grommetref01_bytes.f (a0 : Int) : Option (List Int) := if a0 < 128 then (some (([(a0) % 256] : List Int))) else (if a0 < 2048 then (some (([(wrap64 (192 + (wrap64 (Int.tdiv a0 64)))) % 256, (wrap64 (128 + (Int.tmod a0 64))) % 256] : List Int))) else (if a0 < 65536 then (some (([(wrap64 (224 + (wrap64 (Int.tdiv a0 4096)))) % 256, (wrap64 (128 + (Int.tmod (wrap64 (Int.tdiv a0 64)) 64))) % 256, (wrap64 (128 + (Int.tmod a0 64))) % 256] : List Int))) else (some (([(wrap64 (240 + (wrap64 (Int.tdiv a0 262144)))) % 256, (wrap64 (128 + (Int.tmod (wrap64 (Int.tdiv a0 4096)) 64))) % 256, (wrap64 (128 + (Int.tmod (wrap64 (Int.tdiv a0 64)) 64))) % 256, (wrap64 (128 + (Int.tmod a0 64))) % 256] : List Int)))))
set_option maxHeartbeats 8000000 in
set_option maxRecDepth 100000 in
theorem grommetref01_bytes.calls (a0 : Int) (r : List Int) (w : World) (hG : Glob.G w) (h : grommetref01_bytes.f a0 = some r) :
    Calls Tryz.prog 93 #[.int .i64 a0] w fun e w' => ∃ v0_ : Value, e = .returned (v0_) ∧ Kd.R (Kd.int .u8) 5 w' w.heap.size (fun _ => True) v0_ r ∧ Below w.heap.size w w' := by
  have HB := Aside0.mk (Below.refl w.heap.size w)
  have H : (if a0 < 128 then (some (([(a0) % 256] : List Int))) else (if a0 < 2048 then (some (([(wrap64 (192 + (wrap64 (Int.tdiv a0 64)))) % 256, (wrap64 (128 + (Int.tmod a0 64))) % 256] : List Int))) else (if a0 < 65536 then (some (([(wrap64 (224 + (wrap64 (Int.tdiv a0 4096)))) % 256, (wrap64 (128 + (Int.tmod (wrap64 (Int.tdiv a0 64)) 64))) % 256, (wrap64 (128 + (Int.tmod a0 64))) % 256] : List Int))) else (some (([(wrap64 (240 + (wrap64 (Int.tdiv a0 262144)))) % 256, (wrap64 (128 + (Int.tmod (wrap64 (Int.tdiv a0 4096)) 64))) % 256, (wrap64 (128 + (Int.tmod (wrap64 (Int.tdiv a0 64)) 64))) % 256, (wrap64 (128 + (Int.tmod a0 64))) % 256] : List Int)))))) = some r := h
  clear h
  by_cases c2 : a0 < 128
  · rw [if_pos c2] at H
    have c2b0 : decide (a0 < 128) = true := decide_eq_true c2
    clear c2
    obtain ⟨y101, hy101⟩ : ∃ y_ : List Int, y_ = (([(a0) % 256] : List Int)) := ⟨_, rfl⟩
    replace H : (some y101) = some r := by first | (rw [hy101]; with_reducible exact H) | (have H2_ := (Option.bind_some _ _).symm.trans H; rw [hy101]; with_reducible exact H2_) | (have H2_ := (Option.bind_some _ _).symm.trans H; with_reducible exact H2_) | with_reducible exact H | (rw [hy101]; exact H) | exact H
    have Ny101 := Aside0.mk hy101
    clear hy101
    obtain rfl := Option.some.inj H
    go_enter Tryz.func93, Tryz.ntmps93
    go_wp2_with (first | ((with_reducible refine gate_dst (N := 8) rfl ?_); refine Kd.R_lit (Kd.int .u8) _ 5 ?hg (N := 8) ?hd (xs := ([(a0) % 256] : List Int)) (inner := [.int .u8 ((a0) % 256)]) (ok := fun _ => True) (okp := fun _ => True) ?hr ?hp (fun _ hk => hk) trivial (Below.refl _ _) (Nat.le_refl _) (by simp) ?_; (case hd => rfl); (case hg => rfl); (case hr => first | (go_simp; done) | (go_simp; rfl)); (case hp => exact (Reps.one (show Kd.M (Kd.int .u8) _ _ _ ((a0) % 256) [.int .u8 ((a0) % 256)] from rfl) (Reps.none _ _))); intro v102 w3 ho4 hb hg_ hnew_; clear hg_ hnew_; (first | rw [← Ny101.out] at ho4 | (simp only [Int.reduceToNat] at ho4; rw [← Ny101.out] at ho4)); have n0_ := Aside0.mk (Kd.R_lower ho4 (below_size (by repeat (first | (with_reducible first | exact HB.out | apply below_alloc | apply pw_below_drewN | apply below_drew1) | exact HB.out)))); have n1_ := Aside0.mk (below_step (by repeat (first | (with_reducible first | exact HB.out | apply below_alloc | apply pw_below_drewN | apply below_drew1) | exact HB.out)) hb); clear HB; have HO103 := n0_; have HB := n1_; clear n0_ n1_; clear hb ho4))
    go_ret
    exact ⟨_, by first | rfl | (simp [errW_none, errW_some] <;> rfl) | (simp [*, errW_none, errW_some] <;> rfl), by (with_reducible repeat (first | apply Kd.R_alloc | apply Kd.R_drewN | apply Kd.R_drew)); exact HO103.out, by repeat (first | (with_reducible first | exact HB.out | apply below_alloc | apply pw_below_drewN | apply below_drew1) | exact HB.out)⟩
  · rw [if_neg c2] at H
    have c2b0 : decide (a0 < 128) = false := decide_eq_false c2
    clear c2
    by_cases c5 : a0 < 2048
    · rw [if_pos c5] at H
      have c5b0 : decide (a0 < 2048) = true := decide_eq_true c5
      clear c5
      obtain ⟨y104, hy104⟩ : ∃ y_ : List Int, y_ = (([(wrap64 (192 + (wrap64 (Int.tdiv a0 64)))) % 256, (wrap64 (128 + (Int.tmod a0 64))) % 256] : List Int)) := ⟨_, rfl⟩
      replace H : (some y104) = some r := by first | (rw [hy104]; with_reducible exact H) | (have H2_ := (Option.bind_some _ _).symm.trans H; rw [hy104]; with_reducible exact H2_) | (have H2_ := (Option.bind_some _ _).symm.trans H; with_reducible exact H2_) | with_reducible exact H | (rw [hy104]; exact H) | exact H
      have Ny104 := Aside0.mk hy104
      clear hy104
      obtain rfl := Option.some.inj H
      go_enter Tryz.func93, Tryz.ntmps93
      go_wp2_with (first | ((with_reducible refine gate_dst (N := 20) rfl ?_); refine Kd.R_lit (Kd.int .u8) _ 5 ?hg (N := 20) ?hd (xs := ([(wrap64 (192 + (wrap64 (Int.tdiv a0 64)))) % 256, (wrap64 (128 + (Int.tmod a0 64))) % 256] : List Int)) (inner := [.int .u8 ((wrap64 (192 + (wrap64 (Int.tdiv a0 64)))) % 256), .int .u8 ((wrap64 (128 + (Int.tmod a0 64))) % 256)]) (ok := fun _ => True) (okp := fun _ => True) ?hr ?hp (fun _ hk => hk) trivial (Below.refl _ _) (Nat.le_refl _) (by simp) ?_; (case hd => rfl); (case hg => rfl); (case hr => first | (go_simp; done) | (go_simp; rfl)); (case hp => exact (Reps.one (show Kd.M (Kd.int .u8) _ _ _ ((wrap64 (192 + (wrap64 (Int.tdiv a0 64)))) % 256) [.int .u8 ((wrap64 (192 + (wrap64 (Int.tdiv a0 64)))) % 256)] from rfl) (Reps.one (show Kd.M (Kd.int .u8) _ _ _ ((wrap64 (128 + (Int.tmod a0 64))) % 256) [.int .u8 ((wrap64 (128 + (Int.tmod a0 64))) % 256)] from rfl) (Reps.none _ _)))); intro v105 w6 ho7 hb hg_ hnew_; clear hg_ hnew_; (first | rw [← Ny104.out] at ho7 | (simp only [Int.reduceToNat] at ho7; rw [← Ny104.out] at ho7)); have n0_ := Aside0.mk (Kd.R_lower ho7 (below_size (by repeat (first | (with_reducible first | exact HB.out | apply below_alloc | apply pw_below_drewN | apply below_drew1) | exact HB.out)))); have n1_ := Aside0.mk (below_step (by repeat (first | (with_reducible first | exact HB.out | apply below_alloc | apply pw_below_drewN | apply below_drew1) | exact HB.out)) hb); clear HB; have HO106 := n0_; have HB := n1_; clear n0_ n1_; clear hb ho7))
      go_ret
      exact ⟨_, by first | rfl | (simp [errW_none, errW_some] <;> rfl) | (simp [*, errW_none, errW_some] <;> rfl), by (with_reducible repeat (first | apply Kd.R_alloc | apply Kd.R_drewN | apply Kd.R_drew)); exact HO106.out, by repeat (first | (with_reducible first | exact HB.out | apply below_alloc | apply pw_below_drewN | apply below_drew1) | exact HB.out)⟩
    · rw [if_neg c5] at H
      have c5b0 : decide (a0 < 2048) = false := decide_eq_false c5
      clear c5
      by_cases c8 : a0 < 65536
      · rw [if_pos c8] at H
        have c8b0 : decide (a0 < 65536) = true := decide_eq_true c8
        clear c8
        obtain ⟨y107, hy107⟩ : ∃ y_ : List Int, y_ = (([(wrap64 (224 + (wrap64 (Int.tdiv a0 4096)))) % 256, (wrap64 (128 + (Int.tmod (wrap64 (Int.tdiv a0 64)) 64))) % 256, (wrap64 (128 + (Int.tmod a0 64))) % 256] : List Int)) := ⟨_, rfl⟩
        replace H : (some y107) = some r := by first | (rw [hy107]; with_reducible exact H) | (have H2_ := (Option.bind_some _ _).symm.trans H; rw [hy107]; with_reducible exact H2_) | (have H2_ := (Option.bind_some _ _).symm.trans H; with_reducible exact H2_) | with_reducible exact H | (rw [hy107]; exact H) | exact H
        have Ny107 := Aside0.mk hy107
        clear hy107
        obtain rfl := Option.some.inj H
        go_enter Tryz.func93, Tryz.ntmps93
        go_wp2_with (first | ((with_reducible refine gate_dst (N := 37) rfl ?_); refine Kd.R_lit (Kd.int .u8) _ 5 ?hg (N := 37) ?hd (xs := ([(wrap64 (224 + (wrap64 (Int.tdiv a0 4096)))) % 256, (wrap64 (128 + (Int.tmod (wrap64 (Int.tdiv a0 64)) 64))) % 256, (wrap64 (128 + (Int.tmod a0 64))) % 256] : List Int)) (inner := [.int .u8 ((wrap64 (224 + (wrap64 (Int.tdiv a0 4096)))) % 256), .int .u8 ((wrap64 (128 + (Int.tmod (wrap64 (Int.tdiv a0 64)) 64))) % 256), .int .u8 ((wrap64 (128 + (Int.tmod a0 64))) % 256)]) (ok := fun _ => True) (okp := fun _ => True) ?hr ?hp (fun _ hk => hk) trivial (Below.refl _ _) (Nat.le_refl _) (by simp) ?_; (case hd => rfl); (case hg => rfl); (case hr => first | (go_simp; done) | (go_simp; rfl)); (case hp => exact (Reps.one (show Kd.M (Kd.int .u8) _ _ _ ((wrap64 (224 + (wrap64 (Int.tdiv a0 4096)))) % 256) [.int .u8 ((wrap64 (224 + (wrap64 (Int.tdiv a0 4096)))) % 256)] from rfl) (Reps.one (show Kd.M (Kd.int .u8) _ _ _ ((wrap64 (128 + (Int.tmod (wrap64 (Int.tdiv a0 64)) 64))) % 256) [.int .u8 ((wrap64 (128 + (Int.tmod (wrap64 (Int.tdiv a0 64)) 64))) % 256)] from rfl) (Reps.one (show Kd.M (Kd.int .u8) _ _ _ ((wrap64 (128 + (Int.tmod a0 64))) % 256) [.int .u8 ((wrap64 (128 + (Int.tmod a0 64))) % 256)] from rfl) (Reps.none _ _))))); intro v108 w9 ho10 hb hg_ hnew_; clear hg_ hnew_; (first | rw [← Ny107.out] at ho10 | (simp only [Int.reduceToNat] at ho10; rw [← Ny107.out] at ho10)); have n0_ := Aside0.mk (Kd.R_lower ho10 (below_size (by repeat (first | (with_reducible first | exact HB.out | apply below_alloc | apply pw_below_drewN | apply below_drew1) | exact HB.out)))); have n1_ := Aside0.mk (below_step (by repeat (first | (with_reducible first | exact HB.out | apply below_alloc | apply pw_below_drewN | apply below_drew1) | exact HB.out)) hb); clear HB; have HO109 := n0_; have HB := n1_; clear n0_ n1_; clear hb ho10))
        go_ret
        exact ⟨_, by first | rfl | (simp [errW_none, errW_some] <;> rfl) | (simp [*, errW_none, errW_some] <;> rfl), by (with_reducible repeat (first | apply Kd.R_alloc | apply Kd.R_drewN | apply Kd.R_drew)); exact HO109.out, by repeat (first | (with_reducible first | exact HB.out | apply below_alloc | apply pw_below_drewN | apply below_drew1) | exact HB.out)⟩
      · rw [if_neg c8] at H
        have c8b0 : decide (a0 < 65536) = false := decide_eq_false c8
        clear c8
        obtain ⟨y110, hy110⟩ : ∃ y_ : List Int, y_ = (([(wrap64 (240 + (wrap64 (Int.tdiv a0 262144)))) % 256, (wrap64 (128 + (Int.tmod (wrap64 (Int.tdiv a0 4096)) 64))) % 256, (wrap64 (128 + (Int.tmod (wrap64 (Int.tdiv a0 64)) 64))) % 256, (wrap64 (128 + (Int.tmod a0 64))) % 256] : List Int)) := ⟨_, rfl⟩
        replace H : (some y110) = some r := by first | (rw [hy110]; with_reducible exact H) | (have H2_ := (Option.bind_some _ _).symm.trans H; rw [hy110]; with_reducible exact H2_) | (have H2_ := (Option.bind_some _ _).symm.trans H; with_reducible exact H2_) | with_reducible exact H | (rw [hy110]; exact H) | exact H
        have Ny110 := Aside0.mk hy110
        clear hy110
        obtain rfl := Option.some.inj H
        go_enter Tryz.func93, Tryz.ntmps93
        go_wp2_with (first | ((with_reducible refine gate_dst (N := 56) rfl ?_); refine Kd.R_lit (Kd.int .u8) _ 5 ?hg (N := 56) ?hd (xs := ([(wrap64 (240 + (wrap64 (Int.tdiv a0 262144)))) % 256, (wrap64 (128 + (Int.tmod (wrap64 (Int.tdiv a0 4096)) 64))) % 256, (wrap64 (128 + (Int.tmod (wrap64 (Int.tdiv a0 64)) 64))) % 256, (wrap64 (128 + (Int.tmod a0 64))) % 256] : List Int)) (inner := [.int .u8 ((wrap64 (240 + (wrap64 (Int.tdiv a0 262144)))) % 256), .int .u8 ((wrap64 (128 + (Int.tmod (wrap64 (Int.tdiv a0 4096)) 64))) % 256), .int .u8 ((wrap64 (128 + (Int.tmod (wrap64 (Int.tdiv a0 64)) 64))) % 256), .int .u8 ((wrap64 (128 + (Int.tmod a0 64))) % 256)]) (ok := fun _ => True) (okp := fun _ => True) ?hr ?hp (fun _ hk => hk) trivial (Below.refl _ _) (Nat.le_refl _) (by simp) ?_; (case hd => rfl); (case hg => rfl); (case hr => first | (go_simp; done) | (go_simp; rfl)); (case hp => exact (Reps.one (show Kd.M (Kd.int .u8) _ _ _ ((wrap64 (240 + (wrap64 (Int.tdiv a0 262144)))) % 256) [.int .u8 ((wrap64 (240 + (wrap64 (Int.tdiv a0 262144)))) % 256)] from rfl) (Reps.one (show Kd.M (Kd.int .u8) _ _ _ ((wrap64 (128 + (Int.tmod (wrap64 (Int.tdiv a0 4096)) 64))) % 256) [.int .u8 ((wrap64 (128 + (Int.tmod (wrap64 (Int.tdiv a0 4096)) 64))) % 256)] from rfl) (Reps.one (show Kd.M (Kd.int .u8) _ _ _ ((wrap64 (128 + (Int.tmod (wrap64 (Int.tdiv a0 64)) 64))) % 256) [.int .u8 ((wrap64 (128 + (Int.tmod (wrap64 (Int.tdiv a0 64)) 64))) % 256)] from rfl) (Reps.one (show Kd.M (Kd.int .u8) _ _ _ ((wrap64 (128 + (Int.tmod a0 64))) % 256) [.int .u8 ((wrap64 (128 + (Int.tmod a0 64))) % 256)] from rfl) (Reps.none _ _)))))); intro v111 w11 ho12 hb hg_ hnew_; clear hg_ hnew_; (first | rw [← Ny110.out] at ho12 | (simp only [Int.reduceToNat] at ho12; rw [← Ny110.out] at ho12)); have n0_ := Aside0.mk (Kd.R_lower ho12 (below_size (by repeat (first | (with_reducible first | exact HB.out | apply below_alloc | apply pw_below_drewN | apply below_drew1) | exact HB.out)))); have n1_ := Aside0.mk (below_step (by repeat (first | (with_reducible first | exact HB.out | apply below_alloc | apply pw_below_drewN | apply below_drew1) | exact HB.out)) hb); clear HB; have HO112 := n0_; have HB := n1_; clear n0_ n1_; clear hb ho12))
        go_ret
        exact ⟨_, by first | rfl | (simp [errW_none, errW_some] <;> rfl) | (simp [*, errW_none, errW_some] <;> rfl), by (with_reducible repeat (first | apply Kd.R_alloc | apply Kd.R_drewN | apply Kd.R_drew)); exact HO112.out, by repeat (first | (with_reducible first | exact HB.out | apply below_alloc | apply pw_below_drewN | apply below_drew1) | exact HB.out)⟩

end Go.Proofs.YtmkdjgmdfhagfaaGreatDoor.PX

/- YtmkdjgmdfhagfaaGreatDoorFGrommetref01Begins: what print.py told of Go functions, for this claim. -/
namespace Go.Proofs.YtmkdjgmdfhagfaaGreatDoor.PX
open Go.RowKit Go.Proofs.YtmkdjgmdfhagfaaGreatDoorW.PrintWords Go.Proofs.YtmkdjgmdfhagfaaGreatDoorW.PrintLast Go.Proofs.YtmkdjgmdfhagfaaGreatDoorW.PrintMore Go.Proofs.YtmkdjgmdfhagfaaGreatDoor
attribute [local go_sem] max2_int min2_int max_two min_two max_three min_three max_four min_four   -- for this text's walks alone
set_option linter.unusedVariables false
set_option linter.unusedSimpArgs false

/-! ### grommetref01_begins: function 94 -/
def grommetref01_begins.f (a0 : ByteArray) (a1 : Int) : Option (Bool) := (grommetref01_bytes.f a1).bind fun t101 => (if (a0.size : Int) ≥ ((strOfNums t101).size : Int) then (if 0 ≤ ((strOfNums t101).size : Int) then (if ((strOfNums t101).size : Int) ≤ (a0.size : Int) then (some ((a0.extract 0 (((strOfNums t101).size : Int) : Int).toNat).toList == (strOfNums t101).toList)) else (none)) else (none)) else (some false))
set_option maxHeartbeats 8000000 in
set_option maxRecDepth 100000 in
theorem grommetref01_begins.calls (a0 : ByteArray) (a1 : Int) (r : Bool) (w : World) (hG : Glob.G w) (h : grommetref01_begins.f a0 a1 = some r) :
    Calls Tryz.prog 94 #[.string a0, .int .i64 a1] w fun e w' => e = .returned (.bool r) ∧ Below w.heap.size w w' := by
  have HB := Aside0.mk (Below.refl w.heap.size w)
  have H : ((grommetref01_bytes.f a1).bind fun t101 => (if (a0.size : Int) ≥ ((strOfNums t101).size : Int) then (if 0 ≤ ((strOfNums t101).size : Int) then (if ((strOfNums t101).size : Int) ≤ (a0.size : Int) then (some ((a0.extract 0 (((strOfNums t101).size : Int) : Int).toNat).toList == (strOfNums t101).toList)) else (none)) else (none)) else (some false))) = some r := h
  clear h
  replace H := Option.bind_eq_some_iff.mp H
  obtain ⟨t101, A30, H⟩ := H
  replace H : (if (a0.size : Int) ≥ ((strOfNums t101).size : Int) then (if 0 ≤ ((strOfNums t101).size : Int) then (if ((strOfNums t101).size : Int) ≤ (a0.size : Int) then (some ((a0.extract 0 (((strOfNums t101).size : Int) : Int).toNat).toList == (strOfNums t101).toList)) else (none)) else (none)) else (some false)) = some r := H
  have A3 := Aside0.mk A30
  clear A30
  by_cases c4 : (a0.size : Int) ≥ ((strOfNums t101).size : Int)
  · rw [if_pos c4] at H
    have c4b0 : decide (((strOfNums t101).size : Int) ≤ (a0.size : Int)) = true := decide_eq_true c4
    have c4b1 : decide ((strOfNums t101).size ≤ a0.size) = true := decide_eq_true (Int.ofNat_le.mp c4)
    clear c4
    by_cases c5 : 0 ≤ ((strOfNums t101).size : Int)
    · rw [if_pos c5] at H
      have c5b0 := eq_true c5
      have c5b1 : decide (0 ≤ ((strOfNums t101).size : Int)) = true := decide_eq_true c5
      clear c5
      by_cases c6 : ((strOfNums t101).size : Int) ≤ (a0.size : Int)
      · rw [if_pos c6] at H
        have c6b0 := eq_true c6
        have c6b1 : decide (((strOfNums t101).size : Int) ≤ (a0.size : Int)) = true := decide_eq_true c6
        clear c6
        obtain rfl := Option.some.inj H
        go_enter Tryz.func94, Tryz.ntmps94
        go_wp2_with (first | ((with_reducible refine gate_callee (f := 93) rfl ?_); refine goesL_ (some 7) rfl rfl Tryz.func93 (by kernel_rfl) rfl #[.int .i64 a1] rfl (by (try simp only [List.map_toArray, List.map_cons, List.map_nil]); first | done | rfl | (simp only [List.length_drop, List.length_take]; rfl)) ?_; (with_reducible refine (grommetref01_bytes.calls a1 t101 _ (hG.below (by first | ((repeat (first | (with_reducible first | exact HB.out | apply below_alloc | apply pw_below_drewN | apply below_drew1 | (refine Glob.below_set ?_ (by assumption) _ _ _)) | exact HB.out)); done) | (refine Drawn0.below ?_; repeat (first | exact Drawn0.refl _ | assumption | apply Drawn0.step)))) A3.out).mono ?_); rintro e w7 ⟨v102, rfl, ho0, hb⟩; refine ⟨_, rfl, ?_⟩; have n0_ := Aside0.mk (Kd.R_lower ho0 (below_size (by repeat (first | (with_reducible first | exact HB.out | apply below_alloc | apply pw_below_drewN | apply below_drew1) | exact HB.out)))); have n1_ := Aside0.mk (below_step (by repeat (first | (with_reducible first | exact HB.out | apply below_alloc | apply pw_below_drewN | apply below_drew1) | exact HB.out)) hb); clear HB; have HO103 := n0_; have HB := n1_; clear n0_ n1_; (try clear hb); (try clear hb2); (try clear hk); (try clear hi); (try clear ho0); have hcv8 := own_string (P := Tryz.prog) Tryz.underlying58 Tryz.underlying5 Tryz.underlying9 (Kd.own_of_R HO103.out)))
        go_ret
        exact ⟨by first | rfl | (simp [errW_none, errW_some] <;> rfl) | (simp [*, errW_none, errW_some] <;> rfl), by repeat (first | (with_reducible first | exact HB.out | apply below_alloc | apply pw_below_drewN | apply below_drew1) | exact HB.out)⟩
      · rw [if_neg c6] at H
        exact absurd H (by simp)
    · rw [if_neg c5] at H
      exact absurd H (by simp)
  · rw [if_neg c4] at H
    have c4b0 : decide (((strOfNums t101).size : Int) ≤ (a0.size : Int)) = false := decide_eq_false c4
    have c4b1 : decide ((strOfNums t101).size ≤ a0.size) = false := decide_eq_false (fun h => c4 (Int.ofNat_le.mpr h))
    clear c4
    obtain rfl := Option.some.inj H
    go_enter Tryz.func94, Tryz.ntmps94
    go_wp2_with (first | ((with_reducible refine gate_callee (f := 93) rfl ?_); refine goesL_ (some 7) rfl rfl Tryz.func93 (by kernel_rfl) rfl #[.int .i64 a1] rfl (by (try simp only [List.map_toArray, List.map_cons, List.map_nil]); first | done | rfl | (simp only [List.length_drop, List.length_take]; rfl)) ?_; (with_reducible refine (grommetref01_bytes.calls a1 t101 _ (hG.below (by first | ((repeat (first | (with_reducible first | exact HB.out | apply below_alloc | apply pw_below_drewN | apply below_drew1 | (refine Glob.below_set ?_ (by assumption) _ _ _)) | exact HB.out)); done) | (refine Drawn0.below ?_; repeat (first | exact Drawn0.refl _ | assumption | apply Drawn0.step)))) A3.out).mono ?_); rintro e w9 ⟨v102, rfl, ho0, hb⟩; refine ⟨_, rfl, ?_⟩; have n0_ := Aside0.mk (Kd.R_lower ho0 (below_size (by repeat (first | (with_reducible first | exact HB.out | apply below_alloc | apply pw_below_drewN | apply below_drew1) | exact HB.out)))); have n1_ := Aside0.mk (below_step (by repeat (first | (with_reducible first | exact HB.out | apply below_alloc | apply pw_below_drewN | apply below_drew1) | exact HB.out)) hb); clear HB; have HO103 := n0_; have HB := n1_; clear n0_ n1_; (try clear hb); (try clear hb2); (try clear hk); (try clear hi); (try clear ho0); have hcv10 := own_string (P := Tryz.prog) Tryz.underlying58 Tryz.underlying5 Tryz.underlying9 (Kd.own_of_R HO103.out)))
    go_ret
    exact ⟨by first | rfl | (simp [errW_none, errW_some] <;> rfl) | (simp [*, errW_none, errW_some] <;> rfl), by repeat (first | (with_reducible first | exact HB.out | apply below_alloc | apply pw_below_drewN | apply below_drew1) | exact HB.out)⟩

end Go.Proofs.YtmkdjgmdfhagfaaGreatDoor.PX

/- YtmkdjgmdfhagfaaGreatDoorFGrommetref01First: what print.py told of Go functions, for this claim. -/
namespace Go.Proofs.YtmkdjgmdfhagfaaGreatDoor.PX
open Go.RowKit Go.Proofs.YtmkdjgmdfhagfaaGreatDoorW.PrintWords Go.Proofs.YtmkdjgmdfhagfaaGreatDoorW.PrintLast Go.Proofs.YtmkdjgmdfhagfaaGreatDoorW.PrintMore Go.Proofs.YtmkdjgmdfhagfaaGreatDoor
attribute [local go_sem] max2_int min2_int max_two min_two max_three min_three max_four min_four   -- for this text's walks alone
set_option linter.unusedVariables false
set_option linter.unusedSimpArgs false

/-! ### grommetref01_First: function 62 -/
mutual
def grommetref01_First.l0 : Nat → ByteArray → Int → Option (Int × Int)
  | 0, _, _ => none
  | k + 1, x0, x4 => if x4 ≤ 4 then (grommetref01_First.j1 k x0 x4 (decide (x4 ≤ (x0.size : Int)))) else (grommetref01_First.j1 k x0 x4 false)
def grommetref01_First.j1 : Nat → ByteArray → Int → Bool → Option (Int × Int)
  | 0, _, _, _ => none
  | k + 1, x0, x4, x15 => if x15 = true then ((grommetref01_guess.f k x0 x4).bind fun t101 => ((grommetref01_Sign.f t101).bind fun t102 => (if t102 = true then ((grommetref01_bytes.f t101).bind fun t103 => (if (t103.length : Int) = x4 then ((grommetref01_begins.f x0 t101).bind fun t106 => (if t106 = true then (some (t101, x4)) else (grommetref01_First.l0 k x0 (wrap64 (x4 + 1))))) else (grommetref01_First.l0 k x0 (wrap64 (x4 + 1))))) else (grommetref01_First.l0 k x0 (wrap64 (x4 + 1)))))) else (some ((-1), 1))
end
def grommetref01_First.f (k : Nat) (a0 : ByteArray) : Option (Int × Int) := if a0.toList = ([] : List UInt8) then (some ((-1), 0)) else (grommetref01_First.l0 k a0 1)
set_option maxHeartbeats 8000000 in
set_option maxRecDepth 100000 in
theorem grommetref01_First.calls (k : Nat) (a0 : ByteArray) (r1 : Int) (r2 : Int) (w : World) (hG : Glob.G w) (h : grommetref01_First.f k a0 = some (r1, r2)) :
    Calls Tryz.prog 62 #[.string a0] w fun e w' => e = .returned (.tuple #[.int .i64 r1, .int .i64 r2]) ∧ Below w.heap.size w w' := by
  have HB := Aside0.mk (Below.refl w.heap.size w)
  have H : (if a0.toList = ([] : List UInt8) then (some ((-1), 0)) else (grommetref01_First.l0 k a0 1)) = some (r1, r2) := h
  clear h
  by_cases c2 : a0.toList = ([] : List UInt8)
  · rw [if_pos c2] at H
    have c2b0 : (a0.toList == ([] : List UInt8)) = true := beq_iff_eq.mpr c2
    have c2b1 : (a0.toList != ([] : List UInt8)) = false := bne_eq_false_iff_eq.mpr c2
    clear c2
    simp only [Option.some.injEq, Prod.mk.injEq] at H
    obtain ⟨rfl, rfl⟩ := H
    go_enter Tryz.func62, Tryz.ntmps62
    go_wp2
    go_ret2
    exact ⟨by first | rfl | (simp [errW_none, errW_some] <;> rfl) | (simp [*, errW_none, errW_some] <;> rfl), by repeat (first | (with_reducible first | exact HB.out | apply below_alloc | apply pw_below_drewN | apply below_drew1) | exact HB.out)⟩
  · rw [if_neg c2] at H
    have c2b0 : (a0.toList == ([] : List UInt8)) = false := beq_eq_false_iff_ne.mpr c2
    have c2b1 : (a0.toList != ([] : List UInt8)) = true := bne_iff_ne.mpr c2
    have H' := Aside0.mk H
    clear H
    go_enter Tryz.func62, Tryz.ntmps62
    go_wp2
    go_loopg [4] k (fun kq v4 w' => ∃ (x4_1 : Int), v4 = .int .i64 x4_1 ∧ Aside0 (grommetref01_First.l0 kq a0 x4_1 = some (r1, r2)) ∧ Aside0 (kq ≤ k) ∧ Aside0 (Below w.heap.size w w'))
    case atStart => exact ⟨(1), (by first | rfl | (simp; done) | (simp [*]; done)), H', ⟨Nat.le_refl _⟩, ⟨by repeat (first | (with_reducible first | exact HB.out | apply below_alloc | apply pw_below_drewN | apply below_drew1) | exact HB.out)⟩⟩
    case round =>
      clear H'
      try clear c2
      try clear c2b0
      try clear c2b1
      try clear p2
      obtain ⟨x4_1, rfl, HA, HK1, HB⟩ := hrel
      cases gk with
      | zero => exact absurd HA.out (by simp [grommetref01_First.l0])
      | succ k1 =>
        have H := HA.out
        clear HA
        simp only [grommetref01_First.l0] at H
        have HC3 := Aside0.mk H
        clear H
        go_upto_region 4 with (fail)
        go_cut [15] (fun v15 wc => ∃ (kq : Nat) (x15_2 : Bool), v15 = .bool x15_2 ∧ Aside0 (grommetref01_First.j1 kq a0 x4_1 x15_2 = some (r1, r2)) ∧ Aside0 (kq ≤ k1) ∧ Aside0 (Below w.heap.size w wc))
        case first =>
          have H := HC3.out
          clear HC3
          by_cases c4 : x4_1 ≤ 4
          · rw [if_pos c4] at H
            have c4b0 : decide (x4_1 ≤ 4) = true := decide_eq_true c4
            clear c4
            (first | rw [c4b0] | (simp only [i64_w, i32_w]; rw [c4b0]) | skip)
            have H' := Aside0.mk H
            clear H
            go_wp2
            go_meet
            case rel => exact ⟨_, (decide (x4_1 ≤ (a0.size : Int))), (by first | rfl | (simp; done) | (simp [*]; done)), H', ⟨by have := HK1.out; first | omega | exact Nat.le_refl _⟩, ⟨by repeat (first | (with_reducible first | exact HB.out | apply below_alloc | apply pw_below_drewN | apply below_drew1) | exact HB.out)⟩⟩
          · rw [if_neg c4] at H
            have c4b0 : decide (x4_1 ≤ 4) = false := decide_eq_false c4
            clear c4
            (first | rw [c4b0] | (simp only [i64_w, i32_w]; rw [c4b0]) | skip)
            have H' := Aside0.mk H
            clear H
            go_wp2
            go_meet
            case rel => exact ⟨_, (false), (by first | rfl | (simp; done) | (simp [*]; done)), H', ⟨by have := HK1.out; first | omega | exact Nat.le_refl _⟩, ⟨by repeat (first | (with_reducible first | exact HB.out | apply below_alloc | apply pw_below_drewN | apply below_drew1) | exact HB.out)⟩⟩
        case rest =>
          clear HC3
          try clear c2
          try clear c2b0
          try clear c2b1
          try clear p2
          try clear c4
          try clear c4b0
          try clear p2
          obtain ⟨kq, x15_2, rfl, HA, HJ2, HB⟩ := hcut
          cases kq with
          | zero => exact absurd HA.out (by simp [grommetref01_First.j1])
          | succ kj2 =>
            have H := HA.out
            clear HA
            simp only [grommetref01_First.j1] at H
            by_cases c5 : x15_2 = true
            · subst c5
              have H1 : ((grommetref01_guess.f kj2 a0 x4_1).bind fun t101 => ((grommetref01_Sign.f t101).bind fun t102 => (if t102 = true then ((grommetref01_bytes.f t101).bind fun t103 => (if (t103.length : Int) = x4_1 then ((grommetref01_begins.f a0 t101).bind fun t106 => (if t106 = true then (some (t101, x4_1)) else (grommetref01_First.l0 kj2 a0 (wrap64 (x4_1 + 1))))) else (grommetref01_First.l0 kj2 a0 (wrap64 (x4_1 + 1))))) else (grommetref01_First.l0 kj2 a0 (wrap64 (x4_1 + 1)))))) = some (r1, r2) := by rw [if_pos rfl] at H; exact H
              clear H
              have H := H1
              clear H1
              replace H := Option.bind_eq_some_iff.mp H
              obtain ⟨t101, A60, H⟩ := H
              replace H : ((grommetref01_Sign.f t101).bind fun t102 => (if t102 = true then ((grommetref01_bytes.f t101).bind fun t103 => (if (t103.length : Int) = x4_1 then ((grommetref01_begins.f a0 t101).bind fun t106 => (if t106 = true then (some (t101, x4_1)) else (grommetref01_First.l0 kj2 a0 (wrap64 (x4_1 + 1))))) else (grommetref01_First.l0 kj2 a0 (wrap64 (x4_1 + 1))))) else (grommetref01_First.l0 kj2 a0 (wrap64 (x4_1 + 1))))) = some (r1, r2) := H
              have A6 := Aside0.mk A60
              clear A60
              replace H := Option.bind_eq_some_iff.mp H
              obtain ⟨t102, A70, H⟩ := H
              replace H : (if t102 = true then ((grommetref01_bytes.f t101).bind fun t103 => (if (t103.length : Int) = x4_1 then ((grommetref01_begins.f a0 t101).bind fun t106 => (if t106 = true then (some (t101, x4_1)) else (grommetref01_First.l0 kj2 a0 (wrap64 (x4_1 + 1))))) else (grommetref01_First.l0 kj2 a0 (wrap64 (x4_1 + 1))))) else (grommetref01_First.l0 kj2 a0 (wrap64 (x4_1 + 1)))) = some (r1, r2) := H
              have A7 := Aside0.mk A70
              clear A70
              by_cases c8 : t102 = true
              · subst c8
                have H1 : ((grommetref01_bytes.f t101).bind fun t103 => (if (t103.length : Int) = x4_1 then ((grommetref01_begins.f a0 t101).bind fun t106 => (if t106 = true then (some (t101, x4_1)) else (grommetref01_First.l0 kj2 a0 (wrap64 (x4_1 + 1))))) else (grommetref01_First.l0 kj2 a0 (wrap64 (x4_1 + 1))))) = some (r1, r2) := by rw [if_pos rfl] at H; exact H
                clear H
                have H := H1
                clear H1
                replace H := Option.bind_eq_some_iff.mp H
                obtain ⟨t103, A90, H⟩ := H
                replace H : (if (t103.length : Int) = x4_1 then ((grommetref01_begins.f a0 t101).bind fun t106 => (if t106 = true then (some (t101, x4_1)) else (grommetref01_First.l0 kj2 a0 (wrap64 (x4_1 + 1))))) else (grommetref01_First.l0 kj2 a0 (wrap64 (x4_1 + 1)))) = some (r1, r2) := H
                have A9 := Aside0.mk A90
                clear A90
                by_cases c10 : (t103.length : Int) = x4_1
                · rw [if_pos c10] at H
                  have c10b0 : ((t103.length : Int) == x4_1) = true := beq_iff_eq.mpr c10
                  have c10b1 : ((t103.length : Int) != x4_1) = false := bne_eq_false_iff_eq.mpr c10
                  clear c10
                  replace H := Option.bind_eq_some_iff.mp H
                  obtain ⟨t106, A110, H⟩ := H
                  replace H : (if t106 = true then (some (t101, x4_1)) else (grommetref01_First.l0 kj2 a0 (wrap64 (x4_1 + 1)))) = some (r1, r2) := H
                  have A11 := Aside0.mk A110
                  clear A110
                  by_cases c12 : t106 = true
                  · subst c12
                    have H1 : (some (t101, x4_1)) = some (r1, r2) := by rw [if_pos rfl] at H; exact H
                    clear H
                    have H := H1
                    clear H1
                    simp only [Option.some.injEq, Prod.mk.injEq] at H
                    obtain ⟨rfl, rfl⟩ := H
                    go_wp2_with (first | ((with_reducible refine gate_callee (f := 91) rfl ?_); refine goesL_ (some 20) rfl rfl Tryz.func91 (by kernel_rfl) rfl #[.string a0, .int .i64 x4_1] rfl (by (try simp only [List.map_toArray, List.map_cons, List.map_nil]); first | done | rfl | (simp only [List.length_drop, List.length_take]; rfl)) ?_; (with_reducible refine (grommetref01_guess.calls kj2 a0 x4_1 t101 _ (hG.below (by first | ((repeat (first | (with_reducible first | exact HB.out | apply below_alloc | apply pw_below_drewN | apply below_drew1 | (refine Glob.below_set ?_ (by assumption) _ _ _)) | exact HB.out)); done) | (refine Drawn0.below ?_; repeat (first | exact Drawn0.refl _ | assumption | apply Drawn0.step)))) A6.out).mono ?_); rintro e w13 ⟨rfl, hb⟩; refine ⟨_, rfl, ?_⟩; have n0_ := Aside0.mk (below_step (by repeat (first | (with_reducible first | exact HB.out | apply below_alloc | apply pw_below_drewN | apply below_drew1) | exact HB.out)) hb); clear HB; have HB := n0_; clear n0_; (try clear hb); (try clear hb2); (try clear hk); (try clear hi)) | ((with_reducible refine gate_callee (f := 92) rfl ?_); refine goesL_ (some 22) rfl rfl Tryz.func92 (by kernel_rfl) rfl #[.int .i64 t101] rfl (by (try simp only [List.map_toArray, List.map_cons, List.map_nil]); first | done | rfl | (simp only [List.length_drop, List.length_take]; rfl)) ?_; (with_reducible refine (grommetref01_Sign.calls t101 true _ (hG.below (by first | ((repeat (first | (with_reducible first | exact HB.out | apply below_alloc | apply pw_below_drewN | apply below_drew1 | (refine Glob.below_set ?_ (by assumption) _ _ _)) | exact HB.out)); done) | (refine Drawn0.below ?_; repeat (first | exact Drawn0.refl _ | assumption | apply Drawn0.step)))) A7.out).mono ?_); rintro e w' ⟨rfl, ⟨nd, rfl⟩⟩; refine ⟨_, rfl, ?_⟩) | (go_at_call 93; (with_reducible refine (grommetref01_bytes.calls t101 t103 _ (hG.below (by first | ((repeat (first | (with_reducible first | exact HB.out | apply below_alloc | apply pw_below_drewN | apply below_drew1 | (refine Glob.below_set ?_ (by assumption) _ _ _)) | exact HB.out)); done) | (refine Drawn0.below ?_; repeat (first | exact Drawn0.refl _ | assumption | apply Drawn0.step)))) A9.out).mono ?_); rintro e w14 ⟨v104, rfl, ho0, hb⟩; have n0_ := Aside0.mk (Kd.R_lower ho0 (below_size (by repeat (first | (with_reducible first | exact HB.out | apply below_alloc | apply pw_below_drewN | apply below_drew1) | exact HB.out)))); have n1_ := Aside0.mk (below_step (by repeat (first | (with_reducible first | exact HB.out | apply below_alloc | apply pw_below_drewN | apply below_drew1) | exact HB.out)) hb); clear HB; have HO105 := n0_; have HB := n1_; clear n0_ n1_; (try clear hb); (try clear hb2); (try clear hk); (try clear hi); (try clear ho0); obtain ⟨Ao15, co15, eo15⟩ := Kd.R_slice HO105.out; subst eo15) | (go_at_call 94; (with_reducible refine (grommetref01_begins.calls a0 t101 true _ (hG.below (by first | ((repeat (first | (with_reducible first | exact HB.out | apply below_alloc | apply pw_below_drewN | apply below_drew1 | (refine Glob.below_set ?_ (by assumption) _ _ _)) | exact HB.out)); done) | (refine Drawn0.below ?_; repeat (first | exact Drawn0.refl _ | assumption | apply Drawn0.step)))) A11.out).mono ?_); rintro e w16 ⟨rfl, hb⟩; have n0_ := Aside0.mk (Kd.R_below (by (with_reducible repeat (first | apply Kd.R_alloc | apply Kd.R_drewN | apply Kd.R_drew)); exact HO105.out) hb); have n1_ := Aside0.mk (below_step (by repeat (first | (with_reducible first | exact HB.out | apply below_alloc | apply pw_below_drewN | apply below_drew1) | exact HB.out)) hb); clear HO105; clear HB; have HO105 := n0_; have HB := n1_; clear n0_ n1_; (try clear hb); (try clear hb2); (try clear hk); (try clear hi)))
                    go_ret2
                    exact ⟨by first | rfl | (simp [errW_none, errW_some] <;> rfl) | (simp [*, errW_none, errW_some] <;> rfl), by repeat (first | (with_reducible first | exact HB.out | apply below_alloc | apply pw_below_drewN | apply below_drew1) | exact HB.out)⟩
                  · replace c12 := Bool.eq_false_iff.mpr c12
                    subst c12
                    have H1 : (grommetref01_First.l0 kj2 a0 (wrap64 (x4_1 + 1))) = some (r1, r2) := by rw [if_neg (show ¬ (false = true) by decide)] at H; exact H
                    clear H
                    have H := H1
                    clear H1
                    have H' := Aside0.mk H
                    clear H
                    go_wp2_with (first | ((with_reducible refine gate_callee (f := 91) rfl ?_); refine goesL_ (some 20) rfl rfl Tryz.func91 (by kernel_rfl) rfl #[.string a0, .int .i64 x4_1] rfl (by (try simp only [List.map_toArray, List.map_cons, List.map_nil]); first | done | rfl | (simp only [List.length_drop, List.length_take]; rfl)) ?_; (with_reducible refine (grommetref01_guess.calls kj2 a0 x4_1 t101 _ (hG.below (by first | ((repeat (first | (with_reducible first | exact HB.out | apply below_alloc | apply pw_below_drewN | apply below_drew1 | (refine Glob.below_set ?_ (by assumption) _ _ _)) | exact HB.out)); done) | (refine Drawn0.below ?_; repeat (first | exact Drawn0.refl _ | assumption | apply Drawn0.step)))) A6.out).mono ?_); rintro e w17 ⟨rfl, hb⟩; refine ⟨_, rfl, ?_⟩; have n0_ := Aside0.mk (below_step (by repeat (first | (with_reducible first | exact HB.out | apply below_alloc | apply pw_below_drewN | apply below_drew1) | exact HB.out)) hb); clear HB; have HB := n0_; clear n0_; (try clear hb); (try clear hb2); (try clear hk); (try clear hi)) | ((with_reducible refine gate_callee (f := 92) rfl ?_); refine goesL_ (some 22) rfl rfl Tryz.func92 (by kernel_rfl) rfl #[.int .i64 t101] rfl (by (try simp only [List.map_toArray, List.map_cons, List.map_nil]); first | done | rfl | (simp only [List.length_drop, List.length_take]; rfl)) ?_; (with_reducible refine (grommetref01_Sign.calls t101 true _ (hG.below (by first | ((repeat (first | (with_reducible first | exact HB.out | apply below_alloc | apply pw_below_drewN | apply below_drew1 | (refine Glob.below_set ?_ (by assumption) _ _ _)) | exact HB.out)); done) | (refine Drawn0.below ?_; repeat (first | exact Drawn0.refl _ | assumption | apply Drawn0.step)))) A7.out).mono ?_); rintro e w' ⟨rfl, ⟨nd, rfl⟩⟩; refine ⟨_, rfl, ?_⟩) | (go_at_call 93; (with_reducible refine (grommetref01_bytes.calls t101 t103 _ (hG.below (by first | ((repeat (first | (with_reducible first | exact HB.out | apply below_alloc | apply pw_below_drewN | apply below_drew1 | (refine Glob.below_set ?_ (by assumption) _ _ _)) | exact HB.out)); done) | (refine Drawn0.below ?_; repeat (first | exact Drawn0.refl _ | assumption | apply Drawn0.step)))) A9.out).mono ?_); rintro e w18 ⟨v104, rfl, ho0, hb⟩; have n0_ := Aside0.mk (Kd.R_lower ho0 (below_size (by repeat (first | (with_reducible first | exact HB.out | apply below_alloc | apply pw_below_drewN | apply below_drew1) | exact HB.out)))); have n1_ := Aside0.mk (below_step (by repeat (first | (with_reducible first | exact HB.out | apply below_alloc | apply pw_below_drewN | apply below_drew1) | exact HB.out)) hb); clear HB; have HO105 := n0_; have HB := n1_; clear n0_ n1_; (try clear hb); (try clear hb2); (try clear hk); (try clear hi); (try clear ho0); obtain ⟨Ao19, co19, eo19⟩ := Kd.R_slice HO105.out; subst eo19) | (go_at_call 94; (with_reducible refine (grommetref01_begins.calls a0 t101 false _ (hG.below (by first | ((repeat (first | (with_reducible first | exact HB.out | apply below_alloc | apply pw_below_drewN | apply below_drew1 | (refine Glob.below_set ?_ (by assumption) _ _ _)) | exact HB.out)); done) | (refine Drawn0.below ?_; repeat (first | exact Drawn0.refl _ | assumption | apply Drawn0.step)))) A11.out).mono ?_); rintro e w20 ⟨rfl, hb⟩; have n0_ := Aside0.mk (Kd.R_below (by (with_reducible repeat (first | apply Kd.R_alloc | apply Kd.R_drewN | apply Kd.R_drew)); exact HO105.out) hb); have n1_ := Aside0.mk (below_step (by repeat (first | (with_reducible first | exact HB.out | apply below_alloc | apply pw_below_drewN | apply below_drew1) | exact HB.out)) hb); clear HO105; clear HB; have HO105 := n0_; have HB := n1_; clear n0_ n1_; (try clear hb); (try clear hb2); (try clear hk); (try clear hi)))
                    go_roundg kj2
                    case measure => have := HK1.out; have := HJ2.out; omega
                    case rel => exact ⟨(wrap64 (x4_1 + 1)), (by first | rfl | (simp; done) | (simp [*]; done)), H', ⟨by have := HK1.out; have := HJ2.out; omega⟩, ⟨by repeat (first | (with_reducible first | exact HB.out | apply below_alloc | apply pw_below_drewN | apply below_drew1) | exact HB.out)⟩⟩
                · rw [if_neg c10] at H
                  have c10b0 : ((t103.length : Int) == x4_1) = false := beq_eq_false_iff_ne.mpr c10
                  have c10b1 : ((t103.length : Int) != x4_1) = true := bne_iff_ne.mpr c10
                  have H' := Aside0.mk H
                  clear H
                  go_wp2_with (first | ((with_reducible refine gate_callee (f := 91) rfl ?_); refine goesL_ (some 20) rfl rfl Tryz.func91 (by kernel_rfl) rfl #[.string a0, .int .i64 x4_1] rfl (by (try simp only [List.map_toArray, List.map_cons, List.map_nil]); first | done | rfl | (simp only [List.length_drop, List.length_take]; rfl)) ?_; (with_reducible refine (grommetref01_guess.calls kj2 a0 x4_1 t101 _ (hG.below (by first | ((repeat (first | (with_reducible first | exact HB.out | apply below_alloc | apply pw_below_drewN | apply below_drew1 | (refine Glob.below_set ?_ (by assumption) _ _ _)) | exact HB.out)); done) | (refine Drawn0.below ?_; repeat (first | exact Drawn0.refl _ | assumption | apply Drawn0.step)))) A6.out).mono ?_); rintro e w21 ⟨rfl, hb⟩; refine ⟨_, rfl, ?_⟩; have n0_ := Aside0.mk (below_step (by repeat (first | (with_reducible first | exact HB.out | apply below_alloc | apply pw_below_drewN | apply below_drew1) | exact HB.out)) hb); clear HB; have HB := n0_; clear n0_; (try clear hb); (try clear hb2); (try clear hk); (try clear hi)) | ((with_reducible refine gate_callee (f := 92) rfl ?_); refine goesL_ (some 22) rfl rfl Tryz.func92 (by kernel_rfl) rfl #[.int .i64 t101] rfl (by (try simp only [List.map_toArray, List.map_cons, List.map_nil]); first | done | rfl | (simp only [List.length_drop, List.length_take]; rfl)) ?_; (with_reducible refine (grommetref01_Sign.calls t101 true _ (hG.below (by first | ((repeat (first | (with_reducible first | exact HB.out | apply below_alloc | apply pw_below_drewN | apply below_drew1 | (refine Glob.below_set ?_ (by assumption) _ _ _)) | exact HB.out)); done) | (refine Drawn0.below ?_; repeat (first | exact Drawn0.refl _ | assumption | apply Drawn0.step)))) A7.out).mono ?_); rintro e w' ⟨rfl, ⟨nd, rfl⟩⟩; refine ⟨_, rfl, ?_⟩) | (go_at_call 93; (with_reducible refine (grommetref01_bytes.calls t101 t103 _ (hG.below (by first | ((repeat (first | (with_reducible first | exact HB.out | apply below_alloc | apply pw_below_drewN | apply below_drew1 | (refine Glob.below_set ?_ (by assumption) _ _ _)) | exact HB.out)); done) | (refine Drawn0.below ?_; repeat (first | exact Drawn0.refl _ | assumption | apply Drawn0.step)))) A9.out).mono ?_); rintro e w22 ⟨v104, rfl, ho0, hb⟩; have n0_ := Aside0.mk (Kd.R_lower ho0 (below_size (by repeat (first | (with_reducible first | exact HB.out | apply below_alloc | apply pw_below_drewN | apply below_drew1) | exact HB.out)))); have n1_ := Aside0.mk (below_step (by repeat (first | (with_reducible first | exact HB.out | apply below_alloc | apply pw_below_drewN | apply below_drew1) | exact HB.out)) hb); clear HB; have HO105 := n0_; have HB := n1_; clear n0_ n1_; (try clear hb); (try clear hb2); (try clear hk); (try clear hi); (try clear ho0); obtain ⟨Ao23, co23, eo23⟩ := Kd.R_slice HO105.out; subst eo23))
                  go_roundg kj2
                  case measure => have := HK1.out; have := HJ2.out; omega
                  case rel => exact ⟨(wrap64 (x4_1 + 1)), (by first | rfl | (simp; done) | (simp [*]; done)), H', ⟨by have := HK1.out; have := HJ2.out; omega⟩, ⟨by repeat (first | (with_reducible first | exact HB.out | apply below_alloc | apply pw_below_drewN | apply below_drew1) | exact HB.out)⟩⟩
              · replace c8 := Bool.eq_false_iff.mpr c8
                subst c8
                have H1 : (grommetref01_First.l0 kj2 a0 (wrap64 (x4_1 + 1))) = some (r1, r2) := by rw [if_neg (show ¬ (false = true) by decide)] at H; exact H
                clear H
                have H := H1
                clear H1
                have H' := Aside0.mk H
                clear H
                go_wp2_with (first | ((with_reducible refine gate_callee (f := 91) rfl ?_); refine goesL_ (some 20) rfl rfl Tryz.func91 (by kernel_rfl) rfl #[.string a0, .int .i64 x4_1] rfl (by (try simp only [List.map_toArray, List.map_cons, List.map_nil]); first | done | rfl | (simp only [List.length_drop, List.length_take]; rfl)) ?_; (with_reducible refine (grommetref01_guess.calls kj2 a0 x4_1 t101 _ (hG.below (by first | ((repeat (first | (with_reducible first | exact HB.out | apply below_alloc | apply pw_below_drewN | apply below_drew1 | (refine Glob.below_set ?_ (by assumption) _ _ _)) | exact HB.out)); done) | (refine Drawn0.below ?_; repeat (first | exact Drawn0.refl _ | assumption | apply Drawn0.step)))) A6.out).mono ?_); rintro e w24 ⟨rfl, hb⟩; refine ⟨_, rfl, ?_⟩; have n0_ := Aside0.mk (below_step (by repeat (first | (with_reducible first | exact HB.out | apply below_alloc | apply pw_below_drewN | apply below_drew1) | exact HB.out)) hb); clear HB; have HB := n0_; clear n0_; (try clear hb); (try clear hb2); (try clear hk); (try clear hi)) | ((with_reducible refine gate_callee (f := 92) rfl ?_); refine goesL_ (some 22) rfl rfl Tryz.func92 (by kernel_rfl) rfl #[.int .i64 t101] rfl (by (try simp only [List.map_toArray, List.map_cons, List.map_nil]); first | done | rfl | (simp only [List.length_drop, List.length_take]; rfl)) ?_; (with_reducible refine (grommetref01_Sign.calls t101 false _ (hG.below (by first | ((repeat (first | (with_reducible first | exact HB.out | apply below_alloc | apply pw_below_drewN | apply below_drew1 | (refine Glob.below_set ?_ (by assumption) _ _ _)) | exact HB.out)); done) | (refine Drawn0.below ?_; repeat (first | exact Drawn0.refl _ | assumption | apply Drawn0.step)))) A7.out).mono ?_); rintro e w' ⟨rfl, ⟨nd, rfl⟩⟩; refine ⟨_, rfl, ?_⟩))
                go_roundg kj2
                case measure => have := HK1.out; have := HJ2.out; omega
                case rel => exact ⟨(wrap64 (x4_1 + 1)), (by first | rfl | (simp; done) | (simp [*]; done)), H', ⟨by have := HK1.out; have := HJ2.out; omega⟩, ⟨by repeat (first | (with_reducible first | exact HB.out | apply below_alloc | apply pw_below_drewN | apply below_drew1) | exact HB.out)⟩⟩
            · replace c5 := Bool.eq_false_iff.mpr c5
              subst c5
              have H1 : (some ((-1), 1)) = some (r1, r2) := by rw [if_neg (show ¬ (false = true) by decide)] at H; exact H
              clear H
              have H := H1
              clear H1
              simp only [Option.some.injEq, Prod.mk.injEq] at H
              obtain ⟨rfl, rfl⟩ := H
              go_wp2
              go_ret2
              exact ⟨by first | rfl | (simp [errW_none, errW_some] <;> rfl) | (simp [*, errW_none, errW_some] <;> rfl), by repeat (first | (with_reducible first | exact HB.out | apply below_alloc | apply pw_below_drewN | apply below_drew1) | exact HB.out)⟩

end Go.Proofs.YtmkdjgmdfhagfaaGreatDoor.PX

/- YtmkdjgmdfhagfaaGreatDoorFGrommetref01Printable: what print.py told of Go functions, for this claim. -/
namespace Go.Proofs.YtmkdjgmdfhagfaaGreatDoor.PX
open Go.RowKit Go.Proofs.YtmkdjgmdfhagfaaGreatDoorW.PrintWords Go.Proofs.YtmkdjgmdfhagfaaGreatDoorW.PrintLast Go.Proofs.YtmkdjgmdfhagfaaGreatDoorW.PrintMore Go.Proofs.YtmkdjgmdfhagfaaGreatDoor
attribute [local go_sem] max2_int min2_int max_two min_two max_three min_three max_four min_four   -- for this text's walks alone
set_option linter.unusedVariables false
set_option linter.unusedSimpArgs false

/-! ### grommetref01_Printable: function 67 -/
def grommetref01_Printable.j0 : Nat → Int → Bool → Option (Bool)
  | 0, _, _ => none
  | k + 1, x0, x3 => if x3 = true then (some true) else (if x0 = 65279 then (some false) else (if x0 ≥ 32 then (if x0 ≤ 126 then (some true) else (if x0 ≥ 160 then (if x0 ≤ 55295 then (some true) else (if x0 ≥ 57344 then (if x0 ≤ 65533 then (some true) else (if x0 ≥ 65536 then (some (decide (x0 ≤ 1114111))) else (some false))) else (if x0 ≥ 65536 then (some (decide (x0 ≤ 1114111))) else (some false)))) else (if x0 ≥ 57344 then (if x0 ≤ 65533 then (some true) else (if x0 ≥ 65536 then (some (decide (x0 ≤ 1114111))) else (some false))) else (if x0 ≥ 65536 then (some (decide (x0 ≤ 1114111))) else (some false))))) else (if x0 ≥ 160 then (if x0 ≤ 55295 then (some true) else (if x0 ≥ 57344 then (if x0 ≤ 65533 then (some true) else (if x0 ≥ 65536 then (some (decide (x0 ≤ 1114111))) else (some false))) else (if x0 ≥ 65536 then (some (decide (x0 ≤ 1114111))) else (some false)))) else (if x0 ≥ 57344 then (if x0 ≤ 65533 then (some true) else (if x0 ≥ 65536 then (some (decide (x0 ≤ 1114111))) else (some false))) else (if x0 ≥ 65536 then (some (decide (x0 ≤ 1114111))) else (some false))))))
def grommetref01_Printable.f (k : Nat) (a0 : Int) : Option (Bool) := if a0 = 9 then (grommetref01_Printable.j0 k a0 true) else (if a0 = 10 then (grommetref01_Printable.j0 k a0 true) else (if a0 = 13 then (grommetref01_Printable.j0 k a0 true) else (grommetref01_Printable.j0 k a0 (a0 == 133))))
set_option maxHeartbeats 8000000 in
set_option maxRecDepth 100000 in
theorem grommetref01_Printable.calls (k : Nat) (a0 : Int) (r : Bool) (w : World) (hG : Glob.G w) (h : grommetref01_Printable.f k a0 = some r) :
    Calls Tryz.prog 67 #[.int .i64 a0] w fun e w' => e = .returned (.bool r) ∧ Drawn0 w w' := by
  have H : (if a0 = 9 then (grommetref01_Printable.j0 k a0 true) else (if a0 = 10 then (grommetref01_Printable.j0 k a0 true) else (if a0 = 13 then (grommetref01_Printable.j0 k a0 true) else (grommetref01_Printable.j0 k a0 (a0 == 133))))) = some r := h
  clear h
  have HC2 := Aside0.mk H
  clear H
  go_enter Tryz.func67, Tryz.ntmps67
  go_upto_region 1 with (fail)
  go_cut [3] (fun v3 wc => ∃ (kq : Nat) (x3_1 : Bool), v3 = .bool x3_1 ∧ Aside0 (grommetref01_Printable.j0 kq a0 x3_1 = some r) ∧ Aside0 (kq ≤ k) ∧ Drawn0 w wc)
  case first =>
    have H := HC2.out
    clear HC2
    by_cases c3 : a0 = 9
    · rw [if_pos c3] at H
      have c3b0 : (a0 == 9) = true := beq_iff_eq.mpr c3
      have c3b1 : (a0 != 9) = false := bne_eq_false_iff_eq.mpr c3
      clear c3
      (first | rw [c3b0] | (simp only [i64_w, i32_w]; rw [c3b0]) | skip)
      have H' := Aside0.mk H
      clear H
      go_wp2
      go_meet
      case rel => exact ⟨_, (true), (by first | rfl | (simp; done) | (simp [*]; done)), H', ⟨by first | omega | exact Nat.le_refl _⟩, by repeat (first | exact Drawn0.refl _ | apply Drawn0.step)⟩
    · rw [if_neg c3] at H
      have c3b0 : (a0 == 9) = false := beq_eq_false_iff_ne.mpr c3
      have c3b1 : (a0 != 9) = true := bne_iff_ne.mpr c3
      (first | rw [c3b0] | (simp only [i64_w, i32_w]; rw [c3b0]) | skip)
      by_cases c4 : a0 = 10
      · rw [if_pos c4] at H
        have c4b0 : (a0 == 10) = true := beq_iff_eq.mpr c4
        have c4b1 : (a0 != 10) = false := bne_eq_false_iff_eq.mpr c4
        clear c4
        have H' := Aside0.mk H
        clear H
        go_wp2
        go_meet
        case rel => exact ⟨_, (true), (by first | rfl | (simp; done) | (simp [*]; done)), H', ⟨by first | omega | exact Nat.le_refl _⟩, by repeat (first | exact Drawn0.refl _ | apply Drawn0.step)⟩
      · rw [if_neg c4] at H
        have c4b0 : (a0 == 10) = false := beq_eq_false_iff_ne.mpr c4
        have c4b1 : (a0 != 10) = true := bne_iff_ne.mpr c4
        by_cases c5 : a0 = 13
        · rw [if_pos c5] at H
          have c5b0 : (a0 == 13) = true := beq_iff_eq.mpr c5
          have c5b1 : (a0 != 13) = false := bne_eq_false_iff_eq.mpr c5
          clear c5
          have H' := Aside0.mk H
          clear H
          go_wp2
          go_meet
          case rel => exact ⟨_, (true), (by first | rfl | (simp; done) | (simp [*]; done)), H', ⟨by first | omega | exact Nat.le_refl _⟩, by repeat (first | exact Drawn0.refl _ | apply Drawn0.step)⟩
        · rw [if_neg c5] at H
          have c5b0 : (a0 == 13) = false := beq_eq_false_iff_ne.mpr c5
          have c5b1 : (a0 != 13) = true := bne_iff_ne.mpr c5
          have H' := Aside0.mk H
          clear H
          go_wp2
          go_meet
          case rel => exact ⟨_, ((a0 == 133)), (by first | rfl | (simp; done) | (simp [*]; done)), H', ⟨by first | omega | exact Nat.le_refl _⟩, by repeat (first | exact Drawn0.refl _ | apply Drawn0.step)⟩
  case rest =>
    clear HC2
    try clear p2
    try clear c3
    try clear c3b0
    try clear c3b1
    try clear c4
    try clear c4b0
    try clear c4b1
    try clear c5
    try clear c5b0
    try clear c5b1
    obtain ⟨kq, x3_1, rfl, HA, HJ1, ⟨mc1, rfl⟩⟩ := hcut
    cases kq with
    | zero => exact absurd HA.out (by simp [grommetref01_Printable.j0])
    | succ kj1 =>
      have H := HA.out
      clear HA
      simp only [grommetref01_Printable.j0] at H
      by_cases c6 : x3_1 = true
      · subst c6
        have H1 : (some true) = some r := by rw [if_pos rfl] at H; exact H
        clear H
        have H := H1
        clear H1
        obtain rfl := Option.some.inj H
        go_wp2
        go_ret
        exact ⟨by first | rfl | (simp; done) | (simp [*]; done) | (simp; generalize ByteArray.toList _ = l_; cases l_ <;> rfl), by repeat (first | exact Drawn0.refl _ | apply Drawn0.step)⟩
      · replace c6 := Bool.eq_false_iff.mpr c6
        subst c6
        have H1 : (if a0 = 65279 then (some false) else (if a0 ≥ 32 then (if a0 ≤ 126 then (some true) else (if a0 ≥ 160 then (if a0 ≤ 55295 then (some true) else (if a0 ≥ 57344 then (if a0 ≤ 65533 then (some true) else (if a0 ≥ 65536 then (some (decide (a0 ≤ 1114111))) else (some false))) else (if a0 ≥ 65536 then (some (decide (a0 ≤ 1114111))) else (some false)))) else (if a0 ≥ 57344 then (if a0 ≤ 65533 then (some true) else (if a0 ≥ 65536 then (some (decide (a0 ≤ 1114111))) else (some false))) else (if a0 ≥ 65536 then (some (decide (a0 ≤ 1114111))) else (some false))))) else (if a0 ≥ 160 then (if a0 ≤ 55295 then (some true) else (if a0 ≥ 57344 then (if a0 ≤ 65533 then (some true) else (if a0 ≥ 65536 then (some (decide (a0 ≤ 1114111))) else (some false))) else (if a0 ≥ 65536 then (some (decide (a0 ≤ 1114111))) else (some false)))) else (if a0 ≥ 57344 then (if a0 ≤ 65533 then (some true) else (if a0 ≥ 65536 then (some (decide (a0 ≤ 1114111))) else (some false))) else (if a0 ≥ 65536 then (some (decide (a0 ≤ 1114111))) else (some false)))))) = some r := by rw [if_neg (show ¬ (false = true) by decide)] at H; exact H
        clear H
        have H := H1
        clear H1
        by_cases c7 : a0 = 65279
        · rw [if_pos c7] at H
          have c7b0 : (a0 == 65279) = true := beq_iff_eq.mpr c7
          have c7b1 : (a0 != 65279) = false := bne_eq_false_iff_eq.mpr c7
          clear c7
          obtain rfl := Option.some.inj H
          go_wp2
          go_ret
          exact ⟨by first | rfl | (simp; done) | (simp [*]; done) | (simp; generalize ByteArray.toList _ = l_; cases l_ <;> rfl), by repeat (first | exact Drawn0.refl _ | apply Drawn0.step)⟩
        · rw [if_neg c7] at H
          have c7b0 : (a0 == 65279) = false := beq_eq_false_iff_ne.mpr c7
          have c7b1 : (a0 != 65279) = true := bne_iff_ne.mpr c7
          by_cases c8 : a0 ≥ 32
          · rw [if_pos c8] at H
            have c8b0 : decide (32 ≤ a0) = true := decide_eq_true c8
            clear c8
            by_cases c9 : a0 ≤ 126
            · rw [if_pos c9] at H
              have c9b0 : decide (a0 ≤ 126) = true := decide_eq_true c9
              clear c9
              obtain rfl := Option.some.inj H
              go_wp2
              go_ret
              exact ⟨by first | rfl | (simp; done) | (simp [*]; done) | (simp; generalize ByteArray.toList _ = l_; cases l_ <;> rfl), by repeat (first | exact Drawn0.refl _ | apply Drawn0.step)⟩
            · rw [if_neg c9] at H
              have c9b0 : decide (a0 ≤ 126) = false := decide_eq_false c9
              clear c9
              by_cases c10 : a0 ≥ 160
              · rw [if_pos c10] at H
                have c10b0 : decide (160 ≤ a0) = true := decide_eq_true c10
                clear c10
                by_cases c11 : a0 ≤ 55295
                · rw [if_pos c11] at H
                  have c11b0 : decide (a0 ≤ 55295) = true := decide_eq_true c11
                  clear c11
                  obtain rfl := Option.some.inj H
                  go_wp2
                  go_ret
                  exact ⟨by first | rfl | (simp; done) | (simp [*]; done) | (simp; generalize ByteArray.toList _ = l_; cases l_ <;> rfl), by repeat (first | exact Drawn0.refl _ | apply Drawn0.step)⟩
                · rw [if_neg c11] at H
                  have c11b0 : decide (a0 ≤ 55295) = false := decide_eq_false c11
                  clear c11
                  by_cases c12 : a0 ≥ 57344
                  · rw [if_pos c12] at H
                    have c12b0 : decide (57344 ≤ a0) = true := decide_eq_true c12
                    clear c12
                    by_cases c13 : a0 ≤ 65533
                    · rw [if_pos c13] at H
                      have c13b0 : decide (a0 ≤ 65533) = true := decide_eq_true c13
                      clear c13
                      obtain rfl := Option.some.inj H
                      go_wp2
                      go_ret
                      exact ⟨by first | rfl | (simp; done) | (simp [*]; done) | (simp; generalize ByteArray.toList _ = l_; cases l_ <;> rfl), by repeat (first | exact Drawn0.refl _ | apply Drawn0.step)⟩
                    · rw [if_neg c13] at H
                      have c13b0 : decide (a0 ≤ 65533) = false := decide_eq_false c13
                      clear c13
                      by_cases c14 : a0 ≥ 65536
                      · rw [if_pos c14] at H
                        have c14b0 : decide (65536 ≤ a0) = true := decide_eq_true c14
                        clear c14
                        obtain rfl := Option.some.inj H
                        go_wp2
                        go_ret
                        exact ⟨by first | rfl | (simp; done) | (simp [*]; done) | (simp; generalize ByteArray.toList _ = l_; cases l_ <;> rfl), by repeat (first | exact Drawn0.refl _ | apply Drawn0.step)⟩
                      · rw [if_neg c14] at H
                        have c14b0 : decide (65536 ≤ a0) = false := decide_eq_false c14
                        clear c14
                        obtain rfl := Option.some.inj H
                        go_wp2
                        go_ret
                        exact ⟨by first | rfl | (simp; done) | (simp [*]; done) | (simp; generalize ByteArray.toList _ = l_; cases l_ <;> rfl), by repeat (first | exact Drawn0.refl _ | apply Drawn0.step)⟩
                  · rw [if_neg c12] at H
                    have c12b0 : decide (57344 ≤ a0) = false := decide_eq_false c12
                    clear c12
                    by_cases c15 : a0 ≥ 65536
                    · rw [if_pos c15] at H
                      have c15b0 : decide (65536 ≤ a0) = true := decide_eq_true c15
                      clear c15
                      obtain rfl := Option.some.inj H
                      go_wp2
                      go_ret
                      exact ⟨by first | rfl | (simp; done) | (simp [*]; done) | (simp; generalize ByteArray.toList _ = l_; cases l_ <;> rfl), by repeat (first | exact Drawn0.refl _ | apply Drawn0.step)⟩
                    · rw [if_neg c15] at H
                      have c15b0 : decide (65536 ≤ a0) = false := decide_eq_false c15
                      clear c15
                      obtain rfl := Option.some.inj H
                      go_wp2
                      go_ret
                      exact ⟨by first | rfl | (simp; done) | (simp [*]; done) | (simp; generalize ByteArray.toList _ = l_; cases l_ <;> rfl), by repeat (first | exact Drawn0.refl _ | apply Drawn0.step)⟩
              · rw [if_neg c10] at H
                have c10b0 : decide (160 ≤ a0) = false := decide_eq_false c10
                clear c10
                by_cases c16 : a0 ≥ 57344
                · rw [if_pos c16] at H
                  have c16b0 : decide (57344 ≤ a0) = true := decide_eq_true c16
                  clear c16
                  by_cases c17 : a0 ≤ 65533
                  · rw [if_pos c17] at H
                    have c17b0 : decide (a0 ≤ 65533) = true := decide_eq_true c17
                    clear c17
                    obtain rfl := Option.some.inj H
                    go_wp2
                    go_ret
                    exact ⟨by first | rfl | (simp; done) | (simp [*]; done) | (simp; generalize ByteArray.toList _ = l_; cases l_ <;> rfl), by repeat (first | exact Drawn0.refl _ | apply Drawn0.step)⟩
                  · rw [if_neg c17] at H
                    have c17b0 : decide (a0 ≤ 65533) = false := decide_eq_false c17
                    clear c17
                    by_cases c18 : a0 ≥ 65536
                    · rw [if_pos c18] at H
                      have c18b0 : decide (65536 ≤ a0) = true := decide_eq_true c18
                      clear c18
                      obtain rfl := Option.some.inj H
                      go_wp2
                      go_ret
                      exact ⟨by first | rfl | (simp; done) | (simp [*]; done) | (simp; generalize ByteArray.toList _ = l_; cases l_ <;> rfl), by repeat (first | exact Drawn0.refl _ | apply Drawn0.step)⟩
                    · rw [if_neg c18] at H
                      have c18b0 : decide (65536 ≤ a0) = false := decide_eq_false c18
                      clear c18
                      obtain rfl := Option.some.inj H
                      go_wp2
                      go_ret
                      exact ⟨by first | rfl | (simp; done) | (simp [*]; done) | (simp; generalize ByteArray.toList _ = l_; cases l_ <;> rfl), by repeat (first | exact Drawn0.refl _ | apply Drawn0.step)⟩
                · rw [if_neg c16] at H
                  have c16b0 : decide (57344 ≤ a0) = false := decide_eq_false c16
                  clear c16
                  by_cases c19 : a0 ≥ 65536
                  · rw [if_pos c19] at H
                    have c19b0 : decide (65536 ≤ a0) = true := decide_eq_true c19
                    clear c19
                    obtain rfl := Option.some.inj H
                    go_wp2
                    go_ret
                    exact ⟨by first | rfl | (simp; done) | (simp [*]; done) | (simp; generalize ByteArray.toList _ = l_; cases l_ <;> rfl), by repeat (first | exact Drawn0.refl _ | apply Drawn0.step)⟩
                  · rw [if_neg c19] at H
                    have c19b0 : decide (65536 ≤ a0) = false := decide_eq_false c19
                    clear c19
                    obtain rfl := Option.some.inj H
                    go_wp2
                    go_ret
                    exact ⟨by first | rfl | (simp; done) | (simp [*]; done) | (simp; generalize ByteArray.toList _ = l_; cases l_ <;> rfl), by repeat (first | exact Drawn0.refl _ | apply Drawn0.step)⟩
          · rw [if_neg c8] at H
            have c8b0 : decide (32 ≤ a0) = false := decide_eq_false c8
            clear c8
            by_cases c20 : a0 ≥ 160
            · rw [if_pos c20] at H
              have c20b0 : decide (160 ≤ a0) = true := decide_eq_true c20
              clear c20
              by_cases c21 : a0 ≤ 55295
              · rw [if_pos c21] at H
                have c21b0 : decide (a0 ≤ 55295) = true := decide_eq_true c21
                clear c21
                obtain rfl := Option.some.inj H
                go_wp2
                go_ret
                exact ⟨by first | rfl | (simp; done) | (simp [*]; done) | (simp; generalize ByteArray.toList _ = l_; cases l_ <;> rfl), by repeat (first | exact Drawn0.refl _ | apply Drawn0.step)⟩
              · rw [if_neg c21] at H
                have c21b0 : decide (a0 ≤ 55295) = false := decide_eq_false c21
                clear c21
                by_cases c22 : a0 ≥ 57344
                · rw [if_pos c22] at H
                  have c22b0 : decide (57344 ≤ a0) = true := decide_eq_true c22
                  clear c22
                  by_cases c23 : a0 ≤ 65533
                  · rw [if_pos c23] at H
                    have c23b0 : decide (a0 ≤ 65533) = true := decide_eq_true c23
                    clear c23
                    obtain rfl := Option.some.inj H
                    go_wp2
                    go_ret
                    exact ⟨by first | rfl | (simp; done) | (simp [*]; done) | (simp; generalize ByteArray.toList _ = l_; cases l_ <;> rfl), by repeat (first | exact Drawn0.refl _ | apply Drawn0.step)⟩
                  · rw [if_neg c23] at H
                    have c23b0 : decide (a0 ≤ 65533) = false := decide_eq_false c23
                    clear c23
                    by_cases c24 : a0 ≥ 65536
                    · rw [if_pos c24] at H
                      have c24b0 : decide (65536 ≤ a0) = true := decide_eq_true c24
                      clear c24
                      obtain rfl := Option.some.inj H
                      go_wp2
                      go_ret
                      exact ⟨by first | rfl | (simp; done) | (simp [*]; done) | (simp; generalize ByteArray.toList _ = l_; cases l_ <;> rfl), by repeat (first | exact Drawn0.refl _ | apply Drawn0.step)⟩
                    · rw [if_neg c24] at H
                      have c24b0 : decide (65536 ≤ a0) = false := decide_eq_false c24
                      clear c24
                      obtain rfl := Option.some.inj H
                      go_wp2
                      go_ret
                      exact ⟨by first | rfl | (simp; done) | (simp [*]; done) | (simp; generalize ByteArray.toList _ = l_; cases l_ <;> rfl), by repeat (first | exact Drawn0.refl _ | apply Drawn0.step)⟩
                · rw [if_neg c22] at H
                  have c22b0 : decide (57344 ≤ a0) = false := decide_eq_false c22
                  clear c22
                  by_cases c25 : a0 ≥ 65536
                  · rw [if_pos c25] at H
                    have c25b0 : decide (65536 ≤ a0) = true := decide_eq_true c25
                    clear c25
                    obtain rfl := Option.some.inj H
                    go_wp2
                    go_ret
                    exact ⟨by first | rfl | (simp; done) | (simp [*]; done) | (simp; generalize ByteArray.toList _ = l_; cases l_ <;> rfl), by repeat (first | exact Drawn0.refl _ | apply Drawn0.step)⟩
                  · rw [if_neg c25] at H
                    have c25b0 : decide (65536 ≤ a0) = false := decide_eq_false c25
                    clear c25
                    obtain rfl := Option.some.inj H
                    go_wp2
                    go_ret
                    exact ⟨by first | rfl | (simp; done) | (simp [*]; done) | (simp; generalize ByteArray.toList _ = l_; cases l_ <;> rfl), by repeat (first | exact Drawn0.refl _ | apply Drawn0.step)⟩
            · rw [if_neg c20] at H
              have c20b0 : decide (160 ≤ a0) = false := decide_eq_false c20
              clear c20
              by_cases c26 : a0 ≥ 57344
              · rw [if_pos c26] at H
                have c26b0 : decide (57344 ≤ a0) = true := decide_eq_true c26
                clear c26
                by_cases c27 : a0 ≤ 65533
                · rw [if_pos c27] at H
                  have c27b0 : decide (a0 ≤ 65533) = true := decide_eq_true c27
                  clear c27
                  obtain rfl := Option.some.inj H
                  go_wp2
                  go_ret
                  exact ⟨by first | rfl | (simp; done) | (simp [*]; done) | (simp; generalize ByteArray.toList _ = l_; cases l_ <;> rfl), by repeat (first | exact Drawn0.refl _ | apply Drawn0.step)⟩
                · rw [if_neg c27] at H
                  have c27b0 : decide (a0 ≤ 65533) = false := decide_eq_false c27
                  clear c27
                  by_cases c28 : a0 ≥ 65536
                  · rw [if_pos c28] at H
                    have c28b0 : decide (65536 ≤ a0) = true := decide_eq_true c28
                    clear c28
                    obtain rfl := Option.some.inj H
                    go_wp2
                    go_ret
                    exact ⟨by first | rfl | (simp; done) | (simp [*]; done) | (simp; generalize ByteArray.toList _ = l_; cases l_ <;> rfl), by repeat (first | exact Drawn0.refl _ | apply Drawn0.step)⟩
                  · rw [if_neg c28] at H
                    have c28b0 : decide (65536 ≤ a0) = false := decide_eq_false c28
                    clear c28
                    obtain rfl := Option.some.inj H
                    go_wp2
                    go_ret
                    exact ⟨by first | rfl | (simp; done) | (simp [*]; done) | (simp; generalize ByteArray.toList _ = l_; cases l_ <;> rfl), by repeat (first | exact Drawn0.refl _ | apply Drawn0.step)⟩
              · rw [if_neg c26] at H
                have c26b0 : decide (57344 ≤ a0) = false := decide_eq_false c26
                clear c26
                by_cases c29 : a0 ≥ 65536
                · rw [if_pos c29] at H
                  have c29b0 : decide (65536 ≤ a0) = true := decide_eq_true c29
                  clear c29
                  obtain rfl := Option.some.inj H
                  go_wp2
                  go_ret
                  exact ⟨by first | rfl | (simp; done) | (simp [*]; done) | (simp; generalize ByteArray.toList _ = l_; cases l_ <;> rfl), by repeat (first | exact Drawn0.refl _ | apply Drawn0.step)⟩
                · rw [if_neg c29] at H
                  have c29b0 : decide (65536 ≤ a0) = false := decide_eq_false c29
                  clear c29
                  obtain rfl := Option.some.inj H
                  go_wp2
                  go_ret
                  exact ⟨by first | rfl | (simp; done) | (simp [*]; done) | (simp; generalize ByteArray.toList _ = l_; cases l_ <;> rfl), by repeat (first | exact Drawn0.refl _ | apply Drawn0.step)⟩

end Go.Proofs.YtmkdjgmdfhagfaaGreatDoor.PX

/- The reference's reading of the signs of a text (First, Printable, Check) answers, for every text, what plain functions on its bytes answer; no conditions. -/
namespace Go.Proofs.YtmkdjgmdfhagfaaGreatDoor.Utf
open Go.RowKit Go.Proofs.YtmkdjgmdfhagfaaGreatDoor.PX Go.Proofs.YtmkdjgmdfhagfaaGreatDoorW.PrintWords Go.Proofs.YtmkdjgmdfhagfaaGreatDoorW.PrintLast

/-- Byte number i, or 0 behind the end. -/
def at_ (l : List UInt8) (i : Nat) : Nat := (l.getD i 0).toNat
theorem at_lt (l : List UInt8) (i : Nat) : at_ l i < 256 := UInt8.toNat_lt _

/-- The first sign of a text and how many bytes it has; -1: none stands there. -/
def dec (l : List UInt8) : Int × Nat :=
  if l = [] then (-1, 0) else
  if (Lib.decodeN l.length (at_ l 0) (at_ l 1) (at_ l 2) (at_ l 3)).1 = 65533 ∧ (Lib.decodeN l.length (at_ l 0) (at_ l 1) (at_ l 2) (at_ l 3)).2 < 3 then
    (-1, (Lib.decodeN l.length (at_ l 0) (at_ l 1) (at_ l 2) (at_ l 3)).2)
  else (((Lib.decodeN l.length (at_ l 0) (at_ l 1) (at_ l 2) (at_ l 3)).1 : Int), (Lib.decodeN l.length (at_ l 0) (at_ l 1) (at_ l 2) (at_ l 3)).2)

/-- May a sign be printed? -/
def prt (n : Int) : Bool :=
  n == 9 || n == 10 || n == 13 || n == 133 || (decide (32 ≤ n) && decide (n ≤ 126)) || (decide (160 ≤ n) && decide (n ≤ 55295)) ||
  (decide (57344 ≤ n) && decide (n ≤ 65533) && n != 65279) || (decide (65536 ≤ n) && decide (n ≤ 1114111))

theorem bt_at_ (s : ByteArray) (i : Nat) : bt s (i : Int) = (at_ s.data.toList i : Int) := by
  unfold bt at_
  have hs : s.size = s.data.toList.length := by rw [Array.length_toList]; rfl
  by_cases h : i < s.size
  · rw [dif_pos (by simpa using h)]
    have : s.data.toList.getD i 0 = s[i] := by
      rw [List.getD_eq_getElem?_getD, List.getElem?_eq_getElem (by omega)]; rfl
    rw [this]; rfl
  · rw [dif_neg (by simpa using h), List.getD_eq_getElem?_getD, List.getElem?_eq_none (by omega)]; rfl

theorem guess_done (k : Nat) (s : ByteArray) (m n i : Int) (h : ¬ i < m) : grommetref01_guess.l0 (k + 1) s m n i = some n := by
  simp only [grommetref01_guess.l0]; rw [if_neg h]

theorem guess_more (k : Nat) (s : ByteArray) (m n i : Int) (h : i < m) (h0 : 0 ≤ i) (h1 : i < (s.size : Int)) (h2 : i < 1000) (h3 : -1000000000 ≤ n) (h4 : n ≤ 1000000000) :
    grommetref01_guess.l0 (k + 1) s m n i = grommetref01_guess.l0 k s m (n * 64 + bt s i - 128) (i + 1) := by
  have := bt_range s i
  simp only [grommetref01_guess.l0]; rw [if_pos h, if_pos h0, if_pos h1]
  congr 1 <;> (unfold wrap64; omega)

theorem guess1 (k : Nat) (s : ByteArray) (h : 1 ≤ s.size) : grommetref01_guess.f (k + 4) s 1 = some (bt s 0) := by
  have := bt_range s 0
  unfold grommetref01_guess.f
  simp only [Option.bind_some, List.length_cons, List.length_nil]
  rw [if_pos (by omega), if_pos (by omega), if_pos (by omega), guess_done _ _ _ _ _ (by omega)]
  congr 1; simp [rd]; unfold wrap64; omega

theorem guess2 (k : Nat) (s : ByteArray) (h : 2 ≤ s.size) : grommetref01_guess.f (k + 4) s 2 = some ((bt s 0 - 192) * 64 + bt s 1 - 128) := by
  have := bt_range s 0; have := bt_range s 1
  unfold grommetref01_guess.f
  simp only [Option.bind_some, List.length_cons, List.length_nil]
  rw [if_pos (by omega), if_pos (by omega), if_pos (by omega)]
  have e : wrap64 (wrap64 (bt s 0) - rd [0, 0, 192, 224, 240] 2) = bt s 0 - 192 := by simp [rd]; unfold wrap64; omega
  rw [e, guess_more _ _ _ _ _ (by omega) (by omega) (by omega) (by omega) (by omega) (by omega), guess_done _ _ _ _ _ (by omega)]

theorem guess3 (k : Nat) (s : ByteArray) (h : 3 ≤ s.size) : grommetref01_guess.f (k + 4) s 3 = some (((bt s 0 - 224) * 64 + bt s 1 - 128) * 64 + bt s 2 - 128) := by
  have := bt_range s 0; have := bt_range s 1; have := bt_range s 2
  unfold grommetref01_guess.f
  simp only [Option.bind_some, List.length_cons, List.length_nil]
  rw [if_pos (by omega), if_pos (by omega), if_pos (by omega)]
  have e : wrap64 (wrap64 (bt s 0) - rd [0, 0, 192, 224, 240] 3) = bt s 0 - 224 := by simp [rd]; unfold wrap64; omega
  rw [e, guess_more _ _ _ _ _ (by omega) (by omega) (by omega) (by omega) (by omega) (by omega), guess_more _ _ _ _ _ (by omega) (by omega) (by omega) (by omega) (by omega) (by omega),
    guess_done _ _ _ _ _ (by omega)]
  rfl

theorem guess4 (k : Nat) (s : ByteArray) (h : 4 ≤ s.size) : grommetref01_guess.f (k + 4) s 4 = some ((((bt s 0 - 240) * 64 + bt s 1 - 128) * 64 + bt s 2 - 128) * 64 + bt s 3 - 128) := by
  have := bt_range s 0; have := bt_range s 1; have := bt_range s 2; have := bt_range s 3; have := bt_range s (1 + 1)
  unfold grommetref01_guess.f
  simp only [Option.bind_some, List.length_cons, List.length_nil]
  rw [if_pos (by omega), if_pos (by omega), if_pos (by omega)]
  have e : wrap64 (wrap64 (bt s 0) - rd [0, 0, 192, 224, 240] 4) = bt s 0 - 240 := by simp [rd]; unfold wrap64; omega
  rw [e, guess_more _ _ _ _ _ (by omega) (by omega) (by omega) (by omega) (by omega) (by omega), guess_more _ _ _ _ _ (by omega) (by omega) (by omega) (by omega) (by omega) (by omega),
    guess_more _ _ _ _ _ (by omega) (by omega) (by omega) (by omega) (by omega) (by omega), guess_done _ _ _ _ _ (by omega)]
  rfl

def sgn (n : Int) : Bool := decide (0 ≤ n) && decide (n ≤ 1114111) && (decide (n < 55296) || decide (57343 < n))
theorem sign_eq (n : Int) : grommetref01_Sign.f n = some (sgn n) := by
  unfold grommetref01_Sign.f sgn
  by_cases h : 0 ≤ n <;> by_cases h1 : n ≤ 1114111 <;> by_cases h2 : n < 55296 <;> simp [h, h1, h2]

/-- A sign's bytes, as numbers. -/
def byt (n : Int) : List Int :=
  if n < 128 then [n] else if n < 2048 then [192 + n / 64, 128 + n % 64] else
  if n < 65536 then [224 + n / 4096, 128 + n / 64 % 64, 128 + n % 64] else [240 + n / 262144, 128 + n / 4096 % 64, 128 + n / 64 % 64, 128 + n % 64]
theorem bytes_eq (n : Int) (h0 : 0 ≤ n) (h1 : n ≤ 1114111) : grommetref01_bytes.f n = some (byt n) := by
  unfold grommetref01_bytes.f byt
  have e1 : wrap64 (Int.tdiv n 64) = n / 64 := by rw [Int.tdiv_eq_ediv_of_nonneg h0]; unfold wrap64; omega
  have e2 : wrap64 (Int.tdiv n 4096) = n / 4096 := by rw [Int.tdiv_eq_ediv_of_nonneg h0]; unfold wrap64; omega
  have e3 : wrap64 (Int.tdiv n 262144) = n / 262144 := by rw [Int.tdiv_eq_ediv_of_nonneg h0]; unfold wrap64; omega
  have m1 : Int.tmod n 64 = n % 64 := Int.tmod_eq_emod_of_nonneg h0
  have m2 : Int.tmod (n / 64) 64 = n / 64 % 64 := Int.tmod_eq_emod_of_nonneg (by omega)
  have m3 : Int.tmod (n / 4096) 64 = n / 4096 % 64 := Int.tmod_eq_emod_of_nonneg (by omega)
  rw [e1, e2, e3, m1, m2, m3]
  by_cases a : n < 128
  · rw [if_pos a, if_pos a]; congr 2; omega
  rw [if_neg a, if_neg a]
  by_cases b : n < 2048
  · rw [if_pos b, if_pos b]; congr 2
    · unfold wrap64; omega
    · congr 1; unfold wrap64; omega
  rw [if_neg b, if_neg b]
  by_cases c : n < 65536
  · rw [if_pos c, if_pos c]; congr 2
    · unfold wrap64; omega
    · congr 1
      · unfold wrap64; omega
      · congr 1; unfold wrap64; omega
  rw [if_neg c, if_neg c]; congr 2
  · unfold wrap64; omega
  · congr 1
    · unfold wrap64; omega
    · congr 1
      · unfold wrap64; omega
      · congr 1; unfold wrap64; omega


theorem u8 (n : Nat) (h : n < 256) : (UInt8.ofNat n).toNat = n := by
  rw [UInt8.toNat_ofNat']; exact Nat.mod_eq_of_lt h

theorem size_list (s : ByteArray) : s.size = s.data.toList.length := by rw [Array.length_toList]; rfl

/-- Whether a text begins with given numbers, as the reference asks it. -/
theorem pre_iff (s : ByteArray) (l : List Int) (h : ∀ x ∈ l, 0 ≤ x ∧ x < 256) (hl : l.length ≤ s.size) :
    ((s.extract 0 l.length).toList == (strOfNums l).toList) = true ↔ ∀ i < l.length, bt s (i : Int) = l.getD i 0 := by
  rw [beq_iff_eq, Lib.toList_data, Lib.toList_data, Lib.extract_data]
  have hL := size_list s
  simp only [strOfNums, Nat.sub_zero, List.drop_zero]
  generalize hLL : s.data.toList = L at *
  constructor
  · intro e i hi
    rw [bt_at_, hLL]
    have e2 := congrArg (fun q => q.getD i 0) e
    simp only [List.getD_eq_getElem?_getD, List.getElem?_take, List.getElem?_map] at e2
    rw [if_pos hi, List.getElem?_eq_getElem (show i < L.length by omega), List.getElem?_eq_getElem hi] at e2
    have hx := h l[i] (List.getElem_mem hi)
    have e3 := congrArg UInt8.toNat e2
    simp only [Option.getD_some, Option.map_some] at e3
    rw [u8 _ (by omega)] at e3
    unfold at_
    rw [List.getD_eq_getElem?_getD, List.getElem?_eq_getElem (show i < L.length by omega), List.getD_eq_getElem?_getD, List.getElem?_eq_getElem hi]
    simp only [Option.getD_some]
    omega
  · intro e
    apply List.ext_getElem
    · simp; omega
    · intro i h1 h2
      have hi : i < l.length := by simpa using h2
      have e3 := e i hi
      rw [bt_at_, hLL] at e3
      have hx := h l[i] (List.getElem_mem hi)
      unfold at_ at e3
      rw [List.getD_eq_getElem?_getD, List.getElem?_eq_getElem (show i < L.length by omega), List.getD_eq_getElem?_getD, List.getElem?_eq_getElem hi] at e3
      simp only [Option.getD_some] at e3
      simp only [List.getElem_take, List.getElem_map]
      apply UInt8.toNat_inj.1
      rw [u8 _ (by omega)]
      omega

theorem byt_range (n : Int) (h0 : 0 ≤ n) (h1 : n ≤ 1114111) : ∀ x ∈ byt n, 0 ≤ x ∧ x < 256 := by
  unfold byt
  intro x hx
  split at hx
  · simp at hx; omega
  split at hx
  · simp at hx; omega
  split at hx
  · simp at hx; omega
  · simp at hx; omega

theorem begins_eq (s : ByteArray) (n : Int) (h0 : 0 ≤ n) (h1 : n ≤ 1114111) (hl : (byt n).length ≤ s.size) :
    grommetref01_begins.f s n = some (decide (∀ i < (byt n).length, bt s (i : Int) = (byt n).getD i 0)) := by
  unfold grommetref01_begins.f
  rw [bytes_eq n h0 h1]
  simp only [Option.bind_some]
  have hz : (strOfNums (byt n)).size = (byt n).length := by rw [size_list]; simp [strOfNums]
  rw [hz, if_pos (by omega), if_pos (by omega), if_pos (by omega), Int.toNat_natCast]
  congr 1
  have := pre_iff s (byt n) (byt_range n h0 h1) hl
  rw [Bool.eq_iff_iff, decide_eq_true_iff]
  exact this

theorem l0_eq (k : Nat) (s : ByteArray) (m : Int) : grommetref01_First.l0 (k + 1) s m = if m ≤ 4 then grommetref01_First.j1 k s m (decide (m ≤ (s.size : Int))) else grommetref01_First.j1 k s m false := by
  rw [grommetref01_First.l0]
theorem j1_eq (k : Nat) (s : ByteArray) (m : Int) : grommetref01_First.j1 (k + 1) s m true = ((grommetref01_guess.f k s m).bind fun t => ((grommetref01_Sign.f t).bind fun b => (if b = true then ((grommetref01_bytes.f t).bind fun l => (if (l.length : Int) = m then ((grommetref01_begins.f s t).bind fun c => (if c = true then (some (t, m)) else (grommetref01_First.l0 k s (wrap64 (m + 1))))) else (grommetref01_First.l0 k s (wrap64 (m + 1))))) else (grommetref01_First.l0 k s (wrap64 (m + 1)))))) := by
  rw [grommetref01_First.j1, if_pos rfl]

theorem first_stop (k : Nat) (s : ByteArray) (m : Int) (h : ¬ (m ≤ 4 ∧ m ≤ (s.size : Int))) : grommetref01_First.l0 (k + 2) s m = some (-1, 1) := by
  simp only [grommetref01_First.l0]
  by_cases a : m ≤ 4
  · rw [if_pos a]; have : decide (m ≤ (s.size : Int)) = false := by simp; omega
    rw [this]; simp [grommetref01_First.j1]
  · rw [if_neg a]; simp [grommetref01_First.j1]

/-- One round: the sign that so many bytes would be. -/
theorem first_round (k : Nat) (s : ByteArray) (m : Nat) (n : Int) (h : m ≤ 4) (h2 : m ≤ s.size) (hg : grommetref01_guess.f (k + 5) s m = some n) :
    grommetref01_First.l0 (k + 7) s m =
      if sgn n = true ∧ (byt n).length = m ∧ (∀ i < (byt n).length, bt s (i : Int) = (byt n).getD i 0) then some (n, (m : Int)) else grommetref01_First.l0 (k + 5) s ((m : Int) + 1) := by
  have hd : decide ((m : Int) ≤ (s.size : Int)) = true := by simp; omega
  rw [show k + 7 = k + 5 + 1 + 1 from rfl, l0_eq, if_pos (by omega), hd, j1_eq, hg]; simp only [Option.bind_some]
  rw [sign_eq]; simp only [Option.bind_some]
  have hw : wrap64 ((m : Int) + 1) = (m : Int) + 1 := by unfold wrap64; omega
  by_cases a : sgn n = true
  · rw [if_pos a]
    have a' : 0 ≤ n ∧ n ≤ 1114111 := by unfold sgn at a; simp at a; omega
    rw [bytes_eq n a'.1 a'.2]; simp only [Option.bind_some]
    by_cases b : (byt n).length = m
    · rw [if_pos (by omega), begins_eq s n a'.1 a'.2 (by omega)]
      simp only [Option.bind_some, decide_eq_true_eq, hw]
      by_cases c : ∀ i < (byt n).length, bt s (i : Int) = (byt n).getD i 0
      · rw [if_pos c, if_pos ⟨a, b, c⟩]
      · rw [if_neg c, if_neg (fun x => c x.2.2)]
    · rw [if_neg (by omega), if_neg (fun x => b x.2.1), hw]
  · rw [if_neg a, if_neg (fun x => a x.1), hw]

theorem all1 (f : Nat → Prop) : (∀ i < 1, f i) ↔ f 0 := ⟨fun h => h 0 (by omega), fun h i hi => by rcases (by omega : i = 0) with rfl; exact h⟩
theorem all2 (f : Nat → Prop) : (∀ i < 2, f i) ↔ f 0 ∧ f 1 := ⟨fun h => ⟨h 0 (by omega), h 1 (by omega)⟩, fun h i hi => by rcases (by omega : i = 0 ∨ i = 1) with rfl | rfl; exact h.1; exact h.2⟩
theorem all3 (f : Nat → Prop) : (∀ i < 3, f i) ↔ f 0 ∧ f 1 ∧ f 2 :=
  ⟨fun h => ⟨h 0 (by omega), h 1 (by omega), h 2 (by omega)⟩, fun h i hi => by rcases (by omega : i = 0 ∨ i = 1 ∨ i = 2) with rfl | rfl | rfl; exact h.1; exact h.2.1; exact h.2.2⟩
theorem all4 (f : Nat → Prop) : (∀ i < 4, f i) ↔ f 0 ∧ f 1 ∧ f 2 ∧ f 3 :=
  ⟨fun h => ⟨h 0 (by omega), h 1 (by omega), h 2 (by omega), h 3 (by omega)⟩,
    fun h i hi => by rcases (by omega : i = 0 ∨ i = 1 ∨ i = 2 ∨ i = 3) with rfl | rfl | rfl | rfl; exact h.1; exact h.2.1; exact h.2.2.1; exact h.2.2.2⟩

theorem is1 (s : ByteArray) (n : Int) : (sgn n = true ∧ (byt n).length = 1 ∧ (∀ i < (byt n).length, bt s (i : Int) = (byt n).getD i 0)) ↔ 0 ≤ n ∧ n < 128 ∧ bt s 0 = n := by
  unfold sgn byt
  by_cases c0 : n < 128
  · rw [if_pos c0]; simp only [List.length_cons, List.length_nil, Nat.zero_add, all1]; simp; omega
  rw [if_neg c0]
  by_cases c1 : n < 2048
  · rw [if_pos c1]; simp; omega
  rw [if_neg c1]
  by_cases c2 : n < 65536
  · rw [if_pos c2]; simp; omega
  rw [if_neg c2]
  simp; omega
theorem is2 (s : ByteArray) (n : Int) : (sgn n = true ∧ (byt n).length = 2 ∧ (∀ i < (byt n).length, bt s (i : Int) = (byt n).getD i 0)) ↔ 128 ≤ n ∧ n < 2048 ∧ bt s 0 = 192 + n / 64 ∧ bt s 1 = 128 + n % 64 := by
  unfold sgn byt
  by_cases c0 : n < 128
  · rw [if_pos c0]; simp; omega
  rw [if_neg c0]
  by_cases c1 : n < 2048
  · rw [if_pos c1]; simp only [List.length_cons, List.length_nil, Nat.zero_add, Nat.reduceAdd, all2]; simp; omega
  rw [if_neg c1]
  by_cases c2 : n < 65536
  · rw [if_pos c2]; simp; omega
  rw [if_neg c2]
  simp; omega
theorem is3 (s : ByteArray) (n : Int) : (sgn n = true ∧ (byt n).length = 3 ∧ (∀ i < (byt n).length, bt s (i : Int) = (byt n).getD i 0)) ↔ 2048 ≤ n ∧ n < 65536 ∧ (n < 55296 ∨ 57343 < n) ∧ bt s 0 = 224 + n / 4096 ∧ bt s 1 = 128 + n / 64 % 64 ∧ bt s 2 = 128 + n % 64 := by
  unfold sgn byt
  by_cases c0 : n < 128
  · rw [if_pos c0]; simp; omega
  rw [if_neg c0]
  by_cases c1 : n < 2048
  · rw [if_pos c1]; simp; omega
  rw [if_neg c1]
  by_cases c2 : n < 65536
  · rw [if_pos c2]; simp only [List.length_cons, List.length_nil, Nat.zero_add, Nat.reduceAdd, all3]; simp; omega
  rw [if_neg c2]
  simp; omega
theorem is4 (s : ByteArray) (n : Int) : (sgn n = true ∧ (byt n).length = 4 ∧ (∀ i < (byt n).length, bt s (i : Int) = (byt n).getD i 0)) ↔ 65536 ≤ n ∧ n ≤ 1114111 ∧ bt s 0 = 240 + n / 262144 ∧ bt s 1 = 128 + n / 4096 % 64 ∧ bt s 2 = 128 + n / 64 % 64 ∧ bt s 3 = 128 + n % 64 := by
  unfold sgn byt
  by_cases c0 : n < 128
  · rw [if_pos c0]; simp; omega
  rw [if_neg c0]
  by_cases c1 : n < 2048
  · rw [if_pos c1]; simp; omega
  rw [if_neg c1]
  by_cases c2 : n < 65536
  · rw [if_pos c2]; simp; omega
  rw [if_neg c2]
  simp only [List.length_cons, List.length_nil, Nat.zero_add, Nat.reduceAdd, all4]; simp; omega

theorem first_eq (k : Nat) (s : ByteArray) : grommetref01_First.f (k + 20) s = some ((dec s.data.toList).1, ((dec s.data.toList).2 : Int)) := by
  unfold grommetref01_First.f
  rw [Lib.toList_data]
  have hL := size_list s
  have g0 := bt_at_ s 0; have g1 := bt_at_ s 1; have g2 := bt_at_ s 2; have g3 := bt_at_ s 3
  have r0 := at_lt s.data.toList 0; have r1 := at_lt s.data.toList 1; have r2 := at_lt s.data.toList 2; have r3 := at_lt s.data.toList 3
  unfold dec
  by_cases h : s.data.toList = []
  · rw [if_pos h, if_pos h]; rfl
  rw [if_neg h, if_neg h]
  have h0 : 0 < s.data.toList.length := List.length_pos_iff.2 h
  rw [← hL] at h0 ⊢
  generalize at_ s.data.toList 0 = b0 at *
  generalize at_ s.data.toList 1 = b1 at *
  generalize at_ s.data.toList 2 = b2 at *
  generalize at_ s.data.toList 3 = b3 at *
  have e0 : bt s 0 = (b0 : Int) := g0
  have e1 : bt s 1 = (b1 : Int) := g1
  have e2 : bt s 2 = (b2 : Int) := g2
  have e3 : bt s 3 = (b3 : Int) := g3
  clear g0 g1 g2 g3 hL h
  have q1 := first_round (k + 13) s 1 _ (by omega) (by omega) (guess1 (k + 14) s (by omega))
  rw [show ((1 : Nat) : Int) = 1 from rfl] at q1
  rw [show k + 20 = k + 13 + 7 from rfl, q1]
  clear q1
  simp only [is1]
  rw [e0]
  by_cases a1 : b0 < 128
  · have hd : Lib.decodeN s.size b0 b1 b2 b3 = (b0, 1) := by simp only [Lib.decodeN]; rw [if_pos a1]
    rw [hd, if_pos ⟨by omega, by omega, trivial⟩, if_neg (by simp; omega)]; rfl
  rw [if_neg (fun h => a1 (by have := h.2.1; omega))]
  by_cases s2 : 2 ≤ s.size
  · have q1 := first_round (k + 11) s 2 _ (by omega) (by omega) (guess2 (k + 12) s (by omega))
    rw [show ((2 : Nat) : Int) = 2 from rfl] at q1
    rw [show (1 : Int) + 1 = 2 from rfl, show k + 13 + 5 = k + 11 + 7 from rfl, q1]
    clear q1
    simp only [is2]
    rw [e0, e1]
    by_cases a2 : b0 / 32 = 6 ∧ b1 / 64 = 2 ∧ b0 % 32 * 64 + b1 % 64 ≥ 128
    · have hd : Lib.decodeN s.size b0 b1 b2 b3 = (b0 % 32 * 64 + b1 % 64, 2) := by
        simp only [Lib.decodeN]
        rw [if_neg a1, if_pos (by omega), if_pos (by omega)]
      rw [hd, if_pos (by omega), if_neg (by simp; omega)]
      simp; omega
    rw [if_neg (c := (128 ≤ ((b0 : Int) - 192) * 64 + b1 - 128 ∧ _)) (by omega)]
    by_cases s3 : 3 ≤ s.size
    · have q1 := first_round (k + 9) s 3 _ (by omega) (by omega) (guess3 (k + 10) s (by omega))
      rw [show ((3 : Nat) : Int) = 3 from rfl] at q1
      rw [show (2 : Int) + 1 = 3 from rfl, show k + 11 + 5 = k + 9 + 7 from rfl, q1]
      clear q1
      simp only [is3]
      rw [e0, e1, e2]
      by_cases a3 : b0 / 16 = 14 ∧ b1 / 64 = 2 ∧ b2 / 64 = 2 ∧ (b0 % 16 * 4096 + b1 % 64 * 64 + b2 % 64 ≥ 2048 ∧ (b0 % 16 * 4096 + b1 % 64 * 64 + b2 % 64 < 55296 ∨ (57344 ≤ b0 % 16 * 4096 + b1 % 64 * 64 + b2 % 64 ∧ b0 % 16 * 4096 + b1 % 64 * 64 + b2 % 64 ≤ 1114111)))
      · have hd : Lib.decodeN s.size b0 b1 b2 b3 = (b0 % 16 * 4096 + b1 % 64 * 64 + b2 % 64, 3) := by
          simp only [Lib.decodeN]
          rw [if_neg a1, if_neg (by omega), if_pos (by omega), if_pos (by omega)]
        rw [hd, if_pos (by omega), if_neg (by simp)]
        simp; omega
      rw [if_neg (c := (2048 ≤ (((b0 : Int) - 224) * 64 + b1 - 128) * 64 + b2 - 128 ∧ _)) (by omega)]
      by_cases s4 : 4 ≤ s.size
      · have q1 := first_round (k + 7) s 4 _ (by omega) (by omega) (guess4 (k + 8) s (by omega))
        rw [show ((4 : Nat) : Int) = 4 from rfl] at q1
        rw [show (3 : Int) + 1 = 4 from rfl, show k + 9 + 5 = k + 7 + 7 from rfl, q1]
        clear q1
        simp only [is4]
        rw [e0, e1, e2, e3]
        by_cases a4 : b0 / 8 = 30 ∧ b1 / 64 = 2 ∧ b2 / 64 = 2 ∧ b3 / 64 = 2 ∧ (b0 % 8 * 262144 + b1 % 64 * 4096 + b2 % 64 * 64 + b3 % 64 ≥ 65536 ∧ b0 % 8 * 262144 + b1 % 64 * 4096 + b2 % 64 * 64 + b3 % 64 ≤ 1114111)
        · have hd : Lib.decodeN s.size b0 b1 b2 b3 = (b0 % 8 * 262144 + b1 % 64 * 4096 + b2 % 64 * 64 + b3 % 64, 4) := by
            simp only [Lib.decodeN]
            rw [if_neg a1, if_neg (by omega), if_neg (by omega), if_pos (by omega), if_pos (by omega)]
          rw [hd, if_pos (by omega), if_neg (by simp)]
          simp; omega
        rw [if_neg (c := (65536 ≤ ((((b0 : Int) - 240) * 64 + b1 - 128) * 64 + b2 - 128) * 64 + b3 - 128 ∧ _)) (by omega), show k + 7 + 5 = k + 10 + 2 from rfl, first_stop _ _ _ (by omega)]
        have : Lib.decodeN s.size b0 b1 b2 b3 = (65533, 1) := by
          simp only [Lib.decodeN]
          rw [if_neg a1]
          repeat' split
          all_goals first | rfl | (exfalso; omega)
        rw [this]; rfl
      · rw [show k + 9 + 5 = k + 12 + 2 from rfl, first_stop _ _ _ (by omega)]
        have : Lib.decodeN s.size b0 b1 b2 b3 = (65533, 1) := by
          simp only [Lib.decodeN]
          rw [if_neg a1]
          repeat' split
          all_goals first | rfl | (exfalso; omega)
        rw [this]; rfl
    · rw [show k + 11 + 5 = k + 14 + 2 from rfl, first_stop _ _ _ (by omega)]
      have : Lib.decodeN s.size b0 b1 b2 b3 = (65533, 1) := by
        simp only [Lib.decodeN]
        rw [if_neg a1]
        repeat' split
        all_goals first | rfl | (exfalso; omega)
      rw [this]; rfl
  · rw [show k + 13 + 5 = k + 16 + 2 from rfl, first_stop _ _ _ (by omega)]
    have : Lib.decodeN s.size b0 b1 b2 b3 = (65533, 1) := by
      simp only [Lib.decodeN]
      rw [if_neg a1]
      repeat' split
      all_goals first | rfl | (exfalso; omega)
    rw [this]; rfl

theorem printable_j (k : Nat) (n : Int) (b : Bool) : grommetref01_Printable.j0 (k + 1) n b = if b = true then (some true) else (if n = 65279 then (some false) else (if n ≥ 32 then (if n ≤ 126 then (some true) else (if n ≥ 160 then (if n ≤ 55295 then (some true) else (if n ≥ 57344 then (if n ≤ 65533 then (some true) else (if n ≥ 65536 then (some (decide (n ≤ 1114111))) else (some false))) else (if n ≥ 65536 then (some (decide (n ≤ 1114111))) else (some false)))) else (if n ≥ 57344 then (if n ≤ 65533 then (some true) else (if n ≥ 65536 then (some (decide (n ≤ 1114111))) else (some false))) else (if n ≥ 65536 then (some (decide (n ≤ 1114111))) else (some false))))) else (if n ≥ 160 then (if n ≤ 55295 then (some true) else (if n ≥ 57344 then (if n ≤ 65533 then (some true) else (if n ≥ 65536 then (some (decide (n ≤ 1114111))) else (some false))) else (if n ≥ 65536 then (some (decide (n ≤ 1114111))) else (some false)))) else (if n ≥ 57344 then (if n ≤ 65533 then (some true) else (if n ≥ 65536 then (some (decide (n ≤ 1114111))) else (some false))) else (if n ≥ 65536 then (some (decide (n ≤ 1114111))) else (some false)))))) := by
  rw [grommetref01_Printable.j0]

theorem printable_eq (k : Nat) (n : Int) : grommetref01_Printable.f (k + 1) n = some (prt n) := by
  unfold grommetref01_Printable.f
  simp only [printable_j]
  by_cases h1 : n = 9
  · subst h1; rfl
  by_cases h2 : n = 10
  · subst h2; rfl
  by_cases h3 : n = 13
  · subst h3; rfl
  by_cases h4 : n = 133
  · subst h4; rfl
  by_cases h5 : n = 65279
  · subst h5; rfl
  rw [if_neg h1, if_neg h2, if_neg h3, if_neg (by simpa using h4), if_neg h5]
  unfold prt
  rcases (by omega : n < 32 ∨ (32 ≤ n ∧ n ≤ 126) ∨ (126 < n ∧ n < 160) ∨ (160 ≤ n ∧ n ≤ 55295) ∨ (55295 < n ∧ n < 57344) ∨ (57344 ≤ n ∧ n ≤ 65533) ∨ (65533 < n ∧ n < 65536) ∨ 65536 ≤ n) with h | h | h | h | h | h | h | h
  all_goals
    repeat (first | rw [if_pos (by omega)] | rw [if_neg (by omega)])
    refine congrArg some (Bool.eq_iff_iff.2 ?_)
    simp only [Bool.or_eq_true, Bool.and_eq_true, decide_eq_true_eq, beq_iff_eq, bne_iff_ne, ne_eq, true_iff, Bool.false_eq_true, false_iff]
    omega

end Go.Proofs.YtmkdjgmdfhagfaaGreatDoor.Utf

/- YtmkdjgmdfhagfaaGreatDoorFUtfFirst: what print.py told of Go functions, for this claim. -/
namespace Go.Proofs.YtmkdjgmdfhagfaaGreatDoor.PX
open Go.RowKit Go.Proofs.YtmkdjgmdfhagfaaGreatDoorW.PrintWords Go.Proofs.YtmkdjgmdfhagfaaGreatDoorW.PrintLast Go.Proofs.YtmkdjgmdfhagfaaGreatDoorW.PrintMore Go.Proofs.YtmkdjgmdfhagfaaGreatDoor Go.Proofs.YtmkdjgmdfhagfaaGreatDoor.Plug
attribute [local go_sem] max2_int min2_int max_two min_two max_three min_three max_four min_four   -- for this text's walks alone
set_option linter.unusedVariables false
set_option linter.unusedSimpArgs false

/-! ### utf_First: function 35 -/
def utf_First.f (a0 : ByteArray) : Option (Int × Int) := (utf8_DecodeRuneInString.f a0).bind fun bt101 => (if bt101.1 = 65533 then (if bt101.2 < 3 then (some ((-1), bt101.2)) else (some (wrap64 (bt101.1), bt101.2))) else (some (wrap64 (bt101.1), bt101.2)))
set_option maxHeartbeats 8000000 in
set_option maxRecDepth 100000 in
theorem utf_First.calls (a0 : ByteArray) (r1 : Int) (r2 : Int) (w : World) (hG : Glob.G w) (h : utf_First.f a0 = some (r1, r2)) :
    Calls Tryz.prog 35 #[.string a0] w fun e w' => e = .returned (.tuple #[.int .i64 r1, .int .i64 r2]) ∧ Below w.heap.size w w' := by
  have HB := Aside0.mk (Below.refl w.heap.size w)
  have H : ((utf8_DecodeRuneInString.f a0).bind fun bt101 => (if bt101.1 = 65533 then (if bt101.2 < 3 then (some ((-1), bt101.2)) else (some (wrap64 (bt101.1), bt101.2))) else (some (wrap64 (bt101.1), bt101.2)))) = some (r1, r2) := h
  clear h
  replace H := Option.bind_eq_some_iff.mp H
  obtain ⟨⟨t101, t102⟩, A20, H⟩ := H
  replace H : (if t101 = 65533 then (if t102 < 3 then (some ((-1), t102)) else (some (wrap64 (t101), t102))) else (some (wrap64 (t101), t102))) = some (r1, r2) := H
  have A2 := Aside0.mk A20
  clear A20
  by_cases c3 : t101 = 65533
  · rw [if_pos c3] at H
    have c3b0 : (t101 == 65533) = true := beq_iff_eq.mpr c3
    have c3b1 : (t101 != 65533) = false := bne_eq_false_iff_eq.mpr c3
    clear c3
    by_cases c4 : t102 < 3
    · rw [if_pos c4] at H
      have c4b0 : decide (t102 < 3) = true := decide_eq_true c4
      clear c4
      simp only [Option.some.injEq, Prod.mk.injEq] at H
      obtain ⟨rfl, rfl⟩ := H
      go_enter Tryz.func35, Tryz.ntmps35
      go_wp2_with (first | ((with_reducible refine gate_callee (f := 65) rfl ?_); refine goesL_ (some 8) rfl rfl Tryz.func65 (by kernel_rfl) rfl #[.string a0] rfl (by (try simp only [List.map_toArray, List.map_cons, List.map_nil]); first | done | rfl | (simp only [List.length_drop, List.length_take]; rfl)) ?_; (with_reducible refine (utf8_DecodeRuneInString.calls a0 t101 t102 _ (hG.below (by first | ((repeat (first | (with_reducible first | exact HB.out | apply below_alloc | apply pw_below_drewN | apply below_drew1 | (refine Glob.below_set ?_ (by assumption) _ _ _)) | exact HB.out)); done) | (refine Drawn0.below ?_; repeat (first | exact Drawn0.refl _ | assumption | apply Drawn0.step)))) A2.out).mono ?_); rintro e w5 ⟨rfl, hb⟩; refine ⟨_, rfl, ?_⟩; have n0_ := Aside0.mk (below_step (by repeat (first | (with_reducible first | exact HB.out | apply below_alloc | apply pw_below_drewN | apply below_drew1) | exact HB.out)) hb); clear HB; have HB := n0_; clear n0_; (try clear hb); (try clear hb2); (try clear hk); (try clear hi)))
      go_ret2
      exact ⟨by first | rfl | (simp [errW_none, errW_some] <;> rfl) | (simp [*, errW_none, errW_some] <;> rfl), by repeat (first | (with_reducible first | exact HB.out | apply below_alloc | apply pw_below_drewN | apply below_drew1) | exact HB.out)⟩
    · rw [if_neg c4] at H
      have c4b0 : decide (t102 < 3) = false := decide_eq_false c4
      clear c4
      simp only [Option.some.injEq, Prod.mk.injEq] at H
      obtain ⟨rfl, rfl⟩ := H
      go_enter Tryz.func35, Tryz.ntmps35
      go_wp2_with (first | ((with_reducible refine gate_callee (f := 65) rfl ?_); refine goesL_ (some 8) rfl rfl Tryz.func65 (by kernel_rfl) rfl #[.string a0] rfl (by (try simp only [List.map_toArray, List.map_cons, List.map_nil]); first | done | rfl | (simp only [List.length_drop, List.length_take]; rfl)) ?_; (with_reducible refine (utf8_DecodeRuneInString.calls a0 t101 t102 _ (hG.below (by first | ((repeat (first | (with_reducible first | exact HB.out | apply below_alloc | apply pw_below_drewN | apply below_drew1 | (refine Glob.below_set ?_ (by assumption) _ _ _)) | exact HB.out)); done) | (refine Drawn0.below ?_; repeat (first | exact Drawn0.refl _ | assumption | apply Drawn0.step)))) A2.out).mono ?_); rintro e w6 ⟨rfl, hb⟩; refine ⟨_, rfl, ?_⟩; have n0_ := Aside0.mk (below_step (by repeat (first | (with_reducible first | exact HB.out | apply below_alloc | apply pw_below_drewN | apply below_drew1) | exact HB.out)) hb); clear HB; have HB := n0_; clear n0_; (try clear hb); (try clear hb2); (try clear hk); (try clear hi)))
      go_ret2
      exact ⟨by first | rfl | (simp [errW_none, errW_some] <;> rfl) | (simp [*, errW_none, errW_some] <;> rfl), by repeat (first | (with_reducible first | exact HB.out | apply below_alloc | apply pw_below_drewN | apply below_drew1) | exact HB.out)⟩
  · rw [if_neg c3] at H
    have c3b0 : (t101 == 65533) = false := beq_eq_false_iff_ne.mpr c3
    have c3b1 : (t101 != 65533) = true := bne_iff_ne.mpr c3
    simp only [Option.some.injEq, Prod.mk.injEq] at H
    obtain ⟨rfl, rfl⟩ := H
    go_enter Tryz.func35, Tryz.ntmps35
    go_wp2_with (first | ((with_reducible refine gate_callee (f := 65) rfl ?_); refine goesL_ (some 8) rfl rfl Tryz.func65 (by kernel_rfl) rfl #[.string a0] rfl (by (try simp only [List.map_toArray, List.map_cons, List.map_nil]); first | done | rfl | (simp only [List.length_drop, List.length_take]; rfl)) ?_; (with_reducible refine (utf8_DecodeRuneInString.calls a0 t101 t102 _ (hG.below (by first | ((repeat (first | (with_reducible first | exact HB.out | apply below_alloc | apply pw_below_drewN | apply below_drew1 | (refine Glob.below_set ?_ (by assumption) _ _ _)) | exact HB.out)); done) | (refine Drawn0.below ?_; repeat (first | exact Drawn0.refl _ | assumption | apply Drawn0.step)))) A2.out).mono ?_); rintro e w7 ⟨rfl, hb⟩; refine ⟨_, rfl, ?_⟩; have n0_ := Aside0.mk (below_step (by repeat (first | (with_reducible first | exact HB.out | apply below_alloc | apply pw_below_drewN | apply below_drew1) | exact HB.out)) hb); clear HB; have HB := n0_; clear n0_; (try clear hb); (try clear hb2); (try clear hk); (try clear hi)))
    go_ret2
    exact ⟨by first | rfl | (simp [errW_none, errW_some] <;> rfl) | (simp [*, errW_none, errW_some] <;> rfl), by repeat (first | (with_reducible first | exact HB.out | apply below_alloc | apply pw_below_drewN | apply below_drew1) | exact HB.out)⟩

end Go.Proofs.YtmkdjgmdfhagfaaGreatDoor.PX

/- YtmkdjgmdfhagfaaGreatDoorFUtfPrintable: what print.py told of Go functions, for this claim. -/
namespace Go.Proofs.YtmkdjgmdfhagfaaGreatDoor.PX
open Go.RowKit Go.Proofs.YtmkdjgmdfhagfaaGreatDoorW.PrintWords Go.Proofs.YtmkdjgmdfhagfaaGreatDoorW.PrintLast Go.Proofs.YtmkdjgmdfhagfaaGreatDoorW.PrintMore Go.Proofs.YtmkdjgmdfhagfaaGreatDoor
attribute [local go_sem] max2_int min2_int max_two min_two max_three min_three max_four min_four   -- for this text's walks alone
set_option linter.unusedVariables false
set_option linter.unusedSimpArgs false

/-! ### utf_Printable: function 66 -/
def utf_Printable.f (a0 : Int) : Option (Bool) := if a0 < 32 then (if a0 = 9 then (some true) else (if a0 = 10 then (some true) else (some (a0 == 13)))) else (if a0 < 127 then (some true) else (if a0 < 160 then (some (a0 == 133)) else (if a0 < 55296 then (some true) else (if a0 < 65536 then (if a0 ≥ 57344 then (if a0 ≤ 65533 then (some (a0 != 65279)) else (some false)) else (some false)) else (some (decide (a0 ≤ 1114111)))))))
set_option maxHeartbeats 8000000 in
set_option maxRecDepth 100000 in
theorem utf_Printable.calls (a0 : Int) (r : Bool) (w : World) (hG : Glob.G w) (h : utf_Printable.f a0 = some r) :
    Calls Tryz.prog 66 #[.int .i64 a0] w fun e w' => e = .returned (.bool r) ∧ Drawn0 w w' := by
  have H : (if a0 < 32 then (if a0 = 9 then (some true) else (if a0 = 10 then (some true) else (some (a0 == 13)))) else (if a0 < 127 then (some true) else (if a0 < 160 then (some (a0 == 133)) else (if a0 < 55296 then (some true) else (if a0 < 65536 then (if a0 ≥ 57344 then (if a0 ≤ 65533 then (some (a0 != 65279)) else (some false)) else (some false)) else (some (decide (a0 ≤ 1114111)))))))) = some r := h
  clear h
  by_cases c2 : a0 < 32
  · rw [if_pos c2] at H
    have c2b0 : decide (a0 < 32) = true := decide_eq_true c2
    clear c2
    by_cases c3 : a0 = 9
    · rw [if_pos c3] at H
      have c3b0 : (a0 == 9) = true := beq_iff_eq.mpr c3
      have c3b1 : (a0 != 9) = false := bne_eq_false_iff_eq.mpr c3
      clear c3
      obtain rfl := Option.some.inj H
      go_enter Tryz.func66, Tryz.ntmps66
      go_wp2
      go_ret
      exact ⟨by first | rfl | (simp; done) | (simp [*]; done) | (simp; generalize ByteArray.toList _ = l_; cases l_ <;> rfl), by repeat (first | exact Drawn0.refl _ | apply Drawn0.step)⟩
    · rw [if_neg c3] at H
      have c3b0 : (a0 == 9) = false := beq_eq_false_iff_ne.mpr c3
      have c3b1 : (a0 != 9) = true := bne_iff_ne.mpr c3
      by_cases c4 : a0 = 10
      · rw [if_pos c4] at H
        have c4b0 : (a0 == 10) = true := beq_iff_eq.mpr c4
        have c4b1 : (a0 != 10) = false := bne_eq_false_iff_eq.mpr c4
        clear c4
        obtain rfl := Option.some.inj H
        go_enter Tryz.func66, Tryz.ntmps66
        go_wp2
        go_ret
        exact ⟨by first | rfl | (simp; done) | (simp [*]; done) | (simp; generalize ByteArray.toList _ = l_; cases l_ <;> rfl), by repeat (first | exact Drawn0.refl _ | apply Drawn0.step)⟩
      · rw [if_neg c4] at H
        have c4b0 : (a0 == 10) = false := beq_eq_false_iff_ne.mpr c4
        have c4b1 : (a0 != 10) = true := bne_iff_ne.mpr c4
        obtain rfl := Option.some.inj H
        go_enter Tryz.func66, Tryz.ntmps66
        go_wp2
        go_ret
        exact ⟨by first | rfl | (simp; done) | (simp [*]; done) | (simp; generalize ByteArray.toList _ = l_; cases l_ <;> rfl), by repeat (first | exact Drawn0.refl _ | apply Drawn0.step)⟩
  · rw [if_neg c2] at H
    have c2b0 : decide (a0 < 32) = false := decide_eq_false c2
    clear c2
    by_cases c5 : a0 < 127
    · rw [if_pos c5] at H
      have c5b0 : decide (a0 < 127) = true := decide_eq_true c5
      clear c5
      obtain rfl := Option.some.inj H
      go_enter Tryz.func66, Tryz.ntmps66
      go_wp2
      go_ret
      exact ⟨by first | rfl | (simp; done) | (simp [*]; done) | (simp; generalize ByteArray.toList _ = l_; cases l_ <;> rfl), by repeat (first | exact Drawn0.refl _ | apply Drawn0.step)⟩
    · rw [if_neg c5] at H
      have c5b0 : decide (a0 < 127) = false := decide_eq_false c5
      clear c5
      by_cases c6 : a0 < 160
      · rw [if_pos c6] at H
        have c6b0 : decide (a0 < 160) = true := decide_eq_true c6
        clear c6
        obtain rfl := Option.some.inj H
        go_enter Tryz.func66, Tryz.ntmps66
        go_wp2
        go_ret
        exact ⟨by first | rfl | (simp; done) | (simp [*]; done) | (simp; generalize ByteArray.toList _ = l_; cases l_ <;> rfl), by repeat (first | exact Drawn0.refl _ | apply Drawn0.step)⟩
      · rw [if_neg c6] at H
        have c6b0 : decide (a0 < 160) = false := decide_eq_false c6
        clear c6
        by_cases c7 : a0 < 55296
        · rw [if_pos c7] at H
          have c7b0 : decide (a0 < 55296) = true := decide_eq_true c7
          clear c7
          obtain rfl := Option.some.inj H
          go_enter Tryz.func66, Tryz.ntmps66
          go_wp2
          go_ret
          exact ⟨by first | rfl | (simp; done) | (simp [*]; done) | (simp; generalize ByteArray.toList _ = l_; cases l_ <;> rfl), by repeat (first | exact Drawn0.refl _ | apply Drawn0.step)⟩
        · rw [if_neg c7] at H
          have c7b0 : decide (a0 < 55296) = false := decide_eq_false c7
          clear c7
          by_cases c8 : a0 < 65536
          · rw [if_pos c8] at H
            have c8b0 : decide (a0 < 65536) = true := decide_eq_true c8
            clear c8
            by_cases c9 : a0 ≥ 57344
            · rw [if_pos c9] at H
              have c9b0 : decide (57344 ≤ a0) = true := decide_eq_true c9
              clear c9
              by_cases c10 : a0 ≤ 65533
              · rw [if_pos c10] at H
                have c10b0 : decide (a0 ≤ 65533) = true := decide_eq_true c10
                clear c10
                obtain rfl := Option.some.inj H
                go_enter Tryz.func66, Tryz.ntmps66
                go_wp2
                go_ret
                exact ⟨by first | rfl | (simp; done) | (simp [*]; done) | (simp; generalize ByteArray.toList _ = l_; cases l_ <;> rfl), by repeat (first | exact Drawn0.refl _ | apply Drawn0.step)⟩
              · rw [if_neg c10] at H
                have c10b0 : decide (a0 ≤ 65533) = false := decide_eq_false c10
                clear c10
                obtain rfl := Option.some.inj H
                go_enter Tryz.func66, Tryz.ntmps66
                go_wp2
                go_ret
                exact ⟨by first | rfl | (simp; done) | (simp [*]; done) | (simp; generalize ByteArray.toList _ = l_; cases l_ <;> rfl), by repeat (first | exact Drawn0.refl _ | apply Drawn0.step)⟩
            · rw [if_neg c9] at H
              have c9b0 : decide (57344 ≤ a0) = false := decide_eq_false c9
              clear c9
              obtain rfl := Option.some.inj H
              go_enter Tryz.func66, Tryz.ntmps66
              go_wp2
              go_ret
              exact ⟨by first | rfl | (simp; done) | (simp [*]; done) | (simp; generalize ByteArray.toList _ = l_; cases l_ <;> rfl), by repeat (first | exact Drawn0.refl _ | apply Drawn0.step)⟩
          · rw [if_neg c8] at H
            have c8b0 : decide (a0 < 65536) = false := decide_eq_false c8
            clear c8
            obtain rfl := Option.some.inj H
            go_enter Tryz.func66, Tryz.ntmps66
            go_wp2
            go_ret
            exact ⟨by first | rfl | (simp; done) | (simp [*]; done) | (simp; generalize ByteArray.toList _ = l_; cases l_ <;> rfl), by repeat (first | exact Drawn0.refl _ | apply Drawn0.step)⟩

end Go.Proofs.YtmkdjgmdfhagfaaGreatDoor.PX

/- What the program and the reference tell of the signs of a text, and where a text that is not printable ends, are one; no conditions. -/
namespace Go.Proofs.YtmkdjgmdfhagfaaGreatDoor.Utf
open Go.RowKit Go.Proofs.YtmkdjgmdfhagfaaGreatDoor.PX Go.Proofs.YtmkdjgmdfhagfaaGreatDoor.Plug Go.Proofs.YtmkdjgmdfhagfaaGreatDoorW.PrintWords Go.Proofs.YtmkdjgmdfhagfaaGreatDoorW.PrintLast

theorem decodeN_wide (n b0 b1 b2 b3 : Nat) (h : 1 ≤ n) : 1 ≤ (Lib.decodeN n b0 b1 b2 b3).2 ∧ (Lib.decodeN n b0 b1 b2 b3).2 ≤ 4 ∧ (Lib.decodeN n b0 b1 b2 b3).2 ≤ n := by
  unfold Lib.decodeN
  repeat' split
  all_goals (simp only; omega)
theorem decodeN_most (n b0 b1 b2 b3 : Nat) (h : b0 < 256) : (Lib.decodeN n b0 b1 b2 b3).1 ≤ 1114111 := by
  unfold Lib.decodeN
  repeat' split
  all_goals (simp only; omega)

theorem dec_wide (l : List UInt8) (h : l ≠ []) : 1 ≤ (dec l).2 ∧ (dec l).2 ≤ 4 ∧ (dec l).2 ≤ l.length := by
  have hl : 1 ≤ l.length := List.length_pos_iff.2 h
  have := decodeN_wide l.length (at_ l 0) (at_ l 1) (at_ l 2) (at_ l 3) hl
  unfold dec
  rw [if_neg h]
  split <;> exact this
theorem decodeGo_eq (s : ByteArray) : Lib.decodeGo s = if s.data.toList = [] then (65533, 0) else Lib.decodeN s.data.toList.length (at_ s.data.toList 0) (at_ s.data.toList 1) (at_ s.data.toList 2) (at_ s.data.toList 3) := by
  unfold Lib.decodeGo
  have hL := size_list s
  have g : ∀ i, (s.get! i).toNat = at_ s.data.toList i := by
    intro i
    unfold at_
    by_cases h : i < s.size
    · rw [Utf8W.get!_of_lt s i h, List.getD_eq_getElem?_getD, List.getElem?_eq_getElem (by omega)]; rfl
    · rw [List.getD_eq_getElem?_getD, List.getElem?_eq_none (by omega)]
      cases s with
      | mk d => simp only [ByteArray.get!]; rw [getElem!_neg d i (show ¬ i < d.size from h)]; rfl
  by_cases h : s.data.toList = []
  · rw [if_pos h, if_pos (by rw [hL, h]; rfl)]
  · rw [if_neg h, if_neg (fun e => h (List.eq_nil_of_length_eq_zero (by omega))), Lib.decode_at, g, g, g, g, Nat.sub_zero, hL]

theorem prog_first (s : ByteArray) : utf_First.f s = some ((dec s.data.toList).1, ((dec s.data.toList).2 : Int)) := by
  unfold utf_First.f utf8_DecodeRuneInString.f
  simp only [Option.bind_some]
  rw [decodeGo_eq]
  unfold dec
  by_cases h : s.data.toList = []
  · rw [if_pos h, if_pos h]; rfl
  rw [if_neg h, if_neg h]
  have hm := decodeN_most s.data.toList.length (at_ s.data.toList 0) (at_ s.data.toList 1) (at_ s.data.toList 2) (at_ s.data.toList 3) (at_lt _ _)
  generalize Lib.decodeN s.data.toList.length (at_ s.data.toList 0) (at_ s.data.toList 1) (at_ s.data.toList 2) (at_ s.data.toList 3) = d at *
  obtain ⟨r, n⟩ := d
  simp only at *
  have hw : wrap64 (r : Int) = r := by unfold wrap64; omega
  by_cases a : r = 65533
  · by_cases b : n < 3
    · rw [if_pos (by omega), if_pos (by omega), if_pos ⟨a, b⟩]
    · rw [if_pos (by omega), if_neg (by omega), if_neg (fun x => b x.2)]; simp; exact hw
  · rw [if_neg (by omega), if_neg (fun x => a x.1)]; simp; exact hw

theorem prog_printable (n : Int) : utf_Printable.f n = some (prt n) := by
  unfold utf_Printable.f
  by_cases h1 : n = 9
  · subst h1; rfl
  by_cases h2 : n = 10
  · subst h2; rfl
  by_cases h3 : n = 13
  · subst h3; rfl
  by_cases h4 : n = 133
  · subst h4; rfl
  by_cases h5 : n = 65279
  · subst h5; rfl
  unfold prt
  rcases (by omega : n < 32 ∨ (32 ≤ n ∧ n ≤ 126) ∨ (126 < n ∧ n < 160) ∨ (160 ≤ n ∧ n ≤ 55295) ∨ (55295 < n ∧ n < 57344) ∨ (57344 ≤ n ∧ n ≤ 65533) ∨ (65533 < n ∧ n < 65536) ∨ 65536 ≤ n) with h | h | h | h | h | h | h | h
  all_goals
    repeat (first | rw [if_pos (by omega)] | rw [if_neg (by omega)])
    refine congrArg some (Bool.eq_iff_iff.2 ?_)
    simp only [Bool.or_eq_true, Bool.and_eq_true, decide_eq_true_eq, beq_iff_eq, bne_iff_ne, ne_eq, true_iff, Bool.false_eq_true, false_iff]
    omega

/-- Where the printable beginning of a text ends. -/
def stopF : Nat → List UInt8 → Nat → Nat
  | 0, _, i => i
  | k + 1, l, i => if i < l.length then (if prt (dec (l.drop i)).1 = true then stopF k l (i + (dec (l.drop i)).2) else i) else i
def stop (l : List UInt8) : Nat := stopF l.length l 0

theorem drop_list (s : ByteArray) (i : Nat) : (s.extract i s.size).data.toList = s.data.toList.drop i := by
  rw [Lib.extract_data, List.take_of_length_le]
  rw [List.length_drop, ← size_list]
  omega

end Go.Proofs.YtmkdjgmdfhagfaaGreatDoor.Utf

/- YtmkdjgmdfhagfaaGreatDoorFUtfFault: what print.py told of Go functions, for this claim. -/
namespace Go.Proofs.YtmkdjgmdfhagfaaGreatDoor.PX
open Go.RowKit Go.Proofs.YtmkdjgmdfhagfaaGreatDoorW.PrintWords Go.Proofs.YtmkdjgmdfhagfaaGreatDoorW.PrintLast Go.Proofs.YtmkdjgmdfhagfaaGreatDoorW.PrintMore Go.Proofs.YtmkdjgmdfhagfaaGreatDoor
attribute [local go_sem] max2_int min2_int max_two min_two max_three min_three max_four min_four   -- for this text's walks alone
set_option linter.unusedVariables false
set_option linter.unusedSimpArgs false

/-! ### utf_fault: function 58 -/
def utf_fault.f (a0 : ByteArray) (a1 : Int) : Option (Int × Int) := if a1 < (a0.size : Int) then (some (8, a1)) else (some (0, 0))
set_option maxHeartbeats 8000000 in
set_option maxRecDepth 100000 in
theorem utf_fault.calls (a0 : ByteArray) (a1 : Int) (r1 : Int) (r2 : Int) (w : World) (hG : Glob.G w) (h : utf_fault.f a0 a1 = some (r1, r2)) :
    Calls Tryz.prog 58 #[.string a0, .int .i64 a1] w fun e w' => e = .returned (.agg #[.int .i64 r1, .int .i64 r2]) ∧ Below w.heap.size w w' := by
  have hu38 := Tryz.underlying38
  have HB := Aside0.mk (Below.refl w.heap.size w)
  have H : (if a1 < (a0.size : Int) then (some (8, a1)) else (some (0, 0))) = some (r1, r2) := h
  clear h
  by_cases c3 : a1 < (a0.size : Int)
  · rw [if_pos c3] at H
    have c3b0 : decide (a1 < (a0.size : Int)) = true := decide_eq_true c3
    clear c3
    simp only [Option.some.injEq, Prod.mk.injEq] at H
    obtain ⟨rfl, rfl⟩ := H
    go_enter Tryz.func58, Tryz.ntmps58
    go_wp2_with (first | ((with_reducible refine gate_dst (N := 4) rfl ?_); refine box_event ?hg (N := 4) ?hd (cs := #[.int .i64 0, .int .i64 0]) (t := 38) ?hr ?_; (case hd => rfl); (case hg => rfl); (case hr => first | (go_simp; done) | (go_simp; rfl)); intro gb101 hg w4 hbox hb; have n0_ := Aside0.mk (below_step (by repeat (first | (with_reducible first | exact HB.out | apply below_alloc | apply pw_below_drewN | apply below_drew1) | exact HB.out)) hb); have n1_ := Aside0.mk (hbox); have n2_ := Aside0.mk ((by rw [hg]; exact (below_size (by repeat (first | (with_reducible first | exact HB.out | apply below_alloc | apply pw_below_drewN | apply below_drew1) | exact HB.out))) : w.heap.size ≤ gb101)); have n3_ := Aside0.mk ((by rw [hg]; exact (below_size (by repeat (first | (with_reducible first | exact HB.out | apply below_alloc | apply pw_below_drewN | apply below_drew1) | exact HB.out))) : w.heap.size ≤ gb101)); clear HB; have HB := n0_; have BK101 := n1_; have GW101 := n2_; have GE101 := n3_; clear n0_ n1_ n2_ n3_; clear hb hbox hg; have hcz5_0 : w4.cell? ⟨gb101, 0, none⟩ = some (.int .i64 0) := (blk_cell BK101.out 0).trans rfl; have hcz5_1 : w4.cell? ⟨gb101, 1, none⟩ = some (.int .i64 0) := (blk_cell BK101.out 1).trans rfl; have hfz5_0 := blk_frozen BK101.out 0; have hfz5_1 := blk_frozen BK101.out 1))
    refine bodyPost_ret (results_cell_row rfl _ _ gb101 38 #[.int .i64 8, .int .i64 a1] (0, 0) _ rfl (by (with_reducible repeat (first | refine blk_drewN ?_ _ | refine blk_drew ?_ | refine blk_alloc ?_ _)); refine blk_put (cs := #[.int .i64 8, .int .i64 0]) ?_ 1 _ rfl; (with_reducible repeat (first | refine blk_drewN ?_ _ | refine blk_drew ?_ | refine blk_alloc ?_ _)); refine blk_put (cs := #[.int .i64 0, .int .i64 0]) ?_ 0 _ rfl; (with_reducible repeat (first | refine blk_drewN ?_ _ | refine blk_drew ?_ | refine blk_alloc ?_ _)); exact BK101.out) Tryz.underlying38 rfl (by kernel_rfl)) rfl ?_
    exact ⟨by first | rfl | (simp [errW_none, errW_some] <;> rfl) | (simp [*, errW_none, errW_some] <;> rfl), by repeat (first | (with_reducible first | exact HB.out | apply below_alloc | apply pw_below_drewN | apply below_drew1 | refine below_set ?_ GE101.out) | exact HB.out)⟩
  · rw [if_neg c3] at H
    have c3b0 : decide (a1 < (a0.size : Int)) = false := decide_eq_false c3
    clear c3
    simp only [Option.some.injEq, Prod.mk.injEq] at H
    obtain ⟨rfl, rfl⟩ := H
    go_enter Tryz.func58, Tryz.ntmps58
    go_wp2_with (first | ((with_reducible refine gate_dst (N := 4) rfl ?_); refine box_event ?hg (N := 4) ?hd (cs := #[.int .i64 0, .int .i64 0]) (t := 38) ?hr ?_; (case hd => rfl); (case hg => rfl); (case hr => first | (go_simp; done) | (go_simp; rfl)); intro gb101 hg w6 hbox hb; have n0_ := Aside0.mk (below_step (by repeat (first | (with_reducible first | exact HB.out | apply below_alloc | apply pw_below_drewN | apply below_drew1) | exact HB.out)) hb); have n1_ := Aside0.mk (hbox); have n2_ := Aside0.mk ((by rw [hg]; exact (below_size (by repeat (first | (with_reducible first | exact HB.out | apply below_alloc | apply pw_below_drewN | apply below_drew1) | exact HB.out))) : w.heap.size ≤ gb101)); have n3_ := Aside0.mk ((by rw [hg]; exact (below_size (by repeat (first | (with_reducible first | exact HB.out | apply below_alloc | apply pw_below_drewN | apply below_drew1) | exact HB.out))) : w.heap.size ≤ gb101)); clear HB; have HB := n0_; have BK101 := n1_; have GW101 := n2_; have GE101 := n3_; clear n0_ n1_ n2_ n3_; clear hb hbox hg; have hcz7_0 : w6.cell? ⟨gb101, 0, none⟩ = some (.int .i64 0) := (blk_cell BK101.out 0).trans rfl; have hcz7_1 : w6.cell? ⟨gb101, 1, none⟩ = some (.int .i64 0) := (blk_cell BK101.out 1).trans rfl; have hfz7_0 := blk_frozen BK101.out 0; have hfz7_1 := blk_frozen BK101.out 1))
    refine bodyPost_ret (results_cell_row rfl _ _ gb101 38 #[.int .i64 0, .int .i64 0] (0, 0) _ rfl (by (with_reducible repeat (first | refine blk_drewN ?_ _ | refine blk_drew ?_ | refine blk_alloc ?_ _)); refine blk_put (cs := #[.int .i64 0, .int .i64 0]) ?_ 1 _ rfl; (with_reducible repeat (first | refine blk_drewN ?_ _ | refine blk_drew ?_ | refine blk_alloc ?_ _)); refine blk_put (cs := #[.int .i64 0, .int .i64 0]) ?_ 0 _ rfl; (with_reducible repeat (first | refine blk_drewN ?_ _ | refine blk_drew ?_ | refine blk_alloc ?_ _)); exact BK101.out) Tryz.underlying38 rfl (by kernel_rfl)) rfl ?_
    exact ⟨by first | rfl | (simp [errW_none, errW_some] <;> rfl) | (simp [*, errW_none, errW_some] <;> rfl), by repeat (first | (with_reducible first | exact HB.out | apply below_alloc | apply pw_below_drewN | apply below_drew1 | refine below_set ?_ GE101.out) | exact HB.out)⟩

end Go.Proofs.YtmkdjgmdfhagfaaGreatDoor.PX

/- By hand, in the form in which the printed functions are told: where a plain text ends (plain.end and its closure), for every text that lies in memory. -/
namespace Go.Proofs.YtmkdjgmdfhagfaaGreatDoor.Plug
open Go.RowKit Go.Proofs.YtmkdjgmdfhagfaaGreatDoor Go.Proofs.YtmkdjgmdfhagfaaGreatDoor.PX Go.Proofs.YtmkdjgmdfhagfaaGreatDoor.Utf Go.Proofs.YtmkdjgmdfhagfaaGreatDoorW.PrintWords Go.Proofs.YtmkdjgmdfhagfaaGreatDoorW.PrintLast


theorem atoi_ok (s : ByteArray) (w : World) (hs : s.size ≤ 140737488351232) (v : Int) (h : Lib.atoiAll s.data.toList = .ok v) :
    Calls Tryz.prog 110 #[.string s] w fun e w' => e = .returned (.tuple #[.int .i64 v, .nilIface]) ∧ Below w.heap.size w w' :=
  (Tryz.strconv_Atoi_ok s (by omega) v h w).mono fun e w' ⟨he, hw⟩ => ⟨he, by
    rcases hw with rfl | ⟨t, rfl⟩
    · exact Below.refl _ _
    · exact Lib.bytesWorld_below _ _ _⟩

end Go.Proofs.YtmkdjgmdfhagfaaGreatDoor.Plug

/- A strings.Builder of the call's own, by itself or within the program's own kind of builder: what its methods do to it. Conditions: the new length fits in memory. -/
set_option linter.unusedVariables false
namespace Go.Proofs.YtmkdjgmdfhagfaaGreatDoor.Bld
open Go.RowKit Go.Proofs.YtmkdjgmdfhagfaaGreatDoor

/-- A type whose variables are laid out as a builder's. -/
structure Lies (T : TypeId) : Prop where
  lies : liesAt Tryz.prog Tryz.prog.depth T (2 / Tryz.prog.cellsOf T) 0 63 1 = true
  ne : T ≠ 5
theorem lies_plain : Lies 63 := ⟨by kernel_rfl, by decide⟩
theorem lies_quote : Lies 65 := ⟨by kernel_rfl, by decide⟩

theorem size_bld : (Tryz.prog.info? 63).map (·.size) = some 2 := by kernel_rfl
theorem info_byte : (Tryz.prog.info? 5).map (fun i => (i.zero, i.size, i.bytes)) = some (some (.int .u8 0), 1, 1) := by kernel_rfl
theorem ptr_bld : Tryz.prog.underlying 61 = some (.pointer 63) := by kernel_rfl
theorem ptr_raw : Tryz.prog.underlying 135 = some .unsafePointer := by kernel_rfl
theorem row_byte : Tryz.prog.underlying 58 = some (.slice 5) := by kernel_rfl
theorem str_t : Tryz.prog.underlying 9 = some .string := by kernel_rfl

set_option maxHeartbeats 2000000 in
set_option maxRecDepth 100000 in
theorem check (T : TypeId) (hT : Lies T) (B b : Nat) (bs : List Value) (w : World) (h : Lib.IsBuilderF T 5 B b bs w) :
    Calls Tryz.prog 69 #[.pointer (some ⟨b, 0, none⟩)] w fun e w' => e = .returned (.tuple #[]) ∧ (Lib.BuilderAtF T 5 B b (.pointer (some ⟨b, 0, none⟩)) bs w' ∧ Below B w w' ∧ Lib.OthersKept 5 (some b) w w') := by
  obtain ⟨j, hj, hjs⟩ := Option.map_eq_some_iff.1 size_bld
  rcases h with h | h
  · have h0 := h.cell0; have hsh := h.shape; have hfz := h.frozen0
    have HE : Hid (Lib.BuilderAtF T 5 B b (.pointer (some ⟨b, 0, none⟩)) bs (w.setCell ⟨b, 0, none⟩ (.pointer (some ⟨b, 0, none⟩))) ∧ Below B w (w.setCell ⟨b, 0, none⟩ (.pointer (some ⟨b, 0, none⟩))) ∧ Lib.OthersKept 5 (some b) w (w.setCell ⟨b, 0, none⟩ (.pointer (some ⟨b, 0, none⟩)))) :=
      Lib.hid ⟨h.used _, (Below.refl B w).setCell (p := ⟨b, 0, none⟩) h.1 _, (Lib.OthersKept.refl _ _ w).setCell ⟨b, 0, none⟩ rfl _⟩
    clear h
    go_enter Tryz.func69, Tryz.ntmps69
    go_wp2
    rw [Lib.run_to_unsafe w ⟨b, 0, none⟩ ptr_bld ptr_raw hj (by rw [hjs]; decide) hsh (Nat.zero_lt_succ 1)]
    simp only [Result.andThen]
    rw [Oper.upon_value]
    go_wp2
    rw [run_callFunc_extern Tryz.func99 (by kernel_rfl) (by kernel_rfl) (by kernel_rfl) (e := Extern.AbiNoEscape.same) (by kernel_rfl)]
    rw [Lib.run_noEscape]
    simp only [Result.andThen]
    rw [Oper.upon_value]
    go_wp2
    rw [Lib.run_from_unsafe w ⟨b, 0, none⟩ ptr_raw ptr_bld hj hsh hT.lies]
    simp only [Result.andThen]
    rw [Oper.upon_value]
    go_wp2
    go_end0
    exact ⟨rfl, HE.out⟩
  · have h0 := h.cell0
    have HE : Hid (Lib.BuilderAtF T 5 B b (.pointer (some ⟨b, 0, none⟩)) bs w ∧ Below B w w ∧ Lib.OthersKept 5 (some b) w w) := Lib.hid ⟨h, Below.refl B _, Lib.OthersKept.refl _ _ _⟩
    clear h
    go_enter Tryz.func69, Tryz.ntmps69
    go_wp2
    rw [Lib.run_neq_ptr_same w _ ptr_bld hj]
    go_wp2
    go_end0
    exact ⟨rfl, HE.out⟩

/-- What a method that writes leaves. -/
def Wrote (T : TypeId) (B b : Nat) (bs : List Value) (w w' : World) : Prop :=
  Lib.BuilderAtF T 5 B b (.pointer (some ⟨b, 0, none⟩)) bs w' ∧ Below B w w' ∧ Lib.OthersKept 5 (some b) w w'

theorem at_lt {w : World} {b : Nat} {o : Obj} (h : w.heap[b]? = some o) : b < w.heap.size := by
  rcases Nat.lt_or_ge b w.heap.size with h' | h'
  · exact h'
  · simp [Array.getElem?_eq_none h'] at h

set_option maxHeartbeats 2000000 in
set_option maxRecDepth 100000 in
theorem byte (T : TypeId) (hT : Lies T) (B b : Nat) (bs : List Value) (c : Int) (w : World) (h : Lib.IsBuilderF T 5 B b bs w) (hlen : bs.length + 1 ≤ 140737488355328) (hBw : B ≤ w.heap.size) :
    Calls Tryz.prog 42 #[.pointer (some ⟨b, 0, none⟩), .int .u8 c] w fun e w' => e = .returned .nilIface ∧ Wrote T B b (bs ++ [.int .u8 c]) w w' := by
  obtain ⟨i0, hi, hz0, hz1, hz2⟩ := info_parts info_byte
  go_enter Tryz.func42, Tryz.ntmps42
  go_wp2_with (go_at_call 69; refine (check T hT B b bs _ h).mono ?_)
  rintro e w1 ⟨rfl, h1, hb1, hk1⟩
  obtain ⟨hB, v, hbk, hown, hne⟩ := h1
  have c0 : w1.cell? ⟨b, 0, none⟩ = some (.pointer (some ⟨b, 0, none⟩)) := by rw [Lib.cell_of_heap hbk]; rfl
  have c1 : w1.cell? ⟨b, 1, none⟩ = some v := by rw [Lib.cell_of_heap hbk]; rfl
  go_wp2_with (at_builtin; refine wpList_append_ownF _ rfl _ _ 58 rfl B 5 i0 (.int .u8 0) 1 1 row_byte hi hz0 hz1 hz2 rfl (by decide) _ _ _ rfl (hown.alloc _) ⟨w1.heap.size, 0, none⟩ 1 1 [.int .u8 c] rfl rfl ?c1 ?c2 ?c3 ?c4 ?c5 ?_)
  case c1 =>
    intro j u hj
    match j, hj with
    | 0, hj => simp at hj; subst hj; simp [Addr.add]
  case c2 => intro u hu; simp at hu; subst hu; rfl
  case c3 => unfold maxLen; omega
  case c4 => omega
  case c5 => have := hb1.size; simp; omega
  intro v' w2 hown' hgrow _
  have hlt := at_lt hbk
  have hb2 : w2.heap[b]? = some (.cells #[.pointer (some ⟨b, 0, none⟩), v] T (0, 0)) := by
    rw [hgrow.block b (by simp; omega) (fun e => hne e.symm), Lib.alloc_old w1 _ b hlt]
    exact hbk
  have d0 : w2.cell? ⟨b, 0, none⟩ = some (.pointer (some ⟨b, 0, none⟩)) := by rw [Lib.cell_of_heap hb2]; rfl
  have d1 : w2.cell? ⟨b, 1, none⟩ = some v := by rw [Lib.cell_of_heap hb2]; rfl
  have f1 : w2.frozen? ⟨b, 1, none⟩ = false := Lib.frozen_of_heap hb2 1
  obtain ⟨g, cap, rfl⟩ : ∃ g cap, v' = .slice (some ⟨g, 0, none⟩) (bs.length + 1) cap := by
    rcases hown'.2 with ⟨_, h0⟩ | ⟨g, cap, cur, fz, hv, _⟩
    · omega
    · exact ⟨g, cap, hv⟩
  go_wp2
  go_ret
  refine ⟨rfl, ?_, ?_, ((hk1.alloc _).grown hgrow (Lib.ownsRowF_kind (hown.alloc _))).setCell ⟨b, 1, none⟩ rfl _⟩
  · exact Lib.BuilderAtF.put (T := T) (e := 5) hB hb2 (bs' := bs ++ [.int .u8 c]) (by simpa using hown') hT.ne
  · exact ((hb1.alloc (by have := hb1.size; omega) _).grown hgrow (by have := hb1.size; simp; omega) (fun k hk => (hown.lt k hk).1)).setCell (p := ⟨b, 1, none⟩) hB _

set_option maxHeartbeats 2000000 in
set_option maxRecDepth 100000 in
theorem text (T : TypeId) (hT : Lies T) (B b : Nat) (bs : List Value) (s : ByteArray) (w : World) (h : Lib.IsBuilderF T 5 B b bs w) (hlen : bs.length + s.size ≤ 140737488355328) (hBw : B ≤ w.heap.size) :
    Calls Tryz.prog 39 #[.pointer (some ⟨b, 0, none⟩), .string s] w fun e w' => e = .returned (.tuple #[.int .i64 s.size, .nilIface]) ∧ Wrote T B b (bs ++ Lib.strCells s) w w' := by
  obtain ⟨i0, hi, hz0, hz1, hz2⟩ := info_parts info_byte
  go_enter Tryz.func39, Tryz.ntmps39
  go_wp2_with (go_at_call 69; refine (check T hT B b bs _ h).mono ?_)
  rintro e w1 ⟨rfl, h1, hb1, hk1⟩
  obtain ⟨hB, v, hbk, hown, hne⟩ := h1
  have c0 : w1.cell? ⟨b, 0, none⟩ = some (.pointer (some ⟨b, 0, none⟩)) := by rw [Lib.cell_of_heap hbk]; rfl
  have c1 : w1.cell? ⟨b, 1, none⟩ = some v := by rw [Lib.cell_of_heap hbk]; rfl
  go_wp2_with (at_builtin; refine Lib.wpList_append_own_stringF _ rfl _ _ 58 9 rfl B 5 i0 row_byte str_t hi hz0 hz1 hz2 _ _ _ rfl hown s rfl ?c3 ?c4 ?c5 ?_)
  case c3 => unfold maxLen; omega
  case c4 => omega
  case c5 => have := hb1.size; omega
  intro v' w2 hown' hgrow _
  have hlt := at_lt hbk
  have hb2 : w2.heap[b]? = some (.cells #[.pointer (some ⟨b, 0, none⟩), v] T (0, 0)) := by
    rw [hgrow.block b hlt (fun e => hne e.symm)]
    exact hbk
  have d0 : w2.cell? ⟨b, 0, none⟩ = some (.pointer (some ⟨b, 0, none⟩)) := by rw [Lib.cell_of_heap hb2]; rfl
  have d1 : w2.cell? ⟨b, 1, none⟩ = some v := by rw [Lib.cell_of_heap hb2]; rfl
  have f1 : w2.frozen? ⟨b, 1, none⟩ = false := Lib.frozen_of_heap hb2 1
  obtain ⟨ao, n', cap, rfl⟩ : ∃ ao n' cap, v' = .slice ao n' cap := by
    rcases hown'.2 with ⟨hv, _⟩ | ⟨g, cap, cur, fz, hv, _⟩
    · exact ⟨_, _, _, hv⟩
    · exact ⟨_, _, _, hv⟩
  go_wp2
  go_ret2
  refine ⟨rfl, ?_, ?_, (hk1.grown hgrow (Lib.ownsRowF_kind hown)).setCell ⟨b, 1, none⟩ rfl _⟩
  · exact Lib.BuilderAtF.put (T := T) (e := 5) hB hb2 (bs' := bs ++ Lib.strCells s) (by simpa [Lib.strCells_length] using hown') hT.ne
  · exact (hb1.grown hgrow (by have := hb1.size; omega) (fun k hk => (hown.lt k hk).1)).setCell (p := ⟨b, 1, none⟩) hB _

set_option maxHeartbeats 4000000 in
set_option maxRecDepth 100000 in
theorem put2 (B : Nat) (v : Value) (n : Nat) (xs : List Value) (r : Int) (h0 : 128 ≤ r) (h1 : r ≤ 2047) (w : World) (hown : w.ownsRowF B 5 1 v n xs) (hlen : n + 4 ≤ 140737488355328) (hBw : B ≤ w.heap.size) :
    Calls Tryz.prog 118 #[v, .int .i32 r] w fun e w' => ∃ v', e = .returned v' ∧ w'.ownsRowF B 5 1 v' (n + 2) (xs ++ [.int .u8 (192 + r / 64), .int .u8 (128 + r % 64)]) ∧ ∃ o, (w.alloc o).grownBy w' v.ownBlock := by
  obtain ⟨i0, hi, hz0, hz1, hz2⟩ := info_parts info_byte
  go_enter Tryz.func118, Tryz.ntmps118
  go_wp2_with (at_builtin; refine wpList_append_ownF _ rfl _ _ 58 rfl B 5 i0 (.int .u8 0) 1 1 row_byte hi hz0 hz1 hz2 rfl (by decide) _ _ _ rfl (hown.alloc _) ⟨w.heap.size, 0, none⟩ 2 2 [.int .u8 (192 + r / 64), .int .u8 (128 + r % 64)] rfl rfl ?c1 ?c2 ?c3 ?c4 ?c5 ?_)
  case c1 =>
    intro j u hj
    match j, hj with
    | 0, hj => simp at hj; subst hj; simp [Addr.add]
    | 1, hj => simp at hj; subst hj; simp [Addr.add]
    | (j + 2), hj => simp at hj
  case c2 => intro u hu; simp at hu; rcases hu with rfl | rfl <;> rfl
  case c3 => unfold maxLen; omega
  case c4 => omega
  case c5 => simp; omega
  intro v' w2 hown' hgrow _
  go_wp2
  go_ret
  exact ⟨_, rfl, hown', _, hgrow⟩

set_option maxHeartbeats 4000000 in
set_option maxRecDepth 100000 in
theorem put3 (B : Nat) (v : Value) (n : Nat) (xs : List Value) (r : Int) (h : (2048 ≤ r ∧ r < 55296) ∨ (57343 < r ∧ r ≤ 65535)) (w : World) (hown : w.ownsRowF B 5 1 v n xs) (hlen : n + 4 ≤ 140737488355328) (hBw : B ≤ w.heap.size) :
    Calls Tryz.prog 118 #[v, .int .i32 r] w fun e w' => ∃ v', e = .returned v' ∧ w'.ownsRowF B 5 1 v' (n + 3) (xs ++ [.int .u8 (224 + r / 4096), .int .u8 (128 + r / 64 % 64), .int .u8 (128 + r % 64)]) ∧ ∃ o, (w.alloc o).grownBy w' v.ownBlock := by
  obtain ⟨i0, hi, hz0, hz1, hz2⟩ := info_parts info_byte
  rcases h with ⟨h0, h1⟩ | ⟨h0, h1⟩
  all_goals
    go_enter Tryz.func118, Tryz.ntmps118
    go_wp2_with (at_builtin; refine wpList_append_ownF _ rfl _ _ 58 rfl B 5 i0 (.int .u8 0) 1 1 row_byte hi hz0 hz1 hz2 rfl (by decide) _ _ _ rfl (hown.alloc _) ⟨w.heap.size, 0, none⟩ 3 3 [.int .u8 (224 + r / 4096), .int .u8 (128 + r / 64 % 64), .int .u8 (128 + r % 64)] rfl rfl ?c1 ?c2 ?c3 ?c4 ?c5 ?_)
    case c1 =>
      intro j u hj
      match j, hj with
      | 0, hj => simp at hj; subst hj; simp [Addr.add]
      | 1, hj => simp at hj; subst hj; simp [Addr.add]
      | 2, hj => simp at hj; subst hj; simp [Addr.add]
      | (j + 3), hj => simp at hj
    case c2 => intro u hu; simp at hu; rcases hu with rfl | rfl | rfl <;> rfl
    case c3 => unfold maxLen; omega
    case c4 => omega
    case c5 => simp; omega
    intro v' w2 hown' hgrow _
    go_wp2
    go_ret
    exact ⟨_, rfl, hown', _, hgrow⟩

set_option maxHeartbeats 4000000 in
set_option maxRecDepth 100000 in
theorem put4 (B : Nat) (v : Value) (n : Nat) (xs : List Value) (r : Int) (h0 : 65536 ≤ r) (h1 : r ≤ 1114111) (w : World) (hown : w.ownsRowF B 5 1 v n xs) (hlen : n + 4 ≤ 140737488355328) (hBw : B ≤ w.heap.size) :
    Calls Tryz.prog 118 #[v, .int .i32 r] w fun e w' => ∃ v', e = .returned v' ∧ w'.ownsRowF B 5 1 v' (n + 4) (xs ++ [.int .u8 (240 + r / 262144), .int .u8 (128 + r / 4096 % 64), .int .u8 (128 + r / 64 % 64), .int .u8 (128 + r % 64)]) ∧ ∃ o, (w.alloc o).grownBy w' v.ownBlock := by
  obtain ⟨i0, hi, hz0, hz1, hz2⟩ := info_parts info_byte
  go_enter Tryz.func118, Tryz.ntmps118
  go_wp2_with (at_builtin; refine wpList_append_ownF _ rfl _ _ 58 rfl B 5 i0 (.int .u8 0) 1 1 row_byte hi hz0 hz1 hz2 rfl (by decide) _ _ _ rfl (hown.alloc _) ⟨w.heap.size, 0, none⟩ 4 4 [.int .u8 (240 + r / 262144), .int .u8 (128 + r / 4096 % 64), .int .u8 (128 + r / 64 % 64), .int .u8 (128 + r % 64)] rfl rfl ?c1 ?c2 ?c3 ?c4 ?c5 ?_)
  case c1 =>
    intro j u hj
    match j, hj with
    | 0, hj => simp at hj; subst hj; simp [Addr.add]
    | 1, hj => simp at hj; subst hj; simp [Addr.add]
    | 2, hj => simp at hj; subst hj; simp [Addr.add]
    | 3, hj => simp at hj; subst hj; simp [Addr.add]
    | (j + 4), hj => simp at hj
  case c2 => intro u hu; simp at hu; rcases hu with rfl | rfl | rfl | rfl <;> rfl
  case c3 => unfold maxLen; omega
  case c4 => omega
  case c5 => simp; omega
  intro v' w2 hown' hgrow _
  go_wp2
  go_ret
  exact ⟨_, rfl, hown', _, hgrow⟩

theorem ptr_byte : Tryz.prog.underlying 97 = some (.pointer 5) := by kernel_rfl
theorem cells_byte : Tryz.prog.cellsOf 5 = 1 := by kernel_rfl

set_option maxHeartbeats 4000000 in
set_option maxRecDepth 100000 in
theorem rune1 (B : Nat) (v : Value) (n : Nat) (xs : List Value) (r : Int) (h0 : 0 ≤ r) (h1 : r ≤ 127) (w : World) (hown : w.ownsRowF B 5 1 v n xs) (hlen : n + 4 ≤ 140737488355328) (hBw : B ≤ w.heap.size) :
    Calls Tryz.prog 88 #[v, .int .i32 r] w fun e w' => ∃ v', e = .returned v' ∧ w'.ownsRowF B 5 1 v' (n + 1) (xs ++ [.int .u8 r]) ∧ ∃ o, (w.alloc o).grownBy w' v.ownBlock := by
  obtain ⟨i0, hi, hz0, hz1, hz2⟩ := info_parts info_byte
  go_enter Tryz.func88, Tryz.ntmps88
  go_wp2_with (at_builtin; refine wpList_append_ownF _ rfl _ _ 58 rfl B 5 i0 (.int .u8 0) 1 1 row_byte hi hz0 hz1 hz2 rfl (by decide) _ _ _ rfl (hown.alloc _) ⟨w.heap.size, 0, none⟩ 1 1 [.int .u8 r] rfl rfl ?c1 ?c2 ?c3 ?c4 ?c5 ?_)
  all_goals first
    | (intro v' w2 hown' hgrow _; go_wp2; go_ret; exact ⟨_, rfl, hown', _, hgrow⟩)
    | (unfold maxLen; omega)
    | omega
    | (simp; omega)
    | rfl
    | (intro u hu; simp at hu; subst hu; rfl)
    | (intro j u hj
       match j, hj with
       | 0, hj => simp at hj; subst hj; simp [Addr.add]
       | (j + 1), hj => simp at hj)

set_option maxHeartbeats 4000000 in
set_option maxRecDepth 100000 in
/-- A sign's bytes go in behind what a row of bytes holds. -/
theorem rune (B : Nat) (v : Value) (n : Nat) (xs : List Value) (r : Int) (hr : 0 ≤ r ∧ r ≤ 1114111 ∧ (r < 55296 ∨ 57343 < r)) (w : World) (hown : w.ownsRowF B 5 1 v n xs) (hlen : n + 4 ≤ 140737488355328) (hBw : B ≤ w.heap.size) :
    Calls Tryz.prog 88 #[v, .int .i32 r] w fun e w' => ∃ v', e = .returned v' ∧ w'.ownsRowF B 5 1 v' (n + (Lib.runeCells r).length) (xs ++ Lib.runeCells r) ∧ ∃ o, (w.alloc o).grownBy w' v.ownBlock := by
  by_cases c : r ≤ 127
  · rw [show Lib.runeCells r = [.int .u8 r] by simp [Lib.runeCells, Lib.encodeRuneZ_one hr.1 c]]
    exact rune1 B v n xs r hr.1 c w hown hlen hBw
  have key : Calls Tryz.prog 118 #[v, .int .i32 r] w fun e w' => ∃ v', e = .returned v' ∧ w'.ownsRowF B 5 1 v' (n + (Lib.runeCells r).length) (xs ++ Lib.runeCells r) ∧ ∃ o, (w.alloc o).grownBy w' v.ownBlock := by
    by_cases c1 : r ≤ 2047
    · rw [show Lib.runeCells r = [.int .u8 (192 + r / 64), .int .u8 (128 + r % 64)] by simp [Lib.runeCells, Lib.encodeRuneZ_two (by omega) c1]]
      exact put2 B v n xs r (by omega) c1 w hown hlen hBw
    by_cases c4 : r ≤ 65535
    · have h3 : (2048 ≤ r ∧ r < 55296) ∨ (57343 < r ∧ r ≤ 65535) := by omega
      rw [show Lib.runeCells r = [.int .u8 (224 + r / 4096), .int .u8 (128 + r / 64 % 64), .int .u8 (128 + r % 64)] by simp [Lib.runeCells, Lib.encodeRuneZ_three h3]]
      exact put3 B v n xs r h3 w hown hlen hBw
    · rw [show Lib.runeCells r = [.int .u8 (240 + r / 262144), .int .u8 (128 + r / 4096 % 64), .int .u8 (128 + r / 64 % 64), .int .u8 (128 + r % 64)] by simp [Lib.runeCells, Lib.encodeRuneZ_four (by omega) hr.2.1]]
      exact put4 B v n xs r (by omega) hr.2.1 w hown hlen hBw
  obtain ⟨q0, q1, _⟩ := hr
  have q2 : 127 < r := by omega
  clear c hown hlen hBw
  go_enter Tryz.func88, Tryz.ntmps88
  go_wp2_with (go_at_call 118; refine key.mono ?_)
  rintro e w1 ⟨v', rfl, h1, o, h2⟩
  go_wp2
  go_ret
  exact ⟨_, rfl, h1, o, h2⟩

set_option maxHeartbeats 4000000 in
set_option maxRecDepth 100000 in
theorem sign (T : TypeId) (hT : Lies T) (B b : Nat) (bs : List Value) (r : Int) (hr : 0 ≤ r ∧ r ≤ 1114111 ∧ (r < 55296 ∨ 57343 < r)) (w : World) (h : Lib.IsBuilderF T 5 B b bs w) (hlen : bs.length + 4 ≤ 140737488355328) (hBw : B ≤ w.heap.size) :
    Calls Tryz.prog 60 #[.pointer (some ⟨b, 0, none⟩), .int .i32 r] w fun e w' => e = .returned (.tuple #[.int .i64 (Lib.runeCells r).length, .nilIface]) ∧ Wrote T B b (bs ++ Lib.runeCells r) w w' := by
  have hk4 := Lib.runeCells_le r
  have hrr := Lib.hid hr
  clear hr
  go_enter Tryz.func60, Tryz.ntmps60
  go_wp2_with (go_at_call 69; refine (check T hT B b bs _ h).mono ?_)
  rintro e w1 ⟨rfl, h1, hb1, hk1⟩
  obtain ⟨hB, v, hbk, hown, hne⟩ := h1
  obtain ⟨ao, cap, rfl⟩ : ∃ ao cap, v = .slice ao bs.length cap := by
    rcases hown.2 with ⟨hv, h0⟩ | ⟨g, cap, cur, fz, hv, _⟩
    · exact ⟨none, 0, by rw [hv, h0]⟩
    · exact ⟨_, _, hv⟩
  have c0 : w1.cell? ⟨b, 0, none⟩ = some (.pointer (some ⟨b, 0, none⟩)) := by rw [Lib.cell_of_heap hbk]; rfl
  have c1 : w1.cell? ⟨b, 1, none⟩ = some (.slice ao bs.length cap) := by rw [Lib.cell_of_heap hbk]; rfl
  go_wp2_with (go_at_call 88; refine (rune B _ bs.length bs r hrr.out _ hown hlen (by have := hb1.size; omega)).mono ?_)
  rintro e w2 ⟨v', rfl, hown', o, hgrow⟩
  have hlt := at_lt hbk
  have hb2 : w2.heap[b]? = some (.cells #[.pointer (some ⟨b, 0, none⟩), .slice ao bs.length cap] T (0, 0)) := by
    rw [hgrow.block b (by simp; omega) (fun e => hne e.symm), Lib.alloc_old w1 _ b hlt]
    exact hbk
  have d0 : w2.cell? ⟨b, 0, none⟩ = some (.pointer (some ⟨b, 0, none⟩)) := by rw [Lib.cell_of_heap hb2]; rfl
  have d1 : w2.cell? ⟨b, 1, none⟩ = some (.slice ao bs.length cap) := by rw [Lib.cell_of_heap hb2]; rfl
  have f1 : w2.frozen? ⟨b, 1, none⟩ = false := Lib.frozen_of_heap hb2 1
  obtain ⟨g, cap', rfl⟩ : ∃ g cap', v' = .slice (some ⟨g, 0, none⟩) (bs.length + (Lib.runeCells r).length) cap' := by
    rcases hown'.2 with ⟨_, h0⟩ | ⟨g, cap', cur, fz, hv, _⟩
    · omega
    · exact ⟨g, cap', hv⟩
  go_wp2
  go_ret2
  refine ⟨?_, ?_, ?_, ((hk1.alloc _).grown hgrow (Lib.ownsRowF_kind (hown.alloc _))).setCell ⟨b, 1, none⟩ rfl _⟩
  · have e : ((bs.length : Int) + ((Lib.runeCells r).length : Int) - (bs.length : Int)) = ((Lib.runeCells r).length : Int) := by omega
    simp [e]
  · exact Lib.BuilderAtF.put (T := T) (e := 5) hB hb2 (bs' := bs ++ Lib.runeCells r) (by simpa using hown') hT.ne
  · exact ((hb1.alloc (by have := hb1.size; omega) _).grown hgrow (by have := hb1.size; simp; omega) (fun k hk => (hown.lt k hk).1)).setCell (p := ⟨b, 1, none⟩) hB _

set_option maxHeartbeats 2000000 in
set_option maxRecDepth 100000 in
/-- What a builder holds. -/
theorem got (T : TypeId) (B b : Nat) (l : List UInt8) (w : World) (h : Lib.IsBuilderF T 5 B b (Lib.byteCells l) w) (hBw : B ≤ w.heap.size) :
    Calls Tryz.prog 32 #[.pointer (some ⟨b, 0, none⟩)] w fun e w' => e = .returned (.string ⟨l.toArray⟩) ∧ Below B w w' := by
  obtain ⟨p, hAt⟩ : ∃ p, Lib.BuilderAtF T 5 B b p (Lib.byteCells l) w := by
    rcases h with h | h
    · exact ⟨_, h⟩
    · exact ⟨_, h⟩
  clear h
  obtain ⟨hB, v, hbk, hown, hne⟩ := hAt
  rw [Lib.byteCells_length] at hown
  have hlt := at_lt hbk
  by_cases hl : l = []
  · subst hl
    have hUS : ∀ (W : World) (q : Option Addr), (Builtin.unsafeString_ #[97, 3] 9 #[.pointer q, .int .i64 0]).run Tryz.prog W = .ok (.string .empty) W := fun W q => Lib.run_unsafeString_none W _ _ _ q
    rcases hown.2 with ⟨rfl, _⟩ | ⟨g, cap, cur, fz, rfl, hbg, hg, _, _, _, _, _⟩
    · have c1 : w.drew.cell? ⟨b, 1, none⟩ = some (.slice none 0 0) := by
        have : w.drew.heap[b]? = some (.cells #[p, .slice none 0 0] T (0, 0)) := hbk
        rw [Lib.cell_of_heap this]; rfl
      have hSD : (Builtin.unsafeSliceData_ #[58] 97 #[.slice none 0 0]).run Tryz.prog w.drew = .ok (.pointer none) w.drew := rfl
      clear hown
      go_enter Tryz.func32, Tryz.ntmps32
      go_wp2
      go_region
      all_goals (go_wp2; go_ret; exact ⟨rfl, Below.drew (Below.refl B w)⟩)
    · by_cases hc0 : cap = 0
      · subst hc0
        have c1 : w.drew.cell? ⟨b, 1, none⟩ = some (.slice (some ⟨g, 0, none⟩) 0 0) := by
          have : w.drew.heap[b]? = some (.cells #[p, .slice (some ⟨g, 0, none⟩) 0 0] T (0, 0)) := hbk
          rw [Lib.cell_of_heap this]; rfl
        have hSD : (Builtin.unsafeSliceData_ #[58] 97 #[.slice (some ⟨g, 0, none⟩) 0 0]).run Tryz.prog w.drew = .ok (.pointer (some ⟨w.drew.heap.size, 0, none⟩)) (w.drew.alloc (.view ⟨g, 0, none⟩ 5)) :=
          Lib.run_unsafeSliceData_zero w.drew _ _ 5 ptr_byte ⟨g, 0, none⟩ 0 (5, cur.size) (by have hg' : w.drew.heap[g]? = some (.cells cur 5 fz) := hg; simp [World.shape?, hg'])
        have c2 : (w.drew.alloc (.view ⟨g, 0, none⟩ 5)).cell? ⟨b, 1, none⟩ = some (.slice (some ⟨g, 0, none⟩) 0 0) := by
          have : (w.drew.alloc (.view ⟨g, 0, none⟩ 5)).heap[b]? = _ := (Lib.alloc_old w.drew _ b hlt).trans hbk
          rw [Lib.cell_of_heap this]; rfl
        have c3 : (w.alloc (.view ⟨g, 0, none⟩ 5)).drew.cell? ⟨b, 1, none⟩ = some (.slice (some ⟨g, 0, none⟩) 0 0) := c2
        have c0 : w.cell? ⟨b, 1, none⟩ = some (.slice (some ⟨g, 0, none⟩) 0 0) := c1
        clear hown
        go_enter Tryz.func32, Tryz.ntmps32
        go_wp2
        go_region
        all_goals (go_wp2; go_ret; exact ⟨rfl, (Below.drew (Below.refl B w)).alloc hBw _⟩)
      · have c1 : w.drew.cell? ⟨b, 1, none⟩ = some (.slice (some ⟨g, 0, none⟩) 0 cap) := by
          have : w.drew.heap[b]? = some (.cells #[p, .slice (some ⟨g, 0, none⟩) 0 cap] T (0, 0)) := hbk
          rw [Lib.cell_of_heap this]; rfl
        have hSD : (Builtin.unsafeSliceData_ #[58] 97 #[.slice (some ⟨g, 0, none⟩) 0 cap]).run Tryz.prog w.drew = .ok (.pointer (some ⟨g, 0, none⟩)) w.drew :=
          Lib.run_unsafeSliceData_row _ _ _ _ _ _ hc0
        clear hc0 hown
        go_enter Tryz.func32, Tryz.ntmps32
        go_wp2
        go_region
        all_goals (go_wp2; go_ret; exact ⟨rfl, Below.drew (Below.refl B w)⟩)
  · have hl0 : l.length ≠ 0 := by simpa using hl
    obtain ⟨g, cap, cur, fz, rfl, hbg, hg, hfz, hnc, hcm, hcs, htake⟩ : ∃ g cap cur fz, v = .slice (some ⟨g, 0, none⟩) l.length cap ∧ B ≤ g ∧ w.heap[g]? = some (.cells cur 5 fz) ∧ fz.2 ≤ l.length * 1 ∧ l.length ≤ cap ∧ cap ≤ maxLen ∧ cur.size = cap * 1 ∧ cur.toList.take (l.length * 1) = Lib.byteCells l := by
      rcases hown.2 with ⟨_, hz⟩ | ⟨g, cap, cur, fz, hv, r⟩
      · exact absurd hz hl0
      · exact ⟨g, cap, cur, fz, hv, r⟩
    have c1 : w.drew.cell? ⟨b, 1, none⟩ = some (.slice (some ⟨g, 0, none⟩) l.length cap) := by
      have : w.drew.heap[b]? = some (.cells #[p, .slice (some ⟨g, 0, none⟩) l.length cap] T (0, 0)) := hbk
      rw [Lib.cell_of_heap this]; rfl
    have hSD : (Builtin.unsafeSliceData_ #[58] 97 #[.slice (some ⟨g, 0, none⟩) l.length cap]).run Tryz.prog w.drew = .ok (.pointer (some ⟨g, 0, none⟩)) w.drew :=
      Lib.run_unsafeSliceData_row _ _ _ _ _ _ (by omega)
    have hUS : (Builtin.unsafeString_ #[97, 3] 9 #[.pointer (some ⟨g, 0, none⟩), .int .i64 l.length]).run Tryz.prog w.drew = .ok (.string ⟨l.toArray⟩) (w.drew.freeze ⟨g, 0, none⟩ l.length) := by
      refine Lib.run_unsafeString_row w.drew 97 3 9 5 ptr_byte cells_byte g cur.size (by have hg' : w.drew.heap[g]? = some (.cells cur 5 fz) := hg; simp [World.shape?, hg']) l hl (by omega) (by unfold maxLen at hcm; omega) ?_
      intro j x hx
      have := hown.cells (g := g) rfl j (.int .u8 x.toNat) (by simp [Lib.byteCells, hx])
      exact this
    clear hown htake hcs hnc hfz
    go_enter Tryz.func32, Tryz.ntmps32
    go_wp2
    go_region
    all_goals (go_wp2; go_ret; exact ⟨rfl, Lib.below_freeze (Below.drew (Below.refl B w)) (p := ⟨g, 0, none⟩) hbg _⟩)
end Go.Proofs.YtmkdjgmdfhagfaaGreatDoor.Bld

/- Signs and their bytes: what is put down is read again, what is read stands there; plain laws, no conditions. -/
namespace Go.Proofs.YtmkdjgmdfhagfaaGreatDoor.Utf
/-- A sign's bytes. -/
def enc (n : Int) : List UInt8 := Lib.encodeRune n

theorem sgn_iff (n : Int) : sgn n = true ↔ 0 ≤ n ∧ n ≤ 1114111 ∧ (n < 55296 ∨ 57343 < n) := by
  unfold sgn; simp [and_assoc]

theorem dec_neg {l : List UInt8} {w : Nat} (h : l ≠ []) (e : Lib.decodeN l.length (at_ l 0) (at_ l 1) (at_ l 2) (at_ l 3) = (65533, w)) (hw : w < 3) : dec l = (-1, w) := by
  unfold dec; rw [if_neg h, e, if_pos ⟨rfl, hw⟩]
theorem dec_pos {l : List UInt8} {n w : Nat} (h : l ≠ []) (e : Lib.decodeN l.length (at_ l 0) (at_ l 1) (at_ l 2) (at_ l 3) = (n, w)) (hw : ¬ (n = 65533 ∧ w < 3)) : dec l = ((n : Int), w) := by
  unfold dec; rw [if_neg h, e, if_neg hw]

/-- What stands ahead of a text's sign: five cases. -/
theorem dec_shape (l : List UInt8) (h : l ≠ []) :
    (at_ l 0 < 128 ∧ dec l = ((at_ l 0 : Int), 1)) ∨
    (at_ l 0 / 32 = 6 ∧ 1 < l.length ∧ at_ l 1 / 64 = 2 ∧ 128 ≤ at_ l 0 % 32 * 64 + at_ l 1 % 64 ∧ dec l = (((at_ l 0 % 32 * 64 + at_ l 1 % 64 : Nat) : Int), 2)) ∨
    (at_ l 0 / 16 = 14 ∧ 2 < l.length ∧ at_ l 1 / 64 = 2 ∧ at_ l 2 / 64 = 2 ∧ 2048 ≤ at_ l 0 % 16 * 4096 + at_ l 1 % 64 * 64 + at_ l 2 % 64 ∧ (at_ l 0 % 16 * 4096 + at_ l 1 % 64 * 64 + at_ l 2 % 64 < 55296 ∨ 57344 ≤ at_ l 0 % 16 * 4096 + at_ l 1 % 64 * 64 + at_ l 2 % 64) ∧
      dec l = (((at_ l 0 % 16 * 4096 + at_ l 1 % 64 * 64 + at_ l 2 % 64 : Nat) : Int), 3)) ∨
    (at_ l 0 / 8 = 30 ∧ 3 < l.length ∧ at_ l 1 / 64 = 2 ∧ at_ l 2 / 64 = 2 ∧ at_ l 3 / 64 = 2 ∧ 65536 ≤ at_ l 0 % 8 * 262144 + at_ l 1 % 64 * 4096 + at_ l 2 % 64 * 64 + at_ l 3 % 64 ∧ at_ l 0 % 8 * 262144 + at_ l 1 % 64 * 4096 + at_ l 2 % 64 * 64 + at_ l 3 % 64 ≤ 1114111 ∧
      dec l = (((at_ l 0 % 8 * 262144 + at_ l 1 % 64 * 4096 + at_ l 2 % 64 * 64 + at_ l 3 % 64 : Nat) : Int), 4)) ∨
    dec l = (-1, 1) := by
  rcases Lib.decodeN_shape l.length (at_ l 0) (at_ l 1) (at_ l 2) (at_ l 3) with ⟨c, e⟩ | ⟨c1, c2, c3, cv, e⟩ | ⟨c1, c2, c3, c4, cv, cs, e⟩ | ⟨c1, c2, c3, c4, c5, cv, cw, e⟩ | e
  · exact .inl ⟨c, dec_pos h e (by omega)⟩
  · exact .inr (.inl ⟨c1, c2, c3, cv, dec_pos h e (by omega)⟩)
  · exact .inr (.inr (.inl ⟨c1, c2, c3, c4, cv, cs, dec_pos h e (by omega)⟩))
  · exact .inr (.inr (.inr (.inl ⟨c1, c2, c3, c4, c5, cv, cw, dec_pos h e (by omega)⟩)))
  · exact .inr (.inr (.inr (.inr (dec_neg h e (by omega)))))

theorem byte_of (z : Int) (l : List UInt8) (i : Nat) (h : z = (at_ l i : Int)) : z.toNat.toUInt8 = l.getD i 0 := Lib.toByte z _ h

/-- A sign that was read stands there with its bytes. -/
theorem enc_dec (l : List UInt8) (h : 0 ≤ (dec l).1) : sgn (dec l).1 = true ∧ l ≠ [] ∧ (dec l).2 = (enc (dec l).1).length ∧ enc (dec l).1 ++ l.drop (dec l).2 = l := by
  by_cases hne : l = []
  · subst hne; exact absurd h (by decide)
  have hl : 0 < l.length := List.length_pos_iff.2 hne
  have k0 := at_lt l 0; have k1 := at_lt l 1; have k2 := at_lt l 2; have k3 := at_lt l 3
  have key : sgn (dec l).1 = true ∧ enc (dec l).1 = l.take (dec l).2 ∧ (dec l).2 ≤ l.length := by
    rw [sgn_iff]
    rcases dec_shape l hne with ⟨c, e⟩ | ⟨c1, c2, c3, cv, e⟩ | ⟨c1, c2, c3, c4, cv, cs, e⟩ | ⟨c1, c2, c3, c4, c5, cv, cw, e⟩ | e
    · rw [e]; dsimp only
      refine ⟨by omega, ?_, by omega⟩
      unfold enc Lib.encodeRune
      rw [Lib.encodeRuneZ_one (by omega) (by omega), Lib.takeA l hl]
      simp only [List.map_cons, List.map_nil]
      rw [byte_of _ l 0 rfl]
    · rw [e]; dsimp only
      refine ⟨by omega, ?_, by omega⟩
      unfold enc Lib.encodeRune
      rw [Lib.encodeRuneZ_two (by omega) (by omega), Lib.takeB l c2]
      simp only [List.map_cons, List.map_nil]
      rw [byte_of _ l 0 (by omega), byte_of _ l 1 (by omega)]
    · rw [e]; dsimp only
      refine ⟨by omega, ?_, by omega⟩
      unfold enc Lib.encodeRune
      rw [Lib.encodeRuneZ_three (by omega), Lib.takeC l c2]
      simp only [List.map_cons, List.map_nil]
      rw [byte_of _ l 0 (by omega), byte_of _ l 1 (by omega), byte_of _ l 2 (by omega)]
    · rw [e]; dsimp only
      refine ⟨by omega, ?_, by omega⟩
      unfold enc Lib.encodeRune
      rw [Lib.encodeRuneZ_four (by omega) (by omega), Lib.takeD l c2]
      simp only [List.map_cons, List.map_nil]
      rw [byte_of _ l 0 (by omega), byte_of _ l 1 (by omega), byte_of _ l 2 (by omega), byte_of _ l 3 (by omega)]
    · rw [e] at h; exact absurd h (by decide)
  refine ⟨key.1, hne, ?_, ?_⟩
  · rw [key.2.1, List.length_take]; omega
  · rw [key.2.1, List.take_append_drop]

theorem at_cons0 (a : UInt8) (l : List UInt8) : at_ (a :: l) 0 = a.toNat := rfl
theorem at_cons (a : UInt8) (l : List UInt8) (i : Nat) : at_ (a :: l) (i + 1) = at_ l i := rfl
theorem byte_nat (z : Int) (h0 : 0 ≤ z) (h1 : z < 256) : z.toNat.toUInt8.toNat = z.toNat := u8 z.toNat (by omega)

/-- A sign's bytes are read as that sign, whatever stands behind. -/
theorem dec_enc (n : Int) (hn : sgn n = true) (r : List UInt8) : dec (enc n ++ r) = (n, (enc n).length) := by
  rw [sgn_iff] at hn
  unfold enc Lib.encodeRune
  by_cases c1 : n ≤ 127
  · rw [Lib.encodeRuneZ_one hn.1 c1]
    simp only [List.map_cons, List.map_nil, List.cons_append, List.nil_append, List.length_cons, List.length_nil]
    have e : Lib.decodeN (n.toNat.toUInt8 :: r).length (at_ (n.toNat.toUInt8 :: r) 0) (at_ (n.toNat.toUInt8 :: r) 1) (at_ (n.toNat.toUInt8 :: r) 2) (at_ (n.toNat.toUInt8 :: r) 3) = (n.toNat, 1) := by
      rw [at_cons0, byte_nat n (by omega) (by omega)]
      unfold Lib.decodeN; rw [if_pos (by omega)]
    rw [dec_pos (by simp) e (by omega)]
    exact Prod.ext (show ((n.toNat : Nat) : Int) = n by omega) rfl
  by_cases c2 : n ≤ 2047
  · rw [Lib.encodeRuneZ_two (by omega) c2]
    simp only [List.map_cons, List.map_nil, List.cons_append, List.nil_append, List.length_cons, List.length_nil]
    generalize hx : (192 + n / 64 : Int) = x
    generalize hy : (128 + n % 64 : Int) = y
    have e : Lib.decodeN (x.toNat.toUInt8 :: y.toNat.toUInt8 :: r).length (at_ (x.toNat.toUInt8 :: y.toNat.toUInt8 :: r) 0) (at_ (x.toNat.toUInt8 :: y.toNat.toUInt8 :: r) 1) (at_ (x.toNat.toUInt8 :: y.toNat.toUInt8 :: r) 2) (at_ (x.toNat.toUInt8 :: y.toNat.toUInt8 :: r) 3) = (n.toNat, 2) := by
      rw [at_cons0, at_cons, at_cons0, byte_nat x (by omega) (by omega), byte_nat y (by omega) (by omega)]
      simp only [List.length_cons]
      unfold Lib.decodeN
      rw [if_neg (by omega), if_pos (by omega), if_pos (by omega)]
      simp only [Prod.mk.injEq, and_true]; omega
    rw [dec_pos (by simp) e (by omega)]
    exact Prod.ext (show ((n.toNat : Nat) : Int) = n by omega) rfl
  by_cases c3 : n ≤ 65535
  · rw [Lib.encodeRuneZ_three (by omega)]
    simp only [List.map_cons, List.map_nil, List.cons_append, List.nil_append, List.length_cons, List.length_nil]
    generalize hx : (224 + n / 4096 : Int) = x
    generalize hy : (128 + n / 64 % 64 : Int) = y
    generalize hz : (128 + n % 64 : Int) = z
    have e : Lib.decodeN (x.toNat.toUInt8 :: y.toNat.toUInt8 :: z.toNat.toUInt8 :: r).length (at_ (x.toNat.toUInt8 :: y.toNat.toUInt8 :: z.toNat.toUInt8 :: r) 0) (at_ (x.toNat.toUInt8 :: y.toNat.toUInt8 :: z.toNat.toUInt8 :: r) 1) (at_ (x.toNat.toUInt8 :: y.toNat.toUInt8 :: z.toNat.toUInt8 :: r) 2) (at_ (x.toNat.toUInt8 :: y.toNat.toUInt8 :: z.toNat.toUInt8 :: r) 3) = (n.toNat, 3) := by
      rw [at_cons0, at_cons, at_cons0, at_cons, at_cons, at_cons0, byte_nat x (by omega) (by omega), byte_nat y (by omega) (by omega), byte_nat z (by omega) (by omega)]
      simp only [List.length_cons]
      unfold Lib.decodeN
      rw [if_neg (by omega), if_neg (by omega), if_pos (by omega), if_pos (by omega)]
      simp only [Prod.mk.injEq, and_true]; omega
    rw [dec_pos (by simp) e (by omega)]
    exact Prod.ext (show ((n.toNat : Nat) : Int) = n by omega) rfl
  · rw [Lib.encodeRuneZ_four (by omega) (by omega)]
    simp only [List.map_cons, List.map_nil, List.cons_append, List.nil_append, List.length_cons, List.length_nil]
    generalize hx : (240 + n / 262144 : Int) = x
    generalize hy : (128 + n / 4096 % 64 : Int) = y
    generalize hz : (128 + n / 64 % 64 : Int) = z
    generalize hu : (128 + n % 64 : Int) = u
    have e : Lib.decodeN (x.toNat.toUInt8 :: y.toNat.toUInt8 :: z.toNat.toUInt8 :: u.toNat.toUInt8 :: r).length (at_ (x.toNat.toUInt8 :: y.toNat.toUInt8 :: z.toNat.toUInt8 :: u.toNat.toUInt8 :: r) 0) (at_ (x.toNat.toUInt8 :: y.toNat.toUInt8 :: z.toNat.toUInt8 :: u.toNat.toUInt8 :: r) 1) (at_ (x.toNat.toUInt8 :: y.toNat.toUInt8 :: z.toNat.toUInt8 :: u.toNat.toUInt8 :: r) 2) (at_ (x.toNat.toUInt8 :: y.toNat.toUInt8 :: z.toNat.toUInt8 :: u.toNat.toUInt8 :: r) 3) = (n.toNat, 4) := by
      rw [at_cons0, at_cons, at_cons0, at_cons, at_cons, at_cons0, at_cons, at_cons, at_cons, at_cons0, byte_nat x (by omega) (by omega), byte_nat y (by omega) (by omega), byte_nat z (by omega) (by omega), byte_nat u (by omega) (by omega)]
      simp only [List.length_cons]
      unfold Lib.decodeN
      rw [if_neg (by omega), if_neg (by omega), if_neg (by omega), if_pos (by omega), if_pos (by omega)]
      simp only [Prod.mk.injEq, and_true]; omega
    rw [dec_pos (by simp) e (by omega)]
    exact Prod.ext (show ((n.toNat : Nat) : Int) = n by omega) rfl
end Go.Proofs.YtmkdjgmdfhagfaaGreatDoor.Utf

/- Quoted texts by definition: what their beginnings mean, and that what is put in double quotes is read; plain laws, no conditions. -/
namespace Go.Proofs.YtmkdjgmdfhagfaaGreatDoor.Utf
/-- May a sign stand in quotes as it is? -/
def may (n : Int) : Bool := prt n && n != 9 && n != 10 && n != 13

/-- The signs of a text, if all of it is signs. -/
def signsF : Nat → List UInt8 → Option (List Int)
  | 0, _ => some []
  | k + 1, l => if l = [] then some [] else if (dec l).1 < 0 then none else (signsF k (l.drop (dec l).2)).map ((dec l).1 :: ·)
def signs (l : List UInt8) : Option (List Int) := signsF l.length l

def hexc (n : Nat) : UInt8 := UInt8.ofNat (if n < 10 then 48 + n else 87 + n)
def hexs (n : Nat) : Nat → List UInt8
  | 0 => []
  | m + 1 => hexs (n / 16) m ++ [hexc (n % 16)]

/-- A sign as it stands in double quotes. -/
def escS (n : Int) : List UInt8 :=
  if n = 34 then [92, 34] else if n = 92 then [92, 92] else if n = 9 then [92, 116] else if n = 10 then [92, 110] else if n = 13 then [92, 114] else if n = 0 then [92, 48] else
  if may n = true then enc n else if n < 256 then 92 :: 120 :: hexs n.toNat 2 else if n < 65536 then 92 :: 117 :: hexs n.toNat 4 else 92 :: 85 :: hexs n.toNat 8

def hexv (c : Nat) : Int := if 48 ≤ c ∧ c ≤ 57 then (c : Int) - 48 else if 97 ≤ c ∧ c ≤ 102 then (c : Int) - 87 else if 65 ≤ c ∧ c ≤ 70 then (c : Int) - 55 else -1

/-- The number of so many digits, and the error. -/
def digs : Nat → List UInt8 → Int → Int × Int
  | 0, _, n => (n, 0)
  | _ + 1, [], _ => (0, 4)
  | m + 1, c :: t, n => if hexv c.toNat < 0 then (0, 3) else digs m t (n * 16 + hexv c.toNat)

def hexE (l : List UInt8) (m : Nat) : Int × Nat × Int :=
  if (digs m (l.drop 2) 0).2 ≠ 0 then (0, 0, (digs m (l.drop 2) 0).2) else if sgn (digs m (l.drop 2) 0).1 = true then ((digs m (l.drop 2) 0).1, 2 + m, 0) else (0, 0, 3)

/-- An escape's sign, how many bytes it has, and the error. -/
def escB (l : List UInt8) : Int × Nat × Int :=
  if l.length < 2 then (0, 0, 4) else
  if at_ l 1 = 34 ∨ at_ l 1 = 92 then ((at_ l 1 : Int), 2, 0) else if at_ l 1 = 110 then (10, 2, 0) else if at_ l 1 = 116 then (9, 2, 0) else if at_ l 1 = 114 then (13, 2, 0) else
  if at_ l 1 = 48 then (0, 2, 0) else if at_ l 1 = 120 then hexE l 2 else if at_ l 1 = 117 then hexE l 4 else if at_ l 1 = 85 then hexE l 8 else (0, 0, 3)

/-- What the next bytes of a quoted text mean, how many they are (0: it ends there), and the error. -/
def oneB (l : List UInt8) (q : Nat) : List UInt8 × Nat × Int :=
  if at_ l 0 = q then (if q = 39 ∧ 1 < l.length ∧ at_ l 1 = 39 then ([39], 2, 0) else ([], 0, 0)) else
  if q = 34 ∧ at_ l 0 = 92 then (if (escB l).2.2 ≠ 0 then ([], 0, (escB l).2.2) else (enc (escB l).1, (escB l).2.1, 0)) else
  if may (dec l).1 = true then (l.take (dec l).2, (dec l).2, 0) else ([], 0, 8)

/-- What stands from a place on, behind what was read: the text, how many bytes, the error and its place. -/
def readF : Nat → List UInt8 → Nat → Nat → List UInt8 → List UInt8 × Nat × Int × Nat
  | 0, _, _, i, _ => ([], 0, 4, i)
  | k + 1, l, q, i, acc => if l = [] then ([], 0, 4, i) else
    if (oneB l q).2.2 = 4 then ([], 0, 4, i + l.length) else if (oneB l q).2.2 ≠ 0 then ([], 0, (oneB l q).2.2, i) else
    if (oneB l q).2.1 = 0 then (acc, i + 1, 0, 0) else readF k (l.drop (oneB l q).2.1) q (i + (oneB l q).2.1) (acc ++ (oneB l q).1)
def readB (s : List UInt8) : List UInt8 × Nat × Int × Nat :=
  if s = [] ∨ (at_ s 0 ≠ 39 ∧ at_ s 0 ≠ 34) then ([], 0, 3, 0) else readF s.length (s.drop 1) (at_ s 0) 1 []

def doubleB (zs : List Int) : List UInt8 := 34 :: (zs.flatMap escS ++ [34])

theorem may_sgn {n : Int} (h : may n = true) : sgn n = true := by
  unfold may prt at h; rw [sgn_iff]; simp at h; omega
theorem enc_ne {n : Int} : enc n ≠ [] := by
  intro h; have := (Lib.encodeRuneZ_length n).1; unfold enc Lib.encodeRune at h
  rw [List.map_eq_nil_iff] at h; rw [h] at this; simp at this
theorem enc_len (n : Int) : 1 ≤ (enc n).length ∧ (enc n).length ≤ 4 := by
  have := Lib.encodeRuneZ_length n; unfold enc Lib.encodeRune; rw [List.length_map]; exact this

theorem dec_len (l : List UInt8) (h : l ≠ []) : 1 ≤ (dec l).2 ∧ (dec l).2 ≤ l.length := by
  have hl : 0 < l.length := List.length_pos_iff.2 h
  rcases dec_shape l h with ⟨c, e⟩ | ⟨c1, c2, c3, cv, e⟩ | ⟨c1, c2, c3, c4, cv, cs, e⟩ | ⟨c1, c2, c3, c4, c5, cv, cw, e⟩ | e <;> rw [e] <;> dsimp only <;> omega

/-- All of a text is signs: it is the bytes of these. -/
theorem signsF_some : ∀ (k : Nat) (l : List UInt8) (zs : List Int), l.length ≤ k → signsF k l = some zs → l = zs.flatMap enc ∧ ∀ z ∈ zs, sgn z = true
  | 0, l, zs, hk, h => by
    have : l = [] := List.eq_nil_of_length_eq_zero (by omega)
    subst this; cases Option.some.inj h; exact ⟨rfl, by simp⟩
  | k + 1, l, zs, hk, h => by
    unfold signsF at h
    by_cases hn : l = []
    · rw [if_pos hn] at h; cases Option.some.inj h; exact ⟨by simpa using hn, by simp⟩
    rw [if_neg hn] at h
    by_cases hd : (dec l).1 < 0
    · rw [if_pos hd] at h; cases h
    rw [if_neg hd] at h
    obtain ⟨ys, hy, rfl⟩ := Option.map_eq_some_iff.1 h
    have hw := dec_len l hn
    obtain ⟨e1, e2⟩ := signsF_some k _ ys (by rw [List.length_drop]; omega) hy
    obtain ⟨s1, _, _, s4⟩ := enc_dec l (by omega)
    refine ⟨?_, ?_⟩
    · rw [List.flatMap_cons, ← e1, s4]
    · intro z hz; rcases List.mem_cons.1 hz with rfl | hz
      · exact s1
      · exact e2 z hz
theorem signs_some {l : List UInt8} {zs : List Int} (h : signs l = some zs) : l = zs.flatMap enc ∧ ∀ z ∈ zs, sgn z = true := signsF_some _ _ _ (Nat.le_refl _) h

theorem signsF_of : ∀ (zs : List Int) (k : Nat), (∀ z ∈ zs, sgn z = true) → (zs.flatMap enc).length ≤ k → signsF k (zs.flatMap enc) = some zs
  | [], k, _, _ => by cases k <;> simp [signsF]
  | z :: zs, k, h, hk => by
    have h1 := enc_len z
    rw [List.flatMap_cons] at hk ⊢
    rw [List.length_append] at hk
    obtain ⟨k, rfl⟩ : ∃ m, k = m + 1 := ⟨k - 1, by omega⟩
    have hz := h z (by simp)
    have hp := ((sgn_iff z).1 hz).1
    have hne : ¬ enc z ++ zs.flatMap enc = [] := by simp [enc_ne]
    unfold signsF
    rw [if_neg hne, dec_enc z hz]
    dsimp only
    rw [if_neg (by omega), List.drop_left, signsF_of zs k (fun x hx => h x (by simp [hx])) (by omega)]
    rfl
theorem signs_of (zs : List Int) (h : ∀ z ∈ zs, sgn z = true) : signs (zs.flatMap enc) = some zs := signsF_of zs _ h (Nat.le_refl _)

theorem hexv_hexc : ∀ n, n < 16 → hexv (hexc n).toNat = (n : Int) := by decide
theorem hexs_len : ∀ (m n : Nat), (hexs n m).length = m
  | 0, _ => rfl
  | m + 1, n => by simp [hexs, hexs_len m]
theorem digs_hexs : ∀ (m n : Nat) (r : List UInt8) (a : Int), digs m (hexs n m ++ r) a = (a * 16 ^ m + (n % 16 ^ m : Nat), 0)
  | 0, n, r, a => by simp [digs, Nat.mod_one]
  | m + 1, n, r, a => by
    have step : ∀ (k : Nat) (c : Nat) (l : List UInt8) (b : Int), c < 16 → digs (k + 1) (hexc c :: l) b = digs k l (b * 16 + c) := by
      intro k c l b hc
      show (if hexv (hexc c).toNat < 0 then ((0 : Int), (3 : Int)) else digs k l (b * 16 + hexv (hexc c).toNat)) = _
      rw [hexv_hexc c hc, if_neg (by omega)]
    -- digits from the left
    have gen : ∀ (m n : Nat) (t : Nat) (r : List UInt8) (a : Int), digs (m + t) (hexs n m ++ r) a = digs t r (a * 16 ^ m + (n % 16 ^ m : Nat)) := by
      intro m
      induction m with
      | zero => intro n t r a; simp [hexs, Nat.mod_one]
      | succ m ih =>
        intro n t r a
        rw [hexs, List.append_assoc, show m + 1 + t = m + (t + 1) by omega, ih, List.singleton_append, step _ _ _ _ (by omega)]
        congr 1
        have h1 : n % 16 ^ (m + 1) = (n / 16) % 16 ^ m * 16 + n % 16 := by
          rw [Nat.pow_succ, Nat.mul_comm (16 ^ m) 16, Nat.mod_mul]; omega
        rw [h1, Int.pow_succ]
        push_cast
        rw [Int.add_mul, Int.mul_assoc, Int.add_assoc]
    rw [← Nat.add_zero (m + 1), gen]; simp only [Nat.add_zero]; unfold digs; rfl
theorem drop_cons2 (a b : UInt8) (l : List UInt8) : (a :: b :: l).drop 2 = l := rfl

theorem sgn_nat {n : Int} (h : sgn n = true) : 0 ≤ n ∧ n ≤ 1114111 := by rw [sgn_iff] at h; omega

theorem hexE_hexs (a b : UInt8) (m : Nat) (n : Int) (r : List UInt8) (hn : sgn n = true) (h : n < 16 ^ m) : hexE (a :: b :: (hexs n.toNat m ++ r)) m = (n, 2 + m, 0) := by
  have h0 := (sgn_nat hn).1
  have e := digs_hexs m n.toNat r 0
  have e2 : (0 : Int) * 16 ^ m + ((n.toNat % 16 ^ m : Nat) : Int) = n := by
    rw [Int.zero_mul, Int.zero_add, Nat.mod_eq_of_lt]
    · omega
    · have : ((n.toNat : Nat) : Int) < ((16 ^ m : Nat) : Int) := by push_cast; omega
      exact Int.ofNat_lt.1 this
  rw [e2] at e
  unfold hexE
  rw [drop_cons2, e]
  simp [hn]

/-- What a sign is put as in double quotes is read as that sign. -/
theorem one_escS (n : Int) (hn : sgn n = true) (r : List UInt8) : oneB (escS n ++ r) 34 = (enc n, (escS n).length, 0) := by
  have hb := sgn_nat hn
  have short : ∀ (c : UInt8) (v : Int), (escB (92 :: c :: r)) = (v, 2, 0) → oneB (92 :: c :: r) 34 = (enc v, 2, 0) := by
    intro c v h
    unfold oneB
    rw [if_neg (show ¬ at_ (92 :: c :: r) 0 = 34 by exact (by decide : ¬ (92 : UInt8).toNat = 34)), if_pos ⟨rfl, rfl⟩, h]; rfl
  have long : ∀ (c : UInt8) (m : Nat), (escB (92 :: c :: (hexs n.toNat m ++ r))) = (n, 2 + m, 0) → oneB (92 :: c :: (hexs n.toNat m ++ r)) 34 = (enc n, 2 + m, 0) := by
    intro c m h
    unfold oneB
    rw [if_neg (show ¬ at_ (92 :: c :: (hexs n.toNat m ++ r)) 0 = 34 by exact (by decide : ¬ (92 : UInt8).toNat = 34)), if_pos ⟨rfl, rfl⟩, h]; rfl
  have two : ∀ (c : UInt8) (t : List UInt8), ¬ (92 :: c :: t).length < 2 := by intro c t; simp
  unfold escS
  by_cases c1 : n = 34
  · subst c1; exact short 34 34 (by unfold escB; rw [if_neg (two _ _), if_pos (.inl rfl)]; rfl)
  by_cases c2 : n = 92
  · subst c2; exact short 92 92 (by unfold escB; rw [if_neg (two _ _), if_pos (.inr rfl)]; rfl)
  by_cases c3 : n = 9
  · subst c3; exact short 116 9 (by unfold escB; rw [if_neg (two _ _)]; rfl)
  by_cases c4 : n = 10
  · subst c4; exact short 110 10 (by unfold escB; rw [if_neg (two _ _)]; rfl)
  by_cases c5 : n = 13
  · subst c5; exact short 114 13 (by unfold escB; rw [if_neg (two _ _)]; rfl)
  by_cases c6 : n = 0
  · subst c6; exact short 48 0 (by unfold escB; rw [if_neg (two _ _)]; rfl)
  rw [if_neg c1, if_neg c2, if_neg c3, if_neg c4, if_neg c5, if_neg c6]
  by_cases hm : may n = true
  · rw [if_pos hm]
    have hd := dec_enc n hn r
    have h0 : (at_ (enc n ++ r) 0 : Int) = n ∨ 128 ≤ at_ (enc n ++ r) 0 := by
      rcases dec_shape (enc n ++ r) (by simp [enc_ne]) with ⟨c, e⟩ | ⟨c, _⟩ | ⟨c, _⟩ | ⟨c, _⟩ | e
      · rw [hd] at e; exact .inl (Prod.mk.inj e).1.symm
      · right; omega
      · right; omega
      · right; omega
      · rw [hd] at e; have := (Prod.mk.inj e).1; omega
    unfold oneB
    rw [if_neg (by omega), if_neg (by omega), hd]
    dsimp only
    rw [if_pos hm, List.take_left]
  rw [if_neg hm]
  have hl := fun m => hexs_len m n.toNat
  by_cases c7 : n < 256
  · rw [if_pos c7, List.cons_append, List.cons_append, long 120 2 (by unfold escB; rw [if_neg (two _ _)]; exact hexE_hexs _ _ 2 n r hn (by omega))]
    simp [hl]
  rw [if_neg c7]
  by_cases c8 : n < 65536
  · rw [if_pos c8, List.cons_append, List.cons_append, long 117 4 (by unfold escB; rw [if_neg (two _ _)]; exact hexE_hexs _ _ 4 n r hn (by omega))]
    simp [hl]
  · rw [if_neg c8, List.cons_append, List.cons_append, long 85 8 (by unfold escB; rw [if_neg (two _ _)]; exact hexE_hexs _ _ 8 n r hn (by omega))]
    simp [hl]

theorem escS_ne (n : Int) : escS n ≠ [] := by
  unfold escS
  repeat' split
  all_goals simp [enc_ne]

/-- Reading on over what signs are put as in double quotes. -/
theorem readF_escs : ∀ (zs : List Int) (k i : Nat) (acc r : List UInt8), (∀ z ∈ zs, sgn z = true) → (zs.flatMap escS ++ r).length ≤ k →
    ∃ k', r.length ≤ k' ∧ readF k (zs.flatMap escS ++ r) 34 i acc = readF k' r 34 (i + (zs.flatMap escS).length) (acc ++ zs.flatMap enc)
  | [], k, i, acc, r, _, hk => ⟨k, by simpa using hk, by simp⟩
  | z :: zs, k, i, acc, r, h, hk => by
    have hz := h z (by simp)
    have hne := escS_ne z
    have hl : 0 < (escS z).length := List.length_pos_iff.2 hne
    rw [List.flatMap_cons, List.append_assoc] at hk ⊢
    rw [List.length_append] at hk
    obtain ⟨k, rfl⟩ : ∃ m, k = m + 1 := ⟨k - 1, by omega⟩
    have ho := one_escS z hz (zs.flatMap escS ++ r)
    obtain ⟨k', h1, h2⟩ := readF_escs zs k (i + (escS z).length) (acc ++ enc z) r (fun x hx => h x (by simp [hx])) (by omega)
    refine ⟨k', h1, ?_⟩
    rw [show readF (k + 1) (escS z ++ (zs.flatMap escS ++ r)) 34 i acc = readF k (zs.flatMap escS ++ r) 34 (i + (escS z).length) (acc ++ enc z) from ?_, h2]
    · rw [List.flatMap_cons, List.length_append, List.append_assoc, Nat.add_assoc]
    · rw [readF, if_neg (by simp [hne]), ho]
      dsimp only
      rw [if_neg (by omega), if_neg (by omega), if_neg (by omega), List.drop_left]

theorem readF_end (k : Nat) (q i : Nat) (acc r : List UInt8) (c : UInt8) (hc : c.toNat = q) (hr : q = 39 → at_ r 0 ≠ 39) (hk : 0 < k) : readF k (c :: r) q i acc = (acc, i + 1, 0, 0) := by
  obtain ⟨k, rfl⟩ : ∃ m, k = m + 1 := ⟨k - 1, by omega⟩
  have ho : oneB (c :: r) q = ([], 0, 0) := by
    unfold oneB
    rw [if_pos (by rw [at_cons0]; exact hc), if_neg]
    rintro ⟨h1, _, h3⟩
    exact hr h1 h3
  rw [readF, if_neg (by simp), ho]
  rfl

theorem doubleB_len (zs : List Int) : (doubleB zs).length = 2 + (zs.flatMap escS).length := by
  unfold doubleB; simp; omega

/-- What is put in double quotes is read, whatever stands behind. -/
theorem read_double (zs : List Int) (h : ∀ z ∈ zs, sgn z = true) (r : List UInt8) : readB (doubleB zs ++ r) = (zs.flatMap enc, (doubleB zs).length, 0, 0) := by
  unfold readB
  rw [doubleB_len]
  unfold doubleB
  rw [if_neg (by
    rintro (h | ⟨_, h⟩)
    · simp at h
    · exact h rfl)]
  rw [List.cons_append, List.append_assoc, at_cons0, List.drop_one, List.tail_cons]
  obtain ⟨k', h1, h2⟩ := readF_escs zs (34 :: (zs.flatMap escS ++ ([34] ++ r))).length 1 [] ([34] ++ r) h (by simp)
  rw [show ((34 : UInt8).toNat) = 34 from rfl, h2, List.singleton_append, readF_end k' 34 _ _ r 34 rfl (fun e => by cases e) (by rw [List.singleton_append, List.length_cons] at h1; omega)]
  simp; omega
end Go.Proofs.YtmkdjgmdfhagfaaGreatDoor.Utf

/- Signs put down (utf.Encode), by hand, in the form in which the printed functions are told. Conditions: the text fits in memory. -/
namespace Go.Proofs.YtmkdjgmdfhagfaaGreatDoor.Plug
open Go.RowKit Go.Proofs.YtmkdjgmdfhagfaaGreatDoor Go.Proofs.YtmkdjgmdfhagfaaGreatDoor.PX Go.Proofs.YtmkdjgmdfhagfaaGreatDoor.Utf Go.Proofs.YtmkdjgmdfhagfaaGreatDoorW.PrintWords Go.Proofs.YtmkdjgmdfhagfaaGreatDoorW.PrintLast

def encB : List Int → List UInt8 → List UInt8 × Int
  | [], acc => (acc, 0)
  | n :: r, acc => if sgn n = true then encB r (acc ++ enc n) else ([], 8)

theorem rd_at (l : List Int) (i : Nat) (h : i < l.length) : rd l (i : Int) = l[i] := by
  unfold rd; rw [Int.toNat_natCast, List.getD_eq_getElem?_getD, List.getElem?_eq_getElem h]; rfl

theorem enc_cells (n : Int) : Lib.byteCells (enc n) = Lib.runeCells n := Lib.byteCells_encodeRune n

def utf_Encode.f (a0 : List Int) : Option (ByteArray × Int) := if 4 * a0.length ≤ 140737488351232 then some (⟨(encB a0 []).1.toArray⟩, (encB a0 []).2) else none

set_option maxHeartbeats 2000000 in
theorem utf_Encode.calls (A0 : Option Addr) (c0 : Nat) (l0 : List Int) (r1 : ByteArray) (r2 : Int) (w : World) (hr0 : Kd.C (Kd.int .i64) w A0 l0.length l0) (_hc0 : l0.length ≤ c0) (_hG : Glob.G w) (h : utf_Encode.f l0 = some (r1, r2)) :
    Calls Tryz.prog 98 #[.slice A0 l0.length c0] w fun e w' => e = .returned (.tuple #[.string r1, .int .i64 r2]) ∧ Below w.heap.size w w' := by
  unfold utf_Encode.f at h
  by_cases hs : 4 * l0.length ≤ 140737488351232
  · rw [if_pos hs] at h
    obtain ⟨rfl, rfl⟩ := Prod.mk.inj (Option.some.inj h)
    clear h
    go_enter Tryz.func98, Tryz.ntmps98
    go_wp2
    go_loopw [9] (fun v9 wr => ∃ (i : Nat) (acc : List UInt8), v9 = .int .i64 i ∧ i ≤ l0.length ∧ acc.length ≤ 4 * i ∧ Hid (encB (l0.drop i) acc = encB l0 []) ∧ Lib.IsBuilderF 63 5 w.heap.size w.heap.size (Lib.byteCells acc) wr ∧ Below w.heap.size w wr) (fun v9 _ => l0.length - (intOf v9).toNat)
    case atStart => exact ⟨0, [], rfl, by omega, by simp, Lib.hid rfl, Lib.IsBuilderF.of (Lib.fresh_isBuilder 63 5 w), (Below.refl _ w).alloc (Nat.le_refl _) _⟩
    case round =>
      obtain ⟨i, acc, rfl, hi, hal, hst, hI, hb⟩ := hrel
      by_cases hlt : i < l0.length
      · have hdrop : l0.drop i = l0[i] :: l0.drop (i + 1) := List.drop_eq_getElem_cons hlt
        have hst2 := hst.out
        rw [hdrop] at hst2
        have hc : decide ((i : Int) < (l0.length : Int)) = true := by simp; omega
        obtain ⟨ad, rfl, hx⟩ := Kd.at_int hr0 (i : Int) (by omega) (by omega)
        rw [rd_at l0 i hlt, Int.toNat_natCast] at hx
        replace hx := (hb.cell (World.block_lt_of_cell? w _ hx)).trans hx
        have p1 : (0 ≤ (i : Int)) = True := eq_true (by omega)
        have p2 : ((i : Int) < (l0.length : Int)) = True := eq_true (by omega)
        generalize l0[i] = x at *
        by_cases hsg : sgn x = true
        · have hq := (sgn_iff x).1 hsg
          have hel := enc_len x
          rw [show encB (x :: l0.drop (i + 1)) acc = encB (l0.drop (i + 1)) (acc ++ enc x) by rw [encB, if_pos hsg]] at hst2
          have HN := Lib.hid hst2
          have HQ := Lib.hid hq
          obtain ⟨q0, q1, q2⟩ := hq
          have hv : Lib.validRune x = true := by unfold Lib.validRune; rw [decide_eq_true_iff]; omega
          clear hst hst2 hdrop hsg q2
          go_wp2_with (first | (go_at_call 122; refine (Tryz.utf8_ValidRune _ _).mono ?_; rw [hv]; rintro e w1 ⟨rfl, rfl⟩) | (go_at_call 60; refine (Bld.sign 63 Bld.lies_plain w.heap.size w.heap.size _ x HQ.out _ hI (by rw [Lib.byteCells_length]; omega) hb.size).mono ?_; rintro e w2 ⟨rfl, h1, b1, k1⟩))
          go_roundw
          case rel => exact ⟨i + 1, acc ++ enc x, by go_num, by omega, by rw [List.length_append]; omega, Lib.hid HN.out, by rw [Lib.byteCells_append, enc_cells]; exact Or.inr h1, hb.trans b1⟩
          case measure => simp [intOf]; omega
        · rw [show encB (x :: l0.drop (i + 1)) acc = ([], 8) by rw [encB, if_neg hsg]] at hst2
          have HN := Lib.hid hst2
          have hns : ¬ (0 ≤ x ∧ x ≤ 1114111 ∧ (x < 55296 ∨ 57343 < x)) := fun e => hsg ((sgn_iff x).2 e)
          clear hst hst2 hdrop hsg
          by_cases z0 : x < 0
          · clear hns
            go_wp2_with (fail)
            go_ret2
            exact ⟨by rw [← HN.out]; rfl, hb⟩
          · by_cases z1 : 1114111 < x
            · clear hns
              go_wp2_with (fail)
              go_ret2
              exact ⟨by rw [← HN.out]; rfl, hb⟩
            · have hv : Lib.validRune x = false := by unfold Lib.validRune; rw [decide_eq_false_iff_not]; omega
              clear hns
              go_wp2_with (first | (go_at_call 122; refine (Tryz.utf8_ValidRune _ _).mono ?_; rw [hv]; rintro e w1 ⟨rfl, rfl⟩))
              go_ret2
              exact ⟨by rw [← HN.out]; rfl, hb⟩
      · have hc : decide ((i : Int) < (l0.length : Int)) = false := by simp; omega
        have hst2 := hst.out
        rw [List.drop_of_length_le (by omega)] at hst2
        have HN : Hid ((acc, (0 : Int)) = encB l0 []) := Lib.hid hst2
        clear hst hst2
        go_wp2_with (go_at_call 32; refine (Bld.got _ _ _ acc _ hI hb.size).mono ?_; rintro e w2 ⟨rfl, b1⟩)
        go_ret2
        exact ⟨by rw [← HN.out]; rfl, hb.trans b1⟩
  · rw [if_neg hs] at h; cases h
end Go.Proofs.YtmkdjgmdfhagfaaGreatDoor.Plug

/- Hexadecimal digits: plain laws, no conditions. -/
namespace Go.Proofs.YtmkdjgmdfhagfaaGreatDoor.Utf

def hexAll (l : List UInt8) : Bool := l.all fun c => decide (0 ≤ hexv c.toNat)
def hexNum (l : List UInt8) (a : Int) : Int := l.foldl (fun a c => a * 16 + hexv c.toNat) a
theorem hexv_lt (c : Nat) : hexv c < 16 := by unfold hexv; split <;> (try split) <;> (try split) <;> omega

theorem digs_take : ∀ (m : Nat) (l : List UInt8) (a : Int), digs m l a = if hexAll (l.take m) = true then (if l.length < m then (0, 4) else (hexNum (l.take m) a, 0)) else (0, 3)
  | 0, l, a => by simp [digs, hexAll, hexNum]
  | m + 1, [], a => by simp [digs, hexAll]
  | m + 1, c :: t, a => by
    rw [digs, List.take_succ_cons]
    by_cases h : hexv c.toNat < 0
    · rw [if_pos h, if_neg]
      unfold hexAll; rw [List.all_cons, decide_eq_false (by omega)]; simp
    · rw [if_neg h, digs_take m t]
      have e : hexAll (c :: t.take m) = hexAll (t.take m) := by
        unfold hexAll; rw [List.all_cons, decide_eq_true (by omega), Bool.true_and]
      rw [e]
      by_cases d : t.length < m
      · rw [if_pos d, if_pos (show (c :: t).length < m + 1 by simp; omega)]
      · rw [if_neg d, if_neg (show ¬ (c :: t).length < m + 1 by simp; omega)]; rfl

def hexSet : List UInt8 := [48, 49, 50, 51, 52, 53, 54, 55, 56, 57, 97, 98, 99, 100, 101, 102, 65, 66, 67, 68, 69, 70]
set_option maxRecDepth 100000 in
theorem set_nat : ∀ n : Fin 256, hexSet.contains (UInt8.ofNat n.val) = decide (0 ≤ hexv n.val) := by decide +kernel
theorem set_hex (c : UInt8) : hexSet.contains c = decide (0 ≤ hexv c.toNat) := by
  have := set_nat ⟨c.toNat, c.toNat_lt⟩
  simp only [UInt8.ofNat_toNat] at this
  exact this

theorem dw_nil (p : UInt8 → Bool) : ∀ l : List UInt8, l.dropWhile p = [] ↔ ∀ x ∈ l, p x = true
  | [] => by simp
  | c :: t => by
    have ih := dw_nil p t
    cases h : p c with
    | true => simp [List.dropWhile, h, ih]
    | false => simp [List.dropWhile, h]
theorem tw_all (p : UInt8 → Bool) : ∀ l : List UInt8, ∀ x ∈ l.takeWhile p, p x = true
  | [], x, h => by simp at h
  | c :: t, x, h => by
    cases hc : p c with
    | true =>
      rw [List.takeWhile_cons, hc, if_pos rfl] at h
      rcases List.mem_cons.1 h with rfl | h
      · exact hc
      · exact tw_all p t x h
    | false => rw [List.takeWhile_cons, hc, if_neg (by decide)] at h; simp at h
theorem trim_none (l cs : List UInt8) : Lib.trimS l cs = [] ↔ ∀ x ∈ l, cs.contains x = true := by
  unfold Lib.trimS Lib.trimLeftS Lib.trimRightS
  rw [dw_nil]
  constructor
  · intro h x hx
    have hx2 : x ∈ l.reverse := by simpa using hx
    rw [← List.takeWhile_append_dropWhile (p := (cs.contains ·)) (l := l.reverse), List.mem_append] at hx2
    rcases hx2 with hx2 | hx2
    · exact tw_all _ _ x hx2
    · exact h x (by simpa using hx2)
  · intro h x hx
    rw [List.mem_reverse] at hx
    have := (List.dropWhile_sublist (l := l.reverse) (cs.contains ·)).subset hx
    exact h x (by simpa using this)
theorem trim_hex (l : List UInt8) : Lib.trimS l hexSet = [] ↔ hexAll l = true := by
  rw [trim_none]; unfold hexAll; rw [List.all_eq_true]
  constructor
  · intro h x hx; rw [← set_hex]; exact h x hx
  · intro h x hx; rw [set_hex]; exact h x hx

theorem num_range : ∀ (l : List UInt8) (a : Int), hexAll l = true → 0 ≤ a → 0 ≤ hexNum l a ∧ hexNum l a < (a + 1) * 16 ^ l.length
  | [], a, _, h => by simp [hexNum, h]; omega
  | c :: t, a, h, h0 => by
    unfold hexAll at h
    rw [List.all_cons, Bool.and_eq_true] at h
    have hc := of_decide_eq_true h.1
    have h15 := hexv_lt c.toNat
    obtain ⟨i1, i2⟩ := num_range t (a * 16 + hexv c.toNat) h.2 (by omega)
    refine ⟨i1, Int.lt_of_lt_of_le i2 ?_⟩
    rw [List.length_cons, Int.pow_succ, show (a + 1) * (16 ^ t.length * 16) = (a + 1) * 16 * 16 ^ t.length by rw [Int.mul_comm (16 ^ t.length) 16, Int.mul_assoc]]
    exact Int.mul_le_mul_of_nonneg_right (by omega) (Int.pow_nonneg (by omega))
end Go.Proofs.YtmkdjgmdfhagfaaGreatDoor.Utf
